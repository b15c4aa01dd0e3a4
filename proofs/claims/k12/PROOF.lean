import PyProof.Rows.All
import Wide.All
import OpenK.AllK
import Wide.FinOn
import HandS.ForMost
import HandS.ForExc
import HandS.Wide
import HandS.Evl
import HandS.IsInst
import HandS.ExcIs
import HandS.HotCalls
import HandS.EndBits
import HandS.Strs
import HandS.Flow
import HandS.Walk
import PySem.Challenge.RW_corebank_k12_whole_books_balance
import HandS.Ends
set_option Elab.async false
set_option linter.all false
set_option maxRecDepth 100000
set_option maxHeartbeats 4000000
namespace K12
section
/-! Our own rules beside the hand layer: a text times a number, an item of a list read for a store, a def called with the error that is handled. -/
open PySem PySem.Spec PyProof.Rows L2

/-! ### a text times a number -/
theorem glued_size (a : Array Nat) : ∀ (n : Nat) (acc : Array Nat), ((List.replicate n a).foldl (· ++ ·) acc).size = acc.size + n * a.size
  | 0, acc => by simp
  | n + 1, acc => by
    rw [List.replicate_succ, List.foldl_cons, glued_size a n (acc ++ a), Array.size_append, Nat.succ_mul]
    omega
/-- a text times a small number: some text, not too long -/
def rTimes : R2 := fun x y H Q => ∃ (z : Str) (k : Int), x = .str z ∧ y = .int k ∧ 0 ≤ k ∧ k ≤ 1000 ∧ z.length ≤ 1000 ∧ ∀ r : Str, r.length ≤ z.length * k.toNat → Q (.str r) H
theorem op_times {X : Cx} : OpR X (binaryOp .Mult) rTimes := by
  intro pins s σ H x y v u Q I rx ry h
  obtain ⟨z, k, rfl, rfl, h0, h1, h2, q⟩ := h
  obtain ⟨t, rfl⟩ := rx
  obtain ⟨t', rfl⟩ := ry
  have hm : z.length * k.toNat ≤ 1000 * 1000 := Nat.mul_le_mul h2 (by omega)
  have hsz : (16777216 : Nat) = sizeLine := sizeLine_eq.symm
  refine PySem.P.mul_str ?_ (fun hn hh => ?_) (fun hn hh => ?_) ?_
  · have e1 : decide (k < -(2 ^ 63 : Int)) = false := decide_eq_false (by omega)
    have e2 : decide (k ≥ 2 ^ 63) = false := decide_eq_false (by omega)
    rw [e1, e2, Bool.or_false]
  · intro hc
    have hk : 0 < k := by omega
    have hp : (z.length : Int) * k ≤ 1000 * 1000 := Int.mul_le_mul (by omega) h1 h0 (by omega)
    have e := Int.le_ediv_of_mul_le hk (show (z.length : Int) * k ≤ 2 ^ 63 - 1 by omega)
    omega
  · unfold Builtin.Str.tooLong
    exact decide_eq_false (by omega)
  · by_cases c1 : k < 1
    · rw [if_pos c1]
      exact ⟨by decide, .str Str.empty, H, I.tok _, ⟨_, rfl⟩, q _ (Nat.zero_le _)⟩
    · rw [if_neg c1]
      by_cases c2 : (k == 1 || z.length == 0) = true
      · rw [if_pos c2]
        refine ⟨.str z, H, I, ⟨_, rfl⟩, q _ ?_⟩
        have hk : 1 ≤ k.toNat := by omega
        exact Nat.le_mul_of_pos_right _ hk
      · rw [if_neg c2]
        have e : (⟨(List.replicate k.toNat z.cps).foldl (· ++ ·) #[]⟩ : Str).length = z.length * k.toNat := by
          show ((List.replicate k.toNat z.cps).foldl (· ++ ·) #[]).size = z.cps.size * k.toNat
          rw [glued_size, Nat.mul_comm]
          simp
        exact ⟨by rw [e]; omega, .str _, H, I.tok _, ⟨_, rfl⟩, q _ (Nat.le_of_eq e)⟩

/-! ### xs[i] read, for xs[i] += e -/
def rGetL (K : PySem.W.Frag) : V → V → Hp → VK → Prop := fun o i H Q => ∃ (p : Addr) (xs : List V) (j : Nat) (v : V), o = .ref p ∧ i = .int (j : Int) ∧ SqL K H p xs ∧ xs[j]? = some v ∧ Q v H
theorem get_list {X : Cx} : PGet X (rGetL X.K) := by
  intro pins s σ H o i ov iv Q I ro ri h
  obtain ⟨p, xs, j, v, rfl, rfl, hq, hv, q⟩ := h
  cases ro
  obtain ⟨t, rfl⟩ := ri
  obtain ⟨its, r, pl, hz⟩ := I.list hq
  obtain ⟨u, hu, ru⟩ := r.get hv
  have hl := r.length
  have hj : j < its.length := (List.getElem?_eq_some_iff.mp hu).1
  have hsz : (16777216 : Nat) = sizeLine := sizeLine_eq.symm
  exact wpAny_getItem_list (x := u) pl.isList (by omega) (by omega) (by simpa using hu) ⟨v, H, I, ru, q⟩

/-! ### a def called within an except suite, one of whose arguments is the error that is handled: its body runs with that error pinned -/
/-- the body of the def st at f, called while p is handled, keeps the promise sp -/
def HotBody (P : Program) (w : World) (K : PySem.W.Frag) (mg : Str → Option Value) (base : Heap) (k : Nat) (f : Addr) (qual : Str) (st : Stmt) (N : List Str) (p : Addr × Obj) (sp : Sp) : Prop :=
  ∀ (cdv : Value) (A : Around) (outer : List Env) (s : Shared) (H : Hp) (vs : List V) (Q : VK), L2H.RoomH k (A.deeper (envOfC qual (defScope st) s.heap.objs.size f cdv)) → sp vs H Q E0 →
    ∃ t, PSs (L2H.cxH CX0 P w K mg base N qual (defScope st) f cdv A outer s H E0 p) (defBody st) t ∧ t { nx := fun _ H2 => Q .non H2, rt := Q } (L2.start N vs) H
section
variable {X : Cx} {k : Nat} {f a : Addr} {oe : Obj} {pn : List (Addr × Obj)} {fd : FuncData} {N ps : List Str} {sp : Sp} {x qual : Str} {q pos : Pos} {e : Expr} {es : List Expr} {t : TA} {st : Stmt}
theorem hot_run {Y : Cx} {pins : List (Addr × Obj)} {σ : L2.St} {H : Hp} {s : Shared} {Q : VK} {us : List Value} {vs : List V} {p : Addr × Obj} (hp : p ∈ Y.pn) (F : Fun Y.K x qual st f fd) (S : FnScope N ps (defScope st)) (hr : L2H.RoomH (k + 1) Y.A)
    (B : HotBody Y.prog Y.w Y.K Y.mg Y.base k f qual st N p sp) (hb : Binds Y.K fd ps []) (hl : vs.length = ps.length) (I : Inv Y pins σ H s) (r : Vals vs us) (h : sp vs H Q E0) :
    wpAny (model Y.prog Y.w) Y.A (call (.ref f) us) (EP Y pins σ Q) Y.xe s := by
  obtain ⟨oc, od, kV, doc, pm, an, cdv, ct, osl, efd, lk, hcd⟩ := F.ex
  subst efd
  have lu : us.length = ps.length := r.length.symm.trans hl
  have bs := hb s us I.kIn (by rw [List.append_nil]; exact lu)
  rw [List.append_nil] at bs
  have P1 := I.pin p (List.mem_append_left _ hp)
  have hpin : L2H.PinOk Y.stack H s p := ⟨P1.1, P1.2.1, fun hm => (List.mem_cons.mp (I.stkSub p.1 hm)).elim P1.2.2.1 P1.2.2.2.1, P1.2.2.2.2⟩
  have hkind : ∀ y ∈ ps.zip us, (defScope st).names.lookup y.1 = some .local ∨ ((defScope st).names.lookup y.1 = some .cell ∧ ((cellsFrom (s.heap.objs.size + 1) (defScope st).names []).lookup y.1).isSome = true) := fun y hy =>
    (S.par y.1 (List.of_mem_zip hy).1).imp id fun c => ⟨c, PySem.W.cellsFrom_some _ _ _ (.inl c)⟩
  refine wpAny_call (codeAny_mono (R := CR CX0 Y.stack Y.prog Y.w H s Q E0) ?_ fun r s2 hq => ?_)
  · refine codeAny_call_function hr.depth (I.kIn _ _ lk) rfl S.co S.gen rfl (PySem.W.codeRec_of I.kIn hcd) (bs _ _ _ _ (wpAny_newFunctionEnv_cells S.kind hkind fun env he s1 x1 => ?_))
    subst he
    refine ⟨I.nolimit.keeps x1.toInCall.keep, codeAny_func ?_⟩
    obtain ⟨t, ht, hq⟩ := B cdv Y.A Y.stack s H vs Q (hr.deeper _) h
    have J := L2H.inv_startH (CX := CX0) (N := N) (qual := qual) (f := f) (cd := cdv) (E := E0) S hpin I.env0 hl r x1
    refine wpAny_mono (ht.run [] s1 _ H _ J hq) (fun fl s3 hs => ?_) fun e s3 hs => hs
    cases fl with
    | ret u =>
      obtain ⟨v, σ2, H2, J2, rv, q2⟩ := hs
      exact ⟨v, H2, J2.os, J2.bare, J2.base, J2.hok, rv, q2⟩
    | next =>
      obtain ⟨σ2, H2, J2, q2⟩ := hs
      exact ⟨V.non, H2, J2.os, J2.bare, J2.base, J2.hok, rfl, q2⟩
    | brk =>
      obtain ⟨_, _, _, z⟩ := hs
      exact z.elim
    | cont =>
      obtain ⟨_, _, _, z⟩ := hs
      exact z.elim
  · cases r with
    | error e => exact False.elim hq
    | ok fl =>
      cases fl with
      | ret u => exact I.after hq
      | next => exact False.elim hq
      | brk => exact False.elim hq
      | cont => exact False.elim hq
/-- f(e, ..) within the suite -/
theorem pe_callE (F : Fun X.K x qual st f fd) (S : FnScope N ps (defScope st)) (hr : L2H.RoomH (k + 1) X.A) (B : HotBody X.prog X.w X.K X.mg X.base k f qual st N (a, oe) sp) (hl : ∀ vs H Q, sp vs H Q E0 → vs.length = ps.length)
    (hg : Gl X x) (hm : X.mg x = some (.ref f)) (hb : Binds X.K fd ps []) (ha : PA (X.suite a ((a, oe) :: pn)) (e :: es) t) (hdb : (x == ("__debug__" : Str)) = false := by decide)
    (he : starEach (e :: es) X.env = (false, eval e X.env) :: starEach es X.env := by rfl) (hpl : (backTo pos (starEach es X.env)).any (·.1) = false := by rfl) :
    PE (X.suite a ((a, oe) :: pn)) (.Call (.Name x q) (e :: es) [] pos) (tCall sp [] E0 t) := by
  refine ⟨fun pins s σ H Q I h => ?_⟩
  refine wpAny_Call_Name_kw (ld_glob (X := X.suite a ((a, oe) :: pn)) I hg hm ?_ hdb)
  refine PySem.W.callWith_K (h₀ := X.base) I.ok.mod.kin F.kp (thn (ha.run pos pins s σ H _ I h) fun us s1 ⟨vs, H1, I1, r, q1⟩ => ⟨I1.kIn, ?_⟩) he hpl
  have q2 : sp (vs ++ []) H1 Q E0 := q1
  rw [List.append_nil] at q2
  exact hot_run (Y := X.suite a ((a, oe) :: pn)) (p := (a, oe)) List.mem_cons_self F S ⟨hr.dp, hr.un⟩ B hb (hl _ _ _ q2) I1 r q2
end

/-! ### isinstance(e, C) of an error that is pinned -/
theorem call_isP {X : Cx} {a D : Addr} {oe : Obj} (hp : (a, oe) ∈ X.pn) (C : ExcC X.K D) (hz : Zc (.ref D) none oe) (hf : ∃ vs, oe.data = .fields vs) : CallR X (.builtin "isinstance") (rIsE X.K D a) := by
  intro pins s σ H xs us Q I r h
  obtain ⟨c, cv, b, rfl, hcv, e, q⟩ := h
  cases r with
  | cons rx rr =>
    cases rr with
    | cons rt rz =>
      cases rz
      cases rx
      have ec := hcv _ rt
      subst ec
      obtain ⟨vs, hv⟩ := hf
      have J : PySem.W.InstAt s.heap a oe D none := by
        have hget := (I.pin (a, oe) (List.mem_append.mpr (.inl hp))).1
        obtain ⟨oc, od, oda, osl⟩ := oe
        obtain ⟨h1, h2⟩ := hz
        dsimp only at h1 h2 hv
        subst h1 h2 hv
        exact ⟨hget, rfl, rfl, trivial⟩
      exact PySem.W.kia_one (PySem.W.handS_kitx_exc C.hg C.hk C.hs C.hd C.ha C.hn C.ht C.hm) I.kIn J e (by intro z; cases z) fun tk => ⟨.bl b, H, I.kept (t' := tk) fun _ _ z => z, rfl, q⟩
end
section
/-! The text by its places, what the top has written, calls in short. -/
open PySem PySem.Spec PyProof.Rows L2
def top (i : Nat) : Stmt := PySem.Challenge.pw_corebank_k12_whole_books_balance.main.body.getD i (.Pass ⟨0, 0, 0, 0⟩)
abbrev s_is_day : Stmt := top 11
abbrev s_check_currency : Stmt := top 17
abbrev s_init : Stmt := inClass (top 18) 0
abbrev s_accounts : Stmt := inClass (top 18) 1
abbrev s_entries : Stmt := inClass (top 18) 2
abbrev s_open_account : Stmt := inClass (top 18) 3
abbrev s_post : Stmt := inClass (top 18) 4
abbrev s_reverse : Stmt := inClass (top 18) 5
abbrev s_check_head : Stmt := inClass (top 18) 6
abbrev s_check_lines : Stmt := inClass (top 18) 7
abbrev s_add : Stmt := inClass (top 18) 8
abbrev s_entry : Stmt := inClass (top 18) 9
abbrev s_account : Stmt := inClass (top 18) 10
abbrev s_currency_of : Stmt := inClass (top 18) 11
abbrev s_sort_of : Stmt := inClass (top 18) 12
abbrev s_lines_of : Stmt := inClass (top 18) 13
abbrev s_balance : Stmt := inClass (top 18) 14
abbrev s_sums : Stmt := inClass (top 18) 15
abbrev s_w_numbers : Stmt := top 20
abbrev s_w_kinds : Stmt := top 21
abbrev s_w_currencies : Stmt := top 22
abbrev s_w_accounts : Stmt := top 23
abbrev s_w_units : Stmt := top 24
abbrev s_w_group : Stmt := top 25
abbrev s_w_lines : Stmt := top 26
abbrev s_w_entry : Stmt := top 27
abbrev s_w_spoilt : Stmt := top 28
abbrev s_w_deed : Stmt := top 29
abbrev s_w_ledger : Stmt := top 30
abbrev s_w_day : Stmt := top 31
abbrev s_w_sums_right : Stmt := top 32
abbrev s_w_entries_right : Stmt := top 33
abbrev s_w_right : Stmt := top 34
abbrev s_law : Stmt := top 35
theorem sc_is_day : FnScope ["number"] ["number"] (defScope s_is_day) := ⟨rfl, rfl, rfl, by decide +kernel, rfl, by decide +kernel, by decide +kernel⟩
theorem sc_check_currency : FnScope ["currency", "sign"] ["currency"] (defScope s_check_currency) := ⟨rfl, rfl, rfl, by decide +kernel, rfl, by decide +kernel, by decide +kernel⟩
theorem sc_init : FnScope ["self"] ["self"] (defScope s_init) := ⟨rfl, rfl, rfl, by decide +kernel, rfl, by decide +kernel, by decide +kernel⟩
theorem sc_accounts : FnScope ["self"] ["self"] (defScope s_accounts) := ⟨rfl, rfl, rfl, by decide +kernel, rfl, by decide +kernel, by decide +kernel⟩
theorem sc_entries : FnScope ["self"] ["self"] (defScope s_entries) := ⟨rfl, rfl, rfl, by decide +kernel, rfl, by decide +kernel, by decide +kernel⟩
theorem sc_open_account : FnScope ["self", "currency", "sort"] ["self", "currency", "sort"] (defScope s_open_account) := ⟨rfl, rfl, rfl, by decide +kernel, rfl, by decide +kernel, by decide +kernel⟩
theorem sc_post : FnScope ["self", "day", "value", "cause", "lines"] ["self", "day", "value", "cause", "lines"] (defScope s_post) := ⟨rfl, rfl, rfl, by decide +kernel, rfl, by decide +kernel, by decide +kernel⟩
theorem sc_reverse : FnScope ["self", "number", "day", "cause", "old", "lines", "added", "account", "units"] ["self", "number", "day", "cause"] (defScope s_reverse) := ⟨rfl, rfl, rfl, by decide +kernel, rfl, by decide +kernel, by decide +kernel⟩
theorem sc_check_head : FnScope ["self", "day", "value", "cause"] ["self", "day", "value", "cause"] (defScope s_check_head) := ⟨rfl, rfl, rfl, by decide +kernel, rfl, by decide +kernel, by decide +kernel⟩
theorem sc_check_lines : FnScope ["self", "lines", "sums", "account", "units", "currency"] ["self", "lines"] (defScope s_check_lines) := ⟨rfl, rfl, rfl, by decide +kernel, rfl, by decide +kernel, by decide +kernel⟩
theorem sc_add : FnScope ["self", "day", "value", "cause", "lines", "reverses", "number", "account", "units", "kept"] ["self", "day", "value", "cause", "lines", "reverses"] (defScope s_add) := ⟨rfl, rfl, rfl, by decide +kernel, rfl, by decide +kernel, by decide +kernel⟩
theorem sc_entry : FnScope ["self", "number", "day", "value", "cause", "lines", "reverses", "undone"] ["self", "number"] (defScope s_entry) := ⟨rfl, rfl, rfl, by decide +kernel, rfl, by decide +kernel, by decide +kernel⟩
theorem sc_account : FnScope ["self", "account"] ["self", "account"] (defScope s_account) := ⟨rfl, rfl, rfl, by decide +kernel, rfl, by decide +kernel, by decide +kernel⟩
theorem sc_currency_of : FnScope ["self", "account"] ["self", "account"] (defScope s_currency_of) := ⟨rfl, rfl, rfl, by decide +kernel, rfl, by decide +kernel, by decide +kernel⟩
theorem sc_sort_of : FnScope ["self", "account"] ["self", "account"] (defScope s_sort_of) := ⟨rfl, rfl, rfl, by decide +kernel, rfl, by decide +kernel, by decide +kernel⟩
theorem sc_lines_of : FnScope ["self", "account"] ["self", "account"] (defScope s_lines_of) := ⟨rfl, rfl, rfl, by decide +kernel, rfl, by decide +kernel, by decide +kernel⟩
theorem sc_balance : FnScope ["self", "account", "booked", "value", "total", "line", "in_books"] ["self", "account", "booked", "value"] (defScope s_balance) := ⟨rfl, rfl, rfl, by decide +kernel, rfl, by decide +kernel, by decide +kernel⟩
theorem sc_sums : FnScope ["self", "currency", "booked", "value", "totals", "account", "place"] ["self", "currency", "booked", "value"] (defScope s_sums) := ⟨rfl, rfl, rfl, by decide +kernel, rfl, by decide +kernel, by decide +kernel⟩
theorem sc_w_numbers : FnScope ["_law_cell", "_law_count", "_law_rest", "_law_numbers_here", "_law_k", "_law_mixed"] ["_law_cell", "_law_count"] (defScope s_w_numbers) := ⟨rfl, rfl, rfl, by decide +kernel, rfl, by decide +kernel, by decide +kernel⟩
theorem sc_w_kinds : FnScope ["_law_error", "_law_kinds_here"] ["_law_error"] (defScope s_w_kinds) := ⟨rfl, rfl, rfl, by decide +kernel, rfl, by decide +kernel, by decide +kernel⟩
theorem sc_w_currencies : FnScope ["_law_numbers_here", "_law_letters", "_law_one", "_law_at", "_law_other"] ["_law_numbers_here"] (defScope s_w_currencies) := ⟨rfl, rfl, rfl, by decide +kernel, rfl, by decide +kernel, by decide +kernel⟩
theorem sc_w_accounts : FnScope ["_law_numbers_here", "_law_currencies_here", "_law_sorts", "_law_count", "_law_k"] ["_law_numbers_here"] (defScope s_w_accounts) := ⟨rfl, rfl, rfl, by decide +kernel, rfl, by decide +kernel, by decide +kernel⟩
theorem sc_w_units : FnScope ["_law_number"] ["_law_number"] (defScope s_w_units) := ⟨rfl, rfl, rfl, by decide +kernel, rfl, by decide +kernel, by decide +kernel⟩
theorem sc_w_group : FnScope ["_law_numbers_here", "_law_at", "_law_accounts_here", "_law_first", "_law_mates", "_law_second", "_law_third", "_law_sign", "_law_one", "_law_two", "_law_k"] ["_law_numbers_here", "_law_at", "_law_accounts_here"] (defScope s_w_group) := ⟨rfl, rfl, rfl, by decide +kernel, rfl, by decide +kernel, by decide +kernel⟩
theorem sc_w_lines : FnScope ["_law_numbers_here", "_law_accounts_here", "_law_groups", "_law_lines_here", "_law_k", "_law_turn"] ["_law_numbers_here", "_law_accounts_here"] (defScope s_w_lines) := ⟨rfl, rfl, rfl, by decide +kernel, rfl, by decide +kernel, by decide +kernel⟩
theorem sc_w_entry : FnScope ["_law_numbers_here", "_law_accounts_here", "_law_last", "_law_day_here", "_law_value", "_law_cause"] ["_law_numbers_here", "_law_accounts_here", "_law_last"] (defScope s_w_entry) := ⟨rfl, rfl, rfl, by decide +kernel, rfl, by decide +kernel, by decide +kernel⟩
theorem sc_w_spoilt : FnScope ["_law_kind", "_law_number", "_law_at", "_law_post", "_law_count", "_law_day_here", "_law_value", "_law_cause", "_law_lines_here", "_law_line"] ["_law_kind", "_law_number", "_law_at", "_law_post", "_law_count"] (defScope s_w_spoilt) := ⟨rfl, rfl, rfl, by decide +kernel, rfl, by decide +kernel, by decide +kernel⟩
theorem sc_w_deed : FnScope ["_law_ledger_here", "_law_accounts_here", "_law_numbers_here", "_law_start", "_law_last", "_law_post", "e"] ["_law_ledger_here", "_law_accounts_here", "_law_numbers_here", "_law_start"] (defScope s_w_deed) := ⟨rfl, rfl, rfl, by decide +kernel, rfl, by decide +kernel, by decide +kernel⟩
theorem sc_w_ledger : FnScope ["_law_accounts_here", "_law_ledger_here", "_law_account"] ["_law_accounts_here"] (defScope s_w_ledger) := ⟨rfl, rfl, rfl, by decide +kernel, rfl, by decide +kernel, by decide +kernel⟩
theorem sc_w_day : FnScope ["_law_number", "_law_days"] ["_law_number", "_law_days"] (defScope s_w_day) := ⟨rfl, rfl, rfl, by decide +kernel, rfl, by decide +kernel, by decide +kernel⟩
theorem sc_w_sums_right : FnScope ["_law_ledger_here", "_law_accounts_here", "_law_currency", "_law_booked", "_law_value", "_law_sums", "_law_due", "_law_k", "_law_place"] ["_law_ledger_here", "_law_accounts_here", "_law_currency", "_law_booked", "_law_value"] (defScope s_w_sums_right) := ⟨rfl, rfl, rfl, by decide +kernel, rfl, by decide +kernel, by decide +kernel⟩
theorem sc_w_entries_right : FnScope ["_law_ledger_here", "_law_accounts_here", "_law_number", "_law_lines_here", "_law_line", "_law_currency", "_law_other"] ["_law_ledger_here", "_law_accounts_here"] (defScope s_w_entries_right) := ⟨rfl, rfl, rfl, by decide +kernel, rfl, by decide +kernel, by decide +kernel⟩
theorem sc_w_right : FnScope ["_law_ledger_here", "_law_accounts_here", "_law_numbers_here", "_law_days", "_law_number", "_law_entry_here", "_law_currency", "_law_k", "_law_booked", "_law_value"] ["_law_ledger_here", "_law_accounts_here", "_law_numbers_here"] (defScope s_w_right) := ⟨rfl, rfl, rfl, by decide +kernel, rfl, by decide +kernel, by decide +kernel⟩
theorem sc_law : FnScope ["_law_script", "_law_first", "_law_numbers_here", "_law_accounts_here", "_law_ledger_here", "_law_cells", "_law_stops", "_law_posted", "_law_k"] ["_law_script"] (defScope s_law) := ⟨rfl, rfl, rfl, by decide +kernel, rfl, by decide +kernel, by decide +kernel⟩

/-! ### callables by their promises -/
section
variable (P : Program) (w : World) (K : PySem.W.Frag) (mg : Str → Option Value) (base : Heap)
/-- the def that the module's name x holds keeps sp, by at most level k -/
structure Cal (k : Nat) (x : Str) (sp : Sp) : Prop where
  ex : ∃ (f : Addr) (fd : FuncData) (ps : List Str), mg x = some (.ref f) ∧ PySem.W.keepIn K (.ref f) = true ∧ L2.Binds K fd ps [] ∧ FnOk P w K mg base (L2.CX P w) k f fd ps sp
/-- the method m of the class at C -/
structure Met (k : Nat) (C : Addr) (m : Str) (sp : Sp) : Prop where
  ex : ∃ (f : Addr) (fd : FuncData) (ps : List Str), Meth K C m f ∧ L2.Binds K fd ps [] ∧ FnOk P w K mg base (L2.CX P w) k f fd ps sp
/-- the class at C is made by an __init__ that keeps sp -/
structure Mak (k : Nat) (C : Addr) (sp : Sp) : Prop where
  ex : ∃ (f : Addr) (fd : FuncData) (ps : List Str), Mk K C f ∧ L2.Binds K fd ps [] ∧ FnOk P w K mg base (L2.CX P w) k f fd ps sp
end
/-- an own class of error without an __init__ -/
structure ExcT (K : PySem.W.Frag) (mg : Str → Option Value) (x : Str) (C : Addr) : Prop where
  g : mg x = some (.ref C)
  x : PySem.W.excIn K C [.type "ValueError", .type "Exception", .type "BaseException", .type "object"] "ValueError.__new__" = true
  k : PySem.W.keepIn K (.ref C) = true
  b : PySem.W.subIn K (.ref C) (.type "BaseException") = some true
  t : PySem.W.typeIn K (.ref C) = some (.type "type")
section
variable {X : Cx} {W : WX} {k : Nat} {C : Addr} {x m : Str} {sp : Sp} {p pos apos : Pos} {e o : Expr} {es : List Expr} {ta : TE} {t : TA} {v : V}
theorem pgv (h : ∃ u, X.mg x = some u ∧ RelV v u) (hg : Gl X x := by rfl) (hdb : (x == ("__debug__" : Str)) = false := by decide) : PE X (.Name x pos) (tC v) := by
  obtain ⟨u, h1, h2⟩ := h
  exact pe_glob hg h1 h2 hdb
theorem pc (c : Cal X.prog X.w X.K X.mg X.base k x sp) (hr : Room k X.A) (hg : Gl X x) (tk : Takes X W) (ha : PA X (e :: es) t) (hdb : (x == ("__debug__" : Str)) = false := by decide)
    (he : starEach (e :: es) X.env = (false, eval e X.env) :: starEach es X.env := by rfl) (hpl : (backTo pos (starEach es X.env)).any (·.1) = false := by rfl) :
    PE X (.Call (.Name x p) (e :: es) [] pos) (tCallS sp (WE W) t) := by
  obtain ⟨f, fd, ps, h1, h2, h3, h4⟩ := c.ex
  exact pe_callS h4 hr hg h1 h2 h3 (fun σ => passAt tk σ) ha hdb he hpl
/-- o.m(..); what is raised is wished for at the caller's slots -/
def tMt (C : Addr) (m : Str) (sp : Sp) (W : WX) (ta : TE) (t : TA) : TE := fun σ H Q => ta σ H fun x H1 => ∃ a dx fs, x = .ref a ∧ H1 a = some (.ins C dx fs) ∧ fs.lookup m = none ∧ t σ H1 fun vs H2 => sp (x :: vs) H2 Q (WE W σ)
theorem pm {pl : Sem Bool} (cl : Cls X.K C) (c : Met X.prog X.w X.K X.mg X.base k C m sp) (hr : Room k X.A) (tk : Takes X W) (he : PE X o ta) (ha : PA X (e :: es) t)
    (hst : starEach (e :: es) X.env = (false, eval e X.env) :: starEach es X.env := by rfl) (hpl : (backTo pos (starEach es X.env)).any (·.1) = false := by rfl)
    (ht : eval (.Call (.Attribute o m apos) (e :: es) [] pos) X.env = (do
      let ov ← eval o X.env
      standAt apos.atName
      let (f, first) ← holding [ov] (getMethod ov m pl)
      callWith pos f first (backTo pos (starEach (e :: es) X.env)) (backToKw pos (keywordEach [] X.env))) := by rfl) :
    PE X (.Call (.Attribute o m apos) (e :: es) [] pos) (tMt C m sp W ta t) := by
  obtain ⟨f, fd, ps, hm, hb, F⟩ := c.ex
  refine ⟨fun pins s σ H Q I h => ?_⟩
  refine PySem.W.methodCall_KW (pl := pl) (thn (he.run pins s σ H _ I h) fun u s1 hx => ?_) ht
  obtain ⟨y, H1, I1, rx, a, dx, fs, ex, ea, l, q⟩ := hx
  subst ex
  cases rx
  refine getmeth_ok I1 ea cl hm l (PySem.W.callWith_K (first := [.ref a]) (h₀ := X.base) I.ok.mod.kin hm.kp (thn (ha.run pos pins s1 σ H1 _ I1 q) fun us s2 hy => ?_) hst hpl)
  obtain ⟨vs, H2, I2, r, q2⟩ := hy
  exact ⟨I2.kIn, run_fnS (us := .ref a :: us) (vs := .ref a :: vs) F hr hb (passAt tk σ) I2 (.cons rfl r) q2⟩
theorem pm0 {pl : Sem Bool} (cl : Cls X.K C) (c : Met X.prog X.w X.K X.mg X.base k C m sp) (hr : Room k X.A) (tk : Takes X W) (he : PE X o ta)
    (ht : eval (.Call (.Attribute o m apos) [] [] pos) X.env = (do
      let ov ← eval o X.env
      standAt apos.atName
      let (f, first) ← holding [ov] (getMethod ov m pl)
      callWith pos f first (backTo pos (starEach [] X.env)) (backToKw pos (keywordEach [] X.env))) := by rfl) :
    PE X (.Call (.Attribute o m apos) [] [] pos) (tMt C m sp W ta tNil) := by
  obtain ⟨f, fd, ps, hm, hb, F⟩ := c.ex
  refine ⟨fun pins s σ H Q I h => ?_⟩
  refine PySem.W.methodCall_KW (pl := pl) (thn (he.run pins s σ H _ I h) fun u s1 hx => ?_) ht
  obtain ⟨y, H1, I1, rx, a, dx, fs, ex, ea, l, q⟩ := hx
  subst ex
  cases rx
  exact getmeth_ok I1 ea cl hm l (PySem.W.callWith_K0 (first := [.ref a]) I1.kIn hm.kp (run_fnS (us := [.ref a]) (vs := [.ref a]) F hr hb (passAt tk σ) I1 (.cons rfl .nil) q))
/-- C() -/
theorem pk0 (hm : X.mg x = some (.ref C)) (c : Mak X.prog X.w X.K X.mg X.base k C sp) (hr : Room (k + 1) X.A) (hg : Gl X x) (hdb : (x == ("__debug__" : Str)) = false := by decide) :
    PE X (.Call (.Name x p) [] [] pos) (tMake C sp [] E0 tNil) := by
  obtain ⟨f, fd, ps, h1, h2, h3⟩ := c.ex
  exact pe_make0 h1 h3 hr hg hm h2 .nil passL (hdb := hdb)
/-- raise X('..') -/
def tRs (C : Addr) (W : WX) : TS := fun _ σ H => W (.ref C) none σ H
theorem p_raise {msg : Str} {j : Nat} {p2 : Pos} (T : ExcT X.K X.mg x C) (tk : Takes X W) (hc : X.calm = true := by rfl) (hg : Gl X x := by rfl) (hdb : (x == ("__debug__" : Str)) = false := by decide) :
    PS X (.Raise (some (.Call (.Name x p) [.Constant (.str msg) j p2] [] pos)) none apos) (tRs C W) :=
  ps_raise hc tk (pmk_own PySem.F.excBase_ValueError T.x T.g T.k (raises_own T.b T.t) hg hdb)
end

/-- a def that is called within an except suite with the handled error at a, of the class cls, its own dict d -/
structure Hot (P : Program) (w : World) (K : PySem.W.Frag) (mg : Str → Option Value) (base : Heap) (k : Nat) (x : Str) (sp : Addr → Value → Option Addr → Sp) : Prop where
  ex : ∃ (f : Addr) (fd : FuncData) (N ps : List Str) (qual : Str) (st : Stmt), Fun K x qual st f fd ∧ FnScope N ps (defScope st) ∧ mg x = some (.ref f) ∧ L2.Binds K fd ps [] ∧ (∀ a c d vs H Q, sp a c d vs H Q E0 → vs.length = ps.length) ∧
    ∀ (a : Addr) (oe : Obj) (c : Value) (d : Option Addr), Zc c d oe → (∃ vs, oe.data = .fields vs) → HotBody P w K mg base k f qual st N (a, oe) (sp a c d)
theorem pch {X : Cx} {k : Nat} {a : Addr} {oe : Obj} {c : Value} {d : Option Addr} {pn : List (Addr × Obj)} {sp : Addr → Value → Option Addr → Sp} {x : Str} {q pos : Pos} {e : Expr} {es : List Expr} {t : TA}
    (F : Hot X.prog X.w X.K X.mg X.base k x sp) (hr : L2H.RoomH (k + 1) X.A) (hg : Gl X x) (hz : Zc c d oe) (hf : ∃ vs, oe.data = .fields vs) (ha : PA (X.suite a ((a, oe) :: pn)) (e :: es) t) (hdb : (x == ("__debug__" : Str)) = false := by decide)
    (he : starEach (e :: es) X.env = (false, eval e X.env) :: starEach es X.env := by rfl) (hpl : (backTo pos (starEach es X.env)).any (·.1) = false := by rfl) :
    PE (X.suite a ((a, oe) :: pn)) (.Call (.Name x q) (e :: es) [] pos) (tCall (sp a c d) [] E0 t) := by
  obtain ⟨f, fd, N, ps, qual, st, h1, h2, h3, h4, h5, h6⟩ := F.ex
  exact pe_callE h1 h2 hr (h6 a oe c d hz hf) (fun vs H Q h => h5 a c d vs H Q h) hg h3 h4 ha hdb he hpl

/-! ### what the top has written -/
/-- where the classes and the tuple of the sorts stand -/
structure Ads where
  led : Addr
  bank : Addr
  val : Addr
  day : Addr
  mis : Addr
  ref : Addr
  ful : Addr
  nota : Addr
  dam : Addr
  sorts : Addr
/-- the classes of error that the ledger raises -/
def Ads.five (Z : Ads) : List Addr := [Z.val, Z.day, Z.mis, Z.ref, Z.ful]
def sortsV : List Str := ["asset", "debt", "equity", "income", "cost"]
structure Txt (K : PySem.W.Frag) (mg : Str → Option Value) (Z : Ads) : Prop where
  cl : Cls K Z.led
  mgL : mg "Ledger" = some (.ref Z.led)
  a1 : NoAttr K Z.led "_accounts"
  a2 : NoAttr K Z.led "_lines"
  a3 : NoAttr K Z.led "_entries"
  a4 : NoAttr K Z.led "_reversed"
  n_len : mg "len" = none
  n_range : mg "range" = none
  n_int : mg "int" = none
  n_list : mg "list" = none
  n_tuple : mg "tuple" = none
  n_sum : mg "sum" = none
  n_min : mg "min" = none
  n_max : mg "max" = none
  n_isinstance : mg "isinstance" = none
  g_LAST_DAY : ∃ u, mg "LAST_DAY" = some u ∧ RelV (.int 36524) u
  g_MOST_ACCOUNTS : ∃ u, mg "MOST_ACCOUNTS" = some u ∧ RelV (.int 200) u
  g_MOST_ENTRIES : ∃ u, mg "MOST_ENTRIES" = some u ∧ RelV (.int 2000) u
  g_GREATEST_UNITS : ∃ u, mg "GREATEST_UNITS" = some u ∧ RelV (.int 1000000000) u
  g_SORTS : ∃ u, mg "SORTS" = some u ∧ RelV (.ref Z.sorts) u
  sO : ∃ (o : Obj) (its : Array Value) (n : Nat), K.lookup Z.sorts = some o ∧ o.cls = .type "tuple" ∧ o.dict = none ∧ o.data = .seq its n ∧ its.size ≤ sizeLine ∧ Vals (sortsV.map V.str) its.toList
  g_Bank : mg "BankError" = some (.ref Z.bank)
  BadValue : ExcT K mg "BadValue" Z.val
  BadDay : ExcT K mg "BadDay" Z.day
  Missing : ExcT K mg "Missing" Z.mis
  Refused : ExcT K mg "Refused" Z.ref
  Full : ExcT K mg "Full" Z.ful
  NotAllowed : mg "NotAllowed" = some (.ref Z.nota)
  Damaged : mg "Damaged" = some (.ref Z.dam)
  exm : ∀ D ∈ Z.five, PySem.W.exmOne K (.ref D) (.ref Z.bank) = some true
  excC : ∀ D ∈ Z.five, ExcC K D
  kit : ∀ D ∈ Z.five, ∀ C ∈ [Z.val, Z.day, Z.mis, Z.ref, Z.ful, Z.nota, Z.dam], PySem.W.kitOne K (.ref D) (.ref C) = some (decide (D = C))
theorem Txt.tSorts {K : PySem.W.Frag} {mg : Str → Option Value} {Z : Ads} (T : Txt K mg Z) (H : Hp) : SqT K H Z.sorts (sortsV.map V.str) := by
  obtain ⟨o, its, n, h1, h2, _, h4, h5, h6⟩ := T.sO
  exact .inr ⟨o, its, n, h1, h2, h4, h5, h6⟩
theorem Txt.tyS {K : PySem.W.Frag} {mg : Str → Option Value} {Z : Ads} (T : Txt K mg Z) (H : Hp) : tyV K "tuple" (.ref Z.sorts) H := by
  obtain ⟨o, its, n, h1, h2, h3, _⟩ := T.sO
  exact .inr (.inl ⟨rfl, o, h1, h2, h3⟩)
end
section
/-! The ledger as plain data (with the places of its objects), what is asked of it, the promises. -/
open PySem PySem.Spec PyProof.Rows L2 Evl

/-! ### the data -/
/-- a line of an account -/
structure Ln where
  no : Int
  day : Int
  value : Int
  units : Int
/-- an entry -/
structure Ent where
  day : Int
  value : Int
  cause : Str
  kept : Addr
  lines : List (Addr × Int × Int)
  rev : V
/-- the ledger: each object with its place -/
structure Led where
  p : Addr
  dx : Addr
  la : Addr
  ll : Addr
  le : Addr
  dr : Addr
  accs : List (Addr × Str × Str)
  lines : List (Addr × List (Addr × Ln))
  ents : List (Addr × Ent)
  rev : List (Key × V)
def refs {α : Type} (l : List (Addr × α)) : List V := l.map fun x => V.ref x.1
def lnV (y : Ln) : List V := [.int y.no, .int y.day, .int y.value, .int y.units]
def entV (x : Ent) : List V := [.int x.day, .int x.value, .str x.cause, .ref x.kept, x.rev]
/-- at each place a pair of numbers -/
def Pairs (H : Hp) (ls : List (Addr × Int × Int)) : Prop := ∀ l ∈ ls, H l.1 = some (.tup [.int l.2.1, .int l.2.2])
def ledF (L : Led) : List (Str × V) := [("_accounts", .ref L.la), ("_lines", .ref L.ll), ("_entries", .ref L.le), ("_reversed", .ref L.dr)]
structure LedAt (Z : Ads) (H : Hp) (L : Led) : Prop where
  ins : H L.p = some (.ins Z.led L.dx (ledF L))
  acc : H L.la = some (.lst (refs L.accs))
  accT : ∀ x ∈ L.accs, H x.1 = some (.tup [.str x.2.1, .str x.2.2])
  lin : H L.ll = some (.lst (refs L.lines))
  linL : ∀ x ∈ L.lines, H x.1 = some (.lst (refs x.2))
  linT : ∀ x ∈ L.lines, ∀ y ∈ x.2, H y.1 = some (.tup (lnV y.2))
  ent : H L.le = some (.lst (refs L.ents))
  entT : ∀ x ∈ L.ents, H x.1 = some (.tup (entV x.2))
  entK : ∀ x ∈ L.ents, H x.2.kept = some (.tup (refs x.2.lines))
  entL : ∀ x ∈ L.ents, Pairs H x.2.lines
  rev : H L.dr = some (.dK L.rev)
  nd : (L.la :: L.ll :: L.le :: L.lines.map (·.1)).Nodup
/-- what a deed may write -/
def own (L : Led) : List Addr := L.le :: L.dr :: L.lines.map (·.1)
/-- all but M is kept -/
def Keeps (M : List Addr) (H H' : Hp) : Prop := ∀ a o, a ∉ M → H a = some o → H' a = some o

theorem refs_len {α : Type} (l : List (Addr × α)) : (refs l).length = l.length := List.length_map _
theorem refs_get {α : Type} {l : List (Addr × α)} {i : Nat} {x : Addr × α} (h : l[i]? = some x) : (refs l)[i]? = some (.ref x.1) := by
  unfold refs
  rw [List.getElem?_map, h]
  rfl
theorem refs_inv {α : Type} {l : List (Addr × α)} {i : Nat} {v : V} (h : (refs l)[i]? = some v) : ∃ x, l[i]? = some x ∧ v = .ref x.1 := by
  unfold refs at h
  rw [List.getElem?_map] at h
  cases e : l[i]? with
  | none =>
    rw [e] at h
    cases h
  | some x =>
    rw [e] at h
    exact ⟨x, rfl, (Option.some.inj h).symm⟩
theorem refs_app {α : Type} (l m : List (Addr × α)) : refs (l ++ m) = refs l ++ refs m := List.map_append
theorem Pairs.mono {H H' : Hp} {ls : List (Addr × Int × Int)} (e : Ex H H') (h : Pairs H ls) : Pairs H' ls := fun l hl => e _ _ (h l hl)
theorem LedAt.mono {Z : Ads} {H H' : Hp} {L : Led} (e : Ex H H') (h : LedAt Z H L) : LedAt Z H' L where
  ins := e _ _ h.ins
  acc := e _ _ h.acc
  accT := fun x hx => e _ _ (h.accT x hx)
  lin := e _ _ h.lin
  linL := fun x hx => e _ _ (h.linL x hx)
  linT := fun x hx y hy => e _ _ (h.linT x hx y hy)
  ent := e _ _ h.ent
  entT := fun x hx => e _ _ (h.entT x hx)
  entK := fun x hx => e _ _ (h.entK x hx)
  entL := fun x hx => (h.entL x hx).mono e
  rev := e _ _ h.rev
  nd := h.nd
theorem Ex.keeps {M : List Addr} {H H' : Hp} (e : Ex H H') : Keeps M H H' := fun a o _ h => e a o h
theorem Keeps.refl (M : List Addr) (H : Hp) : Keeps M H H := fun _ _ _ h => h
theorem Keeps.trans {M : List Addr} {H H1 H2 : Hp} (a : Keeps M H H1) (b : Keeps M H1 H2) : Keeps M H H2 := fun x o n h => b x o n (a x o n h)
theorem Keeps.upd {M : List Addr} {H H' : Hp} {p : Addr} {o : HO} (k : Keeps M H H') (h : p ∈ M) : Keeps M H (L2.upd H' p o) := fun a u n ha => by
  rw [upd_ne (fun e => n (by rw [e]; exact h))]
  exact k a u n ha
/-- a tuple is none of the ledger's own things -/
theorem LedAt.noT {Z : Ads} {H : Hp} {L : Led} (h : LedAt Z H L) {a : Addr} {xs : List V} (ha : H a = some (.tup xs)) : a ∉ own L := by
  intro m
  rcases List.mem_cons.mp m with e | m
  · rw [e, h.ent] at ha
    cases ha
  rcases List.mem_cons.mp m with e | m
  · rw [e, h.rev] at ha
    cases ha
  obtain ⟨x, hx, e⟩ := List.mem_map.mp m
  rw [← e, h.linL x hx] at ha
  cases ha
/-- what was not there is none of them -/
theorem LedAt.noN {Z : Ads} {H : Hp} {L : Led} (h : LedAt Z H L) {a : Addr} (ha : H a = none) : a ∉ own L := by
  intro m
  rcases List.mem_cons.mp m with e | m
  · rw [e, h.ent] at ha
    cases ha
  rcases List.mem_cons.mp m with e | m
  · rw [e, h.rev] at ha
    cases ha
  obtain ⟨x, hx, e⟩ := List.mem_map.mp m
  rw [← e, h.linL x hx] at ha
  cases ha

/-! ### what is asked of a ledger -/
def cur (A : List (Addr × Str × Str)) (i : Nat) : Str := (A.getD i (0, Str.empty, Str.empty)).2.1
/-- the units of a list of pairs over the accounts of a currency (accounts are numbered from 1) -/
def curSum (A : List (Addr × Str × Str)) (c : Str) (ls : List (Addr × Int × Int)) : Int := (ls.map fun l => if cur A (l.2.1 - 1).toNat = c then l.2.2 else 0).sum
/-- lines as an entry has them -/
structure Good (A : List (Addr × Str × Str)) (ls : List (Addr × Int × Int)) : Prop where
  two : 2 ≤ ls.length
  few : ls.length ≤ 20
  ran : ∀ l ∈ ls, 1 ≤ l.2.1 ∧ l.2.1 ≤ (A.length : Int)
  bal : ∀ c, curSum A c ls = 0
/-- an account's lines that a test of the two days lets through -/
def balOf (ok : Int → Int → Bool) (xs : List (Addr × Ln)) : Int := (xs.map fun y => if ok y.2.day y.2.value = true then y.2.units else 0).sum
/-- the sum over the accounts of a currency -/
def total (A : List (Addr × Str × Str)) (Ls : List (Addr × List (Addr × Ln))) (c : Str) (ok : Int → Int → Bool) : Int :=
  (List.zipWith (fun (a : Addr × Str × Str) (l : Addr × List (Addr × Ln)) => if a.2.1 = c then balOf ok l.2 else 0) A Ls).sum
structure LedOk (L : Led) : Prop where
  len : L.lines.length = L.accs.length
  acc : L.accs.length ≤ 200
  sor : ∀ x ∈ L.accs, x.2.2 ∈ sortsV
  few : ∀ x ∈ L.lines, x.2.length ≤ 20 * L.ents.length
  ent : L.ents.length ≤ 2000
  rev : L.rev.length ≤ L.ents.length
  good : ∀ x ∈ L.ents, Good L.accs x.2.lines
  bal : ∀ c ok, total L.accs L.lines c ok = 0
def optV : Option Int → V
  | none => .non
  | some i => .int i
def okO : Option Int → Int → Bool
  | none, _ => true
  | some b, d => decide (d ≤ b)
def okD (b v : Option Int) : Int → Int → Bool := fun d e => okO b d && okO v e
/-- the ledger's balance of the account that stands at place i -/
def balAt (L : Led) (b v : Option Int) (i : Nat) : Int := balOf (okD b v) (L.lines.getD i (0, [])).2
def sortIx (s : Str) : Nat := sortsV.findIdx (· == s)
/-- one account of a walk over the accounts -/
def sumStep (A : List (Addr × Str × Str)) (c : Str) (f : Nat → Int) (t : List Int) (i : Nat) : List Int :=
  if cur A i = c then t.set (sortIx (A.getD i (0, Str.empty, Str.empty)).2.2) (t.getD (sortIx (A.getD i (0, Str.empty, Str.empty)).2.2) 0 + f i) else t
def sumsTo (A : List (Addr × Str × Str)) (c : Str) (f : Nat → Int) (n : Nat) : List Int := (List.range n).foldl (sumStep A c f) [0, 0, 0, 0, 0]
/-- three letters A to Z -/
def Cur3 (c : Str) : Prop := ∃ x y z : Nat, c = ⟨#[x, y, z]⟩ ∧ (65 ≤ x ∧ x ≤ 90) ∧ (65 ≤ y ∧ y ≤ 90) ∧ (65 ≤ z ∧ z ≤ 90)

/-! ### the promises of the program -/
/-- an error of the ledger, with what was there kept -/
def Bad (Z : Ads) (E : XK) (H : Hp) : Prop := ∀ D ∈ Z.five, ∀ H', Ex H H' → E (.ref D) none H'
theorem Bad.mono {Z : Ads} {E : XK} {H H' : Hp} (e : Ex H H') (b : Bad Z E H) : Bad Z E H' := fun D hD H2 e2 => b D hD H2 (e.trans e2)
/-- a list of pairs at l -/
structure LinesAt (H : Hp) (l : Addr) (ls : List (Addr × Int × Int)) : Prop where
  at_ : H l = some (.lst (refs ls))
  prs : Pairs H ls
theorem LinesAt.mono {H H' : Hp} {l : Addr} {ls : List (Addr × Int × Int)} (e : Ex H H') (h : LinesAt H l ls) : LinesAt H' l ls := ⟨e _ _ h.at_, h.prs.mono e⟩
/-- a list of (currency, sort) at a -/
structure AccsAt (H : Hp) (a : Addr) (A : List (Addr × Str × Str)) : Prop where
  at_ : H a = some (.lst (refs A))
  prs : ∀ x ∈ A, H x.1 = some (.tup [.str x.2.1, .str x.2.2])
theorem AccsAt.mono {H H' : Hp} {a : Addr} {A : List (Addr × Str × Str)} (e : Ex H H') (h : AccsAt H a A) : AccsAt H' a A := ⟨e _ _ h.at_, fun x hx => e _ _ (h.prs x hx)⟩
/-- the same ledger, its accounts at the same places -/
structure Grown (L L' : Led) : Prop where
  p : L'.p = L.p
  accs : L'.accs = L.accs
  own : own L' = own L
  n : L'.ents.length = L.ents.length + 1

def spIsDay : Sp := fun vs H Q _ => ∃ n : Int, vs = [.int n] ∧ RetV (.bl (decide (0 ≤ n) && decide (n ≤ 36524))) H Q
def spChkCur : Sp := fun vs H Q _ => ∃ c : Str, vs = [.str c] ∧ Cur3 c ∧ RetV .non H Q
def spInit (Z : Ads) : Sp := fun vs H Q _ => ∃ (p dx : Addr), vs = [.ref p] ∧ H p = some (.ins Z.led dx []) ∧
  ∀ H' L, LedAt Z H' L → L.p = p → L.accs = [] → L.lines = [] → L.ents = [] → L.rev = [] → (∀ a, a ∈ [L.la, L.ll, L.le, L.dr] → H a = none) → Keeps [p] H H' → Q .non H'
def spEntries (Z : Ads) : Sp := fun vs H Q _ => ∃ L, vs = [.ref L.p] ∧ LedAt Z H L ∧ RetV (.int (L.ents.length : Int)) H Q
def spOpen (Z : Ads) : Sp := fun vs H Q _ => ∃ (L : Led) (c s : Str), vs = [.ref L.p, .str c, .str s] ∧ LedAt Z H L ∧ Cur3 c ∧ s ∈ sortsV ∧ L.accs.length < 200 ∧ L.lines.length < 200 ∧
  ∀ H' L' t, LedAt Z H' L' → L'.p = L.p → L'.accs = L.accs ++ [(t, c, s)] → (∃ l, L'.lines = L.lines ++ [(l, [])] ∧ H l = none) → L'.ents = L.ents → L'.rev = L.rev → L'.la = L.la → L'.ll = L.ll → L'.le = L.le → L'.dr = L.dr →
    Keeps [L.la, L.ll] H H' → Q (.int (L'.accs.length : Int)) H'
def spHead (Z : Ads) : Sp := fun vs H Q E => ∃ (L : Led) (day value : Int) (cause : Str), vs = [.ref L.p, .int day, .int value, .str cause] ∧ LedAt Z H L ∧ L.ents.length ≤ 2000 ∧ cause.length ≤ sizeLine ∧ Bad Z E H ∧ RetV .non H Q
def spLines (Z : Ads) : Sp := fun vs H Q E => ∃ (L : Led) (l : Addr) (ls : List (Addr × Int × Int)), vs = [.ref L.p, .ref l] ∧ LedAt Z H L ∧ LinesAt H l ls ∧ Bad Z E H ∧ ∀ H', Ex H H' → Good L.accs ls → Q .non H'
def spAdd (Z : Ads) : Sp := fun vs H Q E => ∃ (L : Led) (day value : Int) (cause : Str) (l : Addr) (ls : List (Addr × Int × Int)) (rv : V), vs = [.ref L.p, .int day, .int value, .str cause, .ref l, rv] ∧ LedAt Z H L ∧ LedOk L ∧
  l ∉ own L ∧ LinesAt H l ls ∧ Good L.accs ls ∧ Bad Z E H ∧ ∀ H' L', LedAt Z H' L' → LedOk L' → Grown L L' → L'.rev = L.rev → Keeps (own L) H H' → Q (.int (L'.ents.length : Int)) H'
def spPost (Z : Ads) : Sp := fun vs H Q E => ∃ (L : Led) (day value : Int) (cause : Str) (l : Addr) (ls : List (Addr × Int × Int)), vs = [.ref L.p, .int day, .int value, .str cause, .ref l] ∧ LedAt Z H L ∧ LedOk L ∧
  l ∉ own L ∧ LinesAt H l ls ∧ cause.length ≤ sizeLine ∧ Bad Z E H ∧ ∀ H' L', LedAt Z H' L' → LedOk L' → Grown L L' → Keeps (own L) H H' → Q (.int (L'.ents.length : Int)) H'
def spReverse (Z : Ads) : Sp := fun vs H Q E => ∃ (L : Led) (n day : Int) (cause : Str), vs = [.ref L.p, .int n, .int day, .str cause] ∧ LedAt Z H L ∧ LedOk L ∧ cause.length ≤ sizeLine ∧ Bad Z E H ∧
  ∀ H' L', LedAt Z H' L' → LedOk L' → Grown L L' → Keeps (own L) H H' → Q (.int (L'.ents.length : Int)) H'
/-- the tuple that entry hands out -/
def entT (n : Int) (x : Ent) (l : Addr) (u : V) : List V := [.int n, .int x.day, .int x.value, .str x.cause, .ref l, x.rev, u]
def spEntry (Z : Ads) : Sp := fun vs H Q E => ∃ (L : Led) (n : Int), vs = [.ref L.p, .int n] ∧ LedAt Z H L ∧ L.ents.length ≤ 2000 ∧ (∀ x ∈ L.ents, x.2.lines.length ≤ 20) ∧ (¬ (1 ≤ n ∧ n ≤ (L.ents.length : Int)) → Bad Z E H) ∧
  ∀ (k : Nat) x, n = (k : Int) + 1 → L.ents[k]? = some x → ∀ H' t l u, Ex H H' → H l = none → H' t = some (.tup (entT n x.2 l u)) → H' l = some (.lst (refs x.2.lines)) → Q (.ref t) H'
def spAccount (Z : Ads) : Sp := fun vs H Q E => ∃ (L : Led) (n : Int), vs = [.ref L.p, .int n] ∧ LedAt Z H L ∧ (¬ (1 ≤ n ∧ n ≤ (L.accs.length : Int)) → Bad Z E H) ∧
  ∀ (k : Nat) x, n = (k : Int) + 1 → L.accs[k]? = some x → RetV (.ref x.1) H Q
def spCurOf (Z : Ads) : Sp := fun vs H Q E => ∃ (L : Led) (n : Int), vs = [.ref L.p, .int n] ∧ LedAt Z H L ∧ (¬ (1 ≤ n ∧ n ≤ (L.accs.length : Int)) → Bad Z E H) ∧
  ∀ (k : Nat) x, n = (k : Int) + 1 → L.accs[k]? = some x → RetV (.str x.2.1) H Q
def spSortOf (Z : Ads) : Sp := fun vs H Q _ => ∃ (L : Led) (k : Nat) (x : Addr × Str × Str), vs = [.ref L.p, .int ((k : Int) + 1)] ∧ LedAt Z H L ∧ L.accs[k]? = some x ∧ RetV (.str x.2.2) H Q
def spLinesOf (Z : Ads) : Sp := fun vs H Q _ => ∃ (L : Led) (k : Nat) (x : Addr × List (Addr × Ln)), vs = [.ref L.p, .int ((k : Int) + 1)] ∧ LedAt Z H L ∧ k < L.accs.length ∧ L.lines[k]? = some x ∧ x.2.length ≤ 40000 ∧ RetL (refs x.2) H Q
def spBalance (Z : Ads) : Sp := fun vs H Q _ => ∃ (L : Led) (k : Nat) (b v : Option Int), vs = [.ref L.p, .int ((k : Int) + 1), optV b, optV v] ∧ LedAt Z H L ∧ LedOk L ∧ k < L.accs.length ∧ RetV (.int (balAt L b v k)) H Q
def spSums (Z : Ads) : Sp := fun vs H Q _ => ∃ (L : Led) (c : Str) (b v : Option Int), vs = [.ref L.p, .str c, optV b, optV v] ∧ LedAt Z H L ∧ LedOk L ∧ RetL ((sumsTo L.accs c (balAt L b v) L.accs.length).map V.int) H Q

/-! ### the promises of the law's own defs -/
/-- a list of numbers at a -/
def IntsAt (H : Hp) (a : Addr) (ns : List Int) : Prop := H a = some (.lst (ns.map V.int))
theorem IntsAt.mono {H H' : Hp} {a : Addr} {ns : List Int} (e : Ex H H') (h : IntsAt H a ns) : IntsAt H' a ns := e _ _ h
def spNumbers : Sp := fun vs H Q _ => ∃ (c : Int) (n : Nat), vs = [.int c, .int (n : Int)] ∧ n ≤ 100 ∧ ∀ H' p ns, H p = none → Ex H H' → ns.length = n → IntsAt H' p ns → Q (.ref p) H'
def spKinds (Z : Ads) (a : Addr) (cls : Value) (d : Option Addr) : Sp := fun vs H Q _ => vs = [.ref a] ∧ (∃ D ∈ Z.five, cls = .ref D) ∧ d = none ∧
  ∀ H' p (xs : List Str), xs ≠ [] → (∀ x ∈ xs, PyData.canLay0 (.str x) = true) → Ex H H' → H' p = some (.lst (xs.map V.str)) → Q (.ref p) H'
def spCurs : Sp := fun vs H Q _ => ∃ (a : Addr) (ns : List Int), vs = [.ref a] ∧ IntsAt H a ns ∧ 5 ≤ ns.length ∧ ∀ H' p c d, Cur3 c → Cur3 d → H p = none → Ex H H' → H' p = some (.lst [.str c, .str d]) → Q (.ref p) H'
def spAccs : Sp := fun vs H Q _ => ∃ (a : Addr) (ns : List Int), vs = [.ref a] ∧ IntsAt H a ns ∧ 50 ≤ ns.length ∧
  ∀ H' p A, H p = none → Ex H H' → 2 ≤ A.length → A.length ≤ 21 → (∀ x ∈ A, Cur3 x.2.1 ∧ x.2.2 ∈ sortsV) → AccsAt H' p A → Q (.ref p) H'
def unitsF (n : Int) : Int := if n % 2 = 1 then 1 + n / 2 % 9 else 1 + n / 2 % 10 ^ (9 : Int).toNat
def spUnits : Sp := fun vs H Q _ => ∃ n : Int, vs = [.int n] ∧ RetV (.int (unitsF n)) H Q
def spGroup : Sp := fun vs H Q _ => ∃ (a b : Addr) (ns : List Int) (i : Nat) (A : List (Addr × Str × Str)), vs = [.ref a, .int (i : Int), .ref b] ∧ IntsAt H a ns ∧ i + 5 < ns.length ∧ AccsAt H b A ∧ 1 ≤ A.length ∧ A.length ≤ 200 ∧
  ∀ H' p ls, H p = none → Ex H H' → 2 ≤ ls.length → ls.length ≤ 3 → LinesAt H' p ls → Q (.ref p) H'
def spWLines : Sp := fun vs H Q _ => ∃ (a b : Addr) (ns : List Int) (A : List (Addr × Str × Str)), vs = [.ref a, .ref b] ∧ IntsAt H a ns ∧ 60 ≤ ns.length ∧ AccsAt H b A ∧ 1 ≤ A.length ∧ A.length ≤ 200 ∧
  ∀ H' p ls, H p = none → Ex H H' → 2 ≤ ls.length → ls.length ≤ 18 → LinesAt H' p ls → Q (.ref p) H'
/-- a deed's four parts as a tuple at t -/
structure PostAt (H : Hp) (t : Addr) (m n : Nat) (l : Addr) (ls : List (Addr × Int × Int)) : Prop where
  at_ : ∃ (day value : Int) (cause : Str), H t = some (.tup [.int day, .int value, .str cause, .ref l]) ∧ cause.length ≤ m
  lin : LinesAt H l ls
  few : ls.length ≤ n
def spWEntry : Sp := fun vs H Q _ => ∃ (a b : Addr) (ns : List Int) (A : List (Addr × Str × Str)) (last : Int), vs = [.ref a, .ref b, .int last] ∧ IntsAt H a ns ∧ 60 ≤ ns.length ∧ AccsAt H b A ∧ 1 ≤ A.length ∧ A.length ≤ 200 ∧
  ∀ H' t l ls, Ex H H' → 2 ≤ ls.length → PostAt H' t 100 18 l ls → Q (.ref t) H'
def spSpoilt : Sp := fun vs H Q _ => ∃ (kind number at_ count : Int) (t l : Addr) (ls : List (Addr × Int × Int)), vs = [.int kind, .int number, .int at_, .ref t, .int count] ∧ 1 ≤ ls.length ∧ PostAt H t 100 18 l ls ∧
  ∀ H' t' l' ls', Ex H H' → PostAt H' t' 1000 1000 l' ls' → Q (.ref t') H'
def spDeed (Z : Ads) : Sp := fun vs H Q _ => ∃ (L : Led) (a b : Addr) (ns : List Int) (A : List (Addr × Str × Str)) (start : Int), vs = [.ref L.p, .ref b, .ref a, .int start] ∧ LedAt Z H L ∧ LedOk L ∧ IntsAt H a ns ∧ 63 ≤ ns.length ∧
  AccsAt H b A ∧ 1 ≤ A.length ∧ A.length ≤ 200 ∧
  (∀ H' L' r, LedAt Z H' L' → LedOk L' → Grown L L' → Keeps (own L) H H' → H' r = some (.lst []) → Q (.ref r) H') ∧
  (∀ H' r (xs : List Str), Ex H H' → xs ≠ [] → (∀ x ∈ xs, PyData.canLay0 (.str x) = true) → H' r = some (.lst (xs.map V.str)) → Q (.ref r) H')
def spWLed (Z : Ads) : Sp := fun vs H Q _ => ∃ (b : Addr) (A : List (Addr × Str × Str)), vs = [.ref b] ∧ AccsAt H b A ∧ A.length ≤ 100 ∧ (∀ x ∈ A, Cur3 x.2.1 ∧ x.2.2 ∈ sortsV) ∧
  ∀ H' L, LedAt Z H' L → LedOk L → L.ents = [] → L.accs.map (·.2) = A.map (·.2) → Ex H H' → (∀ x ∈ own L, H x = none) → Q (.ref L.p) H'
def spDay : Sp := fun vs H Q _ => ∃ (n : Int) (a : Addr) (ds : List Int), vs = [.int n, .ref a] ∧ IntsAt H a ds ∧ 1 ≤ ds.length ∧ ds.length ≤ 100000 ∧ ∀ o : Option Int, RetV (optV o) H Q
def spSumsR (Z : Ads) : Sp := fun vs H Q _ => ∃ (L : Led) (a : Addr) (A : List (Addr × Str × Str)) (c : Str) (b v : Option Int), vs = [.ref L.p, .ref a, .str c, optV b, optV v] ∧ LedAt Z H L ∧ LedOk L ∧ AccsAt H a A ∧ A.map (·.2) = L.accs.map (·.2) ∧ RetV (.bl true) H Q
def spEntsR (Z : Ads) : Sp := fun vs H Q _ => ∃ (L : Led) (a : Addr) (A : List (Addr × Str × Str)), vs = [.ref L.p, .ref a] ∧ LedAt Z H L ∧ LedOk L ∧ AccsAt H a A ∧ A.map (·.2) = L.accs.map (·.2) ∧ RetV (.bl true) H Q
def spRight (Z : Ads) : Sp := fun vs H Q _ => ∃ (L : Led) (a n : Addr) (A : List (Addr × Str × Str)) (ns : List Int), vs = [.ref L.p, .ref a, .ref n] ∧ LedAt Z H L ∧ LedOk L ∧ AccsAt H a A ∧ A.map (·.2) = L.accs.map (·.2) ∧ IntsAt H n ns ∧ 50 ≤ ns.length ∧ RetV (.bl true) H Q
def spLaw (K : PySem.W.Frag) : Sp := fun vs H Q _ => ∃ (a : Addr) (ns : List Int), vs = [.ref a] ∧ SqL K H a (ns.map V.int) ∧ ns.length ≤ 63 ∧ ∀ H', Q (.bl true) H'
end
section
/-! What expressions evaluate to: further rows beside Evl. -/
open PySem PySem.Spec PyProof.Rows L2 Evl
section
variable {K : PySem.W.Frag} {σ : L2.St} {H H' : Hp} {ta tb tc te tx : TE} {t u : TT} {x y z v : V} {r r2 : R2} {W : WX} {C dx p : Addr} {m : Str} {sp : Sp} {ar : TA} {vs xs : List V} {fs : List (Str × V)}
theorem ev_fld {f : Str} (ha : Ev ta σ H (.ref p)) (ho : H p = some (.ins C dx fs)) (hc : Cls K C) (hn : NoAttr K C f) (hl : fs.lookup f = some v) : Ev (tFld K ta f) σ H v := fun H1 e Q q =>
  ha H1 e _ fun H2 e2 => ⟨p, C, dx, fs, v, rfl, e2 _ _ (e _ _ ho), hc, hn, hl, q H2 e2⟩
theorem ev_cS (h : EvA ar σ H vs) (hs : SpV sp vs H z) : Ev (tCallS sp (WE W) ar) σ H z := fun H1 e Q q =>
  h H1 e _ fun H2 e2 => hs H2 (e.trans e2) Q (fun H3 e3 => q H3 (e2.trans e3)) _
theorem el_cS (h : EvA ar σ H vs) (hs : SpL sp vs H xs) : EvL (tCallS sp (WE W) ar) σ H xs := fun H1 e Q q =>
  h H1 e _ fun H2 e2 => hs H2 (e.trans e2) Q (fun q1 H3 hp e3 h3 => q q1 H3 (fresh_back e2 hp) (e2.trans e3) h3) _
theorem ev_mt (ha : Ev ta σ H (.ref p)) (ho : H p = some (.ins C dx fs)) (hl : fs.lookup m = none) (h : EvA ar σ H vs) (hs : SpV sp (.ref p :: vs) H z) : Ev (tMt C m sp W ta ar) σ H z := fun H1 e Q q =>
  ha H1 e _ fun H2 e2 => ⟨p, dx, fs, rfl, e2 _ _ (e _ _ ho), hl, h H2 (e.trans e2) _ fun H3 e3 => hs H3 ((e.trans e2).trans e3) Q (fun H4 e4 => q H4 ((e2.trans e3).trans e4)) _⟩
theorem el_mt (ha : Ev ta σ H (.ref p)) (ho : H p = some (.ins C dx fs)) (hl : fs.lookup m = none) (h : EvA ar σ H vs) (hs : SpL sp (.ref p :: vs) H xs) : EvL (tMt C m sp W ta ar) σ H xs := fun H1 e Q q =>
  ha H1 e _ fun H2 e2 => ⟨p, dx, fs, rfl, e2 _ _ (e _ _ ho), hl, h H2 (e.trans e2) _ fun H3 e3 => hs H3 ((e.trans e2).trans e3) Q (fun q1 H4 hp e4 h4 => q q1 H4 (fresh_back (e2.trans e3) hp) ((e2.trans e3).trans e4) h4) _⟩
theorem ev_chain {b c : Bool} (ha : Ev ta σ H x) (hb : Ev tb σ H y) (hc : Ev tc σ H z) (h1 : RV r x y H (.bl b)) (h2 : RV r2 y z H (.bl c)) : Ev (tChain r r2 ta tb tc) σ H (.bl (b && c)) := fun H1 e Q q =>
  ha H1 e _ fun H2 e2 => hb H2 (e.trans e2) _ fun H3 e3 => h1 H3 ((e.trans e2).trans e3) _ fun H4 e4 => ⟨b, rfl, by
    cases b with
    | true => exact iteT (hc H4 (((e.trans e2).trans e3).trans e4) _ fun H5 e5 => h2 H5 ((((e.trans e2).trans e3).trans e4).trans e5) Q fun H6 e6 => q H6 ((((e2.trans e3).trans e4).trans e5).trans e6))
    | false => exact iteF (q H4 ((e2.trans e3).trans e4))⟩
theorem et_tru {k : Bool} (ha : Ev ta σ H x) (h : ∀ H1, Ex H H1 → TruV K x H1 k) : EvT (fun σ H Q => ta σ H fun x H' => ∃ k, TruV K x H' k ∧ Q k H') σ H k := fun H1 e Q q =>
  ha H1 e _ fun H2 e2 => ⟨k, h H2 (e.trans e2), q H2 e2⟩
theorem rv_isN : RV (fun x y H Q => y = .non ∧ Q (.bl (decide (x = .non))) H) x .non H (.bl (decide (x = .non))) := fun H1 _ _ q => ⟨rfl, q H1 (Ex.refl H1)⟩
theorem rv_notN : RV (fun x y H Q => y = .non ∧ Q (.bl (!decide (x = .non))) H) x .non H (.bl (!decide (x = .non))) := fun H1 _ _ q => ⟨rfl, q H1 (Ex.refl H1)⟩
theorem rv_addS {a b : Str} (h : a.length + b.length ≤ sizeLine) : RV (fun x y H Q => ∃ i j, x = .str i ∧ y = .str j ∧ i.length + j.length ≤ sizeLine ∧ Q (.str (i ++ j)) H) (.str a) (.str b) H (.str (a ++ b)) := fun H1 _ _ q => ⟨a, b, rfl, rfl, h, q H1 (Ex.refl H1)⟩
theorem rv_leS {a b : Str} : RV (fun x y H Q => ∃ i j, x = .str i ∧ y = .str j ∧ Q (.bl (!decide (j.cps.toList < i.cps.toList))) H) (.str a) (.str b) H (.bl (!decide (b.cps.toList < a.cps.toList))) := fun H1 _ _ q => ⟨a, b, rfl, rfl, q H1 (Ex.refl H1)⟩
/-- an item of a list of numbers -/
theorem rv_ixI {ns : List Int} {i : Int} (h : IntsAt H p ns) (h0 : 0 ≤ i) (h1 : i < (ns.length : Int)) : RV (rIxL K) (.ref p) (.int i) H (.int (ns.getD i.toNat 0)) := by
  refine rv_ixL (sq_of h) ?_
  have e : i = ((i.toNat : Nat) : Int) := by omega
  rw [e]
  refine atI_nat ?_
  rw [List.getElem?_map, List.getD_eq_getElem?_getD]
  have hl : i.toNat < ns.length := by omega
  rw [Int.toNat_natCast, List.getElem?_eq_getElem hl]
  rfl
/-- an item of a list of things -/
theorem rv_ixR {α : Type} {l : List (Addr × α)} {i : Int} {k : Nat} {w : Addr × α} (h : H p = some (.lst (refs l))) (e : i = (k : Int)) (hk : l[k]? = some w) : RV (rIxL K) (.ref p) (.int i) H (.ref w.1) := by
  refine rv_ixL (sq_of h) ?_
  rw [e]
  exact atI_nat (refs_get hk)
theorem ev_lenS {a : Str} (ha : Ev ta σ H (.str a)) (h : a.length ≤ sizeLine) : Ev (tCB (fun xs H Q => ∃ z, xs = [.str z] ∧ z.length ≤ sizeLine ∧ Q (.int z.length) H) (tCons ta tNil)) σ H (.int (a.length : Int)) := fun H1 e Q q =>
  ha H1 e _ fun H2 e2 => ⟨a, rfl, h, q H2 e2⟩
theorem ev_lenL (ha : Ev ta σ H (.ref p)) (h : SqL K H p xs) : Ev (tCB (fun xs H Q => ∃ p ys, xs = [.ref p] ∧ (SqL K H p ys ∨ SqT K H p ys) ∧ Q (.int ys.length) H) (tCons ta tNil)) σ H (.int (xs.length : Int)) := ev_len ha h
theorem ev_lenT (ha : Ev ta σ H (.ref p)) (h : SqT K H p xs) : Ev (tCB (fun xs H Q => ∃ p ys, xs = [.ref p] ∧ (SqL K H p ys ∨ SqT K H p ys) ∧ Q (.int ys.length) H) (tCons ta tNil)) σ H (.int (xs.length : Int)) := fun H1 e Q q =>
  ha H1 e _ fun H2 e2 => ⟨p, xs, rfl, Or.inr (ex_t (e.trans e2) h), q H2 e2⟩
theorem ev_min {i j : Int} (ha : Ev ta σ H (.int i)) (hb : Ev tb σ H (.int j)) : Ev (tCB (fun xs H Q => ∃ i j, xs = [.int i, .int j] ∧ Q (.int (if j < i then j else i)) H) (tCons ta (tCons tb tNil))) σ H (.int (if j < i then j else i)) := fun H1 e Q q =>
  ha H1 e _ fun H2 e2 => hb H2 (e.trans e2) _ fun H3 e3 => ⟨i, j, rfl, q H3 (e2.trans e3)⟩
theorem ev_max {i j : Int} (ha : Ev ta σ H (.int i)) (hb : Ev tb σ H (.int j)) : Ev (tCB (fun xs H Q => ∃ i j, xs = [.int i, .int j] ∧ Q (.int (if j > i then j else i)) H) (tCons ta (tCons tb tNil))) σ H (.int (if j > i then j else i)) := ev_max2 ha hb
theorem ev_int {i : Int} (ha : Ev ta σ H (.int i)) : Ev (tCB (fun xs H Q => (∃ i, xs = [.int i] ∧ Q (.int i) H) ∨ ∃ k, xs = [.bl k] ∧ Q (.int (if k then 1 else 0)) H) (tCons ta tNil)) σ H (.int i) := fun H1 e Q q =>
  ha H1 e _ fun H2 e2 => Or.inl ⟨i, rfl, q H2 e2⟩
end
end
open PySem PySem.Spec PyProof.Rows L2 Evl
local macro_rules | `(tactic| walk_at "side") => `(tactic| first
  | assumption
  | rfl
  | omega
  | (dsimp only; omega)
  | exact ⟨by omega, by omega⟩
  | exact Or.inl ⟨by omega, by omega⟩
  | exact Or.inr ⟨by omega, by omega⟩
  | decide
  | (dsimp only; decide))
local macro_rules | `(tactic| walk_at "ev") => `(tactic| repeat' (first
  | exact ev_c
  | exact ev_var rfl
  | exact ea_nil
  | apply ea_cons
  | apply ev_chain
  | apply ev_op
  | apply ev_un
  | exact rv_I0
  | exact ru_neg
  | exact rv_eq rfl
  | exact rv_ne rfl
  | exact rv_isN
  | exact rv_notN
  | exact rv_leS
  | (apply rv_I; walk_at "side")
  | apply et_test
  | apply et_B
  | apply et_and
  | apply et_or
  | apply et_not
  | apply ev_min
  | apply ev_max
  | apply ev_int
  | (apply rv_ixI; (first | assumption | skip); (first | omega | skip); (first | omega | skip))))
section
open PySem PySem.Spec PyProof.Rows L2 Evl
section
variable {P : Program} {w : World} {K : PySem.W.Frag} {mg : Str → Option Value} {base : Heap} {Z : Ads}

theorem ok_is_day {f : Addr} {fd : FuncData} (F : Fun K "is_day" "is_day" s_is_day f fd) (T : Txt K mg Z) : FnOk P w K mg base (L2.CX P w) 1 f fd ["number"] spIsDay := by
  refine F.okX sc_is_day (fun vs H Q E h => ?_) (fun cdv A outer s H vs Q E hr h => ?_)
  · obtain ⟨n, rfl, _⟩ := h
    rfl
  · obtain ⟨n, rfl, k⟩ := h
    refine ⟨_, (pss_one (ps_ret (pe_chain op_le op_le pe_int (pv 0) (pgv T.g_LAST_DAY)))), ?_⟩
    refine s_ret (v := .bl (decide (0 ≤ n) && decide (n ≤ 36524))) (by walk_at "ev") k
theorem ok_entries {f : Addr} {fd : FuncData} (F : Fun K "entries" "Ledger.entries" s_entries f fd) (T : Txt K mg Z) : FnOk P w K mg base (L2.CX P w) 1 f fd ["self"] (spEntries Z) := by
  refine F.okX sc_entries (fun vs H Q E h => ?_) (fun cdv A outer s H vs Q E hr h => ?_)
  · obtain ⟨L, rfl, _⟩ := h
    rfl
  · obtain ⟨L, rfl, hL, k⟩ := h
    refine ⟨_, (pss_one (ps_ret (pe_callB call_len_seq (by rfl) T.n_len PySem.boot_len (pa_cons (pe_fld (pv 0) rfl) pa_nil)))), ?_⟩
    refine s_ret (v := .int (L.ents.length : Int)) ?_ k
    refine ev_is (ev_lenL (ev_fld (ev_var rfl) hL.ins T.cl T.a3 (by rfl)) (sq_of hL.ent)) ?_
    rw [refs_len]
end
end
section
open PySem PySem.Spec PyProof.Rows L2 Evl
section
variable {P : Program} {w : World} {K : PySem.W.Frag} {mg : Str → Option Value} {base : Heap} {Z : Ads}

theorem one_lt {a b : Nat} (h : b ≤ a) : decide (([a] : List Nat) < [b]) = false := by
  refine decide_eq_false fun z => ?_
  rw [List.cons_lt_cons_iff] at z
  rcases z with z | ⟨_, z⟩
  · omega
  · exact absurd z (by decide)
theorem ok_check_currency {f : Addr} {fd : FuncData} (F : Fun K "check_currency" "check_currency" s_check_currency f fd) (T : Txt K mg Z) : FnOk P w K mg base (L2.CX P w) 1 f fd ["currency"] spChkCur := by
  refine F.okX sc_check_currency (fun vs H Q E h => ?_) (fun cdv A outer s H vs Q E hr h => ?_)
  · obtain ⟨n, rfl, _⟩ := h
    rfl
  · obtain ⟨c, rfl, ⟨x, y, z, rfl, hx, hy, hz⟩, k⟩ := h
    refine ⟨_, (pss_cons (ps_if (pt_cmpR op_ne (pe_callB call_len_str (by rfl) T.n_len PySem.boot_len (pa_cons (pv 0) pa_nil)) pe_int (nomark _)) (pss_one (p_raise T.BadValue (takes_of rfl rfl rfl rfl))) pss_nil)
      (pss_one (ps_for (passes_of rfl) rfl (pi_str (pv 0)) (pg_name (i := 1) sc_check_currency.nd rfl (Or.inl rfl)) (pss_one (ps_if (pt_not (pt_chain op_le_str op_le_str pe_str (pv 1) pe_str)) (pss_one (p_raise T.BadValue (takes_of rfl rfl rfl rfl))) pss_nil))))), ?_⟩
    refine q_when (b := false) (et_is (et_test (ev_op (ev_lenS (ev_var rfl) (by show 3 ≤ sizeLine; decide)) ev_c (rv_ne rfl))) (by rw [decide_eq_true (by rfl)]; rfl)) (fun hb => by cases hb) fun _ H1 e1 => ?_
    refine ⟨_, rfl, _, rfl, for_it walk_str (fun i σ' H' => ∃ v, σ' = [some (.str ⟨#[x, y, z]⟩), v] ∧ Ex H H') ⟨none, rfl, e1⟩ (fun _ _ _ _ _ => trivial) ?_ ?_⟩
    · rintro i v σ' H' H2 hi ⟨v0, rfl, e⟩ ⟨rfl, cc, hcc, rfl⟩
      have hr1 : 65 ≤ cc ∧ cc ≤ 90 := by
        have hi3 : i < 3 := hi
        rcases i with _ | _ | _ | i
        · cases hcc
          exact hx
        · cases hcc
          exact hy
        · cases hcc
          exact hz
        · omega
      refine s_when (b := false) (et_is (et_not (et_test (ev_chain ev_c (ev_var rfl) ev_c rv_leS rv_leS))) ?_) (fun hb => by cases hb) fun _ H3 e3 => ⟨_, rfl, e.trans e3⟩
      show (!(!decide (([cc] : List Nat) < [65]) && !decide (([90] : List Nat) < [cc]))) = false
      rw [one_lt hr1.1, one_lt hr1.2]
      rfl
    · rintro σ' H' ⟨v0, rfl, e⟩
      exact k H' e
/-- self.f = [] | self.f = {} -/
theorem fld_list {σ : L2.St} {H : Hp} {D : Ends} {p C dx : Addr} {fs : List (Str × V)} {f : Str} (hs : σ[0]? = some (some (.ref p))) (hp : H p = some (.ins C dx fs)) (hc : Cls K C) (hn : NoAttr K C f) (hl : fs.length < 1000)
    (k : ∀ l H1, H l = none → H1 l = some (.lst []) → H1 p = some (.ins C dx (putF f (.ref l) fs)) → Keeps [p] H H1 → D.nx σ H1) : sFld K (tVar 0) (tLst tNil) f D σ H := by
  refine ⟨Nat.zero_le _, fun l hl0 => ?_⟩
  have n1 : p ≠ l := ne_of_none hp hl0
  refine ⟨_, hs, p, C, dx, fs, rfl, (by rw [upd_ne n1]; exact hp), hc, hn, hl, k l _ hl0 (by rw [upd_ne n1.symm, upd_same]) upd_same fun a o na ha => ?_⟩
  rw [upd_ne (fun e => na (by rw [e]; exact List.mem_cons_self)), upd_ne (ne_of_none ha hl0)]
  exact ha
theorem fld_dict {σ : L2.St} {H : Hp} {D : Ends} {p C dx : Addr} {fs : List (Str × V)} {f : Str} (hs : σ[0]? = some (some (.ref p))) (hp : H p = some (.ins C dx fs)) (hc : Cls K C) (hn : NoAttr K C f) (hl : fs.length < 1000)
    (k : ∀ l H1, H l = none → H1 l = some (.dK []) → H1 p = some (.ins C dx (putF f (.ref l) fs)) → Keeps [p] H H1 → D.nx σ H1) : sFld K (tVar 0) tDNewK f D σ H := by
  intro l hl0
  have n1 : p ≠ l := ne_of_none hp hl0
  refine ⟨_, hs, p, C, dx, fs, rfl, (by rw [upd_ne n1]; exact hp), hc, hn, hl, k l _ hl0 (by rw [upd_ne n1.symm, upd_same]) upd_same fun a o na ha => ?_⟩
  rw [upd_ne (fun e => na (by rw [e]; exact List.mem_cons_self)), upd_ne (ne_of_none ha hl0)]
  exact ha
theorem ok_init {f : Addr} {fd : FuncData} (F : Fun K "__init__" "Ledger.__init__" s_init f fd) (T : Txt K mg Z) : FnOk P w K mg base (L2.CX P w) 1 f fd ["self"] (spInit Z) := by
  refine F.okX sc_init (fun vs H Q E h => ?_) (fun cdv A outer s H vs Q E hr h => ?_)
  · obtain ⟨p, dx, rfl, _⟩ := h
    rfl
  · obtain ⟨p, dx, rfl, hp, k⟩ := h
    refine ⟨_, (pss_cons (ps_fld (pv 0) (pe_lst pa_nil) rfl)
      (pss_cons (ps_fld (pv 0) (pe_lst pa_nil) rfl)
      (pss_cons (ps_fld (pv 0) (pe_lst pa_nil) rfl)
      (pss_one (ps_fld (pv 0) pe_dnewK rfl))))), ?_⟩
    refine fld_list rfl hp T.cl T.a1 (by decide) fun la H1 la0 la1 hp1 k1 => ?_
    refine fld_list rfl hp1 T.cl T.a2 (by show 1 < 1000; decide) fun ll H2 ll0 ll1 hp2 k2 => ?_
    refine fld_list rfl hp2 T.cl T.a3 (by show 2 < 1000; decide) fun le H3 le0 le1 hp3 k3 => ?_
    refine fld_dict rfl hp3 T.cl T.a4 (by show 3 < 1000; decide) fun dr H4 dr0 dr1 hp4 k4 => ?_
    have np : ∀ {G : Hp} {a : Addr} {o : HO}, G a = some o → (∀ fs, o ≠ .ins Z.led dx fs) → ∀ {fs}, G p = some (.ins Z.led dx fs) → a ∉ [p] := fun {G a o} ha hne {fs} hpp m => by
      have e : a = p := List.mem_singleton.mp m
      rw [e, hpp] at ha
      exact hne fs (Option.some.inj ha).symm
    have la2 := k2 la _ (np la1 (by intro fs z; cases z) hp1) la1
    have la3 := k3 la _ (np la2 (by intro fs z; cases z) hp2) la2
    have la4 := k4 la _ (np la3 (by intro fs z; cases z) hp3) la3
    have ll3 := k3 ll _ (np ll1 (by intro fs z; cases z) hp2) ll1
    have ll4 := k4 ll _ (np ll3 (by intro fs z; cases z) hp3) ll3
    have le4 := k4 le _ (np le1 (by intro fs z; cases z) hp3) le1
    have up1 : ∀ {a : Addr}, H1 a = none → H a = none := fun {a} ha => by
      cases c : H a with
      | none => rfl
      | some o =>
        have nm : a ∉ [p] := fun m => by
          rw [List.mem_singleton.mp m, hp1] at ha
          cases ha
        rw [k1 a o nm c] at ha
        cases ha
    have up2 : ∀ {a : Addr}, H2 a = none → H1 a = none := fun {a} ha => by
      cases c : H1 a with
      | none => rfl
      | some o =>
        have nm : a ∉ [p] := fun m => by
          rw [List.mem_singleton.mp m, hp2] at ha
          cases ha
        rw [k2 a o nm c] at ha
        cases ha
    have up3 : ∀ {a : Addr}, H3 a = none → H2 a = none := fun {a} ha => by
      cases c : H2 a with
      | none => rfl
      | some o =>
        have nm : a ∉ [p] := fun m => by
          rw [List.mem_singleton.mp m, hp3] at ha
          cases ha
        rw [k3 a o nm c] at ha
        cases ha
    have d1 : la ≠ ll := ne_of_none la1 ll0
    have d2 : la ≠ le := ne_of_none la2 le0
    have d3 : ll ≠ le := ne_of_none ll1 le0
    refine k H4 ⟨p, dx, la, ll, le, dr, [], [], [], []⟩ ?_ rfl rfl rfl rfl rfl (fun a ha => ?_) (((k1.trans k2).trans k3).trans k4)
    · exact ⟨hp4, la4, (by intro _ hx; cases hx), ll4, (by intro _ hx; cases hx), (by intro _ hx; cases hx), le4, (by intro _ hx; cases hx), (by intro _ hx; cases hx), (by intro _ hx; cases hx), dr1, by simp [d1, d2, d3]⟩
    · rcases List.mem_cons.mp ha with e | ha
      · rw [e]
        exact la0
      rcases List.mem_cons.mp ha with e | ha
      · rw [e]
        exact up1 ll0
      rcases List.mem_cons.mp ha with e | ha
      · rw [e]
        exact up1 (up2 le0)
      rcases List.mem_cons.mp ha with e | ha
      · rw [e]
        exact up1 (up2 (up3 dr0))
      · cases ha
end
end
section
open PySem PySem.Spec PyProof.Rows L2 Evl
section
variable {P : Program} {w : World} {K : PySem.W.Frag} {mg : Str → Option Value} {base : Heap} {Z : Ads}

theorem upd_keep {H : Hp} {a b : Addr} {o u : HO} (h : H b = some u) (ne : b ≠ a) : upd H a o b = some u := by
  rw [upd_ne ne]
  exact h
theorem in_sorts {s : Str} (h : s ∈ sortsV) : inV (.str s) (sortsV.map V.str) = true := by
  unfold sortsV at h
  simp only [List.mem_cons, List.not_mem_nil, or_false] at h
  rcases h with e | e | e | e | e <;> (rw [e]; decide +kernel)
/-- an account more -/
theorem led_acc {H : Hp} {L : Led} {t : Addr} {c s : Str} (h : LedAt Z H L) (ht : H t = some (.tup [.str c, .str s])) : LedAt Z (upd H L.la (.lst (refs L.accs ++ [.ref t]))) { L with accs := L.accs ++ [(t, c, s)] } := by
  have nd := h.nd
  simp only [List.nodup_cons, List.mem_cons, not_or] at nd
  obtain ⟨⟨d1, d2, d3⟩, ⟨d4, d5⟩, d6, d7⟩ := nd
  have tn : ∀ {a xs}, H a = some (.tup xs) → a ≠ L.la := fun ha => ne_of ha h.acc (by intro z; cases z)
  refine ⟨upd_keep h.ins (ne_of h.ins h.acc (by intro z; cases z)), ?_, fun x hx => ?_, upd_keep h.lin (Ne.symm d1), fun x hx => upd_keep (h.linL x hx) (fun e => d3 (by rw [← e]; exact List.mem_map.mpr ⟨x, hx, rfl⟩)), fun x hx y hy => upd_keep (h.linT x hx y hy) (tn (h.linT x hx y hy)),
    upd_keep h.ent (Ne.symm d2), fun x hx => upd_keep (h.entT x hx) (tn (h.entT x hx)), fun x hx => upd_keep (h.entK x hx) (tn (h.entK x hx)), fun x hx l hl => upd_keep (h.entL x hx l hl) (tn (h.entL x hx l hl)), upd_keep h.rev (ne_of h.rev h.acc (by intro z; cases z)), h.nd⟩
  · rw [upd_same, refs_app]
    rfl
  · rcases List.mem_append.mp hx with m | m
    · exact upd_keep (h.accT x m) (tn (h.accT x m))
    · rw [List.mem_singleton.mp m]
      exact upd_keep ht (tn ht)
/-- a list of lines more -/
theorem led_lin {H : Hp} {L : Led} {l : Addr} (h : LedAt Z H L) (hl : H l = some (.lst [])) (n1 : l ≠ L.la) (n2 : l ≠ L.ll) (n3 : l ≠ L.le) (n4 : l ∉ L.lines.map (·.1)) :
    LedAt Z (upd H L.ll (.lst (refs L.lines ++ [.ref l]))) { L with lines := L.lines ++ [(l, [])] } := by
  have nd0 := h.nd
  have nd := h.nd
  simp only [List.nodup_cons, List.mem_cons, not_or] at nd
  obtain ⟨⟨d1, d2, d3⟩, ⟨d4, d5⟩, d6, d7⟩ := nd
  have tn : ∀ {a xs}, H a = some (.tup xs) → a ≠ L.ll := fun ha => ne_of ha h.lin (by intro z; cases z)
  refine ⟨upd_keep h.ins (ne_of h.ins h.lin (by intro z; cases z)), upd_keep h.acc d1, fun x hx => upd_keep (h.accT x hx) (tn (h.accT x hx)), ?_, fun x hx => ?_, fun x hx y hy => ?_,
    upd_keep h.ent (Ne.symm d4), fun x hx => upd_keep (h.entT x hx) (tn (h.entT x hx)), fun x hx => upd_keep (h.entK x hx) (tn (h.entK x hx)), fun x hx l hl => upd_keep (h.entL x hx l hl) (tn (h.entL x hx l hl)), upd_keep h.rev (ne_of h.rev h.lin (by intro z; cases z)), ?_⟩
  · rw [upd_same, refs_app]
    rfl
  · rcases List.mem_append.mp hx with m | m
    · exact upd_keep (h.linL x m) (fun e => d5 (by rw [← e]; exact List.mem_map.mpr ⟨x, m, rfl⟩))
    · rw [List.mem_singleton.mp m]
      exact upd_keep hl n2
  · rcases List.mem_append.mp hx with m | m
    · exact upd_keep (h.linT x m y hy) (tn (h.linT x m y hy))
    · rw [List.mem_singleton.mp m] at hy
      cases hy
  · show (L.la :: L.ll :: L.le :: (L.lines ++ [(l, [])]).map (fun x : Addr × List (Addr × Ln) => x.1)).Nodup
    rw [List.map_append]
    show ([L.la, L.ll, L.le] ++ (L.lines.map (fun x : Addr × List (Addr × Ln) => x.1) ++ [l])).Nodup
    rw [← List.append_assoc]
    refine nd_snoc nd0 fun m => ?_
    rcases List.mem_append.mp m with m | m
    · simp only [List.mem_cons, List.not_mem_nil, or_false] at m
      rcases m with e | e | e
      · exact n1 e
      · exact n2 e
      · exact n3 e
    · exact n4 m
theorem ok_open_account {f : Addr} {fd : FuncData} (F : Fun K "open_account" "Ledger.open_account" s_open_account f fd) (T : Txt K mg Z) (c_check_currency : Cal P w K mg base 1 "check_currency" spChkCur) :
    FnOk P w K mg base (L2.CX P w) 2 f fd ["self", "currency", "sort"] (spOpen Z) := by
  refine F.okX sc_open_account (fun vs H Q E h => ?_) (fun cdv A outer s H vs Q E hr h => ?_)
  · obtain ⟨L, c, s, rfl, _⟩ := h
    rfl
  · obtain ⟨L, c, s, rfl, hL, hc, hs, hn, hn2, k⟩ := h
    refine ⟨_, (pss_cons (ps_expr (pc c_check_currency (hr.mono (by decide)) rfl (takes_of rfl rfl rfl rfl) (pa_cons (pv 1) pa_nil)))
      (pss_cons (ps_if (pt_cmpR op_notIn_seq (pv 2) (pgv T.g_SORTS) (by rfl)) (pss_one (p_raise T.BadValue (takes_of rfl rfl rfl rfl))) pss_nil)
      (pss_cons (ps_if (pt_cmpR op_ge (pe_callB call_len_seq (by rfl) T.n_len PySem.boot_len (pa_cons (pe_fld (pv 0) rfl) pa_nil)) (pgv T.g_MOST_ACCOUNTS) (nomark _)) (pss_one (p_raise T.Full (takes_of rfl rfl rfl rfl))) pss_nil)
      (pss_cons (ps_expr (pe_bm PySem.F.plainAttrs_list PySem.F.slot_list_append PySem.F.type_list_append mt_append (pe_fld (pv 0) rfl) (pa_cons (pe_tup (pa_cons (pv 1) (pa_cons (pv 2) pa_nil))) pa_nil)))
      (pss_cons (ps_expr (pe_bm PySem.F.plainAttrs_list PySem.F.slot_list_append PySem.F.type_list_append mt_append (pe_fld (pv 0) rfl) (pa_cons (pe_lst pa_nil) pa_nil)))
      (pss_one (ps_ret (pe_callB call_len_seq (by rfl) T.n_len PySem.boot_len (pa_cons (pe_fld (pv 0) rfl) pa_nil))))))))), ?_⟩
    refine q_drop (v := .non) (ev_cS (ea_cons (ev_var rfl) ea_nil) fun H1 _ Q q E => ⟨c, rfl, hc, q⟩) fun H1 e1 => ?_
    replace hL := hL.mono e1
    refine q_when (b := false) (et_is (et_test (ev_op (ev_var rfl) ev_c (rv_niT (T.tSorts _) rfl (by decide +kernel)))) (by rw [in_sorts hs]; rfl)) (fun hb => by cases hb) fun _ H2 e2 => ?_
    replace hL := hL.mono e2
    refine q_when (b := false) (et_is (et_test (ev_op (ev_lenL (ev_fld (ev_var rfl) hL.ins T.cl T.a1 (by rfl)) (sq_of hL.acc)) ev_c rv_I0)) (by rw [refs_len]; exact decide_eq_false (by omega))) (fun hb => by cases hb) fun _ H3 e3 => ?_
    replace hL := hL.mono e3
    refine q_appU hL.acc (ev_fld (ev_var rfl) hL.ins T.cl T.a1 (by rfl)) (eu_tup (ea_cons (ev_var rfl) (ea_cons (ev_var rfl) ea_nil)) (by show 2 ≤ 100000; decide)) (by rw [refs_len]; omega) fun t H4 ht0 e4 ht => ?_
    have hA := led_acc (hL.mono e4) ht
    refine q_appL hA.lin (ev_fld (ev_var rfl) hA.ins T.cl T.a2 (by rfl)) (el_lst ea_nil (by show 0 ≤ 100000; decide)) (by show (refs L.lines).length < 100000; rw [refs_len]; omega) fun l H5 hl0 e5 hl => ?_
    have h0 : H l = none := by
      have z1 : l ≠ L.la := (ne_of_none hA.acc hl0).symm
      have z2 : H4 l = none := by
        rw [upd_ne z1] at hl0
        exact hl0
      exact fresh_back (((e1.trans e2).trans e3).trans e4) z2
    have hB := led_lin (hA.mono e5) hl (ne_of_none hA.acc hl0).symm (ne_of_none hA.lin hl0).symm (ne_of_none hA.ent hl0).symm (fun m => by
      obtain ⟨x, hx, e⟩ := List.mem_map.mp m
      have z := hA.linL x hx
      rw [e, hl0] at z
      cases z)
    refine s_ret (v := .int ((L.accs ++ [(t, c, s)]).length : Int)) (ev_is (ev_lenL (ev_fld (ev_var rfl) hB.ins T.cl T.a1 (by rfl)) (sq_of hB.acc)) (by rw [refs_len])) fun H6 e6 => ?_
    refine k H6 _ t (hB.mono e6) rfl rfl ⟨l, rfl, h0⟩ rfl rfl rfl rfl rfl rfl fun a o na ha => ?_
    have a1 : a ≠ L.la := fun e => na (by rw [e]; exact List.mem_cons_self)
    have a2 : a ≠ L.ll := fun e => na (by rw [e]; exact List.mem_cons_of_mem _ List.mem_cons_self)
    refine e6 _ _ ?_
    show upd H5 L.ll _ a = some o
    refine upd_keep (e5 _ _ ?_) a2
    exact upd_keep (e4 _ _ (e3 _ _ (e2 _ _ (e1 _ _ ha)))) a1
end
end
section
open PySem PySem.Spec PyProof.Rows L2 Evl
section
variable {P : Program} {w : World} {K : PySem.W.Frag} {mg : Str → Option Value} {base : Heap} {Z : Ads}

theorem in_place {α : Type} {l : List α} {n : Int} (h1 : 1 ≤ n) (h2 : n ≤ (l.length : Int)) : ∃ (k : Nat) (x : α), n = (k : Int) + 1 ∧ l[k]? = some x := by
  have hk : (n - 1).toNat < l.length := by omega
  exact ⟨(n - 1).toNat, l[(n - 1).toNat], by omega, List.getElem?_eq_getElem hk⟩
theorem place_in {α : Type} {l : List α} {k : Nat} {x : α} (h : l[k]? = some x) : (1 : Int) ≤ (k : Int) + 1 ∧ (k : Int) + 1 ≤ (l.length : Int) := by
  have := (List.getElem?_eq_some_iff.mp h).1
  omega
theorem ok_account {f : Addr} {fd : FuncData} (F : Fun K "_account" "Ledger._account" s_account f fd) (T : Txt K mg Z) : FnOk P w K mg base (L2.CX P w) 1 f fd ["self", "account"] (spAccount Z) := by
  refine F.okX sc_account (fun vs H Q E h => ?_) (fun cdv A outer s H vs Q E hr h => ?_)
  · obtain ⟨L, n, rfl, _⟩ := h
    rfl
  · obtain ⟨L, n, rfl, hL, hb, k⟩ := h
    refine ⟨_, (pss_cons (ps_if (pt_not (pt_chain op_le op_le pe_int (pv 1) (pe_callB call_len_seq (by rfl) T.n_len PySem.boot_len (pa_cons (pe_fld (pv 0) rfl) pa_nil)))) (pss_one (p_raise T.Missing (takes_of rfl rfl rfl rfl))) pss_nil)
      (pss_one (ps_ret (pe_ix ix_list (pe_fld (pv 0) rfl) (pe_op op_sub (pv 1) pe_int) (fun _ _ => rfl))))), ?_⟩
    refine q_when (b := !(decide (1 ≤ n) && decide (n ≤ (L.accs.length : Int)))) (et_not (et_test (ev_chain ev_c (ev_var rfl) (ev_is (ev_lenL (ev_fld (ev_var rfl) hL.ins T.cl T.a1 (by rfl)) (sq_of hL.acc)) (by rw [refs_len])) rv_I0 rv_I0))) (fun hc H1 e1 => ?_) fun hc H1 e1 => ?_
    · refine hb (fun z => ?_) Z.mis (by simp [Ads.five]) H1 e1
      rw [decide_eq_true z.1, decide_eq_true z.2] at hc
      cases hc
    · have hc2 : 1 ≤ n ∧ n ≤ (L.accs.length : Int) := by
        simpa using hc
      obtain ⟨i, x, hi, hx⟩ := in_place hc2.1 hc2.2
      replace hL := hL.mono e1
      exact s_ret (ev_op (ev_fld (ev_var rfl) hL.ins T.cl T.a1 (by rfl)) (ev_op (ev_var rfl) ev_c rv_I0) (rv_ixR hL.acc (by omega) hx)) fun H2 e2 => k i x hi hx H2 (e1.trans e2)
theorem sv_account {L : Led} {H : Hp} {k : Nat} {x : Addr × Str × Str} (hL : LedAt Z H L) (hx : L.accs[k]? = some x) : SpV (spAccount Z) [.ref L.p, .int ((k : Int) + 1)] H (.ref x.1) := fun H1 e Q q E =>
  ⟨L, _, rfl, hL.mono e, fun z => absurd (place_in hx) z, fun j y hj hy => by
    have e2 : j = k := by omega
    rw [e2, hx] at hy
    cases hy
    exact q⟩
theorem ok_currency_of {f : Addr} {fd : FuncData} (F : Fun K "currency_of" "Ledger.currency_of" s_currency_of f fd) (T : Txt K mg Z) (c_account : Met P w K mg base 1 Z.led "_account" (spAccount Z)) : FnOk P w K mg base (L2.CX P w) 2 f fd ["self", "account"] (spCurOf Z) := by
  refine F.okX sc_currency_of (fun vs H Q E h => ?_) (fun cdv A outer s H vs Q E hr h => ?_)
  · obtain ⟨L, n, rfl, _⟩ := h
    rfl
  · obtain ⟨L, n, rfl, hL, hb, k⟩ := h
    refine ⟨_, (pss_one (ps_ret (pe_ix ix_tup (pm T.cl c_account (hr.mono (by decide)) (takes_of rfl rfl rfl rfl) (pv 0) (pa_cons (pv 1) pa_nil)) pe_int (fun _ _ => rfl)))), ?_⟩
    refine ⟨_, rfl, L.p, L.dx, ledF L, rfl, hL.ins, rfl, _, rfl, L, n, rfl, hL, hb, fun i x hi hx H1 e1 => ?_⟩
    exact ⟨x.1, _, _, _, rfl, rfl, st_of (e1 _ _ (hL.accT x (List.mem_of_getElem? hx))), rfl, k i x hi hx H1 e1⟩
theorem sv_curOf {L : Led} {H : Hp} {k : Nat} {x : Addr × Str × Str} (hL : LedAt Z H L) (hx : L.accs[k]? = some x) : SpV (spCurOf Z) [.ref L.p, .int ((k : Int) + 1)] H (.str x.2.1) := fun H1 e Q q E =>
  ⟨L, _, rfl, hL.mono e, fun z => absurd (place_in hx) z, fun j y hj hy => by
    have e2 : j = k := by omega
    rw [e2, hx] at hy
    cases hy
    exact q⟩
theorem ok_sort_of {f : Addr} {fd : FuncData} (F : Fun K "sort_of" "Ledger.sort_of" s_sort_of f fd) (T : Txt K mg Z) (c_account : Met P w K mg base 1 Z.led "_account" (spAccount Z)) : FnOk P w K mg base (L2.CX P w) 2 f fd ["self", "account"] (spSortOf Z) := by
  refine F.okX sc_sort_of (fun vs H Q E h => ?_) (fun cdv A outer s H vs Q E hr h => ?_)
  · obtain ⟨L, n, x, rfl, _⟩ := h
    rfl
  · obtain ⟨L, n, x, rfl, hL, hx, k⟩ := h
    refine ⟨_, (pss_one (ps_ret (pe_ix ix_tup (pm T.cl c_account (hr.mono (by decide)) (takes_of rfl rfl rfl rfl) (pv 0) (pa_cons (pv 1) pa_nil)) pe_int (fun _ _ => rfl)))), ?_⟩
    exact s_ret (ev_op (ev_mt (ev_var rfl) hL.ins (by rfl) (ea_cons (ev_var rfl) ea_nil) (sv_account hL hx)) ev_c (rv_ixT (st_of (hL.accT x (List.mem_of_getElem? hx))) rfl)) k
theorem sv_sortOf {L : Led} {H : Hp} {k : Nat} {x : Addr × Str × Str} (hL : LedAt Z H L) (hx : L.accs[k]? = some x) : SpV (spSortOf Z) [.ref L.p, .int ((k : Int) + 1)] H (.str x.2.2) := fun H1 e Q q E => ⟨L, k, x, rfl, hL.mono e, hx, q⟩
theorem ok_lines_of {f : Addr} {fd : FuncData} (F : Fun K "lines_of" "Ledger.lines_of" s_lines_of f fd) (T : Txt K mg Z) (c_account : Met P w K mg base 1 Z.led "_account" (spAccount Z)) : FnOk P w K mg base (L2.CX P w) 2 f fd ["self", "account"] (spLinesOf Z) := by
  refine F.okX sc_lines_of (fun vs H Q E h => ?_) (fun cdv A outer s H vs Q E hr h => ?_)
  · obtain ⟨L, n, x, rfl, _⟩ := h
    rfl
  · obtain ⟨L, n, x, rfl, hL, hn, hx, hz, k⟩ := h
    refine ⟨_, (pss_cons (ps_expr (pm T.cl c_account (hr.mono (by decide)) (takes_of rfl rfl rfl rfl) (pv 0) (pa_cons (pv 1) pa_nil)))
      (pss_one (ps_ret (pe_callTy call_list_of (by rfl) T.n_list (by decide +kernel) (pa_cons (pe_ix ix_list (pe_fld (pv 0) rfl) (pe_op op_sub (pv 1) pe_int) (fun _ _ => rfl)) pa_nil))))), ?_⟩
    refine q_drop (v := .ref (L.accs[n]).1) (ev_mt (ev_var rfl) hL.ins (by rfl) (ea_cons (ev_var rfl) ea_nil) (sv_account hL (List.getElem?_eq_getElem hn))) fun H1 e1 => ?_
    replace hL := hL.mono e1
    exact s_retL (el_list (ev_op (ev_fld (ev_var rfl) hL.ins T.cl T.a2 (by rfl)) (ev_op (ev_var rfl) ev_c rv_I0) (rv_ixR hL.lin (by omega) hx)) (sq_of (hL.linL x (List.mem_of_getElem? hx)))) fun p H2 hp e2 h2 => k.go e1 hp e2 h2
theorem sl_linesOf {L : Led} {H : Hp} {k : Nat} {x : Addr × List (Addr × Ln)} (hL : LedAt Z H L) (hk : k < L.accs.length) (hx : L.lines[k]? = some x) (hz : x.2.length ≤ 40000) : SpL (spLinesOf Z) [.ref L.p, .int ((k : Int) + 1)] H (refs x.2) := fun H1 e Q q E => ⟨L, k, x, rfl, hL.mono e, hk, hx, hz, q⟩
end
end
section
open PySem PySem.Spec PyProof.Rows L2 Evl
section
variable {P : Program} {w : World} {K : PySem.W.Frag} {mg : Str → Option Value} {base : Heap} {Z : Ads}

theorem balOf_take {ok : Int → Int → Bool} {xs : List (Addr × Ln)} {i : Nat} {y : Addr × Ln} (h : xs[i]? = some y) : balOf ok (xs.take (i + 1)) = balOf ok (xs.take i) + (if ok y.2.day y.2.value = true then y.2.units else 0) := by
  unfold balOf
  rw [List.map_take, List.map_take]
  exact sum_take (by rw [List.getElem?_map, h]; rfl)
/-- x is None or .. -/
theorem et_okO {σ : L2.St} {H : Hp} {ta tb : TE} {o : Option Int} {d : Int} (h1 : Ev ta σ H (optV o)) (h2 : ∀ i, o = some i → Ev tb σ H (.bl (decide (d ≤ i)))) :
    EvT (tOr (tTest (tOp (fun x y H Q => y = .non ∧ Q (.bl (decide (x = .non))) H) ta (tC .non))) (tTest tb)) σ H (okO o d) := by
  cases o with
  | none => exact et_is (et_or (a := true) (b := true) (et_is (et_test (ev_op h1 ev_c rv_isN)) (decide_eq_true rfl)) fun z => by cases z) rfl
  | some i => exact et_is (et_or (a := false) (et_is (et_test (ev_op h1 ev_c rv_isN)) (decide_eq_false (by intro z; cases z))) fun _ => et_test (h2 i rfl)) rfl
theorem ev_okO {σ : L2.St} {H : Hp} {ta tb : TE} {o : Option Int} {d : Int} (h1 : Ev ta σ H (optV o)) (h2 : ∀ i, o = some i → Ev tb σ H (.bl (decide (d ≤ i)))) :
    Ev (tOrV (tOp (fun x y H Q => y = .non ∧ Q (.bl (decide (x = .non))) H) ta (tC .non)) tb) σ H (.bl (okO o d)) := by
  cases o with
  | none => exact ev_is (ev_orV (a := true) (b := true) (ev_is (ev_op h1 ev_c rv_isN) (congrArg V.bl (decide_eq_true rfl))) fun z => by cases z) rfl
  | some i => exact ev_is (ev_orV (a := false) (ev_is (ev_op h1 ev_c rv_isN) (congrArg V.bl (decide_eq_false (by intro z; cases z)))) fun _ => h2 i rfl) rfl
theorem ok_balance {f : Addr} {fd : FuncData} (F : Fun K "balance" "Ledger.balance" s_balance f fd) (T : Txt K mg Z) (c_lines_of : Met P w K mg base 2 Z.led "lines_of" (spLinesOf Z)) : FnOk P w K mg base (L2.CX P w) 3 f fd ["self", "account", "booked", "value"] (spBalance Z) := by
  refine F.okX sc_balance (fun vs H Q E h => ?_) (fun cdv A outer s H vs Q E hr h => ?_)
  · obtain ⟨L, n, b, v, rfl, _⟩ := h
    rfl
  · obtain ⟨L, n, b, v, rfl, hL, hO, hn, k⟩ := h
    have hn2 : n < L.lines.length := by rw [hO.len]; exact hn
    obtain ⟨x, hx⟩ : ∃ x, L.lines[n]? = some x := ⟨_, List.getElem?_eq_getElem hn2⟩
    have hz : x.2.length ≤ 40000 := by
      have h1 := hO.few x (List.mem_of_getElem? hx)
      have h2 := hO.ent
      omega
    refine ⟨_, (pss_cons (ps_set (i := 4) sc_balance.nd rfl (Or.inl rfl) pe_int)
      (pss_cons (ps_for (passes_of rfl) rfl (pi_list (pm T.cl c_lines_of (hr.mono (by decide)) (takes_of rfl rfl rfl rfl) (pv 0) (pa_cons (pv 1) pa_nil))) (pg_name (i := 5) sc_balance.nd rfl (Or.inl rfl)) (pss_cons (ps_set (i := 6) sc_balance.nd rfl (Or.inl rfl) (pe_or (pe_cmpR op_isN (pv 2) pe_non (nomark _)) (pe_one (pe_cmpR op_le (pe_ix ix_tup (pv 5) pe_int (fun _ _ => rfl)) (pv 2) (nomark _)))))
      (pss_one (ps_if (PW.pt (pw_and (pt_val (pv 6)) (pw_and1 (PW.pt (pw_or (pt_cmpR op_isN (pv 3) pe_non (nomark _)) (pw_or1 (pt_cmpR op_le (pe_ix ix_tup (pv 5) pe_int (fun _ _ => rfl)) (pv 3) (nomark _)))))))) (pss_one (ps_aug (i := 4) sc_balance.nd rfl (Or.inl rfl) (pe_ix ix_tup (pv 5) pe_int (fun _ _ => rfl)) ip_add)) pss_nil))))
      (pss_one (ps_ret (pv 4))))), ?_⟩
    refine q_asg ev_c fun H1 e1 => ?_
    replace hL := hL.mono e1
    refine q_forNLn (el_mt (ev_var rfl) hL.ins (by rfl) (ea_cons (ev_var rfl) ea_nil) (sl_linesOf hL hn hx hz))
      (fun p i σ' H' => ∃ l5 b6 : Option V, σ' = [some (.ref L.p), some (.int ((n : Int) + 1)), some (optV b), some (optV v), some (.int (balOf (okD b v) (x.2.take i))), l5, b6] ∧ Ex H1 H' ∧ H' p = some (.lst (refs x.2)))
      (fun p H2 hp e2 h2 => ⟨none, none, rfl, e2, h2⟩) (fun p i σ' H' hi hP => ?_) (fun p i y0 σ' H' hy0 hP => ?_) (fun p σ' H' hP => ?_)
    · obtain ⟨l5, b6, rfl, e2, h2⟩ := hP
      exact sq_of h2
    · obtain ⟨l5, b6, rfl, e2, h2⟩ := hP
      obtain ⟨y, hy, rfl⟩ := refs_inv hy0
      have ht := e2 _ _ (hL.linT x (List.mem_of_getElem? hx) y (List.mem_of_getElem? hy))
      refine q_asg (v := .bl (okO b y.2.day)) (ev_okO (ev_var rfl) fun i hi => ?_) fun H3 e3 => ?_
      · subst hi
        exact ev_op (ev_op (ev_var rfl) ev_c (rv_ixT (st_of ht) rfl)) (ev_var rfl) rv_I0
      have ht3 := e3 _ _ ht
      refine s_when (b := okD b v y.2.day y.2.value) (et_and (et_B (ev_var rfl)) fun _ => et_okO (ev_var rfl) fun i hi => ?_) (fun hb H4 e4 => ?_) (fun hb H4 e4 => ?_)
      · subst hi
        exact ev_op (ev_op (ev_var rfl) ev_c (rv_ixT (st_of ht3) rfl)) (ev_var rfl) rv_I0
      · refine s_aug rfl (ev_op (ev_var rfl) ev_c (rv_ixT (st_of (e4 _ _ ht3)) rfl)) fun H5 e5 => ⟨some (.ref y.1), some (.bl (okO b y.2.day)), ?_, ((e2.trans e3).trans e4).trans e5, (e5 _ _ (e4 _ _ (e3 _ _ h2)))⟩
        rw [balOf_take hy, if_pos hb]
        rfl
      · refine ⟨some (.ref y.1), some (.bl (okO b y.2.day)), ?_, (e2.trans e3).trans e4, e4 _ _ (e3 _ _ h2)⟩
        rw [balOf_take hy, if_neg (by rw [hb]; exact Bool.false_ne_true), Int.add_zero]
        rfl
    · obtain ⟨l5, b6, rfl, e2, h2⟩ := hP
      refine s_ret (ev_var rfl) fun H3 e3 => ?_
      have e : balOf (okD b v) ((refs x.2).length |> x.2.take) = balAt L b v n := by
        rw [refs_len, List.take_length]
        unfold balAt
        rw [List.getD_eq_getElem?_getD, hx]
        rfl
      show Q (.int (balOf (okD b v) ((refs x.2).length |> x.2.take))) H3
      rw [e]
      exact k H3 ((e1.trans e2).trans e3)
theorem sv_balance {L : Led} {H : Hp} {k : Nat} {b v : Option Int} (hL : LedAt Z H L) (hO : LedOk L) (hk : k < L.accs.length) : SpV (spBalance Z) [.ref L.p, .int ((k : Int) + 1), optV b, optV v] H (.int (balAt L b v k)) := fun H1 e Q q E =>
  ⟨L, k, b, v, rfl, hL.mono e, hO, hk, q⟩
end
end
section
open PySem PySem.Spec PyProof.Rows L2 Evl
section
variable {P : Program} {w : World} {K : PySem.W.Frag} {mg : Str → Option Value} {base : Heap} {Z : Ads}

theorem str_dec (a b : Str) : decide (V.str a = V.str b) = decide (a = b) := by
  by_cases h : a = b
  · rw [decide_eq_true h, decide_eq_true (by rw [h])]
  · rw [decide_eq_false h, decide_eq_false (fun e => h (V.str.inj e))]
theorem sort_place {s : Str} (h : s ∈ sortsV) : sortIx s < 5 ∧ sortsV[sortIx s]? = some s ∧ ∀ m, m < sortIx s → sortsV[m]? ≠ some s := by
  unfold sortsV at h
  simp only [List.mem_cons, List.not_mem_nil, or_false] at h
  rcases h with e | e | e | e | e
  · rw [e]
    exact ⟨by decide +kernel, by decide +kernel, by decide +kernel⟩
  · rw [e]
    exact ⟨by decide +kernel, by decide +kernel, by decide +kernel⟩
  · rw [e]
    exact ⟨by decide +kernel, by decide +kernel, by decide +kernel⟩
  · rw [e]
    exact ⟨by decide +kernel, by decide +kernel, by decide +kernel⟩
  · rw [e]
    exact ⟨by decide +kernel, by decide +kernel, by decide +kernel⟩
theorem sumsTo_succ (A : List (Addr × Str × Str)) (c : Str) (f : Nat → Int) (n : Nat) : sumsTo A c f (n + 1) = sumStep A c f (sumsTo A c f n) n := by
  unfold sumsTo
  rw [List.range_succ, List.foldl_append]
  rfl
theorem sumsTo_len (A : List (Addr × Str × Str)) (c : Str) (f : Nat → Int) : ∀ n, (sumsTo A c f n).length = 5
  | 0 => rfl
  | n + 1 => by
    rw [sumsTo_succ]
    unfold sumStep
    split
    · rw [List.length_set, sumsTo_len A c f n]
    · exact sumsTo_len A c f n
section
variable {σ : L2.St} {H : Hp} {ta tb te to_ ti : TE} {xs : List V} {D : Ends}
theorem ev_sortIx {s : Str} (T : Txt K mg Z) (ha : Ev ta σ H (.str s)) (hs : s ∈ sortsV) :
    Ev (tBM K "tuple" (fun x xs H Q => ∃ p, ∃ ys : List Str, ∃ z j, x = .ref p ∧ xs = [.str z] ∧ SqT K H p (ys.map V.str) ∧ ys[j]? = some z ∧ (∀ m, m < j → ys[m]? ≠ some z) ∧ Q (.int (j : Nat)) H) (tC (.ref Z.sorts)) (tCons ta tNil)) σ H (.int (sortIx s : Int)) := fun H1 e Q q =>
  ⟨T.tyS H1, ha H1 e _ fun H2 e2 => ⟨Z.sorts, sortsV, s, sortIx s, rfl, rfl, T.tSorts H2, (sort_place hs).2.1, (sort_place hs).2.2, q H2 e2⟩⟩
theorem el_rep {k : Int} (ha : EvL ta σ H xs) (hb : ∀ H1, Ex H H1 → Ev tb σ H1 (.int k)) (h0 : 0 ≤ k ∧ k ≤ 1000) (h1 : xs.length ≤ 1000) : EvL (tOp rRep ta tb) σ H (List.replicate k.toNat xs).flatten := fun H1 e Q q =>
  ha H1 e _ fun p H2 hp e2 h2 => hb H2 (e.trans e2) H2 (Ex.refl H2) _ fun H3 e3 => ⟨p, k, xs, rfl, rfl, e3 _ _ h2, by omega, by omega, by
    have := Nat.mul_le_mul h1 (show k.toNat ≤ 1000 by omega)
    rw [sizeLine_eq]
    omega, fun p2 hp2 => q p2 _ (fresh_back (e2.trans e3) hp2) ((e2.trans e3).trans (Ex.new hp2)) upd_same⟩
/-- xs[j] += e -/
theorem s_augL {l : Addr} {j : Nat} {a b : Int} (hl : H l = some (.lst xs)) (ho : Ev to_ σ H (.ref l)) (hi : Ev ti σ H (.int (j : Int))) (hv : xs[j]? = some (.int a)) (he : Ev te σ H (.int b)) (k : ∀ H1, Ex H H1 → D.nx σ (upd H1 l (.lst (xs.set j (.int (a + b)))))) :
    tAugS to_ ti te (rGetL K) (ipI fun i j => i + j) rSetL D σ H :=
  ho H (Ex.refl H) _ fun H1 e1 => hi H1 e1 _ fun H2 e2 => ⟨l, xs, j, .int a, rfl, rfl, sq_of ((e1.trans e2) _ _ hl), hv, he H2 (e1.trans e2) _ fun H3 e3 =>
    ⟨a, b, rfl, rfl, l, xs, (j : Int), j, rfl, rfl, ((e1.trans e2).trans e3) _ _ hl, ixN_nat (List.getElem?_eq_some_iff.mp hv).1, k H3 ((e1.trans e2).trans e3)⟩⟩
end
theorem getD_of {α : Type} {l : List α} {i : Nat} {x d : α} (h : l[i]? = some x) : l.getD i d = x := by
  rw [List.getD_eq_getElem?_getD, h]
  rfl
theorem ok_sums {f : Addr} {fd : FuncData} (F : Fun K "sums" "Ledger.sums" s_sums f fd) (T : Txt K mg Z) (c_currency_of : Met P w K mg base 2 Z.led "currency_of" (spCurOf Z)) (c_sort_of : Met P w K mg base 2 Z.led "sort_of" (spSortOf Z)) (c_balance : Met P w K mg base 3 Z.led "balance" (spBalance Z)) :
    FnOk P w K mg base (L2.CX P w) 4 f fd ["self", "currency", "booked", "value"] (spSums Z) := by
  refine F.okX sc_sums (fun vs H Q E h => ?_) (fun cdv A outer s H vs Q E hr h => ?_)
  · obtain ⟨L, c, b, v, rfl, _⟩ := h
    rfl
  · obtain ⟨L, c, b, v, rfl, hL, hO, k⟩ := h
    refine ⟨_, (pss_cons (ps_set (i := 4) sc_sums.nd rfl (Or.inl rfl) (pe_op op_rep (pe_lst (pa_cons pe_int pa_nil)) (pe_callB call_len_seq (by rfl) T.n_len PySem.boot_len (pa_cons (pgv T.g_SORTS) pa_nil))))
      (pss_cons (ps_for (passes_of rfl) rfl (pi_range2 rfl T.n_range (pa_cons pe_int (pa_cons (pe_op op_add (pe_callB call_len_seq (by rfl) T.n_len PySem.boot_len (pa_cons (pe_fld (pv 0) rfl) pa_nil)) pe_int) pa_nil))) (pg_name (i := 5) sc_sums.nd rfl (Or.inl rfl)) (pss_one (ps_if (pt_cmpR op_eq (pm T.cl c_currency_of (hr.mono (by decide)) (takes_of rfl rfl rfl rfl) (pv 0) (pa_cons (pv 5) pa_nil)) (pv 1) (nomark _)) (pss_cons (ps_set (i := 6) sc_sums.nd rfl (Or.inl rfl) (pe_bm PySem.F.plainAttrs_tuple PySem.F.slot_tuple_index PySem.F.type_tuple_index mt_tup_index (pgv T.g_SORTS) (pa_cons (pm T.cl c_sort_of (hr.mono (by decide)) (takes_of rfl rfl rfl rfl) (pv 0) (pa_cons (pv 5) pa_nil)) pa_nil)))
      (pss_one (ps_augS (pv 4) (pv 6) get_list (pm T.cl c_balance (hr.mono (by decide)) (takes_of rfl rfl rfl rfl) (pv 0) (pa_cons (pv 5) (pa_cons (pv 2) (pa_cons (pv 3) pa_nil)))) ip_add set_list))) pss_nil)))
      (pss_one (ps_ret (pv 4))))), ?_⟩
    refine q_asgL (xs := ([0, 0, 0, 0, 0] : List Int).map V.int) (el_rep (xs := [.int 0]) (k := 5) (el_lst (ea_cons ev_c ea_nil) (by decide)) (fun H1 e1 => ev_lenT ev_c (T.tSorts _)) (by decide) (by decide)) fun t H1 ht0 e1 ht => ?_
    have hL1 := hL.mono e1
    refine q_forR2 (lo := 1) (n := (L.accs.length : Int) + 1) (ea_cons ev_c (ea_cons (ev_op (ev_is (ev_lenL (ev_fld (ev_var rfl) hL1.ins T.cl T.a1 (by rfl)) (sq_of hL1.acc)) (by rw [refs_len])) ev_c rv_I0) ea_nil)) (by have := hO.acc; omega)
      (fun i σ' H' => ∃ a5 a6 : Option V, σ' = [some (.ref L.p), some (.str c), some (optV b), some (optV v), some (.ref t), a5, a6] ∧ Ex H H' ∧ H' t = some (.lst ((sumsTo L.accs c (balAt L b v) i).map V.int)))
      (fun H2 e2 => ⟨none, none, rfl, e1.trans e2, e2 _ _ ht⟩) (fun i σ' H' hi hP => ?_) (fun σ' H' hP => ?_)
    · obtain ⟨a5, a6, rfl, e2, h2⟩ := hP
      have hi2 : i < L.accs.length := by omega
      obtain ⟨x, hx⟩ : ∃ x, L.accs[i]? = some x := ⟨_, List.getElem?_eq_getElem hi2⟩
      have hs : x.2.2 ∈ sortsV := hO.sor x (List.mem_of_getElem? hx)
      have e0 : (1 : Int) + (i : Int) = (i : Int) + 1 := Int.add_comm _ _
      rw [e0]
      have ec : cur L.accs i = x.2.1 := by
        unfold cur
        rw [getD_of hx]
      have hLa := hL.mono e2
      refine s_when (b := decide (x.2.1 = c)) (et_is (et_test (ev_op (ev_mt (ev_var rfl) hLa.ins (by rfl) (ea_cons (ev_var rfl) ea_nil) (sv_curOf hLa hx)) (ev_var rfl) (rv_eq rfl))) (str_dec _ _)) (fun hb H3 e3 => ?_) (fun hb H3 e3 => ?_)
      · have hLb := hLa.mono e3
        refine q_asg (ev_sortIx T (ev_mt (ev_var rfl) hLb.ins (by rfl) (ea_cons (ev_var rfl) ea_nil) (sv_sortOf hLb hx)) hs) fun H4 e4 => ?_
        have hLc := hLb.mono e4
        have hl5 := sumsTo_len L.accs c (balAt L b v) i
        have hj : sortIx x.2.2 < (sumsTo L.accs c (balAt L b v) i).length := by
          rw [hl5]
          exact (sort_place hs).1
        refine s_augL (a := (sumsTo L.accs c (balAt L b v) i).getD (sortIx x.2.2) 0) (e4 _ _ (e3 _ _ h2)) (ev_var rfl) (ev_var rfl) ?_ (ev_mt (ev_var rfl) hLc.ins (by rfl) (ea_cons (ev_var rfl) (ea_cons (ev_var rfl) (ea_cons (ev_var rfl) ea_nil))) (sv_balance hLc hO hi2)) fun H5 e5 => ?_
        · rw [List.getElem?_map, List.getD_eq_getElem?_getD, List.getElem?_eq_getElem hj]
          rfl
        · refine ⟨some (.int ((i : Int) + 1)), some (.int (sortIx x.2.2 : Int)), rfl, Ex.mut (((e2.trans e3).trans e4).trans e5) ht0, ?_⟩
          rw [upd_same, sumsTo_succ]
          unfold sumStep
          rw [if_pos (by rw [ec]; exact of_decide_eq_true hb), getD_of hx, List.map_set]
      · refine ⟨some (.int ((i : Int) + 1)), a6, rfl, e2.trans e3, ?_⟩
        rw [sumsTo_succ]
        unfold sumStep
        rw [if_neg (by rw [ec]; exact of_decide_eq_false hb)]
        exact e3 _ _ h2
    · obtain ⟨a5, a6, rfl, e2, h2⟩ := hP
      have en : ((L.accs.length : Int) + 1 - 1).toNat = L.accs.length := by omega
      rw [en] at h2
      exact s_ret (ev_var rfl) fun H3 e3 => k t H3 ht0 (e2.trans e3) (e3 _ _ h2)
theorem sl_sums {L : Led} {H : Hp} {c : Str} {b v : Option Int} (hL : LedAt Z H L) (hO : LedOk L) : SpL (spSums Z) [.ref L.p, .str c, optV b, optV v] H ((sumsTo L.accs c (balAt L b v) L.accs.length).map V.int) := fun H1 e Q q E => ⟨L, c, b, v, rfl, hL.mono e, hO, q⟩
end
end
section
open PySem PySem.Spec PyProof.Rows L2 Evl
section
variable {P : Program} {w : World} {K : PySem.W.Frag} {mg : Str → Option Value} {base : Heap} {Z : Ads}

section
variable {σ : L2.St} {H : Hp} {ta tb te td ty : TE} {xs : List V} {D : Ends} {tz : TS} {gs : TGs} {n : Nat} {a : Addr}
/-- x, y, .. = e, e a tuple -/
theorem q_unpack (h : Ev te σ H (.ref a)) (hs : SqT K H a xs) (hn : xs.length = n) (k : ∀ H1, Ex H H1 → gs xs σ H1 (tz D)) : tSeq (tAsg te (gTup K n gs)) tz D σ H := h H (Ex.refl H) _ fun H1 e1 => ⟨a, xs, rfl, ex_t e1 hs, hn, k H1 e1⟩
/-- a list as a test -/
theorem et_truL {p : Addr} (ha : Ev ta σ H (.ref p)) (hl : H p = some (.lst xs)) : EvT (fun σ H Q => ta σ H fun x H' => ∃ k, TruV K x H' k ∧ Q k H') σ H (!xs.isEmpty) := et_tru ha fun H1 e => show _ ∨ _ from .inl ⟨xs, sq_of (e _ _ hl), rfl⟩
theorem ev_dget1 {d : Addr} {kvs : List (Key × V)} {key : Key} (hd : H d = some (.dK kvs)) (h1 : Ev td σ H (.ref d)) (h2 : Ev ty σ H (kV key)) : Ev (tDGet1 td ty) σ H ((valV kvs key).getD .non) := fun H1 e Q q =>
  h1 H1 e _ fun H2 e2 => ⟨d, rfl, .inl ⟨kvs, .inl ((e.trans e2) _ _ hd)⟩, h2 H2 (e.trans e2) _ fun H3 e3 => ⟨_, DGet.k (k := key) (((e.trans e2).trans e3) _ _ hd), q H3 (e2.trans e3)⟩⟩
end
theorem ok_entry {f : Addr} {fd : FuncData} (F : Fun K "entry" "Ledger.entry" s_entry f fd) (T : Txt K mg Z) : FnOk P w K mg base (L2.CX P w) 1 f fd ["self", "number"] (spEntry Z) := by
  refine F.okX sc_entry (fun vs H Q E h => ?_) (fun cdv A outer s H vs Q E hr h => ?_)
  · obtain ⟨L, n, rfl, _⟩ := h
    rfl
  · obtain ⟨L, n, rfl, hL, hz, hz2, hb, k⟩ := h
    refine ⟨_, (pss_cons (ps_if (pt_not (pt_chain op_le op_le pe_int (pv 1) (pe_callB call_len_seq (by rfl) T.n_len PySem.boot_len (pa_cons (pe_fld (pv 0) rfl) pa_nil)))) (pss_one (p_raise T.Missing (takes_of rfl rfl rfl rfl))) pss_nil)
      (pss_cons (ps_asg (pe_ix ix_list (pe_fld (pv 0) rfl) (pe_op op_sub (pv 1) pe_int) (fun _ _ => rfl)) (pg_tup rfl (pgs_cons (pg_name (i := 2) sc_entry.nd rfl (Or.inl rfl)) (pgs_cons (pg_name (i := 3) sc_entry.nd rfl (Or.inl rfl)) (pgs_cons (pg_name (i := 4) sc_entry.nd rfl (Or.inl rfl)) (pgs_cons (pg_name (i := 5) sc_entry.nd rfl (Or.inl rfl)) (pgs_cons (pg_name (i := 6) sc_entry.nd rfl (Or.inl rfl)) pgs_nil)))))))
      (pss_cons (ps_set (i := 7) sc_entry.nd rfl (Or.inl rfl) (pe_dget1 (hu_of hr) (pe_fld (pv 0) rfl) (pv 1) ⟨by rfl, by rfl, by rfl, by rfl⟩))
      (pss_one (ps_ret (pe_tup (pa_cons (pv 1) (pa_cons (pv 2) (pa_cons (pv 3) (pa_cons (pv 4) (pa_cons (pe_callTy call_list_of (by rfl) T.n_list (by decide +kernel) (pa_cons (pv 5) pa_nil)) (pa_cons (pv 6) (pa_cons (pv 7) pa_nil))))))))))))), ?_⟩
    refine q_when (b := !(decide (1 ≤ n) && decide (n ≤ (L.ents.length : Int)))) (et_not (et_test (ev_chain ev_c (ev_var rfl) (ev_is (ev_lenL (ev_fld (ev_var rfl) hL.ins T.cl T.a3 (by rfl)) (sq_of hL.ent)) (by rw [refs_len])) rv_I0 rv_I0))) (fun hc H1 e1 => ?_) fun hc H1 e1 => ?_
    · refine hb (fun z => ?_) Z.mis (by simp [Ads.five]) H1 e1
      rw [decide_eq_true z.1, decide_eq_true z.2] at hc
      cases hc
    · have hc2 : 1 ≤ n ∧ n ≤ (L.ents.length : Int) := by
        simpa using hc
      obtain ⟨i, x, hi, hx⟩ := in_place hc2.1 hc2.2
      replace hL := hL.mono e1
      have hm := List.mem_of_getElem? hx
      refine q_unpack (ev_op (ev_fld (ev_var rfl) hL.ins T.cl T.a3 (by rfl)) (ev_op (ev_var rfl) ev_c rv_I0) (rv_ixR hL.ent (by omega) hx)) (st_of (hL.entT x hm)) rfl fun H2 e2 => ?_
      replace hL := hL.mono e2
      refine ⟨_, _, rfl, _, _, rfl, _, _, rfl, _, _, rfl, _, _, rfl, rfl, ?_⟩
      refine q_asg (ev_dget1 (key := Sum.inl n) hL.rev (ev_fld (ev_var rfl) hL.ins T.cl T.a4 (by rfl)) (ev_var rfl)) fun H3 e3 => ?_
      replace hL := hL.mono e3
      refine ⟨_, rfl, _, rfl, _, rfl, _, rfl, _, rfl, x.2.kept, refs x.2.lines, rfl, .inr (st_of (hL.entK x hm)), fun l hl => ⟨_, rfl, _, rfl, (by show 7 ≤ sizeLine; decide), fun t ht => ?_⟩⟩
      have nlt : l ≠ t := ne_of_none upd_same ht
      refine k i x hi hx _ t l _ ((((e1.trans e2).trans e3).trans (Ex.new hl)).trans (Ex.new ht)) (fresh_back ((e1.trans e2).trans e3) hl) upd_same ?_
      rw [upd_ne nlt]
      exact upd_same
theorem ok_check_head {f : Addr} {fd : FuncData} (F : Fun K "_check_head" "Ledger._check_head" s_check_head f fd) (T : Txt K mg Z) (c_is_day : Cal P w K mg base 1 "is_day" spIsDay) :
    FnOk P w K mg base (L2.CX P w) 2 f fd ["self", "day", "value", "cause"] (spHead Z) := by
  refine F.okX sc_check_head (fun vs H Q E h => ?_) (fun cdv A outer s H vs Q E hr h => ?_)
  · obtain ⟨L, d, v, c, rfl, _⟩ := h
    rfl
  · obtain ⟨L, d, v, c, rfl, hL, hz, hc, hb, k⟩ := h
    have sd : ∀ (n : Int) (H : Hp), SpV spIsDay [.int n] H (.bl (decide (0 ≤ n) && decide (n ≤ 36524))) := fun n H H1 e Q q E => ⟨n, rfl, q⟩
    refine ⟨_, (pss_cons (ps_if (PW.pt (pw_or (pt_not (pt_val (pc c_is_day (hr.mono (by decide)) rfl (takes_of rfl rfl rfl rfl) (pa_cons (pv 1) pa_nil)))) (pw_or1 (pt_not (pt_val (pc c_is_day (hr.mono (by decide)) rfl (takes_of rfl rfl rfl rfl) (pa_cons (pv 2) pa_nil))))))) (pss_one (p_raise T.BadDay (takes_of rfl rfl rfl rfl))) pss_nil)
      (pss_cons (ps_if (PW.pt (pw_and (pt_truth (pe_fld (pv 0) rfl) (by intro _; rfl)) (pw_and1 (pt_cmpR op_lt (pv 1) (pe_ix ix_tup (pe_ix ix_list (pe_fld (pv 0) rfl) (pe_un un_neg pe_int) (fun _ _ => rfl)) pe_int (fun _ _ => rfl)) (nomark _))))) (pss_one (p_raise T.BadDay (takes_of rfl rfl rfl rfl))) pss_nil)
      (pss_one (ps_if (pt_cmpR op_gt (pe_callB call_len_str (by rfl) T.n_len PySem.boot_len (pa_cons (pv 3) pa_nil)) pe_int (nomark _)) (pss_one (p_raise T.BadValue (takes_of rfl rfl rfl rfl))) pss_nil)))), ?_⟩
    refine q_when (et_or (et_not (et_B (ev_cS (ea_cons (ev_var rfl) ea_nil) (sd d H)))) fun _ => et_not (et_B (ev_cS (ea_cons (ev_var rfl) ea_nil) (sd v H)))) (fun _ H1 e1 => hb Z.day (by simp [Ads.five]) H1 e1) fun _ H1 e1 => ?_
    replace hL := hL.mono e1
    have ht : ∃ b, EvT (tAnd (fun σ H Q => tFld K (tVar 0) "_entries" σ H fun x H' => ∃ k, TruV K x H' k ∧ Q k H') (tTest (tOp (rI0 fun i j => .bl (decide (i < j))) (tVar 1) (tOp (rIxT K) (tOp (rIxL K) (tFld K (tVar 0) "_entries") (tUn (rU fun i => .int (-i)) (tC (.int 1)))) (tC (.int 0))))))
        (start ["self", "day", "value", "cause"] [.ref L.p, .int d, .int v, .str c]) H1 b := by
      by_cases hn : L.ents = []
      · refine ⟨_, et_and (a := false) (b := false) (et_is (et_truL (ev_fld (ev_var rfl) hL.ins T.cl T.a3 (by rfl)) hL.ent) ?_) fun z => by cases z⟩
        rw [hn]
        rfl
      · have hne : L.ents.length ≠ 0 := fun z => hn (List.length_eq_zero_iff.mp z)
        obtain ⟨x, hx⟩ : ∃ x, L.ents[L.ents.length - 1]? = some x := ⟨_, List.getElem?_eq_getElem (by omega)⟩
        have hm := List.mem_of_getElem? hx
        have hlast : atI (refs L.ents) (-1) = some (.ref x.1) := by
          have e1 : ixN (refs L.ents).length (-1) = some (L.ents.length - 1) := by
            unfold ixN
            rw [refs_len, if_neg (by decide), if_pos (by omega)]
            congr 1
            omega
          unfold atI
          rw [e1]
          exact refs_get hx
        exact ⟨_, et_and (et_truL (ev_fld (ev_var rfl) hL.ins T.cl T.a3 (by rfl)) hL.ent) fun _ => et_test (ev_op (ev_var rfl) (ev_op (ev_op (ev_fld (ev_var rfl) hL.ins T.cl T.a3 (by rfl)) (ev_un ev_c ru_neg) (rv_ixL (sq_of hL.ent) hlast)) ev_c (rv_ixT (st_of (hL.entT x hm)) rfl)) rv_I0)⟩
    obtain ⟨b, ht⟩ := ht
    refine q_when ht (fun _ H2 e2 => hb Z.day (by simp [Ads.five]) H2 (e1.trans e2)) fun _ H2 e2 => ?_
    refine s_when (et_test (ev_op (ev_lenS (ev_var rfl) hc) ev_c rv_I0)) (fun _ H3 e3 => hb Z.val (by simp [Ads.five]) H3 ((e1.trans e2).trans e3)) fun _ H3 e3 => k H3 ((e1.trans e2).trans e3)
end
end
section
open PySem PySem.Spec PyProof.Rows L2 Evl
section
variable {P : Program} {w : World} {K : PySem.W.Frag} {mg : Str → Option Value} {base : Heap} {Z : Ads}

def vI : Option V → Int
  | some (.int z) => z
  | _ => 0
/-- what the dict of the sums holds behind the first lines -/
def SumsOk (A : List (Addr × Str × Str)) (ls : List (Addr × Int × Int)) (kvs : List (Key × V)) : Prop :=
  (∀ k v, valV kvs k = some v → ∃ c z, k = Sum.inr c ∧ v = .int z) ∧ ∀ c, curSum A c ls = vI (valV kvs (Sum.inr c))
theorem SumsOk.get {A : List (Addr × Str × Str)} {ls : List (Addr × Int × Int)} {kvs : List (Key × V)} (h : SumsOk A ls kvs) (c : Str) : (valV kvs (Sum.inr c)).getD (.int 0) = .int (curSum A c ls) := by
  rw [h.2 c]
  cases e : valV kvs (Sum.inr c) with
  | none => rfl
  | some v =>
    obtain ⟨_, z, _, rfl⟩ := h.1 _ _ e
    rfl
theorem curSum_take {A : List (Addr × Str × Str)} {c : Str} {ls : List (Addr × Int × Int)} {i : Nat} {l : Addr × Int × Int} (h : ls[i]? = some l) :
    curSum A c (ls.take (i + 1)) = curSum A c (ls.take i) + (if cur A (l.2.1 - 1).toNat = c then l.2.2 else 0) := by
  unfold curSum
  rw [List.map_take, List.map_take]
  exact sum_take (by rw [List.getElem?_map, h]; rfl)
theorem SumsOk.put {A : List (Addr × Str × Str)} {ls : List (Addr × Int × Int)} {i : Nat} {l : Addr × Int × Int} {kvs : List (Key × V)} (h : SumsOk A (ls.take i) kvs) (hl : ls[i]? = some l) {d : Str} (hc : cur A (l.2.1 - 1).toNat = d) :
    SumsOk A (ls.take (i + 1)) (putK kvs (Sum.inr d) (.int (curSum A d (ls.take i) + l.2.2))) := by
  refine ⟨fun k v e => ?_, fun c => ?_⟩
  · rw [valV_put] at e
    by_cases hk : k = Sum.inr d
    · rw [if_pos hk] at e
      cases e
      exact ⟨d, _, hk, rfl⟩
    · rw [if_neg hk] at e
      exact h.1 k v e
  · rw [valV_put, curSum_take hl, hc]
    by_cases hd : c = d
    · rw [hd, if_pos rfl, if_pos rfl]
      rfl
    · rw [if_neg (fun z => hd z.symm), if_neg (fun z => hd (Sum.inr.inj z)), Int.add_zero]
      exact h.2 c
section
variable {σ : L2.St} {H : Hp} {ta tb te td ty tv : TE} {D : Ends}
theorem ev_dget2 {d : Addr} {kvs : List (Key × V)} {key : Key} {x : V} (hd : H d = some (.dK kvs)) (h1 : Ev td σ H (.ref d)) (h2 : Ev ty σ H (kV key)) (h3 : Ev te σ H x) : Ev (tDGet2 td ty te) σ H ((valV kvs key).getD x) := fun H1 e Q q =>
  h1 H1 e _ fun H2 e2 => ⟨d, rfl, .inl ⟨kvs, .inl ((e.trans e2) _ _ hd)⟩, h2 H2 (e.trans e2) _ fun H3 e3 => h3 H3 ((e.trans e2).trans e3) _ fun H4 e4 => ⟨_, DGet.k (k := key) ((((e.trans e2).trans e3).trans e4) _ _ hd), q H4 ((e2.trans e3).trans e4)⟩⟩
/-- d[k] of a dict that is walked -/
theorem ev_dgetF {d : Addr} {o : Obj} {kvs : List (Key × V)} {key : Key} {x : V} (hd : H d = some (.frz o (.dK kvs))) (h1 : Ev td σ H (.ref d)) (h2 : Ev ty σ H (kV key)) (hx : valV kvs key = some x) : Ev (tDGet td ty) σ H x := fun H1 e Q q =>
  h1 H1 e _ fun H2 e2 => h2 H2 (e.trans e2) _ fun H3 e3 => ⟨d, x, rfl, .inl ⟨kvs, key, .inr ⟨o, ((e.trans e2).trans e3) _ _ hd⟩, rfl, hx.symm⟩, q H3 (e2.trans e3)⟩
theorem s_dput {d : Addr} {kvs : List (Key × V)} {key : Key} {v : V} (hd : H d = some (.dK kvs)) (hv : Ev tv σ H v) (h1 : Ev td σ H (.ref d)) (h2 : Ev ty σ H (kV key)) (hz : kvs.length < sizeLine) (k : ∀ H1, Ex H H1 → D.nx σ (upd H1 d (.dK (putK kvs key v)))) :
    sDPut td ty tv D σ H := hv H (Ex.refl H) _ fun H1 e1 => h1 H1 e1 _ fun H2 e2 => h2 H2 (e1.trans e2) _ fun H3 e3 => ⟨d, _, rfl, DPut.k (k := key) (((e1.trans e2).trans e3) _ _ hd) hz, k H3 ((e1.trans e2).trans e3)⟩
end
theorem ok_check_lines {f : Addr} {fd : FuncData} (F : Fun K "_check_lines" "Ledger._check_lines" s_check_lines f fd) (T : Txt K mg Z) (c_currency_of : Met P w K mg base 2 Z.led "currency_of" (spCurOf Z)) :
    FnOk P w K mg base (L2.CX P w) 3 f fd ["self", "lines"] (spLines Z) := by
  refine F.okX sc_check_lines (fun vs H Q E h => ?_) (fun cdv A outer s H vs Q E hr h => ?_)
  · obtain ⟨L, l, ls, rfl, _⟩ := h
    rfl
  · obtain ⟨L, l, ls, rfl, hL, hls, hb, k⟩ := h
    refine ⟨_, (pss_cons (ps_if (pt_not (pt_chain op_le op_le pe_int (pe_callB call_len_seq (by rfl) T.n_len PySem.boot_len (pa_cons (pv 1) pa_nil)) pe_int)) (pss_one (p_raise T.BadValue (takes_of rfl rfl rfl rfl))) pss_nil)
      (pss_cons (ps_set (i := 2) sc_check_lines.nd rfl (Or.inl rfl) pe_dnewK)
      (pss_cons (ps_for (passes_of rfl) rfl (pi_list (pv 1)) (pg_tup rfl (pgs_cons (pg_name (i := 3) sc_check_lines.nd rfl (Or.inl rfl)) (pgs_cons (pg_name (i := 4) sc_check_lines.nd rfl (Or.inl rfl)) pgs_nil))) (pss_cons (ps_set (i := 5) sc_check_lines.nd rfl (Or.inl rfl) (pm T.cl c_currency_of (hr.mono (by decide)) (takes_of rfl rfl rfl rfl) (pv 0) (pa_cons (pv 3) pa_nil)))
      (pss_cons (ps_if (PW.pt (pw_or (pt_cmpR op_eq (pv 4) pe_int (nomark _)) (pw_or1 (pt_not (pt_chain op_le op_le (pe_op op_sub pe_int (pgv T.g_GREATEST_UNITS)) (pv 4) (pgv T.g_GREATEST_UNITS)))))) (pss_one (p_raise T.BadValue (takes_of rfl rfl rfl rfl))) pss_nil)
      (pss_one (ps_dput (hu_of hr) (pv 2) (pv 5) (pe_op op_add (pe_dget2 (hu_of hr) (pv 2) (pv 5) pe_int ⟨by rfl, by rfl, by rfl, by rfl⟩) (pv 4)) rfl)))))
      (pss_one (ps_lock (ps_for (passes_of rfl) rfl (pi_keys (pv 2)) (pg_name (i := 5) sc_check_lines.nd rfl (Or.inl rfl)) (pss_one (ps_if (pt_cmpR op_ne (pe_dget (hu_of hr) (pv 2) (pv 5) (fun _ _ => rfl)) pe_int (nomark _)) (pss_one (p_raise T.BadValue (takes_of rfl rfl rfl rfl))) pss_nil)))))))), ?_⟩
    refine q_when (b := !(decide (2 ≤ (ls.length : Int)) && decide ((ls.length : Int) ≤ 20))) (et_not (et_test (ev_chain ev_c (ev_is (ev_lenL (ev_var rfl) (sq_of hls.at_)) (by rw [refs_len])) ev_c rv_I0 rv_I0))) (fun hc H1 e1 => hb Z.val (by simp [Ads.five]) H1 e1) fun hc H1 e1 => ?_
    have hc2 : 2 ≤ ls.length ∧ ls.length ≤ 20 := by
      have z : (2 : Int) ≤ (ls.length : Int) ∧ (ls.length : Int) ≤ 20 := by simpa using hc
      omega
    intro d hd0
    have eD := e1.trans (Ex.new (o := .dK []) hd0)
    refine q_forL (ev_var rfl) (sq_of (eD _ _ hls.at_)) (fun i σ' H' => ∃ (a3 a4 a5 : Option V) (kvs : List (Key × V)), σ' = [some (.ref L.p), some (.ref l), some (.ref d), a3, a4, a5] ∧ Ex H H' ∧ H' d = some (.dK kvs) ∧ kvs.length ≤ i ∧ SumsOk L.accs (ls.take i) kvs ∧
        ∀ x ∈ ls.take i, 1 ≤ x.2.1 ∧ x.2.1 ≤ (L.accs.length : Int)) (fun H2 e2 => ⟨none, none, none, [], rfl, eD.trans e2, e2 _ _ upd_same, Nat.le_refl _, ⟨(by intro k v e; cases e), fun c => rfl⟩, (by intro x hx; cases hx)⟩)
      (fun i σ' H' hi hP => ?_) (fun i y0 σ' H' hy0 hP => ?_) (fun σ' H' hP => ?_)
    · obtain ⟨_, _, _, _, _, e2, _⟩ := hP
      exact sq_of (e2 _ _ hls.at_)
    · obtain ⟨a3, a4, a5, kvs, rfl, e2, h2, hk, hS, hR⟩ := hP
      obtain ⟨y, hy, rfl⟩ := refs_inv hy0
      have hyt := e2 _ _ (hls.prs y (List.mem_of_getElem? hy))
      have hL2 := hL.mono e2
      refine ⟨_, _, rfl, st_of hyt, rfl, _, _, rfl, _, _, rfl, rfl, ?_⟩
      refine ⟨_, rfl, L.p, L.dx, ledF L, rfl, hL2.ins, rfl, _, rfl, L, y.2.1, rfl, hL2, fun _ => hb.mono e2, fun j x hj hx H3 e3 => ?_⟩
      have hcur : cur L.accs (y.2.1 - 1).toNat = x.2.1 := by
        have ej : (y.2.1 - 1).toNat = j := by omega
        unfold cur
        rw [ej, getD_of hx]
      refine q_when (et_or (et_test (ev_op (ev_var rfl) ev_c (rv_eq rfl))) fun _ => et_not (et_test (ev_chain (ev_op ev_c ev_c rv_I0) (ev_var rfl) ev_c rv_I0 rv_I0))) (fun _ H4 e4 => hb Z.val (by simp [Ads.five]) H4 ((e2.trans e3).trans e4)) fun _ H4 e4 => ?_
      have hd4 := e4 _ _ (e3 _ _ h2)
      refine s_dput (key := Sum.inr x.2.1) hd4 (ev_op (ev_is (ev_dget2 (key := Sum.inr x.2.1) hd4 (ev_var rfl) (ev_var rfl) ev_c) (hS.get x.2.1)) (ev_var rfl) rv_I0) (ev_var rfl) (ev_var rfl) (by rw [sizeLine_eq]; have := (List.getElem?_eq_some_iff.mp hy).1; omega) fun H5 e5 => ?_
      refine ⟨_, _, _, _, rfl, Ex.mut (((e2.trans e3).trans e4).trans e5) (fresh_back e1 hd0), upd_same, ?_, hS.put hy hcur, fun z hz => ?_⟩
      · have := length_putK kvs (Sum.inr x.2.1) (.int (curSum L.accs x.2.1 (ls.take i) + y.2.2))
        omega
      · rw [List.take_succ, hy] at hz
        rcases List.mem_append.mp hz with m | m
        · exact hR z m
        · have ez : z = y := by simpa using m
          rw [ez, hj]
          exact place_in hx
    · obtain ⟨a3, a4, a5, kvs, rfl, e2, h2, hk, hS, hR⟩ := hP
      rw [refs_len, List.take_length] at hS hR
      refine ⟨d, _, h2, trivial, fun od => ?_⟩
      have dn : H d = none := fresh_back e1 hd0
      refine ⟨_, rfl, d, od, rfl, .inl ⟨kvs, upd_same, for_it walk_keys (fun i σ' H' => ∃ a5 : Option V, σ' = [some (.ref L.p), some (.ref l), some (.ref d), a3, a4, a5] ∧ Ex H H' ∧ H' d = some (.frz od (.dK kvs)) ∧ ∀ j key v, j < i → kvs[j]? = some (key, v) → valV kvs key = some (.int 0))
        ⟨a5, rfl, Ex.mut e2 dn, upd_same, fun j key v hj => by omega⟩ (fun i σ' H' _ hP => ?_) (fun i x σ' H' H3 hi hP hY => ?_) (fun σ' H' hP => ?_)⟩⟩
      · obtain ⟨_, _, _, h3, _⟩ := hP
        exact h3
      · obtain ⟨b5, rfl, e3, h3, hV⟩ := hP
        obtain ⟨rfl, key, v, hkv, rfl⟩ := hY
        obtain ⟨u, hu⟩ : ∃ u, valV kvs key = some u := by
          cases e : valV kvs key with
          | some u => exact ⟨u, rfl⟩
          | none => exact absurd (List.mem_map.mpr ⟨_, List.mem_of_getElem? hkv, rfl⟩) (valV_not e)
        obtain ⟨c, z, rfl, rfl⟩ := hS.1 key u hu
        refine s_when (b := !decide (V.int z = V.int 0)) (et_test (ev_op (ev_dgetF h3 (ev_var rfl) (ev_var rfl) hu) ev_c (rv_ne rfl))) (fun _ H4 e4 => hb Z.val (by simp [Ads.five]) H4 (e3.trans e4)) fun hz H4 e4 => ?_
        have z0 : V.int z = V.int 0 := by simpa using hz
        refine ⟨_, rfl, e3.trans e4, e4 _ _ h3, fun j key2 v2 hj hkv2 => ?_⟩
        by_cases hji : j = i
        · rw [hji, hkv] at hkv2
          cases hkv2
          rw [hu, z0]
        · exact hV j key2 v2 (by omega) hkv2
      · obtain ⟨b5, rfl, e3, h3, hV⟩ := hP
        refine ⟨h3, k _ (Ex.mut e3 dn) ⟨hc2.1, hc2.2, hR, fun c => ?_⟩⟩
        rw [hS.2 c]
        cases e : valV kvs (Sum.inr c) with
        | none => rfl
        | some u =>
          obtain ⟨p, hp, ep⟩ := List.mem_map.mp (valV_in e)
          obtain ⟨j, hj, hje⟩ := List.getElem_of_mem hp
          have hj2 : kvs[j]? = some (Sum.inr c, p.2) := by
            rw [List.getElem?_eq_getElem hj, hje, ← ep]
          have := hV j _ _ hj hj2
          rw [e] at this
          rw [Option.some.inj this]
          rfl
theorem Ex.back {H H' : Hp} {d : Addr} (e : Ex H H') (h : H' d = none) : H d = none := fresh_back e h
end
end
section
open PySem PySem.Spec PyProof.Rows L2 Evl
section
variable {P : Program} {w : World} {K : PySem.W.Frag} {mg : Str → Option Value} {base : Heap} {Z : Ads}

theorem own_keep {H H' : Hp} {L : Led} {a : Addr} {xs : List V} (hL : LedAt Z H L) (k : Keeps (own L) H H') (h : H a = some (.tup xs)) : H' a = some (.tup xs) := k a _ (hL.noT h) h
theorem zw_set {α β : Type} (g : α → β → Int) {z : β} {a : α} : ∀ {A : List α} {B : List β} {j : Nat}, A[j]? = some a → j < B.length → List.zipWith g A (B.set j z) = (List.zipWith g A B).set j (g a z)
  | [], _, _, h, _ => by simp at h
  | _ :: _, [], _, _, h => by simp at h
  | b :: A, y :: B, 0, h, _ => by
    have e : b = a := Option.some.inj h
    subst e
    rfl
  | b :: A, y :: B, j + 1, h, h2 => by
    have ih := zw_set g (z := z) (A := A) (B := B) (j := j) h (by simpa using h2)
    show g b y :: List.zipWith g A (B.set j z) = g b y :: (List.zipWith g A B).set j (g a z)
    rw [ih]
theorem balOf_snoc {ok : Int → Int → Bool} {xs : List (Addr × Ln)} {y : Addr × Ln} : balOf ok (xs ++ [y]) = balOf ok xs + (if ok y.2.day y.2.value = true then y.2.units else 0) := by
  unfold balOf
  rw [List.map_append, List.sum_append, List.map_singleton, List.sum_singleton]
theorem total_set {A : List (Addr × Str × Str)} {Ls : List (Addr × List (Addr × Ln))} {j : Nat} {a : Addr × Str × Str} {x : Addr × List (Addr × Ln)} {y : Addr × Ln} (ha : A[j]? = some a) (hx : Ls[j]? = some x) (c : Str) (ok : Int → Int → Bool) :
    total A (Ls.set j (x.1, x.2 ++ [y])) c ok = total A Ls c ok + (if ok y.2.day y.2.value = true then (if a.2.1 = c then y.2.units else 0) else 0) := by
  unfold total
  have hj : j < Ls.length := (List.getElem?_eq_some_iff.mp hx).1
  rw [zw_set _ ha hj]
  have hz : (List.zipWith (fun (a : Addr × Str × Str) (l : Addr × List (Addr × Ln)) => if a.2.1 = c then balOf ok l.2 else 0) A Ls)[j]? = some (if a.2.1 = c then balOf ok x.2 else 0) := by
    rw [List.getElem?_zipWith, ha, hx]
  rw [sum_set hz]
  by_cases hc : a.2.1 = c
  · rw [if_pos hc, if_pos hc, if_pos hc, balOf_snoc]
    omega
  · rw [if_neg hc, if_neg hc, if_neg hc]
    split <;> omega
theorem set_adr {Ls : List (Addr × List (Addr × Ln))} {j : Nat} {x : Addr × List (Addr × Ln)} (hx : Ls[j]? = some x) (ys : List (Addr × Ln)) : (Ls.set j (x.1, ys)).map (fun x => x.1) = Ls.map (fun x => x.1) := by
  rw [List.map_set]
  refine List.ext_getElem? fun i => ?_
  rw [List.getElem?_set]
  split
  · rename_i e
    subst e
    split
    · rw [List.getElem?_map, hx]
      rfl
    · rw [List.getElem?_eq_none (by omega)]
  · rfl
theorem mem_set {α : Type} {l : List α} {j : Nat} {z x : α} (h : x ∈ l.set j z) : x = z ∨ ∃ i, i ≠ j ∧ l[i]? = some x := by
  obtain ⟨i, hi, e⟩ := List.getElem_of_mem h
  have h2 : (l.set j z)[i]? = some x := by rw [List.getElem?_eq_getElem hi, e]
  rw [List.getElem?_set] at h2
  split at h2
  · split at h2
    · exact .inl (Option.some.inj h2).symm
    · cases h2
  · rename_i n
    exact .inr ⟨i, fun e => n e.symm, h2⟩
/-- a line more at an account -/
theorem led_line {H : Hp} {L : Led} {j : Nat} {x : Addr × List (Addr × Ln)} {t : Addr} {y : Ln} (h : LedAt Z H L) (hx : L.lines[j]? = some x) (ht : H t = some (.tup (lnV y))) :
    LedAt Z (upd H x.1 (.lst (refs x.2 ++ [.ref t]))) { L with lines := L.lines.set j (x.1, x.2 ++ [(t, y)]) } := by
  have hm := List.mem_of_getElem? hx
  have hxl := h.linL x hm
  have nd := h.nd
  simp only [List.nodup_cons, List.mem_cons, not_or] at nd
  obtain ⟨⟨d1, d2, d3⟩, ⟨d4, d5⟩, d6, d7⟩ := nd
  have mx : x.1 ∈ L.lines.map (fun x => x.1) := List.mem_map.mpr ⟨x, hm, rfl⟩
  have n1 : L.la ≠ x.1 := fun e => d3 (by rw [e]; exact mx)
  have n2 : L.ll ≠ x.1 := fun e => d5 (by rw [e]; exact mx)
  have n3 : L.le ≠ x.1 := fun e => d6 (by rw [e]; exact mx)
  have tn : ∀ {a xs}, H a = some (.tup xs) → a ≠ x.1 := fun ha => ne_of ha hxl (by intro z; cases z)
  refine ⟨upd_keep h.ins (ne_of h.ins hxl (by intro z; cases z)), upd_keep h.acc n1, fun u hu => upd_keep (h.accT u hu) (tn (h.accT u hu)), ?_, fun u hu => ?_, fun u hu v hv => ?_,
    upd_keep h.ent n3, fun u hu => upd_keep (h.entT u hu) (tn (h.entT u hu)), fun u hu => upd_keep (h.entK u hu) (tn (h.entK u hu)), fun u hu l hl => upd_keep (h.entL u hu l hl) (tn (h.entL u hu l hl)), upd_keep h.rev (ne_of h.rev hxl (by intro z; cases z)), ?_⟩
  · have e : refs (L.lines.set j (x.1, x.2 ++ [(t, y)])) = refs L.lines := by
      have z := congrArg (List.map V.ref) (set_adr hx (x.2 ++ [(t, y)]))
      rw [List.map_map, List.map_map] at z
      exact z
    show upd H x.1 _ L.ll = some (.lst (refs (L.lines.set j (x.1, x.2 ++ [(t, y)]))))
    rw [e]
    exact upd_keep h.lin n2
  · rcases mem_set hu with e | ⟨i, hi, hui⟩
    · rw [e, upd_same, refs_app]
      rfl
    · have hum := List.mem_of_getElem? hui
      refine upd_keep (h.linL u hum) fun e => hi (nd_ix d7 (i := i) (j := j) (x := x.1) ?_ ?_)
      · rw [List.getElem?_map, hui, ← e]
        rfl
      · rw [List.getElem?_map, hx]
        rfl
  · rcases mem_set hu with e | ⟨i, hi, hui⟩
    · rw [e] at hv
      rcases List.mem_append.mp hv with m | m
      · exact upd_keep (h.linT x hm v m) (tn (h.linT x hm v m))
      · rw [List.mem_singleton.mp m]
        exact upd_keep ht (tn ht)
    · exact upd_keep (h.linT u (List.mem_of_getElem? hui) v hv) (tn (h.linT u (List.mem_of_getElem? hui) v hv))
  · show (L.la :: L.ll :: L.le :: (L.lines.set j (x.1, x.2 ++ [(t, y)])).map (fun x => x.1)).Nodup
    rw [set_adr hx]
    exact h.nd
/-- an entry more -/
theorem led_ent {H : Hp} {L : Led} {t : Addr} {e : Ent} (h : LedAt Z H L) (ht : H t = some (.tup (entV e))) (hk : H e.kept = some (.tup (refs e.lines))) (hp : Pairs H e.lines) :
    LedAt Z (upd H L.le (.lst (refs L.ents ++ [.ref t]))) { L with ents := L.ents ++ [(t, e)] } := by
  have nd := h.nd
  simp only [List.nodup_cons, List.mem_cons, not_or] at nd
  obtain ⟨⟨d1, d2, d3⟩, ⟨d4, d5⟩, d6, d7⟩ := nd
  have tn : ∀ {a xs}, H a = some (.tup xs) → a ≠ L.le := fun ha => ne_of ha h.ent (by intro z; cases z)
  refine ⟨upd_keep h.ins (ne_of h.ins h.ent (by intro z; cases z)), upd_keep h.acc d2, fun u hu => upd_keep (h.accT u hu) (tn (h.accT u hu)), upd_keep h.lin d4, fun u hu => upd_keep (h.linL u hu) (fun e => d6 (by rw [← e]; exact List.mem_map.mpr ⟨u, hu, rfl⟩)), fun u hu v hv => upd_keep (h.linT u hu v hv) (tn (h.linT u hu v hv)),
    ?_, fun u hu => ?_, fun u hu => ?_, fun u hu l hl => ?_, upd_keep h.rev (ne_of h.rev h.ent (by intro z; cases z)), h.nd⟩
  · rw [upd_same, refs_app]
    rfl
  · rcases List.mem_append.mp hu with m | m
    · exact upd_keep (h.entT u m) (tn (h.entT u m))
    · rw [List.mem_singleton.mp m]
      exact upd_keep ht (tn ht)
  · rcases List.mem_append.mp hu with m | m
    · exact upd_keep (h.entK u m) (tn (h.entK u m))
    · rw [List.mem_singleton.mp m]
      exact upd_keep hk (tn hk)
  · rcases List.mem_append.mp hu with m | m
    · exact upd_keep (h.entL u m l hl) (tn (h.entL u m l hl))
    · rw [List.mem_singleton.mp m] at hl
      exact upd_keep (hp l hl) (tn (hp l hl))
/-- behind the first i lines of the new entry -/
structure AddMid (Z : Ads) (L L' : Led) (H H' : Hp) (ls : List (Addr × Int × Int)) (d v : Int) (i : Nat) : Prop where
  at_ : LedAt Z H' L'
  p : L'.p = L.p
  le : L'.le = L.le
  dr : L'.dr = L.dr
  accs : L'.accs = L.accs
  ents : L'.ents = L.ents
  rev : L'.rev = L.rev
  adr : L'.lines.map (fun x => x.1) = L.lines.map (fun x => x.1)
  few : ∀ x ∈ L'.lines, x.2.length ≤ 20 * L.ents.length + i
  bal : ∀ c ok, total L.accs L'.lines c ok = if ok d v = true then curSum L.accs c (ls.take i) else 0
  kp : Keeps (own L) H H'
theorem AddMid.ex {L L' : Led} {H H' H2 : Hp} {ls : List (Addr × Int × Int)} {d v : Int} {i : Nat} (m : AddMid Z L L' H H' ls d v i) (e : Ex H' H2) : AddMid Z L L' H H2 ls d v i :=
  ⟨m.at_.mono e, m.p, m.le, m.dr, m.accs, m.ents, m.rev, m.adr, m.few, m.bal, m.kp.trans (Ex.keeps e)⟩
theorem AddMid.step {L L' : Led} {H H2 : Hp} {ls : List (Addr × Int × Int)} {d v no : Int} {i j : Nat} {y : Addr × Int × Int} {a : Addr × Str × Str} {x : Addr × List (Addr × Ln)} {t : Addr} (m : AddMid Z L L' H H2 ls d v i) (hy : ls[i]? = some y) (hj : y.2.1 = (j : Int) + 1)
    (ha : L.accs[j]? = some a) (hx : L'.lines[j]? = some x) (ht : H2 t = some (.tup (lnV ⟨no, d, v, y.2.2⟩))) :
    AddMid Z L { L' with lines := L'.lines.set j (x.1, x.2 ++ [(t, ⟨no, d, v, y.2.2⟩)]) } H (upd H2 x.1 (.lst (refs x.2 ++ [.ref t]))) ls d v (i + 1) := by
  have hm := List.mem_of_getElem? hx
  refine ⟨led_line m.at_ hx ht, m.p, m.le, m.dr, m.accs, m.ents, m.rev, (set_adr hx _).trans m.adr, fun u hu => ?_, fun c ok => ?_, m.kp.upd ?_⟩
  · rcases mem_set hu with e | ⟨k, hk, huk⟩
    · have := m.few x hm
      rw [e, List.length_append, List.length_singleton]
      omega
    · have := m.few u (List.mem_of_getElem? huk)
      omega
  · show total L.accs (L'.lines.set j (x.1, x.2 ++ [(t, ⟨no, d, v, y.2.2⟩)])) c ok = _
    rw [total_set ha hx, m.bal, curSum_take hy]
    have hc : cur L.accs (y.2.1 - 1).toNat = a.2.1 := by
      have ej : (y.2.1 - 1).toNat = j := by omega
      unfold cur
      rw [ej, getD_of ha]
    rw [hc]
    show _ + (if ok d v = true then _ else _) = _
    by_cases ho : ok d v = true
    · rw [if_pos ho, if_pos ho, if_pos ho]
    · rw [if_neg ho, if_neg ho, if_neg ho]
      rfl
  · refine List.mem_cons_of_mem _ (List.mem_cons_of_mem _ ?_)
    rw [← m.adr]
    exact List.mem_map.mpr ⟨x, hm, rfl⟩
theorem curSum_map {A : List (Addr × Str × Str)} {ks ls : List (Addr × Int × Int)} (h : ks.map (fun x => x.2) = ls.map (fun x => x.2)) (c : Str) : curSum A c ks = curSum A c ls := by
  unfold curSum
  have z := congrArg (List.map fun (q : Int × Int) => if cur A (q.1 - 1).toNat = c then q.2 else 0) h
  rw [List.map_map, List.map_map] at z
  exact congrArg List.sum z
theorem Good.map {A : List (Addr × Str × Str)} {ks ls : List (Addr × Int × Int)} (h : ks.map (fun x => x.2) = ls.map (fun x => x.2)) (g : Good A ls) : Good A ks := by
  have hl : ks.length = ls.length := by
    have := congrArg List.length h
    rw [List.length_map, List.length_map] at this
    exact this
  refine ⟨by rw [hl]; exact g.two, by rw [hl]; exact g.few, fun l m => ?_, fun c => (curSum_map h c).trans (g.bal c)⟩
  have m2 : l.2 ∈ ls.map (fun x => x.2) := by
    rw [← h]
    exact List.mem_map.mpr ⟨l, m, rfl⟩
  obtain ⟨q, hq, e⟩ := List.mem_map.mp m2
  rw [← e]
  exact g.ran q hq
end
end
section
open PySem PySem.Spec PyProof.Rows L2 Evl
section
variable {P : Program} {w : World} {K : PySem.W.Frag} {mg : Str → Option Value} {base : Heap} {Z : Ads}

/-- [(a, f(u)) for a, u in lines] -/
theorem lc_pairs {f : Int → Int} {σ : L2.St} {H : Hp} {Q : VK} {l : Addr} {ls : List (Addr × Int × Int)} {tl te : TE} {vs : List Nat} {i j : Nat} (h : Ev tl σ H (.ref l)) (hls : LinesAt H l ls) (hz : ls.length ≤ 1000)
    (hw : ∀ x y, wipe (((wipe σ vs).set i (some x)).set j (some y)) vs = wipe σ vs) (he : ∀ H1 (a u : Int), EvU te (((wipe σ vs).set i (some (.int a))).set j (some (.int u))) H1 [.int a, .int (f u)])
    (k : ∀ D H' (ks : List (Addr × Int × Int)), H D = none → Ex H H' → ks.map (fun x => x.2) = ls.map (fun x => (x.2.1, f x.2.2)) → Pairs H' ks → H' D = some (.lst (refs ks)) → Q (.ref D) H') :
    tLc (iList K tl) (gTup K 2 (gCons (gName i) (gCons (gName j) gNil))) tYes te vs σ H Q := by
  refine h H (Ex.refl H) _ fun H1 e1 => ⟨l, rfl, ⟨_, sq_of (e1 _ _ hls.at_)⟩, fun D hD => ?_⟩
  refine lc_list (xs := refs ls) (fun n H' => Ex H1 H' ∧ ∃ ks : List (Addr × Int × Int), ks.map (fun x => x.2) = (ls.take n).map (fun x => (x.2.1, f x.2.2)) ∧ Pairs H' ks ∧ H' D = some (.lst (refs ks)))
    ⟨Ex.new hD, [], rfl, (by intro x hx; cases hx), upd_same⟩ (fun n H' _ hP => sq_of (hP.1 _ _ (e1 _ _ hls.at_))) (fun n x H' hx hP => ?_) (fun H' hP => ?_)
  · obtain ⟨e2, ks, hk, hp, hDl⟩ := hP
    obtain ⟨y, hy, rfl⟩ := refs_inv hx
    have hyt := e2 _ _ (e1 _ _ (hls.prs y (List.mem_of_getElem? hy)))
    have hkl : ks.length ≤ 1000 := by
      have z := congrArg List.length hk
      rw [List.length_map, List.length_map, List.length_take] at z
      omega
    refine ⟨y.1, _, rfl, st_of hyt, rfl, _, _, rfl, _, _, rfl, rfl, hw _ _, ?_⟩
    refine he H' y.2.1 y.2.2 H' (Ex.refl H') _ fun t H4 ht0 e4 ht => ⟨refs ks, e4 _ _ hDl, by rw [refs_len, sizeLine_eq]; omega, Ex.mut (e2.trans e4) hD, ks ++ [(t, y.2.1, f y.2.2)], ?_, fun u hu => ?_, ?_⟩
    · rw [List.map_append, hk, List.take_succ, hy, List.map_append]
      rfl
    · have tn : ∀ {a xs}, H4 a = some (.tup xs) → a ≠ D := fun ha => ne_of ha (e4 _ _ hDl) (by intro z; cases z)
      rcases List.mem_append.mp hu with m | m
      · exact upd_keep (e4 _ _ (hp u m)) (tn (e4 _ _ (hp u m)))
      · rw [List.mem_singleton.mp m]
        exact upd_keep ht (tn ht)
    · rw [upd_same, refs_app]
      rfl
  · obtain ⟨e2, ks, hk, hp, hDl⟩ := hP
    rw [refs_len, List.take_length] at hk
    exact k D H' ks (fresh_back e1 hD) (e1.trans e2) hk hp hDl
section
variable {f : Int → Int} {σ : L2.St} {H : Hp} {D : Ends} {tz : TS} {l : Addr} {ls : List (Addr × Int × Int)} {tl te : TE} {vs : List Nat} {i j m : Nat}
/-- .. given to a name -/
theorem q_lcPairs (h : Ev tl σ H (.ref l)) (hls : LinesAt H l ls) (hz : ls.length ≤ 1000) (hw : ∀ x y, wipe (((wipe σ vs).set i (some x)).set j (some y)) vs = wipe σ vs)
    (he : ∀ H1 (a u : Int), EvU te (((wipe σ vs).set i (some (.int a))).set j (some (.int u))) H1 [.int a, .int (f u)])
    (k : ∀ p H' (ks : List (Addr × Int × Int)), H p = none → Ex H H' → ks.map (fun x => x.2) = ls.map (fun x => (x.2.1, f x.2.2)) → Pairs H' ks → H' p = some (.lst (refs ks)) → tz D (σ.set m (some (.ref p))) H') :
    tSeq (tAsg (tLc (iList K tl) (gTup K 2 (gCons (gName i) (gCons (gName j) gNil))) tYes te vs) (gName m)) tz D σ H := lc_pairs (Q := fun v H' => tz D (σ.set m (some v)) H') h hls hz hw he k
/-- .. as a tuple -/
theorem q_lcPairsT (h : Ev tl σ H (.ref l)) (hls : LinesAt H l ls) (hz : ls.length ≤ 1000) (hw : ∀ x y, wipe (((wipe σ vs).set i (some x)).set j (some y)) vs = wipe σ vs)
    (he : ∀ H1 (a u : Int), EvU te (((wipe σ vs).set i (some (.int a))).set j (some (.int u))) H1 [.int a, .int (f u)])
    (k : ∀ q H' (ks : List (Addr × Int × Int)), Ex H H' → ks.map (fun x => x.2) = ls.map (fun x => (x.2.1, f x.2.2)) → Pairs H' ks → H' q = some (.tup (refs ks)) → tz D (σ.set m (some (.ref q))) H') :
    tSeq (tAsg (tCB (fun xs H Q => ∃ p ys, xs = [.ref p] ∧ ((SqL K H p ys ∧ ∀ l, H l = none → Q (.ref l) (upd H l (.tup ys))) ∨ (SqT K H p ys ∧ Q (.ref p) H))) (tCons (tLc (iList K tl) (gTup K 2 (gCons (gName i) (gCons (gName j) gNil))) tYes te vs) tNil)) (gName m)) tz D σ H :=
  lc_pairs (Q := fun v H' => ∃ p ys, [v] = [.ref p] ∧ ((SqL K H' p ys ∧ ∀ l, H' l = none → tz D (σ.set m (some (.ref l))) (upd H' l (.tup ys))) ∨ (SqT K H' p ys ∧ tz D (σ.set m (some (.ref p))) H'))) h hls hz hw he fun p H' ks _ e hk hp hl =>
    ⟨p, refs ks, rfl, .inl ⟨sq_of hl, fun q hq => k q _ ks (e.trans (Ex.new hq)) hk (hp.mono (Ex.new hq)) upd_same⟩⟩
end
theorem map_id2 {ks ls : List (Addr × Int × Int)} (h : ks.map (fun x => x.2) = ls.map (fun x => (x.2.1, x.2.2))) : ks.map (fun x => x.2) = ls.map (fun x => x.2) := h
theorem ok_add {f : Addr} {fd : FuncData} (F : Fun K "_add" "Ledger._add" s_add f fd) (T : Txt K mg Z) : FnOk P w K mg base (L2.CX P w) 1 f fd ["self", "day", "value", "cause", "lines", "reverses"] (spAdd Z) := by
  refine F.okX sc_add (fun vs H Q E h => ?_) (fun cdv A outer s H vs Q E hr h => ?_)
  · obtain ⟨L, d, v, c, l, ls, rv, rfl, _⟩ := h
    rfl
  · obtain ⟨L, d, v, c, l, ls, rv, rfl, hL, hO, hlo, hls, hG, hb, k⟩ := h
    refine ⟨_, (pss_cons (ps_if (pt_cmpR op_ge (pe_callB call_len_seq (by rfl) T.n_len PySem.boot_len (pa_cons (pe_fld (pv 0) rfl) pa_nil)) (pgv T.g_MOST_ENTRIES) (nomark _)) (pss_one (p_raise T.Full (takes_of rfl rfl rfl rfl))) pss_nil)
      (pss_cons (ps_set (i := 6) sc_add.nd rfl (Or.inl rfl) (pe_op op_add (pe_callB call_len_seq (by rfl) T.n_len PySem.boot_len (pa_cons (pe_fld (pv 0) rfl) pa_nil)) pe_int))
      (pss_cons (ps_for (passes_of rfl) rfl (pi_list (pv 4)) (pg_tup rfl (pgs_cons (pg_name (i := 7) sc_add.nd rfl (Or.inl rfl)) (pgs_cons (pg_name (i := 8) sc_add.nd rfl (Or.inl rfl)) pgs_nil))) (pss_one (ps_expr (pe_bm PySem.F.plainAttrs_list PySem.F.slot_list_append PySem.F.type_list_append mt_append (pe_ix ix_list (pe_fld (pv 0) rfl) (pe_op op_sub (pv 7) pe_int) (fun _ _ => rfl)) (pa_cons (pe_tup (pa_cons (pv 6) (pa_cons (pv 1) (pa_cons (pv 2) (pa_cons (pv 8) pa_nil))))) pa_nil)))))
      (pss_cons (ps_set (i := 9) sc_add.nd rfl (Or.inl rfl) (pe_callTy call_tuple_of (by rfl) T.n_tuple (by decide +kernel) (pa_cons (pe_lc (own := [("account", 7), ("units", 8)]) (g := gTup K 2 (gCons (gName 7) (gCons (gName 8) gNil))) (by rfl) sc_add.nd (pi_list (pv 4)) (blkOk_by (own := [("account", 7), ("units", 8)]) (N := ["self", "day", "value", "cause", "lines", "reverses", "number", "account", "units", "kept"]) (sc := defScope s_add) (by decide +kernel)) (fun _ _ _ _ _ => by exact (pg_tup rfl (pgs_cons (pg_name (i := 7) sc_add.nd rfl (Or.inl rfl)) (pgs_cons (pg_name (i := 8) sc_add.nd rfl (Or.inl rfl)) pgs_nil)))) (fun _ _ _ _ _ => pts_nil) (fun _ _ _ _ _ => by exact (pe_tup (pa_cons (pv 7) (pa_cons (pv 8) pa_nil))))) pa_nil)))
      (pss_cons (ps_expr (pe_bm PySem.F.plainAttrs_list PySem.F.slot_list_append PySem.F.type_list_append mt_append (pe_fld (pv 0) rfl) (pa_cons (pe_tup (pa_cons (pv 1) (pa_cons (pv 2) (pa_cons (pv 3) (pa_cons (pv 9) (pa_cons (pv 5) pa_nil)))))) pa_nil)))
      (pss_one (ps_ret (pv 6)))))))), ?_⟩
    refine q_when (b := decide (2000 ≤ (L.ents.length : Int))) (et_test (ev_op (ev_is (ev_lenL (ev_fld (ev_var rfl) hL.ins T.cl T.a3 (by rfl)) (sq_of hL.ent)) (by rw [refs_len])) ev_c rv_I0)) (fun _ H1 e1 => hb Z.ful (by simp [Ads.five]) H1 e1) fun hc H1 e1 => ?_
    have hlt : L.ents.length < 2000 := by
      have z := of_decide_eq_false hc
      omega
    have hL1 := hL.mono e1
    refine q_asg (v := .int ((L.ents.length : Int) + 1)) (ev_op (ev_is (ev_lenL (ev_fld (ev_var rfl) hL1.ins T.cl T.a3 (by rfl)) (sq_of hL1.ent)) (by rw [refs_len])) ev_c rv_I0) fun H2 e2 => ?_
    have e02 := e1.trans e2
    have hL2 := hL.mono e02
    have hls2 := hls.mono e02
    have keepT : ∀ {H' : Hp} {a : Addr} {xs : List V}, Keeps (own L) H2 H' → H2 a = some (.tup xs) → H' a = some (.tup xs) := fun kp ha => own_keep hL2 kp ha
    refine q_forL (ev_var rfl) (sq_of hls2.at_) (fun i σ' H' => ∃ (a7 a8 : Option V) (L' : Led), σ' = [some (.ref L.p), some (.int d), some (.int v), some (.str c), some (.ref l), some rv, some (.int ((L.ents.length : Int) + 1)), a7, a8, none] ∧ AddMid Z L L' H2 H' ls d v i)
      (fun H3 e3 => ⟨none, none, L, rfl, hL2.mono e3, rfl, rfl, rfl, rfl, rfl, rfl, rfl, fun x hx => by have := hO.few x hx; omega, fun c ok => ?_, Ex.keeps e3⟩) (fun i σ' H' hi hP => ?_) (fun i y0 σ' H' hy0 hP => ?_) (fun σ' H' hP => ?_)
    · rw [hO.bal]
      split <;> rfl
    · obtain ⟨_, _, L', _, m⟩ := hP
      exact sq_of (m.kp _ _ hlo hls2.at_)
    · obtain ⟨a7, a8, L', rfl, m⟩ := hP
      obtain ⟨y, hy, rfl⟩ := refs_inv hy0
      have hym := List.mem_of_getElem? hy
      have hyt := keepT m.kp (hls2.prs y hym)
      obtain ⟨hr1, hr2⟩ := hG.ran y hym
      obtain ⟨j, a, hj, ha⟩ := in_place hr1 hr2
      have hjl : j < L'.lines.length := by
        have z := congrArg List.length m.adr
        rw [List.length_map, List.length_map, hO.len] at z
        have := (List.getElem?_eq_some_iff.mp ha).1
        omega
      obtain ⟨x, hx⟩ : ∃ x, L'.lines[j]? = some x := ⟨_, List.getElem?_eq_getElem hjl⟩
      have hxm := List.mem_of_getElem? hx
      have hins := m.at_.ins
      rw [m.p] at hins
      refine ⟨_, _, rfl, st_of hyt, rfl, _, _, rfl, _, _, rfl, rfl, ?_⟩
      refine s_appU (m.at_.linL x hxm) (ev_op (ev_fld (ev_var rfl) hins T.cl T.a2 (by rfl)) (ev_op (ev_var rfl) ev_c rv_I0) (rv_ixR m.at_.lin (by omega) hx)) (eu_tup (ea_cons (ev_var rfl) (ea_cons (ev_var rfl) (ea_cons (ev_var rfl) (ea_cons (ev_var rfl) ea_nil)))) (by show 4 ≤ 100000; decide))
        (by rw [refs_len]; have := m.few x hxm; have := (List.getElem?_eq_some_iff.mp hy).1; have := hG.few; omega) fun t H3 ht0 e3 ht => ?_
      exact ⟨_, _, _, rfl, (m.ex e3).step (no := (L.ents.length : Int) + 1) hy hj ha hx ht⟩
    · obtain ⟨a7, a8, L', rfl, m⟩ := hP
      rw [refs_len] at m
      have hls3 : LinesAt H' l ls := ⟨m.kp _ _ hlo hls2.at_, fun y hy => keepT m.kp (hls2.prs y hy)⟩
      refine q_lcPairsT (f := fun u => u) (ev_var rfl) hls3 (by have := hG.few; omega) (fun _ _ => rfl) (fun H1 a u => eu_tup (ea_cons (ev_var rfl) (ea_cons (ev_var rfl) ea_nil)) (by show 2 ≤ 100000; decide)) fun q H4 ks e4 hk hp4 hq4 => ?_
      have m4 := m.ex e4
      have hins := m4.at_.ins
      rw [m4.p] at hins
      have hle := m4.at_.ent
      refine q_appU hle (ev_fld (ev_var rfl) hins T.cl T.a3 (by rfl)) (eu_tup (ea_cons (ev_var rfl) (ea_cons (ev_var rfl) (ea_cons (ev_var rfl) (ea_cons (ev_var rfl) (ea_cons (ev_var rfl) ea_nil))))) (by show 5 ≤ 100000; decide)) (by rw [refs_len, m4.ents]; omega) fun t H5 ht0 e5 ht => ?_
      have m5 := m4.ex e5
      have hE := led_ent (e := ⟨d, v, c, q, ks, rv⟩) m5.at_ ht (e5 _ _ hq4) (hp4.mono e5)
      have hk2 := map_id2 hk
      refine s_ret (ev_var rfl) fun H6 e6 => ?_
      have hn : (((L'.ents ++ [(t, (⟨d, v, c, q, ks, rv⟩ : Ent))]).length : Nat) : Int) = (L.ents.length : Int) + 1 := by
        rw [List.length_append, m5.ents, List.length_singleton]
        omega
      rw [← hn]
      refine k H6 _ (hE.mono e6) ⟨?_, ?_, ?_, ?_, ?_, ?_, ?_, ?_⟩ ⟨m5.p, m5.accs, ?_, ?_⟩ m5.rev (((Ex.keeps e02).trans m5.kp).upd ?_ |>.trans (Ex.keeps e6))
      · show L'.lines.length = L'.accs.length
        have z := congrArg List.length m5.adr
        rw [List.length_map, List.length_map] at z
        rw [z, m5.accs]
        exact hO.len
      · show L'.accs.length ≤ 200
        rw [m5.accs]
        exact hO.acc
      · show ∀ x ∈ L'.accs, _
        rw [m5.accs]
        exact hO.sor
      · intro x hx
        have z := m5.few x hx
        have := hG.few
        show x.2.length ≤ 20 * (L'.ents ++ [(t, (⟨d, v, c, q, ks, rv⟩ : Ent))]).length
        rw [List.length_append, m5.ents, List.length_singleton]
        omega
      · show (L'.ents ++ [(t, (⟨d, v, c, q, ks, rv⟩ : Ent))]).length ≤ 2000
        rw [List.length_append, m5.ents, List.length_singleton]
        omega
      · show L'.rev.length ≤ (L'.ents ++ [(t, (⟨d, v, c, q, ks, rv⟩ : Ent))]).length
        rw [List.length_append, m5.ents, List.length_singleton, m5.rev]
        have := hO.rev
        omega
      · show ∀ x ∈ L'.ents ++ [(t, (⟨d, v, c, q, ks, rv⟩ : Ent))], Good L'.accs x.2.lines
        intro x hx
        rw [m5.accs]
        rcases List.mem_append.mp hx with z | z
        · rw [m5.ents] at z
          exact hO.good x z
        · rw [List.mem_singleton.mp z]
          exact hG.map hk2
      · intro c ok
        show total L'.accs L'.lines c ok = 0
        rw [m5.accs, m5.bal, List.take_length, hG.bal]
        split <;> rfl
      · show L'.le :: L'.dr :: L'.lines.map (fun x => x.1) = L.le :: L.dr :: L.lines.map (fun x => x.1)
        rw [m5.le, m5.dr, m5.adr]
      · show (L'.ents ++ [(t, (⟨d, v, c, q, ks, rv⟩ : Ent))]).length = _
        rw [List.length_append, m5.ents, List.length_singleton]
      · rw [m5.le]
        exact List.mem_cons_self
end
end
section
open PySem PySem.Spec PyProof.Rows L2 Evl
section
variable {P : Program} {w : World} {K : PySem.W.Frag} {mg : Str → Option Value} {base : Heap} {Z : Ads}

section
variable {σ : L2.St} {H : Hp} {D : Ends} {tz : TS} {ta : TE} {ar : TA} {C dx p : Addr} {fs : List (Str × V)} {m : Str} {sp : Sp} {W : WX} {vs : List V} {i : Nat} {Q : VK}
/-- a method that may raise -/
theorem t_mt (ha : Ev ta σ H (.ref p)) (ho : H p = some (.ins C dx fs)) (hl : fs.lookup m = none) (h : EvA ar σ H vs) (k : ∀ H1, Ex H H1 → sp (.ref p :: vs) H1 Q (WE W σ)) : tMt C m sp W ta ar σ H Q :=
  ha H (Ex.refl H) _ fun H1 e1 => ⟨p, dx, fs, rfl, e1 _ _ ho, hl, h H1 e1 _ fun H2 e2 => k H2 (e1.trans e2)⟩
theorem q_dropM (ha : Ev ta σ H (.ref p)) (ho : H p = some (.ins C dx fs)) (hl : fs.lookup m = none) (h : EvA ar σ H vs) (k : ∀ H1, Ex H H1 → sp (.ref p :: vs) H1 (fun _ H2 => tz D σ H2) (WE W σ)) : tSeq (tDrop (tMt C m sp W ta ar)) tz D σ H :=
  t_mt (Q := fun _ H2 => tz D σ H2) ha ho hl h k
theorem s_dropM (ha : Ev ta σ H (.ref p)) (ho : H p = some (.ins C dx fs)) (hl : fs.lookup m = none) (h : EvA ar σ H vs) (k : ∀ H1, Ex H H1 → sp (.ref p :: vs) H1 (fun _ H2 => D.nx σ H2) (WE W σ)) : tDrop (tMt C m sp W ta ar) D σ H :=
  t_mt (Q := fun _ H2 => D.nx σ H2) ha ho hl h k
theorem q_asgM (ha : Ev ta σ H (.ref p)) (ho : H p = some (.ins C dx fs)) (hl : fs.lookup m = none) (h : EvA ar σ H vs) (k : ∀ H1, Ex H H1 → sp (.ref p :: vs) H1 (fun v H2 => tz D (σ.set i (some v)) H2) (WE W σ)) : tSeq (tAsg (tMt C m sp W ta ar) (gName i)) tz D σ H :=
  t_mt (Q := fun v H2 => tz D (σ.set i (some v)) H2) ha ho hl h k
theorem s_retM (ha : Ev ta σ H (.ref p)) (ho : H p = some (.ins C dx fs)) (hl : fs.lookup m = none) (h : EvA ar σ H vs) (k : ∀ H1, Ex H H1 → sp (.ref p :: vs) H1 D.rt (WE W σ)) : tRet (tMt C m sp W ta ar) D σ H :=
  t_mt (Q := D.rt) ha ho hl h k
theorem q_asgC (h : EvA ar σ H vs) (k : ∀ H1, Ex H H1 → sp vs H1 (fun v H2 => tz D (σ.set i (some v)) H2) (WE W σ)) : tSeq (tAsg (tCallS sp (WE W) ar) (gName i)) tz D σ H := h H (Ex.refl H) _ k
theorem s_retC (h : EvA ar σ H vs) (k : ∀ H1, Ex H H1 → sp vs H1 D.rt (WE W σ)) : tRet (tCallS sp (WE W) ar) D σ H := h H (Ex.refl H) _ k
end
theorem s_dput_seq {σ : L2.St} {H : Hp} {D : Ends} {tz : TS} {td ty tv : TE} {d : Addr} {kvs : List (Key × V)} {key : Key} {v : V} (hd : H d = some (.dK kvs)) (hv : Ev tv σ H v) (h1 : Ev td σ H (.ref d)) (h2 : Ev ty σ H (kV key)) (hz : kvs.length < sizeLine)
    (k : ∀ H1, Ex H H1 → tz D σ (upd H1 d (.dK (putK kvs key v)))) : tSeq (sDPut td ty tv) tz D σ H := s_dput (D := { D with nx := tz D }) hd hv h1 h2 hz k
theorem curSum_neg {A : List (Addr × Str × Str)} {ks ls : List (Addr × Int × Int)} (h : ks.map (fun x => x.2) = ls.map (fun x => (x.2.1, 0 - x.2.2))) (c : Str) : curSum A c ks = - curSum A c ls := by
  have e1 : curSum A c ks = ((ls.map (fun x => (x.2.1, 0 - x.2.2))).map fun (q : Int × Int) => if cur A (q.1 - 1).toNat = c then q.2 else 0).sum := by
    rw [← h, List.map_map]
    rfl
  rw [e1, List.map_map]
  unfold curSum
  clear h e1
  induction ls with
  | nil => rfl
  | cons l r ih =>
    rw [List.map_cons, List.map_cons, List.sum_cons, List.sum_cons, ih]
    show (if cur A (l.2.1 - 1).toNat = c then 0 - l.2.2 else 0) + _ = _
    split <;> omega
theorem Good.neg {A : List (Addr × Str × Str)} {ks ls : List (Addr × Int × Int)} (h : ks.map (fun x => x.2) = ls.map (fun x => (x.2.1, 0 - x.2.2))) (g : Good A ls) : Good A ks := by
  have hl : ks.length = ls.length := by
    have := congrArg List.length h
    rw [List.length_map, List.length_map] at this
    exact this
  refine ⟨by rw [hl]; exact g.two, by rw [hl]; exact g.few, fun l m => ?_, fun c => by rw [curSum_neg h, g.bal]; rfl⟩
  have m2 : l.2 ∈ ls.map (fun x => (x.2.1, 0 - x.2.2)) := by
    rw [← h]
    exact List.mem_map.mpr ⟨l, m, rfl⟩
  obtain ⟨q, hq, e⟩ := List.mem_map.mp m2
  rw [← e]
  exact g.ran q hq
/-- a reversal noted -/
theorem led_rev {H : Hp} {L : Led} {r : List (Key × V)} (h : LedAt Z H L) : LedAt Z (upd H L.dr (.dK r)) { L with rev := r } := by
  have tn : ∀ {a xs}, H a = some (.tup xs) → a ≠ L.dr := fun ha => ne_of ha h.rev (by intro z; cases z)
  have ln : ∀ {a xs}, H a = some (.lst xs) → a ≠ L.dr := fun ha => ne_of ha h.rev (by intro z; cases z)
  exact ⟨upd_keep h.ins (ne_of h.ins h.rev (by intro z; cases z)), upd_keep h.acc (ln h.acc), fun u hu => upd_keep (h.accT u hu) (tn (h.accT u hu)), upd_keep h.lin (ln h.lin), fun u hu => upd_keep (h.linL u hu) (ln (h.linL u hu)), fun u hu v hv => upd_keep (h.linT u hu v hv) (tn (h.linT u hu v hv)),
    upd_keep h.ent (ln h.ent), fun u hu => upd_keep (h.entT u hu) (tn (h.entT u hu)), fun u hu => upd_keep (h.entK u hu) (tn (h.entK u hu)), fun u hu l hl => upd_keep (h.entL u hu l hl) (tn (h.entL u hu l hl)), upd_same, h.nd⟩
theorem ok_post {f : Addr} {fd : FuncData} (F : Fun K "post" "Ledger.post" s_post f fd) (T : Txt K mg Z) (c_check_head : Met P w K mg base 2 Z.led "_check_head" (spHead Z)) (c_check_lines : Met P w K mg base 3 Z.led "_check_lines" (spLines Z)) (c_add : Met P w K mg base 1 Z.led "_add" (spAdd Z)) :
    FnOk P w K mg base (L2.CX P w) 4 f fd ["self", "day", "value", "cause", "lines"] (spPost Z) := by
  refine F.okX sc_post (fun vs H Q E h => ?_) (fun cdv A outer s H vs Q E hr h => ?_)
  · obtain ⟨L, d, v, c, l, ls, rfl, _⟩ := h
    rfl
  · obtain ⟨L, d, v, c, l, ls, rfl, hL, hO, hlo, hls, hc, hb, k⟩ := h
    refine ⟨_, (pss_cons (ps_expr (pm T.cl c_check_head (hr.mono (by decide)) (takes_of rfl rfl rfl rfl) (pv 0) (pa_cons (pv 1) (pa_cons (pv 2) (pa_cons (pv 3) pa_nil)))))
      (pss_cons (ps_expr (pm T.cl c_check_lines (hr.mono (by decide)) (takes_of rfl rfl rfl rfl) (pv 0) (pa_cons (pv 4) pa_nil)))
      (pss_one (ps_ret (pm T.cl c_add (hr.mono (by decide)) (takes_of rfl rfl rfl rfl) (pv 0) (pa_cons (pv 1) (pa_cons (pv 2) (pa_cons (pv 3) (pa_cons (pv 4) (pa_cons pe_non pa_nil)))))))))), ?_⟩
    refine q_dropM (ev_var rfl) hL.ins (by rfl) (ea_cons (ev_var rfl) (ea_cons (ev_var rfl) (ea_cons (ev_var rfl) ea_nil))) fun H1 e1 => ⟨L, d, v, c, rfl, hL.mono e1, hO.ent, hc, hb.mono e1, fun H2 e2 => ?_⟩
    have e02 := e1.trans e2
    have hL2 := hL.mono e02
    refine q_dropM (ev_var rfl) hL2.ins (by rfl) (ea_cons (ev_var rfl) ea_nil) fun H3 e3 => ⟨L, l, ls, rfl, hL2.mono e3, hls.mono (e02.trans e3), hb.mono (e02.trans e3), fun H4 e4 hG => ?_⟩
    have e04 := (e02.trans e3).trans e4
    have hL4 := hL.mono e04
    refine s_retM (ev_var rfl) hL4.ins (by rfl) (ea_cons (ev_var rfl) (ea_cons (ev_var rfl) (ea_cons (ev_var rfl) (ea_cons (ev_var rfl) (ea_cons ev_c ea_nil))))) fun H5 e5 => ?_
    have e05 := e04.trans e5
    exact ⟨L, d, v, c, l, ls, .non, rfl, hL.mono e05, hO, hlo, hls.mono e05, hG, hb.mono e05, fun H6 L' h1 h2 h3 h4 h5 => k H6 L' h1 h2 h3 ((Ex.keeps e05).trans h5)⟩
theorem ok_reverse {f : Addr} {fd : FuncData} (F : Fun K "reverse" "Ledger.reverse" s_reverse f fd) (T : Txt K mg Z) (c_entry : Met P w K mg base 1 Z.led "entry" (spEntry Z)) (c_check_head : Met P w K mg base 2 Z.led "_check_head" (spHead Z)) (c_add : Met P w K mg base 1 Z.led "_add" (spAdd Z)) :
    FnOk P w K mg base (L2.CX P w) 3 f fd ["self", "number", "day", "cause"] (spReverse Z) := by
  refine F.okX sc_reverse (fun vs H Q E h => ?_) (fun cdv A outer s H vs Q E hr h => ?_)
  · obtain ⟨L, n, d, c, rfl, _⟩ := h
    rfl
  · obtain ⟨L, n, d, c, rfl, hL, hO, hc, hb, k⟩ := h
    refine ⟨_, (pss_cons (ps_set (i := 4) sc_reverse.nd rfl (Or.inl rfl) (pm T.cl c_entry (hr.mono (by decide)) (takes_of rfl rfl rfl rfl) (pv 0) (pa_cons (pv 1) pa_nil)))
      (pss_cons (ps_if (PW.pt (pw_or (pt_cmpR op_notN (pe_ix ix_tup (pv 4) pe_int (fun _ _ => rfl)) pe_non (nomark _)) (pw_or1 (pt_cmpR op_notN (pe_ix ix_tup (pv 4) pe_int (fun _ _ => rfl)) pe_non (nomark _))))) (pss_one (p_raise T.Refused (takes_of rfl rfl rfl rfl))) pss_nil)
      (pss_cons (ps_expr (pm T.cl c_check_head (hr.mono (by decide)) (takes_of rfl rfl rfl rfl) (pv 0) (pa_cons (pv 2) (pa_cons (pe_ix ix_tup (pv 4) pe_int (fun _ _ => rfl)) (pa_cons (pv 3) pa_nil)))))
      (pss_cons (ps_setLc (i := 5) (own := [("account", 7), ("units", 8)]) (g := gTup K 2 (gCons (gName 7) (gCons (gName 8) gNil))) (by rfl) sc_reverse.nd rfl rfl (sw_true rfl rfl rfl (by decide +kernel)) (pi_list (pe_ix ix_tup (pv 4) pe_int (fun _ _ => rfl))) (blkOk_by (own := [("account", 7), ("units", 8)]) (N := ["self", "number", "day", "cause", "old", "lines", "added", "account", "units"]) (sc := defScope s_reverse) (by decide +kernel)) (fun _ _ _ _ _ => by exact (pg_tup rfl (pgs_cons (pg_name (i := 7) sc_reverse.nd rfl (Or.inl rfl)) (pgs_cons (pg_name (i := 8) sc_reverse.nd rfl (Or.inl rfl)) pgs_nil)))) (fun _ _ _ _ _ => pts_nil) (fun _ _ _ _ _ => by exact (pe_tup (pa_cons (pv 7) (pa_cons (pe_op op_sub pe_int (pv 8)) pa_nil)))))
      (pss_cons (ps_set (i := 6) sc_reverse.nd rfl (Or.inl rfl) (pm T.cl c_add (hr.mono (by decide)) (takes_of rfl rfl rfl rfl) (pv 0) (pa_cons (pv 2) (pa_cons (pe_ix ix_tup (pv 4) pe_int (fun _ _ => rfl)) (pa_cons (pv 3) (pa_cons (pv 5) (pa_cons (pv 1) pa_nil)))))))
      (pss_cons (ps_dput (hu_of hr) (pe_fld (pv 0) rfl) (pv 1) (pv 6) rfl)
      (pss_one (ps_ret (pv 6))))))))), ?_⟩
    refine q_asgM (ev_var rfl) hL.ins (by rfl) (ea_cons (ev_var rfl) ea_nil) fun H1 e1 => ⟨L, n, rfl, hL.mono e1, hO.ent, fun x hx => (hO.good x hx).few, fun _ => hb.mono e1, fun i x hi hx H2 t l u e2 hl0 ht hl => ?_⟩
    have e02 := e1.trans e2
    have hm := List.mem_of_getElem? hx
    refine q_when (et_or (et_test (ev_op (ev_op (ev_var rfl) ev_c (rv_ixT (st_of ht) rfl)) ev_c rv_notN)) fun _ => et_test (ev_op (ev_op (ev_var rfl) ev_c (rv_ixT (st_of ht) rfl)) ev_c rv_notN)) (fun _ H3 e3 => hb Z.ref (by simp [Ads.five]) H3 (e02.trans e3)) fun _ H3 e3 => ?_
    have e03 := e02.trans e3
    have ht3 := e3 _ _ ht
    refine q_dropM (ev_var rfl) (hL.mono e03).ins (by rfl) (ea_cons (ev_var rfl) (ea_cons (ev_op (ev_var rfl) ev_c (rv_ixT (st_of ht3) rfl)) (ea_cons (ev_var rfl) ea_nil))) fun H4 e4 => ⟨L, d, _, c, rfl, hL.mono (e03.trans e4), hO.ent, hc, hb.mono (e03.trans e4), fun H5 e5 => ?_⟩
    have e05 := (e03.trans e4).trans e5
    have ht5 := e5 _ _ (e4 _ _ ht3)
    have hls5 : LinesAt H5 l x.2.lines := ⟨e5 _ _ (e4 _ _ (e3 _ _ hl)), (hL.entL x hm).mono e05⟩
    have hgx := hO.good x hm
    refine q_lcPairs (f := fun u => 0 - u) (ev_op (ev_var rfl) ev_c (rv_ixT (st_of ht5) rfl)) hls5 (by have := hgx.few; omega) (fun _ _ => rfl) (fun H1 a u => eu_tup (ea_cons (ev_var rfl) (ea_cons (ev_op ev_c (ev_var rfl) rv_I0) ea_nil)) (by show 2 ≤ 100000; decide)) fun p H6 ks hp0 e6 hk hpk hpl => ?_
    have e06 := e05.trans e6
    have ht6 := e6 _ _ ht5
    have hno : p ∉ own L := (hL.mono e05).noN hp0
    refine q_asgM (ev_var rfl) (hL.mono e06).ins (by rfl) (ea_cons (ev_var rfl) (ea_cons (ev_op (ev_var rfl) ev_c (rv_ixT (st_of ht6) rfl)) (ea_cons (ev_var rfl) (ea_cons (ev_var rfl) (ea_cons (ev_var rfl) ea_nil))))) fun H7 e7 =>
      ⟨L, d, _, c, p, ks, .int n, rfl, hL.mono (e06.trans e7), hO, hno, ⟨e7 _ _ hpl, hpk.mono e7⟩, hgx.neg hk, hb.mono (e06.trans e7), fun H8 L' hL' hO' hG' hr' hK' => ?_⟩
    have hins := hL'.ins
    rw [hG'.p] at hins
    refine s_dput_seq (key := Sum.inl n) hL'.rev (ev_var rfl) (ev_fld (ev_var rfl) hins T.cl T.a4 (by rfl)) (ev_var rfl) (by have := hO'.rev; have := hO'.ent; rw [sizeLine_eq]; omega) fun H9 e9 => ?_
    have hR := led_rev (r := putK L'.rev (Sum.inl n) (.int (L'.ents.length : Int))) (hL'.mono e9)
    refine s_ret (ev_var rfl) fun H10 e10 => ?_
    refine k H10 { L' with rev := putK L'.rev (Sum.inl n) (.int (L'.ents.length : Int)) } (hR.mono e10) ⟨hO'.len, hO'.acc, hO'.sor, hO'.few, hO'.ent, ?_, hO'.good, hO'.bal⟩ ⟨hG'.p, hG'.accs, hG'.own, hG'.n⟩ ?_
    · show (putK L'.rev (Sum.inl n) (.int (L'.ents.length : Int))).length ≤ L'.ents.length
      have := length_putK L'.rev (Sum.inl n) (.int (L'.ents.length : Int))
      have := hO.rev
      have := hG'.n
      rw [hr'] at *
      omega
    · have hd : L'.dr ∈ own L := by
        rw [← hG'.own]
        exact List.mem_cons_of_mem _ List.mem_cons_self
      exact (((Ex.keeps (e06.trans e7)).trans hK').trans (Ex.keeps e9)).upd hd |>.trans (Ex.keeps e10)
end
end
section
open PySem PySem.Spec PyProof.Rows L2 Evl
section
variable {P : Program} {w : World} {K : PySem.W.Frag} {mg : Str → Option Value} {base : Heap} {Z : Ads}

theorem ints_app {ns : List Int} {z : Int} : ns.map V.int ++ [V.int z] = (ns ++ [z]).map V.int := by
  rw [List.map_append]
  rfl
theorem ok_w_numbers {f : Addr} {fd : FuncData} (F : Fun K "_law_numbers" "_law_numbers" s_w_numbers f fd) (T : Txt K mg Z) : FnOk P w K mg base (L2.CX P w) 1 f fd ["_law_cell", "_law_count"] spNumbers := by
  refine F.okX sc_w_numbers (fun vs H Q E h => ?_) (fun cdv A outer s H vs Q E hr h => ?_)
  · obtain ⟨c, n, rfl, _⟩ := h
    rfl
  · obtain ⟨c, n, rfl, hn, k⟩ := h
    refine ⟨_, (pss_cons (ps_set (i := 2) sc_w_numbers.nd rfl (Or.inl rfl) pe_int)
      (pss_cons (ps_if (pt_cmpR op_ge (pv 0) (pe_op op_pow pe_int pe_int) (nomark _)) (pss_one (ps_set (i := 2) sc_w_numbers.nd rfl (Or.inl rfl) (pe_op op_fdivW (pv 0) (pe_op op_pow pe_int pe_int)))) pss_nil)
      (pss_cons (ps_set (i := 3) sc_w_numbers.nd rfl (Or.inl rfl) (pe_lst pa_nil))
      (pss_cons (ps_for (passes_of rfl) rfl (pi_range1 rfl T.n_range (pa_cons (pv 1) pa_nil)) (pg_name (i := 4) sc_w_numbers.nd rfl (Or.inl rfl)) (pss_one (ps_if (pt_cmpR op_gt (pv 2) pe_int (nomark _)) (pss_cons (ps_expr (pe_bm PySem.F.plainAttrs_list PySem.F.slot_list_append PySem.F.type_list_append mt_append (pv 3) (pa_cons (pe_op op_mod (pe_callTy call_int1 (by rfl) T.n_int (by decide +kernel) (pa_cons (pv 2) pa_nil)) (pe_op op_pow pe_int pe_int)) pa_nil)))
      (pss_one (ps_set (i := 2) sc_w_numbers.nd rfl (Or.inl rfl) (pe_op op_fdivW (pv 2) (pe_op op_pow pe_int pe_int))))) (pss_cons (ps_set (i := 5) sc_w_numbers.nd rfl (Or.inl rfl) (pe_op op_mod (pe_callTy call_int1 (by rfl) T.n_int (by decide +kernel) (pa_cons (pe_op op_add (pe_op op_add (pe_op op_mul (pv 0) pe_int) (pe_op op_mul (pv 4) pe_int)) pe_int) pa_nil)) pe_int))
      (pss_cons (ps_set (i := 5) sc_w_numbers.nd rfl (Or.inl rfl) (pe_op op_mod (pe_callTy call_int1 (by rfl) T.n_int (by decide +kernel) (pa_cons (pe_op op_add (pe_op op_add (pe_op op_mul (pv 5) (pv 5)) (pe_op op_mul pe_int (pv 4))) pe_int) pa_nil)) pe_int))
      (pss_one (ps_expr (pe_bm PySem.F.plainAttrs_list PySem.F.slot_list_append PySem.F.type_list_append mt_append (pv 3) (pa_cons (pe_op op_add (pe_op op_mul (pe_op op_mod (pe_callTy call_int1 (by rfl) T.n_int (by decide +kernel) (pa_cons (pe_op op_add (pe_op op_mul (pv 5) (pv 5)) (pv 5)) pa_nil)) pe_int) pe_int) (pv 4)) pa_nil)))))))))
      (pss_one (ps_ret (pv 3))))))), ?_⟩
    have b1 : ∀ x : Int, -(2 ^ 64) < x % 2147483647 ∧ x % 2147483647 < 2 ^ 64 := fun x => by omega
    have b2 : ∀ x : Int, -(2 ^ 64) < x % 2147483629 ∧ x % 2147483629 < 2 ^ 64 := fun x => by omega
    refine q_asg ev_c fun H1 e1 => ?_
    refine q_ifAsg (b := decide ((10 : Int) ^ (18 : Int).toNat ≤ c)) (v := .int (if (10 : Int) ^ (18 : Int).toNat ≤ c then c / 10 ^ (18 : Int).toNat else 0)) (et_test (ev_op (ev_var rfl) (ev_op ev_c ev_c (rv_I ⟨by decide, by decide, by decide⟩)) rv_I0)) (fun hb => ?_) (fun hb => ?_) fun H2 e2 => ?_
    · rw [if_pos (of_decide_eq_true hb)]
      exact ev_op (ev_var rfl) (ev_op ev_c ev_c (rv_I ⟨by decide, by decide, by decide⟩)) (rv_I ⟨by decide, by decide⟩)
    · rw [if_neg (of_decide_eq_false hb)]
      rfl
    generalize (if (10 : Int) ^ (18 : Int).toNat ≤ c then c / 10 ^ (18 : Int).toNat else 0) = r0
    have e02 := e1.trans e2
    refine q_asgL (el_lst ea_nil (by decide)) fun p H3 hp0 e3 hp => ?_
    have hpH : H p = none := fresh_back e02 hp0
    refine q_forR1 (n := (n : Int)) (ea_cons (ev_var rfl) ea_nil) (by omega) (fun i σ' H' => ∃ (r : Int) (a4 a5 : Option V) (ns : List Int), σ' = [some (.int c), some (.int (n : Int)), some (.int r), some (.ref p), a4, a5] ∧ ns.length = i ∧ Ex H H' ∧ IntsAt H' p ns)
      (fun H4 e4 => ⟨r0, none, none, [], rfl, rfl, (e02.trans e3).trans e4, e4 _ _ hp⟩) (fun i σ' H' hi hP => ?_) (fun σ' H' hP => ?_)
    · obtain ⟨r, a4, a5, ns, rfl, hl, eH, hns⟩ := hP
      have hsz : (ns.map V.int).length < 100000 := by
        rw [List.length_map]
        omega
      refine s_if (b := decide (0 < r)) (et_test (ev_op (ev_var rfl) ev_c rv_I0)) (fun _ H4 e4 => ?_) (fun _ H4 e4 => ?_)
      · refine q_app (e4 _ _ hns) (ev_var rfl) (ev_op (ev_int (ev_var rfl)) (ev_op ev_c ev_c (rv_I ⟨by decide, by decide, by decide⟩)) (rv_I (by decide))) hsz fun H5 e5 => ?_
        rw [ints_app]
        refine s_asg (ev_op (ev_var rfl) (ev_op ev_c ev_c (rv_I ⟨by decide, by decide, by decide⟩)) (rv_I ⟨by decide, by decide⟩)) fun H6 e6 => ?_
        exact ⟨_, _, _, _, rfl, by rw [List.length_append, hl]; rfl, (Ex.mut ((eH.trans e4).trans e5) hpH).trans e6, e6 _ _ upd_same⟩
      · refine q_asg (ev_op (ev_int (ev_op (ev_op (ev_op (ev_var rfl) ev_c (rv_I (.inr (by decide)))) (ev_op (ev_var rfl) ev_c (rv_I (.inr (by decide)))) rv_I0) ev_c rv_I0)) ev_c (rv_I (by decide))) fun H5 e5 => ?_
        refine q_asg (ev_op (ev_int (ev_op (ev_op (ev_op (ev_var rfl) (ev_var rfl) (rv_I (.inl (b1 _)))) (ev_op ev_c (ev_var rfl) (rv_I (.inl (by decide)))) rv_I0) ev_c rv_I0)) ev_c (rv_I (by decide))) fun H6 e6 => ?_
        refine s_app (e6 _ _ (e5 _ _ (e4 _ _ hns))) (ev_var rfl) (ev_op (ev_op (ev_op (ev_int (ev_op (ev_op (ev_var rfl) (ev_var rfl) (rv_I (.inl (b2 _)))) (ev_var rfl) rv_I0)) ev_c (rv_I (by decide))) ev_c (rv_I (.inr (by decide)))) (ev_var rfl) rv_I0) hsz fun H7 e7 => ?_
        rw [ints_app]
        exact ⟨_, _, _, _, rfl, by rw [List.length_append, hl]; rfl, Ex.mut ((((eH.trans e4).trans e5).trans e6).trans e7) hpH, upd_same⟩
    · obtain ⟨r, a4, a5, ns, rfl, hl, eH, hns⟩ := hP
      exact s_ret (ev_var rfl) fun H4 e4 => k H4 p ns hpH (eH.trans e4) (by omega) (e4 _ _ hns)
theorem ok_w_units {f : Addr} {fd : FuncData} (F : Fun K "_law_units" "_law_units" s_w_units f fd) (T : Txt K mg Z) : FnOk P w K mg base (L2.CX P w) 1 f fd ["_law_number"] spUnits := by
  refine F.okX sc_w_units (fun vs H Q E h => ?_) (fun cdv A outer s H vs Q E hr h => ?_)
  · obtain ⟨n, rfl, _⟩ := h
    rfl
  · obtain ⟨n, rfl, k⟩ := h
    refine ⟨_, (pss_cons (ps_if (pt_cmpR op_eq (pe_op op_mod (pv 0) pe_int) pe_int (nomark _)) (pss_one (ps_ret (pe_op op_add pe_int (pe_op op_mod (pe_op op_fdiv (pv 0) pe_int) pe_int)))) pss_nil)
      (pss_one (ps_ret (pe_op op_add pe_int (pe_op op_mod (pe_op op_fdiv (pv 0) pe_int) (pe_op op_pow pe_int pe_int)))))), ?_⟩
    refine q_when (b := decide (V.int (n % 2) = V.int 1)) (et_test (ev_op (ev_op (ev_var rfl) ev_c (rv_I (by decide))) ev_c (rv_eq rfl))) (fun hb H1 e1 => ?_) fun hb H1 e1 => ?_
    · have hn : unitsF n = 1 + n / 2 % 9 := if_pos (V.int.inj (of_decide_eq_true hb))
      rw [hn] at k
      exact s_ret (ev_op ev_c (ev_op (ev_op (ev_var rfl) ev_c (rv_I ⟨by decide, by decide⟩)) ev_c (rv_I (by decide))) rv_I0) fun H2 e2 => k H2 (e1.trans e2)
    · have hn : unitsF n = 1 + n / 2 % 10 ^ (9 : Int).toNat := if_neg (fun z => of_decide_eq_false hb (by rw [z]))
      rw [hn] at k
      exact s_ret (ev_op ev_c (ev_op (ev_op (ev_var rfl) ev_c (rv_I ⟨by decide, by decide⟩)) (ev_op ev_c ev_c (rv_I ⟨by decide, by decide, by decide⟩)) (rv_I (by decide))) rv_I0) fun H2 e2 => k H2 (e1.trans e2)
theorem ok_w_day {f : Addr} {fd : FuncData} (F : Fun K "_law_day" "_law_day" s_w_day f fd) (T : Txt K mg Z) : FnOk P w K mg base (L2.CX P w) 1 f fd ["_law_number", "_law_days"] spDay := by
  refine F.okX sc_w_day (fun vs H Q E h => ?_) (fun cdv A outer s H vs Q E hr h => ?_)
  · obtain ⟨n, a, ds, rfl, _⟩ := h
    rfl
  · obtain ⟨n, a, ds, rfl, hds, h1, h2, k⟩ := h
    refine ⟨_, (pss_cons (ps_if (pt_cmpR op_eq (pe_op op_mod (pv 0) pe_int) pe_int (nomark _)) (pss_one (ps_ret pe_non)) pss_nil)
      (pss_cons (ps_if (pt_cmpR op_eq (pe_op op_mod (pv 0) pe_int) pe_int (nomark _)) (pss_one (ps_ret (pe_op op_mod (pe_op op_fdiv (pv 0) pe_int) pe_int))) pss_nil)
      (pss_one (ps_ret (pe_op op_sub (pe_op op_add (pe_ix ix_list (pv 1) (pe_op op_mod (pe_op op_fdiv (pv 0) pe_int) (pe_callB call_len_seq (by rfl) T.n_len PySem.boot_len (pa_cons (pv 1) pa_nil))) (fun _ _ => rfl)) (pe_op op_mod (pe_op op_fdivW (pe_op op_fdiv (pv 0) pe_int) (pe_callB call_len_seq (by rfl) T.n_len PySem.boot_len (pa_cons (pv 1) pa_nil))) pe_int)) pe_int))))), ?_⟩
    have lenE : ∀ {H' : Hp} {σ : L2.St} {te : TE}, IntsAt H' a ds → Ev te σ H' (.ref a) → Ev (tCB (fun xs H Q => ∃ p ys, xs = [.ref p] ∧ (SqL K H p ys ∨ SqT K H p ys) ∧ Q (.int ys.length) H) (tCons te tNil)) σ H' (.int (ds.length : Int)) := fun hd ht => ev_is (ev_lenL ht (sq_of hd)) (by rw [List.length_map])
    refine q_when (et_test (ev_op (ev_op (ev_var rfl) ev_c (rv_I (by decide))) ev_c (rv_eq rfl))) (fun _ H1 e1 => s_ret ev_c fun H2 e2 => k none H2 (e1.trans e2)) fun _ H1 e1 => ?_
    refine q_when (et_test (ev_op (ev_op (ev_var rfl) ev_c (rv_I (by decide))) ev_c (rv_eq rfl))) (fun _ H2 e2 => s_ret (ev_op (ev_op (ev_var rfl) ev_c (rv_I ⟨by decide, by decide⟩)) ev_c (rv_I (by decide))) fun H3 e3 => k (some _) H3 ((e1.trans e2).trans e3)) fun _ H2 e2 => ?_
    have hd2 := hds.mono (e1.trans e2)
    have hlp : (0 : Int) < (ds.length : Int) := by omega
    refine s_ret (ev_op (ev_op (ev_op (ev_var rfl) (ev_op (ev_op (ev_var rfl) ev_c (rv_I ⟨by decide, by decide⟩)) (lenE hd2 (ev_var rfl)) (rv_I hlp)) (rv_ixI hd2 (Int.emod_nonneg _ (by omega)) (Int.emod_lt_of_pos _ hlp)))
      (ev_op (ev_op (ev_op (ev_var rfl) ev_c (rv_I ⟨by decide, by decide⟩)) (lenE hd2 (ev_var rfl)) (rv_I (wide_div (b := 20) hlp (by omega) (by decide) (by decide)))) ev_c (rv_I (by decide))) rv_I0) ev_c rv_I0) fun H3 e3 => k (some _) H3 ((e1.trans e2).trans e3)
end
end
section
open PySem PySem.Spec PyProof.Rows L2 Evl
section
variable {P : Program} {w : World} {K : PySem.W.Frag} {mg : Str → Option Value} {base : Heap} {Z : Ads}

section
variable {σ : L2.St} {H : Hp} {te to_ : TE} {tl th : TO}
theorem ev_slS {z : Str} {lo hi : Option Int} (h : Ev te σ H (.str z)) (h1 : EvO tl σ H lo) (h2 : EvO th σ H hi) (hz : z.length ≤ sizeLine) : Ev (tSl rSlS te tl th) σ H (.str (cutS z lo hi)) := fun H1 e Q q =>
  h H1 e _ fun H2 e2 => h1 H2 (e.trans e2) _ fun H3 e3 => h2 H3 ((e.trans e2).trans e3) _ fun H4 e4 => ⟨z, rfl, hz, q H4 ((e2.trans e3).trans e4)⟩
theorem ev_find {a b : Str} (h : Ev to_ σ H (.str a)) (h2 : Ev te σ H (.str b)) : Ev (tM1 (fun x xs H Q => ∃ a b, x = .str a ∧ xs = [.str b] ∧ Q (.int (Txt.find a b)) H) to_ te) σ H (.int (Txt.find a b)) := fun H1 e Q q =>
  h H1 e _ fun H2 e2 => ⟨⟨a, rfl⟩, h2 H2 (e.trans e2) _ fun H3 e3 => ⟨a, b, rfl, rfl, q H3 (e2.trans e3)⟩⟩
end
def abcS : Str := "ABCDEFGHIJKLMNOPQRSTUVWXYZ"
theorem abc_at (i : Int) (h0 : 0 ≤ i) (h1 : i < 26) : ∃ c, atI abcS.cps.toList i = some c ∧ 65 ≤ c ∧ c ≤ 90 := by
  have e : i = ((i.toNat : Nat) : Int) := by omega
  have key : ∀ k : Fin 26, abcS.cps.toList[k.val]? = some (65 + k.val) := by decide +kernel
  refine ⟨65 + i.toNat, ?_, by omega, by omega⟩
  rw [e]
  exact atI_nat (key ⟨i.toNat, by omega⟩)
theorem ok_w_currencies {f : Addr} {fd : FuncData} (F : Fun K "_law_currencies" "_law_currencies" s_w_currencies f fd) (T : Txt K mg Z) : FnOk P w K mg base (L2.CX P w) 1 f fd ["_law_numbers_here"] spCurs := by
  refine F.okX sc_w_currencies (fun vs H Q E h => ?_) (fun cdv A outer s H vs Q E hr h => ?_)
  · obtain ⟨a, ns, rfl, _⟩ := h
    rfl
  · obtain ⟨a, ns, rfl, hns, hl, k⟩ := h
    refine ⟨_, (pss_cons (ps_set (i := 1) sc_w_currencies.nd rfl (Or.inl rfl) pe_str)
      (pss_cons (ps_set (i := 2) sc_w_currencies.nd rfl (Or.inl rfl) (pe_op op_add_str (pe_op op_add_str (pe_ix ix_str (pv 1) (pe_op op_mod (pe_ix ix_list (pv 0) pe_int (fun _ _ => rfl)) pe_int) (fun _ _ => rfl)) (pe_ix ix_str (pv 1) (pe_op op_mod (pe_ix ix_list (pv 0) pe_int (fun _ _ => rfl)) pe_int) (fun _ _ => rfl))) (pe_ix ix_str (pv 1) (pe_op op_mod (pe_ix ix_list (pv 0) pe_int (fun _ _ => rfl)) pe_int) (fun _ _ => rfl))))
      (pss_cons (ps_set (i := 3) sc_w_currencies.nd rfl (Or.inl rfl) (pe_op op_mod (pe_ix ix_list (pv 0) pe_int (fun _ _ => rfl)) pe_int))
      (pss_cons (ps_set (i := 4) sc_w_currencies.nd rfl (Or.inl rfl) (pe_ix ix_str (pv 1) (pe_op op_mod (pe_op op_add (pe_op op_add (pe_m1 PySem.F.slot_str_find PySem.F.type_str_find mt_find (pv 1) (pe_ix ix_str (pv 2) (pv 3) (fun _ _ => rfl))) pe_int) (pe_op op_mod (pe_ix ix_list (pv 0) pe_int (fun _ _ => rfl)) pe_int)) pe_int) (fun _ _ => rfl)))
      (pss_one (ps_ret (pe_lst (pa_cons (pv 2) (pa_cons (pe_op op_add_str (pe_op op_add_str (pe_slice sl_str (pv 2) po_none (po_some (pv 3))) (pv 4)) (pe_slice sl_str (pv 2) (po_some (pe_op op_add (pv 3) pe_int)) po_none)) pa_nil))))))))), ?_⟩
    have big : ∀ {n : Nat}, n ≤ 1000 → n ≤ sizeLine := fun h => Nat.le_trans h (by decide)
    refine q_asg (v := .str abcS) ev_c fun H1 e1 => ?_
    have hn1 := hns.mono e1
    obtain ⟨x, hx, x1, x2⟩ := abc_at (ns.getD (0 : Int).toNat 0 % 26) (by omega) (by omega)
    obtain ⟨y, hy, y1, y2⟩ := abc_at (ns.getD (1 : Int).toNat 0 % 26) (by omega) (by omega)
    obtain ⟨z, hz, z1, z2⟩ := abc_at (ns.getD (2 : Int).toNat 0 % 26) (by omega) (by omega)
    have ab : abcS.length ≤ 100000 := by decide +kernel
    refine q_asg (v := .str ⟨#[x, y, z]⟩) (ev_is (ev_op (ev_op (ev_op (ev_var rfl) (ev_op (ev_op (ev_var rfl) ev_c (rv_ixI hn1 (by decide) (by omega))) ev_c (rv_I (by decide))) (rv_ixS ab hx)) (ev_op (ev_var rfl) (ev_op (ev_op (ev_var rfl) ev_c (rv_ixI hn1 (by decide) (by omega))) ev_c (rv_I (by decide))) (rv_ixS ab hy)) (rv_addS (by show 1 + 1 ≤ sizeLine; decide)))
      (ev_op (ev_var rfl) (ev_op (ev_op (ev_var rfl) ev_c (rv_ixI hn1 (by decide) (by omega))) ev_c (rv_I (by decide))) (rv_ixS ab hz)) (rv_addS (by show 2 + 1 ≤ sizeLine; decide))) rfl) fun H2 e2 => ?_
    have hn2 := hn1.mono e2
    refine q_asg (ev_op (ev_op (ev_var rfl) ev_c (rv_ixI hn2 (by decide) (by omega))) ev_c (rv_I (by decide))) fun H3 e3 => ?_
    have hn3 := hn2.mono e3
    have key : ∃ (cc : Nat) (pre post : Str), atI [x, y, z] (ns.getD (3 : Int).toNat 0 % 3) = some cc ∧ cutS ⟨#[x, y, z]⟩ none (some (ns.getD (3 : Int).toNat 0 % 3)) = pre ∧ cutS ⟨#[x, y, z]⟩ (some (ns.getD (3 : Int).toNat 0 % 3 + 1)) none = post ∧ pre.length ≤ 3 ∧ post.length ≤ 3 ∧
        ∀ o, 65 ≤ o → o ≤ 90 → Cur3 (pre ++ ⟨#[o]⟩ ++ post) := by
      have h3 : ns.getD (3 : Int).toNat 0 % 3 = 0 ∨ ns.getD (3 : Int).toNat 0 % 3 = 1 ∨ ns.getD (3 : Int).toNat 0 % 3 = 2 := by omega
      rcases h3 with e | e | e
      · rw [e]
        exact ⟨x, ⟨#[]⟩, ⟨#[y, z]⟩, rfl, rfl, rfl, by decide, by show 2 ≤ 3; decide, fun o h1 h2 => ⟨o, y, z, rfl, ⟨h1, h2⟩, ⟨y1, y2⟩, ⟨z1, z2⟩⟩⟩
      · rw [e]
        exact ⟨y, ⟨#[x]⟩, ⟨#[z]⟩, rfl, rfl, rfl, by show 1 ≤ 3; decide, by show 1 ≤ 3; decide, fun o h1 h2 => ⟨x, o, z, rfl, ⟨x1, x2⟩, ⟨h1, h2⟩, ⟨z1, z2⟩⟩⟩
      · rw [e]
        exact ⟨z, ⟨#[x, y]⟩, ⟨#[]⟩, rfl, rfl, rfl, by show 2 ≤ 3; decide, by decide, fun o h1 h2 => ⟨x, y, o, rfl, ⟨x1, x2⟩, ⟨y1, y2⟩, ⟨h1, h2⟩⟩⟩
    obtain ⟨cc, pre, post, k1, k2, k3, k4, k5, k6⟩ := key
    obtain ⟨o, ho, o1, o2⟩ := abc_at ((Txt.find abcS ⟨#[cc]⟩ + 1 + ns.getD (4 : Int).toNat 0 % 25) % 26) (by omega) (by omega)
    refine q_asg (v := .str ⟨#[o]⟩) (ev_op (ev_var rfl) (ev_op (ev_op (ev_op (ev_find (ev_var rfl) (ev_op (ev_var rfl) (ev_var rfl) (rv_ixS (by show 3 ≤ 100000; decide) k1))) ev_c rv_I0) (ev_op (ev_op (ev_var rfl) ev_c (rv_ixI hn3 (by decide) (by omega))) ev_c (rv_I (by decide))) rv_I0) ev_c (rv_I (by decide))) (rv_ixS ab ho)) fun H4 e4 => ?_
    refine s_retL (xs := [.str ⟨#[x, y, z]⟩, .str (pre ++ ⟨#[o]⟩ ++ post)]) (el_lst (ea_cons (ev_var rfl) (ea_cons (ev_is (ev_op (ev_op (ev_slS (ev_var rfl) eo_none (eo_some (ev_var rfl)) (big (by show 3 ≤ 1000; decide))) (ev_var rfl) (rv_addS ?_)) (ev_slS (ev_var rfl) (eo_some (ev_op (ev_var rfl) ev_c rv_I0)) eo_none (big (by show 3 ≤ 1000; decide))) (rv_addS ?_)) ?_) ea_nil)) (by show 2 ≤ 100000; decide)) fun p H5 hp e5 h5 => ?_
    · rw [k2]
      exact big (show pre.length + 1 ≤ 1000 by omega)
    · rw [k2, k3]
      refine big ?_
      have : (pre ++ (⟨#[o]⟩ : Str)).length = pre.length + 1 := by
        show (pre.cps ++ #[o]).size = pre.cps.size + 1
        rw [Array.size_append]
        rfl
      omega
    · rw [k2, k3]
    · exact k H5 p _ _ ⟨x, y, z, rfl, ⟨x1, x2⟩, ⟨y1, y2⟩, ⟨z1, z2⟩⟩ (k6 o o1 o2) (fresh_back (((e1.trans e2).trans e3).trans e4) hp) ((((e1.trans e2).trans e3).trans e4).trans e5) h5
end
end
section
open PySem PySem.Spec PyProof.Rows L2 Evl
section
variable {P : Program} {w : World} {K : PySem.W.Frag} {mg : Str → Option Value} {base : Heap} {Z : Ads}

/-! ### values of which only the form is told -/
/-- te ends in some value of which P holds -/
def EvP (te : TE) (σ : L2.St) (H : Hp) (P : V → Hp → Prop) : Prop := ∀ H1, Ex H H1 → ∀ Q : VK, (∀ x H2, Ex H1 H2 → P x H2 → Q x H2) → te σ H1 Q
def IsI : V → Hp → Prop := fun x _ => ∃ z : Int, x = .int z
section
variable {σ : L2.St} {H : Hp} {D : Ends} {tz tu : TS} {ta tb te : TE} {ar : TA} {t : TT} {i j : Nat} {P : V → Hp → Prop} {x0 x v : V} {r : R2} {sp : Sp} {W : WX} {vs xs ys : List V}
theorem ep_of (h : Ev te σ H v) (p : ∀ H1, Ex H H1 → P v H1) : EvP te σ H P := fun H1 e Q q => h H1 e Q fun H2 e2 => q v H2 e2 (p H2 (e.trans e2))
theorem ep_int {z : Int} (h : Ev te σ H (.int z)) : EvP te σ H IsI := ep_of h fun _ _ => ⟨z, rfl⟩
theorem set_same {v : V} : ∀ {σ : L2.St} {i : Nat}, σ[i]? = some (some v) → σ.set i (some v) = σ
  | [], i, h => by simp at h
  | a :: r, 0, h => by
    have e : a = some v := Option.some.inj h
    rw [e]
    rfl
  | a :: r, i + 1, h => by
    show a :: r.set i (some v) = a :: r
    rw [set_same (σ := r) (i := i) h]
/-- if c: x = e -/
theorem q_ifP {b : Bool} (hb : EvT t σ H b) (hx : σ[i]? = some (some x0)) (h1 : b = true → EvP te σ H P) (h2 : b = false → ∀ H1, Ex H H1 → P x0 H1) (k : ∀ x H1, Ex H H1 → P x H1 → tz D (σ.set i (some x)) H1) :
    tSeq (tIfS t (tAsg te (gName i)) tNext) tz D σ H :=
  q_when hb (fun z H1 e1 => h1 z H1 e1 _ fun x H2 e2 p => k x H2 (e1.trans e2) p) fun z H1 e1 => by
    have g := k x0 H1 e1 (h2 z H1 e1)
    rw [set_same hx] at g
    exact g
theorem q_asgP (h : EvP te σ H P) (k : ∀ x H1, Ex H H1 → P x H1 → tz D (σ.set i (some x)) H1) : tSeq (tAsg te (gName i)) tz D σ H := h H (Ex.refl H) _ fun x H1 e p => k x H1 e p
theorem ep_mono {H' : Hp} (e : Ex H H') (h : EvP te σ H P) : EvP te σ H' P := fun H1 e1 Q q => h H1 (e.trans e1) Q q

/-! ### lists made on the way -/
theorem el_cat (ha : EvL ta σ H xs) (hb : EvL tb σ H ys) (hz : xs.length + ys.length ≤ 100000) : EvL (tOp rCat ta tb) σ H (xs ++ ys) := fun H1 e Q q =>
  ha H1 e _ fun p H2 _ e2 hp => hb H2 (e.trans e2) _ fun p2 H3 _ e3 hp2 => ⟨p, p2, xs, ys, rfl, rfl, e3 _ _ hp, hp2, sz_of hz, fun p3 hp3 => q p3 _ (fresh_back (e2.trans e3) hp3) ((e2.trans e3).trans (Ex.new hp3)) upd_same⟩
/-- new pairs of numbers as arguments -/
def EvPr (ta : TA) (σ : L2.St) (H : Hp) (ps : List (Int × Int)) : Prop := ∀ H1, Ex H H1 → ∀ Q : List V → Hp → Prop, (∀ (ls : List (Addr × Int × Int)) H2, Ex H1 H2 → ls.map (fun x => x.2) = ps → Pairs H2 ls → Q (refs ls) H2) → ta σ H1 Q
theorem ep_nil : EvPr tNil σ H [] := fun H1 _ _ q => q [] H1 (Ex.refl H1) rfl (by intro x hx; cases hx)
theorem ep_cons {a b : Int} {ps : List (Int × Int)} {tr : TA} (h : EvU te σ H [.int a, .int b]) (hr : EvPr tr σ H ps) : EvPr (tCons te tr) σ H ((a, b) :: ps) := fun H1 e Q q =>
  h H1 e _ fun p H2 _ e2 hp => hr H2 (e.trans e2) _ fun ls H3 e3 hl hpr => q ((p, a, b) :: ls) H3 (e2.trans e3) (by rw [List.map_cons, hl]) fun u hu => by
    rcases List.mem_cons.mp hu with z | z
    · rw [z]
      exact e3 _ _ hp
    · exact hpr u z
theorem t_lstPr {ps : List (Int × Int)} {Q : VK} (h : EvPr ar σ H ps) (hz : ps.length ≤ 1000) (k : ∀ p H' (ls : List (Addr × Int × Int)), H p = none → Ex H H' → ls.map (fun x => x.2) = ps → LinesAt H' p ls → Q (.ref p) H') : tLst ar σ H Q :=
  h H (Ex.refl H) _ fun ls H1 e1 hl hp => by
    have hn : ls.length = ps.length := by rw [← hl, List.length_map]
    exact ⟨by rw [refs_len, hn, sizeLine_eq]; omega, fun p hp0 => k p _ ls (fresh_back e1 hp0) (e1.trans (Ex.new hp0)) hl ⟨upd_same, hp.mono (Ex.new hp0)⟩⟩
theorem s_retPr {ps : List (Int × Int)} (h : EvPr ar σ H ps) (hz : ps.length ≤ 1000) (k : ∀ p H' (ls : List (Addr × Int × Int)), H p = none → Ex H H' → ls.map (fun x => x.2) = ps → LinesAt H' p ls → D.rt (.ref p) H') : tRet (tLst ar) D σ H := t_lstPr h hz k
/-- a range walked, a new tuple each turn -/
theorem lc_tups {α : Type} {n : Int} {Q : VK} {vs : List Nat} (toV : α → List V) (OK : α → Prop) (h : EvA ar σ H [.int n]) (hn : 0 ≤ n ∧ n ≤ 1000) (hw : ∀ x, wipe ((wipe σ vs).set j (some x)) vs = wipe σ vs)
    (he : ∀ (i : Nat) H1, Ex H H1 → (i : Int) < n → ∃ x : α, OK x ∧ EvU te ((wipe σ vs).set j (some (.int (i : Int)))) H1 (toV x))
    (k : ∀ p H' (xs : List (Addr × α)), H p = none → Ex H H' → (xs.length : Int) = n → (∀ x ∈ xs, OK x.2) → (∀ x ∈ xs, H' x.1 = some (.tup (toV x.2))) → H' p = some (.lst (refs xs)) → Q (.ref p) H') :
    tLc (iRng1 ar) (gName j) tYes te vs σ H Q := by
  refine h H (Ex.refl H) _ fun H1 e1 => ⟨n, rfl, by omega, by omega, fun Dl hD => ?_⟩
  refine lc_range (lo := 0) (n := n.toNat) (fun i H' => Ex H1 H' ∧ ∃ xs : List (Addr × α), xs.length = i ∧ (∀ x ∈ xs, OK x.2) ∧ (∀ x ∈ xs, H' x.1 = some (.tup (toV x.2))) ∧ H' Dl = some (.lst (refs xs)))
    ⟨Ex.new hD, [], rfl, (by intro x hx; cases hx), (by intro x hx; cases hx), upd_same⟩ (fun i H' hi hP => ?_) (fun H' hP => ?_)
  · obtain ⟨e2, xs, hl, hok, ht, hDl⟩ := hP
    obtain ⟨x, hx, hu⟩ := he i H' (e1.trans e2) (by omega)
    have e0 : (0 : Int) + (i : Int) = (i : Int) := Int.zero_add _
    rw [e0]
    refine ⟨hw _, ?_⟩
    refine hu H' (Ex.refl H') _ fun q H4 hq0 e4 hq => ⟨refs xs, e4 _ _ hDl, by rw [refs_len, sizeLine_eq]; omega, Ex.mut (e2.trans e4) hD, xs ++ [(q, x)], by rw [List.length_append, hl]; rfl, fun u hu2 => ?_, fun u hu2 => ?_, ?_⟩
    · rcases List.mem_append.mp hu2 with z | z
      · exact hok u z
      · rw [List.mem_singleton.mp z]
        exact hx
    · have tn : ∀ {a ys}, H4 a = some (.tup ys) → a ≠ Dl := fun ha => ne_of ha (e4 _ _ hDl) (by intro z; cases z)
      rcases List.mem_append.mp hu2 with z | z
      · exact upd_keep (e4 _ _ (ht u z)) (tn (e4 _ _ (ht u z)))
      · rw [List.mem_singleton.mp z]
        exact upd_keep hq (tn hq)
    · rw [upd_same, refs_app]
      rfl
  · obtain ⟨e2, xs, hl, hok, ht, hDl⟩ := hP
    exact k Dl H' xs (fresh_back e1 hD) (e1.trans e2) (by omega) hok ht hDl
theorem s_retTups {α : Type} {n : Int} {vs : List Nat} (toV : α → List V) (OK : α → Prop) (h : EvA ar σ H [.int n]) (hn : 0 ≤ n ∧ n ≤ 1000) (hw : ∀ x, wipe ((wipe σ vs).set j (some x)) vs = wipe σ vs)
    (he : ∀ (i : Nat) H1, Ex H H1 → (i : Int) < n → ∃ x : α, OK x ∧ EvU te ((wipe σ vs).set j (some (.int (i : Int)))) H1 (toV x))
    (k : ∀ p H' (xs : List (Addr × α)), H p = none → Ex H H' → (xs.length : Int) = n → (∀ x ∈ xs, OK x.2) → (∀ x ∈ xs, H' x.1 = some (.tup (toV x.2))) → H' p = some (.lst (refs xs)) → D.rt (.ref p) H') :
    tRet (tLc (iRng1 ar) (gName j) tYes te vs) D σ H := lc_tups toV OK h hn hw he k
/-- x op f(..) -/
theorem s_asgOpC (ha : Ev ta σ H x) (h : EvA ar σ H vs) (k : ∀ H1, Ex H H1 → sp vs H1 (fun y H2 => r x y H2 fun z H3 => D.nx (σ.set i (some z)) H3) (WE W σ)) : tAsg (tOp r ta (tCallS sp (WE W) ar)) (gName i) D σ H :=
  ha H (Ex.refl H) _ fun H1 e1 => h H1 e1 _ fun H2 e2 => k H2 (e1.trans e2)
end
theorem sort_at (i : Int) (h0 : 0 ≤ i) (h1 : i < 5) : ∃ s, s ∈ sortsV ∧ atI (sortsV.map V.str) i = some (.str s) := by
  have e : i = ((i.toNat : Nat) : Int) := by omega
  have hl : i.toNat < sortsV.length := by
    show i.toNat < 5
    omega
  refine ⟨sortsV[i.toNat], List.getElem_mem hl, ?_⟩
  refine at_of e ?_
  rw [List.getElem?_map, List.getElem?_eq_getElem hl]
  rfl
theorem ok_w_accounts {f : Addr} {fd : FuncData} (F : Fun K "_law_accounts" "_law_accounts" s_w_accounts f fd) (T : Txt K mg Z) (c_w_currencies : Cal P w K mg base 1 "_law_currencies" spCurs) : FnOk P w K mg base (L2.CX P w) 2 f fd ["_law_numbers_here"] spAccs := by
  refine F.okX sc_w_accounts (fun vs H Q E h => ?_) (fun cdv A outer s H vs Q E hr h => ?_)
  · obtain ⟨a, ns, rfl, _⟩ := h
    rfl
  · obtain ⟨a, ns, rfl, hns, hl, k⟩ := h
    refine ⟨_, (pss_cons (ps_set (i := 1) sc_w_accounts.nd rfl (Or.inr rfl) (pc c_w_currencies (hr.mono (by decide)) rfl (takes_of rfl rfl rfl rfl) (pa_cons (pv 0) pa_nil)))
      (pss_cons (ps_set (i := 2) sc_w_accounts.nd rfl (Or.inr rfl) (pe_lst (pa_cons pe_str (pa_cons pe_str (pa_cons pe_str (pa_cons pe_str (pa_cons pe_str pa_nil)))))))
      (pss_cons (ps_set (i := 3) sc_w_accounts.nd rfl (Or.inl rfl) (pe_op op_add pe_int (pe_op op_mod (pe_ix ix_list (pv 0) pe_int (fun _ _ => rfl)) pe_int)))
      (pss_cons (ps_if (pt_cmpR op_eq (pe_op op_mod (pe_ix ix_list (pv 0) pe_int (fun _ _ => rfl)) pe_int) pe_int (nomark _)) (pss_one (ps_set (i := 3) sc_w_accounts.nd rfl (Or.inl rfl) (pe_op op_add pe_int (pe_op op_mod (pe_ix ix_list (pv 0) pe_int (fun _ _ => rfl)) pe_int)))) pss_nil)
      (pss_one (ps_ret (pe_lc (own := [("_law_k", 4)]) (te := tTup (tCons (tOp (rIxL K) (tVar 1) (tOp _ (tOp (rIxL K) (tVar 0) (tOp _ (tC _) (tVar 4))) (tC _))) (tCons (tOp (rIxL K) (tVar 2) (tOp _ (tOp _ (tOp (rIxL K) (tVar 0) (tOp _ (tC _) (tVar 4))) (tC _)) (tC _))) tNil))) (by rfl) sc_w_accounts.nd (pi_range1 rfl T.n_range (pa_cons (pv 3) pa_nil)) (blkOk_by (own := [("_law_k", 4)]) (N := ["_law_numbers_here", "_law_currencies_here", "_law_sorts", "_law_count", "_law_k"]) (sc := defScope s_w_accounts) (by decide +kernel)) (fun _ _ _ _ _ => by exact (pg_name (i := 4) sc_w_accounts.nd rfl (Or.inl rfl))) (fun _ _ _ _ _ => pts_nil) (fun _ _ _ _ _ => by exact (pe_tup (pa_cons (pe_ix ix_list (pv 1) (pe_op op_mod (pe_ix ix_list (pv 0) (pe_op op_add pe_int (pv 4)) (fun _ _ => rfl)) pe_int) (fun _ _ => rfl)) (pa_cons (pe_ix ix_list (pv 2) (pe_op op_mod (pe_op op_fdiv (pe_ix ix_list (pv 0) (pe_op op_add pe_int (pv 4)) (fun _ _ => rfl)) pe_int) pe_int) (fun _ _ => rfl)) pa_nil))))))))))), ?_⟩
    refine q_asgC (ea_cons (ev_var rfl) ea_nil) fun H1 e1 => ⟨a, ns, rfl, hns.mono e1, by omega, fun H2 p c d hc hd hp0 e2 hp => ?_⟩
    refine q_asgL (xs := sortsV.map V.str) (el_lst (ea_cons ev_c (ea_cons ev_c (ea_cons ev_c (ea_cons ev_c (ea_cons ev_c ea_nil))))) (by decide)) fun q H3 hq0 e3 hq => ?_
    have e03 := (e1.trans e2).trans e3
    have hn3 := hns.mono e03
    refine q_asgP (P := fun x _ => ∃ z : Int, x = .int z ∧ 2 ≤ z ∧ z ≤ 21) (ep_of (ev_op ev_c (ev_op (ev_op (ev_var rfl) ev_c (rv_ixI hn3 (by decide) (by omega))) ev_c (rv_I (by decide))) rv_I0) fun _ _ => ⟨_, rfl, by omega, by omega⟩) fun x0 H4 e4 hx0 => ?_
    have hn4 := hn3.mono e4
    refine q_ifP (P := fun x _ => ∃ z : Int, x = .int z ∧ 2 ≤ z ∧ z ≤ 21) (et_test (ev_op (ev_op (ev_op (ev_var rfl) ev_c (rv_ixI hn4 (by decide) (by omega))) ev_c (rv_I (by decide))) ev_c (rv_eq rfl))) rfl (fun _ => ep_of (ev_op ev_c (ev_op (ev_op (ev_var rfl) ev_c (rv_ixI hn4 (by decide) (by omega))) ev_c (rv_I (by decide))) rv_I0) fun _ _ => ⟨_, rfl, by omega, by omega⟩) (fun _ _ _ => hx0) fun x1 H5 e5 hx1 => ?_
    obtain ⟨n, rfl, n1, n2⟩ := hx1
    have e05 := (e03.trans e4).trans e5
    have hn5 := hn4.mono e5
    have hp5 := e5 _ _ (e4 _ _ (e3 _ _ hp))
    have hq5 := e5 _ _ (e4 _ _ hq)
    refine s_retTups (α := Str × Str) (fun x => [.str x.1, .str x.2]) (fun x => Cur3 x.1 ∧ x.2 ∈ sortsV) (ea_cons (ev_var rfl) ea_nil) (by omega) (fun _ => rfl) (fun i H6 e6 hi => ?_) fun D H6 xs hD0 e6 hxl hok ht hDl => ?_
    · have hn6 := hn5.mono e6
      have hcu : ∃ cc, Cur3 cc ∧ atI [V.str c, V.str d] (ns.getD ((10 : Int) + (i : Int)).toNat 0 % 2) = some (.str cc) := by
        have h2 : ns.getD ((10 : Int) + (i : Int)).toNat 0 % 2 = 0 ∨ ns.getD ((10 : Int) + (i : Int)).toNat 0 % 2 = 1 := by omega
        rcases h2 with z | z
        · rw [z]
          exact ⟨c, hc, rfl⟩
        · rw [z]
          exact ⟨d, hd, rfl⟩
      obtain ⟨cc, hcc, hca⟩ := hcu
      obtain ⟨ss, hss, hsa⟩ := sort_at (ns.getD ((10 : Int) + (i : Int)).toNat 0 / 2 % 5) (by omega) (by omega)
      refine ⟨(cc, ss), ⟨hcc, hss⟩, eu_tup (ea_cons (ev_op (ev_var rfl) (ev_op (ev_op (ev_var rfl) (ev_op ev_c (ev_var rfl) rv_I0) (rv_ixI hn6 (by omega) (by omega))) ev_c (rv_I (by decide))) (rv_ixL (sq_of (e6 _ _ hp5)) hca))
        (ea_cons (ev_op (ev_var rfl) (ev_op (ev_op (ev_op (ev_var rfl) (ev_op ev_c (ev_var rfl) rv_I0) (rv_ixI hn6 (by omega) (by omega))) ev_c (rv_I ⟨by decide, by decide⟩)) ev_c (rv_I (by decide))) (rv_ixL (sq_of (e6 _ _ hq5)) hsa)) ea_nil)) (by show 2 ≤ 100000; decide)⟩
    · exact k H6 D xs (fresh_back e05 hD0) (e05.trans e6) (by omega) (by omega) hok ⟨hDl, ht⟩
end
end
section
open PySem PySem.Spec PyProof.Rows L2 Evl
section
variable {P : Program} {w : World} {K : PySem.W.Frag} {mg : Str → Option Value} {base : Heap} {Z : Ads}

theorem given_ints (n : Nat) (f : Nat → Bool) : given n f (fun i => V.int (i : Int)) = (((List.range n).filter f).map fun i : Nat => (i : Int)).map V.int := by
  unfold given
  rw [List.map_map]
  rfl
theorem sv_units (n : Int) (H : Hp) : SpV spUnits [.int n] H (.int (unitsF n)) := fun H1 e Q q E => ⟨n, rfl, q⟩
theorem ok_w_group {f : Addr} {fd : FuncData} (F : Fun K "_law_group" "_law_group" s_w_group f fd) (T : Txt K mg Z) (c_w_units : Cal P w K mg base 1 "_law_units" spUnits) :
    FnOk P w K mg base (L2.CX P w) 2 f fd ["_law_numbers_here", "_law_at", "_law_accounts_here"] spGroup := by
  refine F.okX sc_w_group (fun vs H Q E h => ?_) (fun cdv A outer s H vs Q E hr h => ?_)
  · obtain ⟨a, b, ns, i, G, rfl, _⟩ := h
    rfl
  · obtain ⟨a, b, ns, i, G, rfl, hns, hi, hG, g1, g2, k⟩ := h
    refine ⟨_, (pss_cons (ps_set (i := 3) sc_w_group.nd rfl (Or.inr rfl) (pe_op op_mod (pe_ix ix_list (pv 0) (pv 1) (fun _ _ => rfl)) (pe_callB call_len_seq (by rfl) T.n_len PySem.boot_len (pa_cons (pv 2) pa_nil))))
      (pss_cons (ps_setLc (i := 4) (own := [("_law_k", 10)]) (tt := tTest (tOp _ (tOp (rIxT K) (tOp (rIxL K) (tVar 2) (tVar 10)) (tC _)) (tOp (rIxT K) (tOp (rIxL K) (tVar 2) (tVar 3)) (tC _)))) (by rfl) sc_w_group.nd rfl rfl (sw_true rfl rfl rfl (by decide +kernel)) (pi_range1 rfl T.n_range (pa_cons (pe_callB call_len_seq (by rfl) T.n_len PySem.boot_len (pa_cons (pv 2) pa_nil)) pa_nil)) (blkOk_by (own := [("_law_k", 10)]) (N := ["_law_numbers_here", "_law_at", "_law_accounts_here", "_law_first", "_law_mates", "_law_second", "_law_third", "_law_sign", "_law_one", "_law_two", "_law_k"]) (sc := defScope s_w_group) (by decide +kernel)) (fun _ _ _ _ _ => by exact (pg_name (i := 10) sc_w_group.nd rfl (Or.inl rfl))) (fun _ _ _ _ _ => by exact pts_one (pt_cmpR op_eq (pe_ix ix_tup (pe_ix ix_list (pv 2) (pv 10) (fun _ _ => rfl)) pe_int (fun _ _ => rfl)) (pe_ix ix_tup (pe_ix ix_list (pv 2) (pv 3) (fun _ _ => rfl)) pe_int (fun _ _ => rfl)) (nomark _))) (fun _ _ _ _ _ => by exact (pv 10)))
      (pss_cons (ps_set (i := 5) sc_w_group.nd rfl (Or.inl rfl) (pe_ix ix_list (pv 4) (pe_op op_mod (pe_ix ix_list (pv 0) (pe_op op_add (pv 1) pe_int) (fun _ _ => rfl)) (pe_callB call_len_seq (by rfl) T.n_len PySem.boot_len (pa_cons (pv 4) pa_nil))) (fun _ _ => rfl)))
      (pss_cons (ps_set (i := 6) sc_w_group.nd rfl (Or.inl rfl) (pe_ix ix_list (pv 4) (pe_op op_mod (pe_ix ix_list (pv 0) (pe_op op_add (pv 1) pe_int) (fun _ _ => rfl)) (pe_callB call_len_seq (by rfl) T.n_len PySem.boot_len (pa_cons (pv 4) pa_nil))) (fun _ _ => rfl)))
      (pss_cons (ps_set (i := 7) sc_w_group.nd rfl (Or.inl rfl) (pe_op op_sub pe_int (pe_op op_mul pe_int (pe_op op_mod (pe_ix ix_list (pv 0) (pe_op op_add (pv 1) pe_int) (fun _ _ => rfl)) pe_int))))
      (pss_cons (ps_set (i := 8) sc_w_group.nd rfl (Or.inl rfl) (pe_op op_mul (pv 7) (pc c_w_units (hr.mono (by decide)) rfl (takes_of rfl rfl rfl rfl) (pa_cons (pe_ix ix_list (pv 0) (pe_op op_add (pv 1) pe_int) (fun _ _ => rfl)) pa_nil))))
      (pss_cons (ps_set (i := 9) sc_w_group.nd rfl (Or.inl rfl) (pe_op op_sub pe_int (pe_op op_mul (pv 7) (pc c_w_units (hr.mono (by decide)) rfl (takes_of rfl rfl rfl rfl) (pa_cons (pe_ix ix_list (pv 0) (pe_op op_add (pv 1) pe_int) (fun _ _ => rfl)) pa_nil)))))
      (pss_cons (ps_if (PW.pt (pw_or (pt_cmpR op_ne (pe_op op_mod (pe_op op_fdiv (pe_ix ix_list (pv 0) (pe_op op_add (pv 1) pe_int) (fun _ _ => rfl)) pe_int) pe_int) pe_int (nomark _)) (pw_or1 (pt_cmpR op_eq (pe_op op_add (pv 8) (pv 9)) pe_int (nomark _))))) (pss_one (ps_ret (pe_lst (pa_cons (pe_tup (pa_cons (pe_op op_add pe_int (pv 3)) (pa_cons (pv 8) pa_nil))) (pa_cons (pe_tup (pa_cons (pe_op op_add pe_int (pv 5)) (pa_cons (pe_op op_sub pe_int (pv 8)) pa_nil))) pa_nil))))) pss_nil)
      (pss_one (ps_ret (pe_lst (pa_cons (pe_tup (pa_cons (pe_op op_add pe_int (pv 3)) (pa_cons (pv 8) pa_nil))) (pa_cons (pe_tup (pa_cons (pe_op op_add pe_int (pv 5)) (pa_cons (pv 9) pa_nil))) (pa_cons (pe_tup (pa_cons (pe_op op_add pe_int (pv 6)) (pa_cons (pe_op op_sub (pe_op op_sub pe_int (pv 8)) (pv 9)) pa_nil))) pa_nil)))))))))))))), ?_⟩
    have hgp : (0 : Int) < (G.length : Int) := by omega
    have lenG : ∀ {H' : Hp} {σ : L2.St} {te : TE}, AccsAt H' b G → Ev te σ H' (.ref b) → Ev (tCB (fun xs H Q => ∃ p ys, xs = [.ref p] ∧ (SqL K H p ys ∨ SqT K H p ys) ∧ Q (.int ys.length) H) (tCons te tNil)) σ H' (.int (G.length : Int)) := fun hd ht => ev_is (ev_lenL ht (sq_of hd.at_)) (by rw [refs_len])
    refine q_asg (ev_op (ev_op (ev_var rfl) (ev_var rfl) (rv_ixI hns (by omega) (by omega))) (lenG hG (ev_var rfl)) (rv_I hgp)) fun H1 e1 => ?_
    have hf0 : 0 ≤ ns.getD ((i : Int)).toNat 0 % (G.length : Int) := Int.emod_nonneg _ (by omega)
    have hf1 : ns.getD ((i : Int)).toNat 0 % (G.length : Int) < (G.length : Int) := Int.emod_lt_of_pos _ hgp
    generalize ns.getD ((i : Int)).toNat 0 % (G.length : Int) = fi at *
    obtain ⟨fk, hfk⟩ : ∃ fk : Nat, fi = (fk : Int) := ⟨fi.toNat, by omega⟩
    subst hfk
    have hfl : fk < G.length := by omega
    obtain ⟨y, hy⟩ : ∃ y, G[fk]? = some y := ⟨_, List.getElem?_eq_getElem hfl⟩
    have hn1 := hns.mono e1
    have hG1 := hG.mono e1
    have ec : ∀ {j : Nat} {x : Addr × Str × Str}, G[j]? = some x → cur G j = x.2.1 := fun {j x} hx => by
      unfold cur
      rw [getD_of hx]
    refine q_asgL (el_lcR1 (n := (G.length : Int)) (fun j => decide (cur G j = y.2.1)) (fun j => .int (j : Int)) (ea_cons (lenG hG1 (ev_var rfl)) ea_nil) (by omega) (fun _ => rfl) (fun j H2 e2 hj => ?_) (fun j H2 e2 hj _ => ev_var rfl)) fun p H2 hp0 e2 hp => ?_
    · obtain ⟨x, hx⟩ : ∃ x, G[j]? = some x := ⟨_, List.getElem?_eq_getElem (by omega)⟩
      have hG2 := hG1.mono e2
      refine et_is (et_test (ev_op (ev_op (ev_op (ev_var rfl) (ev_var rfl) (rv_ixR hG2.at_ rfl hx)) ev_c (rv_ixT (st_of (hG2.prs x (List.mem_of_getElem? hx))) rfl)) (ev_op (ev_op (ev_var rfl) (ev_var rfl) (rv_ixR hG2.at_ rfl hy)) ev_c (rv_ixT (st_of (hG2.prs y (List.mem_of_getElem? hy))) rfl)) (rv_eq rfl))) ?_
      rw [str_dec, ec hx]
    · have hm : ∃ ms : List Int, IntsAt H2 p ms ∧ 1 ≤ ms.length ∧ ms.length ≤ 1000 := by
        have e : (G.length : Int).toNat = G.length := Int.toNat_natCast _
        rw [e, given_ints] at hp
        refine ⟨_, hp, ?_, ?_⟩
        · rw [List.length_map]
          refine List.length_pos_of_mem (a := fk) (List.mem_filter.mpr ⟨List.mem_range.mpr hfl, ?_⟩)
          exact decide_eq_true (ec hy)
        · rw [List.length_map]
          have := List.length_filter_le (fun j => decide (cur G j = y.2.1)) (List.range G.length)
          rw [List.length_range] at this
          omega
      obtain ⟨ms, hms, m1, m2⟩ := hm
      have hmp : (0 : Int) < (ms.length : Int) := by omega
      have lenM : ∀ {H' : Hp} {σ : L2.St} {te : TE}, IntsAt H' p ms → Ev te σ H' (.ref p) → Ev (tCB (fun xs H Q => ∃ p ys, xs = [.ref p] ∧ (SqL K H p ys ∨ SqT K H p ys) ∧ Q (.int ys.length) H) (tCons te tNil)) σ H' (.int (ms.length : Int)) := fun hd ht => ev_is (ev_lenL ht (sq_of hd)) (by rw [List.length_map])
      have hn2 := hn1.mono e2
      refine q_asg (ev_op (ev_var rfl) (ev_op (ev_op (ev_var rfl) (ev_op (ev_var rfl) ev_c rv_I0) (rv_ixI hn2 (by omega) (by omega))) (lenM hms (ev_var rfl)) (rv_I hmp)) (rv_ixI hms (Int.emod_nonneg _ (by omega)) (Int.emod_lt_of_pos _ hmp))) fun H3 e3 => ?_
      have hn3 := hn2.mono e3
      have hm3 := hms.mono e3
      refine q_asg (ev_op (ev_var rfl) (ev_op (ev_op (ev_var rfl) (ev_op (ev_var rfl) ev_c rv_I0) (rv_ixI hn3 (by omega) (by omega))) (lenM hm3 (ev_var rfl)) (rv_I hmp)) (rv_ixI hm3 (Int.emod_nonneg _ (by omega)) (Int.emod_lt_of_pos _ hmp))) fun H4 e4 => ?_
      have hn4 := hn3.mono e4
      refine q_asg (ev_op ev_c (ev_op ev_c (ev_op (ev_op (ev_var rfl) (ev_op (ev_var rfl) ev_c rv_I0) (rv_ixI hn4 (by omega) (by omega))) ev_c (rv_I (by decide))) (rv_I (.inl (by decide)))) rv_I0) fun H5 e5 => ?_
      have hn5 := hn4.mono e5
      have hs : ∀ x : Int, -(2 ^ 64) < 1 - 2 * (x % 2) ∧ 1 - 2 * (x % 2) < 2 ^ 64 := fun x => by omega
      refine q_asg (ev_op (ev_var rfl) (ev_cS (ea_cons (ev_op (ev_var rfl) (ev_op (ev_var rfl) ev_c rv_I0) (rv_ixI hn5 (by omega) (by omega))) ea_nil) (sv_units _ _)) (rv_I (.inl (hs _)))) fun H6 e6 => ?_
      have hn6 := hn5.mono e6
      refine q_asg (ev_op ev_c (ev_op (ev_var rfl) (ev_cS (ea_cons (ev_op (ev_var rfl) (ev_op (ev_var rfl) ev_c rv_I0) (rv_ixI hn6 (by omega) (by omega))) ea_nil) (sv_units _ _)) (rv_I (.inl (hs _)))) rv_I0) fun H7 e7 => ?_
      have hn7 := hn6.mono e7
      have e07 := (((((e1.trans e2).trans e3).trans e4).trans e5).trans e6).trans e7
      refine q_when (et_or (et_test (ev_op (ev_op (ev_op (ev_op (ev_var rfl) (ev_op (ev_var rfl) ev_c rv_I0) (rv_ixI hn7 (by omega) (by omega))) ev_c (rv_I ⟨by decide, by decide⟩)) ev_c (rv_I (by decide))) ev_c (rv_ne rfl))) fun _ => et_test (ev_op (ev_op (ev_var rfl) (ev_var rfl) rv_I0) ev_c (rv_eq rfl))) (fun _ H8 e8 => ?_) fun _ H8 e8 => ?_
      · refine s_retPr (ep_cons (eu_tup (ea_cons (ev_op ev_c (ev_var rfl) rv_I0) (ea_cons (ev_var rfl) ea_nil)) (by show 2 ≤ 100000; decide)) (ep_cons (eu_tup (ea_cons (ev_op ev_c (ev_var rfl) rv_I0) (ea_cons (ev_op ev_c (ev_var rfl) rv_I0) ea_nil)) (by show 2 ≤ 100000; decide)) ep_nil)) (by show 2 ≤ 1000; decide) fun q H9 ls hq0 e9 hl hls => ?_
        have z := congrArg List.length hl
        rw [List.length_map] at z
        exact k H9 q ls (fresh_back (e07.trans e8) hq0) ((e07.trans e8).trans e9) (by rw [z]; show 2 ≤ 2; decide) (by rw [z]; show 2 ≤ 3; decide) hls
      · refine s_retPr (ep_cons (eu_tup (ea_cons (ev_op ev_c (ev_var rfl) rv_I0) (ea_cons (ev_var rfl) ea_nil)) (by show 2 ≤ 100000; decide)) (ep_cons (eu_tup (ea_cons (ev_op ev_c (ev_var rfl) rv_I0) (ea_cons (ev_var rfl) ea_nil)) (by show 2 ≤ 100000; decide))
          (ep_cons (eu_tup (ea_cons (ev_op ev_c (ev_var rfl) rv_I0) (ea_cons (ev_op (ev_op ev_c (ev_var rfl) rv_I0) (ev_var rfl) rv_I0) ea_nil)) (by show 2 ≤ 100000; decide)) ep_nil))) (by show 3 ≤ 1000; decide) fun q H9 ls hq0 e9 hl hls => ?_
        have z := congrArg List.length hl
        rw [List.length_map] at z
        exact k H9 q ls (fresh_back (e07.trans e8) hq0) ((e07.trans e8).trans e9) (by rw [z]; show 2 ≤ 3; decide) (by rw [z]; show 3 ≤ 3; decide) hls
/-! ### lists of pairs, cut -/
def cutL {α : Type} (xs : List α) (lo hi : Option Int) : List α := (xs.drop (HT.sIx xs.length 0 lo)).take (HT.sIx xs.length xs.length hi - HT.sIx xs.length 0 lo)
theorem cutV_refs {α : Type} (ls : List (Addr × α)) (lo hi : Option Int) : cutV (refs ls) lo hi = refs (cutL ls lo hi) := by
  unfold cutV cutL refs
  rw [List.length_map, List.map_take, List.map_drop]
theorem cutL_mem {α : Type} {xs : List α} {lo hi : Option Int} {x : α} (h : x ∈ cutL xs lo hi) : x ∈ xs := List.mem_of_mem_drop (List.mem_of_mem_take h)
theorem cutL_len {α : Type} (xs : List α) (lo hi : Option Int) : (cutL xs lo hi).length ≤ xs.length := by
  unfold cutL
  rw [List.length_take, List.length_drop]
  omega
theorem cut_from {α : Type} (xs : List α) (t : Nat) (h : t ≤ xs.length) : cutL xs (some (t : Int)) none = xs.drop t := by
  unfold cutL
  have e : HT.sIx xs.length 0 (some (t : Int)) = t := by
    show (if (t : Int) < 0 then ((t : Int) + (xs.length : Int)).toNat else min (t : Int).toNat xs.length) = t
    rw [if_neg (by omega)]
    omega
  rw [e]
  show (xs.drop t).take (xs.length - t) = xs.drop t
  rw [List.take_of_length_le (by rw [List.length_drop]; omega)]
theorem cut_to {α : Type} (xs : List α) (t : Nat) (h : t ≤ xs.length) : cutL xs none (some (t : Int)) = xs.take t := by
  unfold cutL
  have e : HT.sIx xs.length xs.length (some (t : Int)) = t := by
    show (if (t : Int) < 0 then ((t : Int) + (xs.length : Int)).toNat else min (t : Int).toNat xs.length) = t
    rw [if_neg (by omega)]
    omega
  rw [e]
  rfl
theorem ok_w_lines {f : Addr} {fd : FuncData} (F : Fun K "_law_lines" "_law_lines" s_w_lines f fd) (T : Txt K mg Z) (c_w_group : Cal P w K mg base 2 "_law_group" spGroup) : FnOk P w K mg base (L2.CX P w) 3 f fd ["_law_numbers_here", "_law_accounts_here"] spWLines := by
  refine F.okX sc_w_lines (fun vs H Q E h => ?_) (fun cdv A outer s H vs Q E hr h => ?_)
  · obtain ⟨a, b, ns, G, rfl, _⟩ := h
    rfl
  · obtain ⟨a, b, ns, G, rfl, hns, hl, hG, g1, g2, k⟩ := h
    refine ⟨_, (pss_cons (ps_set (i := 2) sc_w_lines.nd rfl (Or.inl rfl) (pe_op op_add pe_int (pe_op op_mod (pe_ix ix_list (pv 0) pe_int (fun _ _ => rfl)) pe_int)))
      (pss_cons (ps_if (pt_cmpR op_eq (pe_op op_mod (pe_ix ix_list (pv 0) pe_int (fun _ _ => rfl)) pe_int) pe_int (nomark _)) (pss_one (ps_set (i := 2) sc_w_lines.nd rfl (Or.inl rfl) (pe_op op_add pe_int (pe_op op_mod (pe_ix ix_list (pv 0) pe_int (fun _ _ => rfl)) pe_int)))) pss_nil)
      (pss_cons (ps_set (i := 3) sc_w_lines.nd rfl (Or.inl rfl) (pe_lst pa_nil))
      (pss_cons (ps_for (passes_of rfl) rfl (pi_range1 rfl T.n_range (pa_cons (pv 2) pa_nil)) (pg_name (i := 4) sc_w_lines.nd rfl (Or.inl rfl)) (pss_one (ps_set (i := 3) sc_w_lines.nd rfl (Or.inl rfl) (pe_op op_cat (pv 3) (pc c_w_group (hr.mono (by decide)) rfl (takes_of rfl rfl rfl rfl) (pa_cons (pv 0) (pa_cons (pe_op op_add pe_int (pe_op op_mul pe_int (pv 4))) (pa_cons (pv 1) pa_nil))))))))
      (pss_cons (ps_set (i := 5) sc_w_lines.nd rfl (Or.inl rfl) (pe_op op_mod (pe_ix ix_list (pv 0) pe_int (fun _ _ => rfl)) (pe_callB call_len_seq (by rfl) T.n_len PySem.boot_len (pa_cons (pv 3) pa_nil))))
      (pss_one (ps_ret (pe_op op_cat (pe_slice sl_list (pv 3) (po_some (pv 5)) po_none) (pe_slice sl_list (pv 3) po_none (po_some (pv 5))))))))))), ?_⟩
    refine q_asgP (P := fun x _ => ∃ z : Int, x = .int z ∧ 1 ≤ z ∧ z ≤ 6) (ep_of (ev_op ev_c (ev_op (ev_op (ev_var rfl) ev_c (rv_ixI hns (by decide) (by omega))) ev_c (rv_I (by decide))) rv_I0) fun _ _ => ⟨_, rfl, by omega, by omega⟩) fun x0 H1 e1 hx0 => ?_
    have hn1 := hns.mono e1
    refine q_ifP (P := fun x _ => ∃ z : Int, x = .int z ∧ 1 ≤ z ∧ z ≤ 6) (et_test (ev_op (ev_op (ev_op (ev_var rfl) ev_c (rv_ixI hn1 (by decide) (by omega))) ev_c (rv_I (by decide))) ev_c (rv_eq rfl))) rfl (fun _ => ep_of (ev_op ev_c (ev_op (ev_op (ev_var rfl) ev_c (rv_ixI hn1 (by decide) (by omega))) ev_c (rv_I (by decide))) rv_I0) fun _ _ => ⟨_, rfl, by omega, by omega⟩) (fun _ _ _ => hx0) fun x1 H2 e2 hx1 => ?_
    obtain ⟨n, rfl, n1, n2⟩ := hx1
    refine q_asgL (el_lst ea_nil (by decide)) fun p H3 hp0 e3 hp => ?_
    have e03 := (e1.trans e2).trans e3
    refine q_forR1 (n := n) (ea_cons (ev_var rfl) ea_nil) (by omega) (fun i σ' H' => ∃ (p : Addr) (a4 a5 : Option V) (ls : List (Addr × Int × Int)), σ' = [some (.ref a), some (.ref b), some (.int n), some (.ref p), a4, a5] ∧ Ex H H' ∧ LinesAt H' p ls ∧ 2 * i ≤ ls.length ∧ ls.length ≤ 3 * i)
      (fun H4 e4 => ⟨p, none, none, [], rfl, e03.trans e4, ⟨e4 _ _ hp, by intro x hx; cases hx⟩, by decide, by decide⟩) (fun i σ' H' hi hP => ?_) (fun σ' H' hP => ?_)
    · obtain ⟨p, a4, a5, ls, rfl, eH, hls, l1, l2⟩ := hP
      refine s_asgOpC (ev_var rfl) (ea_cons (ev_var rfl) (ea_cons (ev_op ev_c (ev_op ev_c (ev_var rfl) (rv_I (.inl (by decide)))) rv_I0) (ea_cons (ev_var rfl) ea_nil))) fun H4 e4 => ⟨a, b, ns, 12 + 6 * i, G, ?_, hns.mono (eH.trans e4), by omega, hG.mono (eH.trans e4), g1, g2, fun H5 p2 ls2 hp20 e5 m1 m2 hls2 => ?_⟩
      · have e : (12 : Int) + 6 * (i : Int) = ((12 + 6 * i : Nat) : Int) := by omega
        rw [e]
      · have hls5 := hls.mono (e4.trans e5)
        refine ⟨p, p2, refs ls, refs ls2, rfl, rfl, hls5.at_, hls2.at_, by rw [refs_len, refs_len, sizeLine_eq]; omega, fun p3 hp3 => ?_⟩
        refine ⟨p3, _, _, ls ++ ls2, rfl, ((eH.trans e4).trans e5).trans (Ex.new hp3), ⟨by rw [upd_same, refs_app], fun u hu => ?_⟩, by rw [List.length_append]; omega, by rw [List.length_append]; omega⟩
        rcases List.mem_append.mp hu with z | z
        · exact (Ex.new hp3) _ _ (hls5.prs u z)
        · exact (Ex.new hp3) _ _ (hls2.prs u z)
    · obtain ⟨p, a4, a5, ls, rfl, eH, hls, l1, l2⟩ := hP
      have hnn : 2 ≤ ls.length ∧ ls.length ≤ 18 := by omega
      have hlp : (0 : Int) < (ls.length : Int) := by omega
      have hnE := hns.mono eH
      refine q_asg (ev_op (ev_op (ev_var rfl) ev_c (rv_ixI hnE (by decide) (by omega))) (ev_is (ev_lenL (ev_var rfl) (sq_of hls.at_)) (by rw [refs_len])) (rv_I hlp)) fun H4 e4 => ?_
      have ht0 : 0 ≤ ns.getD (2 : Int).toNat 0 % (ls.length : Int) := Int.emod_nonneg _ (by omega)
      have ht1 : ns.getD (2 : Int).toNat 0 % (ls.length : Int) < (ls.length : Int) := Int.emod_lt_of_pos _ hlp
      generalize ns.getD (2 : Int).toNat 0 % (ls.length : Int) = ti at *
      obtain ⟨t, ht⟩ : ∃ t : Nat, ti = (t : Int) := ⟨ti.toNat, by omega⟩
      subst ht
      have hls4 := hls.mono e4
      have htl : t ≤ ls.length := by omega
      refine s_retL (xs := refs (ls.drop t ++ ls.take t)) ?_ fun q H5 hq0 e5 hq => ?_
      · have h1 := el_sl (K := K) (σ := [some (V.ref a), some (V.ref b), some (V.int n), some (V.ref p), a4, some (V.int (t : Int))]) (te := tVar 3) (tl := tPart (tVar 5)) (th := tNoPart) (ev_var rfl) (eo_some (ev_var rfl)) eo_none (sq_of hls4.at_)
        have h2 := el_sl (K := K) (σ := [some (V.ref a), some (V.ref b), some (V.int n), some (V.ref p), a4, some (V.int (t : Int))]) (te := tVar 3) (tl := tNoPart) (th := tPart (tVar 5)) (ev_var rfl) eo_none (eo_some (ev_var rfl)) (sq_of hls4.at_)
        rw [cutV_refs, cut_from _ _ htl] at h1
        rw [cutV_refs, cut_to _ _ htl] at h2
        rw [refs_app]
        refine el_cat h1 h2 ?_
        rw [refs_len, refs_len, List.length_drop, List.length_take]
        omega
      · have hlen : (ls.drop t ++ ls.take t).length = ls.length := by
          rw [List.length_append, List.length_drop, List.length_take]
          omega
        refine k H5 q _ (fresh_back (eH.trans e4) hq0) ((eH.trans e4).trans e5) (by omega) (by omega) ⟨hq, fun u hu => ?_⟩
        rcases List.mem_append.mp hu with z | z
        · exact e5 _ _ (hls4.prs u (List.mem_of_mem_drop z))
        · exact e5 _ _ (hls4.prs u (List.mem_of_mem_take z))
end
end
section
open PySem PySem.Spec PyProof.Rows L2 Evl
section
variable {P : Program} {w : World} {K : PySem.W.Frag} {mg : Str → Option Value} {base : Heap} {Z : Ads}

section
variable {σ : L2.St} {H : Hp} {D : Ends} {tz : TS} {ta tb te : TE} {i : Nat}
/-- text * number -/
theorem ep_times {z : Str} {k : Int} {m : Nat} (ha : Ev ta σ H (.str z)) (hb : Ev tb σ H (.int k)) (h0 : 0 ≤ k ∧ k ≤ 1000) (hz : z.length ≤ 1000) (hm : z.length * k.toNat ≤ m) : EvP (tOp rTimes ta tb) σ H (fun x _ => ∃ c : Str, x = .str c ∧ c.length ≤ m) := fun H1 e Q q =>
  ha H1 e _ fun H2 e2 => hb H2 (e.trans e2) _ fun H3 e3 => ⟨z, k, rfl, rfl, h0.1, h0.2, hz, fun r hr => q _ H3 (e2.trans e3) ⟨r, rfl, Nat.le_trans hr hm⟩⟩
end
def signs : Str := " !\"#$&'()*+,-./09:;<=>?@AZ[]^_`az{|}~"
theorem sign_at (i : Int) (h0 : 0 ≤ i) (h1 : i < 37) : ∃ c, atI signs.cps.toList i = some c := by
  have hl : i.toNat < signs.cps.toList.length := by
    have e : signs.cps.toList.length = 37 := by decide +kernel
    omega
  have e2 : i = ((i.toNat : Nat) : Int) := by omega
  have h2 : signs.cps.toList[i.toNat]? = some signs.cps.toList[i.toNat] := List.getElem?_eq_getElem hl
  refine ⟨signs.cps.toList[i.toNat], ?_⟩
  unfold atI ixN
  rw [if_pos h0, if_pos (by omega)]
  exact h2
theorem ok_w_entry {f : Addr} {fd : FuncData} (F : Fun K "_law_entry" "_law_entry" s_w_entry f fd) (T : Txt K mg Z) (c_w_lines : Cal P w K mg base 3 "_law_lines" spWLines) :
    FnOk P w K mg base (L2.CX P w) 4 f fd ["_law_numbers_here", "_law_accounts_here", "_law_last"] spWEntry := by
  refine F.okX sc_w_entry (fun vs H Q E h => ?_) (fun cdv A outer s H vs Q E hr h => ?_)
  · obtain ⟨a, b, ns, G, z, rfl, _⟩ := h
    rfl
  · obtain ⟨a, b, ns, G, last, rfl, hns, hl, hG, g1, g2, k⟩ := h
    refine ⟨_, (pss_cons (ps_set (i := 3) sc_w_entry.nd rfl (Or.inl rfl) (pe_callB (call_min2 rfl) (by rfl) T.n_min (by decide +kernel) (pa_cons pe_int (pa_cons (pe_op op_add (pv 2) (pe_op op_mod (pe_ix ix_list (pv 0) pe_int (fun _ _ => rfl)) pe_int)) pa_nil))))
      (pss_cons (ps_if (pt_cmpR op_eq (pe_op op_mod (pe_ix ix_list (pv 0) pe_int (fun _ _ => rfl)) pe_int) pe_int (nomark _)) (pss_one (ps_set (i := 3) sc_w_entry.nd rfl (Or.inl rfl) (pe_callB (call_min2 rfl) (by rfl) T.n_min (by decide +kernel) (pa_cons pe_int (pa_cons (pe_op op_add (pv 2) (pe_op op_mod (pe_ix ix_list (pv 0) pe_int (fun _ _ => rfl)) pe_int)) pa_nil))))) pss_nil)
      (pss_cons (ps_set (i := 4) sc_w_entry.nd rfl (Or.inl rfl) (pe_callB (call_min2 rfl) (by rfl) T.n_min (by decide +kernel) (pa_cons pe_int (pa_cons (pe_callB (call_max2 rfl) (by rfl) T.n_max (by decide +kernel) (pa_cons pe_int (pa_cons (pe_op op_sub (pe_op op_add (pv 3) (pe_op op_mod (pe_ix ix_list (pv 0) pe_int (fun _ _ => rfl)) pe_int)) pe_int) pa_nil))) pa_nil))))
      (pss_cons (ps_if (pt_cmpR op_eq (pe_op op_mod (pe_ix ix_list (pv 0) pe_int (fun _ _ => rfl)) pe_int) pe_int (nomark _)) (pss_one (ps_set (i := 4) sc_w_entry.nd rfl (Or.inl rfl) (pe_op op_mod (pe_ix ix_list (pv 0) pe_int (fun _ _ => rfl)) pe_int))) pss_nil)
      (pss_cons (ps_set (i := 5) sc_w_entry.nd rfl (Or.inl rfl) (pe_op op_times (pe_ix ix_str pe_str (pe_op op_mod (pe_ix ix_list (pv 0) pe_int (fun _ _ => rfl)) pe_int) (fun _ _ => rfl)) (pe_op op_mod (pe_ix ix_list (pv 0) pe_int (fun _ _ => rfl)) pe_int)))
      (pss_one (ps_ret (pe_tup (pa_cons (pv 3) (pa_cons (pv 4) (pa_cons (pv 5) (pa_cons (pc c_w_lines (hr.mono (by decide)) rfl (takes_of rfl rfl rfl rfl) (pa_cons (pv 0) (pa_cons (pv 1) pa_nil))) pa_nil)))))))))))), ?_⟩
    refine q_asgP (P := IsI) (ep_int (ev_min ev_c (ev_op (ev_var rfl) (ev_op (ev_op (ev_var rfl) ev_c (rv_ixI hns (by decide) (by omega))) ev_c (rv_I (by decide))) rv_I0))) fun x0 H1 e1 hx0 => ?_
    have hn1 := hns.mono e1
    refine q_ifP (P := IsI) (et_test (ev_op (ev_op (ev_op (ev_var rfl) ev_c (rv_ixI hn1 (by decide) (by omega))) ev_c (rv_I (by decide))) ev_c (rv_eq rfl))) rfl (fun _ => ep_int (ev_min ev_c (ev_op (ev_var rfl) (ev_op (ev_op (ev_var rfl) ev_c (rv_ixI hn1 (by decide) (by omega))) ev_c (rv_I (by decide))) rv_I0))) (fun _ _ _ => hx0) fun x1 H2 e2 hx1 => ?_
    obtain ⟨day, rfl⟩ := hx1
    have hn2 := hn1.mono e2
    refine q_asgP (P := IsI) (ep_int (ev_min ev_c (ev_max ev_c (ev_op (ev_op (ev_var rfl) (ev_op (ev_op (ev_var rfl) ev_c (rv_ixI hn2 (by decide) (by omega))) ev_c (rv_I (by decide))) rv_I0) ev_c rv_I0)))) fun x2 H3 e3 hx2 => ?_
    have hn3 := hn2.mono e3
    refine q_ifP (P := IsI) (et_test (ev_op (ev_op (ev_op (ev_var rfl) ev_c (rv_ixI hn3 (by decide) (by omega))) ev_c (rv_I (by decide))) ev_c (rv_eq rfl))) rfl (fun _ => ep_int (ev_op (ev_op (ev_var rfl) ev_c (rv_ixI hn3 (by decide) (by omega))) ev_c (rv_I (by decide)))) (fun _ _ _ => hx2) fun x3 H4 e4 hx3 => ?_
    obtain ⟨value, rfl⟩ := hx3
    have hn4 := hn3.mono e4
    obtain ⟨c, hc⟩ := sign_at (ns.getD (7 : Int).toNat 0 % 37) (by omega) (by omega)
    refine q_asgP (ep_times (m := 100) (ev_op (x := .str signs) ev_c (ev_op (ev_op (ev_var rfl) ev_c (rv_ixI hn4 (by decide) (by omega))) ev_c (rv_I (by decide))) (rv_ixS (by decide +kernel) hc)) (ev_op (ev_op (ev_var rfl) ev_c (rv_ixI hn4 (by decide) (by omega))) ev_c (rv_I (by decide))) (by omega) (by show 1 ≤ 1000; decide) ?_) fun x4 H5 e5 hx4 => ?_
    · show 1 * (ns.getD (8 : Int).toNat 0 % 61).toNat ≤ 100
      omega
    · obtain ⟨cause, rfl, hcl⟩ := hx4
      have e05 := (((e1.trans e2).trans e3).trans e4).trans e5
      refine ⟨_, rfl, _, rfl, _, rfl, _, rfl, _, rfl, a, b, ns, G, rfl, hns.mono e05, hl, hG.mono e05, g1, g2, fun H6 l ls hl0 e6 l1 l2 hls => ⟨(by show 4 ≤ sizeLine; decide), fun t ht => ?_⟩⟩
      exact k _ t l ls ((e05.trans e6).trans (Ex.new ht)) l1 ⟨⟨day, value, cause, upd_same, hcl⟩, hls.mono (Ex.new ht), l2⟩
end
end
section
open PySem PySem.Spec PyProof.Rows L2 Evl
section
variable {P : Program} {w : World} {K : PySem.W.Frag} {mg : Str → Option Value} {base : Heap} {Z : Ads}

def IsPair : V → Hp → Prop := fun x H => ∃ (t : Addr) (a u : Int), x = .ref t ∧ H t = some (.tup [.int a, .int u])
def IsLines (m : Nat) : V → Hp → Prop := fun x H => ∃ (l : Addr) (ls : List (Addr × Int × Int)), x = .ref l ∧ LinesAt H l ls ∧ ls.length ≤ m
def IsText (m : Nat) : V → Hp → Prop := fun x _ => ∃ c : Str, x = .str c ∧ c.length ≤ m
theorem IsPair.mono {x : V} {H H' : Hp} (e : Ex H H') (h : IsPair x H) : IsPair x H' := by
  obtain ⟨t, a, u, h1, h2⟩ := h
  exact ⟨t, a, u, h1, e _ _ h2⟩
theorem IsLines.mono {m : Nat} {x : V} {H H' : Hp} (e : Ex H H') (h : IsLines m x H) : IsLines m x H' := by
  obtain ⟨l, ls, h1, h2, h3⟩ := h
  exact ⟨l, ls, h1, h2.mono e, h3⟩
section
variable {σ : L2.St} {H : Hp} {ta tb te : TE} {ar : TA} {tl th : TO} {xs : List V} {i : Int} {lo hi : Option Int} {m : Nat}
/-- [a, b, ..][i], all numbers -/
theorem ep_pick (ha : EvA ar σ H xs) (hx : ∀ x ∈ xs, ∃ z : Int, x = .int z) (hz : xs.length ≤ 1000) (hb : Ev tb σ H (.int i)) (h0 : 0 ≤ i) (h1 : i < (xs.length : Int)) : EvP (tOp (rIxL K) (tLst ar) tb) σ H IsI := by
  have hl : i.toNat < xs.length := by omega
  obtain ⟨z, hzz⟩ := hx _ (List.getElem_mem hl)
  refine ep_of (v := .int z) (ev_opL1 (el_lst ha (by omega)) (fun H1 e => hb.mono e) fun p H1 hp _ => rv_ixL (sq_of hp) ?_) fun _ _ => ⟨z, rfl⟩
  unfold atI ixN
  rw [if_pos h0, if_pos h1]
  show xs[i.toNat]? = _
  rw [List.getElem?_eq_getElem hl, hzz]
theorem ep_pair (ha : EvP ta σ H IsI) (hb : EvP tb σ H IsI) : EvP (tTup (tCons ta (tCons tb tNil))) σ H IsPair := fun H1 e Q q =>
  ha H1 e _ fun x H2 e2 hx => hb H2 (e.trans e2) _ fun y H3 e3 hy => ⟨(by show 2 ≤ sizeLine; decide), fun t ht => by
    obtain ⟨a, rfl⟩ := hx
    obtain ⟨u, rfl⟩ := hy
    exact q _ _ ((e2.trans e3).trans (Ex.new ht)) ⟨t, a, u, rfl, upd_same⟩⟩
theorem ep_lines {ls : List (Addr × Int × Int)} (h : EvL te σ H (refs ls)) (hp : Pairs H ls) (hm : ls.length ≤ m) : EvP te σ H (IsLines m) := fun H1 e Q q => h H1 e Q fun p H2 _ e2 h2 => q _ H2 e2 ⟨p, ls, rfl, ⟨h2, hp.mono (e.trans e2)⟩, hm⟩
theorem el_slN (h : EvL te σ H xs) (h1 : EvO tl σ H lo) (h2 : EvO th σ H hi) : EvL (tSl (rSlL K) te tl th) σ H (cutV xs lo hi) := fun H1 e Q q =>
  h H1 e _ fun p H2 _ e2 hp => h1 H2 (e.trans e2) _ fun H3 e3 => h2 H3 ((e.trans e2).trans e3) _ fun H4 e4 => ⟨p, xs, rfl, sq_of (e4 _ _ (e3 _ _ hp)), fun q2 hq2 => q q2 _ (fresh_back ((e2.trans e3).trans e4) hq2) (((e2.trans e3).trans e4).trans (Ex.new hq2)) upd_same⟩
theorem el_repV {p : Addr} {k : Int} (ha : Ev ta σ H (.ref p)) (hp : H p = some (.lst xs)) (hb : Ev tb σ H (.int k)) (h0 : 0 ≤ k ∧ k ≤ 1000) (h1 : xs.length ≤ 1000) : EvL (tOp rRep ta tb) σ H (List.replicate k.toNat xs).flatten := fun H1 e Q q =>
  ha H1 e _ fun H2 e2 => hb H2 (e.trans e2) _ fun H3 e3 => ⟨p, k, xs, rfl, rfl, ((e.trans e2).trans e3) _ _ hp, by omega, by omega, by
    have := Nat.mul_le_mul h1 (show k.toNat ≤ 1000 by omega)
    rw [sizeLine_eq]
    omega, fun p2 hp2 => q p2 _ (fresh_back (e2.trans e3) hp2) ((e2.trans e3).trans (Ex.new hp2)) upd_same⟩
end
theorem ar_one {σ : L2.St} {H : Hp} {i : Nat} {v : V} (h : σ[i]? = some (some v)) : EvA (tCons (tVar i) tNil) σ H [v] := ea_cons (ev_var h) ea_nil
theorem rep_refs {α : Type} (ls : List (Addr × α)) : ∀ n : Nat, (List.replicate n (refs ls)).flatten = refs (List.replicate n ls).flatten
  | 0 => rfl
  | n + 1 => by
    rw [List.replicate_succ, List.replicate_succ, List.flatten_cons, List.flatten_cons, rep_refs ls n, refs_app]
theorem rep_len {α : Type} (ls : List α) : ∀ n : Nat, (List.replicate n ls).flatten.length = n * ls.length
  | 0 => by simp
  | n + 1 => by
    rw [List.replicate_succ, List.flatten_cons, List.length_append, rep_len ls n, Nat.succ_mul]
    omega
theorem rep_mem {α : Type} {ls : List α} {x : α} : ∀ {n : Nat}, x ∈ (List.replicate n ls).flatten → x ∈ ls
  | 0, h => by simp at h
  | n + 1, h => by
    rw [List.replicate_succ, List.flatten_cons] at h
    rcases List.mem_append.mp h with z | z
    · exact z
    · exact rep_mem z

theorem ok_w_spoilt {f : Addr} {fd : FuncData} (F : Fun K "_law_spoilt" "_law_spoilt" s_w_spoilt f fd) (T : Txt K mg Z) :
    FnOk P w K mg base (L2.CX P w) 1 f fd ["_law_kind", "_law_number", "_law_at", "_law_post", "_law_count"] spSpoilt := by
  refine F.okX sc_w_spoilt (fun vs H Q E h => ?_) (fun cdv A outer s H vs Q E hr h => ?_)
  · obtain ⟨kd, nu, ai, co, t, l, ls, rfl, _⟩ := h
    rfl
  · obtain ⟨kd, nu, ai, co, t, l, ls, rfl, hl1, ⟨⟨day, value, cause, hpt, hcl⟩, hls, hl2⟩, k⟩ := h
    refine ⟨_, (pss_cons (ps_asg (pv 3) (pg_tup rfl (pgs_cons (pg_name (i := 5) sc_w_spoilt.nd rfl (Or.inl rfl)) (pgs_cons (pg_name (i := 6) sc_w_spoilt.nd rfl (Or.inl rfl)) (pgs_cons (pg_name (i := 7) sc_w_spoilt.nd rfl (Or.inl rfl)) (pgs_cons (pg_name (i := 8) sc_w_spoilt.nd rfl (Or.inl rfl)) pgs_nil))))))
      (pss_cons (ps_set (i := 2) sc_w_spoilt.nd rfl (Or.inl rfl) (pe_op op_mod (pv 2) (pe_callB call_len_seq (by rfl) T.n_len PySem.boot_len (pa_cons (pv 8) pa_nil))))
      (pss_cons (ps_set (i := 9) sc_w_spoilt.nd rfl (Or.inl rfl) (pe_ix ix_list (pv 8) (pv 2) (fun _ _ => rfl)))
      (pss_cons (ps_if (pt_cmpR op_eq (pv 0) pe_int (nomark _)) (pss_one (ps_set (i := 9) sc_w_spoilt.nd rfl (Or.inl rfl) (pe_tup (pa_cons (pe_ix ix_list (pe_lst (pa_cons pe_int (pa_cons (pe_op op_add (pv 4) pe_int) (pa_cons (pe_op op_sub pe_int (pe_op op_mod (pv 1) pe_int)) (pa_cons (pe_op op_add (pe_op op_add (pv 4) pe_int) (pe_op op_mod (pv 1) pe_int)) pa_nil))))) (pe_op op_mod (pe_op op_fdiv (pv 1) pe_int) pe_int) (fun _ _ => rfl)) (pa_cons (pe_ix ix_tup (pv 9) pe_int (fun _ _ => rfl)) pa_nil))))) pss_nil)
      (pss_cons (ps_if (pt_cmpR op_eq (pv 0) pe_int (nomark _)) (pss_one (ps_set (i := 9) sc_w_spoilt.nd rfl (Or.inl rfl) (pe_tup (pa_cons (pe_ix ix_tup (pv 9) pe_int (fun _ _ => rfl)) (pa_cons (pe_ix ix_list (pe_lst (pa_cons pe_int (pa_cons (pe_op op_add (pe_op op_pow pe_int pe_int) pe_int) (pa_cons (pe_op op_sub (pe_op op_sub pe_int (pe_op op_pow pe_int pe_int)) pe_int) (pa_cons (pe_op op_add (pe_op op_pow pe_int pe_int) (pv 1)) pa_nil))))) (pe_op op_mod (pv 1) pe_int) (fun _ _ => rfl)) pa_nil))))) pss_nil)
      (pss_cons (ps_if (pt_cmpR op_eq (pv 0) pe_int (nomark _)) (pss_one (ps_set (i := 9) sc_w_spoilt.nd rfl (Or.inl rfl) (pe_tup (pa_cons (pe_ix ix_tup (pv 9) pe_int (fun _ _ => rfl)) (pa_cons (pe_op op_sub (pe_op op_add (pe_ix ix_tup (pv 9) pe_int (fun _ _ => rfl)) pe_int) (pe_op op_mul pe_int (pe_op op_mod (pv 1) pe_int))) pa_nil))))) pss_nil)
      (pss_cons (ps_set (i := 8) sc_w_spoilt.nd rfl (Or.inl rfl) (pe_op op_cat (pe_op op_cat (pe_slice sl_list (pv 8) po_none (po_some (pv 2))) (pe_lst (pa_cons (pv 9) pa_nil))) (pe_slice sl_list (pv 8) (po_some (pe_op op_add (pv 2) pe_int)) po_none)))
      (pss_cons (ps_if (pt_cmpR op_eq (pv 0) pe_int (nomark _)) (pss_one (ps_set (i := 8) sc_w_spoilt.nd rfl (Or.inl rfl) (pe_slice sl_list (pv 8) po_none (po_some (pe_op op_mod (pv 1) pe_int))))) pss_nil)
      (pss_cons (ps_if (pt_cmpR op_eq (pv 0) pe_int (nomark _)) (pss_one (ps_set (i := 8) sc_w_spoilt.nd rfl (Or.inl rfl) (pe_slice sl_list (pe_op op_rep (pv 8) pe_int) po_none (po_some (pe_op op_add pe_int (pe_op op_mod (pv 1) pe_int)))))) pss_nil)
      (pss_cons (ps_if (pt_cmpR op_eq (pv 0) pe_int (nomark _)) (pss_one (ps_set (i := 7) sc_w_spoilt.nd rfl (Or.inl rfl) (pe_slice sl_str (pe_op op_add_str (pv 7) (pe_op op_times pe_str pe_int)) po_none (po_some (pe_op op_add pe_int (pe_op op_mod (pv 1) pe_int)))))) pss_nil)
      (pss_cons (ps_if (pt_cmpR op_eq (pv 0) pe_int (nomark _)) (pss_one (ps_set (i := 5) sc_w_spoilt.nd rfl (Or.inl rfl) (pe_ix ix_list (pe_lst (pa_cons (pe_op op_sub (pv 5) pe_int) (pa_cons (pe_op op_sub (pv 5) pe_int) (pa_cons (pe_un un_neg pe_int) (pa_cons pe_int (pa_cons (pe_op op_sub (pe_op op_sub pe_int pe_int) (pv 1)) (pa_cons (pe_op op_add pe_int (pv 1)) pa_nil))))))) (pe_op op_mod (pv 1) pe_int) (fun _ _ => rfl)))) pss_nil)
      (pss_cons (ps_if (pt_cmpR op_eq (pv 0) pe_int (nomark _)) (pss_one (ps_set (i := 6) sc_w_spoilt.nd rfl (Or.inl rfl) (pe_ix ix_list (pe_lst (pa_cons (pe_un un_neg pe_int) (pa_cons pe_int (pa_cons (pe_op op_sub (pe_op op_sub pe_int pe_int) (pv 1)) (pa_cons (pe_op op_add pe_int (pv 1)) pa_nil))))) (pe_op op_mod (pv 1) pe_int) (fun _ _ => rfl)))) pss_nil)
      (pss_one (ps_ret (pe_tup (pa_cons (pv 5) (pa_cons (pv 6) (pa_cons (pv 7) (pa_cons (pv 8) pa_nil))))))))))))))))))), ?_⟩
    refine q_unpack (ev_var rfl) (st_of hpt) rfl fun H1 e1 => ?_
    refine ⟨_, _, rfl, _, _, rfl, _, _, rfl, _, _, rfl, rfl, ?_⟩
    have hls1 := hls.mono e1
    have hlp : (0 : Int) < (ls.length : Int) := by omega
    refine q_asg (ev_op (ev_var rfl) (ev_is (ev_lenL (ev_var rfl) (sq_of hls1.at_)) (by rw [refs_len])) (rv_I hlp)) fun H2 e2 => ?_
    have ht0 : 0 ≤ ai % (ls.length : Int) := Int.emod_nonneg _ (by omega)
    have ht1 : ai % (ls.length : Int) < (ls.length : Int) := Int.emod_lt_of_pos _ hlp
    generalize ai % (ls.length : Int) = ti at *
    obtain ⟨j, hj⟩ : ∃ j : Nat, ti = (j : Int) := ⟨ti.toNat, by omega⟩
    subst hj
    have hls2 := hls1.mono e2
    show (_ : TS) _ [some (.int kd), some (.int nu), some (.int (j : Int)), some (.ref t), some (.int co), some (.int day), some (.int value), some (.str cause), some (.ref l), none] _
    obtain ⟨y, hy⟩ : ∃ y, ls[j]? = some y := ⟨_, List.getElem?_eq_getElem (by omega)⟩
    refine q_asgP (P := IsPair) (ep_of (ev_op (ev_var rfl) (ev_var rfl) (rv_ixR hls2.at_ rfl hy)) fun H3 e3 => ⟨y.1, _, _, rfl, e3 _ _ (hls2.prs y (List.mem_of_getElem? hy))⟩) fun x3 H3 e3 hx3 => ?_
    have tkd : ∀ {σ : L2.St} {H : Hp} {n : Int} (_ : σ[0]? = some (some (.int kd))), EvT (tTest (tOp rEq (tVar 0) (tC (.int n)))) σ H (decide (V.int kd = V.int n)) := fun h => et_test (ev_op (ev_var h) ev_c (rv_eq rfl))
    have hp9 : ∀ x ∈ ([V.int (10 ^ (9 : Int).toNat)] : List V), ∃ z : Int, x = .int z := by
      intro x hx
      rw [List.mem_singleton.mp hx]
      exact ⟨_, rfl⟩
    obtain ⟨t3, a3, u3, rfl, h3⟩ := hx3
    show (_ : TS) _ [some (.int kd), some (.int nu), some (.int (j : Int)), some (.ref t), some (.int co), some (.int day), some (.int value), some (.str cause), some (.ref l), some (.ref t3)] _
    refine q_ifP (P := IsPair) (tkd rfl) rfl (fun _ => ep_pair (ep_pick (ea_cons ev_c (ea_cons (ev_op (ev_var rfl) ev_c rv_I0) (ea_cons (ev_op ev_c (ev_op (ev_var rfl) ev_c (rv_I (by decide))) rv_I0) (ea_cons (ev_op (ev_op (ev_var rfl) ev_c rv_I0) (ev_op (ev_var rfl) ev_c (rv_I (by decide))) rv_I0) ea_nil))))
      (by simp) (by show 4 ≤ 1000; decide) (ev_op (ev_op (ev_var rfl) ev_c (rv_I ⟨by decide, by decide⟩)) ev_c (rv_I (by decide))) (by omega) (by show _ < (4 : Int); omega)) (ep_int (ev_op (ev_var rfl) ev_c (rv_ixT (st_of h3) rfl)))) (fun _ H4 e4 => ⟨t3, a3, u3, rfl, e4 _ _ h3⟩) fun x4 H4 e4 hx4 => ?_
    obtain ⟨t4, a4, u4, rfl, h4⟩ := hx4
    show (_ : TS) _ [some (.int kd), some (.int nu), some (.int (j : Int)), some (.ref t), some (.int co), some (.int day), some (.int value), some (.str cause), some (.ref l), some (.ref t4)] _
    have pw9 : ∀ {σ : L2.St} {H : Hp}, Ev (tOp (rI CPow fun i j => .int (i ^ j.toNat)) (tC (.int 10)) (tC (.int 9))) σ H (.int (10 ^ (9 : Int).toNat)) := fun {σ H} => ev_op ev_c ev_c (rv_I ⟨by decide, by decide, by decide⟩)
    refine q_ifP (P := IsPair) (tkd rfl) rfl (fun _ => ep_pair (ep_int (ev_op (ev_var rfl) ev_c (rv_ixT (st_of h4) rfl))) (ep_pick (ea_cons ev_c (ea_cons (ev_op pw9 ev_c rv_I0) (ea_cons (ev_op (ev_op ev_c pw9 rv_I0) ev_c rv_I0) (ea_cons (ev_op pw9 (ev_var rfl) rv_I0) ea_nil))))
      (by simp) (by show 4 ≤ 1000; decide) (ev_op (ev_var rfl) ev_c (rv_I (by decide))) (by omega) (by show _ < (4 : Int); omega))) (fun _ H5 e5 => ⟨t4, a4, u4, rfl, e5 _ _ h4⟩) fun x5 H5 e5 hx5 => ?_
    obtain ⟨t5, a5, u5, rfl, h5⟩ := hx5
    show (_ : TS) _ [some (.int kd), some (.int nu), some (.int (j : Int)), some (.ref t), some (.int co), some (.int day), some (.int value), some (.str cause), some (.ref l), some (.ref t5)] _
    refine q_ifP (P := IsPair) (tkd rfl) rfl (fun _ => ep_pair (ep_int (ev_op (ev_var rfl) ev_c (rv_ixT (st_of h5) rfl))) (ep_int (ev_op (ev_op (ev_op (ev_var rfl) ev_c (rv_ixT (st_of h5) rfl)) ev_c rv_I0) (ev_op ev_c (ev_op (ev_var rfl) ev_c (rv_I (by decide))) (rv_I (.inl (by decide)))) rv_I0)))
      (fun _ H6 e6 => ⟨t5, a5, u5, rfl, e6 _ _ h5⟩) fun x6 H6 e6 hx6 => ?_
    obtain ⟨t6, a6, u6, rfl, h6⟩ := hx6
    show (_ : TS) _ [some (.int kd), some (.int nu), some (.int (j : Int)), some (.ref t), some (.int co), some (.int day), some (.int value), some (.str cause), some (.ref l), some (.ref t6)] _
    have e06 := ((((e1.trans e2).trans e3).trans e4).trans e5).trans e6
    have hls6 := hls.mono e06
    refine q_asgP (P := IsLines 40) ?_ fun x7 H7 e7 hx7 => ?_
    · have q1 := el_sl (K := K) (te := tVar 8) (tl := tNoPart) (th := tPart (tVar 2)) (σ := [some (.int kd), some (.int nu), some (.int (j : Int)), some (.ref t), some (.int co), some (.int day), some (.int value), some (.str cause), some (.ref l), some (.ref t6)]) (ev_var rfl) eo_none (eo_some (ev_var rfl)) (sq_of hls6.at_)
      have q2 := el_sl (K := K) (te := tVar 8) (tl := tPart (tOp (rI0 fun i j => .int (i + j)) (tVar 2) (tC (.int 1)))) (th := tNoPart) (σ := [some (.int kd), some (.int nu), some (.int (j : Int)), some (.ref t), some (.int co), some (.int day), some (.int value), some (.str cause), some (.ref l), some (.ref t6)]) (ev_var rfl) (eo_some (ev_op (ev_var rfl) ev_c rv_I0)) eo_none (sq_of hls6.at_)
      rw [cutV_refs] at q1 q2
      have c1 := cutL_len ls none (some (j : Int))
      have c2 := cutL_len ls (some ((j : Int) + 1)) none
      have q3 := el_cat (el_cat q1 (el_lst (ar_one (v := .ref t6) (i := 9) rfl) (by show 1 ≤ 100000; decide)) (by rw [refs_len]; show _ + 1 ≤ _; omega)) q2 (by rw [List.length_append, refs_len, refs_len]; show _ + 1 + _ ≤ _; omega)
      refine ep_lines (ls := cutL ls none (some (j : Int)) ++ [(t6, a6, u6)] ++ cutL ls (some ((j : Int) + 1)) none) ?_ (fun u hu => ?_) ?_
      · rw [refs_app, refs_app]
        exact q3
      · rcases List.mem_append.mp hu with z | z
        · rcases List.mem_append.mp z with z | z
          · exact hls6.prs u (cutL_mem z)
          · rw [List.mem_singleton.mp z]
            exact h6
        · exact hls6.prs u (cutL_mem z)
      · rw [List.length_append, List.length_append, List.length_singleton]
        omega
    · obtain ⟨l7, ls7, rfl, hl7, hz7⟩ := hx7
      show (_ : TS) _ [some (.int kd), some (.int nu), some (.int (j : Int)), some (.ref t), some (.int co), some (.int day), some (.int value), some (.str cause), some (.ref l7), some (.ref t6)] _
      refine q_ifP (P := IsLines 40) (tkd rfl) rfl (fun _ => ?_) (fun _ H8 e8 => ⟨l7, ls7, rfl, hl7.mono e8, hz7⟩) fun x8 H8 e8 hx8 => ?_
      · refine ep_lines (ls := cutL ls7 none (some (nu % 2))) ?_ (fun u hu => hl7.prs u (cutL_mem hu)) (Nat.le_trans (cutL_len _ _ _) hz7)
        rw [← cutV_refs]
        exact el_sl (ev_var rfl) eo_none (eo_some (ev_op (ev_var rfl) ev_c (rv_I (by decide)))) (sq_of hl7.at_)
      obtain ⟨l8, ls8, rfl, hl8, hz8⟩ := hx8
      show (_ : TS) _ [some (.int kd), some (.int nu), some (.int (j : Int)), some (.ref t), some (.int co), some (.int day), some (.int value), some (.str cause), some (.ref l8), some (.ref t6)] _
      refine q_ifP (P := IsLines 1000) (tkd rfl) rfl (fun _ => ?_) (fun _ H9 e9 => ⟨l8, ls8, rfl, hl8.mono e9, by omega⟩) fun x9 H9 e9 hx9 => ?_
      · refine ep_lines (ls := cutL (List.replicate (21 : Int).toNat ls8).flatten none (some (21 + nu % 9))) ?_ (fun u hu => hl8.prs u (rep_mem (cutL_mem hu))) (Nat.le_trans (cutL_len _ _ _) ?_)
        · rw [← cutV_refs, ← rep_refs]
          exact el_slN (el_repV (ev_var rfl) hl8.at_ ev_c (by decide) (by rw [refs_len]; omega)) eo_none (eo_some (ev_op ev_c (ev_op (ev_var rfl) ev_c (rv_I (by decide))) rv_I0))
        · rw [rep_len]
          show 21 * ls8.length ≤ 1000
          omega
      obtain ⟨l9, ls9, rfl, hl9, hz9⟩ := hx9
      show (_ : TS) _ [some (.int kd), some (.int nu), some (.int (j : Int)), some (.ref t), some (.int co), some (.int day), some (.int value), some (.str cause), some (.ref l9), some (.ref t6)] _
      refine q_ifP (P := IsText 1000) (tkd rfl) rfl (fun _ H10 e10 Q' q' => ?_) (fun _ H10 e10 => ⟨cause, rfl, by omega⟩) fun x10 H10 e10 hx10 => ?_
      · refine ⟨_, rfl, "x", 61, rfl, rfl, by decide, by decide, by decide +kernel, fun r hr => ⟨cause, r, rfl, rfl, ?_, _, rfl, _, _, rfl, rfl, (by show (0 : Int) < 9; decide), _, _, rfl, rfl, _, rfl, _, rfl, ?_, q' _ H10 (Ex.refl H10) ⟨_, rfl, ?_⟩⟩⟩
        all_goals have hr2 : r.length ≤ 61 := Nat.le_trans hr (by decide +kernel)
        all_goals have ha2 : (cause ++ r).length = cause.length + r.length := (show (cause.cps ++ r.cps).size = _ from Array.size_append)
        · rw [sizeLine_eq]
          omega
        · rw [sizeLine_eq]
          omega
        · have := cutS_length (cause ++ r) none (some (61 + nu % 9))
          omega
      obtain ⟨c10, rfl, hc10⟩ := hx10
      show (_ : TS) _ [some (.int kd), some (.int nu), some (.int (j : Int)), some (.ref t), some (.int co), some (.int day), some (.int value), some (.str c10), some (.ref l9), some (.ref t6)] _
      refine q_ifP (P := IsI) (tkd rfl) rfl (fun _ => ep_pick (ea_cons (ev_op (ev_var rfl) ev_c rv_I0) (ea_cons (ev_op (ev_var rfl) ev_c rv_I0) (ea_cons (ev_un ev_c ru_neg) (ea_cons ev_c (ea_cons (ev_op (ev_op ev_c ev_c rv_I0) (ev_var rfl) rv_I0) (ea_cons (ev_op ev_c (ev_var rfl) rv_I0) ea_nil))))))
        (by simp) (by show 6 ≤ 1000; decide) (ev_op (ev_var rfl) ev_c (rv_I (by decide))) (by omega) (by show _ < (6 : Int); omega)) (fun _ _ _ => ⟨day, rfl⟩) fun x11 H11 e11 hx11 => ?_
      obtain ⟨d11, rfl⟩ := hx11
      show (_ : TS) _ [some (.int kd), some (.int nu), some (.int (j : Int)), some (.ref t), some (.int co), some (.int d11), some (.int value), some (.str c10), some (.ref l9), some (.ref t6)] _
      refine q_ifP (P := IsI) (tkd rfl) rfl (fun _ => ep_pick (ea_cons (ev_un ev_c ru_neg) (ea_cons ev_c (ea_cons (ev_op (ev_op ev_c ev_c rv_I0) (ev_var rfl) rv_I0) (ea_cons (ev_op ev_c (ev_var rfl) rv_I0) ea_nil))))
        (by simp) (by show 4 ≤ 1000; decide) (ev_op (ev_var rfl) ev_c (rv_I (by decide))) (by omega) (by show _ < (4 : Int); omega)) (fun _ _ _ => ⟨value, rfl⟩) fun x12 H12 e12 hx12 => ?_
      obtain ⟨v12, rfl⟩ := hx12
      show (_ : TS) _ [some (.int kd), some (.int nu), some (.int (j : Int)), some (.ref t), some (.int co), some (.int d11), some (.int v12), some (.str c10), some (.ref l9), some (.ref t6)] _
      have e0 := (((((e06.trans e7).trans e8).trans e9).trans e10).trans e11).trans e12
      refine s_retU (eu_tup (ea_cons (ev_var rfl) (ea_cons (ev_var rfl) (ea_cons (ev_var rfl) (ea_cons (ev_var rfl) ea_nil)))) (by show 4 ≤ 100000; decide)) fun p H13 _ e13 hp => ?_
      exact k H13 p l9 ls9 (e0.trans e13) ⟨⟨d11, v12, c10, hp, hc10⟩, hl9.mono (((e10.trans e11).trans e12).trans e13), hz9⟩
end
end
section
open PySem PySem.Spec PyProof.Rows L2 Evl
section
variable {P : Program} {w : World} {K : PySem.W.Frag} {mg : Str → Option Value} {base : Heap} {Z : Ads}

section
variable {σ : L2.St} {H0 H : Hp} {D : Ends} {tz : TS}
theorem ev_isE {a E : Addr} {C : Addr} {b : Bool} {i : Nat} (hv : σ[i]? = some (some (.ref a))) (hk : PySem.W.kitOne K (.ref E) (.ref C) = some b) : Ev (tCB (rIsE K E a) (tCons (tVar i) (tCons (tC (.ref C)) tNil))) σ H (.bl b) := fun H1 e Q q =>
  ⟨_, hv, .ref C, .ref C, b, rfl, fun u h => h, hk, q H1 (Ex.refl H1)⟩
/-- one question of the seven -/
theorem q_kind {a E C p : Addr} {nm : Str} {xs : List Str} (h0 : σ[0]? = some (some (.ref a))) (h1 : σ[1]? = some (some (.ref p))) (hk : PySem.W.kitOne K (.ref E) (.ref C) = some (decide (E = C))) (hp0 : H0 p = none) (e : Ex H0 H) (hp : H p = some (.lst (xs.map V.str))) (hz : xs.length ≤ 100) (hx : ∀ x ∈ xs, PyData.canLay0 (.str x) = true) (hn : PyData.canLay0 (.str nm) = true)
    (k : ∀ H1 (ys : List Str), (E = C → ys ≠ []) → (xs ≠ [] → ys ≠ []) → ys.length ≤ xs.length + 1 → (∀ x ∈ ys, PyData.canLay0 (.str x) = true) → H1 p = some (.lst (ys.map V.str)) → Ex H0 H1 → tz D σ H1) :
    tSeq (tIfS (tB (tCB (rIsE K E a) (tCons (tVar 0) (tCons (tC (.ref C)) tNil)))) (tDrop (tBM K "list" rAppend (tVar 1) (tCons (tC (.str nm)) tNil))) tNext) tz D σ H := by
  refine q_when (b := decide (E = C)) (et_B (ev_isE h0 hk)) (fun hb H1 e1 => ?_) fun hb H1 e1 => ?_
  · refine s_app (e1 _ _ hp) (ev_var h1) ev_c (by rw [List.length_map]; omega) fun H2 e2 => ?_
    refine k _ (xs ++ [nm]) (fun _ => by simp) (fun _ => by simp) (by rw [List.length_append]; exact Nat.le_refl _) (fun u hu => by
      rcases List.mem_append.mp hu with z | z
      · exact hx u z
      · rw [List.mem_singleton.mp z]
        exact hn) ?_ (Ex.mut ((e.trans e1).trans e2) hp0)
    rw [upd_same, List.map_append]
    rfl
  · exact k H1 xs (fun z => absurd z (of_decide_eq_false hb)) id (by omega) hx (e1 _ _ hp) (e.trans e1)
end
theorem ok_w_kinds {f : Addr} (T : Txt K mg Z) (a : Addr) (oe : Obj) (cls : Value) (d : Option Addr) (hz : Zc cls d oe) (hf : ∃ vs, oe.data = .fields vs) :
    HotBody P w K mg base 0 f "_law_kinds" s_w_kinds ["_law_error", "_law_kinds_here"] (a, oe) (spKinds Z a cls d) := by
  intro cdv A outer s H vs Q hr h
  obtain ⟨rfl, ⟨E, hE, rfl⟩, rfl, k⟩ := h
  have C : ExcC K E := T.excC E hE
  have hp : (a, oe) ∈ (L2H.cxH CX0 P w K mg base ["_law_error", "_law_kinds_here"] "_law_kinds" (defScope s_w_kinds) f cdv A outer s H E0 (a, oe)).pn := List.mem_singleton.mpr rfl
  refine ⟨_, (pss_cons (ps_set (i := 1) sc_w_kinds.nd rfl (Or.inl rfl) (pe_lst pa_nil))
      (pss_cons (ps_if (pt_val (pe_callB (call_isP hp C hz hf) (by rfl) T.n_isinstance (by decide +kernel) (pa_cons (pv 0) (pa_cons (pe_glob (v := .ref Z.val) rfl T.BadValue.g rfl) pa_nil)))) (pss_one (ps_expr (pe_bm PySem.F.plainAttrs_list PySem.F.slot_list_append PySem.F.type_list_append mt_append (pv 1) (pa_cons pe_str pa_nil)))) pss_nil)
      (pss_cons (ps_if (pt_val (pe_callB (call_isP hp C hz hf) (by rfl) T.n_isinstance (by decide +kernel) (pa_cons (pv 0) (pa_cons (pe_glob (v := .ref Z.day) rfl T.BadDay.g rfl) pa_nil)))) (pss_one (ps_expr (pe_bm PySem.F.plainAttrs_list PySem.F.slot_list_append PySem.F.type_list_append mt_append (pv 1) (pa_cons pe_str pa_nil)))) pss_nil)
      (pss_cons (ps_if (pt_val (pe_callB (call_isP hp C hz hf) (by rfl) T.n_isinstance (by decide +kernel) (pa_cons (pv 0) (pa_cons (pe_glob (v := .ref Z.mis) rfl T.Missing.g rfl) pa_nil)))) (pss_one (ps_expr (pe_bm PySem.F.plainAttrs_list PySem.F.slot_list_append PySem.F.type_list_append mt_append (pv 1) (pa_cons pe_str pa_nil)))) pss_nil)
      (pss_cons (ps_if (pt_val (pe_callB (call_isP hp C hz hf) (by rfl) T.n_isinstance (by decide +kernel) (pa_cons (pv 0) (pa_cons (pe_glob (v := .ref Z.ref) rfl T.Refused.g rfl) pa_nil)))) (pss_one (ps_expr (pe_bm PySem.F.plainAttrs_list PySem.F.slot_list_append PySem.F.type_list_append mt_append (pv 1) (pa_cons pe_str pa_nil)))) pss_nil)
      (pss_cons (ps_if (pt_val (pe_callB (call_isP hp C hz hf) (by rfl) T.n_isinstance (by decide +kernel) (pa_cons (pv 0) (pa_cons (pe_glob (v := .ref Z.ful) rfl T.Full.g rfl) pa_nil)))) (pss_one (ps_expr (pe_bm PySem.F.plainAttrs_list PySem.F.slot_list_append PySem.F.type_list_append mt_append (pv 1) (pa_cons pe_str pa_nil)))) pss_nil)
      (pss_cons (ps_if (pt_val (pe_callB (call_isP hp C hz hf) (by rfl) T.n_isinstance (by decide +kernel) (pa_cons (pv 0) (pa_cons (pe_glob (v := .ref Z.nota) rfl T.NotAllowed rfl) pa_nil)))) (pss_one (ps_expr (pe_bm PySem.F.plainAttrs_list PySem.F.slot_list_append PySem.F.type_list_append mt_append (pv 1) (pa_cons pe_str pa_nil)))) pss_nil)
      (pss_cons (ps_if (pt_val (pe_callB (call_isP hp C hz hf) (by rfl) T.n_isinstance (by decide +kernel) (pa_cons (pv 0) (pa_cons (pe_glob (v := .ref Z.dam) rfl T.Damaged rfl) pa_nil)))) (pss_one (ps_expr (pe_bm PySem.F.plainAttrs_list PySem.F.slot_list_append PySem.F.type_list_append mt_append (pv 1) (pa_cons pe_str pa_nil)))) pss_nil)
      (pss_one (ps_ret (pv 1))))))))))), ?_⟩
  refine q_asgL (xs := ([] : List Str).map V.str) (el_lst ea_nil (by decide)) fun p H1 hp0 e1 hp1 => ?_
  have kit := T.kit E hE
  refine q_kind (E := E) (C := Z.val) rfl rfl (kit _ (by simp)) hp0 e1 hp1 (by decide) (by intro x hx; cases hx) (by decide +kernel) fun H2 x2 a2 b2 c2 g2 h2 e2 => ?_
  refine q_kind (E := E) (C := Z.day) rfl rfl (kit _ (by simp)) hp0 e2 h2 (by simp at c2; omega) g2 (by decide +kernel) fun H3 x3 a3 b3 c3 g3 h3 e3 => ?_
  refine q_kind (E := E) (C := Z.mis) rfl rfl (kit _ (by simp)) hp0 e3 h3 (by simp at c2; omega) g3 (by decide +kernel) fun H4 x4 a4 b4 c4 g4 h4 e4 => ?_
  refine q_kind (E := E) (C := Z.ref) rfl rfl (kit _ (by simp)) hp0 e4 h4 (by simp at c2; omega) g4 (by decide +kernel) fun H5 x5 a5 b5 c5 g5 h5 e5 => ?_
  refine q_kind (E := E) (C := Z.ful) rfl rfl (kit _ (by simp)) hp0 e5 h5 (by simp at c2; omega) g5 (by decide +kernel) fun H6 x6 a6 b6 c6 g6 h6 e6 => ?_
  refine q_kind (E := E) (C := Z.nota) rfl rfl (kit _ (by simp)) hp0 e6 h6 (by simp at c2; omega) g6 (by decide +kernel) fun H7 x7 a7 b7 c7 g7 h7 e7 => ?_
  refine q_kind (E := E) (C := Z.dam) rfl rfl (kit _ (by simp)) hp0 e7 h7 (by simp at c2; omega) g7 (by decide +kernel) fun H8 x8 a8 b8 c8 g8 h8 e8 => ?_
  refine s_ret (ev_var rfl) fun H9 e9 => k H9 p x8 ?_ g8 (e8.trans e9) (e9 _ _ h8)
  refine b8 (b7 ?_)
  simp only [Ads.five, List.mem_cons, List.not_mem_nil, or_false] at hE
  rcases hE with z | z | z | z | z
  · exact b6 (b5 (b4 (b3 (a2 z))))
  · exact b6 (b5 (b4 (a3 z)))
  · exact b6 (b5 (a4 z))
  · exact b6 (a5 z)
  · exact a6 z
theorem total_nil {A : List (Addr × Str × Str)} {c : Str} {ok : Int → Int → Bool} : ∀ {Ls : List (Addr × List (Addr × Ln))}, (∀ y ∈ Ls, y.2 = []) → total A Ls c ok = 0 := by
  induction A with
  | nil => intro Ls _; rfl
  | cons a A ih =>
    intro Ls h
    cases Ls with
    | nil => rfl
    | cons y Ls =>
      have e := ih (Ls := Ls) fun z hz => h z (List.mem_cons_of_mem _ hz)
      unfold total at e ⊢
      rw [List.zipWith_cons_cons, List.sum_cons, e, h y List.mem_cons_self]
      split <;> rfl
theorem ex_keeps {H H1 H2 : Hp} {M : List Addr} (e : Ex H H1) (k : Keeps M H1 H2) (h : ∀ a ∈ M, H a = none) : Ex H H2 := fun a o ha => k a o (fun m => by rw [h a m] at ha; cases ha) (e a o ha)
theorem ok_w_ledger {f : Addr} {fd : FuncData} (F : Fun K "_law_ledger" "_law_ledger" s_w_ledger f fd) (T : Txt K mg Z) (c_init : Mak P w K mg base 1 Z.led (spInit Z)) (c_open_account : Met P w K mg base 2 Z.led "open_account" (spOpen Z)) :
    FnOk P w K mg base (L2.CX P w) 3 f fd ["_law_accounts_here"] (spWLed Z) := by
  refine F.okX sc_w_ledger (fun vs H Q E h => ?_) (fun cdv A outer s H vs Q E hr h => ?_)
  · obtain ⟨b, G, rfl, _⟩ := h
    rfl
  · obtain ⟨b, G, rfl, hG, hl, hok, k⟩ := h
    refine ⟨_, (pss_cons (ps_set (i := 1) sc_w_ledger.nd rfl (Or.inl rfl) (pk0 T.mgL c_init (hr.mono (by decide)) rfl))
      (pss_cons (ps_for (passes_of rfl) rfl (pi_list (pv 0)) (pg_name (i := 2) sc_w_ledger.nd rfl (Or.inl rfl)) (pss_one (ps_expr (pm T.cl c_open_account (hr.mono (by decide)) (takes_of rfl rfl rfl rfl) (pv 1) (pa_cons (pe_ix ix_tup (pv 2) pe_int (fun _ _ => rfl)) (pa_cons (pe_ix ix_tup (pv 2) pe_int (fun _ _ => rfl)) pa_nil))))))
      (pss_one (ps_ret (pv 1))))), ?_⟩
    intro x dx nx ndx ne
    have ex0 : Ex H (upd (upd H dx (.own x)) x (.ins Z.led dx [])) := Ex.mut (Ex.new ndx) nx
    refine ⟨x, dx, rfl, upd_same, fun H1 L0 hL0 hp0 ha0 hl0 he0 hr0 hf0 kp0 => ⟨rfl, ?_⟩⟩
    have e1 : Ex H H1 := ex_keeps ex0 kp0 (by intro a ha; rw [List.mem_singleton.mp ha]; exact nx)
    have fr : ∀ {a : Addr}, upd (upd H dx (.own x)) x (.ins Z.led dx []) a = none → H a = none := fun ha => fresh_back ex0 ha
    show tSeq _ _ _ [some (.ref b), some (.ref x), none] _
    refine q_forLn (ev_var rfl) (sq_of (hG.mono e1).at_) (fun i σ' H' => ∃ (v2 : Option V) (L : Led), σ' = [some (.ref b), some (.ref x), v2] ∧ LedAt Z H' L ∧ L.p = x ∧ L.accs.map (fun y => y.2) = (G.take i).map (fun y => y.2) ∧ L.lines.length = i ∧ (∀ y ∈ L.lines, y.2 = []) ∧ L.ents = [] ∧ L.rev = [] ∧
        (∀ y ∈ [L.la, L.ll, L.le, L.dr] ++ L.lines.map (fun y => y.1), H y = none) ∧ Ex H H')
      (fun H2 e2 => ⟨none, L0, rfl, hL0.mono e2, hp0, (by rw [ha0]; rfl), (by rw [hl0]; rfl), (by rw [hl0]; intro y hy; cases hy), he0, hr0, (by rw [hl0]; intro y hy; exact fr (hf0 y hy)), e1.trans e2⟩) (fun i σ' H' hi hP => ?_) (fun i y0 σ' H' hy0 hP => ?_) (fun σ' H' hP => ?_)
    · obtain ⟨_, _, _, _, _, _, _, _, _, _, _, eH⟩ := hP
      exact sq_of (hG.mono eH).at_
    · obtain ⟨v2, L, rfl, hL, hp, ha, hln, hle, he, hr2, hf, eH⟩ := hP
      obtain ⟨y, hy, rfl⟩ := refs_inv hy0
      have hym := List.mem_of_getElem? hy
      have hyt := eH _ _ (hG.prs y hym)
      have hi2 : i < G.length := (List.getElem?_eq_some_iff.mp hy).1
      have hal : L.accs.length = i := by
        have z := congrArg List.length ha
        rw [List.length_map, List.length_map, List.length_take] at z
        omega
      have hins := hL.ins
      rw [hp] at hins
      show (_ : TS) _ [some (.ref b), some (.ref x), some (.ref y.1)] _
      refine s_dropM (ev_var rfl) hins (by rfl) (ea_cons (ev_op (ev_var rfl) ev_c (rv_ixT (st_of hyt) rfl)) (ea_cons (ev_op (ev_var rfl) ev_c (rv_ixT (st_of hyt) rfl)) ea_nil)) fun H2 e2 =>
        ⟨L, y.2.1, y.2.2, by rw [hp], hL.mono e2, (hok y hym).1, (hok y hym).2, by omega, by omega, fun H3 L' t h1 h2 h3 h4 h5 h6 h7 h8 h9 h10 h11 => ?_⟩
      obtain ⟨l, hl4, hl0⟩ := h4
      refine ⟨_, L', rfl, h1, h2.trans hp, ?_, by rw [hl4, List.length_append, hln]; rfl, ?_, h5.trans he, h6.trans hr2, ?_, ex_keeps (eH.trans e2) h11 fun a ha2 => ?_⟩
      · rw [h3, List.map_append, ha, List.take_succ, hy, List.map_append]
        rfl
      · rw [hl4]
        intro z hz
        rcases List.mem_append.mp hz with m | m
        · exact hle z m
        · rw [List.mem_singleton.mp m]
      · rw [h7, h8, h9, h10, hl4, List.map_append]
        intro z hz
        rw [← List.append_assoc] at hz
        rcases List.mem_append.mp hz with m | m
        · exact hf z m
        · rw [List.mem_singleton.mp m]
          exact fresh_back (eH.trans e2) hl0
      · refine hf a (List.mem_append_left _ ?_)
        simp only [List.mem_cons, List.not_mem_nil, or_false] at ha2 ⊢
        rcases ha2 with z | z
        · exact .inl z
        · exact .inr (.inl z)
    · obtain ⟨v2, L, rfl, hL, hp, ha, hln, hle, he, hr2, hf, eH⟩ := hP
      rw [refs_len, List.take_length] at ha
      rw [refs_len] at hln
      have hal : L.accs.length = G.length := by
        have z := congrArg List.length ha
        rw [List.length_map, List.length_map] at z
        exact z
      refine s_ret (v := .ref L.p) (by rw [hp]; exact ev_var rfl) fun H2 e2 => k H2 L (hL.mono e2) ⟨by omega, by omega, fun u hu => ?_, fun u hu => ?_, ?_, ?_, ?_, fun c ok => total_nil hle⟩ he ha (eH.trans e2) fun u hu => ?_
      · have m2 : u.2 ∈ G.map (fun y => y.2) := by
          rw [← ha]
          exact List.mem_map.mpr ⟨u, hu, rfl⟩
        obtain ⟨q, hq, e⟩ := List.mem_map.mp m2
        rw [← e]
        exact (hok q hq).2
      · rw [hle u hu]
        exact Nat.zero_le _
      · rw [he]
        exact Nat.zero_le _
      · rw [hr2]
        exact Nat.zero_le _
      · rw [he]
        intro u hu
        cases hu
      · refine hf u ?_
        rcases List.mem_cons.mp hu with z | z
        · rw [z]
          simp
        rcases List.mem_cons.mp z with z | z
        · rw [z]
          simp
        · exact List.mem_append_right _ z
end
end
section
open PySem PySem.Spec PyProof.Rows L2 Evl
section
variable {P : Program} {w : World} {K : PySem.W.Frag} {mg : Str → Option Value} {base : Heap} {Z : Ads}

/-- the try's body -/
def t_body (K : PySem.W.Frag) (Z : Ads) (W : WX) : TS :=
  tIfS (tTest (tOp rEq (tOp (rI (fun _ j => 0 < j) fun i j => .int (i % j)) (tOp (rIxL K) (tVar 2) (tC (.int 10))) (tC (.int 4))) (tC (.int 1))))
    (tDrop (tMt Z.led "reverse" (spReverse Z) W (tVar 0) (tCons (tOp (rI (fun _ j => 0 < j) fun i j => .int (i % j)) (tOp (rIxL K) (tVar 2) (tC (.int 11))) (tOp (rI0 fun i j => .int (i + j)) (tMt Z.led "entries" (spEntries Z) W (tVar 0) tNil) (tC (.int 2))))
      (tCons (tOp (rIxT K) (tVar 5) (tC (.int 0))) (tCons (tOp (rIxT K) (tVar 5) (tC (.int 2))) tNil)))))
    (tDrop (tMt Z.led "post" (spPost Z) W (tVar 0) (tCons (tOp (rIxT K) (tVar 5) (tC (.int 0))) (tCons (tOp (rIxT K) (tVar 5) (tC (.int 1))) (tCons (tOp (rIxT K) (tVar 5) (tC (.int 2)))
      (tCons (tCB (fun xs H Q => ∃ p ys, xs = [.ref p] ∧ (SqL K H p ys ∨ SqT K H p ys) ∧ ∀ l, H l = none → Q (.ref l) (upd H l (.lst ys))) (tCons (tOp (rIxT K) (tVar 5) (tC (.int 3))) tNil)) tNil))))))
/-- the suite -/
def t_suite (Z : Ads) (a : Addr) (cls : Value) (d : Option Addr) : TS := tRet (tCall (spKinds Z a cls d) [] E0 (tCons (tVar 6) tNil))
theorem body_ok {σ : L2.St} {H : Hp} {W : WX} {D : Ends} {L : Led} {a b t l : Addr} {ns : List Int} {ls : List (Addr × Int × Int)} {start last : Int} (hs : σ = [some (.ref L.p), some (.ref b), some (.ref a), some (.int start), some (.int last), some (.ref t), none])
    (hL : LedAt Z H L) (hO : LedOk L) (hns : IntsAt H a ns) (hl : 63 ≤ ns.length) (hp : PostAt H t 1000 1000 l ls) (hb : Bad Z (WE W σ) H) (k : ∀ H' L', LedAt Z H' L' → LedOk L' → Grown L L' → Keeps (own L) H H' → D.nx σ H') : t_body K Z W D σ H := by
  subst hs
  obtain ⟨⟨day, value, cause, hpt, hcl⟩, hls, hl2⟩ := hp
  have hcs : cause.length ≤ sizeLine := Nat.le_trans hcl (by decide)
  refine s_if (et_test (ev_op (ev_op (ev_op (ev_var rfl) ev_c (rv_ixI hns (by decide) (by omega))) ev_c (rv_I (by decide))) ev_c (rv_eq rfl))) (fun _ H1 e1 => ?_) fun _ H1 e1 => ?_
  · have hL1 := hL.mono e1
    have hpt1 := e1 _ _ hpt
    refine s_dropM (ev_var rfl) hL1.ins (by rfl) (ea_cons (ev_op (ev_op (ev_var rfl) ev_c (rv_ixI (hns.mono e1) (by decide) (by omega))) (ev_op (ev_mt (ev_var rfl) hL1.ins (by rfl) ea_nil (fun H2 e2 Q q E => ⟨L, rfl, hL1.mono e2, q⟩)) ev_c rv_I0) (rv_I (by show (0 : Int) < (L.ents.length : Int) + 2; omega)))
      (ea_cons (ev_op (ev_var rfl) ev_c (rv_ixT (st_of hpt1) rfl)) (ea_cons (ev_op (ev_var rfl) ev_c (rv_ixT (st_of hpt1) rfl)) ea_nil))) fun H2 e2 => ⟨L, _, _, cause, rfl, hL1.mono e2, hO, hcs, hb.mono (e1.trans e2), fun H3 L' h1 h2 h3 h4 => k H3 L' h1 h2 h3 ((Ex.keeps (e1.trans e2)).trans h4)⟩
  · have hL1 := hL.mono e1
    have hpt1 := e1 _ _ hpt
    have hls1 := hls.mono e1
    refine ⟨_, rfl, L.p, L.dx, ledF L, rfl, hL1.ins, rfl, ?_⟩
    refine ⟨_, rfl, t, _, _, _, rfl, rfl, st_of hpt1, rfl, _, rfl, t, _, _, _, rfl, rfl, st_of hpt1, rfl, _, rfl, t, _, _, _, rfl, rfl, st_of hpt1, rfl, _, rfl, t, _, _, _, rfl, rfl, st_of hpt1, rfl, l, refs ls, rfl, .inl (sq_of hls1.at_), fun q hq => ?_⟩
    have e2 : Ex H (upd H1 q (.lst (refs ls))) := e1.trans (Ex.new hq)
    exact ⟨L, day, value, cause, q, ls, rfl, hL.mono e2, hO, hL1.noN hq, ⟨upd_same, hls.prs.mono e2⟩, hcs, hb.mono e2, fun H3 L' h1 h2 h3 h4 => k H3 L' h1 h2 h3 ((Ex.keeps e2).trans h4)⟩
theorem ok_w_deed {f : Addr} {fd : FuncData} (F : Fun K "_law_deed" "_law_deed" s_w_deed f fd) (T : Txt K mg Z) (c_entries : Met P w K mg base 1 Z.led "entries" (spEntries Z)) (c_entry : Met P w K mg base 1 Z.led "entry" (spEntry Z)) (c_reverse : Met P w K mg base 3 Z.led "reverse" (spReverse Z))
    (c_post : Met P w K mg base 4 Z.led "post" (spPost Z)) (c_w_entry : Cal P w K mg base 4 "_law_entry" spWEntry) (c_w_spoilt : Cal P w K mg base 1 "_law_spoilt" spSpoilt) (c_w_kinds : Hot P w K mg base 0 "_law_kinds" (spKinds Z)) :
    FnOk P w K mg base (L2.CX P w) 5 f fd ["_law_ledger_here", "_law_accounts_here", "_law_numbers_here", "_law_start"] (spDeed Z) := by
  refine F.okX sc_w_deed (fun vs H Q E h => ?_) (fun cdv A outer s H vs Q E hr h => ?_)
  · obtain ⟨L, a, b, ns, G, z, rfl, _⟩ := h
    rfl
  · obtain ⟨L, a, b, ns, G, start, rfl, hL, hO, hns, hl, hG, g1, g2, kg, kb⟩ := h
    refine ⟨_, (pss_cons (ps_set (i := 4) sc_w_deed.nd rfl (Or.inl rfl) (pv 3))
      (pss_cons (ps_if (pt_cmpR op_gt (pm0 T.cl c_entries (hr.mono (by decide)) (takes_of rfl rfl rfl rfl) (pv 0)) pe_int (nomark _)) (pss_one (ps_set (i := 4) sc_w_deed.nd rfl (Or.inl rfl) (pe_ix ix_tup (pm T.cl c_entry (hr.mono (by decide)) (takes_of rfl rfl rfl rfl) (pv 0) (pa_cons (pm0 T.cl c_entries (hr.mono (by decide)) (takes_of rfl rfl rfl rfl) (pv 0)) pa_nil)) pe_int (fun _ _ => rfl)))) pss_nil)
      (pss_cons (ps_set (i := 5) sc_w_deed.nd rfl (Or.inl rfl) (pc c_w_entry (hr.mono (by decide)) rfl (takes_of rfl rfl rfl rfl) (pa_cons (pv 2) (pa_cons (pv 1) (pa_cons (pv 4) pa_nil)))))
      (pss_cons (ps_set (i := 5) sc_w_deed.nd rfl (Or.inl rfl) (pc c_w_spoilt (hr.mono (by decide)) rfl (takes_of rfl rfl rfl rfl) (pa_cons (pe_op op_mod (pe_ix ix_list (pv 2) pe_int (fun _ _ => rfl)) pe_int) (pa_cons (pe_ix ix_list (pv 2) pe_int (fun _ _ => rfl)) (pa_cons (pe_ix ix_list (pv 2) pe_int (fun _ _ => rfl)) (pa_cons (pv 5) (pa_cons (pe_callB call_len_seq (by rfl) T.n_len PySem.boot_len (pa_cons (pv 1) pa_nil)) pa_nil)))))))
      (pss_cons (ps_try_as (i := 6) (tb := fun W => t_body K Z W) (ts := fun a cls d => t_suite Z a cls d) (Wout := fun _ _ _ _ => False) rfl rfl sc_w_deed.nd rfl rfl ⟨rfl, by decide, Or.inl T.g_Bank⟩ takes0 (fun W pn xe tk _ => by unfold t_body; exact (pss_one (ps_if (pt_cmpR op_eq (pe_op op_mod (pe_ix ix_list (pv 2) pe_int (fun _ _ => rfl)) pe_int) pe_int (nomark _)) (pss_one (ps_expr (pm T.cl c_reverse (hr.mono (by decide)) tk (pv 0) (pa_cons (pe_op op_mod (pe_ix ix_list (pv 2) pe_int (fun _ _ => rfl)) (pe_op op_add (pm0 T.cl c_entries (hr.mono (by decide)) tk (pv 0)) pe_int)) (pa_cons (pe_ix ix_tup (pv 5) pe_int (fun _ _ => rfl)) (pa_cons (pe_ix ix_tup (pv 5) pe_int (fun _ _ => rfl)) pa_nil)))))) (pss_one (ps_expr (pm T.cl c_post (hr.mono (by decide)) tk (pv 0) (pa_cons (pe_ix ix_tup (pv 5) pe_int (fun _ _ => rfl)) (pa_cons (pe_ix ix_tup (pv 5) pe_int (fun _ _ => rfl)) (pa_cons (pe_ix ix_tup (pv 5) pe_int (fun _ _ => rfl)) (pa_cons (pe_callTy call_list_of (by rfl) T.n_list (by decide +kernel) (pa_cons (pe_ix ix_tup (pv 5) pe_int (fun _ _ => rfl)) pa_nil)) pa_nil)))))))))) (fun a oe cls d pn hz hf => by unfold t_suite; exact pss_one (ps_ret (pch c_w_kinds (L2H.roomH_of (hr.mono (by decide))) rfl hz hf (pa_cons (pv 6) pa_nil)))))
      (pss_one (ps_ret (pe_lst pa_nil)))))))), ?_⟩
    have sv : ∀ (H : Hp), LedAt Z H L → SpV (spEntries Z) [.ref L.p] H (.int (L.ents.length : Int)) := fun H h H1 e Q q E => ⟨L, rfl, h.mono e, q⟩
    refine q_asg (ev_var rfl) fun H1 e1 => ?_
    show tSeq _ _ _ [some (.ref L.p), some (.ref b), some (.ref a), some (.int start), some (.int start), none, none] _
    have hL1 := hL.mono e1
    refine q_ifP (P := IsI) (b := decide (0 < (L.ents.length : Int))) (et_test (ev_op (ev_mt (ev_var rfl) hL1.ins (by rfl) ea_nil (sv _ hL1)) ev_c rv_I0)) rfl (fun hb H2 e2 Q' q' => ?_) (fun _ _ _ => ⟨start, rfl⟩) fun x2 H2 e2 hx2 => ?_
    · have hpos : 0 < L.ents.length := by
        have z := of_decide_eq_true hb
        omega
      have hL2 := hL1.mono e2
      refine t_mt (Q := fun x H3 => tC (.int 1) [some (.ref L.p), some (.ref b), some (.ref a), some (.int start), some (.int start), none, none] H3 fun y H4 => rIxT K x y H4 Q') (ev_var rfl) hL2.ins (by rfl) (ea_cons (ev_mt (ev_var rfl) hL2.ins (by rfl) ea_nil (sv _ hL2)) ea_nil) fun H3 e3 => ?_
      refine ⟨L, _, rfl, hL2.mono e3, hO.ent, fun x hx => (hO.good x hx).few, fun z => absurd (by omega) z, fun k x hk hx H4 t l u e4 hl0 ht hll => ?_⟩
      exact ⟨t, _, 1, _, rfl, rfl, st_of ht, rfl, q' _ H4 (e3.trans e4) ⟨_, rfl⟩⟩
    · obtain ⟨last, rfl⟩ := hx2
      show tSeq _ _ _ [some (.ref L.p), some (.ref b), some (.ref a), some (.int start), some (.int last), none, none] _
      have e02 := e1.trans e2
      refine q_asgC (ea_cons (ev_var rfl) (ea_cons (ev_var rfl) (ea_cons (ev_var rfl) ea_nil))) fun H3 e3 => ⟨a, b, ns, G, last, rfl, hns.mono (e02.trans e3), by omega, hG.mono (e02.trans e3), g1, g2, fun H4 t l ls e4 l1 hp4 => ?_⟩
      have e04 := (e02.trans e3).trans e4
      have hn4 := hns.mono e04
      show tSeq _ _ _ [some (.ref L.p), some (.ref b), some (.ref a), some (.int start), some (.int last), some (.ref t), none] _
      refine q_asgC (ea_cons (ev_op (ev_op (ev_var rfl) ev_c (rv_ixI hn4 (by decide) (by omega))) ev_c (rv_I (by decide))) (ea_cons (ev_op (ev_var rfl) ev_c (rv_ixI hn4 (by decide) (by omega))) (ea_cons (ev_op (ev_var rfl) ev_c (rv_ixI hn4 (by decide) (by omega))) (ea_cons (ev_var rfl)
        (ea_cons (ev_is (ev_lenL (ev_var rfl) (sq_of (hG.mono e04).at_)) (by rw [refs_len])) ea_nil))))) fun H5 e5 => ⟨_, _, _, _, t, l, ls, rfl, by omega, ?_, fun H6 t2 l2 ls2 e6 hp6 => ?_⟩
      · obtain ⟨⟨d1, v1, c1, h1, h2⟩, h3, h4⟩ := hp4
        exact ⟨⟨d1, v1, c1, e5 _ _ h1, h2⟩, h3.mono e5, h4⟩
      · have e06 := (e04.trans e5).trans e6
        unfold tSeq
        refine body_ok (σ := [some (.ref L.p), some (.ref b), some (.ref a), some (.int start), some (.int last), some (.ref t2), none]) rfl (hL.mono e06) hO (hns.mono e06) hl hp6 (fun D hD H7 e7 => ?_) fun H7 L' h1 h2 h3 h4 => ?_
        · refine ⟨true, T.exm D hD, fun _ x hx => ?_, fun z => by cases z⟩
          exact ⟨_, rfl, rfl, ⟨D, hD, rfl⟩, rfl, fun H8 p xs hxs hok e8 hp8 => kb H8 p xs ((e06.trans e7).trans e8) hxs hok hp8⟩
        · refine ⟨Nat.zero_le _, fun r hr0 => ?_⟩
          exact kg _ L' r (h1.mono (Ex.new hr0)) h2 h3 (((Ex.keeps e06).trans h4).trans (Ex.keeps (Ex.new hr0))) upd_same
end
end
section
open PySem PySem.Spec PyProof.Rows L2 Evl
section
variable {P : Program} {w : World} {K : PySem.W.Frag} {mg : Str → Option Value} {base : Heap} {Z : Ads}

/-! ### the sums of a currency -/
/-- one account's part of a currency's sum -/
def part (A : List (Addr × Str × Str)) (c : Str) (f : Nat → Int) (i : Nat) : Int := if cur A i = c then f i else 0
theorem sumsTo_sum {A : List (Addr × Str × Str)} {c : Str} {f : Nat → Int} (hs : ∀ x ∈ A, x.2.2 ∈ sortsV) : ∀ n, n ≤ A.length → (sumsTo A c f n).sum = ((List.range n).map (part A c f)).sum
  | 0, _ => rfl
  | n + 1, h => by
    have ih := sumsTo_sum (c := c) (f := f) hs n (by omega)
    rw [sumsTo_succ, List.range_succ, List.map_append, List.sum_append, List.map_singleton, List.sum_singleton, ← ih]
    unfold sumStep part
    by_cases hc : cur A n = c
    · rw [if_pos hc, if_pos hc]
      have hn : n < A.length := by omega
      have hj : sortIx (A.getD n (0, Str.empty, Str.empty)).2.2 < (sumsTo A c f n).length := by
        rw [sumsTo_len, getD_of (List.getElem?_eq_getElem hn)]
        exact (sort_place (hs _ (List.getElem_mem hn))).1
      have hg : (sumsTo A c f n)[sortIx (A.getD n (0, Str.empty, Str.empty)).2.2]? = some ((sumsTo A c f n).getD (sortIx (A.getD n (0, Str.empty, Str.empty)).2.2) 0) := by
        generalize sortIx (A.getD n (0, Str.empty, Str.empty)).2.2 = j at *
        rw [List.getD_eq_getElem?_getD, List.getElem?_eq_getElem hj]
        rfl
      rw [sum_set hg]
      omega
    · rw [if_neg hc, if_neg hc, Int.add_zero]
theorem total_range {L : Led} (hO : LedOk L) (c : Str) (b v : Option Int) : ((List.range L.accs.length).map (part L.accs c (balAt L b v))).sum = 0 := by
  rw [← hO.bal c (okD b v)]
  unfold total
  congr 1
  refine List.ext_getElem? fun i => ?_
  rw [List.getElem?_map, List.getElem?_zipWith]
  by_cases hi : i < L.accs.length
  · have h2 : i < L.lines.length := by rw [hO.len]; exact hi
    rw [List.getElem?_range hi, List.getElem?_eq_getElem hi, List.getElem?_eq_getElem h2]
    show some (part L.accs c (balAt L b v) i) = some _
    unfold part balAt cur
    rw [getD_of (List.getElem?_eq_getElem hi), getD_of (List.getElem?_eq_getElem h2)]
  · rw [List.getElem?_eq_none (by rw [List.length_range]; omega), List.getElem?_eq_none (by omega)]
    rfl
theorem sums_zero {L : Led} (hO : LedOk L) (c : Str) (b v : Option Int) : (sumsTo L.accs c (balAt L b v) L.accs.length).sum = 0 := by
  rw [sumsTo_sum hO.sor _ (Nat.le_refl _)]
  exact total_range hO c b v
/-! ### data compared -/
theorem lay_ints : ∀ ns : List Int, PyData.canLayAll0 (ns.map PyData.int) = true
  | [] => rfl
  | _ :: r => by simp [PyData.canLayAll0, PyData.canLay0, lay_ints r]
theorem dep_ints : ∀ ns : List Int, PyData.depthAll (ns.map PyData.int) = 0
  | [] => rfl
  | _ :: r => by simp [PyData.depthAll, PyData.depth, dep_ints r]
theorem shp_ints (ns : List Int) : SeqAt.shaped (.list (ns.map PyData.int)) = true := by
  simp [SeqAt.shaped, PyData.canLay0, PyData.depth, lay_ints, dep_ints]
theorem lay_strs : ∀ xs : List Str, (∀ x ∈ xs, PyData.canLay0 (.str x) = true) → PyData.canLayAll0 (xs.map PyData.str) = true
  | [], _ => rfl
  | x :: r, h => by
    have h1 := h x List.mem_cons_self
    have h2 := lay_strs r fun y hy => h y (List.mem_cons_of_mem _ hy)
    show (PyData.canLay0 (.str x) && PyData.canLayAll0 (r.map PyData.str)) = true
    rw [h1, h2]
    rfl
theorem dep_strs : ∀ xs : List Str, PyData.depthAll (xs.map PyData.str) = 0
  | [] => rfl
  | _ :: r => by simp [PyData.depthAll, PyData.depth, dep_strs r]
theorem shp_strs (xs : List Str) (h : ∀ x ∈ xs, PyData.canLay0 (.str x) = true) : SeqAt.shaped (.list (xs.map PyData.str)) = true := by
  have h1 := lay_strs xs h
  simp [SeqAt.shaped, PyData.canLay0, PyData.depth, h1, dep_strs]
theorem dp_ints {H : Hp} : ∀ ns : List Int, DpAll K H (ns.map V.int) (ns.map PyData.int)
  | [] => .nil
  | n :: r => .cons (.int n) (dp_ints r)
theorem dp_strs {H : Hp} : ∀ xs : List Str, DpAll K H (xs.map V.str) (xs.map PyData.str)
  | [] => .nil
  | n :: r => .cons (.str n) (dp_strs r)
section
variable {σ : L2.St} {H : Hp} {ta tb te to_ : TE} {ns : List Int} {p q : Addr}
theorem rv_eqI (h1 : IntsAt H p ns) (h2 : IntsAt H q ns) : RV (rEqD K) (.ref p) (.ref q) H (.bl true) := fun H1 e Q k =>
  ⟨_, _, .lst (sq_of (e _ _ h1)) (dp_ints ns), .lst (sq_of (e _ _ h2)) (dp_ints ns), shp_ints ns, shp_ints ns, by
    rw [SeqAt.eqv_refl _ (SeqAt.canLay_of_shaped (shp_ints ns))]
    exact k H1 (Ex.refl H1)⟩
theorem ev_sum (ha : Ev ta σ H (.ref p)) (h : IntsAt H p ns) : Ev (tCB (rSum K) (tCons ta tNil)) σ H (.int ns.sum) := fun H1 e Q k => ha H1 e _ fun H2 e2 => ⟨p, ns, rfl, sq_of ((e.trans e2) _ _ h), k H2 e2⟩
theorem ev_isL (ha : Ev ta σ H (.ref p)) {xs : List V} (h : H p = some (.lst xs)) : Ev (tCB (rIsi K) (tCons ta (tCons (tC (.ty "list")) tNil))) σ H (.bl true) := fun H1 e Q k =>
  ha H1 e _ fun H2 e2 => ⟨.ref p, .ty "list", .type "list", .type "list", true, rfl, .ty "list", .base (.lst ((e.trans e2) _ _ h)), kit_ty (by decide +kernel), k H2 e2⟩
theorem sort_first {s : Str} (h : s ∈ sortsV) : eqV (.str s) (.str s) = true ∧ ∀ (m : Nat) (z : V), m < sortIx s → (sortsV.map V.str)[m]? = some z → eqV z (.str s) = false := by
  unfold sortsV at h
  simp only [List.mem_cons, List.not_mem_nil, or_false] at h
  have key : ∀ j : Fin 5, eqV (.str (sortsV.getD j.val Str.empty)) (.str (sortsV.getD j.val Str.empty)) = true ∧ ∀ m : Fin 5, m.val < sortIx (sortsV.getD j.val Str.empty) → eqV ((sortsV.map V.str).getD m.val .non) (.str (sortsV.getD j.val Str.empty)) = false := by decide +kernel
  have fin : ∀ j : Fin 5, s = sortsV.getD j.val Str.empty → eqV (.str s) (.str s) = true ∧ ∀ (m : Nat) (z : V), m < sortIx s → (sortsV.map V.str)[m]? = some z → eqV z (.str s) = false := fun j e => by
    rw [e]
    refine ⟨(key j).1, fun m z hm hz => ?_⟩
    have hm5 : m < 5 := (List.getElem?_eq_some_iff.mp hz).1
    have := (key j).2 ⟨m, hm5⟩ hm
    rw [getD_of hz] at this
    exact this
  rcases h with e | e | e | e | e
  · exact fin 0 e
  · exact fin 1 e
  · exact fin 2 e
  · exact fin 3 e
  · exact fin 4 e
theorem ev_lsort {s : Str} (ha : Ev ta σ H (.str s)) (hs : s ∈ sortsV) (hb : EvL to_ σ H (sortsV.map V.str)) : Ev (tBM K "list" (rIndex K) to_ (tCons ta tNil)) σ H (.int (sortIx s : Int)) := fun H1 e Q k =>
  hb H1 e _ fun l H2 hl0 e2 hl => ⟨.inl ⟨rfl, _, sq_of hl⟩, ha H2 (e.trans e2) _ fun H3 e3 => ⟨l, sortsV.map V.str, .str s, sortIx s, .str s, rfl, rfl, sq_of (e3 _ _ hl), rfl, by decide +kernel, by rw [List.getElem?_map, (sort_place hs).2.1]; rfl, (sort_first hs).1, (sort_first hs).2, k H3 (e2.trans e3)⟩⟩
end
end
end
section
open PySem PySem.Spec PyProof.Rows L2 Evl
section
variable {P : Program} {w : World} {K : PySem.W.Frag} {mg : Str → Option Value} {base : Heap} {Z : Ads}

theorem same_at {A B : List (Addr × Str × Str)} (h : A.map (·.2) = B.map (·.2)) {i : Nat} {y : Addr × Str × Str} (hy : B[i]? = some y) : ∃ x, A[i]? = some x ∧ x.2 = y.2 := by
  have e : (A.map (·.2))[i]? = some y.2 := by
    rw [h, List.getElem?_map, hy]
    rfl
  rw [List.getElem?_map] at e
  cases hx : A[i]? with
  | none =>
    rw [hx] at e
    cases e
  | some x =>
    rw [hx] at e
    exact ⟨x, rfl, Option.some.inj e⟩
theorem same_len {A B : List (Addr × Str × Str)} (h : A.map (·.2) = B.map (·.2)) : A.length = B.length := by
  have := congrArg List.length h
  rwa [List.length_map, List.length_map] at this
theorem ok_w_sums_right {f : Addr} {fd : FuncData} (F : Fun K "_law_sums_right" "_law_sums_right" s_w_sums_right f fd) (T : Txt K mg Z) (c_sums : Met P w K mg base 4 Z.led "sums" (spSums Z)) (c_balance : Met P w K mg base 3 Z.led "balance" (spBalance Z)) :
    FnOk P w K mg base (L2.CX P w) 5 f fd ["_law_ledger_here", "_law_accounts_here", "_law_currency", "_law_booked", "_law_value"] (spSumsR Z) := by
  refine F.okX sc_w_sums_right (fun vs H Q E h => ?_) (fun cdv A outer s H vs Q E hr h => ?_)
  · obtain ⟨L, a, G, c, b, v, rfl, _⟩ := h
    rfl
  · obtain ⟨L, a, G, c, b, v, rfl, hL, hO, hG, hE, k⟩ := h
    refine ⟨_, (pss_cons (ps_set (i := 5) sc_w_sums_right.nd rfl (Or.inl rfl) (pm T.cl c_sums (hr.mono (by decide)) (takes_of rfl rfl rfl rfl) (pv 0) (pa_cons (pv 2) (pa_cons (pv 3) (pa_cons (pv 4) pa_nil)))))
      (pss_cons (ps_if (PW.pt (pw_or (pt_not (pt_val (pe_callB call_isi (by rfl) T.n_isinstance (by decide +kernel) (pa_cons (pv 5) (pa_cons (pe_bltn (v := .ty "list") (u := .type "list") (by rfl) T.n_list (by decide +kernel) rfl) pa_nil))))) (pw_or (pt_cmpR op_ne (pe_callB call_len_seq (by rfl) T.n_len PySem.boot_len (pa_cons (pv 5) pa_nil)) pe_int (nomark _)) (pw_or1 (pt_cmpR op_ne (pe_callB (cr_sum rfl) (by rfl) T.n_sum (by decide +kernel) (pa_cons (pv 5) pa_nil)) pe_int (nomark _)))))) (pss_one (ps_ret pe_bl)) pss_nil)
      (pss_cons (ps_set (i := 6) sc_w_sums_right.nd rfl (Or.inl rfl) (pe_lst (pa_cons pe_int (pa_cons pe_int (pa_cons pe_int (pa_cons pe_int (pa_cons pe_int pa_nil)))))))
      (pss_cons (ps_for (passes_of rfl) rfl (pi_range1 rfl T.n_range (pa_cons (pe_callB call_len_seq (by rfl) T.n_len PySem.boot_len (pa_cons (pv 1) pa_nil)) pa_nil)) (pg_name (i := 7) sc_w_sums_right.nd rfl (Or.inl rfl)) (pss_one (ps_if (pt_cmpR op_eq (pe_ix ix_tup (pe_ix ix_list (pv 1) (pv 7) (fun _ _ => rfl)) pe_int (fun _ _ => rfl)) (pv 2) (nomark _)) (pss_cons (ps_set (i := 8) sc_w_sums_right.nd rfl (Or.inl rfl) (pe_bm PySem.F.plainAttrs_list PySem.F.slot_list_index PySem.F.type_list_index mt_index (pe_lst (pa_cons pe_str (pa_cons pe_str (pa_cons pe_str (pa_cons pe_str (pa_cons pe_str pa_nil)))))) (pa_cons (pe_ix ix_tup (pe_ix ix_list (pv 1) (pv 7) (fun _ _ => rfl)) pe_int (fun _ _ => rfl)) pa_nil)))
      (pss_one (ps_asg (pe_op op_add (pe_ix ix_list (pv 6) (pv 8) (fun _ _ => rfl)) (pm T.cl c_balance (hr.mono (by decide)) (takes_of rfl rfl rfl rfl) (pv 0) (pa_cons (pe_op op_add (pv 7) pe_int) (pa_cons (pv 3) (pa_cons (pv 4) pa_nil))))) (pg_sub (pv 6) (pv 8) set_list)))) pss_nil)))
      (pss_one (ps_ret (pe_cmpR (op_eqD hr.units) (pv 5) (pv 6) (nomark _)))))))), ?_⟩
    refine q_asgL (el_mt (ev_var rfl) hL.ins (by rfl) (ea_cons (ev_var rfl) (ea_cons (ev_var rfl) (ea_cons (ev_var rfl) ea_nil))) (sl_sums hL hO)) fun p H1 hp0 e1 hp => ?_
    show tSeq _ _ _ [some (.ref L.p), some (.ref a), some (.str c), some (optV b), some (optV v), some (.ref p), none, none, none] _
    have hpi : IntsAt H1 p (sumsTo L.accs c (balAt L b v) L.accs.length) := hp
    refine q_when (b := false) (et_is (et_or (et_not (et_B (ev_isL (ev_var rfl) hp))) fun _ => et_or (et_test (ev_op (ev_lenL (ev_var rfl) (sq_of hp)) ev_c (rv_ne rfl))) fun _ => et_test (ev_op (ev_sum (ev_var rfl) hpi) ev_c (rv_ne rfl))) ?_) (fun z => by cases z) fun _ H2 e2 => ?_
    · rw [List.length_map, sumsTo_len, sums_zero hO]
      rfl
    refine q_asgL (xs := ([0, 0, 0, 0, 0] : List Int).map V.int) (el_lst (ea_cons ev_c (ea_cons ev_c (ea_cons ev_c (ea_cons ev_c (ea_cons ev_c ea_nil))))) (by decide)) fun q H3 hq0 e3 hq => ?_
    show tSeq _ _ _ [some (.ref L.p), some (.ref a), some (.str c), some (optV b), some (optV v), some (.ref p), some (.ref q), none, none] _
    have e03 := (e1.trans e2).trans e3
    have hq0' : H q = none := fresh_back (e1.trans e2) hq0
    have hG3 := hG.mono e03
    refine q_forR1 (n := (L.accs.length : Int)) (ea_cons (ev_is (ev_lenL (ev_var rfl) (sq_of hG3.at_)) (by rw [refs_len, same_len hE])) ea_nil) (by have := hO.acc; omega)
      (fun i σ' H' => ∃ a7 a8 : Option V, σ' = [some (.ref L.p), some (.ref a), some (.str c), some (optV b), some (optV v), some (.ref p), some (.ref q), a7, a8] ∧ Ex H2 H' ∧ H' q = some (.lst ((sumsTo L.accs c (balAt L b v) i).map V.int)))
      (fun H4 e4 => ⟨none, none, rfl, e3.trans e4, e4 _ _ hq⟩) (fun i σ' H' hi hP => ?_) (fun σ' H' hP => ?_)
    · obtain ⟨a7, a8, rfl, e4, h4⟩ := hP
      have hi2 : i < L.accs.length := by omega
      obtain ⟨y, hy⟩ : ∃ y, L.accs[i]? = some y := ⟨_, List.getElem?_eq_getElem hi2⟩
      obtain ⟨x, hx, hxy⟩ := same_at hE hy
      have hs : x.2.2 ∈ sortsV := by
        rw [hxy]
        exact hO.sor y (List.mem_of_getElem? hy)
      have ec : cur L.accs i = x.2.1 := by
        unfold cur
        rw [getD_of hy, hxy]
      have e04 := (e1.trans e2).trans e4
      have hGa := hG.mono e04
      have hxt := hGa.prs x (List.mem_of_getElem? hx)
      show tIfS _ _ _ _ [some (.ref L.p), some (.ref a), some (.str c), some (optV b), some (optV v), some (.ref p), some (.ref q), some (.int (i : Int)), a8] _
      refine s_when (b := decide (x.2.1 = c)) (et_is (et_test (ev_op (ev_op (ev_op (ev_var rfl) (ev_var rfl) (rv_ixR hGa.at_ rfl hx)) ev_c (rv_ixT (st_of hxt) rfl)) (ev_var rfl) (rv_eq rfl))) (str_dec _ _)) (fun hb H5 e5 => ?_) (fun hb H5 e5 => ?_)
      · have hGb := hGa.mono e5
        have hxb := e5 _ _ hxt
        refine q_asg (ev_lsort (ev_op (ev_op (ev_var rfl) (ev_var rfl) (rv_ixR hGb.at_ rfl hx)) ev_c (rv_ixT (st_of hxb) rfl)) hs (el_lst (ea_cons ev_c (ea_cons ev_c (ea_cons ev_c (ea_cons ev_c (ea_cons ev_c ea_nil))))) (by decide))) fun H6 e6 => ?_
        have hLc := hL.mono ((e04.trans e5).trans e6)
        have hqc := e6 _ _ (e5 _ _ h4)
        have hj : sortIx x.2.2 < (sumsTo L.accs c (balAt L b v) i).length := by
          rw [sumsTo_len]
          exact (sort_place hs).1
        refine s_setL hqc (ev_op (ev_is (ev_op (ev_var rfl) (ev_var rfl) (rv_ixI hqc (Int.natCast_nonneg _) (by omega))) (by rw [Int.toNat_natCast])) (ev_mt (ev_var rfl) hLc.ins (by rfl) (ea_cons (ev_op (ev_var rfl) ev_c rv_I0) (ea_cons (ev_var rfl) (ea_cons (ev_var rfl) ea_nil))) (sv_balance hLc hO hi2)) rv_I0) (ev_var rfl) (ev_var rfl) (by rw [List.length_map]; exact hj) fun H7 e7 => ?_
        refine ⟨some (.int (i : Int)), some (.int (sortIx x.2.2 : Int)), rfl, Ex.mut (((e4.trans e5).trans e6).trans e7) hq0, ?_⟩
        rw [upd_same, sumsTo_succ]
        unfold sumStep
        rw [if_pos (by rw [ec]; exact of_decide_eq_true hb), getD_of hy, ← hxy, List.map_set]
      · refine ⟨some (.int (i : Int)), a8, rfl, e4.trans e5, ?_⟩
        rw [sumsTo_succ]
        unfold sumStep
        rw [if_neg (by rw [ec]; exact of_decide_eq_false hb)]
        exact e5 _ _ h4
    · obtain ⟨a7, a8, rfl, e4, h4⟩ := hP
      rw [Int.toNat_natCast] at h4
      have hp4 : IntsAt H' p (sumsTo L.accs c (balAt L b v) L.accs.length) := e4 _ _ (e2 _ _ hp)
      exact s_ret (ev_op (ev_var rfl) (ev_var rfl) (rv_eqI hp4 h4)) fun H5 e5 => k H5 (((e1.trans e2).trans e4).trans e5)
end
end
section
open PySem PySem.Spec PyProof.Rows L2 Evl
section
variable {P : Program} {w : World} {K : PySem.W.Frag} {mg : Str → Option Value} {base : Heap} {Z : Ads}

theorem by_range {α : Type} (l : List α) (d : α) : l = (List.range l.length).map fun i => l.getD i d := by
  refine List.ext_getElem? fun i => ?_
  rw [List.getElem?_map]
  by_cases hi : i < l.length
  · rw [List.getElem?_range hi, List.getElem?_eq_getElem hi]
    show some _ = some (l.getD i d)
    rw [getD_of (List.getElem?_eq_getElem hi)]
  · rw [List.getElem?_eq_none (by omega), List.getElem?_eq_none (by rw [List.length_range]; omega)]
    rfl
theorem pick_range {α β : Type} (l : List α) (d : α) (p : α → Bool) (g : α → β) : ((List.range l.length).filter fun i => p (l.getD i d)).map (fun i => g (l.getD i d)) = (l.filter p).map g := by
  conv => rhs; rw [by_range l d]
  rw [List.filter_map, List.map_map]
  rfl
/-- the units of the lines of a currency -/
def curVals (A : List (Addr × Str × Str)) (c : Str) (ls : List (Addr × Int × Int)) : List Int := (ls.filter fun l => decide (cur A (l.2.1 - 1).toNat = c)).map fun l => l.2.2
theorem curVals_sum (A : List (Addr × Str × Str)) (c : Str) : ∀ ls, (curVals A c ls).sum = curSum A c ls
  | [] => rfl
  | l :: r => by
    have ih := curVals_sum A c r
    unfold curVals curSum at *
    rw [List.map_cons, List.sum_cons]
    by_cases h : cur A (l.2.1 - 1).toNat = c
    · rw [List.filter_cons_of_pos (by rw [decide_eq_true h]), List.map_cons, List.sum_cons, ih, if_pos h]
    · rw [List.filter_cons_of_neg (by rw [decide_eq_false h]; decide), ih, if_neg h, Int.zero_add]
theorem given_cur (A : List (Addr × Str × Str)) (c : Str) (ls : List (Addr × Int × Int)) : given ls.length (fun i => decide (cur A ((ls.getD i (0, 0, 0)).2.1 - 1).toNat = c)) (fun i => .int (ls.getD i (0, 0, 0)).2.2) = (curVals A c ls).map V.int := by
  unfold given curVals
  rw [List.map_map]
  exact pick_range ls (0, 0, 0) (fun l => decide (cur A (l.2.1 - 1).toNat = c)) (fun l => V.int l.2.2)
section
variable {σ : L2.St} {H : Hp} {ta : TE} {ns : List Int} {sp : Sp} {W : WX} {C p dx : Addr} {fs : List (Str × V)} {m : Str} {vs : List V} {ar : TA} {tz : TS} {D : Ends} {i : Nat} {n : Int}
theorem ev_sumN (ha : EvL ta σ H (ns.map V.int)) : Ev (tCB (rSum K) (tCons ta tNil)) σ H (.int ns.sum) := fun H1 e Q k => ha H1 e _ fun p H2 _ e2 h => ⟨p, ns, rfl, sq_of h, k H2 e2⟩
theorem q_asgMI (ha : Ev ta σ H (.ref p)) (ho : H p = some (.ins C dx fs)) (hl : fs.lookup m = none) (h : EvA ar σ H vs)
    (k : ∀ H1, Ex H H1 → sp (.ref p :: vs) H1 (fun x H2 => rIxT K x (.int n) H2 fun v H3 => tz D (σ.set i (some v)) H3) (WE W σ)) : tSeq (tAsg (tOp (rIxT K) (tMt C m sp W ta ar) (tC (.int n))) (gName i)) tz D σ H :=
  t_mt (Q := fun x H2 => rIxT K x (.int n) H2 fun v H3 => tz D (σ.set i (some v)) H3) ha ho hl h k
end
theorem ok_w_entries_right {f : Addr} {fd : FuncData} (F : Fun K "_law_entries_right" "_law_entries_right" s_w_entries_right f fd) (T : Txt K mg Z) (c_entries : Met P w K mg base 1 Z.led "entries" (spEntries Z)) (c_entry : Met P w K mg base 1 Z.led "entry" (spEntry Z)) :
    FnOk P w K mg base (L2.CX P w) 2 f fd ["_law_ledger_here", "_law_accounts_here"] (spEntsR Z) := by
  refine F.okX sc_w_entries_right (fun vs H Q E h => ?_) (fun cdv A outer s H vs Q E hr h => ?_)
  · obtain ⟨L, a, G, rfl, _⟩ := h
    rfl
  · obtain ⟨L, a, G, rfl, hL, hO, hG, hE, k⟩ := h
    refine ⟨_, (pss_cons (ps_for (passes_of rfl) rfl (pi_range2 rfl T.n_range (pa_cons pe_int (pa_cons (pe_op op_add (pm0 T.cl c_entries (hr.mono (by decide)) (takes_of rfl rfl rfl rfl) (pv 0)) pe_int) pa_nil))) (pg_name (i := 2) sc_w_entries_right.nd rfl (Or.inl rfl)) (pss_cons (ps_set (i := 3) sc_w_entries_right.nd rfl (Or.inl rfl) (pe_ix ix_tup (pm T.cl c_entry (hr.mono (by decide)) (takes_of rfl rfl rfl rfl) (pv 0) (pa_cons (pv 2) pa_nil)) pe_int (fun _ _ => rfl)))
      (pss_cons (ps_if (pt_cmpR op_lt (pe_callB call_len_seq (by rfl) T.n_len PySem.boot_len (pa_cons (pv 3) pa_nil)) pe_int (nomark _)) (pss_one (ps_ret pe_bl)) pss_nil)
      (pss_one (ps_for (passes_of rfl) rfl (pi_list (pv 3)) (pg_name (i := 4) sc_w_entries_right.nd rfl (Or.inl rfl)) (pss_cons (ps_set (i := 5) sc_w_entries_right.nd rfl (Or.inr rfl) (pe_ix ix_tup (pe_ix ix_list (pv 1) (pe_op op_sub (pe_ix ix_tup (pv 4) pe_int (fun _ _ => rfl)) pe_int) (fun _ _ => rfl)) pe_int (fun _ _ => rfl)))
      (pss_one (ps_if (pt_cmpR op_ne (pe_callB (cr_sum rfl) (by rfl) T.n_sum (by decide +kernel) (pa_cons (pe_lc (own := [("_law_other", 6)]) (tt := tTest (tOp _ (tOp (rIxT K) (tOp (rIxL K) (tVar 1) (tOp _ (tOp (rIxT K) (tVar 6) (tC _)) (tC _))) (tC _)) (tVar 5))) (te := tOp (rIxT K) (tVar 6) (tC _)) (by rfl) sc_w_entries_right.nd (pi_list (pv 3)) (blkOk_by (own := [("_law_other", 6)]) (N := ["_law_ledger_here", "_law_accounts_here", "_law_number", "_law_lines_here", "_law_line", "_law_currency", "_law_other"]) (sc := defScope s_w_entries_right) (by decide +kernel)) (fun _ _ _ _ _ => by exact (pg_name (i := 6) sc_w_entries_right.nd rfl (Or.inl rfl))) (fun _ _ _ _ _ => by exact pts_one (pt_cmpR op_eq (pe_ix ix_tup (pe_ix ix_list (pv 1) (pe_op op_sub (pe_ix ix_tup (pv 6) pe_int (fun _ _ => rfl)) pe_int) (fun _ _ => rfl)) pe_int (fun _ _ => rfl)) (pv 5) (nomark _))) (fun _ _ _ _ _ => by exact (pe_ix ix_tup (pv 6) pe_int (fun _ _ => rfl)))) pa_nil)) pe_int (nomark _)) (pss_one (ps_ret pe_bl)) pss_nil))))))))
      (pss_one (ps_ret pe_bl))), ?_⟩
    have sv : ∀ (H : Hp), LedAt Z H L → SpV (spEntries Z) [.ref L.p] H (.int (L.ents.length : Int)) := fun H h H1 e Q q E => ⟨L, rfl, h.mono e, q⟩
    refine q_forR2 (lo := 1) (n := (L.ents.length : Int) + 1) (ea_cons ev_c (ea_cons (ev_op (ev_mt (ev_var rfl) hL.ins (by rfl) ea_nil (sv _ hL)) ev_c rv_I0) ea_nil)) (by have := hO.ent; omega)
      (fun i σ' H' => ∃ a2 a3 a4 a5 : Option V, σ' = [some (.ref L.p), some (.ref a), a2, a3, a4, a5, none] ∧ Ex H H')
      (fun H1 e1 => ⟨none, none, none, none, rfl, e1⟩) (fun i σ' H' hi hP => ?_) (fun σ' H' hP => ?_)
    · obtain ⟨a2, a3, a4, a5, rfl, e1⟩ := hP
      have hi2 : i < L.ents.length := by omega
      obtain ⟨x, hx⟩ : ∃ x, L.ents[i]? = some x := ⟨_, List.getElem?_eq_getElem hi2⟩
      have hxm := List.mem_of_getElem? hx
      have hgd := hO.good x hxm
      have e0 : (1 : Int) + (i : Int) = (i : Int) + 1 := Int.add_comm _ _
      rw [e0]
      show tSeq _ _ _ [some (.ref L.p), some (.ref a), some (.int ((i : Int) + 1)), a3, a4, a5, none] _
      have hL1 := hL.mono e1
      refine q_asgMI (ev_var rfl) hL1.ins (by rfl) (ea_cons (ev_var rfl) ea_nil) fun H2 e2 => ?_
      refine ⟨L, _, rfl, hL1.mono e2, hO.ent, fun y hy => (hO.good y hy).few, fun z => absurd (by omega) z, fun j y hj hy H3 t l u e3 hl0 ht hll => ?_⟩
      have hji : j = i := by omega
      subst hji
      rw [hx] at hy
      obtain rfl := Option.some.inj hy
      refine ⟨t, _, 4, _, rfl, rfl, st_of ht, rfl, ?_⟩
      show tSeq _ _ _ [some (.ref L.p), some (.ref a), some (.int ((j : Int) + 1)), some (.ref l), a4, a5, none] _
      have e03 := (e1.trans e2).trans e3
      have hp3 : Pairs H3 x.2.lines := (hL.entL x hxm).mono e03
      refine q_when (b := false) (et_is (et_test (ev_op (ev_lenL (ev_var rfl) (sq_of hll)) ev_c rv_I0)) ?_) (fun z => by cases z) fun _ H4 e4 => ?_
      · rw [refs_len]
        exact decide_eq_false (by have := hgd.two; omega)
      refine s_forLn (xs := refs x.2.lines) (ev_var rfl) (sq_of (e4 _ _ hll)) (fun n σ' H' => ∃ b4 b5 : Option V, σ' = [some (.ref L.p), some (.ref a), some (.int ((j : Int) + 1)), some (.ref l), b4, b5, none] ∧ Ex H3 H')
        (fun H5 e5 => ⟨_, _, rfl, e4.trans e5⟩) (fun n σ' H' _ hP => ?_) (fun n y σ' H' hy hP => ?_) (fun σ' H' hP => ?_)
      · obtain ⟨_, _, _, e5⟩ := hP
        exact sq_of (e5 _ _ hll)
      · obtain ⟨b4, b5, rfl, e5⟩ := hP
        obtain ⟨ln, hln, rfl⟩ := refs_inv hy
        show tSeq _ _ _ [some (.ref L.p), some (.ref a), some (.int ((j : Int) + 1)), some (.ref l), some (.ref ln.1), b5, none] _
        have hat : ∀ (z : Addr × Int × Int) (H6 : Hp), z ∈ x.2.lines → Ex H3 H6 → ∃ y : Addr × Str × Str, G[(z.2.1 - 1).toNat]? = some y ∧ y.2.1 = cur L.accs (z.2.1 - 1).toNat ∧ z.2.1 - 1 = (((z.2.1 - 1).toNat : Nat) : Int) ∧ H6 a = some (.lst (refs G)) ∧ H6 y.1 = some (.tup [.str y.2.1, .str y.2.2]) ∧ H6 z.1 = some (.tup [.int z.2.1, .int z.2.2]) := fun z H6 hz e6 => by
          obtain ⟨r1, r2⟩ := hgd.ran z hz
          have hk : (z.2.1 - 1).toNat < L.accs.length := by omega
          obtain ⟨y, hy, hyy⟩ := same_at hE (List.getElem?_eq_getElem hk)
          have hG6 := hG.mono (e03.trans e6)
          refine ⟨y, hy, ?_, by omega, hG6.at_, hG6.prs y (List.mem_of_getElem? hy), hp3.mono e6 z hz⟩
          unfold cur
          rw [getD_of (List.getElem?_eq_getElem hk), hyy]
        obtain ⟨y, hy1, hy2, hy3, hy4, hy5, hy6⟩ := hat ln H' (List.mem_of_getElem? hln) e5
        refine q_asg (ev_op (ev_op (ev_var rfl) (ev_op (ev_op (ev_var rfl) ev_c (rv_ixT (st_of hy6) rfl)) ev_c rv_I0) (rv_ixR hy4 hy3 hy1)) ev_c (rv_ixT (st_of hy5) rfl)) fun H6 e6 => ?_
        show tIfS _ _ _ _ [some (.ref L.p), some (.ref a), some (.int ((j : Int) + 1)), some (.ref l), some (.ref ln.1), some (.str y.2.1), none] _
        have e36 := e5.trans e6
        refine s_when (b := false) (et_is (et_test (ev_op (ev_sumN (ns := curVals L.accs y.2.1 x.2.lines) ?_) ev_c (rv_ne rfl))) ?_) (fun z => by cases z) fun _ H7 e7 => ⟨_, _, rfl, e36.trans e7⟩
        · rw [← given_cur, ← refs_len x.2.lines]
          refine el_lcL (xs := refs x.2.lines) _ _ (ev_var rfl) (sq_of (e36 _ _ hll)) (by rw [refs_len]; have := hgd.few; omega) (fun _ => rfl) (fun n v H7 e7 hv => ?_) (fun n v H7 e7 hv _ => ?_)
          · obtain ⟨z, hz, rfl⟩ := refs_inv hv
            obtain ⟨y', h1, h2, h3, h4, h5, h6⟩ := hat z H7 (List.mem_of_getElem? hz) (e36.trans e7)
            refine et_is (et_test (ev_op (ev_op (ev_op (ev_var rfl) (ev_op (ev_op (ev_var rfl) ev_c (rv_ixT (st_of h6) rfl)) ev_c rv_I0) (rv_ixR h4 h3 h1)) ev_c (rv_ixT (st_of h5) rfl)) (ev_var rfl) (rv_eq rfl))) ?_
            rw [getD_of hz, ← h2]
            exact str_dec _ _
          · obtain ⟨z, hz, rfl⟩ := refs_inv hv
            obtain ⟨y', h1, h2, h3, h4, h5, h6⟩ := hat z H7 (List.mem_of_getElem? hz) (e36.trans e7)
            refine ev_is (ev_op (ev_var rfl) ev_c (rv_ixT (st_of h6) rfl)) ?_
            rw [getD_of hz]
        · rw [curVals_sum, hgd.bal]
          rfl
      · obtain ⟨b4, b5, rfl, e5⟩ := hP
        exact ⟨_, _, _, _, rfl, e03.trans e5⟩
    · obtain ⟨a2, a3, a4, a5, rfl, e1⟩ := hP
      exact s_ret ev_c fun H2 e2 => k H2 (e1.trans e2)
end
end
section
open PySem PySem.Spec PyProof.Rows L2 Evl
section
variable {P : Program} {w : World} {K : PySem.W.Frag} {mg : Str → Option Value} {base : Heap} {Z : Ads}

section
variable {σ : L2.St} {H : Hp} {ta tb : TE} {sp : Sp} {W : WX} {p a : Addr} {vs xs ys : List V} {ar : TA} {tz tu : TS} {D : Ends} {i j : Nat} {n : Int} {x : V}
theorem el_catV (ha : Ev ta σ H (.ref p)) (h : H p = some (.lst xs)) (hb : EvL tb σ H ys) (hz : xs.length + ys.length ≤ 100000) : EvL (tOp rCat ta tb) σ H (xs ++ ys) := fun H1 e Q q =>
  ha H1 e _ fun H2 e2 => hb H2 (e.trans e2) _ fun p2 H3 _ e3 hp2 => ⟨p, p2, xs, ys, rfl, rfl, ((e.trans e2).trans e3) _ _ h, hp2, sz_of hz, fun p3 hp3 => q p3 _ (fresh_back (e2.trans e3) hp3) ((e2.trans e3).trans (Ex.new hp3)) upd_same⟩
/-- a loop over the list that a call answers with -/
theorem q_forC (h : EvA ar σ H vs) (k : ∀ H1, Ex H H1 → sp vs H1 (fun x H2 => tFor (iList K (tC x)) (gName j) tu { D with nx := tz D } σ H2) (WE W σ)) : tSeq (tFor (iList K (tCallS sp (WE W) ar)) (gName j) tu) tz D σ H := h H (Ex.refl H) _ k
end
theorem ok_w_right {f : Addr} {fd : FuncData} (F : Fun K "_law_right" "_law_right" s_w_right f fd) (T : Txt K mg Z) (c_entries : Met P w K mg base 1 Z.led "entries" (spEntries Z)) (c_entry : Met P w K mg base 1 Z.led "entry" (spEntry Z)) (c_w_currencies : Cal P w K mg base 1 "_law_currencies" spCurs)
    (c_w_day : Cal P w K mg base 1 "_law_day" spDay) (c_w_sums_right : Cal P w K mg base 5 "_law_sums_right" (spSumsR Z)) (c_w_entries_right : Cal P w K mg base 2 "_law_entries_right" (spEntsR Z)) :
    FnOk P w K mg base (L2.CX P w) 6 f fd ["_law_ledger_here", "_law_accounts_here", "_law_numbers_here"] (spRight Z) := by
  refine F.okX sc_w_right (fun vs H Q E h => ?_) (fun cdv A outer s H vs Q E hr h => ?_)
  · obtain ⟨L, a, n, G, ns, rfl, _⟩ := h
    rfl
  · obtain ⟨L, a, n, G, ns, rfl, hL, hO, hG, hE, hns, hl, k⟩ := h
    refine ⟨_, (pss_cons (ps_set (i := 3) sc_w_right.nd rfl (Or.inl rfl) (pe_lst (pa_cons pe_int pa_nil)))
      (pss_cons (ps_for (passes_of rfl) rfl (pi_range2 rfl T.n_range (pa_cons pe_int (pa_cons (pe_op op_add (pm0 T.cl c_entries (hr.mono (by decide)) (takes_of rfl rfl rfl rfl) (pv 0)) pe_int) pa_nil))) (pg_name (i := 4) sc_w_right.nd rfl (Or.inl rfl)) (pss_cons (ps_set (i := 5) sc_w_right.nd rfl (Or.inl rfl) (pm T.cl c_entry (hr.mono (by decide)) (takes_of rfl rfl rfl rfl) (pv 0) (pa_cons (pv 4) pa_nil)))
      (pss_one (ps_set (i := 3) sc_w_right.nd rfl (Or.inl rfl) (pe_op op_cat (pv 3) (pe_lst (pa_cons (pe_ix ix_tup (pv 5) pe_int (fun _ _ => rfl)) (pa_cons (pe_ix ix_tup (pv 5) pe_int (fun _ _ => rfl)) pa_nil))))))))
      (pss_cons (ps_for (passes_of rfl) rfl (pi_list (pc c_w_currencies (hr.mono (by decide)) rfl (takes_of rfl rfl rfl rfl) (pa_cons (pv 2) pa_nil))) (pg_name (i := 6) sc_w_right.nd rfl (Or.inl rfl)) (pss_one (ps_for (passes_of rfl) rfl (pi_range1 rfl T.n_range (pa_cons pe_int pa_nil)) (pg_name (i := 7) sc_w_right.nd rfl (Or.inl rfl)) (pss_cons (ps_set (i := 8) sc_w_right.nd rfl (Or.inl rfl) (pc c_w_day (hr.mono (by decide)) rfl (takes_of rfl rfl rfl rfl) (pa_cons (pe_ix ix_list (pv 2) (pe_op op_add pe_int (pv 7)) (fun _ _ => rfl)) (pa_cons (pv 3) pa_nil))))
      (pss_cons (ps_set (i := 9) sc_w_right.nd rfl (Or.inl rfl) (pc c_w_day (hr.mono (by decide)) rfl (takes_of rfl rfl rfl rfl) (pa_cons (pe_ix ix_list (pv 2) (pe_op op_add pe_int (pv 7)) (fun _ _ => rfl)) (pa_cons (pv 3) pa_nil))))
      (pss_one (ps_if (pt_not (pt_val (pc c_w_sums_right (hr.mono (by decide)) rfl (takes_of rfl rfl rfl rfl) (pa_cons (pv 0) (pa_cons (pv 1) (pa_cons (pv 6) (pa_cons (pv 8) (pa_cons (pv 9) pa_nil)))))))) (pss_one (ps_ret pe_bl)) pss_nil)))))))
      (pss_one (ps_ret (pc c_w_entries_right (hr.mono (by decide)) rfl (takes_of rfl rfl rfl rfl) (pa_cons (pv 0) (pa_cons (pv 1) pa_nil)))))))), ?_⟩
    have sv : ∀ (H : Hp), LedAt Z H L → SpV (spEntries Z) [.ref L.p] H (.int (L.ents.length : Int)) := fun H h H1 e Q q E => ⟨L, rfl, h.mono e, q⟩
    refine q_asgL (xs := ([0] : List Int).map V.int) (el_lst (ea_cons ev_c ea_nil) (by decide)) fun p0 H1 hp0 e1 hp1 => ?_
    show tSeq _ _ _ [some (.ref L.p), some (.ref a), some (.ref n), some (.ref p0), none, none, none, none, none, none] _
    have hL1 := hL.mono e1
    refine q_forR2 (lo := 1) (n := (L.ents.length : Int) + 1) (ea_cons ev_c (ea_cons (ev_op (ev_mt (ev_var rfl) hL1.ins (by rfl) ea_nil (sv _ hL1)) ev_c rv_I0) ea_nil)) (by have := hO.ent; omega)
      (fun i σ' H' => ∃ (pd : Addr) (ds : List Int) (a4 a5 : Option V), σ' = [some (.ref L.p), some (.ref a), some (.ref n), some (.ref pd), a4, a5, none, none, none, none] ∧ Ex H H' ∧ IntsAt H' pd ds ∧ ds.length = 1 + 2 * i)
      (fun H2 e2 => ⟨p0, [0], none, none, rfl, e1.trans e2, e2 _ _ hp1, rfl⟩) (fun i σ' H' hi hP => ?_) (fun σ' H' hP => ?_)
    · obtain ⟨pd, ds, a4, a5, rfl, e2, hd, hdl⟩ := hP
      have hi2 : i < L.ents.length := by omega
      have e0 : (1 : Int) + (i : Int) = (i : Int) + 1 := Int.add_comm _ _
      rw [e0]
      show tSeq _ _ _ [some (.ref L.p), some (.ref a), some (.ref n), some (.ref pd), some (.int ((i : Int) + 1)), a5, none, none, none, none] _
      have hL2 := hL.mono e2
      refine q_asgM (ev_var rfl) hL2.ins (by rfl) (ea_cons (ev_var rfl) ea_nil) fun H3 e3 => ?_
      refine ⟨L, _, rfl, hL2.mono e3, hO.ent, fun y hy => (hO.good y hy).few, fun z => absurd (by omega) z, fun j y hj hy H4 t l u e4 hl0 ht hll => ?_⟩
      show (_ : TS) _ [some (.ref L.p), some (.ref a), some (.ref n), some (.ref pd), some (.int ((i : Int) + 1)), some (.ref t), none, none, none, none] _
      have e24 := e3.trans e4
      have hd4 := hd.mono e24
      refine s_asgL (el_catV (ys := [.int y.2.day, .int y.2.value]) (ev_var rfl) hd4 (el_lst (ea_cons (ev_op (ev_var rfl) ev_c (rv_ixT (st_of ht) rfl)) (ea_cons (ev_op (ev_var rfl) ev_c (rv_ixT (st_of ht) rfl)) ea_nil)) (by show 2 ≤ 100000; decide)) (by rw [List.length_map]; show _ + 2 ≤ _; have := hO.ent; omega)) fun q H5 hq e5 h5 => ?_
      refine ⟨q, ds ++ [y.2.day, y.2.value], _, _, rfl, (e2.trans e24).trans e5, ?_, ?_⟩
      · show H5 q = _
        rw [h5, List.map_append]
        rfl
      · rw [List.length_append, hdl]
        show 1 + 2 * i + 2 = _
        omega
    · obtain ⟨pd, ds, a4, a5, rfl, e2, hd, hdl⟩ := hP
      have en : ((L.ents.length : Int) + 1 - 1).toNat = L.ents.length := by omega
      rw [en] at hdl
      have hd1 : 1 ≤ ds.length := by omega
      have hd2 : ds.length ≤ 100000 := by have := hO.ent; omega
      refine q_forC (ea_cons (ev_var rfl) ea_nil) fun H3 e3 => ⟨n, ns, rfl, hns.mono (e2.trans e3), by omega, fun H4 q c d hc hd' hq0 e4 hq => ?_⟩
      have hs : ∀ y, y ∈ [V.str c, V.str d] → ∃ z : Str, y = .str z := fun y hy => by
        rcases List.mem_cons.mp hy with e | hy
        · exact ⟨c, e⟩
        · exact ⟨d, List.mem_singleton.mp hy⟩
      refine s_forLn (xs := [V.str c, V.str d]) ev_c (sq_of hq) (fun i σ' H' => ∃ b6 b7 b8 b9 : Option V, σ' = [some (.ref L.p), some (.ref a), some (.ref n), some (.ref pd), a4, a5, b6, b7, b8, b9] ∧ Ex H4 H')
        (fun H5 e5 => ⟨_, _, _, _, rfl, e5⟩) (fun i σ' H' _ hP => ?_) (fun i x σ' H' hx hP => ?_) (fun σ' H' hP => ?_)
      · obtain ⟨_, _, _, _, _, e5⟩ := hP
        exact sq_of (e5 _ _ hq)
      · obtain ⟨b6, b7, b8, b9, rfl, e5⟩ := hP
        obtain ⟨cc, rfl⟩ := hs x (List.mem_of_getElem? hx)
        show tFor _ _ _ _ [some (.ref L.p), some (.ref a), some (.ref n), some (.ref pd), a4, a5, some (.str cc), b7, b8, b9] _
        refine s_forR1 (n := 3) (ea_cons ev_c ea_nil) ⟨by decide, by decide⟩ (fun i σ' H' => ∃ b7 b8 b9 : Option V, σ' = [some (.ref L.p), some (.ref a), some (.ref n), some (.ref pd), a4, a5, some (.str cc), b7, b8, b9] ∧ Ex H4 H')
          (fun H6 e6 => ⟨_, _, _, rfl, e5.trans e6⟩) (fun j σ' H' hj hP => ?_) (fun σ' H' hP => ?_)
        · obtain ⟨b7, b8, b9, rfl, e6⟩ := hP
          have e06 := ((e2.trans e3).trans e4).trans e6
          have hd6 := hd.mono ((e3.trans e4).trans e6)
          have hn6 := hns.mono e06
          show tSeq _ _ _ [some (.ref L.p), some (.ref a), some (.ref n), some (.ref pd), a4, a5, some (.str cc), some (.int (j : Int)), b8, b9] _
          refine q_asgC (ea_cons (ev_op (ev_var rfl) (ev_op ev_c (ev_var rfl) rv_I0) (rv_ixI hn6 (by omega) (by omega))) (ea_cons (ev_var rfl) ea_nil)) fun H7 e7 => ⟨_, pd, ds, rfl, hd6.mono e7, hd1, hd2, fun bo H8 e8 => ?_⟩
          have e78 := e7.trans e8
          show tSeq _ _ _ [some (.ref L.p), some (.ref a), some (.ref n), some (.ref pd), a4, a5, some (.str cc), some (.int (j : Int)), some (optV bo), b9] _
          refine q_asgC (ea_cons (ev_op (ev_var rfl) (ev_op ev_c (ev_var rfl) rv_I0) (rv_ixI (hn6.mono e78) (by omega) (by omega))) (ea_cons (ev_var rfl) ea_nil)) fun H9 e9 => ⟨_, pd, ds, rfl, (hd6.mono e78).mono e9, hd1, hd2, fun vo H10 e10 => ?_⟩
          have e610 := (e78.trans e9).trans e10
          have e010 := e06.trans e610
          show tIfS _ _ _ _ [some (.ref L.p), some (.ref a), some (.ref n), some (.ref pd), a4, a5, some (.str cc), some (.int (j : Int)), some (optV bo), some (optV vo)] _
          refine s_when (b := false) (et_not (a := true) (et_B (ev_cS (ea_cons (ev_var rfl) (ea_cons (ev_var rfl) (ea_cons (ev_var rfl) (ea_cons (ev_var rfl) (ea_cons (ev_var rfl) ea_nil))))) fun H11 e11 Q q E => ⟨L, a, G, cc, bo, vo, rfl, hL.mono (e010.trans e11), hO, hG.mono (e010.trans e11), hE, fun H12 e12 => q H12 e12⟩))) (fun z => by cases z) fun _ H11 e11 => ⟨_, _, _, rfl, (e6.trans e610).trans e11⟩
        · obtain ⟨b7, b8, b9, rfl, e6⟩ := hP
          exact ⟨_, _, _, _, rfl, e6⟩
      · obtain ⟨b6, b7, b8, b9, rfl, e5⟩ := hP
        have e05 := ((e2.trans e3).trans e4).trans e5
        exact s_retC (ea_cons (ev_var rfl) (ea_cons (ev_var rfl) ea_nil)) fun H6 e6 => ⟨L, a, G, rfl, hL.mono (e05.trans e6), hO, hG.mono (e05.trans e6), hE, fun H7 e7 => k H7 ((e05.trans e6).trans e7)⟩
end
end
section
open PySem PySem.Spec PyProof.Rows L2 Evl
section
variable {P : Program} {w : World} {K : PySem.W.Frag} {mg : Str → Option Value} {base : Heap} {Z : Ads}

theorem shp_nil : SeqAt.shaped (.list []) = true := by decide
section
variable {H : Hp} {p q : Addr} {ns : List Int} {xs : List Str}
theorem rv_neN (h1 : SqL K H p (ns.map V.int)) (h2 : H q = some (.lst [])) : RV (rNeD K) (.ref p) (.ref q) H (.bl (!PyData.eqv (.list (ns.map PyData.int)) (.list []))) := fun H1 e Q k =>
  ⟨_, _, .lst (ex_l e h1) (dp_ints ns), .lst (sq_of (e _ _ h2)) .nil, shp_ints ns, shp_nil, k H1 (Ex.refl H1)⟩
theorem nil_eqD (h1 : H p = some (.lst [])) (h2 : H q = some (.lst [])) {Q : VK} (k : Q (.bl true) H) : rEqD K (.ref p) (.ref q) H Q :=
  ⟨_, _, .lst (sq_of h1) .nil, .lst (sq_of h2) .nil, shp_nil, shp_nil, k⟩
theorem cons_eqD (h1 : H p = some (.lst (xs.map V.str))) (h2 : H q = some (.lst [])) (hx : xs ≠ []) (hc : ∀ x ∈ xs, PyData.canLay0 (.str x) = true) {Q : VK} (k : Q (.bl false) H) : rEqD K (.ref p) (.ref q) H Q :=
  ⟨_, _, .lst (sq_of h1) (dp_strs xs), .lst (sq_of h2) .nil, shp_strs xs hc, shp_nil, by
    cases xs with
    | nil => exact absurd rfl hx
    | cons x r => exact k⟩
end
theorem q_split {M : L2.St → Hp → Prop} {t tz : TS} {D : Ends} {σ : L2.St} {H : Hp} (k : ∀ σ' H', M σ' H' → tz D σ' H') (h : (∀ σ' H', M σ' H' → tz D σ' H') → tSeq t tz D σ H) : tSeq t tz D σ H := h k
theorem t_consC {sp : Sp} {W : WX} {ar tr : TA} {vs : List V} {σ : L2.St} {H : Hp} {Q : List V → Hp → Prop} (h : EvA ar σ H vs) (k : ∀ H1, Ex H H1 → sp vs H1 (fun v H2 => tr σ H2 fun us H3 => Q (v :: us) H3) (WE W σ)) : tCons (tCallS sp (WE W) ar) tr σ H Q := h H (Ex.refl H) _ k
theorem t_args {ar : TA} {vs : List V} {σ : L2.St} {H : Hp} {Q : List V → Hp → Prop} (h : EvA ar σ H vs) (k : ∀ H1, Ex H H1 → Q vs H1) : ar σ H Q := h H (Ex.refl H) Q k
theorem ok_law {f : Addr} {fd : FuncData} (F : Fun K "law" "law" s_law f fd) (T : Txt K mg Z) (c_entries : Met P w K mg base 1 Z.led "entries" (spEntries Z)) (c_w_numbers : Cal P w K mg base 1 "_law_numbers" spNumbers) (c_w_accounts : Cal P w K mg base 2 "_law_accounts" spAccs)
    (c_w_ledger : Cal P w K mg base 3 "_law_ledger" (spWLed Z)) (c_w_deed : Cal P w K mg base 5 "_law_deed" (spDeed Z)) (c_w_right : Cal P w K mg base 6 "_law_right" (spRight Z)) :
    FnOk P w K mg base (L2.CX P w) 7 f fd ["_law_script"] (spLaw K) := by
  refine F.okX sc_law (fun vs H Q E h => ?_) (fun cdv A outer s H vs Q E hr h => ?_)
  · obtain ⟨a, ns, rfl, _⟩ := h
    rfl
  · obtain ⟨a, zs, rfl, hS, hz, k⟩ := h
    refine ⟨_, (pss_cons (ps_set (i := 1) sc_law.nd rfl (Or.inl rfl) pe_int)
      (pss_cons (ps_if (pt_cmpR (op_neD hr.units) (pv 0) (pe_lst pa_nil) (nomark _)) (pss_one (ps_set (i := 1) sc_law.nd rfl (Or.inl rfl) (pe_ix ix_list (pv 0) pe_int (fun _ _ => rfl)))) pss_nil)
      (pss_cons (ps_set (i := 2) sc_law.nd rfl (Or.inl rfl) (pc c_w_numbers (hr.mono (by decide)) rfl (takes_of rfl rfl rfl rfl) (pa_cons (pv 1) (pa_cons pe_int pa_nil))))
      (pss_cons (ps_set (i := 3) sc_law.nd rfl (Or.inl rfl) (pc c_w_accounts (hr.mono (by decide)) rfl (takes_of rfl rfl rfl rfl) (pa_cons (pv 2) pa_nil)))
      (pss_cons (ps_set (i := 4) sc_law.nd rfl (Or.inl rfl) (pc c_w_ledger (hr.mono (by decide)) rfl (takes_of rfl rfl rfl rfl) (pa_cons (pv 3) pa_nil)))
      (pss_cons (ps_set (i := 5) sc_law.nd rfl (Or.inl rfl) (pe_op op_cat (pe_lst (pa_cons pe_int pa_nil)) (pe_slice sl_list (pv 0) (po_some pe_int) (po_some pe_int))))
      (pss_cons (ps_set (i := 6) sc_law.nd rfl (Or.inl rfl) (pe_lst (pa_cons (pe_op op_mod (pe_ix ix_list (pv 2) pe_int (fun _ _ => rfl)) (pe_callB call_len_seq (by rfl) T.n_len PySem.boot_len (pa_cons (pv 5) pa_nil))) (pa_cons (pe_op op_mod (pe_ix ix_list (pv 2) pe_int (fun _ _ => rfl)) (pe_callB call_len_seq (by rfl) T.n_len PySem.boot_len (pa_cons (pv 5) pa_nil))) (pa_cons (pe_op op_sub (pe_callB call_len_seq (by rfl) T.n_len PySem.boot_len (pa_cons (pv 5) pa_nil)) pe_int) pa_nil)))))
      (pss_cons (ps_set (i := 7) sc_law.nd rfl (Or.inl rfl) pe_int)
      (pss_cons (ps_for (passes_of rfl) rfl (pi_range1 rfl T.n_range (pa_cons (pe_callB call_len_seq (by rfl) T.n_len PySem.boot_len (pa_cons (pv 5) pa_nil)) pa_nil)) (pg_name (i := 8) sc_law.nd rfl (Or.inl rfl)) (pss_cons (ps_if (pt_cmpR (op_eqD hr.units) (pc c_w_deed (hr.mono (by decide)) rfl (takes_of rfl rfl rfl rfl) (pa_cons (pv 4) (pa_cons (pv 3) (pa_cons (pc c_w_numbers (hr.mono (by decide)) rfl (takes_of rfl rfl rfl rfl) (pa_cons (pe_ix ix_list (pv 5) (pv 8) (fun _ _ => rfl)) (pa_cons pe_int pa_nil))) (pa_cons (pe_op op_mod (pe_ix ix_list (pv 2) pe_int (fun _ _ => rfl)) pe_int) pa_nil))))) (pe_lst pa_nil) (nomark _)) (pss_one (ps_set (i := 7) sc_law.nd rfl (Or.inl rfl) (pe_op op_add (pv 7) pe_int))) pss_nil)
      (pss_cons (ps_if (pt_cmpR op_ne (pm0 T.cl c_entries (hr.mono (by decide)) (takes_of rfl rfl rfl rfl) (pv 4)) (pv 7) (nomark _)) (pss_one (ps_ret pe_bl)) pss_nil)
      (pss_one (ps_if (PW.pt (pw_and (pt_cmpR op_in_seq (pv 8) (pv 6) (by rfl)) (pw_and1 (pt_not (pt_val (pc c_w_right (hr.mono (by decide)) rfl (takes_of rfl rfl rfl rfl) (pa_cons (pv 4) (pa_cons (pv 3) (pa_cons (pv 2) pa_nil))))))))) (pss_one (ps_ret pe_bl)) pss_nil)))))
      (pss_one (ps_ret pe_bl))))))))))), ?_⟩
    refine q_asg ev_c fun H1 e1 => ?_
    show tSeq _ _ _ [some (.ref a), some (.int 0), none, none, none, none, none, none, none] _
    have hS1 := ex_l e1 hS
    refine q_ifP (P := IsI) (et_test (ev_opL (ev_var rfl) (el_lst ea_nil (by decide)) fun p H2 hp e2 => rv_neN (ex_l e2 hS1) hp)) rfl (fun hb => ?_) (fun _ _ _ => ⟨0, rfl⟩) fun x H2 e2 hx => ?_
    · cases zs with
      | nil => cases hb
      | cons z r => exact fun H2 e2 => ep_int (ev_op (ev_var rfl) ev_c (rv_ixL (v := .int z) (ex_l e2 hS1) (atI_nat (j := 0) rfl))) H2 (Ex.refl H2)
    obtain ⟨first, rfl⟩ := hx
    show tSeq _ _ _ [some (.ref a), some (.int first), none, none, none, none, none, none, none] _
    refine q_asgC (ea_cons (ev_var rfl) (ea_cons ev_c ea_nil)) fun H3 e3 => ⟨first, 50, rfl, by decide, fun H4 n ns hn0 e4 hnl hns => ?_⟩
    show tSeq _ _ _ [some (.ref a), some (.int first), some (.ref n), none, none, none, none, none, none] _
    refine q_asgC (ea_cons (ev_var rfl) ea_nil) fun H5 e5 => ⟨n, ns, rfl, hns.mono e5, by omega, fun H6 b G hb0 e6 g1 g2 hGok hG => ?_⟩
    show tSeq _ _ _ [some (.ref a), some (.int first), some (.ref n), some (.ref b), none, none, none, none, none] _
    have hns6 := hns.mono (e5.trans e6)
    refine q_asgC (ea_cons (ev_var rfl) ea_nil) fun H7 e7 => ⟨b, G, rfl, hG.mono e7, by omega, hGok, fun H8 L0 hL0 hO0 hents hE e8 hown => ?_⟩
    show tSeq _ _ _ [some (.ref a), some (.int first), some (.ref n), some (.ref b), some (.ref L0.p), none, none, none, none] _
    have nn : n ∉ own L0 := fun m => by
      have h0 := hown n m
      rw [hns6.mono e7] at h0
      cases h0
    have nb : b ∉ own L0 := fun m => by
      have h0 := hown b m
      rw [(hG.mono e7).at_] at h0
      cases h0
    have nx : ∀ x ∈ G, x.1 ∉ own L0 := fun x hx m => by
      have h0 := hown x.1 m
      rw [(hG.mono e7).prs x hx] at h0
      cases h0
    have e28 := ((((e3.trans e4).trans e5).trans e6).trans e7).trans e8
    have hS8 := ex_l (e2.trans e28) hS1
    have hns8 := hns6.mono (e7.trans e8)
    have hG8 := hG.mono (e7.trans e8)
    have hcl := cutL_len zs (some 1) (some 150)
    have hcut : cutV (zs.map V.int) (some 1) (some 150) = (cutL zs (some 1) (some 150)).map V.int := by
      unfold cutV cutL
      rw [List.length_map, ← List.map_drop, ← List.map_take]
    refine q_asgL (xs := (2 :: cutL zs (some 1) (some 150)).map V.int) (el_cat (xs := [.int 2]) (ys := (cutL zs (some 1) (some 150)).map V.int) (el_lst (ea_cons ev_c ea_nil) (by show 1 ≤ 100000; decide)) (by rw [← hcut]; exact el_sl (ev_var rfl) (eo_some ev_c) (eo_some ev_c) hS8) (by rw [List.length_map]; show 1 + _ ≤ _; omega)) fun pc H9 hpc0 e9 hpc => ?_
    show tSeq _ _ _ [some (.ref a), some (.int first), some (.ref n), some (.ref b), some (.ref L0.p), some (.ref pc), none, none, none] _
    obtain ⟨cs, hcs⟩ : ∃ cs, cs = 2 :: cutL zs (some 1) (some 150) := ⟨_, rfl⟩
    have hcsl : cs.length = (cutL zs (some 1) (some 150)).length + 1 := by rw [hcs]; rfl
    rw [← hcs] at hpc
    have hpos : (0 : Int) < (cs.length : Int) := by omega
    have hns9 := hns8.mono e9
    have lenC : ∀ {H : Hp} {σ : L2.St}, H pc = some (.lst (cs.map V.int)) → σ[5]? = some (some (.ref pc)) → Ev (tCB (fun xs H Q => ∃ p ys, xs = [.ref p] ∧ (SqL K H p ys ∨ SqT K H p ys) ∧ Q (.int ys.length) H) (tCons (tVar 5) tNil)) σ H (.int (cs.length : Int)) := fun h hv => ev_is (ev_lenL (ev_var hv) (sq_of h)) (by rw [List.length_map])
    refine q_asgL (xs := [.int (ns.getD (46 : Int).toNat 0 % (cs.length : Int)), .int (ns.getD (47 : Int).toNat 0 % (cs.length : Int)), .int ((cs.length : Int) - 1)])
      (el_lst (ea_cons (ev_op (ev_op (ev_var rfl) ev_c (rv_ixI hns9 (by decide) (by omega))) (lenC hpc rfl) (rv_I hpos)) (ea_cons (ev_op (ev_op (ev_var rfl) ev_c (rv_ixI hns9 (by decide) (by omega))) (lenC hpc rfl) (rv_I hpos)) (ea_cons (ev_op (lenC hpc rfl) ev_c rv_I0) ea_nil))) (by show 3 ≤ 100000; decide)) fun ps H10 hps0 e10 hps => ?_
    obtain ⟨ss, hss⟩ : ∃ ss : List V, ss = [.int (ns.getD (46 : Int).toNat 0 % (cs.length : Int)), .int (ns.getD (47 : Int).toNat 0 % (cs.length : Int)), .int ((cs.length : Int) - 1)] := ⟨_, rfl⟩
    have hsf : ss.all flatV = true := by rw [hss]; rfl
    rw [← hss] at hps
    show tSeq _ _ _ [some (.ref a), some (.int first), some (.ref n), some (.ref b), some (.ref L0.p), some (.ref pc), some (.ref ps), none, none] _
    refine q_asg ev_c fun H11 e11 => ?_
    show tSeq _ _ _ [some (.ref a), some (.int first), some (.ref n), some (.ref b), some (.ref L0.p), some (.ref pc), some (.ref ps), some (.int 0), none] _
    have npc : pc ∉ own L0 := hL0.noN hpc0
    have nps : ps ∉ own L0 := (hL0.mono e9).noN hps0
    have hpc11 := e11 _ _ (e10 _ _ hpc)
    have kG : ∀ {H H' : Hp}, Keeps (own L0) H H' → AccsAt H b G → AccsAt H' b G := fun q h => ⟨q _ _ nb h.at_, fun x hx => q _ _ (nx x hx) (h.prs x hx)⟩
    refine q_forR1 (n := (cs.length : Int)) (ea_cons (lenC hpc11 rfl) ea_nil) (by omega)
      (fun i σ' H' => ∃ (L : Led) (b8 : Option V), σ' = [some (.ref a), some (.int first), some (.ref n), some (.ref b), some (.ref L0.p), some (.ref pc), some (.ref ps), some (.int (L.ents.length : Int)), b8] ∧
        LedAt Z H' L ∧ LedOk L ∧ L.p = L0.p ∧ L.accs = L0.accs ∧ own L = own L0 ∧ IntsAt H' n ns ∧ AccsAt H' b G ∧ H' pc = some (.lst (cs.map V.int)) ∧ H' ps = some (.lst ss))
      (fun H12 e12 => ?_) (fun i σ' H' hi hP => ?_) (fun σ' H' hP => ?_)
    · have e812 := ((e9.trans e10).trans e11).trans e12
      refine ⟨L0, none, ?_, hL0.mono e812, hO0, rfl, rfl, rfl, hns8.mono e812, hG8.mono e812, e12 _ _ hpc11, (e11.trans e12) _ _ hps⟩
      rw [hents]
      rfl
    · obtain ⟨L, b8, rfl, hL, hO, q1, q2, q3, hn, hg, hc, hs⟩ := hP
      rw [← q1]
      show tSeq _ _ _ [some (.ref a), some (.int first), some (.ref n), some (.ref b), some (.ref L.p), some (.ref pc), some (.ref ps), some (.int (L.ents.length : Int)), some (.int (i : Int))] _
      have hiN : i < cs.length := by omega
      refine q_split (M := fun σ2 H2 => ∃ L' : Led, σ2 = [some (.ref a), some (.int first), some (.ref n), some (.ref b), some (.ref L'.p), some (.ref pc), some (.ref ps), some (.int (L'.ents.length : Int)), some (.int (i : Int))] ∧
        LedAt Z H2 L' ∧ LedOk L' ∧ L'.p = L0.p ∧ L'.accs = L0.accs ∧ own L' = own L0 ∧ IntsAt H2 n ns ∧ AccsAt H2 b G ∧ H2 pc = some (.lst (cs.map V.int)) ∧ H2 ps = some (.lst ss)) (fun σ2 H2 hM => ?_) (fun kk => ?_)
      · obtain ⟨L', rfl, hL, hO, r1, r2, r3, hn, hg, hc, hs⟩ := hM
        have sv : ∀ (H : Hp), LedAt Z H L' → SpV (spEntries Z) [.ref L'.p] H (.int (L'.ents.length : Int)) := fun H h H1 e Q q E => ⟨L', rfl, h.mono e, q⟩
        have hE' : G.map (·.2) = L'.accs.map (·.2) := by rw [r2, hE]
        refine q_when (b := false) (et_is (et_test (ev_op (ev_mt (ev_var rfl) hL.ins (by rfl) ea_nil (sv _ hL)) (ev_var rfl) (rv_ne rfl))) (by rw [decide_eq_true rfl]; rfl)) (fun z => by cases z) fun _ H3 e3 => ?_
        show tIfS _ _ _ _ [some (.ref a), some (.int first), some (.ref n), some (.ref b), some (.ref L'.p), some (.ref pc), some (.ref ps), some (.int (L'.ents.length : Int)), some (.int (i : Int))] _
        refine s_when (b := false) (et_is (et_and (b := false) (et_test (ev_op (ev_var rfl) (ev_var rfl) (rv_isL (sq_of (e3 _ _ hs)) rfl hsf))) fun _ => et_not (a := true) (et_B (ev_cS (ea_cons (ev_var rfl) (ea_cons (ev_var rfl) (ea_cons (ev_var rfl) ea_nil))) fun H4 e4 Q q E =>
          ⟨L', b, n, G, ns, rfl, hL.mono (e3.trans e4), hO, hg.mono (e3.trans e4), hE', hn.mono (e3.trans e4), by omega, fun H5 e5 => q H5 e5⟩))) (Bool.and_false _)) (fun z => by cases z) fun _ H4 e4 => ?_
        have r4 := r1.trans q1.symm
        exact ⟨L', some (.int (i : Int)), by rw [r4], hL.mono (e3.trans e4), hO, r4, r2, r3, hn.mono (e3.trans e4), hg.mono (e3.trans e4), e4 _ _ (e3 _ _ hc), e4 _ _ (e3 _ _ hs)⟩
      · refine ⟨_, rfl, _, rfl, ?_⟩
        refine t_consC (ea_cons (ev_op (ev_var rfl) (ev_var rfl) (rv_ixI hc (Int.natCast_nonneg _) (by omega))) (ea_cons ev_c ea_nil)) fun H2 e2 => ⟨_, 63, rfl, by decide, fun H3 m ms hm0 e3 hml hms => ?_⟩
        refine t_args (ea_cons (ev_op (ev_op (ev_var rfl) ev_c (rv_ixI (hn.mono (e2.trans e3)) (by decide) (by omega))) ev_c (rv_I (by decide))) ea_nil) fun H4 e4 => ?_
        have e24 := (e2.trans e3).trans e4
        refine ⟨L, m, b, ms, G, _, rfl, hL.mono e24, hO, hms.mono e4, by omega, hg.mono e24, by omega, by omega, fun H5 L' r h1 h2 h3 h4 h5 => ?_, fun H5 r xs e5 hx hxc h5 => ?_⟩
        · refine el_lst ea_nil (by decide) H5 (Ex.refl H5) _ fun t H6 ht0 e6 ht => nil_eqD (e6 _ _ h5) ht ⟨true, rfl, ?_⟩
          refine iteT (s_asg (v := .int (L'.ents.length : Int)) (ev_is (ev_op (ev_var rfl) ev_c rv_I0) ?_) fun H7 e7 => kk _ _ ⟨L', ?_, ?_⟩)
          · rw [h3.n]
            rfl
          · rw [h3.p]
            rfl
          · have kp : Keeps (own L0) H' H7 := by
              rw [q3] at h4
              exact ((Ex.keeps e24).trans h4).trans (Ex.keeps (e6.trans e7))
            exact ⟨h1.mono (e6.trans e7), h2, h3.p.trans q1, h3.accs.trans q2, h3.own.trans q3, kp _ _ nn hn, kG kp hg, kp _ _ npc hc, kp _ _ nps hs⟩
        · refine el_lst ea_nil (by decide) H5 (Ex.refl H5) _ fun t H6 ht0 e6 ht => cons_eqD (e6 _ _ h5) ht hx hxc ⟨false, rfl, ?_⟩
          have e26 := (e24.trans e5).trans e6
          exact iteF (kk _ _ ⟨L, rfl, hL.mono e26, hO, q1, q2, q3, hn.mono e26, hg.mono e26, e26 _ _ hc, e26 _ _ hs⟩)
    · obtain ⟨L, b8, rfl, hL, hO, q1, q2, q3, hn, hg, hc, hs⟩ := hP
      exact s_ret ev_c fun H2 e2 => k H2
end
end
end K12
namespace K12
section
open PySem PySem.Spec PyProof.Rows L2
theorem all_nil {α : Type} {p : α → Prop} : ∀ x ∈ ([] : List α), p x := by
  intro x hx
  cases hx
theorem all_of {α : Type} {p : α → Prop} {a : α} {l : List α} (h : p a) (r : ∀ x ∈ l, p x) : ∀ x ∈ a :: l, p x := by
  intro x hx
  rcases List.mem_cons.mp hx with e | e
  · rw [e]
    exact h
  · exact r x e
theorem kit_self {K : PySem.W.Frag} {D : Addr} : PySem.W.kitOne K (.ref D) (.ref D) = some (decide (D = D)) := by
  have e : ((Value.ref D) == (Value.ref D)) = true := beq_self_eq_true _
  unfold PySem.W.kitOne
  rw [if_pos e, decide_eq_true rfl]
theorem kit_other {K : PySem.W.Frag} {D C : Addr} (hdct : PySem.W.hasDictIn K C = true) (ht : PySem.W.typeIn K (.ref C) = some (.type "type")) (h4 : PySem.W.subIn K (.ref D) (.ref C) = some false) : PySem.W.kitOne K (.ref D) (.ref C) = some (decide (D = C)) := by
  by_cases hc : D = C
  · rw [hc]
    exact kit_self
  · obtain ⟨cd, hcl, _⟩ := PySem.W.any_some hdct
    have e1 : ((Value.ref D) == (Value.ref C)) = false := by
      refine Bool.eq_false_iff.mpr fun q => hc ?_
      exact Value.ref.inj (beq_iff_eq.mp q)
    have e2 : ((PySem.W.clsIn K C).isSome && PySem.W.typeIn K (.ref C) == some (.type "type")) = true := by rw [hcl, ht] <;> rfl
    unfold PySem.W.kitOne
    rw [if_neg (by rw [e1]; decide), decide_eq_false hc]
    show (if ((PySem.W.clsIn K C).isSome && PySem.W.typeIn K (.ref C) == some (.type "type")) = true then PySem.W.subIn K (.ref D) (.ref C) else none) = some false
    rw [if_pos e2]
    exact h4
theorem all_mk {l : PySem.W.OpenLaw} {w : World} {K : PySem.W.Frag} {h : Heap} {mg : Str → Option Value} {fa : Addr} (X : K.In h) (G : h.Ns mainGlobals mg) (hfa : mg "law" = some (.ref fa))
    {C so xbank xval xday xmis xref xful xnota xdam f_is_day f_check_currency f_init f_entries f_account f_entry f_add f_open_account f_currency_of f_sort_of f_lines_of f_check_head f_check_lines f_balance f_sums f_post f_reverse f_w_numbers f_w_kinds f_w_currencies f_w_accounts f_w_units f_w_group f_w_lines f_w_entry f_w_spoilt f_w_deed f_w_ledger f_w_day f_w_sums_right f_w_entries_right f_w_right f_law : Addr} {tg0 tg1 tg2 tg3 ts0 ts1 ts2 ts3 ts4 : Tok} {ns0 : Nat}
    {od_is_day an_is_day od_check_currency an_check_currency od_init an_init od_entries an_entries od_account an_account od_entry an_entry od_add an_add od_open_account an_open_account od_currency_of an_currency_of od_sort_of an_sort_of od_lines_of an_lines_of od_check_head an_check_head od_check_lines an_check_lines od_balance an_balance od_sums an_sums od_post an_post od_reverse an_reverse od_w_numbers an_w_numbers od_w_kinds an_w_kinds od_w_currencies an_w_currencies od_w_accounts an_w_accounts od_w_units an_w_units od_w_group an_w_group od_w_lines an_w_lines od_w_entry an_w_entry od_w_spoilt an_w_spoilt od_w_deed an_w_deed od_w_ledger an_w_ledger od_w_day an_w_day od_w_sums_right an_w_sums_right od_w_entries_right an_w_entries_right od_w_right an_w_right od_law an_law : Option Addr}
    {sl0 sl_is_day sl_check_currency sl_init sl_entries sl_account sl_entry sl_add sl_open_account sl_currency_of sl_sort_of sl_lines_of sl_check_head sl_check_lines sl_balance sl_sums sl_post sl_reverse sl_w_numbers sl_w_kinds sl_w_currencies sl_w_accounts sl_w_units sl_w_group sl_w_lines sl_w_entry sl_w_spoilt sl_w_deed sl_w_ledger sl_w_day sl_w_sums_right sl_w_entries_right sl_w_right sl_law : Array (Option Value)}
    {oc_is_day kv_is_day dc_is_day pm_is_day cd_is_day ct_is_day oc_check_currency kv_check_currency dc_check_currency pm_check_currency cd_check_currency ct_check_currency oc_init kv_init dc_init pm_init cd_init ct_init oc_entries kv_entries dc_entries pm_entries cd_entries ct_entries oc_account kv_account dc_account pm_account cd_account ct_account oc_entry kv_entry dc_entry pm_entry cd_entry ct_entry oc_add kv_add dc_add pm_add cd_add ct_add oc_open_account kv_open_account dc_open_account pm_open_account cd_open_account ct_open_account oc_currency_of kv_currency_of dc_currency_of pm_currency_of cd_currency_of ct_currency_of oc_sort_of kv_sort_of dc_sort_of pm_sort_of cd_sort_of ct_sort_of oc_lines_of kv_lines_of dc_lines_of pm_lines_of cd_lines_of ct_lines_of oc_check_head kv_check_head dc_check_head pm_check_head cd_check_head ct_check_head oc_check_lines kv_check_lines dc_check_lines pm_check_lines cd_check_lines ct_check_lines oc_balance kv_balance dc_balance pm_balance cd_balance ct_balance oc_sums kv_sums dc_sums pm_sums cd_sums ct_sums oc_post kv_post dc_post pm_post cd_post ct_post oc_reverse kv_reverse dc_reverse pm_reverse cd_reverse ct_reverse oc_w_numbers kv_w_numbers dc_w_numbers pm_w_numbers cd_w_numbers ct_w_numbers oc_w_kinds kv_w_kinds dc_w_kinds pm_w_kinds cd_w_kinds ct_w_kinds oc_w_currencies kv_w_currencies dc_w_currencies pm_w_currencies cd_w_currencies ct_w_currencies oc_w_accounts kv_w_accounts dc_w_accounts pm_w_accounts cd_w_accounts ct_w_accounts oc_w_units kv_w_units dc_w_units pm_w_units cd_w_units ct_w_units oc_w_group kv_w_group dc_w_group pm_w_group cd_w_group ct_w_group oc_w_lines kv_w_lines dc_w_lines pm_w_lines cd_w_lines ct_w_lines oc_w_entry kv_w_entry dc_w_entry pm_w_entry cd_w_entry ct_w_entry oc_w_spoilt kv_w_spoilt dc_w_spoilt pm_w_spoilt cd_w_spoilt ct_w_spoilt oc_w_deed kv_w_deed dc_w_deed pm_w_deed cd_w_deed ct_w_deed oc_w_ledger kv_w_ledger dc_w_ledger pm_w_ledger cd_w_ledger ct_w_ledger oc_w_day kv_w_day dc_w_day pm_w_day cd_w_day ct_w_day oc_w_sums_right kv_w_sums_right dc_w_sums_right pm_w_sums_right cd_w_sums_right ct_w_sums_right oc_w_entries_right kv_w_entries_right dc_w_entries_right pm_w_entries_right cd_w_entries_right ct_w_entries_right oc_w_right kv_w_right dc_w_right pm_w_right cd_w_right ct_w_right oc_law kv_law dc_law pm_law cd_law ct_law : Value}
    (aC : PySem.W.nsIn K mainGlobals "Ledger" = some (some (.ref C)))
    (pg : PySem.W.plainGet K C Str.empty = true)
    (hd : PySem.W.hasDictIn K C = true)
    (po : PySem.W.plainOver K C = true)
    (sa : PySem.W.findIn K (.ref C) "__setattr__" = some (some (.builtin "object.__setattr__")))
    (mk : PySem.W.makesIn K C = true)
    (kc : PySem.W.keepIn K (.ref C) = true)
    (nA1 : PySem.W.findIn K (.ref C) "_accounts" = some none)
    (nA2 : PySem.W.findIn K (.ref C) "_lines" = some none)
    (nA3 : PySem.W.findIn K (.ref C) "_entries" = some none)
    (nA4 : PySem.W.findIn K (.ref C) "_reversed" = some none)
    (z_len : PySem.W.nsIn K mainGlobals "len" = some none)
    (z_range : PySem.W.nsIn K mainGlobals "range" = some none)
    (z_int : PySem.W.nsIn K mainGlobals "int" = some none)
    (z_list : PySem.W.nsIn K mainGlobals "list" = some none)
    (z_tuple : PySem.W.nsIn K mainGlobals "tuple" = some none)
    (z_sum : PySem.W.nsIn K mainGlobals "sum" = some none)
    (z_min : PySem.W.nsIn K mainGlobals "min" = some none)
    (z_max : PySem.W.nsIn K mainGlobals "max" = some none)
    (z_isinstance : PySem.W.nsIn K mainGlobals "isinstance" = some none)
    (g_LAST_DAY : PySem.W.nsIn K mainGlobals "LAST_DAY" = some (some (.int 36524 tg0)))
    (g_MOST_ACCOUNTS : PySem.W.nsIn K mainGlobals "MOST_ACCOUNTS" = some (some (.int 200 tg1)))
    (g_MOST_ENTRIES : PySem.W.nsIn K mainGlobals "MOST_ENTRIES" = some (some (.int 2000 tg2)))
    (g_GREATEST_UNITS : PySem.W.nsIn K mainGlobals "GREATEST_UNITS" = some (some (.int 1000000000 tg3)))
    (g_SORTS : PySem.W.nsIn K mainGlobals "SORTS" = some (some (.ref so)))
    (lS : K.lookup so = some ⟨.type "tuple", none, .seq #[.str "asset" ts0, .str "debt" ts1, .str "equity" ts2, .str "income" ts3, .str "cost" ts4] ns0, sl0⟩)
    (gc : PySem.W.specialIn K (.builtin "object.__class__") "__get__" = some (some (.builtin "getset_descriptor.__get__")))
    (tc : PySem.W.takesIn K (.builtin "object.__class__") = some true)
    (e_val : PySem.W.nsIn K mainGlobals "BadValue" = some (some (.ref xval)))
    (e_day : PySem.W.nsIn K mainGlobals "BadDay" = some (some (.ref xday)))
    (e_mis : PySem.W.nsIn K mainGlobals "Missing" = some (some (.ref xmis)))
    (e_ref : PySem.W.nsIn K mainGlobals "Refused" = some (some (.ref xref)))
    (e_ful : PySem.W.nsIn K mainGlobals "Full" = some (some (.ref xful)))
    (e_nota : PySem.W.nsIn K mainGlobals "NotAllowed" = some (some (.ref xnota)))
    (e_dam : PySem.W.nsIn K mainGlobals "Damaged" = some (some (.ref xdam)))
    (e_bank : PySem.W.nsIn K mainGlobals "BankError" = some (some (.ref xbank)))
    (xx_val : PySem.W.excIn K xval [.type "ValueError", .type "Exception", .type "BaseException", .type "object"] "ValueError.__new__" = true)
    (xk_val : PySem.W.keepIn K (.ref xval) = true)
    (xg_val : PySem.W.findIn K (.ref xval) "__getattribute__" = some (some (.builtin "BaseException.__getattribute__")))
    (xn_val : PySem.W.findIn K (.ref xval) "__getattr__" = some none)
    (xc_val : PySem.W.findIn K (.ref xval) "__class__" = some (some (.builtin "object.__class__")))
    (xm_val : PySem.W.mroIn K xval (.type "object") = some true)
    (xs_val : PySem.W.subIn K (.ref xval) (.ref xbank) = some true)
    (xx_day : PySem.W.excIn K xday [.type "ValueError", .type "Exception", .type "BaseException", .type "object"] "ValueError.__new__" = true)
    (xk_day : PySem.W.keepIn K (.ref xday) = true)
    (xg_day : PySem.W.findIn K (.ref xday) "__getattribute__" = some (some (.builtin "BaseException.__getattribute__")))
    (xn_day : PySem.W.findIn K (.ref xday) "__getattr__" = some none)
    (xc_day : PySem.W.findIn K (.ref xday) "__class__" = some (some (.builtin "object.__class__")))
    (xm_day : PySem.W.mroIn K xday (.type "object") = some true)
    (xs_day : PySem.W.subIn K (.ref xday) (.ref xbank) = some true)
    (xx_mis : PySem.W.excIn K xmis [.type "ValueError", .type "Exception", .type "BaseException", .type "object"] "ValueError.__new__" = true)
    (xk_mis : PySem.W.keepIn K (.ref xmis) = true)
    (xg_mis : PySem.W.findIn K (.ref xmis) "__getattribute__" = some (some (.builtin "BaseException.__getattribute__")))
    (xn_mis : PySem.W.findIn K (.ref xmis) "__getattr__" = some none)
    (xc_mis : PySem.W.findIn K (.ref xmis) "__class__" = some (some (.builtin "object.__class__")))
    (xm_mis : PySem.W.mroIn K xmis (.type "object") = some true)
    (xs_mis : PySem.W.subIn K (.ref xmis) (.ref xbank) = some true)
    (xx_ref : PySem.W.excIn K xref [.type "ValueError", .type "Exception", .type "BaseException", .type "object"] "ValueError.__new__" = true)
    (xk_ref : PySem.W.keepIn K (.ref xref) = true)
    (xg_ref : PySem.W.findIn K (.ref xref) "__getattribute__" = some (some (.builtin "BaseException.__getattribute__")))
    (xn_ref : PySem.W.findIn K (.ref xref) "__getattr__" = some none)
    (xc_ref : PySem.W.findIn K (.ref xref) "__class__" = some (some (.builtin "object.__class__")))
    (xm_ref : PySem.W.mroIn K xref (.type "object") = some true)
    (xs_ref : PySem.W.subIn K (.ref xref) (.ref xbank) = some true)
    (xx_ful : PySem.W.excIn K xful [.type "ValueError", .type "Exception", .type "BaseException", .type "object"] "ValueError.__new__" = true)
    (xk_ful : PySem.W.keepIn K (.ref xful) = true)
    (xg_ful : PySem.W.findIn K (.ref xful) "__getattribute__" = some (some (.builtin "BaseException.__getattribute__")))
    (xn_ful : PySem.W.findIn K (.ref xful) "__getattr__" = some none)
    (xc_ful : PySem.W.findIn K (.ref xful) "__class__" = some (some (.builtin "object.__class__")))
    (xm_ful : PySem.W.mroIn K xful (.type "object") = some true)
    (xs_ful : PySem.W.subIn K (.ref xful) (.ref xbank) = some true)
    (xb_val : PySem.W.subIn K (.ref xval) (.type "BaseException") = some true)
    (xb_day : PySem.W.subIn K (.ref xday) (.type "BaseException") = some true)
    (xb_mis : PySem.W.subIn K (.ref xmis) (.type "BaseException") = some true)
    (xb_ref : PySem.W.subIn K (.ref xref) (.type "BaseException") = some true)
    (xb_ful : PySem.W.subIn K (.ref xful) (.type "BaseException") = some true)
    (xb_bank : PySem.W.subIn K (.ref xbank) (.type "BaseException") = some true)
    (xt_val : PySem.W.typeIn K (.ref xval) = some (.type "type"))
    (xd_val : PySem.W.hasDictIn K xval = true)
    (xt_day : PySem.W.typeIn K (.ref xday) = some (.type "type"))
    (xd_day : PySem.W.hasDictIn K xday = true)
    (xt_mis : PySem.W.typeIn K (.ref xmis) = some (.type "type"))
    (xd_mis : PySem.W.hasDictIn K xmis = true)
    (xt_ref : PySem.W.typeIn K (.ref xref) = some (.type "type"))
    (xd_ref : PySem.W.hasDictIn K xref = true)
    (xt_ful : PySem.W.typeIn K (.ref xful) = some (.type "type"))
    (xd_ful : PySem.W.hasDictIn K xful = true)
    (xt_nota : PySem.W.typeIn K (.ref xnota) = some (.type "type"))
    (xd_nota : PySem.W.hasDictIn K xnota = true)
    (xt_dam : PySem.W.typeIn K (.ref xdam) = some (.type "type"))
    (xd_dam : PySem.W.hasDictIn K xdam = true)
    (xt_bank : PySem.W.typeIn K (.ref xbank) = some (.type "type"))
    (xd_bank : PySem.W.hasDictIn K xbank = true)
    (s_val_day : PySem.W.subIn K (.ref xval) (.ref xday) = some false)
    (s_val_mis : PySem.W.subIn K (.ref xval) (.ref xmis) = some false)
    (s_val_ref : PySem.W.subIn K (.ref xval) (.ref xref) = some false)
    (s_val_ful : PySem.W.subIn K (.ref xval) (.ref xful) = some false)
    (s_val_nota : PySem.W.subIn K (.ref xval) (.ref xnota) = some false)
    (s_val_dam : PySem.W.subIn K (.ref xval) (.ref xdam) = some false)
    (s_day_val : PySem.W.subIn K (.ref xday) (.ref xval) = some false)
    (s_day_mis : PySem.W.subIn K (.ref xday) (.ref xmis) = some false)
    (s_day_ref : PySem.W.subIn K (.ref xday) (.ref xref) = some false)
    (s_day_ful : PySem.W.subIn K (.ref xday) (.ref xful) = some false)
    (s_day_nota : PySem.W.subIn K (.ref xday) (.ref xnota) = some false)
    (s_day_dam : PySem.W.subIn K (.ref xday) (.ref xdam) = some false)
    (s_mis_val : PySem.W.subIn K (.ref xmis) (.ref xval) = some false)
    (s_mis_day : PySem.W.subIn K (.ref xmis) (.ref xday) = some false)
    (s_mis_ref : PySem.W.subIn K (.ref xmis) (.ref xref) = some false)
    (s_mis_ful : PySem.W.subIn K (.ref xmis) (.ref xful) = some false)
    (s_mis_nota : PySem.W.subIn K (.ref xmis) (.ref xnota) = some false)
    (s_mis_dam : PySem.W.subIn K (.ref xmis) (.ref xdam) = some false)
    (s_ref_val : PySem.W.subIn K (.ref xref) (.ref xval) = some false)
    (s_ref_day : PySem.W.subIn K (.ref xref) (.ref xday) = some false)
    (s_ref_mis : PySem.W.subIn K (.ref xref) (.ref xmis) = some false)
    (s_ref_ful : PySem.W.subIn K (.ref xref) (.ref xful) = some false)
    (s_ref_nota : PySem.W.subIn K (.ref xref) (.ref xnota) = some false)
    (s_ref_dam : PySem.W.subIn K (.ref xref) (.ref xdam) = some false)
    (s_ful_val : PySem.W.subIn K (.ref xful) (.ref xval) = some false)
    (s_ful_day : PySem.W.subIn K (.ref xful) (.ref xday) = some false)
    (s_ful_mis : PySem.W.subIn K (.ref xful) (.ref xmis) = some false)
    (s_ful_ref : PySem.W.subIn K (.ref xful) (.ref xref) = some false)
    (s_ful_nota : PySem.W.subIn K (.ref xful) (.ref xnota) = some false)
    (s_ful_dam : PySem.W.subIn K (.ref xful) (.ref xdam) = some false)
    (a_is_day : PySem.W.nsIn K mainGlobals "is_day" = some (some (.ref f_is_day)))
    (l_is_day : K.lookup f_is_day = some ⟨oc_is_day, od_is_day, .func (PySem.W.fnOf "is_day" "is_day" (defArgs s_is_day) (defBody s_is_day) (defScope s_is_day) .none kv_is_day dc_is_day pm_is_day an_is_day cd_is_day ct_is_day), sl_is_day⟩)
    (c_is_day : PySem.W.codeIn K cd_is_day "is_day" = true)
    (k_is_day : PySem.W.keepIn K (.ref f_is_day) = true)
    (a_check_currency : PySem.W.nsIn K mainGlobals "check_currency" = some (some (.ref f_check_currency)))
    (l_check_currency : K.lookup f_check_currency = some ⟨oc_check_currency, od_check_currency, .func (PySem.W.fnOf "check_currency" "check_currency" (defArgs s_check_currency) (defBody s_check_currency) (defScope s_check_currency) .none kv_check_currency dc_check_currency pm_check_currency an_check_currency cd_check_currency ct_check_currency), sl_check_currency⟩)
    (c_check_currency : PySem.W.codeIn K cd_check_currency "check_currency" = true)
    (k_check_currency : PySem.W.keepIn K (.ref f_check_currency) = true)
    (a_init : PySem.W.findIn K (.ref C) "__init__" = some (some (.ref f_init)))
    (i_init : PySem.W.isFn K (.ref f_init) = true)
    (l_init : K.lookup f_init = some ⟨oc_init, od_init, .func (PySem.W.fnOf "__init__" "Ledger.__init__" (defArgs s_init) (defBody s_init) (defScope s_init) .none kv_init dc_init pm_init an_init cd_init ct_init), sl_init⟩)
    (c_init : PySem.W.codeIn K cd_init "Ledger.__init__" = true)
    (k_init : PySem.W.keepIn K (.ref f_init) = true)
    (a_entries : PySem.W.findIn K (.ref C) "entries" = some (some (.ref f_entries)))
    (i_entries : PySem.W.isFn K (.ref f_entries) = true)
    (l_entries : K.lookup f_entries = some ⟨oc_entries, od_entries, .func (PySem.W.fnOf "entries" "Ledger.entries" (defArgs s_entries) (defBody s_entries) (defScope s_entries) .none kv_entries dc_entries pm_entries an_entries cd_entries ct_entries), sl_entries⟩)
    (c_entries : PySem.W.codeIn K cd_entries "Ledger.entries" = true)
    (k_entries : PySem.W.keepIn K (.ref f_entries) = true)
    (a_account : PySem.W.findIn K (.ref C) "_account" = some (some (.ref f_account)))
    (i_account : PySem.W.isFn K (.ref f_account) = true)
    (l_account : K.lookup f_account = some ⟨oc_account, od_account, .func (PySem.W.fnOf "_account" "Ledger._account" (defArgs s_account) (defBody s_account) (defScope s_account) .none kv_account dc_account pm_account an_account cd_account ct_account), sl_account⟩)
    (c_account : PySem.W.codeIn K cd_account "Ledger._account" = true)
    (k_account : PySem.W.keepIn K (.ref f_account) = true)
    (a_entry : PySem.W.findIn K (.ref C) "entry" = some (some (.ref f_entry)))
    (i_entry : PySem.W.isFn K (.ref f_entry) = true)
    (l_entry : K.lookup f_entry = some ⟨oc_entry, od_entry, .func (PySem.W.fnOf "entry" "Ledger.entry" (defArgs s_entry) (defBody s_entry) (defScope s_entry) .none kv_entry dc_entry pm_entry an_entry cd_entry ct_entry), sl_entry⟩)
    (c_entry : PySem.W.codeIn K cd_entry "Ledger.entry" = true)
    (k_entry : PySem.W.keepIn K (.ref f_entry) = true)
    (a_add : PySem.W.findIn K (.ref C) "_add" = some (some (.ref f_add)))
    (i_add : PySem.W.isFn K (.ref f_add) = true)
    (l_add : K.lookup f_add = some ⟨oc_add, od_add, .func (PySem.W.fnOf "_add" "Ledger._add" (defArgs s_add) (defBody s_add) (defScope s_add) .none kv_add dc_add pm_add an_add cd_add ct_add), sl_add⟩)
    (c_add : PySem.W.codeIn K cd_add "Ledger._add" = true)
    (k_add : PySem.W.keepIn K (.ref f_add) = true)
    (a_open_account : PySem.W.findIn K (.ref C) "open_account" = some (some (.ref f_open_account)))
    (i_open_account : PySem.W.isFn K (.ref f_open_account) = true)
    (l_open_account : K.lookup f_open_account = some ⟨oc_open_account, od_open_account, .func (PySem.W.fnOf "open_account" "Ledger.open_account" (defArgs s_open_account) (defBody s_open_account) (defScope s_open_account) .none kv_open_account dc_open_account pm_open_account an_open_account cd_open_account ct_open_account), sl_open_account⟩)
    (c_open_account : PySem.W.codeIn K cd_open_account "Ledger.open_account" = true)
    (k_open_account : PySem.W.keepIn K (.ref f_open_account) = true)
    (a_currency_of : PySem.W.findIn K (.ref C) "currency_of" = some (some (.ref f_currency_of)))
    (i_currency_of : PySem.W.isFn K (.ref f_currency_of) = true)
    (l_currency_of : K.lookup f_currency_of = some ⟨oc_currency_of, od_currency_of, .func (PySem.W.fnOf "currency_of" "Ledger.currency_of" (defArgs s_currency_of) (defBody s_currency_of) (defScope s_currency_of) .none kv_currency_of dc_currency_of pm_currency_of an_currency_of cd_currency_of ct_currency_of), sl_currency_of⟩)
    (c_currency_of : PySem.W.codeIn K cd_currency_of "Ledger.currency_of" = true)
    (k_currency_of : PySem.W.keepIn K (.ref f_currency_of) = true)
    (a_sort_of : PySem.W.findIn K (.ref C) "sort_of" = some (some (.ref f_sort_of)))
    (i_sort_of : PySem.W.isFn K (.ref f_sort_of) = true)
    (l_sort_of : K.lookup f_sort_of = some ⟨oc_sort_of, od_sort_of, .func (PySem.W.fnOf "sort_of" "Ledger.sort_of" (defArgs s_sort_of) (defBody s_sort_of) (defScope s_sort_of) .none kv_sort_of dc_sort_of pm_sort_of an_sort_of cd_sort_of ct_sort_of), sl_sort_of⟩)
    (c_sort_of : PySem.W.codeIn K cd_sort_of "Ledger.sort_of" = true)
    (k_sort_of : PySem.W.keepIn K (.ref f_sort_of) = true)
    (a_lines_of : PySem.W.findIn K (.ref C) "lines_of" = some (some (.ref f_lines_of)))
    (i_lines_of : PySem.W.isFn K (.ref f_lines_of) = true)
    (l_lines_of : K.lookup f_lines_of = some ⟨oc_lines_of, od_lines_of, .func (PySem.W.fnOf "lines_of" "Ledger.lines_of" (defArgs s_lines_of) (defBody s_lines_of) (defScope s_lines_of) .none kv_lines_of dc_lines_of pm_lines_of an_lines_of cd_lines_of ct_lines_of), sl_lines_of⟩)
    (c_lines_of : PySem.W.codeIn K cd_lines_of "Ledger.lines_of" = true)
    (k_lines_of : PySem.W.keepIn K (.ref f_lines_of) = true)
    (a_check_head : PySem.W.findIn K (.ref C) "_check_head" = some (some (.ref f_check_head)))
    (i_check_head : PySem.W.isFn K (.ref f_check_head) = true)
    (l_check_head : K.lookup f_check_head = some ⟨oc_check_head, od_check_head, .func (PySem.W.fnOf "_check_head" "Ledger._check_head" (defArgs s_check_head) (defBody s_check_head) (defScope s_check_head) .none kv_check_head dc_check_head pm_check_head an_check_head cd_check_head ct_check_head), sl_check_head⟩)
    (c_check_head : PySem.W.codeIn K cd_check_head "Ledger._check_head" = true)
    (k_check_head : PySem.W.keepIn K (.ref f_check_head) = true)
    (a_check_lines : PySem.W.findIn K (.ref C) "_check_lines" = some (some (.ref f_check_lines)))
    (i_check_lines : PySem.W.isFn K (.ref f_check_lines) = true)
    (l_check_lines : K.lookup f_check_lines = some ⟨oc_check_lines, od_check_lines, .func (PySem.W.fnOf "_check_lines" "Ledger._check_lines" (defArgs s_check_lines) (defBody s_check_lines) (defScope s_check_lines) .none kv_check_lines dc_check_lines pm_check_lines an_check_lines cd_check_lines ct_check_lines), sl_check_lines⟩)
    (c_check_lines : PySem.W.codeIn K cd_check_lines "Ledger._check_lines" = true)
    (k_check_lines : PySem.W.keepIn K (.ref f_check_lines) = true)
    (a_balance : PySem.W.findIn K (.ref C) "balance" = some (some (.ref f_balance)))
    (i_balance : PySem.W.isFn K (.ref f_balance) = true)
    (l_balance : K.lookup f_balance = some ⟨oc_balance, od_balance, .func (PySem.W.fnOf "balance" "Ledger.balance" (defArgs s_balance) (defBody s_balance) (defScope s_balance) .none kv_balance dc_balance pm_balance an_balance cd_balance ct_balance), sl_balance⟩)
    (c_balance : PySem.W.codeIn K cd_balance "Ledger.balance" = true)
    (k_balance : PySem.W.keepIn K (.ref f_balance) = true)
    (a_sums : PySem.W.findIn K (.ref C) "sums" = some (some (.ref f_sums)))
    (i_sums : PySem.W.isFn K (.ref f_sums) = true)
    (l_sums : K.lookup f_sums = some ⟨oc_sums, od_sums, .func (PySem.W.fnOf "sums" "Ledger.sums" (defArgs s_sums) (defBody s_sums) (defScope s_sums) .none kv_sums dc_sums pm_sums an_sums cd_sums ct_sums), sl_sums⟩)
    (c_sums : PySem.W.codeIn K cd_sums "Ledger.sums" = true)
    (k_sums : PySem.W.keepIn K (.ref f_sums) = true)
    (a_post : PySem.W.findIn K (.ref C) "post" = some (some (.ref f_post)))
    (i_post : PySem.W.isFn K (.ref f_post) = true)
    (l_post : K.lookup f_post = some ⟨oc_post, od_post, .func (PySem.W.fnOf "post" "Ledger.post" (defArgs s_post) (defBody s_post) (defScope s_post) .none kv_post dc_post pm_post an_post cd_post ct_post), sl_post⟩)
    (c_post : PySem.W.codeIn K cd_post "Ledger.post" = true)
    (k_post : PySem.W.keepIn K (.ref f_post) = true)
    (a_reverse : PySem.W.findIn K (.ref C) "reverse" = some (some (.ref f_reverse)))
    (i_reverse : PySem.W.isFn K (.ref f_reverse) = true)
    (l_reverse : K.lookup f_reverse = some ⟨oc_reverse, od_reverse, .func (PySem.W.fnOf "reverse" "Ledger.reverse" (defArgs s_reverse) (defBody s_reverse) (defScope s_reverse) .none kv_reverse dc_reverse pm_reverse an_reverse cd_reverse ct_reverse), sl_reverse⟩)
    (c_reverse : PySem.W.codeIn K cd_reverse "Ledger.reverse" = true)
    (k_reverse : PySem.W.keepIn K (.ref f_reverse) = true)
    (a_w_numbers : PySem.W.nsIn K mainGlobals "_law_numbers" = some (some (.ref f_w_numbers)))
    (l_w_numbers : K.lookup f_w_numbers = some ⟨oc_w_numbers, od_w_numbers, .func (PySem.W.fnOf "_law_numbers" "_law_numbers" (defArgs s_w_numbers) (defBody s_w_numbers) (defScope s_w_numbers) .none kv_w_numbers dc_w_numbers pm_w_numbers an_w_numbers cd_w_numbers ct_w_numbers), sl_w_numbers⟩)
    (c_w_numbers : PySem.W.codeIn K cd_w_numbers "_law_numbers" = true)
    (k_w_numbers : PySem.W.keepIn K (.ref f_w_numbers) = true)
    (a_w_kinds : PySem.W.nsIn K mainGlobals "_law_kinds" = some (some (.ref f_w_kinds)))
    (l_w_kinds : K.lookup f_w_kinds = some ⟨oc_w_kinds, od_w_kinds, .func (PySem.W.fnOf "_law_kinds" "_law_kinds" (defArgs s_w_kinds) (defBody s_w_kinds) (defScope s_w_kinds) .none kv_w_kinds dc_w_kinds pm_w_kinds an_w_kinds cd_w_kinds ct_w_kinds), sl_w_kinds⟩)
    (c_w_kinds : PySem.W.codeIn K cd_w_kinds "_law_kinds" = true)
    (k_w_kinds : PySem.W.keepIn K (.ref f_w_kinds) = true)
    (a_w_currencies : PySem.W.nsIn K mainGlobals "_law_currencies" = some (some (.ref f_w_currencies)))
    (l_w_currencies : K.lookup f_w_currencies = some ⟨oc_w_currencies, od_w_currencies, .func (PySem.W.fnOf "_law_currencies" "_law_currencies" (defArgs s_w_currencies) (defBody s_w_currencies) (defScope s_w_currencies) .none kv_w_currencies dc_w_currencies pm_w_currencies an_w_currencies cd_w_currencies ct_w_currencies), sl_w_currencies⟩)
    (c_w_currencies : PySem.W.codeIn K cd_w_currencies "_law_currencies" = true)
    (k_w_currencies : PySem.W.keepIn K (.ref f_w_currencies) = true)
    (a_w_accounts : PySem.W.nsIn K mainGlobals "_law_accounts" = some (some (.ref f_w_accounts)))
    (l_w_accounts : K.lookup f_w_accounts = some ⟨oc_w_accounts, od_w_accounts, .func (PySem.W.fnOf "_law_accounts" "_law_accounts" (defArgs s_w_accounts) (defBody s_w_accounts) (defScope s_w_accounts) .none kv_w_accounts dc_w_accounts pm_w_accounts an_w_accounts cd_w_accounts ct_w_accounts), sl_w_accounts⟩)
    (c_w_accounts : PySem.W.codeIn K cd_w_accounts "_law_accounts" = true)
    (k_w_accounts : PySem.W.keepIn K (.ref f_w_accounts) = true)
    (a_w_units : PySem.W.nsIn K mainGlobals "_law_units" = some (some (.ref f_w_units)))
    (l_w_units : K.lookup f_w_units = some ⟨oc_w_units, od_w_units, .func (PySem.W.fnOf "_law_units" "_law_units" (defArgs s_w_units) (defBody s_w_units) (defScope s_w_units) .none kv_w_units dc_w_units pm_w_units an_w_units cd_w_units ct_w_units), sl_w_units⟩)
    (c_w_units : PySem.W.codeIn K cd_w_units "_law_units" = true)
    (k_w_units : PySem.W.keepIn K (.ref f_w_units) = true)
    (a_w_group : PySem.W.nsIn K mainGlobals "_law_group" = some (some (.ref f_w_group)))
    (l_w_group : K.lookup f_w_group = some ⟨oc_w_group, od_w_group, .func (PySem.W.fnOf "_law_group" "_law_group" (defArgs s_w_group) (defBody s_w_group) (defScope s_w_group) .none kv_w_group dc_w_group pm_w_group an_w_group cd_w_group ct_w_group), sl_w_group⟩)
    (c_w_group : PySem.W.codeIn K cd_w_group "_law_group" = true)
    (k_w_group : PySem.W.keepIn K (.ref f_w_group) = true)
    (a_w_lines : PySem.W.nsIn K mainGlobals "_law_lines" = some (some (.ref f_w_lines)))
    (l_w_lines : K.lookup f_w_lines = some ⟨oc_w_lines, od_w_lines, .func (PySem.W.fnOf "_law_lines" "_law_lines" (defArgs s_w_lines) (defBody s_w_lines) (defScope s_w_lines) .none kv_w_lines dc_w_lines pm_w_lines an_w_lines cd_w_lines ct_w_lines), sl_w_lines⟩)
    (c_w_lines : PySem.W.codeIn K cd_w_lines "_law_lines" = true)
    (k_w_lines : PySem.W.keepIn K (.ref f_w_lines) = true)
    (a_w_entry : PySem.W.nsIn K mainGlobals "_law_entry" = some (some (.ref f_w_entry)))
    (l_w_entry : K.lookup f_w_entry = some ⟨oc_w_entry, od_w_entry, .func (PySem.W.fnOf "_law_entry" "_law_entry" (defArgs s_w_entry) (defBody s_w_entry) (defScope s_w_entry) .none kv_w_entry dc_w_entry pm_w_entry an_w_entry cd_w_entry ct_w_entry), sl_w_entry⟩)
    (c_w_entry : PySem.W.codeIn K cd_w_entry "_law_entry" = true)
    (k_w_entry : PySem.W.keepIn K (.ref f_w_entry) = true)
    (a_w_spoilt : PySem.W.nsIn K mainGlobals "_law_spoilt" = some (some (.ref f_w_spoilt)))
    (l_w_spoilt : K.lookup f_w_spoilt = some ⟨oc_w_spoilt, od_w_spoilt, .func (PySem.W.fnOf "_law_spoilt" "_law_spoilt" (defArgs s_w_spoilt) (defBody s_w_spoilt) (defScope s_w_spoilt) .none kv_w_spoilt dc_w_spoilt pm_w_spoilt an_w_spoilt cd_w_spoilt ct_w_spoilt), sl_w_spoilt⟩)
    (c_w_spoilt : PySem.W.codeIn K cd_w_spoilt "_law_spoilt" = true)
    (k_w_spoilt : PySem.W.keepIn K (.ref f_w_spoilt) = true)
    (a_w_deed : PySem.W.nsIn K mainGlobals "_law_deed" = some (some (.ref f_w_deed)))
    (l_w_deed : K.lookup f_w_deed = some ⟨oc_w_deed, od_w_deed, .func (PySem.W.fnOf "_law_deed" "_law_deed" (defArgs s_w_deed) (defBody s_w_deed) (defScope s_w_deed) .none kv_w_deed dc_w_deed pm_w_deed an_w_deed cd_w_deed ct_w_deed), sl_w_deed⟩)
    (c_w_deed : PySem.W.codeIn K cd_w_deed "_law_deed" = true)
    (k_w_deed : PySem.W.keepIn K (.ref f_w_deed) = true)
    (a_w_ledger : PySem.W.nsIn K mainGlobals "_law_ledger" = some (some (.ref f_w_ledger)))
    (l_w_ledger : K.lookup f_w_ledger = some ⟨oc_w_ledger, od_w_ledger, .func (PySem.W.fnOf "_law_ledger" "_law_ledger" (defArgs s_w_ledger) (defBody s_w_ledger) (defScope s_w_ledger) .none kv_w_ledger dc_w_ledger pm_w_ledger an_w_ledger cd_w_ledger ct_w_ledger), sl_w_ledger⟩)
    (c_w_ledger : PySem.W.codeIn K cd_w_ledger "_law_ledger" = true)
    (k_w_ledger : PySem.W.keepIn K (.ref f_w_ledger) = true)
    (a_w_day : PySem.W.nsIn K mainGlobals "_law_day" = some (some (.ref f_w_day)))
    (l_w_day : K.lookup f_w_day = some ⟨oc_w_day, od_w_day, .func (PySem.W.fnOf "_law_day" "_law_day" (defArgs s_w_day) (defBody s_w_day) (defScope s_w_day) .none kv_w_day dc_w_day pm_w_day an_w_day cd_w_day ct_w_day), sl_w_day⟩)
    (c_w_day : PySem.W.codeIn K cd_w_day "_law_day" = true)
    (k_w_day : PySem.W.keepIn K (.ref f_w_day) = true)
    (a_w_sums_right : PySem.W.nsIn K mainGlobals "_law_sums_right" = some (some (.ref f_w_sums_right)))
    (l_w_sums_right : K.lookup f_w_sums_right = some ⟨oc_w_sums_right, od_w_sums_right, .func (PySem.W.fnOf "_law_sums_right" "_law_sums_right" (defArgs s_w_sums_right) (defBody s_w_sums_right) (defScope s_w_sums_right) .none kv_w_sums_right dc_w_sums_right pm_w_sums_right an_w_sums_right cd_w_sums_right ct_w_sums_right), sl_w_sums_right⟩)
    (c_w_sums_right : PySem.W.codeIn K cd_w_sums_right "_law_sums_right" = true)
    (k_w_sums_right : PySem.W.keepIn K (.ref f_w_sums_right) = true)
    (a_w_entries_right : PySem.W.nsIn K mainGlobals "_law_entries_right" = some (some (.ref f_w_entries_right)))
    (l_w_entries_right : K.lookup f_w_entries_right = some ⟨oc_w_entries_right, od_w_entries_right, .func (PySem.W.fnOf "_law_entries_right" "_law_entries_right" (defArgs s_w_entries_right) (defBody s_w_entries_right) (defScope s_w_entries_right) .none kv_w_entries_right dc_w_entries_right pm_w_entries_right an_w_entries_right cd_w_entries_right ct_w_entries_right), sl_w_entries_right⟩)
    (c_w_entries_right : PySem.W.codeIn K cd_w_entries_right "_law_entries_right" = true)
    (k_w_entries_right : PySem.W.keepIn K (.ref f_w_entries_right) = true)
    (a_w_right : PySem.W.nsIn K mainGlobals "_law_right" = some (some (.ref f_w_right)))
    (l_w_right : K.lookup f_w_right = some ⟨oc_w_right, od_w_right, .func (PySem.W.fnOf "_law_right" "_law_right" (defArgs s_w_right) (defBody s_w_right) (defScope s_w_right) .none kv_w_right dc_w_right pm_w_right an_w_right cd_w_right ct_w_right), sl_w_right⟩)
    (c_w_right : PySem.W.codeIn K cd_w_right "_law_right" = true)
    (k_w_right : PySem.W.keepIn K (.ref f_w_right) = true)
    (a_law : PySem.W.nsIn K mainGlobals "law" = some (some (.ref f_law)))
    (l_law : K.lookup f_law = some ⟨oc_law, od_law, .func (PySem.W.fnOf "law" "law" (defArgs s_law) (defBody s_law) (defScope s_law) .none kv_law dc_law pm_law an_law cd_law ct_law), sl_law⟩)
    (c_law : PySem.W.codeIn K cd_law "law" = true)
    (k_law : PySem.W.keepIn K (.ref f_law) = true)
    : ∃ fd : FuncData, (∀ (s : Shared) (v : Value), BindsTo s fd ⟨[v], []⟩ [("_law_script", v)]) ∧ ∀ base : Heap, K.In base → base.Ns mainGlobals mg → FnOk l.prog w K mg base (L2.CX l.prog w) 7 fa fd ["_law_script"] (spLaw K) := by
  have e := hfa.symm.trans (PySem.W.mg_of X G a_law)
  cases e
  obtain ⟨Z, hZ⟩ : ∃ Z : Ads, Z = ⟨C, xbank, xval, xday, xmis, xref, xful, xnota, xdam, so⟩ := ⟨_, rfl⟩
  have T : Txt K mg Z := by
    subst hZ
    refine {
      cl := ⟨pg, hd, po, sa⟩
      mgL := PySem.W.mg_of X G aC
      a1 := nA1
      a2 := nA2
      a3 := nA3
      a4 := nA4
      n_len := PySem.W.mg_none_of X G z_len
      n_range := PySem.W.mg_none_of X G z_range
      n_int := PySem.W.mg_none_of X G z_int
      n_list := PySem.W.mg_none_of X G z_list
      n_tuple := PySem.W.mg_none_of X G z_tuple
      n_sum := PySem.W.mg_none_of X G z_sum
      n_min := PySem.W.mg_none_of X G z_min
      n_max := PySem.W.mg_none_of X G z_max
      n_isinstance := PySem.W.mg_none_of X G z_isinstance
      g_LAST_DAY := ⟨_, PySem.W.mg_of X G g_LAST_DAY, ⟨_, rfl⟩⟩
      g_MOST_ACCOUNTS := ⟨_, PySem.W.mg_of X G g_MOST_ACCOUNTS, ⟨_, rfl⟩⟩
      g_MOST_ENTRIES := ⟨_, PySem.W.mg_of X G g_MOST_ENTRIES, ⟨_, rfl⟩⟩
      g_GREATEST_UNITS := ⟨_, PySem.W.mg_of X G g_GREATEST_UNITS, ⟨_, rfl⟩⟩
      g_SORTS := ⟨_, PySem.W.mg_of X G g_SORTS, rfl⟩
      sO := ⟨_, _, _, lS, rfl, rfl, rfl, (by show 5 ≤ sizeLine; decide), .cons ⟨_, rfl⟩ (.cons ⟨_, rfl⟩ (.cons ⟨_, rfl⟩ (.cons ⟨_, rfl⟩ (.cons ⟨_, rfl⟩ .nil))))⟩
      g_Bank := PySem.W.mg_of X G e_bank
      BadValue := ⟨PySem.W.mg_of X G e_val, xx_val, xk_val, xb_val, xt_val⟩
      BadDay := ⟨PySem.W.mg_of X G e_day, xx_day, xk_day, xb_day, xt_day⟩
      Missing := ⟨PySem.W.mg_of X G e_mis, xx_mis, xk_mis, xb_mis, xt_mis⟩
      Refused := ⟨PySem.W.mg_of X G e_ref, xx_ref, xk_ref, xb_ref, xt_ref⟩
      Full := ⟨PySem.W.mg_of X G e_ful, xx_ful, xk_ful, xb_ful, xt_ful⟩
      NotAllowed := PySem.W.mg_of X G e_nota
      Damaged := PySem.W.mg_of X G e_dam
      exm := ?_
      excC := ?_
      kit := ?_ }
    · intro D hD
      simp only [Ads.five, List.mem_cons, List.not_mem_nil, or_false] at hD
      rcases hD with rfl | rfl | rfl | rfl | rfl
      · exact PySem.W.exm_ref xb_bank xd_bank xt_bank xs_val
      · exact PySem.W.exm_ref xb_bank xd_bank xt_bank xs_day
      · exact PySem.W.exm_ref xb_bank xd_bank xt_bank xs_mis
      · exact PySem.W.exm_ref xb_bank xd_bank xt_bank xs_ref
      · exact PySem.W.exm_ref xb_bank xd_bank xt_bank xs_ful
    · intro D hD
      simp only [Ads.five, List.mem_cons, List.not_mem_nil, or_false] at hD
      rcases hD with rfl | rfl | rfl | rfl | rfl
      · exact ⟨xg_val, xn_val, xb_val, xd_val, xc_val, gc, tc, xm_val⟩
      · exact ⟨xg_day, xn_day, xb_day, xd_day, xc_day, gc, tc, xm_day⟩
      · exact ⟨xg_mis, xn_mis, xb_mis, xd_mis, xc_mis, gc, tc, xm_mis⟩
      · exact ⟨xg_ref, xn_ref, xb_ref, xd_ref, xc_ref, gc, tc, xm_ref⟩
      · exact ⟨xg_ful, xn_ful, xb_ful, xd_ful, xc_ful, gc, tc, xm_ful⟩
    · have key : ∀ D ∈ [xval, xday, xmis, xref, xful], ∀ C ∈ [xval, xday, xmis, xref, xful, xnota, xdam], PySem.W.kitOne K (.ref D) (.ref C) = some (decide (D = C)) := by
        refine all_of (all_of kit_self (all_of (kit_other xd_day xt_day s_val_day) (all_of (kit_other xd_mis xt_mis s_val_mis) (all_of (kit_other xd_ref xt_ref s_val_ref) (all_of (kit_other xd_ful xt_ful s_val_ful) (all_of (kit_other xd_nota xt_nota s_val_nota) (all_of (kit_other xd_dam xt_dam s_val_dam) all_nil))))))) (all_of (all_of (kit_other xd_val xt_val s_day_val) (all_of kit_self (all_of (kit_other xd_mis xt_mis s_day_mis) (all_of (kit_other xd_ref xt_ref s_day_ref) (all_of (kit_other xd_ful xt_ful s_day_ful) (all_of (kit_other xd_nota xt_nota s_day_nota) (all_of (kit_other xd_dam xt_dam s_day_dam) all_nil))))))) (all_of (all_of (kit_other xd_val xt_val s_mis_val) (all_of (kit_other xd_day xt_day s_mis_day) (all_of kit_self (all_of (kit_other xd_ref xt_ref s_mis_ref) (all_of (kit_other xd_ful xt_ful s_mis_ful) (all_of (kit_other xd_nota xt_nota s_mis_nota) (all_of (kit_other xd_dam xt_dam s_mis_dam) all_nil))))))) (all_of (all_of (kit_other xd_val xt_val s_ref_val) (all_of (kit_other xd_day xt_day s_ref_day) (all_of (kit_other xd_mis xt_mis s_ref_mis) (all_of kit_self (all_of (kit_other xd_ful xt_ful s_ref_ful) (all_of (kit_other xd_nota xt_nota s_ref_nota) (all_of (kit_other xd_dam xt_dam s_ref_dam) all_nil))))))) (all_of (all_of (kit_other xd_val xt_val s_ful_val) (all_of (kit_other xd_day xt_day s_ful_day) (all_of (kit_other xd_mis xt_mis s_ful_mis) (all_of (kit_other xd_ref xt_ref s_ful_ref) (all_of kit_self (all_of (kit_other xd_nota xt_nota s_ful_nota) (all_of (kit_other xd_dam xt_dam s_ful_dam) all_nil))))))) all_nil))))
      exact key
  have F_is_day := fun_mk (st := s_is_day) l_is_day c_is_day k_is_day
  have b_is_day := F_is_day.binds (ps := ["number"]) fun _ _ _ _ _ _ us hl => match us, hl with | [_], _ => rfl
  have F_check_currency := fun_mk (st := s_check_currency) l_check_currency c_check_currency k_check_currency
  have b_check_currency := F_check_currency.binds (ps := ["currency"]) fun _ _ _ _ _ _ us hl => match us, hl with | [_], _ => rfl
  have F_init := fun_mk (st := s_init) l_init c_init k_init
  have b_init := F_init.binds (ps := ["self"]) fun _ _ _ _ _ _ us hl => match us, hl with | [_], _ => rfl
  have F_entries := fun_mk (st := s_entries) l_entries c_entries k_entries
  have b_entries := F_entries.binds (ps := ["self"]) fun _ _ _ _ _ _ us hl => match us, hl with | [_], _ => rfl
  have F_account := fun_mk (st := s_account) l_account c_account k_account
  have b_account := F_account.binds (ps := ["self", "account"]) fun _ _ _ _ _ _ us hl => match us, hl with | [_, _], _ => rfl
  have F_entry := fun_mk (st := s_entry) l_entry c_entry k_entry
  have b_entry := F_entry.binds (ps := ["self", "number"]) fun _ _ _ _ _ _ us hl => match us, hl with | [_, _], _ => rfl
  have F_add := fun_mk (st := s_add) l_add c_add k_add
  have b_add := F_add.binds (ps := ["self", "day", "value", "cause", "lines", "reverses"]) fun _ _ _ _ _ _ us hl => match us, hl with | [_, _, _, _, _, _], _ => rfl
  have F_open_account := fun_mk (st := s_open_account) l_open_account c_open_account k_open_account
  have b_open_account := F_open_account.binds (ps := ["self", "currency", "sort"]) fun _ _ _ _ _ _ us hl => match us, hl with | [_, _, _], _ => rfl
  have F_currency_of := fun_mk (st := s_currency_of) l_currency_of c_currency_of k_currency_of
  have b_currency_of := F_currency_of.binds (ps := ["self", "account"]) fun _ _ _ _ _ _ us hl => match us, hl with | [_, _], _ => rfl
  have F_sort_of := fun_mk (st := s_sort_of) l_sort_of c_sort_of k_sort_of
  have b_sort_of := F_sort_of.binds (ps := ["self", "account"]) fun _ _ _ _ _ _ us hl => match us, hl with | [_, _], _ => rfl
  have F_lines_of := fun_mk (st := s_lines_of) l_lines_of c_lines_of k_lines_of
  have b_lines_of := F_lines_of.binds (ps := ["self", "account"]) fun _ _ _ _ _ _ us hl => match us, hl with | [_, _], _ => rfl
  have F_check_head := fun_mk (st := s_check_head) l_check_head c_check_head k_check_head
  have b_check_head := F_check_head.binds (ps := ["self", "day", "value", "cause"]) fun _ _ _ _ _ _ us hl => match us, hl with | [_, _, _, _], _ => rfl
  have F_check_lines := fun_mk (st := s_check_lines) l_check_lines c_check_lines k_check_lines
  have b_check_lines := F_check_lines.binds (ps := ["self", "lines"]) fun _ _ _ _ _ _ us hl => match us, hl with | [_, _], _ => rfl
  have F_balance := fun_mk (st := s_balance) l_balance c_balance k_balance
  have b_balance := F_balance.binds (ps := ["self", "account", "booked", "value"]) fun _ _ _ _ _ _ us hl => match us, hl with | [_, _, _, _], _ => rfl
  have F_sums := fun_mk (st := s_sums) l_sums c_sums k_sums
  have b_sums := F_sums.binds (ps := ["self", "currency", "booked", "value"]) fun _ _ _ _ _ _ us hl => match us, hl with | [_, _, _, _], _ => rfl
  have F_post := fun_mk (st := s_post) l_post c_post k_post
  have b_post := F_post.binds (ps := ["self", "day", "value", "cause", "lines"]) fun _ _ _ _ _ _ us hl => match us, hl with | [_, _, _, _, _], _ => rfl
  have F_reverse := fun_mk (st := s_reverse) l_reverse c_reverse k_reverse
  have b_reverse := F_reverse.binds (ps := ["self", "number", "day", "cause"]) fun _ _ _ _ _ _ us hl => match us, hl with | [_, _, _, _], _ => rfl
  have F_w_numbers := fun_mk (st := s_w_numbers) l_w_numbers c_w_numbers k_w_numbers
  have b_w_numbers := F_w_numbers.binds (ps := ["_law_cell", "_law_count"]) fun _ _ _ _ _ _ us hl => match us, hl with | [_, _], _ => rfl
  have F_w_kinds := fun_mk (st := s_w_kinds) l_w_kinds c_w_kinds k_w_kinds
  have b_w_kinds := F_w_kinds.binds (ps := ["_law_error"]) fun _ _ _ _ _ _ us hl => match us, hl with | [_], _ => rfl
  have F_w_currencies := fun_mk (st := s_w_currencies) l_w_currencies c_w_currencies k_w_currencies
  have b_w_currencies := F_w_currencies.binds (ps := ["_law_numbers_here"]) fun _ _ _ _ _ _ us hl => match us, hl with | [_], _ => rfl
  have F_w_accounts := fun_mk (st := s_w_accounts) l_w_accounts c_w_accounts k_w_accounts
  have b_w_accounts := F_w_accounts.binds (ps := ["_law_numbers_here"]) fun _ _ _ _ _ _ us hl => match us, hl with | [_], _ => rfl
  have F_w_units := fun_mk (st := s_w_units) l_w_units c_w_units k_w_units
  have b_w_units := F_w_units.binds (ps := ["_law_number"]) fun _ _ _ _ _ _ us hl => match us, hl with | [_], _ => rfl
  have F_w_group := fun_mk (st := s_w_group) l_w_group c_w_group k_w_group
  have b_w_group := F_w_group.binds (ps := ["_law_numbers_here", "_law_at", "_law_accounts_here"]) fun _ _ _ _ _ _ us hl => match us, hl with | [_, _, _], _ => rfl
  have F_w_lines := fun_mk (st := s_w_lines) l_w_lines c_w_lines k_w_lines
  have b_w_lines := F_w_lines.binds (ps := ["_law_numbers_here", "_law_accounts_here"]) fun _ _ _ _ _ _ us hl => match us, hl with | [_, _], _ => rfl
  have F_w_entry := fun_mk (st := s_w_entry) l_w_entry c_w_entry k_w_entry
  have b_w_entry := F_w_entry.binds (ps := ["_law_numbers_here", "_law_accounts_here", "_law_last"]) fun _ _ _ _ _ _ us hl => match us, hl with | [_, _, _], _ => rfl
  have F_w_spoilt := fun_mk (st := s_w_spoilt) l_w_spoilt c_w_spoilt k_w_spoilt
  have b_w_spoilt := F_w_spoilt.binds (ps := ["_law_kind", "_law_number", "_law_at", "_law_post", "_law_count"]) fun _ _ _ _ _ _ us hl => match us, hl with | [_, _, _, _, _], _ => rfl
  have F_w_deed := fun_mk (st := s_w_deed) l_w_deed c_w_deed k_w_deed
  have b_w_deed := F_w_deed.binds (ps := ["_law_ledger_here", "_law_accounts_here", "_law_numbers_here", "_law_start"]) fun _ _ _ _ _ _ us hl => match us, hl with | [_, _, _, _], _ => rfl
  have F_w_ledger := fun_mk (st := s_w_ledger) l_w_ledger c_w_ledger k_w_ledger
  have b_w_ledger := F_w_ledger.binds (ps := ["_law_accounts_here"]) fun _ _ _ _ _ _ us hl => match us, hl with | [_], _ => rfl
  have F_w_day := fun_mk (st := s_w_day) l_w_day c_w_day k_w_day
  have b_w_day := F_w_day.binds (ps := ["_law_number", "_law_days"]) fun _ _ _ _ _ _ us hl => match us, hl with | [_, _], _ => rfl
  have F_w_sums_right := fun_mk (st := s_w_sums_right) l_w_sums_right c_w_sums_right k_w_sums_right
  have b_w_sums_right := F_w_sums_right.binds (ps := ["_law_ledger_here", "_law_accounts_here", "_law_currency", "_law_booked", "_law_value"]) fun _ _ _ _ _ _ us hl => match us, hl with | [_, _, _, _, _], _ => rfl
  have F_w_entries_right := fun_mk (st := s_w_entries_right) l_w_entries_right c_w_entries_right k_w_entries_right
  have b_w_entries_right := F_w_entries_right.binds (ps := ["_law_ledger_here", "_law_accounts_here"]) fun _ _ _ _ _ _ us hl => match us, hl with | [_, _], _ => rfl
  have F_w_right := fun_mk (st := s_w_right) l_w_right c_w_right k_w_right
  have b_w_right := F_w_right.binds (ps := ["_law_ledger_here", "_law_accounts_here", "_law_numbers_here"]) fun _ _ _ _ _ _ us hl => match us, hl with | [_, _, _], _ => rfl
  have F_law := fun_mk (st := s_law) l_law c_law k_law
  refine ⟨PySem.W.fnOf "law" "law" (defArgs s_law) (defBody s_law) (defScope s_law) .none kv_law dc_law pm_law an_law cd_law ct_law, fun s v => .of_eq rfl, fun base _ _ => ?_⟩
  have zl : Z.led = C := by rw [hZ]
  have d_is_day : Cal l.prog w K mg base 1 "is_day" (spIsDay) := ⟨_, _, _, PySem.W.mg_of X G a_is_day, k_is_day, b_is_day, ok_is_day F_is_day T ⟩
  have d_check_currency : Cal l.prog w K mg base 1 "check_currency" (spChkCur) := ⟨_, _, _, PySem.W.mg_of X G a_check_currency, k_check_currency, b_check_currency, ok_check_currency F_check_currency T ⟩
  have d_init : Mak l.prog w K mg base 1 Z.led (spInit Z) := ⟨_, _, _, by rw [zl]; exact ⟨mk, a_init, i_init, kc⟩, b_init, ok_init F_init T ⟩
  have d_entries : Met l.prog w K mg base 1 Z.led "entries" (spEntries Z) := ⟨_, _, _, by rw [zl]; exact ⟨a_entries, i_entries, k_entries⟩, b_entries, ok_entries F_entries T ⟩
  have d_account : Met l.prog w K mg base 1 Z.led "_account" (spAccount Z) := ⟨_, _, _, by rw [zl]; exact ⟨a_account, i_account, k_account⟩, b_account, ok_account F_account T ⟩
  have d_entry : Met l.prog w K mg base 1 Z.led "entry" (spEntry Z) := ⟨_, _, _, by rw [zl]; exact ⟨a_entry, i_entry, k_entry⟩, b_entry, ok_entry F_entry T ⟩
  have d_add : Met l.prog w K mg base 1 Z.led "_add" (spAdd Z) := ⟨_, _, _, by rw [zl]; exact ⟨a_add, i_add, k_add⟩, b_add, ok_add F_add T ⟩
  have d_open_account : Met l.prog w K mg base 2 Z.led "open_account" (spOpen Z) := ⟨_, _, _, by rw [zl]; exact ⟨a_open_account, i_open_account, k_open_account⟩, b_open_account, ok_open_account F_open_account T d_check_currency⟩
  have d_currency_of : Met l.prog w K mg base 2 Z.led "currency_of" (spCurOf Z) := ⟨_, _, _, by rw [zl]; exact ⟨a_currency_of, i_currency_of, k_currency_of⟩, b_currency_of, ok_currency_of F_currency_of T d_account⟩
  have d_sort_of : Met l.prog w K mg base 2 Z.led "sort_of" (spSortOf Z) := ⟨_, _, _, by rw [zl]; exact ⟨a_sort_of, i_sort_of, k_sort_of⟩, b_sort_of, ok_sort_of F_sort_of T d_account⟩
  have d_lines_of : Met l.prog w K mg base 2 Z.led "lines_of" (spLinesOf Z) := ⟨_, _, _, by rw [zl]; exact ⟨a_lines_of, i_lines_of, k_lines_of⟩, b_lines_of, ok_lines_of F_lines_of T d_account⟩
  have d_check_head : Met l.prog w K mg base 2 Z.led "_check_head" (spHead Z) := ⟨_, _, _, by rw [zl]; exact ⟨a_check_head, i_check_head, k_check_head⟩, b_check_head, ok_check_head F_check_head T d_is_day⟩
  have d_check_lines : Met l.prog w K mg base 3 Z.led "_check_lines" (spLines Z) := ⟨_, _, _, by rw [zl]; exact ⟨a_check_lines, i_check_lines, k_check_lines⟩, b_check_lines, ok_check_lines F_check_lines T d_currency_of⟩
  have d_balance : Met l.prog w K mg base 3 Z.led "balance" (spBalance Z) := ⟨_, _, _, by rw [zl]; exact ⟨a_balance, i_balance, k_balance⟩, b_balance, ok_balance F_balance T d_lines_of⟩
  have d_sums : Met l.prog w K mg base 4 Z.led "sums" (spSums Z) := ⟨_, _, _, by rw [zl]; exact ⟨a_sums, i_sums, k_sums⟩, b_sums, ok_sums F_sums T d_currency_of d_sort_of d_balance⟩
  have d_post : Met l.prog w K mg base 4 Z.led "post" (spPost Z) := ⟨_, _, _, by rw [zl]; exact ⟨a_post, i_post, k_post⟩, b_post, ok_post F_post T d_check_head d_check_lines d_add⟩
  have d_reverse : Met l.prog w K mg base 3 Z.led "reverse" (spReverse Z) := ⟨_, _, _, by rw [zl]; exact ⟨a_reverse, i_reverse, k_reverse⟩, b_reverse, ok_reverse F_reverse T d_entry d_check_head d_add⟩
  have d_w_numbers : Cal l.prog w K mg base 1 "_law_numbers" (spNumbers) := ⟨_, _, _, PySem.W.mg_of X G a_w_numbers, k_w_numbers, b_w_numbers, ok_w_numbers F_w_numbers T ⟩
  have d_w_kinds : Hot l.prog w K mg base 0 "_law_kinds" (spKinds Z) := ⟨_, _, _, _, _, _, F_w_kinds, sc_w_kinds, PySem.W.mg_of X G a_w_kinds, b_w_kinds, fun a c d vs H Q h => (by rw [h.1]; rfl), fun a oe c d hz hf => ok_w_kinds T a oe c d hz hf⟩
  have d_w_currencies : Cal l.prog w K mg base 1 "_law_currencies" (spCurs) := ⟨_, _, _, PySem.W.mg_of X G a_w_currencies, k_w_currencies, b_w_currencies, ok_w_currencies F_w_currencies T ⟩
  have d_w_accounts : Cal l.prog w K mg base 2 "_law_accounts" (spAccs) := ⟨_, _, _, PySem.W.mg_of X G a_w_accounts, k_w_accounts, b_w_accounts, ok_w_accounts F_w_accounts T d_w_currencies⟩
  have d_w_units : Cal l.prog w K mg base 1 "_law_units" (spUnits) := ⟨_, _, _, PySem.W.mg_of X G a_w_units, k_w_units, b_w_units, ok_w_units F_w_units T ⟩
  have d_w_group : Cal l.prog w K mg base 2 "_law_group" (spGroup) := ⟨_, _, _, PySem.W.mg_of X G a_w_group, k_w_group, b_w_group, ok_w_group F_w_group T d_w_units⟩
  have d_w_lines : Cal l.prog w K mg base 3 "_law_lines" (spWLines) := ⟨_, _, _, PySem.W.mg_of X G a_w_lines, k_w_lines, b_w_lines, ok_w_lines F_w_lines T d_w_group⟩
  have d_w_entry : Cal l.prog w K mg base 4 "_law_entry" (spWEntry) := ⟨_, _, _, PySem.W.mg_of X G a_w_entry, k_w_entry, b_w_entry, ok_w_entry F_w_entry T d_w_lines⟩
  have d_w_spoilt : Cal l.prog w K mg base 1 "_law_spoilt" (spSpoilt) := ⟨_, _, _, PySem.W.mg_of X G a_w_spoilt, k_w_spoilt, b_w_spoilt, ok_w_spoilt F_w_spoilt T ⟩
  have d_w_deed : Cal l.prog w K mg base 5 "_law_deed" (spDeed Z) := ⟨_, _, _, PySem.W.mg_of X G a_w_deed, k_w_deed, b_w_deed, ok_w_deed F_w_deed T d_entries d_entry d_reverse d_post d_w_entry d_w_spoilt d_w_kinds⟩
  have d_w_ledger : Cal l.prog w K mg base 3 "_law_ledger" (spWLed Z) := ⟨_, _, _, PySem.W.mg_of X G a_w_ledger, k_w_ledger, b_w_ledger, ok_w_ledger F_w_ledger T d_init d_open_account⟩
  have d_w_day : Cal l.prog w K mg base 1 "_law_day" (spDay) := ⟨_, _, _, PySem.W.mg_of X G a_w_day, k_w_day, b_w_day, ok_w_day F_w_day T ⟩
  have d_w_sums_right : Cal l.prog w K mg base 5 "_law_sums_right" (spSumsR Z) := ⟨_, _, _, PySem.W.mg_of X G a_w_sums_right, k_w_sums_right, b_w_sums_right, ok_w_sums_right F_w_sums_right T d_sums d_balance⟩
  have d_w_entries_right : Cal l.prog w K mg base 2 "_law_entries_right" (spEntsR Z) := ⟨_, _, _, PySem.W.mg_of X G a_w_entries_right, k_w_entries_right, b_w_entries_right, ok_w_entries_right F_w_entries_right T d_entries d_entry⟩
  have d_w_right : Cal l.prog w K mg base 6 "_law_right" (spRight Z) := ⟨_, _, _, PySem.W.mg_of X G a_w_right, k_w_right, b_w_right, ok_w_right F_w_right T d_entries d_entry d_w_currencies d_w_day d_w_sums_right d_w_entries_right⟩
  exact ok_law F_law T d_entries d_w_numbers d_w_accounts d_w_ledger d_w_deed d_w_right
theorem walk {l : PySem.W.OpenLaw} {q : Program} {loose : List Str} {XP : (Str → Option Value) → Heap → Prop} {YP : World → Heap → Prop} {d : DefRec} {K : Params → PySem.W.Frag} (hn : l.most = some 63) (hdf : d.params.defaults = [])
    (hY : ∀ (w : World) (h : Heap), YP w h → (K w.params).In h)
    (F : ∀ (w : World) (mg : Str → Option Value) (fa : Addr) (h : Heap), (K w.params).In h → h.Ns mainGlobals mg → mg d.name = some (.ref fa) →
      ∃ fd : FuncData, (∀ (s : Shared) (u : Value), BindsTo s fd ⟨[u], []⟩ [("_law_script", u)]) ∧ ∀ base : Heap, (K w.params).In base → base.Ns mainGlobals mg → FnOk l.prog w (K w.params) mg base (L2.CX l.prog w) 7 fa fd ["_law_script"] (spLaw (K w.params))) :
    PySem.W.WalkO q loose XP YP l.row.toRowW d [] (fun f vs => PySem.call f vs) :=
  L2.walk_of (n := 63) (k := 7) (x := "_law_script") (CX := fun w => L2.CX l.prog w) (sp := fun w => spLaw (K w.params)) hn (by decide) hdf ⟨rfl, by decide, by decide⟩ hY F (fun _ _ a ns hl _ hS => ⟨a, ns, rfl, hS, hl, fun _ => rfl⟩) fun _ _ _ _ _ z => by
    obtain ⟨_, _, _, _, _, _, _, _, _, _, _, _, z⟩ := z
    exact z.elim
end
end K12
open PySem PySem.W PyProof.Rows in
set_option maxRecDepth 100000 in
set_option maxHeartbeats 0 in
theorem PySem.Challenge.cw_corebank_k12_whole_books_balance_holds : PySem.Challenge.rw_corebank_k12_whole_books_balance.Holds := by
  w_on; o_law; k_head; (case hw => w_witness2)
  k_fill
  refine K12.walk (l := PySem.Challenge.rw_corebank_k12_whole_books_balance) rfl rfl (fun w h Y => PySem.W.kIn_of Y) ?F
  case F =>
    intro w mg fa h KX G hmg
    refine' K12.all_mk KX G hmg ?aC ?pg ?hd ?po ?sa ?mk ?kc ?nA1 ?nA2 ?nA3 ?nA4 ?z_len ?z_range ?z_int ?z_list ?z_tuple ?z_sum ?z_min ?z_max ?z_isinstance ?g_LAST_DAY ?g_MOST_ACCOUNTS ?g_MOST_ENTRIES ?g_GREATEST_UNITS ?g_SORTS ?lS ?gc ?tc ?e_val ?e_day ?e_mis ?e_ref ?e_ful ?e_nota ?e_dam ?e_bank ?xx_val ?xk_val ?xg_val ?xn_val ?xc_val ?xm_val ?xs_val ?xx_day ?xk_day ?xg_day ?xn_day ?xc_day ?xm_day ?xs_day ?xx_mis ?xk_mis ?xg_mis ?xn_mis ?xc_mis ?xm_mis ?xs_mis ?xx_ref ?xk_ref ?xg_ref ?xn_ref ?xc_ref ?xm_ref ?xs_ref ?xx_ful ?xk_ful ?xg_ful ?xn_ful ?xc_ful ?xm_ful ?xs_ful ?xb_val ?xb_day ?xb_mis ?xb_ref ?xb_ful ?xb_bank ?xt_val ?xd_val ?xt_day ?xd_day ?xt_mis ?xd_mis ?xt_ref ?xd_ref ?xt_ful ?xd_ful ?xt_nota ?xd_nota ?xt_dam ?xd_dam ?xt_bank ?xd_bank ?s_val_day ?s_val_mis ?s_val_ref ?s_val_ful ?s_val_nota ?s_val_dam ?s_day_val ?s_day_mis ?s_day_ref ?s_day_ful ?s_day_nota ?s_day_dam ?s_mis_val ?s_mis_day ?s_mis_ref ?s_mis_ful ?s_mis_nota ?s_mis_dam ?s_ref_val ?s_ref_day ?s_ref_mis ?s_ref_ful ?s_ref_nota ?s_ref_dam ?s_ful_val ?s_ful_day ?s_ful_mis ?s_ful_ref ?s_ful_nota ?s_ful_dam ?a_is_day ?l_is_day ?c_is_day ?k_is_day ?a_check_currency ?l_check_currency ?c_check_currency ?k_check_currency ?a_init ?i_init ?l_init ?c_init ?k_init ?a_entries ?i_entries ?l_entries ?c_entries ?k_entries ?a_account ?i_account ?l_account ?c_account ?k_account ?a_entry ?i_entry ?l_entry ?c_entry ?k_entry ?a_add ?i_add ?l_add ?c_add ?k_add ?a_open_account ?i_open_account ?l_open_account ?c_open_account ?k_open_account ?a_currency_of ?i_currency_of ?l_currency_of ?c_currency_of ?k_currency_of ?a_sort_of ?i_sort_of ?l_sort_of ?c_sort_of ?k_sort_of ?a_lines_of ?i_lines_of ?l_lines_of ?c_lines_of ?k_lines_of ?a_check_head ?i_check_head ?l_check_head ?c_check_head ?k_check_head ?a_check_lines ?i_check_lines ?l_check_lines ?c_check_lines ?k_check_lines ?a_balance ?i_balance ?l_balance ?c_balance ?k_balance ?a_sums ?i_sums ?l_sums ?c_sums ?k_sums ?a_post ?i_post ?l_post ?c_post ?k_post ?a_reverse ?i_reverse ?l_reverse ?c_reverse ?k_reverse ?a_w_numbers ?l_w_numbers ?c_w_numbers ?k_w_numbers ?a_w_kinds ?l_w_kinds ?c_w_kinds ?k_w_kinds ?a_w_currencies ?l_w_currencies ?c_w_currencies ?k_w_currencies ?a_w_accounts ?l_w_accounts ?c_w_accounts ?k_w_accounts ?a_w_units ?l_w_units ?c_w_units ?k_w_units ?a_w_group ?l_w_group ?c_w_group ?k_w_group ?a_w_lines ?l_w_lines ?c_w_lines ?k_w_lines ?a_w_entry ?l_w_entry ?c_w_entry ?k_w_entry ?a_w_spoilt ?l_w_spoilt ?c_w_spoilt ?k_w_spoilt ?a_w_deed ?l_w_deed ?c_w_deed ?k_w_deed ?a_w_ledger ?l_w_ledger ?c_w_ledger ?k_w_ledger ?a_w_day ?l_w_day ?c_w_day ?k_w_day ?a_w_sums_right ?l_w_sums_right ?c_w_sums_right ?k_w_sums_right ?a_w_entries_right ?l_w_entries_right ?c_w_entries_right ?k_w_entries_right ?a_w_right ?l_w_right ?c_w_right ?k_w_right ?a_law ?l_law ?c_law ?k_law
    (case aC => k_is)
    (case pg => k_is)
    (case hd => k_is)
    (case po => k_is)
    (case sa => k_is)
    (case mk => k_is)
    (case kc => k_is)
    (case nA1 => k_is)
    (case nA2 => k_is)
    (case nA3 => k_is)
    (case nA4 => k_is)
    (case z_len => k_is)
    (case z_range => k_is)
    (case z_int => k_is)
    (case z_list => k_is)
    (case z_tuple => k_is)
    (case z_sum => k_is)
    (case z_min => k_is)
    (case z_max => k_is)
    (case z_isinstance => k_is)
    (case g_LAST_DAY => k_is)
    (case g_MOST_ACCOUNTS => k_is)
    (case g_MOST_ENTRIES => k_is)
    (case g_GREATEST_UNITS => k_is)
    (case g_SORTS => k_is)
    (case lS => k_is)
    (case gc => k_is)
    (case tc => k_is)
    (case e_val => k_is)
    (case e_day => k_is)
    (case e_mis => k_is)
    (case e_ref => k_is)
    (case e_ful => k_is)
    (case e_nota => k_is)
    (case e_dam => k_is)
    (case e_bank => k_is)
    (case xx_val => k_exc)
    (case xk_val => k_is)
    (case xg_val => k_is)
    (case xn_val => k_is)
    (case xc_val => k_is)
    (case xm_val => k_is)
    (case xs_val => k_is)
    (case xx_day => k_exc)
    (case xk_day => k_is)
    (case xg_day => k_is)
    (case xn_day => k_is)
    (case xc_day => k_is)
    (case xm_day => k_is)
    (case xs_day => k_is)
    (case xx_mis => k_exc)
    (case xk_mis => k_is)
    (case xg_mis => k_is)
    (case xn_mis => k_is)
    (case xc_mis => k_is)
    (case xm_mis => k_is)
    (case xs_mis => k_is)
    (case xx_ref => k_exc)
    (case xk_ref => k_is)
    (case xg_ref => k_is)
    (case xn_ref => k_is)
    (case xc_ref => k_is)
    (case xm_ref => k_is)
    (case xs_ref => k_is)
    (case xx_ful => k_exc)
    (case xk_ful => k_is)
    (case xg_ful => k_is)
    (case xn_ful => k_is)
    (case xc_ful => k_is)
    (case xm_ful => k_is)
    (case xs_ful => k_is)
    (case xb_val => k_is)
    (case xb_day => k_is)
    (case xb_mis => k_is)
    (case xb_ref => k_is)
    (case xb_ful => k_is)
    (case xb_bank => k_is)
    (case xt_val => k_is)
    (case xd_val => k_is)
    (case xt_day => k_is)
    (case xd_day => k_is)
    (case xt_mis => k_is)
    (case xd_mis => k_is)
    (case xt_ref => k_is)
    (case xd_ref => k_is)
    (case xt_ful => k_is)
    (case xd_ful => k_is)
    (case xt_nota => k_is)
    (case xd_nota => k_is)
    (case xt_dam => k_is)
    (case xd_dam => k_is)
    (case xt_bank => k_is)
    (case xd_bank => k_is)
    (case s_val_day => k_is)
    (case s_val_mis => k_is)
    (case s_val_ref => k_is)
    (case s_val_ful => k_is)
    (case s_val_nota => k_is)
    (case s_val_dam => k_is)
    (case s_day_val => k_is)
    (case s_day_mis => k_is)
    (case s_day_ref => k_is)
    (case s_day_ful => k_is)
    (case s_day_nota => k_is)
    (case s_day_dam => k_is)
    (case s_mis_val => k_is)
    (case s_mis_day => k_is)
    (case s_mis_ref => k_is)
    (case s_mis_ful => k_is)
    (case s_mis_nota => k_is)
    (case s_mis_dam => k_is)
    (case s_ref_val => k_is)
    (case s_ref_day => k_is)
    (case s_ref_mis => k_is)
    (case s_ref_ful => k_is)
    (case s_ref_nota => k_is)
    (case s_ref_dam => k_is)
    (case s_ful_val => k_is)
    (case s_ful_day => k_is)
    (case s_ful_mis => k_is)
    (case s_ful_ref => k_is)
    (case s_ful_nota => k_is)
    (case s_ful_dam => k_is)
    (case a_is_day => k_is)
    (case l_is_day => k_is)
    (case c_is_day => k_is)
    (case k_is_day => k_is)
    (case a_check_currency => k_is)
    (case l_check_currency => k_is)
    (case c_check_currency => k_is)
    (case k_check_currency => k_is)
    (case a_init => k_is)
    (case i_init => k_is)
    (case l_init => k_is)
    (case c_init => k_is)
    (case k_init => k_is)
    (case a_entries => k_is)
    (case i_entries => k_is)
    (case l_entries => k_is)
    (case c_entries => k_is)
    (case k_entries => k_is)
    (case a_account => k_is)
    (case i_account => k_is)
    (case l_account => k_is)
    (case c_account => k_is)
    (case k_account => k_is)
    (case a_entry => k_is)
    (case i_entry => k_is)
    (case l_entry => k_is)
    (case c_entry => k_is)
    (case k_entry => k_is)
    (case a_add => k_is)
    (case i_add => k_is)
    (case l_add => k_is)
    (case c_add => k_is)
    (case k_add => k_is)
    (case a_open_account => k_is)
    (case i_open_account => k_is)
    (case l_open_account => k_is)
    (case c_open_account => k_is)
    (case k_open_account => k_is)
    (case a_currency_of => k_is)
    (case i_currency_of => k_is)
    (case l_currency_of => k_is)
    (case c_currency_of => k_is)
    (case k_currency_of => k_is)
    (case a_sort_of => k_is)
    (case i_sort_of => k_is)
    (case l_sort_of => k_is)
    (case c_sort_of => k_is)
    (case k_sort_of => k_is)
    (case a_lines_of => k_is)
    (case i_lines_of => k_is)
    (case l_lines_of => k_is)
    (case c_lines_of => k_is)
    (case k_lines_of => k_is)
    (case a_check_head => k_is)
    (case i_check_head => k_is)
    (case l_check_head => k_is)
    (case c_check_head => k_is)
    (case k_check_head => k_is)
    (case a_check_lines => k_is)
    (case i_check_lines => k_is)
    (case l_check_lines => k_is)
    (case c_check_lines => k_is)
    (case k_check_lines => k_is)
    (case a_balance => k_is)
    (case i_balance => k_is)
    (case l_balance => k_is)
    (case c_balance => k_is)
    (case k_balance => k_is)
    (case a_sums => k_is)
    (case i_sums => k_is)
    (case l_sums => k_is)
    (case c_sums => k_is)
    (case k_sums => k_is)
    (case a_post => k_is)
    (case i_post => k_is)
    (case l_post => k_is)
    (case c_post => k_is)
    (case k_post => k_is)
    (case a_reverse => k_is)
    (case i_reverse => k_is)
    (case l_reverse => k_is)
    (case c_reverse => k_is)
    (case k_reverse => k_is)
    (case a_w_numbers => k_is)
    (case l_w_numbers => k_is)
    (case c_w_numbers => k_is)
    (case k_w_numbers => k_is)
    (case a_w_kinds => k_is)
    (case l_w_kinds => k_is)
    (case c_w_kinds => k_is)
    (case k_w_kinds => k_is)
    (case a_w_currencies => k_is)
    (case l_w_currencies => k_is)
    (case c_w_currencies => k_is)
    (case k_w_currencies => k_is)
    (case a_w_accounts => k_is)
    (case l_w_accounts => k_is)
    (case c_w_accounts => k_is)
    (case k_w_accounts => k_is)
    (case a_w_units => k_is)
    (case l_w_units => k_is)
    (case c_w_units => k_is)
    (case k_w_units => k_is)
    (case a_w_group => k_is)
    (case l_w_group => k_is)
    (case c_w_group => k_is)
    (case k_w_group => k_is)
    (case a_w_lines => k_is)
    (case l_w_lines => k_is)
    (case c_w_lines => k_is)
    (case k_w_lines => k_is)
    (case a_w_entry => k_is)
    (case l_w_entry => k_is)
    (case c_w_entry => k_is)
    (case k_w_entry => k_is)
    (case a_w_spoilt => k_is)
    (case l_w_spoilt => k_is)
    (case c_w_spoilt => k_is)
    (case k_w_spoilt => k_is)
    (case a_w_deed => k_is)
    (case l_w_deed => k_is)
    (case c_w_deed => k_is)
    (case k_w_deed => k_is)
    (case a_w_ledger => k_is)
    (case l_w_ledger => k_is)
    (case c_w_ledger => k_is)
    (case k_w_ledger => k_is)
    (case a_w_day => k_is)
    (case l_w_day => k_is)
    (case c_w_day => k_is)
    (case k_w_day => k_is)
    (case a_w_sums_right => k_is)
    (case l_w_sums_right => k_is)
    (case c_w_sums_right => k_is)
    (case k_w_sums_right => k_is)
    (case a_w_entries_right => k_is)
    (case l_w_entries_right => k_is)
    (case c_w_entries_right => k_is)
    (case k_w_entries_right => k_is)
    (case a_w_right => k_is)
    (case l_w_right => k_is)
    (case c_w_right => k_is)
    (case k_w_right => k_is)
    (case a_law => k_is)
    (case l_law => k_is)
    (case c_law => k_is)
    (case k_law => k_is)
