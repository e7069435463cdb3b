import PyProof.Rows.All
import Wide.All
import OpenK.AllK
import Wide.FinOn
import Lean
import PySem.Challenge.RW_pq1296_01
set_option Elab.async false
section PartHD
example : True := by
  w_top off
  trivial
open PySem PySem.W PyProof.Rows
set_option Elab.async false
namespace Mine
set_option maxRecDepth 100000
set_option maxHeartbeats 8000000
/-- the statements of the text that the head looks at -/
def keepers : List Nat := [1, 2, 3, 4, 6, 7, 8] ++ List.range' 10 35
abbrev prg : Program := PySem.Challenge.rw_pq1296_01.row.prog
def vw : Program := PySem.W.view prg keepers
theorem map_pair {α β γ : Type} {X : Option α} {A : α → β} {B : α → γ} {a : β} {b : γ} (h1 : X.map A = some a) (h2 : X.map B = some b) : X.map (fun s => (A s, B s)) = some (a, b) := by
  cases X with
  | none => cases h1
  | some x => rw [Option.map_some, Option.some_inj] at h1 h2 ⊢; rw [h1, h2]
/-- the state at the end of the text's own lines, from the ground that is laid before every text -/
noncomputable def ended (p : Program) (N : Nat) (w : World) (os : OsState) : Option Shared := topFrom treeTable p w N ⟨boot_heap w.params, #[], boot_drawn, boot_toks, os⟩
theorem left_boot {p q : Program} {loose : List Str} {Xt : Shared → Bool} {α : Type} {Yf : Shared → α} {Ya : World → α} {N : Nat} (e : opening p = plainProg p.main.scope.names) (hN : Nat.ble 600 N = true) (f : ∀ s, fenceModules? p s = some s)
    (h : ∀ w os, (ended p N w os).map (openSeen q loose (importedModules p.main.body) Xt true) = some (openGood q loose)) (h2 : ∀ w os, (ended p N w os).map Yf = some (Ya w)) : LeftO p q loose Xt Yf Ya N := fun w => by
  obtain ⟨⟨h0, gs, d, k, os⟩, e1, e2⟩ := Option.map_eq_some_iff.mp (boot_open e hN f w)
  obtain ⟨rfl, rfl, rfl, rfl⟩ : h0 = boot_heap w.params ∧ gs = #[] ∧ d = boot_drawn ∧ k = boot_toks := by simpa using e2
  unfold openEnds
  rw [e1]
  exact map_pair (h w os) (h2 w os)
theorem open_ok : opening prg = plainProg prg.main.scope.names := by rfl
theorem fence_ok (s : Shared) : fenceModules? prg s = some s := rfl
theorem ends_seen (w : World) (os : OsState) : (ended prg 1400 w os).map (openSeen vw [Str.ofString "UniError"] (importedModules prg.main.body) (fun s => xlAt vw [] s && recOk (RowW.records PySem.Challenge.rw_pq1296_01.row.toRowW) s) true) = some (openGood vw [Str.ofString "UniError"]) := by
  unfold ended topFrom
  rw [PySem.W.Fast.te14082659384304107361, PySem.W.Fast.te14364793385576792824, PySem.W.Fast.te4187177175401517315]
  kernel_rfl
theorem law_said : PySem.Challenge.rw_pq1296_01.wellSaid = true := by
  rw [PySem.W.Fast.te9446332074065402090]
  unfold PySem.W.Fast.tw9446332074065402090
  repeat' (with_reducible refine look_both ?_ ?_)
  any_goals (try (unfold PySem.W.Fast.tw17960256430627541270; repeat' (with_reducible refine look_both ?_ ?_)))
  any_goals (try (unfold PySem.W.Fast.tw2436336058641802641; repeat' (with_reducible refine look_both ?_ ?_)))
  any_goals (try (unfold PySem.W.Fast.tw12908688711261696721; repeat' (with_reducible refine look_both ?_ ?_)))
  all_goals decide +kernel
theorem from_row (h : PySem.Challenge.rw_pq1296_01.row.Holds) : PySem.Challenge.rw_pq1296_01.Holds := holds_law law_said fun _ => h
local macro_rules | `(tactic| o_law) => `(tactic| refine Mine.from_row ?_)
local macro_rules | `(tactic| o_head $H) => `(tactic| (refine holds_open (q := Mine.vw) (loose := [Str.ofString "UniError"]) (Xt := fun s => xlAt Mine.vw [] s && recOk (RowW.records PySem.Challenge.rw_pq1296_01.row.toRowW) s) (XP := XL Mine.vw []) (Yf := Hook.obs $H) (Ya := Hook.val $H) (YP := Hook.says $H) (N := 1400) ?hl (Hook.of $H) (Hook.keeps $H) (fun s e => xl_of s (Bool.and_eq_true_iff.mp e).1) XL.keeps (by rfl) (by rfl) (by rfl) (fun s e => recFacts_of (Bool.and_eq_true_iff.mp e).2) (by rfl) (row_said law_said) (by decide +kernel) ⟨rfl, rfl, rfl, rfl, rfl, by decide +kernel⟩ ?hw ?hc; (case hl => exact left_boot open_ok rfl fence_ok ends_seen fun w os => by (unfold ended topFrom; rw [PySem.W.Fast.te14082659384304107361, PySem.W.Fast.te14364793385576792824]; kernel_rfl))))
open_top hd for PySem.Challenge.rw_pq1296_01
end Mine
end PartHD

section PartA1
example : True := by
  w_top off
  trivial
open PySem PySem.W PyProof.Rows
set_option Elab.async false
namespace Mine
local macro_rules | `(tactic| omega) => `(tactic| first | (with_reducible assumption) | lia | omega +splitDisjunctions)
/-- the value of a sign, for mail -/
def sval (x : Int) : Option Int :=
  if 65 ≤ x ∧ x ≤ 90 then some (x - 65) else if 97 ≤ x ∧ x ≤ 122 then some (x - 97 + 26) else if 48 ≤ x ∧ x ≤ 57 then some (x - 48 + 52)
  else if x = 43 then some 62 else if x = 44 then some 63 else none
def OptInt (r : Value) (o : Option Int) : Prop := match o with
  | some i => ∃ t, r = .int i t
  | none => r = .none
theorem optInt_some {i : Int} {t : Tok} {o : Option Int} (h : o = some i) : OptInt (.int i t) o := by subst h; exact ⟨t, rfl⟩
theorem optInt_none {o : Option Int} (h : o = none) : OptInt .none o := by subst h; rfl
/-- one call of the def at `f`, from any caller: what comes back, and what it has made -/
def Runs (w : World) (f : Addr) (vs : List Value) (need : Nat) (news : List (Addr × Obj)) (Ret : Value → List (Addr × Obj) → Prop) : Prop :=
  ∀ (p : Program) (loose : List Str) (mean : ExcName → Option Value) (mg mb : Str → Option Value) (dp un : Nat) (gd : Option (List Code)) (cn : Str) (cs : Scope) (a : Addr) (ccd : Value) (cl : List (Str × Addr))
    (outer : List Env) (A₀ : Around) (base h₀ : Heap) (L : Addr) (m : Str → Option Value) (s : Shared) (Q E : Value → Shared → Prop),
    Below A₀ base outer h₀ → Fr h₀ L s.heap m → (hd.heap_1 w.params).In h₀ → News h₀ L s.heap news → Top p loose mean mg mb h₀ → cs.kind = .function → dp + need < recursionLimit → un + 8 * need < cLine →
    (∀ r tl h' tk', Fr h₀ L h' m → News h₀ L h' (tl ++ news) → (∀ q ∈ news, ∀ p ∈ tl, q.1 < p.1) → Ret r tl → Q r { s with heap := h', toks := tk' }) →
    wpAny (model Challenge.rw_pq1296_01.row.prog w) (ktrTop dp un gd cn cs L a ccd cl outer) (call (.ref f) vs) Q E s
theorem ret0 {h₀ : Heap} {L : Addr} {m : Str → Option Value} {news : List (Addr × Obj)} {s : Shared} {Q : Value → Shared → Prop} {Ret : Value → List (Addr × Obj) → Prop} {r : Value} {h' : Heap} {tk' : Nat}
    (h : ∀ r tl h' tk', Fr h₀ L h' m → News h₀ L h' (tl ++ news) → (∀ q ∈ news, ∀ p ∈ tl, q.1 < p.1) → Ret r tl → Q r { s with heap := h', toks := tk' })
    (F : Fr h₀ L h' m) (N : News h₀ L h' news) (hr : Ret r []) : Q r { s with heap := h', toks := tk' } := h r [] h' tk' F N (fun _ _ _ x => nomatch x) hr
/-- a stop of the walk -/
def Stop (P : Prop) : Prop := P
theorem stop {P : Prop} (h : Stop P) : P := h
section
variable {w : World} {f : Addr} {vs : List Value} {need : Nat} {news : List (Addr × Obj)} {Ret : Value → List (Addr × Obj) → Prop} {p : Program} {loose : List Str} {mean : ExcName → Option Value} {mg mb : Str → Option Value} {dp un : Nat} {gd : Option (List Code)} {cn : Str} {cs : Scope} {a : Addr} {ccd : Value} {cl : List (Str × Addr)}
    {outer : List Env} {A₀ : Around} {base h₀ : Heap} {L : Addr} {m : Str → Option Value} {s : Shared} {Q E : Value → Shared → Prop}
theorem runs_use (B : Below A₀ base outer h₀) (F : Fr h₀ L s.heap m) (X : (hd.heap_1 w.params).In h₀) (N : News h₀ L s.heap news) (T : Top p loose mean mg mb h₀) (hk : cs.kind = .function) (hR : Runs w f vs need news Ret) (hd : dp + need < recursionLimit) (hu : un + 8 * need < cLine)
    (h : ∀ r tl h' tk', Fr h₀ L h' m → News h₀ L h' (tl ++ news) → (∀ q ∈ news, ∀ p ∈ tl, q.1 < p.1) → Ret r tl → Q r { s with heap := h', toks := tk' }) :
    wpAny (model Challenge.rw_pq1296_01.row.prog w) (ktrTop dp un gd cn cs L a ccd cl outer) (call (.ref f) vs) Q E s :=
  hR p loose mean mg mb dp un gd cn cs a ccd cl outer A₀ base h₀ L m s Q E B F X N T hk hd hu h
end
set_option maxRecDepth 100000
set_option maxHeartbeats 8000000
theorem runs_value (w : World) (x : Int) (t : Tok) (news : List (Addr × Obj)) : Runs w 68 [.int x t, .bool true] 1 news (fun r tl => tl = [] ∧ OptInt r (sval x)) := by
  unfold Runs
  k_fill
  intro p loose mean mg mb dp un gd cn cs a ccd cl outer A₀ base h₀ L m s Q E B F X N T hk hd hu hret
  refine wpAny_call ?_
  k_dflt cell_enter
  k_steps
  all_goals (refine ret0 hret (by k_asm) (by k_asm) ⟨rfl, ?_⟩)
  all_goals (first | (refine optInt_some ?_; unfold sval; (repeat' split) <;> first | rfl | omega) | (refine optInt_none ?_; unfold sval; (repeat' split) <;> first | rfl | omega))
theorem runs_direct (w : World) (x : Int) (t : Tok) (news : List (Addr × Obj)) : Runs w 75 [.int x t] 1 news (fun r tl => tl = [] ∧ r = .bool (decide (32 ≤ x ∧ x ≤ 126 ∧ x ≠ 38))) := by
  unfold Runs
  k_fill
  intro p loose mean mg mb dp un gd cn cs a ccd cl outer A₀ base h₀ L m s Q E B F X N T hk hd hu hret
  refine wpAny_call ?_
  k_dflt cell_enter
  k_steps
  all_goals (refine ret0 hret (by k_asm) (by k_asm) ⟨rfl, congrArg Value.bool (Bool.eq_iff_iff.mpr ?_)⟩; simp only [bne_iff_ne, decide_eq_true_eq, ne_eq]; omega)
theorem runs_high (w : World) (x : Int) (t : Tok) (news : List (Addr × Obj)) : Runs w 54 [.int x t] 1 news (fun r tl => tl = [] ∧ r = .bool (decide (55296 ≤ x ∧ x ≤ 56319))) := by
  unfold Runs
  k_fill
  intro p loose mean mg mb dp un gd cn cs a ccd cl outer A₀ base h₀ L m s Q E B F X N T hk hd hu hret
  refine wpAny_call ?_
  k_dflt cell_enter
  k_steps
  all_goals (refine ret0 hret (by k_asm) (by k_asm) ⟨rfl, congrArg Value.bool (Bool.eq_iff_iff.mpr ?_)⟩; simp only [bne_iff_ne, decide_eq_true_eq, ne_eq]; omega)
theorem runs_low (w : World) (x : Int) (t : Tok) (news : List (Addr × Obj)) : Runs w 61 [.int x t] 1 news (fun r tl => tl = [] ∧ r = .bool (decide (56320 ≤ x ∧ x ≤ 57343))) := by
  unfold Runs
  k_fill
  intro p loose mean mg mb dp un gd cn cs a ccd cl outer A₀ base h₀ L m s Q E B F X N T hk hd hu hret
  refine wpAny_call ?_
  k_dflt cell_enter
  k_steps
  all_goals (refine ret0 hret (by k_asm) (by k_asm) ⟨rfl, congrArg Value.bool (Bool.eq_iff_iff.mpr ?_)⟩; simp only [bne_iff_ne, decide_eq_true_eq, ne_eq]; omega)
end Mine
end PartA1

section PartA2
example : True := by
  w_top off
  trivial
open PySem PySem.W PyProof.Rows
set_option Elab.async false
namespace Mine
def isSign (x : Int) : Bool := (sval x).isSome
def runEnd (ks : List Int) (i : Nat) : Nat := i + ((ks.drop i).takeWhile isSign).length
theorem runEnd_out {ks : List Int} {i : Nat} (h : ks.length ≤ i) : runEnd ks i = i := by
  unfold runEnd
  rw [List.drop_eq_nil_of_le h]; rfl
theorem runEnd_in {ks : List Int} {i : Nat} (h : i < ks.length) : runEnd ks i = if isSign (ks.getD i 0) then runEnd ks (i + 1) else i := by
  unfold runEnd
  rw [List.getD_eq_getElem?_getD, List.getElem?_eq_getElem h, List.drop_eq_getElem_cons h, List.takeWhile_cons]
  simp only [Option.getD_some]
  split
  · simp only [List.length_cons]; omega
  · simp
theorem fr_of {h₀ h : Heap} {L : Addr} {m : Str → Option Value} {ps : List (Str × Value)} (F : Fr h₀ L h m) (hk : ∀ p ∈ ps, m p.1 = some p.2) : Fr h₀ L h (kstB m ps) := by
  have e : kstB m ps = m := funext fun z => kstB_eq hk fun _ => rfl
  rw [e]; exact F
def LoopEnd {σ : Type} (h₀ : Heap) (L : Addr) (s : Shared) (Led : σ → List (Addr × Obj)) (ps : σ → List (Str × Value)) (P : σ → Prop) (μ : σ → Nat) (n : Nat) (s₂ : Shared) : Prop :=
  ∃ (c' : σ) (h' : Heap) (tk : Nat) (m' : Str → Option Value) (news' : List (Addr × Obj)), s₂ = { s with heap := h', toks := tk } ∧ Fr h₀ L h' m' ∧ News h₀ L h' news' ∧ (∀ p ∈ Led c', p ∈ news') ∧ (∀ p ∈ ps c', m' p.1 = some p.2) ∧ P c' ∧ μ c' < n
def LoopPost {σ : Type} (h₀ : Heap) (L : Addr) (s : Shared) (Led : σ → List (Addr × Obj)) (ps : σ → List (Str × Value)) (P : σ → Prop) (μ : σ → Nat) (Q : Flow → Shared → Prop) (n : Nat) (f : Flow) (s₂ : Shared) : Prop :=
  match f with
  | .ret v => Q (.ret v) s₂
  | .brk => Q .next s₂
  | _ => LoopEnd h₀ L s Led ps P μ n s₂
theorem loop_end {σ : Type} {h₀ : Heap} {L : Addr} {s : Shared} {Led : σ → List (Addr × Obj)} {ps : σ → List (Str × Value)} {m' : Str → Option Value} {P : σ → Prop} {μ : σ → Nat} {n : Nat} {h' : Heap} {tk : Nat} {news' : List (Addr × Obj)} (c' : σ)
    (F : Fr h₀ L h' m') (N : News h₀ L h' news') (hn : ∀ p ∈ Led c', p ∈ news') (hk : ∀ p ∈ ps c', m' p.1 = some p.2) (hp : P c') (hm : μ c' < n) :
    LoopEnd h₀ L s Led ps P μ n { s with heap := h', toks := tk } := ⟨c', h', tk, m', news', rfl, F, N, hn, hk, hp, hm⟩
section
variable {prog : Program} {w : World} {A : Around} {E : Value → Shared → Prop} {Q : Flow → Shared → Prop} {s : Shared} {env : Env} {h₀ : Heap} {L : Addr}
theorem while_ps {σ : Type} {test : PySem.Expr} {body : List Stmt} {pos : Pos} {m₀ : Str → Option Value} {news : List (Addr × Obj)} (Led : σ → List (Addr × Obj)) (ps : σ → List (Str × Value)) (P : σ → Prop) (μ : σ → Nat) (c₀ : σ)
    (F : Fr h₀ L s.heap m₀) (N : News h₀ L s.heap news) (hn : ∀ p ∈ Led c₀, p ∈ news) (hk : ∀ p ∈ ps c₀, m₀ p.1 = some p.2) (hp : P c₀)
    (turn : ∀ (c : σ) (u : Str → Option Value) h tk, P c → Fr h₀ L h (kstB u (ps c)) → News h₀ L h (Led c) →
      wpAny (model prog w) A (isTrue test env (eval test env)) (fun b s₂ =>
        if b = true then wpAny (model prog w) A (execs body env) (LoopPost h₀ L s Led ps P μ Q (μ c)) E s₂ else Q .next s₂) E { s with heap := h, toks := tk })
    (hE : PassesOwn (model prog w) A env E := by passes_own) :
    wpAny (model prog w) A (exec (.While test body [] pos) env) Q E s := by
  refine While_inv2 (fun n m nx => ∃ c : σ, nx = Led c ∧ μ c = n ∧ (∀ p ∈ ps c, m p.1 = some p.2) ∧ P c) F (fun p hp => N p (hn p hp)) ⟨c₀, rfl, rfl, hk, hp⟩ ?_ hE
  rintro n m₁ nx h tk F₁ N₁ ⟨c, rfl, rfl, h1, hp'⟩
  refine wpAny_mono (turn c m₁ h tk hp' (fr_of F₁ h1) N₁) (fun b s₂ p => ?_) fun _ _ x => x
  cases b with
  | false => simpa using p
  | true =>
    simp only [if_true] at p ⊢
    refine wpAny_mono p (fun f s₃ q => ?_) fun _ _ x => x
    cases f with
    | ret v => exact q
    | brk => exact q
    | next =>
      obtain ⟨c', h', tk', m', news', rfl, F', N', hn, hk9, hp9, hm9⟩ := q
      exact ⟨h', tk', m', Led c', μ c', rfl, F', fun p hp => N' p (hn p hp), hm9, c', rfl, rfl, hk9, hp9⟩
    | cont =>
      obtain ⟨c', h', tk', m', news', rfl, F', N', hn, hk9, hp9, hm9⟩ := q
      exact ⟨h', tk', m', Led c', μ c', rfl, F', fun p hp => N' p (hn p hp), hm9, c', rfl, rfl, hk9, hp9⟩
end
/-- a for over bytes, by what holds between the turns -/
def ForEnd {σ : Type} (h₀ : Heap) (L I : Addr) (s : Shared) (Led : σ → List (Addr × Obj)) (ps : σ → List (Str × Value)) (P : σ → Prop) (own : List (Addr × Obj)) (s₂ : Shared) : Prop :=
  ∃ (c' : σ) (h' : Heap) (tk : Nat) (m' : Str → Option Value) (news' : List (Addr × Obj)), s₂ = { s with heap := h', toks := tk } ∧ Fr h₀ L h' m' ∧ News h₀ L h' news' ∧ (∀ p ∈ Led c', p ∈ news') ∧ (∀ p ∈ own, p ∈ news') ∧ (∀ p ∈ Led c', p.1 ≠ I) ∧ (∀ p ∈ ps c', m' p.1 = some p.2) ∧ P c'
def ForPost {σ : Type} (h₀ : Heap) (L I : Addr) (s : Shared) (Led : σ → List (Addr × Obj)) (ps : σ → List (Str × Value)) (P : σ → Prop) (own : List (Addr × Obj)) (Q : Flow → Shared → Prop) (f : Flow) (s₂ : Shared) : Prop :=
  match f with
  | .ret v => Q (.ret v) s₂
  | .brk => Q .next s₂
  | _ => ForEnd h₀ L I s Led ps P own s₂
theorem for_end {σ : Type} {h₀ : Heap} {L I : Addr} {s : Shared} {Led : σ → List (Addr × Obj)} {ps : σ → List (Str × Value)} {m' : Str → Option Value} {P : σ → Prop} {own : List (Addr × Obj)} {h' : Heap} {tk : Nat} {news' : List (Addr × Obj)} (c' : σ)
    (F : Fr h₀ L h' m') (N : News h₀ L h' news') (hn : ∀ p ∈ Led c', p ∈ news') (ho : ∀ p ∈ own, p ∈ news') (hI : ∀ p ∈ Led c', p.1 ≠ I) (hk : ∀ p ∈ ps c', m' p.1 = some p.2) (hp : P c') :
    ForEnd h₀ L I s Led ps P own { s with heap := h', toks := tk } := ⟨c', h', tk, m', news', rfl, F, N, hn, ho, hI, hk, hp⟩
section
variable {prog : Program} {w : World} {A : Around} {E : Value → Shared → Prop} {s : Shared} {env : Env} {h₀ : Heap} {x : Str} {body : List Stmt} {Q : Flow → Shared → Prop}
theorem for_walks {σ : Type} {I : Addr} {fp wr : List Addr} {n : Nat} {Pv : Nat → Value → Prop} {St : Nat → Heap → Prop} {m₀ : Str → Option Value} {news : List (Addr × Obj)} (Led : σ → List (Addr × Obj)) (ps : σ → List (Str × Value)) (P : Nat → σ → Prop) (c₀ : σ)
    (W : Walks prog w A I [I] [I] n Pv St) (hLf : env.locals ≠ I) (hwr : h₀.get? I = none) (hst : St 0 s.heap) (F : Fr h₀ env.locals s.heap m₀) (N : News h₀ env.locals s.heap news) (hn : ∀ p ∈ Led c₀, p ∈ news) (hI : ∀ p ∈ Led c₀, p.1 ≠ I) (hk : ∀ p ∈ ps c₀, m₀ p.1 = some p.2) (hp : P 0 c₀)
    (turn : ∀ (i : Nat) (v : Value) (c : σ) (u : Str → Option Value) h tk own, i < n → Pv i v → P i c → (∀ p ∈ own, p.1 = I) → (∀ p ∈ Led c, p.1 ≠ I) → Fr h₀ env.locals h (fun y => if y = x then some v else kstB u (ps c) y) → News h₀ env.locals h (Led c ++ own) →
      wpAny (model prog w) A (execs body env) (ForPost h₀ env.locals I { s with heap := h, toks := tk } Led ps (P (i + 1)) own Q) E { s with heap := h, toks := tk })
    (done : ∀ (c : σ) (u : Str → Option Value) h tk, P n c → Fr h₀ env.locals h (kstB u (ps c)) → News h₀ env.locals h (Led c) → Q .next { s with heap := h, toks := tk }) :
    LoopAtV prog w A h₀ env x body Q E (.ref I) s := by
  refine ⟨I, [I], [I], n, Pv, St, m₀, Led c₀, fun i m nx => ∃ c, nx = Led c ∧ (∀ p ∈ ps c, m p.1 = some p.2) ∧ P i c, rfl, W, ?_, ?_, ?_, hst, F, fun p hp => N p (hn p hp), ⟨c₀, rfl, hk, hp⟩, ?_, ?_⟩
  · intro h; exact hLf (List.mem_singleton.mp h)
  · intro b hb; rw [List.mem_singleton.mp hb]; exact hwr
  · intro p hp h; exact hI p hp (List.mem_singleton.mp h)
  · rintro i v m₁ news₁ s₁ own ⟨h, tk, rfl⟩ hi hP ⟨c, rfl, h1, hp'⟩ hoff hown _ _ _ F₁ N₁
    have e : (fun y => if y = x then some v else m₁ y) = fun y => if y = x then some v else kstB m₁ (ps c) y := by
      funext y
      split
      · rfl
      · exact (kstB_eq h1 fun _ => rfl).symm
    rw [e] at F₁
    refine wpAny_mono (turn i v c m₁ h tk own hi hP hp' (fun p hp => List.mem_singleton.mp (hown p hp)) (fun p hp q => hoff p hp (List.mem_singleton.mpr q)) F₁ (fun p hp => N₁ p ((List.mem_append.mp hp).elim (List.mem_append_right _) (List.mem_append_left _)))) (fun f s₃ q => ?_) fun _ _ x => x
    have fin : ForEnd h₀ env.locals I { s with heap := h, toks := tk } Led ps (P (i + 1)) own s₃ → LoopStepU h₀ env.locals [I] own (fun m nx => ∃ c, nx = Led c ∧ (∀ p ∈ ps c, m p.1 = some p.2) ∧ P (i + 1) c) { s with heap := h, toks := tk } .next s₃ := by
      rintro ⟨c', h', tk', m', news', rfl, F', N', hn', ho', hI', hk', hp9⟩
      exact LoopStepU.intro (news₂ := Led c') F' (fun p hp => N' p ((List.mem_append.mp hp).elim (ho' p) (hn' p))) (fun p hp h => hI' p hp (List.mem_singleton.mp h)) ⟨c', rfl, hk', hp9⟩
    cases f with
    | ret v => exact .ret q
    | brk => exact .brk q
    | next => exact .next (fin q)
    | cont => exact .cont (fin q)
  · rintro h' tk m' news' F' N' _ ⟨c, rfl, h1, hp'⟩
    exact done c m' h' tk hp' (fr_of F' h1) N'
theorem for_bytes {σ : Type} {b : Array UInt8} {ks : List Int} {tb : Tok} {m₀ : Str → Option Value} {news : List (Addr × Obj)} (Led : σ → List (Addr × Obj)) (ps : σ → List (Str × Value)) (P : Nat → σ → Prop) (c₀ : σ)
    (hb : KBw.bInts b = ks) (hh : A.handled = none) (F : Fr h₀ env.locals s.heap m₀) (N : News h₀ env.locals s.heap news) (hn : ∀ p ∈ Led c₀, p ∈ news) (hk : ∀ p ∈ ps c₀, m₀ p.1 = some p.2) (hp : P 0 c₀)
    (turn : ∀ (I : Addr) (i : Nat) (k : Int) (t : Tok) (c : σ) (u : Str → Option Value) h tk own, (∀ p ∈ news, p.1 < I) → ks[i]? = some k → P i c → (∀ p ∈ own, p.1 = I) → (∀ p ∈ Led c, p.1 ≠ I) → Fr h₀ env.locals h (fun y => if y = x then some (.int k t) else kstB u (ps c) y) → News h₀ env.locals h (Led c ++ own) →
      wpAny (model prog w) A (execs body env) (ForPost h₀ env.locals I { s with heap := h, toks := tk } Led ps (P (i + 1)) own Q) E { s with heap := h, toks := tk })
    (done : ∀ (c : σ) (u : Str → Option Value) h tk, P ks.length c → Fr h₀ env.locals h (kstB u (ps c)) → News h₀ env.locals h (Led c) → Q .next { s with heap := h, toks := tk }) :
    wpAny (model prog w) A (pyIter (.bytes b tb)) (fun it s₂ => LoopAtV prog w A h₀ env x body Q E it s₂) E s := by
  subst hb
  have lt : ∀ p ∈ news, p.1 < s.heap.objs.size := fun p hp => Heap.lt_size (N p hp).1
  refine KBw.pyIter_bytes ?_
  refine for_walks (s := { s with heap := s.heap.push _ }) (fp := []) (wr := []) (news := news) Led ps P c₀ (KBw.walks hh s.heap.objs.size b tb) (Nat.ne_of_lt F.ns.lt) (next_is_new F) ⟨_, Heap.get?_push_size _ rfl, rfl, rfl⟩ (F.push _) (fun p hp => ⟨Heap.get?_push_of_some _ (N p hp).1, (N p hp).2⟩) hn (fun p hp => Nat.ne_of_lt (lt p (hn p hp))) hk hp ?_ ?_
  · rintro i v c u h tk own hi ⟨cc, tc, hcc, rfl⟩ hp' hown hI F' N'
    exact turn s.heap.objs.size i _ tc c u h tk own lt (KBw.ints_get hcc) hp' hown hI F' N'
  · intro c u h tk hp' F' N'
    rw [← KBw.ints_length] at hp'
    exact done c u h tk hp' F' N'
end
section
variable {w : World} {news : List (Addr × Obj)} {p : Program} {loose : List Str} {mean : ExcName → Option Value} {mg mb : Str → Option Value} {dp un : Nat} {gd : Option (List Code)} {cn : Str} {cs : Scope} {a : Addr} {ccd : Value} {cl : List (Str × Addr)}
    {outer : List Env} {A₀ : Around} {base h₀ : Heap} {L : Addr} {m : Str → Option Value} {s : Shared} {Q E : Value → Shared → Prop}
theorem use_value {x : Int} {t : Tok} (B : Below A₀ base outer h₀) (F : Fr h₀ L s.heap m) (X : (hd.heap_1 w.params).In h₀) (N : News h₀ L s.heap news) (T : Top p loose mean mg mb h₀) (hk : cs.kind = .function) (hd : dp + 1 < recursionLimit) (hu : un + 8 * 1 < cLine)
    (h : ∀ i t' h' tk', Fr h₀ L h' m → News h₀ L h' news → sval x = some i → Q (.int i t') { s with heap := h', toks := tk' }) (h2 : ∀ h' tk', Fr h₀ L h' m → News h₀ L h' news → sval x = none → Q .none { s with heap := h', toks := tk' }) :
    wpAny (model Challenge.rw_pq1296_01.row.prog w) (ktrTop dp un gd cn cs L a ccd cl outer) (call (.ref 68) [.int x t, .bool true]) Q E s :=
  runs_use B F X N T hk (runs_value w x t news) hd hu fun r tl h' tk' F' N' _ hr => by
    obtain ⟨rfl, hr⟩ := hr
    cases e : sval x with
    | none => rw [e] at hr; cases hr; exact h2 h' tk' F' N' e
    | some i => rw [e] at hr; obtain ⟨t', rfl⟩ := hr; exact h i t' h' tk' F' N' e
theorem use_value1 {x v : Int} {t : Tok} (B : Below A₀ base outer h₀) (F : Fr h₀ L s.heap m) (X : (hd.heap_1 w.params).In h₀) (N : News h₀ L s.heap news) (T : Top p loose mean mg mb h₀) (hk : cs.kind = .function) (hv : sval x = some v) (hd : dp + 1 < recursionLimit) (hu : un + 8 * 1 < cLine)
    (h : ∀ t' h' tk', Fr h₀ L h' m → News h₀ L h' news → Q (.int v t') { s with heap := h', toks := tk' }) :
    wpAny (model Challenge.rw_pq1296_01.row.prog w) (ktrTop dp un gd cn cs L a ccd cl outer) (call (.ref 68) [.int x t, .bool true]) Q E s :=
  use_value B F X N T hk hd hu (fun i t' h' tk' F' N' e => by rw [hv] at e; cases e; exact h t' h' tk' F' N') fun _ _ _ _ e => by rw [hv] at e; cases e
end
set_option maxRecDepth 100000
set_option maxHeartbeats 8000000
local macro_rules | `(tactic| walk_at "exec While") => `(tactic| (k_here; refine stop ?_))
local macro_rules | `(tactic| walk_at "LoopPost") => `(tactic| (dsimp only [LoopPost]))
local macro_rules | `(tactic| walk_at "call ref") => `(tactic| (k_here; refine stop ?_))
theorem runs_run_end (w : World) (b : Array UInt8) (ks : List Int) (tb : Tok) (x : Int) (t : Tok) (news : List (Addr × Obj)) (hbi : KBw.bInts b = ks) (hbl : ks.length ≤ 1000000) (hx : 0 ≤ x) : Runs w 82 [.bytes b tb, .int x t, .bool true] 2 news (fun r tl => tl = [] ∧ ∃ t, r = .int (runEnd ks x.toNat : Int) t) := by
  unfold Runs
  k_fill
  intro p loose mean mg mb dp un gd cn cs a ccd cl outer A₀ base h₀ L m s Q E B F X N T hk hd hu hret
  refine wpAny_call ?_
  k_dflt cell_enter
  k_steps
  unfold Stop
  with_unfolding_all refine' while_ps (σ := Int × Tok) (fun _ => news) (fun c => [(Str.ofString "octets", .bytes b tb), (Str.ofString "at", .int c.1 c.2), (Str.ofString "is_mail", .bool true)]) (fun c => 0 ≤ c.1 ∧ runEnd ks c.1.toNat = runEnd ks x.toNat) (fun c => ks.length - c.1.toNat) (x, t) (by assumption) (by assumption) ?kn ?kk ⟨hx, rfl⟩ ?turn ?hE
  case kn => exact fun _ h => h
  case kk => kst_all
  case hE => with_unfolding_all passes_own
  case turn =>
    rintro ⟨k, tc⟩ u h tk ⟨hp0, hp⟩ F' N'
    dsimp only at hp0 hp F' ⊢
    k_steps
    repeat' ((unfold Stop); (k_dflt (refine' use_value ?k1 ?k2 ?k3 ?k4 ?k5 ?kK ?kd ?ku (fun _ _ _ _ _ _ _ => ?_) (fun _ _ _ _ _ => ?_)); (case k1 => k_asm); (case k2 => k_asm); (case k3 => k_asm); (case k4 => k_asm); (case k5 => k_asm); (case kK => first | exact rfl | assumption); (case kd => ktr_room); (case ku => ktr_units); (all_goals k_whole); (all_goals try k_sweep)); (try k_steps))
    · have vs : ∃ vi, sval (ks.getD k.toNat 0) = some vi := ⟨_, by assumption⟩
      obtain ⟨vi, vs⟩ := vs
      have hlt : k.toNat < ks.length := by omega
      have hin := runEnd_in hlt
      rw [if_pos (by unfold isSign; rw [vs]; rfl)] at hin
      have e : (k + 1).toNat = k.toNat + 1 := by omega
      exact loop_end (k + 1, _) (by assumption) (by assumption) (by kst_in) (by kst_all) ⟨by dsimp only; omega, by dsimp only; rw [e, ← hin, hp]⟩ (by dsimp only; omega)
    · have vs : sval (ks.getD k.toNat 0) = none := by assumption
      have hlt : k.toNat < ks.length := by omega
      have hin := runEnd_in hlt
      rw [if_neg (by unfold isSign; rw [vs]; simp)] at hin
      refine ret0 hret (by k_asm) (by k_asm) ⟨rfl, tc, ?_⟩
      rw [← hp, hin, Int.toNat_of_nonneg hp0]
    · have hin := runEnd_out (ks := ks) (i := k.toNat) (by omega)
      refine ret0 hret (by k_asm) (by k_asm) ⟨rfl, tc, ?_⟩
      rw [← hp, hin, Int.toNat_of_nonneg hp0]
end Mine
end PartA2

section PartL1
example : True := by
  w_top off
  trivial
open PySem PySem.W PyProof.Rows
namespace Mine
theorem or_six {r v : Int} (hr : 0 ≤ r) (h0 : 0 ≤ v) (h1 : v < 64) : Builtin.bitOr (r * 2 ^ Int.toNat 6) v = r * 64 + v := by
  have e : (r * 2 ^ Int.toNat 6 : Int) = r * 64 := rfl
  rw [e, bitOr_and, bitAnd_pp (by omega) h0]
  have h : (r * 64).toNat &&& v.toNat = 0 := by
    have e2 : (r * 64).toNat = 2 ^ 6 * r.toNat := by omega
    rw [e2]
    refine Nat.eq_of_testBit_eq fun i => ?_
    rw [Nat.testBit_and, Nat.testBit_two_pow_mul, Nat.zero_testBit]
    by_cases hi : 6 ≤ i
    · have : v.toNat.testBit i = false := Nat.testBit_lt_two_pow (Nat.lt_of_lt_of_le (by omega : v.toNat < 2 ^ 6) (Nat.pow_le_pow_right (by decide) hi))
      rw [this, Bool.and_false]
    · simp [hi]
  rw [h]; omega
theorem mask_mod {x : Int} (hx : 0 ≤ x) (n : Nat) : Builtin.bitAnd x (1 * 2 ^ n - 1) = x % 2 ^ n := by
  have hp : (0 : Int) < 2 ^ n := Int.pow_pos (by decide)
  rw [bitAnd_pp hx (by omega)]
  have e : (1 * 2 ^ n - 1 : Int).toNat = 2 ^ n - 1 := by
    have : (1 * 2 ^ n - 1 : Int) = ((2 ^ n - 1 : Nat) : Int) := by
      rw [Int.one_mul, Int.ofNat_sub (Nat.one_le_two_pow)]; simp
    rw [this]; rfl
  rw [e, Nat.and_two_pow_sub_one_eq_mod]
  have : x = ((x.toNat : Nat) : Int) := (Int.toNat_of_nonneg hx).symm
  rw [this]; simp
theorem fdiv_pow (x : Int) (n : Nat) : x.fdiv (2 ^ n) = x / 2 ^ n := Int.fdiv_eq_ediv_of_nonneg _ (Int.le_of_lt (Int.pow_pos (by decide)))
end Mine
end PartL1

section PartA3
example : True := by
  w_top off
  trivial
open PySem PySem.W PyProof.Rows
set_option Elab.async false
namespace Mine
local macro_rules | `(tactic| omega) => `(tactic| first | (with_reducible assumption) | lia | omega +splitDisjunctions)
set_option maxRecDepth 100000
set_option maxHeartbeats 8000000
local macro_rules | `(tactic| walk_at "exec While") => `(tactic| (k_here; refine stop ?_))
local macro_rules | `(tactic| walk_at "pyIter") => `(tactic| (k_here; refine stop ?_))
local macro_rules | `(tactic| walk_at "pyIter bytes") => `(tactic| (k_here; refine stop ?_))
local macro_rules | `(tactic| walk_at "pyIter ref") => `(tactic| (k_here; refine stop ?_))
local macro_rules | `(tactic| walk_at "LoopPost") => `(tactic| (dsimp only [LoopPost]))
local macro_rules | `(tactic| walk_at "ForPost") => `(tactic| (dsimp only [ForPost]))
local macro_rules | `(tactic| walk_at "exec For") => `(tactic| (k_here; (with_reducible rename Fr _ _ _ _ => kF); (with_unfolding_all refine For_invVF kF (by rfl) (by rfl) ?_)))
local macro_rules | `(tactic| walk_at "call ref") => `(tactic| (k_here; refine stop ?_))
local macro_rules | `(tactic| k_all) => `(tactic| with_unfolding_all assumption)
def ustep (a : List Int × Int × Int) (v : Int) : List Int × Int × Int :=
  if 16 ≤ a.2.2 + 6 then (a.1 ++ [(a.2.1 * 64 + v) / 2 ^ (a.2.2 + 6 - 16).toNat], (a.2.1 * 64 + v) % 2 ^ (a.2.2 + 6 - 16).toNat, a.2.2 + 6 - 16) else (a.1, a.2.1 * 64 + v, a.2.2 + 6)
def UOk (a : List Int × Int × Int) : Prop := 0 ≤ a.2.1 ∧ a.2.1 < 2 ^ a.2.2.toNat ∧ 0 ≤ a.2.2 ∧ a.2.2 < 16 ∧ a.2.2 % 2 = 0
theorem uok0 : UOk ([], 0, 0) := ⟨by decide, by decide, by decide, by decide, by decide⟩
theorem clip_nn {n : Nat} {x : Int} (h0 : 0 ≤ x) (h1 : x ≤ n) : clipAt n x = x.toNat := by
  unfold clipAt
  rw [if_neg (by omega)]
  omega
theorem sval_bound {x v : Int} (h : sval x = some v) : 0 ≤ v ∧ v < 64 := by
  unfold sval at h
  split at h
  · cases h; omega
  split at h
  · cases h; omega
  split at h
  · cases h; omega
  split at h
  · cases h; omega
  split at h
  · cases h; omega
  · cases h
theorem two_pow_le {r m : Int} (hm : m < 16) (h : r < 2 ^ m.toNat) : r < 65536 := by
  have h1 : (2 : Int) ^ m.toNat ≤ 2 ^ 16 := by exact_mod_cast Nat.pow_le_pow_right (by decide) (by omega : m.toNat ≤ 16)
  omega
def svals (l : List Int) : List Int := l.map fun k => (sval k).getD 0
def ufold (l : List Int) : List Int × Int × Int := (svals l).foldl ustep ([], 0, 0)
abbrev tupOf (vs : List Value) : Obj := { cls := .type "tuple", data := .seq vs.toArray }
def cut (ks : List Int) (x y : Int) : List Int := (ks.drop x.toNat).take (y.toNat - x.toNat)
theorem cut_len {ks : List Int} {x y : Int} {n : Nat} (h : ks.length ≤ n) : (cut ks x y).length ≤ n := by unfold cut; rw [List.length_take, List.length_drop]; exact Nat.le_trans (Nat.min_le_right ..) (Nat.le_trans (Nat.sub_le ..) h)
theorem uok_step {U : List Int} {r mn v : Int} (hr0 : 0 ≤ r) (hr1 : r < 2 ^ mn.toNat) (hm0 : 0 ≤ mn) (hm1 : mn < 16) (hm2 : mn % 2 = 0) (hv0 : 0 ≤ v) (hv1 : v < 64) : UOk (ustep (U, r, mn) v) := by
  unfold ustep UOk
  dsimp only
  split
  · dsimp only
    have hp : (0 : Int) < 2 ^ (mn + 6 - 16).toNat := Int.pow_pos (by decide)
    exact ⟨Int.emod_nonneg _ (Int.ne_of_gt hp), Int.emod_lt_of_pos _ hp, by omega, by omega, by omega⟩
  · dsimp only
    have e : (mn + 6).toNat = mn.toNat + 6 := by omega
    rw [e, Int.pow_add]
    refine ⟨by omega, ?_, by omega, by omega, by omega⟩
    have : (2 : Int) ^ 6 = 64 := by decide
    rw [this]; omega
theorem ints_push {us : List Value} {U : List Int} (h : IntsAre us U) (k : Int) (t : Tok) : IntsAre (us ++ [.int k t]) (U ++ [k]) := by
  induction h with
  | nil => exact .cons _ _ .nil
  | cons _ _ _ ih => exact .cons _ _ ih
theorem svals_take (l : List Int) (i : Nat) : svals (l.take i) = (svals l).take i := by unfold svals; rw [List.map_take]
theorem ustep_len (a : List Int × Int × Int) (v : Int) : (ustep a v).1.length ≤ a.1.length + 1 := by
  unfold ustep
  split <;> simp
theorem mem_led {x : Addr × Obj} {news own : List (Addr × Obj)} : ∀ p ∈ x :: news, p ∈ x :: (news ++ own) := fun p hp => by
  rcases List.mem_cons.mp hp with rfl | h
  · exact .head _
  · exact .tail _ (List.mem_append_left _ h)
theorem ints_pushA {us : Array Value} {U : List Int} (h : IntsAre us.toList U) (k : Int) (t : Tok) : IntsAre (us.push (.int k t)).toList (U ++ [k]) := by
  rw [Array.toList_push]; exact ints_push h k t
theorem off_led {x : Addr} {o o' : Obj} {news : List (Addr × Obj)} {I : Addr} (h : ∀ p ∈ (x, o) :: news, p.1 ≠ I) : ∀ p ∈ (x, o') :: news, p.1 ≠ I := fun p hp => by
  rcases List.mem_cons.mp hp with rfl | hp
  · exact h (x, o) (.head _)
  · exact h p (.tail _ hp)
theorem allLt_mem {d : Addr} : ∀ {l : List (Addr × Obj)}, AllLt d l → ∀ p ∈ l, p.1 < d
  | [], _, _, h => nomatch h
  | x :: r, h, p, hp => (List.mem_cons.mp hp).elim (fun e => e ▸ h.1) (allLt_mem h.2 p)
theorem lt2 {a d : Addr} {o o' : Obj} {news : List (Addr × Obj)} (h : ∀ p ∈ news, p.1 < a) (h2 : a < d ∧ AllLt d news) : ∀ q ∈ news, ∀ p ∈ [(d, o), (a, o')], q.1 < p.1 := fun q hq p hp => by
  rcases List.mem_cons.mp hp with rfl | hp
  · exact allLt_mem h2.2 q hq
  · rw [List.mem_singleton.mp hp]; exact h q hq
theorem runs_units (w : World) (b : Array UInt8) (ks : List Int) (tb : Tok) (x y : Int) (t t2 : Tok) (news : List (Addr × Obj)) (hbi : KBw.bInts b = ks) (hbl : ks.length ≤ 1000000) (hx : 0 ≤ x) (hy : x ≤ y) (hy2 : y ≤ ks.length)
    (hv : ∀ k ∈ cut ks x y, isSign k = true) : Runs w 89 [.bytes b tb, .int x t, .int y t2, .bool true] 2 news (fun r tl => ∃ rt lu us nn z, tl = [(rt, tupOf [.ref lu, .bool z]), (lu, listOf us.toArray nn)] ∧ z = decide ((ufold (cut ks x y)).2.2 < 6 ∧ (ufold (cut ks x y)).2.1 = 0) ∧ r = .ref rt ∧ lu < rt ∧ IntsAre us (ufold (cut ks x y)).1) := by
  unfold Runs
  k_fill
  intro p loose mean mg mb dp un gd cn cs a ccd cl outer A₀ base h₀ L m s Q E B F X N T hk hd hu hret
  refine wpAny_call ?_
  k_dflt cell_enter
  k_steps
  rename_i t0 lu _ _ _ _ _ _ _ _ _ _ _ _ _ _ _ _ kp
  unfold Stop
  have hlu : ∀ p ∈ news, p.1 < lu := by assumption
  have hnu : ∀ p ∈ news, p.1 ≠ lu := fun p hp => Nat.ne_of_lt (hlu p hp)
  rw [clip_nn hx (by omega), clip_nn (by omega) hy2] at kp
  have kp' : KBw.bInts (KBy.picked b (some x) (some y)) = cut ks x y := kp
  clear kp
  have hcl : (cut ks x y).length ≤ 1000000 := cut_len hbl
  with_unfolding_all refine' for_bytes (σ := Array Value × Nat × (List Int × Int × Int) × Tok × Tok) (fun c => (lu, listOf c.1 c.2.1) :: news) (fun c => [(Str.ofString "is_mail", .bool true), (Str.ofString "units", .ref lu), (Str.ofString "rest", .int c.2.2.1.2.1 c.2.2.2.1), (Str.ofString "many", .int c.2.2.1.2.2 c.2.2.2.2)]) (fun i c => IntsAre c.1.toList c.2.2.1.1 ∧ c.2.2.1.1.length ≤ i ∧ UOk c.2.2.1 ∧ c.2.2.1 = ufold ((cut ks x y).take i)) (#[], 0, ([], 0, 0), t0, t0 + 1) kp' rfl (by assumption) (by assumption) ?kn ?kk ?kp ?turn ?done
  case kn => exact fun p hp => .tail _ hp
  case kk => kst_all
  case kp => exact ⟨.nil, Nat.le_refl _, uok0, rfl⟩
  case turn =>
    rintro I i k tk ⟨us, nn, ⟨U, r, mn⟩, tr, tm⟩ u h tk1 own hIn hki ⟨hIA, hlen, hok, hfold⟩ hown hoff F' N'
    have hsg := hv k (List.mem_of_getElem? hki)
    obtain ⟨v, hv1⟩ := Option.isSome_iff_exists.mp hsg
    obtain ⟨hr0, hr1, hm0, hm1, hm2⟩ := hok
    have hvb := sval_bound hv1
    have hall : ∀ p ∈ news ++ own, p.1 ≠ lu := fun p hp => (List.mem_append.mp hp).elim (hnu p) fun h => by rw [hown p h]; exact fun e => hoff _ (.head _) e.symm
    dsimp only at hr0 hr1 hm0 hm1 hm2 F' N' hIA hlen hfold hoff ⊢
    have hr2 : r < 65536 := two_pow_le hm1 hr1
    have hus : us.size ≤ 1000000 := by
      have h1 := hIA.length
      have h2 := (List.getElem?_eq_some_iff.mp hki).1
      rw [Array.length_toList] at h1
      omega
    have hnext : ufold ((cut ks x y).take (i + 1)) = ustep (U, r, mn) v := by
      unfold ufold at hfold ⊢
      rw [List.take_add_one, hki]
      unfold svals at hfold ⊢
      rw [List.map_append, List.foldl_append, ← hfold]
      simp [hv1]
    have hok' : UOk (ustep (U, r, mn) v) := uok_step hr0 hr1 hm0 hm1 hm2 hvb.1 hvb.2
    have hs16 : 16 ≤ mn + 6 → ustep (U, r, mn) v = (U ++ [(Builtin.bitOr (r * 2 ^ Int.toNat 6) v).fdiv (2 ^ (mn + 6 - 16).toNat)], Builtin.bitAnd (Builtin.bitOr (r * 2 ^ Int.toNat 6) v) (1 * 2 ^ (mn + 6 - 16).toNat - 1), mn + 6 - 16) := fun hc => by
      rw [or_six hr0 hvb.1 hvb.2, fdiv_pow, mask_mod (by omega)]
      unfold ustep
      rw [if_pos (by exact hc)]
    have hs6 : ¬ 16 ≤ mn + 6 → ustep (U, r, mn) v = (U, Builtin.bitOr (r * 2 ^ Int.toNat 6) v, mn + 6) := fun hc => by
      rw [or_six hr0 hvb.1 hvb.2]
      unfold ustep
      rw [if_neg (by exact hc)]
    rw [← hnext] at hok'
    have hl' := ustep_len (U, r, mn) v
    rw [← hnext] at hl'
    k_steps
    repeat' ((unfold Stop); (first | (k_dflt (refine' use_value1 ?k1 ?k2 ?k3 ?k4 ?k5 ?kK ?kv ?kd ?ku (fun _ _ _ _ _ => ?_)); (case kv => assumption); (case k1 => k_asm); (case k2 => k_asm); (case k3 => k_asm); (case k4 => k_asm); (case k5 => k_asm); (case kK => first | exact rfl | assumption); (case kd => ktr_room); (case ku => ktr_units); k_whole; try k_sweep) | (k_dflt (refine' use_value ?k1 ?k2 ?k3 ?k4 ?k5 ?kK ?kd ?ku (fun _ _ _ _ _ _ _ => ?_) (fun _ _ _ _ _ => ?_)); (case k1 => k_asm); (case k2 => k_asm); (case k3 => k_asm); (case k4 => k_asm); (case k5 => k_asm); (case kK => first | exact rfl | assumption); (case kd => ktr_room); (case ku => ktr_units); (all_goals k_whole); (all_goals try k_sweep))); (try k_steps))
    · have e := hs16 (by assumption)
      refine' for_end ⟨?a1, ?a2, ⟨U ++ [(Builtin.bitOr (r * 2 ^ Int.toNat 6) v).fdiv (2 ^ (mn + 6 - 16).toNat)], ?a4, ?a5⟩, ?a6, ?a7⟩ (by assumption) (by assumption) ?e1 ?e2 ?e3 ?e4 ?e5
      case e1 => exact mem_led
      case e2 => exact fun p hp => .tail _ (List.mem_append_right _ hp)
      case e3 => exact off_led hoff
      case e4 => kst_all
      case e5 =>
        have e' := hnext.trans e
        rw [e'] at hl' hok'
        exact ⟨ints_pushA hIA _ _, Nat.le_trans hl' (Nat.succ_le_succ hlen), hok', e'.symm⟩
    · have e := hs6 (by assumption)
      refine' for_end ⟨?b1, ?b2, ⟨U, ?b4, ?b5⟩, ?b6, ?b7⟩ (by assumption) (by assumption) ?f1 ?f2 ?f3 ?f4 ?f5
      case f1 => exact mem_led
      case f2 => exact fun p hp => .tail _ (List.mem_append_right _ hp)
      case f3 => exact off_led hoff
      case f4 => kst_all
      case f5 =>
        have e' := hnext.trans e
        rw [e'] at hl' hok'
        exact ⟨hIA, Nat.le_succ_of_le hlen, hok', e'.symm⟩
  case done =>
    rintro ⟨us, nn, ⟨U, r, mn⟩, tr, tm⟩ u h tk1 ⟨hIA, hlen, hok, hfold⟩ F' N'
    dsimp only at F' N' hIA hlen hfold ⊢
    rw [List.take_length] at hfold
    k_steps
    repeat' ((unfold Stop); (first | (k_dflt (refine' use_value1 ?k1 ?k2 ?k3 ?k4 ?k5 ?kK ?kv ?kd ?ku (fun _ _ _ _ _ => ?_)); (case kv => assumption); (case k1 => k_asm); (case k2 => k_asm); (case k3 => k_asm); (case k4 => k_asm); (case k5 => k_asm); (case kK => first | exact rfl | assumption); (case kd => ktr_room); (case ku => ktr_units); k_whole; try k_sweep) | (k_dflt (refine' use_value ?k1 ?k2 ?k3 ?k4 ?k5 ?kK ?kd ?ku (fun _ _ _ _ _ _ _ => ?_) (fun _ _ _ _ _ => ?_)); (case k1 => k_asm); (case k2 => k_asm); (case k3 => k_asm); (case k4 => k_asm); (case k5 => k_asm); (case kK => first | exact rfl | assumption); (case kd => ktr_room); (case ku => ktr_units); (all_goals k_whole); (all_goals try k_sweep))); (try k_steps))
    all_goals (rename (lu < _ ∧ AllLt _ news) => hl1; rename (News h₀ _ _ _) => kN; rename (Fr h₀ _ _ _) => kF; refine hret _ [(_, tupOf [.ref lu, .bool _]), (lu, listOf us nn)] _ _ kF kN (lt2 hlu hl1) ⟨_, lu, us.toList, nn, _, rfl, ?_, rfl, hl1.1, by rw [← hfold]; exact hIA⟩; rw [← hfold]; dsimp only)
    · rename (mn < 6) => hm
      simp only [hm, true_and]; rfl
    · rename (¬ mn < 6) => hm
      simp [hm]
section
variable {w : World} {news : List (Addr × Obj)} {p : Program} {loose : List Str} {mean : ExcName → Option Value} {mg mb : Str → Option Value} {dp un : Nat} {gd : Option (List Code)} {cn : Str} {cs : Scope} {a : Addr} {ccd : Value} {cl : List (Str × Addr)}
    {outer : List Env} {A₀ : Around} {base h₀ : Heap} {L : Addr} {m : Str → Option Value} {s : Shared} {Q E : Value → Shared → Prop}
theorem use_bool {f : Addr} {vs : List Value} {need : Nat} {bb : Bool} (B : Below A₀ base outer h₀) (F : Fr h₀ L s.heap m) (X : (hd.heap_1 w.params).In h₀) (N : News h₀ L s.heap news) (T : Top p loose mean mg mb h₀) (hk : cs.kind = .function) (R : Runs w f vs need news (fun r tl => tl = [] ∧ r = .bool bb)) (hd : dp + need < recursionLimit) (hu : un + 8 * need < cLine)
    (h : ∀ h' tk', Fr h₀ L h' m → News h₀ L h' news → Q (.bool bb) { s with heap := h', toks := tk' }) :
    wpAny (model Challenge.rw_pq1296_01.row.prog w) (ktrTop dp un gd cn cs L a ccd cl outer) (call (.ref f) vs) Q E s :=
  runs_use B F X N T hk R hd hu fun r tl h' tk' F' N' _ hr => by
    obtain ⟨rfl, rfl⟩ := hr
    exact h h' tk' F' N'
theorem use_units {b : Array UInt8} {ks : List Int} {tb : Tok} {x y : Int} {t t2 : Tok} (B : Below A₀ base outer h₀) (F : Fr h₀ L s.heap m) (X : (hd.heap_1 w.params).In h₀) (N : News h₀ L s.heap news) (T : Top p loose mean mg mb h₀) (hk : cs.kind = .function) (hbi : KBw.bInts b = ks) (hbl : ks.length ≤ 1000000) (hx : 0 ≤ x) (hy : x ≤ y) (hy2 : y ≤ ks.length)
    (hv : ∀ k ∈ cut ks x y, isSign k = true) (hd : dp + 2 < recursionLimit) (hu : un + 8 * 2 < cLine)
    (h : ∀ h' tk' rt lu us nn z, Fr h₀ L h' m → News h₀ L h' ((rt, tupOf [.ref lu, .bool z]) :: (lu, listOf us.toArray nn) :: news) → (∀ p ∈ news, p.1 < lu) → lu < rt → z = decide ((ufold (cut ks x y)).2.2 < 6 ∧ (ufold (cut ks x y)).2.1 = 0) → IntsAre us (ufold (cut ks x y)).1 → Q (.ref rt) { s with heap := h', toks := tk' }) :
    wpAny (model Challenge.rw_pq1296_01.row.prog w) (ktrTop dp un gd cn cs L a ccd cl outer) (call (.ref 89) [.bytes b tb, .int x t, .int y t2, .bool true]) Q E s :=
  runs_use B F X N T hk (runs_units w b ks tb x y t t2 news hbi hbl hx hy hy2 hv) hd hu fun r tl h' tk' F' N' hl hr => by
    obtain ⟨rt, lu, us, nn, z, rfl, hz, rfl, hlt, hI⟩ := hr
    exact h h' tk' rt lu us nn z F' N' (fun p hp => hl p hp _ (.tail _ (.head _))) hlt hz hI
end
end Mine
end PartA3

section PartL2
example : True := by
  w_top off
  trivial
open PySem PySem.W PyProof.Rows
namespace Mine
abbrev mLone : Str := Str.ofString "a surrogate without its other half"
abbrev mNeed : Str := Str.ofString "a code in a run that stands for itself"
abbrev mLeft : Str := Str.ofString "bits that are left over"
abbrev mOpen : Str := Str.ofString "a run that isn't closed"
abbrev mSplit : Str := Str.ofString "a run straight behind another one"
abbrev mEmpty : Str := Str.ofString "a run without signs"
abbrev mDirect : Str := Str.ofString "a sign that may not stand for itself"
abbrev Res := Except (Int × Str) (List Int)
abbrev high (u : Int) : Prop := 55296 ≤ u ∧ u ≤ 56319
abbrev low (u : Int) : Prop := 56320 ≤ u ∧ u ≤ 57343
def one (st : Int) (a : Nat) (u : Int) (k : Res) : Res :=
  if high u ∨ low u then .error (st + ((a : Int) * 16).fdiv 6, mLone) else if 32 ≤ u ∧ u ≤ 126 then .error (st + ((a : Int) * 16).fdiv 6, mNeed) else k.map (u :: ·)
def rd (st : Int) : Nat → List Int → Res
  | _, [] => .ok []
  | a, [u] => one st a u (.ok [])
  | a, u :: v :: r => if high u ∧ low v then (rd st (a + 2) r).map ((65536 + (u - 55296) * 1024 + v - 56320) :: ·) else one st a u (rd st (a + 1) (v :: r))
theorem drop_getD {U : List Int} {a : Nat} (h : a < U.length) : U.drop a = U.getD a 0 :: U.drop (a + 1) := by
  rw [List.drop_eq_getElem_cons h, List.getD_eq_getElem?_getD, List.getElem?_eq_getElem h]; rfl
theorem rd_end {st : Int} {U : List Int} {a : Nat} (h : U.length ≤ a) : rd st a (U.drop a) = .ok [] := by
  rw [List.drop_eq_nil_of_le h, rd]
theorem rd_pair {st : Int} {U : List Int} {a : Nat} (h : a + 1 < U.length) (h1 : high (U.getD a 0)) (h2 : low (U.getD (a + 1) 0)) :
    rd st a (U.drop a) = (rd st (a + 2) (U.drop (a + 2))).map ((65536 + (U.getD a 0 - 55296) * 1024 + U.getD (a + 1) 0 - 56320) :: ·) := by
  rw [drop_getD (by omega : a < U.length), drop_getD h, rd, if_pos ⟨h1, h2⟩]
theorem rd_one {st : Int} {U : List Int} {a : Nat} (h : a < U.length) (h1 : ¬ (high (U.getD a 0) ∧ a + 1 < U.length ∧ low (U.getD (a + 1) 0))) :
    rd st a (U.drop a) = one st a (U.getD a 0) (rd st (a + 1) (U.drop (a + 1))) := by
  rw [drop_getD h]
  by_cases h2 : a + 1 < U.length
  · rw [drop_getD h2, rd, if_neg (fun x => h1 ⟨x.1, h2, x.2⟩)]
  · rw [List.drop_eq_nil_of_le (by omega), rd, rd]
theorem map_map (k : Res) (f g : List Int → List Int) : (k.map f).map g = k.map (g ∘ f) := by cases k <;> rfl
/-- the bits left over come last -/
def rdAll (st en : Int) (U : List Int) (ok : Prop) [Decidable ok] : Res := match rd st 0 U with
  | .error e => .error e
  | .ok cs => if ok then .ok cs else .error (en - 1, mLeft)
end Mine
end PartL2

section PartA0
example : True := by
  w_top off
  trivial
open PySem PySem.W PyProof.Rows
set_option Elab.async false
namespace Mine
/-- a test that has come out, nothing else changed -/
def Tested (h₀ : Heap) (L : Addr) (m : Str → Option Value) (news : List (Addr × Obj)) (s : Shared) (P : Prop) (b : Bool) (s' : Shared) : Prop :=
  ∃ h' k, s' = { s with heap := h', toks := k } ∧ Fr h₀ L h' m ∧ News h₀ L h' news ∧ (b = true ↔ P)
section
variable {M : Model} {A : Around} {E : Value → Shared → Prop} {s : Shared} {h₀ : Heap} {L : Addr} {m : Str → Option Value} {news : List (Addr × Obj)} {x : Sem Bool} {Q : Bool → Shared → Prop}
theorem cut_test (P : Prop) (_F : Fr h₀ L s.heap m) (_N : News h₀ L s.heap news) (ht : wpAny M A x (fun b s2 => Tested h₀ L m news s P b s2) E s)
    (hy : ∀ h' k, Fr h₀ L h' m → News h₀ L h' news → P → Q true { s with heap := h', toks := k })
    (hn : ∀ h' k, Fr h₀ L h' m → News h₀ L h' news → ¬ P → Q false { s with heap := h', toks := k }) : wpAny M A x Q E s := by
  refine wpAny_mono ht (fun b s' h => ?_) fun _ _ e => e
  obtain ⟨h', k, rfl, F, N, hb⟩ := h
  cases b with
  | true => exact hy h' k F N (hb.mp rfl)
  | false => exact hn h' k F N fun p => Bool.false_ne_true (hb.mpr p)
theorem tested_ {P : Prop} {b : Bool} {h' : Heap} {k : Nat} (F : Fr h₀ L h' m) (N : News h₀ L h' news) (hb : b = true ↔ P) : Tested h₀ L m news s P b { s with heap := h', toks := k } := ⟨h', k, rfl, F, N, hb⟩
theorem yes_iff {P : Prop} (h : P) : (true = true) ↔ P := ⟨fun _ => h, fun _ => rfl⟩
theorem no_iff {P : Prop} (h : ¬ P) : (false = true) ↔ P := ⟨fun e => absurd e Bool.false_ne_true, fun p => absurd p h⟩
theorem dec_iff {P R : Prop} [Decidable R] (h : R ↔ P) : (decide R = true) ↔ P := by rw [decide_eq_true_eq]; exact h
end
end Mine
end PartA0

section PartA0b
example : True := by
  w_top off
  trivial
open PySem PySem.W PyProof.Rows PySem.Calls PySem.Spec
set_option Elab.async false
set_option maxRecDepth 100000
namespace Mine
/-- what holds behind a statement -/
def Mid {σ : Type} (h₀ : Heap) (L : Addr) (s : Shared) (Led : σ → List (Addr × Obj)) (ps : σ → List (Str × Value)) (P : σ → Prop) (f : Flow) (s' : Shared) : Prop :=
  f = .next ∧ ∃ c h' tk m' news', s' = { s with heap := h', toks := tk } ∧ Fr h₀ L h' m' ∧ News h₀ L h' news' ∧ (∀ p ∈ Led c, p ∈ news') ∧ (∀ p ∈ ps c, m' p.1 = some p.2) ∧ P c
section
variable {σ : Type} {M : Model} {prog : Program} {w : World} {A : Around} {E : Value → Shared → Prop} {s : Shared} {h₀ : Heap} {L : Addr} {x : Sem Flow} {Q : Flow → Shared → Prop}
theorem cut_ps (Led : σ → List (Addr × Obj)) (ps : σ → List (Str × Value)) (P : σ → Prop) (h1 : wpAny M A x (Mid h₀ L s Led ps P) E s)
    (h2 : ∀ (c : σ) u h' tk, P c → Fr h₀ L h' (kstB u (ps c)) → News h₀ L h' (Led c) → Q .next { s with heap := h', toks := tk }) : wpAny M A x Q E s := by
  refine wpAny_mono h1 (fun f s' h => ?_) fun _ _ e => e
  obtain ⟨rfl, c, h', tk, m', news', rfl, F, N, hn, hk, hp⟩ := h
  exact h2 c m' h' tk hp (fr_of F hk) fun p hp => N p (hn p hp)
theorem cut_psF {hh : Heap} {mm : Str → Option Value} (_F : Fr h₀ L hh mm) (Led : σ → List (Addr × Obj)) (ps : σ → List (Str × Value)) (P : σ → Prop) (h1 : wpAny M A x (Mid h₀ L s Led ps P) E s)
    (h2 : ∀ (c : σ) u h' tk, P c → Fr h₀ L h' (kstB u (ps c)) → News h₀ L h' (Led c) → Q .next { s with heap := h', toks := tk }) : wpAny M A x Q E s := cut_ps Led ps P h1 h2
theorem mid_ {Led : σ → List (Addr × Obj)} {ps : σ → List (Str × Value)} {P : σ → Prop} {h' : Heap} {tk : Nat} {m' : Str → Option Value} {news' : List (Addr × Obj)} (c : σ) (F : Fr h₀ L h' m') (N : News h₀ L h' news') (hn : ∀ p ∈ Led c, p ∈ news') (hk : ∀ p ∈ ps c, m' p.1 = some p.2) (hp : P c) :
    Mid h₀ L s Led ps P .next { s with heap := h', toks := tk } := ⟨rfl, c, h', tk, m', news', rfl, F, N, hn, hk, hp⟩
end
end Mine
end PartA0b

section PartA4
example : True := by
  w_top off
  trivial
open PySem PySem.W PyProof.Rows
set_option Elab.async false
namespace Mine
local macro_rules | `(tactic| omega) => `(tactic| first | (with_reducible assumption) | (with_reducible exact ⟨by assumption, by assumption, by assumption⟩) | (with_reducible refine mt And.left ?_; with_reducible assumption) | lia | omega +splitDisjunctions)
set_option maxRecDepth 100000
set_option maxHeartbeats 2000000
local macro_rules | `(tactic| walk_at "exec While") => `(tactic| (k_here; refine stop ?_))
local macro_rules | `(tactic| walk_at "pyIter") => `(tactic| (k_here; refine stop ?_))
local macro_rules | `(tactic| walk_at "pyIter bytes") => `(tactic| (k_here; refine stop ?_))
local macro_rules | `(tactic| walk_at "pyIter ref") => `(tactic| (k_here; refine stop ?_))
local macro_rules | `(tactic| walk_at "LoopPost") => `(tactic| (dsimp only [LoopPost]))
local macro_rules | `(tactic| walk_at "ForPost") => `(tactic| (dsimp only [ForPost]))
local macro_rules | `(tactic| walk_at "exec For") => `(tactic| (k_here; (with_reducible rename Fr _ _ _ _ => kF); (with_unfolding_all refine For_invVF kF (by rfl) (by rfl) ?_)))
local macro_rules | `(tactic| walk_at "call ref") => `(tactic| (k_here; first | ((with_reducible show wpAny _ _ (call (Value.ref 75) _) _ _ _); (k_dflt refine' use_bool ?k1 ?k2 ?k3 ?k4 ?k5 ?kK (runs_direct _ _ _ _) ?kd ?ku (fun h' tk' F' N' => ?_)); (case k1 => k_asm); (case k2 => k_asm); (case k3 => k_asm); (case k4 => k_asm); (case k5 => k_asm); (case kK => first | exact rfl | assumption); (case kd => ktr_room); (case ku => ktr_units); k_whole; try k_sweep) | refine stop ?_))
local macro_rules | `(tactic| walk_at "isTrue BoolOp") => `(tactic| (k_here; (with_reducible show wpAny _ _ (isTrue (PySem.Expr.BoolOp _ (_ :: _ :: _) _) _ _) _ _ _); refine stop ?_))
local macro_rules | `(tactic| k_all) => `(tactic| with_unfolding_all assumption)
theorem ufold_in (l : List Int) (hl : ∀ k ∈ l, isSign k = true) : UOk (ufold l) ∧ ∀ u ∈ (ufold l).1, 0 ≤ u ∧ u < 65536 := by
  have key : ∀ (vs : List Int) (a : List Int × Int × Int), (∀ v ∈ vs, 0 ≤ v ∧ v < 64) → UOk a → (∀ u ∈ a.1, 0 ≤ u ∧ u < 65536) → UOk (vs.foldl ustep a) ∧ ∀ u ∈ (vs.foldl ustep a).1, 0 ≤ u ∧ u < 65536 := by
    intro vs
    induction vs with
    | nil => intro a _ h1 h2; exact ⟨h1, h2⟩
    | cons v r ih =>
      intro a hv h1 h2
      have hv0 := hv v (List.mem_cons_self ..)
      refine ih _ (fun k hk => hv k (List.mem_cons_of_mem _ hk)) ?_ ?_
      · obtain ⟨U, rr, mn⟩ := a
        obtain ⟨a1, a2, a3, a4, a5⟩ := h1
        exact uok_step a1 a2 a3 a4 a5 hv0.1 hv0.2
      · obtain ⟨U, rr, mn⟩ := a
        obtain ⟨a1, a2, a3, a4, a5⟩ := h1
        dsimp only at a1 a2 a3 a4 a5 h2
        unfold ustep
        dsimp only
        split
        · rename_i hc
          intro u hu
          rcases List.mem_append.mp hu with hu | hu
          · exact h2 u hu
          · rw [List.mem_singleton.mp hu]
            have hp : (0 : Int) < 2 ^ (mn + 6 - 16).toNat := Int.pow_pos (by decide)
            refine ⟨Int.ediv_nonneg (by omega) (Int.le_of_lt hp), Int.ediv_lt_of_lt_mul hp ?_⟩
            have e1 : (65536 : Int) * 2 ^ (mn + 6 - 16).toNat = 2 ^ mn.toNat * 64 := by
              have h3 : mn.toNat + 6 = 16 + (mn + 6 - 16).toNat := by omega
              have h4 : (2 : Int) ^ (mn.toNat + 6) = 2 ^ (16 + (mn + 6 - 16).toNat) := by rw [h3]
              rw [Int.pow_add, Int.pow_add] at h4
              have h5 : (2 : Int) ^ 6 = 64 := by decide
              have h6 : (2 : Int) ^ 16 = 65536 := by decide
              rw [h5, h6] at h4
              exact h4.symm
            rw [e1]; omega
        · exact h2
  refine key (svals l) ([], 0, 0) ?_ uok0 (fun u hu => nomatch hu)
  intro v hv
  obtain ⟨k, hk, rfl⟩ := List.mem_map.mp hv
  obtain ⟨v, e⟩ := Option.isSome_iff_exists.mp (hl k hk)
  rw [e]; exact sval_bound e
def RdRep (cvs fvs : Array Value) (tl : List (Addr × Obj)) (acc : Res) : Prop := match acc with
  | .ok cs => fvs = #[] ∧ tl = [] ∧ IntsAre cvs.toList cs
  | .error e => ∃ t rest tk1 tk2, fvs.toList = .ref t :: rest ∧ tl = [(t, tupOf [.int e.1 tk1, .str e.2 tk2])]
def RdSame (st : Int) (U : List Int) (a : Nat) (acc : Res) : Prop := match acc with
  | .ok cs => rd st 0 U = (rd st a (U.drop a)).map (cs ++ ·)
  | .error e => rd st 0 U = .error e
def fail (acc : Res) (e : Int × Str) : Res := match acc with
  | .ok _ => .error e
  | .error e' => .error e'
theorem rep_fault {cvs fvs : Array Value} {tl : List (Addr × Obj)} {acc : Res} (h : RdRep cvs fvs tl acc) (D : Addr) (e : Int) (g : Str) (t1 t2 : Tok) (cvs' : Array Value) :
    ∃ tl', RdRep cvs' (fvs.push (.ref D)) tl' (fail acc (e, g)) ∧ ∀ p ∈ tl', p = (D, tupOf [.int e t1, .str g t2]) ∨ p ∈ tl := by
  cases acc with
  | ok cs =>
    obtain ⟨rfl, rfl, _⟩ := h
    exact ⟨[(D, tupOf [.int e t1, .str g t2])], ⟨D, [], t1, t2, rfl, rfl⟩, fun p hp => Or.inl (List.mem_singleton.mp hp)⟩
  | error e' =>
    obtain ⟨t, rest, k1, k2, h1, rfl⟩ := h
    exact ⟨_, ⟨t, rest ++ [.ref D], k1, k2, by rw [Array.toList_push, h1]; rfl, rfl⟩, fun p hp => Or.inr hp⟩
theorem rep_faultN {h₀ h' : Heap} {L : Addr} {a : Addr × Obj} {r : List (Addr × Obj)} {cvs fvs : Array Value} {tl : List (Addr × Obj)} {acc : Res} {D : Addr} {e : Int} {g : Str} {t1 t2 : Tok} (_ : News h₀ L h' (a :: (D, tupOf [.int e t1, .str g t2]) :: r)) (h : RdRep cvs fvs tl acc) (cvs' : Array Value) :
    ∃ tl', RdRep cvs' (fvs.push (.ref D)) tl' (fail acc (e, g)) ∧ ∀ p ∈ tl', p = (D, tupOf [.int e t1, .str g t2]) ∨ p ∈ tl := rep_fault h D e g t1 t2 cvs'
theorem rep_code {cvs fvs : Array Value} {tl : List (Addr × Obj)} {acc : Res} (h : RdRep cvs fvs tl acc) (c : Int) (t : Tok) :
    RdRep (cvs.push (.int c t)) fvs tl (acc.map (· ++ [c])) := by
  cases acc with
  | ok cs =>
    obtain ⟨rfl, rfl, h3⟩ := h
    exact ⟨rfl, rfl, ints_pushA h3 c t⟩
  | error e' => exact h
theorem same_fault {st : Int} {U : List Int} {a : Nat} {acc : Res} {e : Int × Str} (h : RdSame st U a acc) (h1 : rd st a (U.drop a) = .error e) (a' : Nat) : RdSame st U a' (fail acc e) := by
  cases acc with
  | ok cs =>
    unfold RdSame at h ⊢
    rw [h1] at h
    exact h
  | error e' => exact h
theorem same_code {st : Int} {U : List Int} {a a' : Nat} {acc : Res} {c : Int} (h : RdSame st U a acc) (h1 : rd st a (U.drop a) = (rd st a' (U.drop a')).map (c :: ·)) : RdSame st U a' (acc.map (· ++ [c])) := by
  cases acc with
  | ok cs =>
    show rd st 0 U = _
    have h0 : rd st 0 U = _ := h
    rw [h0, h1, map_map]
    congr 1
    funext l
    simp
  | error e' => exact h
theorem mem_fault {d x a b c : Addr × Obj} {tl tl' news : List (Addr × Obj)} (h : ∀ p ∈ tl', p = d ∨ p ∈ tl) : ∀ p ∈ a :: b :: c :: (tl' ++ news), p ∈ d :: x :: a :: b :: c :: (tl ++ news) := fun p hp => by
  simp only [List.mem_cons, List.mem_append] at hp ⊢
  rcases hp with h1 | h1 | h1 | h1 | h1
  · simp [h1]
  · simp [h1]
  · simp [h1]
  · rcases h p h1 with h2 | h2 <;> simp [h2]
  · simp [h1]
theorem mem_code {x a b c : Addr × Obj} {l : List (Addr × Obj)} : ∀ p ∈ a :: b :: c :: l, p ∈ x :: a :: b :: c :: l := fun p hp => .tail _ hp
theorem tl_fault {D f : Addr} {o : Obj} {tl tl' : List (Addr × Obj)} (h : ∀ p ∈ tl', p = (D, o) ∨ p ∈ tl) (hD : f < D) (ht : ∀ p ∈ tl, f < p.1) : ∀ p ∈ tl', f < p.1 := fun p hp => by
  rcases h p hp with rfl | h2
  · exact hD
  · exact ht p h2
theorem ufold_len (l : List Int) : (ufold l).1.length ≤ l.length := by
  have key : ∀ (vs : List Int) (a : List Int × Int × Int), (vs.foldl ustep a).1.length ≤ a.1.length + vs.length := by
    intro vs
    induction vs with
    | nil => intro a; exact Nat.le_refl _
    | cons v r ih =>
      intro a
      have h1 := ih (ustep a v)
      have h2 := ustep_len a v
      rw [List.foldl_cons, List.length_cons]; omega
  have := key (svals l) ([], 0, 0)
  unfold ufold svals at *
  simp at this ⊢
  omega
def ReadRet (x y : Int) (U : List Int) (ok : Prop) [Decidable ok] (r : Value) (tl : List (Addr × Obj)) : Prop :=
  ∃ rt lc lf cvs nc fvs nf tl', tl = (rt, tupOf [.ref lc, .ref lf]) :: (lc, listOf cvs nc) :: (lf, listOf fvs nf) :: tl' ∧ r = .ref rt ∧ RdRep cvs fvs tl' (rdAll x y U ok) ∧ lc < lf ∧ lf < rt ∧ cvs.size ≤ 1000001 ∧ fvs.size ≤ 1000001 ∧ (∀ p ∈ tl', lf < p.1 ∧ p.1 < rt)
theorem same_done {st en : Int} {U : List Int} {a : Nat} {acc : Res} (h : RdSame st U a acc) (ha : U.length ≤ a) (ok : Prop) [Decidable ok] (hz : ok) : rdAll st en U ok = acc := by
  unfold rdAll
  cases acc with
  | ok cs =>
    have h0 : rd st 0 U = _ := h
    rw [h0, rd_end ha]
    show (if ok then Except.ok (cs ++ []) else _) = _
    rw [if_pos hz, List.append_nil]
  | error e =>
    have h0 : rd st 0 U = _ := h
    rw [h0]
theorem same_left {st en : Int} {U : List Int} {a : Nat} {acc : Res} (h : RdSame st U a acc) (ha : U.length ≤ a) (ok : Prop) [Decidable ok] (hz : ¬ ok) : rdAll st en U ok = fail acc (en - 1, mLeft) := by
  unfold rdAll
  cases acc with
  | ok cs =>
    have h0 : rd st 0 U = _ := h
    rw [h0, rd_end ha]
    show (if ok then _ else _) = _
    rw [if_neg hz]; rfl
  | error e =>
    have h0 : rd st 0 U = _ := h
    rw [h0]; rfl
theorem one_lone {st : Int} {a : Nat} {u : Int} {k : Res} (h : high u ∨ low u) : one st a u k = .error (st + ((a : Int) * 16).fdiv 6, mLone) := by unfold one; rw [if_pos h]
theorem one_need {st : Int} {a : Nat} {u : Int} {k : Res} (h : 32 ≤ u ∧ u ≤ 126) : one st a u k = .error (st + ((a : Int) * 16).fdiv 6, mNeed) := by
  unfold one; rw [if_neg (by unfold high low; omega), if_pos h]
theorem one_plain {st : Int} {a : Nat} {u : Int} {k : Res} (h : ¬ (high u ∨ low u)) (h2 : ¬ (32 ≤ u ∧ u ≤ 126)) : one st a u k = k.map (u :: ·) := by
  unfold one; rw [if_neg h, if_neg h2]
abbrev RSt := Array Value × Nat × Array Value × Nat × List (Addr × Obj) × (Int × Tok) × Res
def RLed (lc lf : Addr) (lu : Addr × Obj) (news : List (Addr × Obj)) (c : RSt) : List (Addr × Obj) := (lc, listOf c.1 c.2.1) :: (lf, listOf c.2.2.1 c.2.2.2.1) :: lu :: (c.2.2.2.2.1 ++ news)
def RPs (x : Int) (t : Tok) (y : Int) (t2 : Tok) (lu lc lf : Addr) (z : Bool) (c : RSt) : List (Str × Value) := [(Str.ofString "start", .int x t), (Str.ofString "end", .int y t2), (Str.ofString "is_mail", .bool true), (Str.ofString "units", .ref lu), (Str.ofString "is_even", .bool z), (Str.ofString "codes", .ref lc), (Str.ofString "faults", .ref lf), (Str.ofString "at", .int c.2.2.2.2.2.1.1 c.2.2.2.2.2.1.2)]
def RP (x : Int) (U : List Int) (lf : Addr) (c : RSt) : Prop := 0 ≤ c.2.2.2.2.2.1.1 ∧ c.2.2.2.2.2.1.1 ≤ U.length ∧ (c.1.size : Int) ≤ c.2.2.2.2.2.1.1 ∧ (c.2.2.1.size : Int) ≤ c.2.2.2.2.2.1.1 ∧ (∀ p ∈ c.2.2.2.2.1, lf < p.1) ∧ RdRep c.1 c.2.2.1 c.2.2.2.2.1 c.2.2.2.2.2.2 ∧ RdSame x U c.2.2.2.2.2.1.1.toNat c.2.2.2.2.2.2
def Rmu (U : List Int) (c : RSt) : Nat := U.length - c.2.2.2.2.2.1.1.toNat
section
variable {h₀ : Heap} {L : Addr} {s s₂ : Shared} {x y : Int} {t t2 : Tok} {lu lc lf D : Addr} {z : Bool} {U : List Int} {cvs fvs : Array Value} {nc nf : Nat} {tl news : List (Addr × Obj)} {k : Int} {acc : Res} {lux xx : Addr × Obj} {m' : Str → Option Value} {h' : Heap} {tk' : Nat} {tk9 : Tok}
theorem read_fault {e : Int} {g : Str} {t1 t3 : Tok} {v : Value} (F : Fr h₀ L h' m') (N : News h₀ L h' ((D, tupOf [.int e t1, .str g t3]) :: xx :: (lc, listOf (cvs.push v) (nc + 1)) :: (lf, listOf (fvs.push (.ref D)) (nf + 1)) :: lux :: (tl ++ news))) (hk : ∀ p ∈ RPs x t y t2 lu lc lf z (cvs, nc, fvs, nf, tl, (k + 1, tk9), acc), m' p.1 = some p.2)
    (hp0 : 0 ≤ k) (hp1 : k < U.length) (hp2 : (cvs.size : Int) ≤ k) (hp3 : (fvs.size : Int) ≤ k) (htl : ∀ p ∈ tl, lf < p.1) (hrep : RdRep cvs fvs tl acc) (hsame : RdSame x U k.toNat acc) (hD : lf < D) (he : rd x k.toNat (U.drop k.toNat) = .error (e, g)) :
    LoopEnd h₀ L s (RLed lc lf lux news) (RPs x t y t2 lu lc lf z) (RP x U lf) (Rmu U) (U.length - k.toNat) { s with heap := h', toks := tk' } := by
  obtain ⟨tl', r1, r2⟩ := rep_fault hrep D e g t1 t3 (cvs.push v)
  refine loop_end (cvs.push v, nc + 1, fvs.push (.ref D), nf + 1, tl', (k + 1, tk9), fail acc (e, g)) F N (mem_fault r2) hk ⟨?_, ?_, ?_, ?_, tl_fault r2 hD htl, r1, same_fault hsame he _⟩ ?_
  · show 0 ≤ k + 1; omega
  · show k + 1 ≤ U.length; omega
  · show ((cvs.push v).size : Int) ≤ k + 1; rw [Array.size_push]; omega
  · show ((fvs.push (.ref D)).size : Int) ≤ k + 1; rw [Array.size_push]; omega
  · exact Nat.sub_lt_sub_left ((Int.toNat_lt hp0).mpr hp1) (by rw [Int.toNat_add hp0 (by decide)]; exact Nat.lt_succ_self _)
theorem read_code {k' c : Int} {t1 : Tok} (F : Fr h₀ L h' m') (N : News h₀ L h' (xx :: (lc, listOf (cvs.push (.int c t1)) (nc + 1)) :: (lf, listOf fvs nf) :: lux :: (tl ++ news))) (hk : ∀ p ∈ RPs x t y t2 lu lc lf z (cvs, nc, fvs, nf, tl, (k', tk9), acc), m' p.1 = some p.2)
    (hp0 : 0 ≤ k) (hp1 : k < k') (hp4 : k' ≤ U.length) (hp2 : (cvs.size : Int) ≤ k) (hp3 : (fvs.size : Int) ≤ k) (htl : ∀ p ∈ tl, lf < p.1) (hrep : RdRep cvs fvs tl acc) (hsame : RdSame x U k.toNat acc) (he : rd x k.toNat (U.drop k.toNat) = (rd x k'.toNat (U.drop k'.toNat)).map (c :: ·)) :
    LoopEnd h₀ L s (RLed lc lf lux news) (RPs x t y t2 lu lc lf z) (RP x U lf) (Rmu U) (U.length - k.toNat) { s with heap := h', toks := tk' } := by
  refine loop_end (cvs.push (.int c t1), nc + 1, fvs, nf, tl, (k', tk9), acc.map (· ++ [c])) F N mem_code hk ⟨?_, ?_, ?_, ?_, htl, rep_code hrep c t1, same_code hsame he⟩ ?_
  · show 0 ≤ k'; omega
  · exact hp4
  · show ((cvs.push _).size : Int) ≤ k'; rw [Array.size_push]; omega
  · show (fvs.size : Int) ≤ k'; omega
  · exact Nat.sub_lt_sub_left ((Int.toNat_lt hp0).mpr (Int.lt_of_lt_of_le hp1 hp4)) ((Int.toNat_lt_toNat (Int.lt_of_le_of_lt hp0 hp1)).mpr hp1)
theorem retL {m : Str → Option Value} {Q : Value → Shared → Prop} {Ret : Value → List (Addr × Obj) → Prop} {r : Value} {tl news' : List (Addr × Obj)}
    (h : ∀ r tl h' tk', Fr h₀ L h' m → News h₀ L h' (tl ++ news) → (∀ q ∈ news, ∀ p ∈ tl, q.1 < p.1) → Ret r tl → Q r { s with heap := h', toks := tk' })
    (F : Fr h₀ L h' m) (N : News h₀ L h' news') (hs : ∀ p ∈ tl ++ news, p ∈ news') (hl : ∀ q ∈ news, ∀ p ∈ tl, q.1 < p.1) (hr : Ret r tl) : Q r { s with heap := h', toks := tk' } := h r tl h' tk' F (fun p hp => N p (hs p hp)) hl hr
end
theorem runs_read (w : World) (b : Array UInt8) (ks : List Int) (tb : Tok) (x y : Int) (t t2 : Tok) (news : List (Addr × Obj)) (hbi : KBw.bInts b = ks) (hbl : ks.length ≤ 1000000) (hx : 0 ≤ x) (hy : x ≤ y) (hy2 : y ≤ ks.length)
    (hv : ∀ k ∈ cut ks x y, isSign k = true) : Runs w 96 [.bytes b tb, .int x t, .int y t2, .bool true] 3 news (ReadRet x y (ufold (cut ks x y)).1 ((ufold (cut ks x y)).2.2 < 6 ∧ (ufold (cut ks x y)).2.1 = 0)) := by
  unfold Runs
  k_fill
  intro p loose mean mg mb dp un gd cn cs a ccd cl outer A₀ base h₀ L m s Q E B F X N T hk hd hu hret
  refine wpAny_call ?_
  k_dflt cell_enter
  k_steps
  unfold Stop
  k_dflt refine' use_units ?k1 ?k2 ?k3 ?k4 ?k5 ?kK hbi hbl hx hy hy2 hv ?kd ?ku (fun _ _ rt lu us nn z _ _ kl1 kl2 kz kI => ?_)
  case k1 => k_asm
  case k2 => k_asm
  case k3 => k_asm
  case k4 => k_asm
  case k5 => k_asm
  case kK => exact rfl
  case kd => ktr_room
  case ku => ktr_units
  k_whole
  k_steps
  rename_i _ _ _ t0 lc _ _ lf _ hl1 _ _ _ _ _ _ _ F' N'
  unfold Stop
  obtain ⟨_, hUb⟩ := ufold_in _ hv
  have hUlen := kI.length
  have hul : (ufold (cut ks x y)).1.length ≤ 1000000 := by
    exact Nat.le_trans (ufold_len _) (cut_len hbl)
  generalize hU : (ufold (cut ks x y)).1 = U at kI hUb hUlen hul hret
  have hcf : lc < lf := hl1.1
  have hlnews : ∀ p ∈ news, p.1 < lc := fun p hp => Nat.lt_trans (kl1 p hp) (by rename (rt < lc ∧ lu < lc ∧ AllLt lc news) => q; exact q.2.1)
  with_unfolding_all refine' while_ps (σ := RSt) (RLed lc lf (lu, listOf us.toArray nn) news) (RPs x t y t2 lu lc lf z) (RP x U lf) (Rmu U) (#[], 0, #[], 0, [], (0, t0), .ok []) F' N' ?kn ?kk ?kp ?turn ?hE
  case kn => intro p hp; simp only [RLed, List.mem_cons, List.mem_append, List.not_mem_nil, false_or] at hp ⊢; rcases hp with h1 | h1 | h1 | h1 <;> simp [h1]
  case kk => dsimp only [RPs]; kst_all
  case kp =>
    refine ⟨Int.le_refl _, by dsimp only; omega, Int.le_refl _, Int.le_refl _, fun p hp => (nomatch hp), ⟨rfl, rfl, .nil⟩, ?_⟩
    show rd x 0 U = (rd x 0 U).map ([] ++ ·)
    cases rd x 0 U <;> rfl
  case hE => with_unfolding_all passes_own
  case turn =>
    rintro ⟨cvs, nc, fvs, nf, tl, ⟨k, tc⟩, acc⟩ u h tk ⟨hp0, hp1, hp2, hp3, htl, hrep, hsame⟩ F' N'
    have eL : RLed lc lf (lu, listOf us.toArray nn) news (cvs, nc, fvs, nf, tl, (k, tc), acc) = (lc, listOf cvs nc) :: (lf, listOf fvs nf) :: (lu, listOf us.toArray nn) :: (tl ++ news) := rfl
    have eP : RPs x t y t2 lu lc lf z (cvs, nc, fvs, nf, tl, (k, tc), acc) = [(Str.ofString "start", .int x t), (Str.ofString "end", .int y t2), (Str.ofString "is_mail", .bool true), (Str.ofString "units", .ref lu), (Str.ofString "is_even", .bool z), (Str.ofString "codes", .ref lc), (Str.ofString "faults", .ref lf), (Str.ofString "at", .int k tc)] := rfl
    have eM : Rmu U (cvs, nc, fvs, nf, tl, (k, tc), acc) = U.length - k.toNat := rfl
    rw [eL] at N'
    rw [eP] at F'
    rw [eM]
    dsimp only at hp0 hp1 hp2 hp3 htl hrep hsame F' N' ⊢
    have hnlc : ∀ p ∈ tl ++ news, p.1 ≠ lc := fun p hp => (List.mem_append.mp hp).elim (fun h => Nat.ne_of_gt (Nat.lt_trans hcf (htl p h))) fun h => Nat.ne_of_lt (hlnews p h)
    have hnlf : ∀ p ∈ tl ++ news, p.1 ≠ lf := fun p hp => (List.mem_append.mp hp).elim (fun h => Nat.ne_of_gt (htl p h)) fun h => Nat.ne_of_lt (Nat.lt_trans (hlnews p h) hcf)
    have hk1 : (k + 1).toNat = k.toNat + 1 := by omega
    have hk2 : (k + 2).toNat = k.toNat + 2 := by omega
    have hkk : ((k.toNat : Nat) : Int) = k := Int.toNat_of_nonneg hp0
    k_steps
    · unfold Stop
      refine' cut_test (high (U.getD k.toNat 0) ∧ k + 1 < U.length ∧ low (U.getD (k + 1).toNat 0)) (by k_asm) (by k_asm) ?t1 ?y1 ?n1
      case t1 =>
        clear hrep hsame htl hnlc hnlf hlnews
        refine isTrue_and ?_
        k_steps
        repeat' ((unfold Stop); (first | (refine isTrue_and ?_) | (refine isTrue_or ?_) | ((with_reducible show wpAny _ _ (call (Value.ref 54) _) _ _ _); (k_dflt refine' use_bool ?k1 ?k2 ?k3 ?k4 ?k5 ?kK (runs_high _ _ _ _) ?kd ?ku (fun _ _ _ _ => ?_)); (case k1 => k_asm); (case k2 => k_asm); (case k3 => k_asm); (case k4 => k_asm); (case k5 => k_asm); (case kK => first | exact rfl | assumption); (case kd => ktr_room); (case ku => ktr_units); k_whole; try k_sweep) | ((with_reducible show wpAny _ _ (call (Value.ref 61) _) _ _ _); (k_dflt refine' use_bool ?k1 ?k2 ?k3 ?k4 ?k5 ?kK (runs_low _ _ _ _) ?kd ?ku (fun _ _ _ _ => ?_)); (case k1 => k_asm); (case k2 => k_asm); (case k3 => k_asm); (case k4 => k_asm); (case k5 => k_asm); (case kK => first | exact rfl | assumption); (case kd => ktr_room); (case ku => ktr_units); k_whole; try k_sweep) | ((with_reducible show wpAny _ _ (call (Value.ref 75) _) _ _ _); (k_dflt refine' use_bool ?k1 ?k2 ?k3 ?k4 ?k5 ?kK (runs_direct _ _ _ _) ?kd ?ku (fun _ _ _ _ => ?_)); (case k1 => k_asm); (case k2 => k_asm); (case k3 => k_asm); (case k4 => k_asm); (case k5 => k_asm); (case kK => first | exact rfl | assumption); (case kd => ktr_room); (case ku => ktr_units); k_whole; try k_sweep)); (try k_steps))
        all_goals first | exact tested_ (by k_asm) (by k_asm) (yes_iff (by unfold high low; omega)) | exact tested_ (by k_asm) (by k_asm) (no_iff (by unfold high low; omega)) | exact tested_ (by k_asm) (by k_asm) (dec_iff (by unfold high low; omega))
      case y1 =>
        intro _ _ _ _ hP
        k_steps
        repeat' ((unfold Stop); (first | ((with_reducible show wpAny _ _ (call (Value.ref 54) _) _ _ _); (k_dflt refine' use_bool ?k1 ?k2 ?k3 ?k4 ?k5 ?kK (runs_high _ _ _ _) ?kd ?ku (fun _ _ _ _ => ?_)); (case k1 => k_asm); (case k2 => k_asm); (case k3 => k_asm); (case k4 => k_asm); (case k5 => k_asm); (case kK => first | exact rfl | assumption); (case kd => ktr_room); (case ku => ktr_units); k_whole; try k_sweep) | ((with_reducible show wpAny _ _ (call (Value.ref 61) _) _ _ _); (k_dflt refine' use_bool ?k1 ?k2 ?k3 ?k4 ?k5 ?kK (runs_low _ _ _ _) ?kd ?ku (fun _ _ _ _ => ?_)); (case k1 => k_asm); (case k2 => k_asm); (case k3 => k_asm); (case k4 => k_asm); (case k5 => k_asm); (case kK => first | exact rfl | assumption); (case kd => ktr_room); (case ku => ktr_units); k_whole; try k_sweep) | ((with_reducible show wpAny _ _ (call (Value.ref 75) _) _ _ _); (k_dflt refine' use_bool ?k1 ?k2 ?k3 ?k4 ?k5 ?kK (runs_direct _ _ _ _) ?kd ?ku (fun _ _ _ _ => ?_)); (case k1 => k_asm); (case k2 => k_asm); (case k3 => k_asm); (case k4 => k_asm); (case k5 => k_asm); (case kK => first | exact rfl | assumption); (case kd => ktr_room); (case ku => ktr_units); k_whole; try k_sweep)); (try k_steps))
        have e := rd_pair (st := x) (U := U) (a := k.toNat) (by omega) hP.1 (by rw [← hk1]; exact hP.2.2)
        exact read_code (by assumption) (by assumption) (by dsimp only [RPs]; kst_all) hp0 (by omega) (by omega) hp2 hp3 htl hrep hsame (by rw [hk2, hk1]; exact e)
      case n1 =>
        intro _ _ _ _ hP
        have e := rd_one (st := x) (U := U) (a := k.toNat) (by omega) (fun x => hP ⟨x.1, by omega, by rw [hk1]; exact x.2.2⟩)
        clear hP
        k_steps
        unfold Stop
        refine' cut_test (high (U.getD k.toNat 0) ∨ low (U.getD k.toNat 0)) (by k_asm) (by k_asm) ?t2 ?y2 ?n2
        case t2 =>
          clear hrep hsame htl hnlc hnlf hlnews
          refine isTrue_or ?_
          k_steps
          repeat' ((unfold Stop); (first | (refine isTrue_and ?_) | (refine isTrue_or ?_) | ((with_reducible show wpAny _ _ (call (Value.ref 54) _) _ _ _); (k_dflt refine' use_bool ?k1 ?k2 ?k3 ?k4 ?k5 ?kK (runs_high _ _ _ _) ?kd ?ku (fun _ _ _ _ => ?_)); (case k1 => k_asm); (case k2 => k_asm); (case k3 => k_asm); (case k4 => k_asm); (case k5 => k_asm); (case kK => first | exact rfl | assumption); (case kd => ktr_room); (case ku => ktr_units); k_whole; try k_sweep) | ((with_reducible show wpAny _ _ (call (Value.ref 61) _) _ _ _); (k_dflt refine' use_bool ?k1 ?k2 ?k3 ?k4 ?k5 ?kK (runs_low _ _ _ _) ?kd ?ku (fun _ _ _ _ => ?_)); (case k1 => k_asm); (case k2 => k_asm); (case k3 => k_asm); (case k4 => k_asm); (case k5 => k_asm); (case kK => first | exact rfl | assumption); (case kd => ktr_room); (case ku => ktr_units); k_whole; try k_sweep) | ((with_reducible show wpAny _ _ (call (Value.ref 75) _) _ _ _); (k_dflt refine' use_bool ?k1 ?k2 ?k3 ?k4 ?k5 ?kK (runs_direct _ _ _ _) ?kd ?ku (fun _ _ _ _ => ?_)); (case k1 => k_asm); (case k2 => k_asm); (case k3 => k_asm); (case k4 => k_asm); (case k5 => k_asm); (case kK => first | exact rfl | assumption); (case kd => ktr_room); (case ku => ktr_units); k_whole; try k_sweep)); (try k_steps))
          all_goals first | exact tested_ (by k_asm) (by k_asm) (yes_iff (by unfold high low; omega)) | exact tested_ (by k_asm) (by k_asm) (no_iff (by unfold high low; omega)) | exact tested_ (by k_asm) (by k_asm) (dec_iff (by unfold high low; omega))
        case y2 =>
          intro _ _ _ _ hP
          rw [one_lone hP, hkk] at e
          k_steps
          rename (_ < _ ∧ lc < _ ∧ lf < _ ∧ lu < _ ∧ AllLt _ (tl ++ news)) => q
          exact read_fault (by assumption) (by assumption) (by dsimp only [RPs]; kst_all) hp0 (by omega) hp2 hp3 htl hrep hsame q.2.2.1 e
        case n2 =>
          intro _ _ _ _ hP
          k_steps
          unfold Stop
          refine' cut_test (32 ≤ U.getD k.toNat 0 ∧ U.getD k.toNat 0 ≤ 126) (by k_asm) (by k_asm) ?t3 ?y3 ?n3
          case t3 =>
            clear hrep hsame htl hnlc hnlf hlnews
            refine isTrue_and ?_
            k_steps
            repeat' ((unfold Stop); (first | (refine isTrue_and ?_) | (refine isTrue_or ?_) | ((with_reducible show wpAny _ _ (call (Value.ref 54) _) _ _ _); (k_dflt refine' use_bool ?k1 ?k2 ?k3 ?k4 ?k5 ?kK (runs_high _ _ _ _) ?kd ?ku (fun _ _ _ _ => ?_)); (case k1 => k_asm); (case k2 => k_asm); (case k3 => k_asm); (case k4 => k_asm); (case k5 => k_asm); (case kK => first | exact rfl | assumption); (case kd => ktr_room); (case ku => ktr_units); k_whole; try k_sweep) | ((with_reducible show wpAny _ _ (call (Value.ref 61) _) _ _ _); (k_dflt refine' use_bool ?k1 ?k2 ?k3 ?k4 ?k5 ?kK (runs_low _ _ _ _) ?kd ?ku (fun _ _ _ _ => ?_)); (case k1 => k_asm); (case k2 => k_asm); (case k3 => k_asm); (case k4 => k_asm); (case k5 => k_asm); (case kK => first | exact rfl | assumption); (case kd => ktr_room); (case ku => ktr_units); k_whole; try k_sweep) | ((with_reducible show wpAny _ _ (call (Value.ref 75) _) _ _ _); (k_dflt refine' use_bool ?k1 ?k2 ?k3 ?k4 ?k5 ?kK (runs_direct _ _ _ _) ?kd ?ku (fun _ _ _ _ => ?_)); (case k1 => k_asm); (case k2 => k_asm); (case k3 => k_asm); (case k4 => k_asm); (case k5 => k_asm); (case kK => first | exact rfl | assumption); (case kd => ktr_room); (case ku => ktr_units); k_whole; try k_sweep)); (try k_steps))
            all_goals first | exact tested_ (by k_asm) (by k_asm) (yes_iff (by omega)) | exact tested_ (by k_asm) (by k_asm) (no_iff (by omega)) | exact tested_ (by k_asm) (by k_asm) (dec_iff (by omega))
          case y3 =>
            intro _ _ _ _ hP3
            rw [one_need hP3, hkk] at e
            k_steps
            rename (_ < _ ∧ lc < _ ∧ lf < _ ∧ lu < _ ∧ AllLt _ (tl ++ news)) => q
            exact read_fault (by assumption) (by assumption) (by dsimp only [RPs]; kst_all) hp0 (by omega) hp2 hp3 htl hrep hsame q.2.2.1 e
          case n3 =>
            intro _ _ _ _ hP3
            rw [one_plain hP hP3] at e
            k_steps
            exact read_code (by assumption) (by assumption) (by dsimp only [RPs]; kst_all) hp0 (by omega) (by omega) hp2 hp3 htl hrep hsame (by rw [hk1]; exact e)
    · rename_i D9 h9 F9 N9 l9 kF9 kN9 T9 X9
      rename (z = true) => hz
      rw [hz] at kz
      refine retL (tl := (D9, tupOf [.ref lc, .ref lf]) :: (lc, listOf cvs nc) :: (lf, listOf fvs nf) :: tl) hret kF9 kN9 ?_ ?_ ⟨D9, lc, lf, cvs, nc, fvs, nf, tl, rfl, rfl, ?_, hcf, l9.2.1, by omega, by omega, fun p hp => ⟨htl p hp, allLt_mem l9.2.2.2 p (List.mem_append_left _ hp)⟩⟩
      · intro p hp; simp only [List.cons_append, List.mem_cons, List.mem_append] at hp ⊢; rcases hp with h1 | h1 | h1 | h1 | h1 <;> simp [h1]
      · intro q hq p hp
        have := hlnews q hq
        simp only [List.mem_cons] at hp
        rcases hp with rfl | rfl | rfl | h1
        · exact Nat.lt_trans this l9.1
        · exact this
        · exact Nat.lt_trans this hcf
        · exact Nat.lt_trans (Nat.lt_trans this hcf) (htl p h1)
      · rw [same_done hsame (by omega) _ (of_decide_eq_true kz.symm)]; exact hrep
    · rename_i hz D1 h3 q1 h2 tkA h1 D9 h9 F9 N9 l9 kF9 kN9 T9 X9
      rw [hz] at kz
      obtain ⟨tl', r1, r2⟩ := rep_faultN kN9 hrep (cvs.push .none)
      refine retL (tl := (D9, tupOf [.ref lc, .ref lf]) :: (lc, listOf (cvs.push .none) (nc + 1)) :: (lf, listOf (fvs.push (.ref D1)) (nf + 1)) :: tl') hret kF9 kN9 ?_ ?_ ⟨D9, lc, lf, _, _, _, _, tl', rfl, rfl, ?_, hcf, l9.2.2.1, by rw [Array.size_push]; omega, by rw [Array.size_push]; omega, fun p hp => ⟨tl_fault r2 q1.2.1 htl p hp, ?_⟩⟩
      · intro p hp; simp only [List.cons_append, List.mem_cons, List.mem_append] at hp ⊢; rcases hp with h1 | h1 | h1 | h1 | h1
        · simp [h1]
        · simp [h1]
        · simp [h1]
        · rcases r2 p h1 with h2 | h2 <;> simp [h2]
        · simp [h1]
      · intro q hq p hp
        have := hlnews q hq
        simp only [List.mem_cons] at hp
        rcases hp with rfl | rfl | rfl | h1
        · exact Nat.lt_trans this l9.2.1
        · exact this
        · exact Nat.lt_trans this hcf
        · exact Nat.lt_trans (Nat.lt_trans this hcf) (tl_fault r2 q1.2.1 htl p h1)
      · rw [same_left hsame (by omega) _ (of_decide_eq_false kz.symm)]; exact r1
      · rcases r2 p hp with rfl | h2
        · exact l9.1
        · exact allLt_mem l9.2.2.2.2 p (List.mem_append_left _ h2)
end Mine
end PartA4

section PartX1
example : True := by
  w_top off
  trivial
open PySem PySem.W PyProof.Rows
set_option Elab.async false
namespace Mine
theorem dict_fields (f : Array Value → Array Value) (o : Obj) : (Obj.mapFields f o).dict = o.dict := by
  obtain ⟨c, d, dt, sl⟩ := o
  cases dt <;> rfl
/-- an exception on its way, with the dict of its fields -/
def HeldD (base : Heap) (l : List Env) (e : Addr) (cls a0 : Value) (dd : Option Addr) (fl : Value) (h : Heap) : Prop :=
  base.StaysIn h ∧ base.get? e = none ∧ h.FunFrames base l ∧
    ∃ oe vs T oT ts, h.get? e = some oe ∧ oe.cls = cls ∧ oe.dict = dd ∧ vs[0]? = some a0 ∧ oe.data = .fields vs ∧ vs[1]? = some (.ref T) ∧ base.get? T = none ∧ T ≠ e ∧ h.get? T = some oT ∧ oT.data = .fields ts ∧ ts[3]? = some fl
section
variable {M : Model} {A : Around} {E : Value → Shared → Prop} {s : Shared} {base : Heap} {env : Env} {outer l : List Env} {L e : Addr} {cls a0 fl : Value} {dd : Option Addr}
theorem held_up {h : Heap} (x : HeldD base (env :: outer) e cls a0 dd fl h) : HeldD base outer e cls a0 dd fl h :=
  let ⟨a, b, ⟨_, _, c⟩, d⟩ := x; ⟨a, b, c, d⟩
theorem entry_d {oe : Obj} {vs : Array Value} {head : Value} {hadNext : Bool} {Q : Unit → Shared → Prop}
    (hfr : A.frames = some (env :: outer)) (hl : s.heap.FunFrames base (env :: outer)) (hf : env.frame = some L)
    (he : s.heap.get? e = some oe) (hkb : base.StaysIn s.heap) (hen : base.get? e = none) (hd : oe.data = .fields vs) (hsz : 1 < vs.size) (h0 : vs[0]? = some a0)
    (h : ∀ h', HeldD base (env :: outer) e oe.cls a0 oe.dict (rawInt L) h' → s.heap.UpToSlots h' → Q () { s with heap := h' }) :
    wpAny M A (do let a ← frameOf env; let pl ← entryPlaceOf L hadNext; let b ← EntryCells.newEntry head a .none (rawInt L) .none pl; setField (.ref e) 1 b) Q E s := by
  have hene : e ∉ (env :: outer).filterMap (·.frame) := fun hm => by
    obtain ⟨_, o, ho, hnf⟩ := hl.mem hm
    rw [he] at ho; cases ho; exact hnf vs hd
  refine wpAny_bind (wpAny_frameOf_fun hfr hl hf fun h₁ hs₁ => ?_)
  refine wpAny_bind (wpAny_entryPlaceOf fun pl hpl => ?_)
  unfold EntryCells.newEntry newFields
  refine wpAny_bind (wpAny_newObj_type ?_ (hpl.sizeOk5 _ _ _ _ _))
  generalize hO : ({ cls := .type "traceback", dict := none, data := .fields ([head, .ref L, .none, rawInt L, .none] ++ (if pl.isEmpty then List.replicate 6 Value.none else pl)).toArray } : Obj) = O
  have he₁ : h₁.get? e = some oe := (hs₁.2.1 e hene).trans he
  have kb₁ : base.StaysIn h₁ := fun b o hbo => (hs₁.2.1 b fun hm => by rw [(hl.mem hm).1] at hbo; cases hbo).trans (hkb b o hbo)
  have he₂ := Heap.get?_push_of_some (h := h₁) O he₁
  refine wpAny_setField he₂ hd hsz ?_
  have hTe : h₁.objs.size ≠ e := Nat.ne_of_gt (Heap.lt_size he₁)
  have hd₃ := Obj.data_mapFields hd (·.setIfInBounds 1 (Value.ref h₁.objs.size))
  have he₃ := Heap.get?_update_self (Obj.mapFields (·.setIfInBounds 1 (Value.ref h₁.objs.size))) he₂ (Obj.isFreed_of_fields hd₃)
  have hfO : O.isFreed = false := by rw [← hO]; rfl
  have hT₃ := (Heap.get?_update_other (h₁.push O) (Obj.mapFields (·.setIfInBounds 1 (Value.ref h₁.objs.size))) (Ne.symm hTe)).trans (Heap.get?_push_size h₁ hfO)
  have keep : ∀ b o, b ≠ e → h₁.get? b = some o → ((h₁.push O).update e (Obj.mapFields (·.setIfInBounds 1 (Value.ref h₁.objs.size)))).get? b = some o := fun b o hbe hb => by
    rw [Heap.get?_update_other _ _ (Ne.symm hbe)]
    exact Heap.get?_push_of_some _ hb
  have off : ∀ b o, s.heap.get? b = some o → (∀ vs, o.data ≠ .fields vs) → b ≠ e := fun b o hb hnf q => by
    rw [q, he] at hb; cases hb; exact hnf vs hd
  refine h _ ⟨fun b o hbo => keep b o (fun q => by rw [q, hen] at hbo; cases hbo) (kb₁ b o hbo), hen, hl.of_keeps fun b o hb hnf => ?_, ?_⟩ fun b o hb hnf => ?_
  · obtain ⟨sl, hs⟩ := hs₁.2.2 b o hb
    exact ⟨_, keep b _ (off b o hb hnf) hs, rfl⟩
  · refine ⟨_, _, h₁.objs.size, _, ([head, .ref L, .none, rawInt L, .none] ++ (if pl.isEmpty then List.replicate 6 Value.none else pl)).toArray, he₃, Obj.cls_mapFields _ _, dict_fields _ _, by rw [Array.getElem?_setIfInBounds_ne (by decide)]; exact h0, hd₃, by simp [hsz], kb₁.fresh, hTe, hT₃, by rw [← hO], ?_⟩
    first | (simp; done) | (rcases hpl with rfl | ⟨_, _, _, _, _, _, _, rfl⟩ <;> simp)
  · obtain ⟨sl, hs⟩ := hs₁.2.2 b o hb
    exact ⟨sl, keep b _ (off b o hb hnf) hs⟩
theorem note_first {oe : Obj} {vs : Array Value} {Q : Unit → Shared → Prop}
    (hfr : A.frames = some (env :: outer)) (hl : s.heap.FunFrames base (env :: outer)) (hf : env.frame = some L)
    (he : s.heap.get? e = some oe) (hkb : base.StaysIn s.heap) (hen : base.get? e = none) (hd : oe.data = .fields vs) (h1 : vs[1]? = some .none) (h0 : vs[0]? = some a0)
    (h : ∀ h', HeldD base (env :: outer) e oe.cls a0 oe.dict (rawInt L) h' → s.heap.UpToSlots h' → Q () { s with heap := h' }) : wpAny M A (noteFrame (.ref e) env) Q E s := by
  unfold noteFrame
  simp only [hf]
  refine wpAny_bind (wpAny_field he hd h1 ?_)
  rw [if_neg (by decide)]
  exact entry_d hfr hl hf he hkb hen hd (Array.getElem?_eq_some_iff.mp h1).1 h0 h
theorem note_next {Q : Unit → Shared → Prop} (hfr : A.frames = some (env :: outer)) (hf : env.frame = some L) (H : HeldD base (env :: outer) e cls a0 dd .none s.heap)
    (h : ∀ h', HeldD base (env :: outer) e cls a0 dd (rawInt L) h' → s.heap.UpToSlots h' → Q () { s with heap := h' }) : wpAny M A (noteFrame (.ref e) env) Q E s := by
  obtain ⟨hkb, hen, hl, oe, vs, T, oT, ts, he, hcls, hdd, h0, hd, h1, hnT, hTe, hT, hdT, h3⟩ := H
  subst hcls hdd
  unfold noteFrame
  simp only [hf]
  refine wpAny_bind (wpAny_field he hd h1 ?_)
  rw [if_pos (show (Value.ref T != Value.none) = true from by simp)]
  refine wpAny_bind (wpAny_field hT hdT h3 ?_)
  rw [if_neg (show ¬ ((Value.none == rawInt L) = true) from by simp [rawInt])]
  refine wpAny_bind (wpAny_setField hT hdT (Array.getElem?_eq_some_iff.mp h3).1 ?_)
  have other : ∀ b, b ≠ T → (s.heap.update T (Obj.mapFields (·.setIfInBounds 3 Value.none))).get? b = s.heap.get? b := fun b hb => Heap.get?_update_other _ _ (Ne.symm hb)
  have off : ∀ b o, s.heap.get? b = some o → (∀ vs, o.data ≠ .fields vs) → b ≠ T := fun b o hb hnf q => by
    rw [q, hT] at hb; cases hb; exact hnf ts hdT
  refine entry_d hfr (hl.of_keeps fun b o hb hnf => ⟨o, (other b (off b o hb hnf)).trans hb, rfl⟩) hf ((other e (Ne.symm hTe)).trans he)
    (fun b o hbo => (other b fun q => by rw [q, hnT] at hbo; cases hbo).trans (hkb b o hbo)) hen hd (Array.getElem?_eq_some_iff.mp h1).1 h0 fun h' x u => h h' x fun b o hb hnf => u b o ((other b (off b o hb hnf)).trans hb) hnf
theorem flight_d {Q : Unit → Shared → Prop} (H : HeldD base l e cls a0 dd fl s.heap) (h : ∀ h', HeldD base l e cls a0 dd .none h' → s.heap.UpToSlots h' → Q () { s with heap := h' }) :
    wpAny M A (setFlight (.ref e) none) Q E s := by
  obtain ⟨hkb, hen, hl, oe, vs, T, oT, ts, he, hcls, hdd, h0, hd, h1, hnT, hTe, hT, hdT, h3⟩ := H
  have hsz3 : 3 < ts.size := (Array.getElem?_eq_some_iff.mp h3).1
  have other : ∀ b, b ≠ T → (s.heap.update T (Obj.mapFields (·.setIfInBounds 3 ((none : Option Addr).elim Value.none fun f => rawInt f)))).get? b = s.heap.get? b := fun b hb => Heap.get?_update_other _ _ (Ne.symm hb)
  have off : ∀ b o, s.heap.get? b = some o → (∀ vs, o.data ≠ .fields vs) → b ≠ T := fun b o hb hnf q => by
    rw [q, hT] at hb; cases hb; exact hnf ts hdT
  unfold setFlight
  refine wpAny_bind (wpAny_field he hd h1 ?_)
  rw [if_pos (show (Value.ref T != Value.none) = true from by simp)]
  refine wpAny_setField hT hdT hsz3 (h _ ⟨fun b o hbo => (other b fun q => by rw [q, hnT] at hbo; cases hbo).trans (hkb b o hbo), hen, hl.of_keeps fun b o hb hnf => ⟨o, (other b (off b o hb hnf)).trans hb, rfl⟩,
    oe, vs, T, _, _, (other e (Ne.symm hTe)).trans he, hcls, hdd, h0, hd, h1, hnT, hTe, Heap.get?_update_self _ hT (Obj.isFreed_of_fields (Obj.data_mapFields hdT _)), Obj.data_mapFields hdT _, by simp [hsz3]⟩ fun b o hb hn => ⟨o.slots, (other b (off b o hb hn)).trans hb⟩)
theorem leave_first {oe : Obj} {vs : Array Value} {Q : Unit → Shared → Prop}
    (hfr : A.frames = some (env :: outer)) (hl : s.heap.FunFrames base (env :: outer)) (hf : env.frame = some L)
    (he : s.heap.get? e = some oe) (hkb : base.StaysIn s.heap) (hen : base.get? e = none) (hd : oe.data = .fields vs) (h1 : vs[1]? = some .none) (h0 : vs[0]? = some a0)
    (h : ∀ h', HeldD base outer e oe.cls a0 oe.dict .none h' → s.heap.UpToSlots h' → Q () { s with heap := h' }) : wpAny M A (leaving env (.ref e)) Q E s := by
  unfold leaving
  refine wpAny_bind (note_first hfr hl hf he hkb hen hd h1 h0 fun h' x u => ?_)
  exact flight_d (s := { s with heap := h' }) x fun h'' y u' => h h'' (held_up y) (u.trans u')
theorem leave_next {Q : Unit → Shared → Prop} (hfr : A.frames = some (env :: outer)) (hf : env.frame = some L) (H : HeldD base (env :: outer) e cls a0 dd .none s.heap)
    (h : ∀ h', HeldD base outer e cls a0 dd .none h' → s.heap.UpToSlots h' → Q () { s with heap := h' }) : wpAny M A (leaving env (.ref e)) Q E s := by
  unfold leaving
  refine wpAny_bind (note_next hfr hf H fun h' x u => ?_)
  exact flight_d (s := { s with heap := h' }) x fun h'' y u' => h h'' (held_up y) (u.trans u')
end
end Mine
end PartX1

section PartX2
example : True := by
  w_top off
  trivial
open PySem PySem.W PyProof.Rows PySem.Calls PySem.Spec
set_option Elab.async false
set_option maxRecDepth 100000
namespace Mine
/-- an exception on its way out of the frames l, its fields' dict at d -/
def RaisedD (base G : Heap) (l : List Env) (e : Addr) (cls : Value) (d : Addr) (news : List (Addr × Obj)) (h : Heap) : Prop :=
  ∃ B a0, base.StaysIn B ∧ (∀ b o, G.get? b = some o → b ∉ l.filterMap (·.frame) → B.get? b = some o) ∧ (∀ q ∈ news, B.get? q.1 = some q.2 ∧ G.get? q.1 = none ∧ base.get? q.1 = none) ∧ HeldD B l e cls a0 (some d) .none h
section
variable {M : Model} {A : Around} {E : Value → Shared → Prop} {s' : Shared} {base g G h : Heap} {outer : List Env} {env : Env} {L e d : Addr} {m : Str → Option Value} {Q : Unit → Shared → Prop} {news : List (Addr × Obj)} {cls : Value}
theorem push_env (K : Below A base outer g) (F : Fr g L h m) (hf : env.frame = some L) (hk : env.scope.kind = .function) : (A.deeper env).frames = some (env :: outer) ∧ base.StaysIn h ∧ h.FunFrames base (env :: outer) := by
  have hnew : base.get? L = none := by
    cases hq : base.get? L with
    | none => rfl
    | some o => exact absurd (Nat.lt_of_lt_of_le (Heap.lt_size (K.stays L o hq)) F.above) (Nat.lt_irrefl _)
  refine ⟨Around.frames_deeper K.stack, fun b o e => F.keep b o (K.stays b o e), by rw [hk]; decide, ?_, K.frames.of_keeps fun b o e _ => ⟨o, F.keep b o e, rfl⟩⟩
  obtain ⟨o, es, ep, ho, hd, _⟩ := F.ns
  exact ⟨L, o, hf, hnew, ho, fun vs q => by rw [hd] at q; cases q⟩
theorem env_mem {b : Addr} (hf : env.frame = some L) (hm : b ∈ (env :: outer).filterMap (·.frame)) : b = L ∨ b ∈ outer.filterMap (·.frame) := by
  rw [List.filterMap_cons, hf] at hm
  exact List.mem_cons.mp hm
theorem leave_raiseD {oe : Obj} {vs : Array Value} {a0 : Value} (K : Below A base outer g) (F : Fr g L s'.heap m) (N : News g L s'.heap ((e, oe) :: news)) (hn : ∀ q ∈ news, q.1 ≠ e)
    (hc : oe.cls = cls) (hdd : oe.dict = some d) (hd : oe.data = .fields vs) (h0 : vs[0]? = some a0) (h1 : vs[1]? = some .none)
    (hQ : ∀ h', RaisedD base g outer e cls d news h' → g.UpToSlots h' → Q () { s' with heap := h' }) (hf : env.frame = some L) (hk : env.scope.kind = .function) :
    wpAny M (A.deeper env) (leaving env (.ref e)) Q E s' := by
  obtain ⟨k1, k2, k3⟩ := push_env (env := env) K F hf hk
  obtain ⟨e1, e2, e3⟩ := N (e, oe) (.head _)
  have offe : ∀ b o, g.get? b = some o → b ≠ e := fun b o q z => by rw [z, e3] at q; cases q
  have bfr : ∀ b ∈ (env :: outer).filterMap (·.frame), base.get? b = none := fun b hb => (k3.mem hb).1
  have st : base.StaysIn (hideAll s'.heap (e :: (env :: outer).filterMap (·.frame))) := fun b o q => hideAll_get _ (k2 b o q) fun hm => by
    rcases List.mem_cons.mp hm with z | hm
    · exact offe b o (K.stays b o q) z
    · rw [bfr b hm] at q; cases q
  have sg : ∀ b o, g.get? b = some o → b ∉ outer.filterMap (·.frame) → (hideAll s'.heap (e :: (env :: outer).filterMap (·.frame))).get? b = some o := fun b o q nm => hideAll_get _ (F.keep b o q) fun hm => by
    rcases List.mem_cons.mp hm with z | hm
    · exact offe b o q z
    · rcases env_mem hf hm with z | z
      · rw [z, kts_self F] at q; cases q
      · exact nm z
  have hl : ∀ q ∈ news, (hideAll s'.heap (e :: (env :: outer).filterMap (·.frame))).get? q.1 = some q.2 ∧ g.get? q.1 = none ∧ base.get? q.1 = none := fun q hq => by
    obtain ⟨n1, n2, n3⟩ := N q (.tail _ hq)
    refine ⟨hideAll_get _ n1 fun hm => ?_, n3, fresh_of_stays K.stays n3⟩
    rcases List.mem_cons.mp hm with z | hm
    · exact hn q hq z
    · rcases env_mem hf hm with z | z
      · exact n2 z
      · obtain ⟨_, o, ho, _⟩ := K.frames.mem z
        rw [n3] at ho; cases ho
  refine leave_first (a0 := a0) (base := hideAll s'.heap (e :: (env :: outer).filterMap (·.frame))) k1 (funFrames_hide k3 fun env he b hb => List.mem_cons_of_mem _ (List.mem_filterMap.mpr ⟨env, he, hb⟩)) hf e1 (fun b o q => of_hideAll _ q) (hideAll_none _ (.head _)) hd h1 h0 fun h' H U => ?_
  rw [hc, hdd] at H
  exact hQ h' ⟨_, a0, st, sg, hl, H⟩ ((Heap.UpToSlots.of_keeps F.keep).trans U)
theorem leave_onD (K : Below A base outer g) (F : Fr g L G m) (R : RaisedD base G (env :: outer) e cls d news s'.heap) (hsm : G.UpToSlots s'.heap)
    (hQ : ∀ h', RaisedD base g outer e cls d news h' → g.UpToSlots h' → Q () { s' with heap := h' }) (hf : env.frame = some L) :
    wpAny M (A.deeper env) (leaving env (.ref e)) Q E s' := by
  obtain ⟨B, a0, hB, hBG, hl, H⟩ := R
  refine leave_next (Around.frames_deeper K.stack) hf H fun h' H' U => hQ h' ⟨B, a0, hB, fun b o q nm => hBG b o (F.keep b o q) (fun hm => ?_), fun q hq => ⟨(hl q hq).1, kts_none F.keep (hl q hq).2.1, (hl q hq).2.2⟩, H'⟩ ((Heap.UpToSlots.of_keeps F.keep).trans (hsm.trans U))
  rcases env_mem hf hm with z | z
  · rw [z, kts_self F] at q; cases q
  · exact nm z
end
section
variable {prog : Program} {w : World} {A₀ : Around} {E : Value → Shared → Prop} {s' : Shared} {base g G : Heap} {outer : List Env} {L a e d C : Addr} {m : Str → Option Value} {name : Str} {scope : Scope} {cd : Value}
  {n : Str} {b₀ : Stmt} {suite : List Stmt} {pos np : Pos} {rest : List ExceptHandler} {Q : Flow → Shared → Prop} {news : List (Addr × Obj)} {KF : Frag}
  {p : Program} {loose : List Str} {mean : ExcName → Option Value} {mg mb : Str → Option Value} {x : Str}
theorem caught_D (R : RaisedD base G (envOf name scope L a cd :: outer) e (.ref C) d news s'.heap) (F : Fr g L G m) (K : Below A₀ base outer g) (hsm : G.UpToSlots s'.heap) (XB : KF.In base) (TB : Top p loose mean mg mb base)
    (D : KtsDicts (outer.filterMap (·.frame)) g) (ex : nsIn KF mainGlobals x = some (some (.ref C))) (q : ktsIn KF C "BaseException" = true)
    (k : ∀ h' g' tk vs sl, KtsTurn (outer.filterMap (·.frame)) g g' → Fr g' L h' (fun y => if y = n then some (.ref e) else m y) → News g' L h' ((e, { cls := .ref C, dict := some d, data := .fields vs, slots := sl }) :: news) → Below A₀ base outer g' → KF.In g' → Top p loose mean mg mb g' → KtsDicts (outer.filterMap (·.frame)) g' →
      wpAny (model prog w) ((A₀.deeper (envOf name scope L a cd)).mark (some (.ref e))) (execs (b₀ :: suite) (envOf name scope L a cd))
        (fun f s₄ => wpAny (model prog w) (A₀.deeper (envOf name scope L a cd)) (do bindName (envOf name scope L a cd) n .none; unbindBehindTheSuite (envOf name scope L a cd) n pos) (fun _ s₅ => Q f s₅) E s₄)
        (AsSuiteRaised (model prog w) ((A₀.deeper (envOf name scope L a cd)).mark (some (.ref e))) (envOf name scope L a cd) n pos (notedBy (model prog w) ((A₀.deeper (envOf name scope L a cd)).mark (some (.ref e))) (envOf name scope L a cd) (cameBackBy (model prog w) (A₀.deeper (envOf name scope L a cd)) (envOf name scope L a cd) E)))
        { s' with heap := h', toks := tk })
    (hk : scope.kind = .function := by rfl) (hlo : (envOf name scope L a cd).kindOf n = some .local := by rfl) (hx : (envOf name scope L a cd).kindOf x = some .globalImplicit := by rfl) (hd : (x == ("__debug__" : Str)) = false := by decide) :
    wpAny (model prog w) (A₀.deeper (envOf name scope L a cd)) (noteFrame (.ref e) (envOf name scope L a cd))
      (fun _ s₂ => wpAny (model prog w) (A₀.deeper (envOf name scope L a cd)) (setFlight (.ref e) none) (fun _ s₃ =>
        wpAny (model prog w) (A₀.deeper (envOf name scope L a cd)) (handleBy (.ref e) (envOf name scope L a cd) (.ExceptHandler (some (.Name x np)) (some n) (b₀ :: suite) pos :: rest)) Q E s₃) E s₂) E s' := by
  obtain ⟨B, a0, hB, hBG, hl, H⟩ := R
  have hL : B.get? L = none := by
    obtain ⟨_, _, ⟨_, ⟨L', _, hf, hn', _⟩, _⟩, _⟩ := H
    obtain rfl : L = L' := Option.some.inj hf
    exact hn'
  refine note_next (Around.frames_deeper K.stack) rfl H fun h₄ H₄ hsm₄ => ?_
  refine flight_d (s := { s' with heap := h₄ }) H₄ fun h₅ H₅ hsm₅' => ?_
  have hsm₅ := hsm₄.trans hsm₅'
  obtain ⟨g₅, T₅, F₅, K₅⟩ := kts_ground K F hBG H₅.1 (hsm.trans hsm₅)
  have X₅ : KF.In g₅ := XB.keeps K₅.stays
  have P₅ : TopRead p loose mg mb g₅ := topRead_of (TB.keeps K₅.stays)
  have H₅' := H₅
  obtain ⟨_, _, _, ob, vs₅, T, oT, ts, hob, hobc, _⟩ := H₅'
  obtain ⟨nm, q', N, bs, bm, hdct, sn, sub, ab, col, dd, k0, k1, k2, k3, k5, newId, hC, hbase, _⟩ := kts_cls X₅ q
  refine wpAny_handleBy_cons (codeAny_handlers_test (name_K F₅ X₅ P₅ ex ?_ hk hx hd)) (by intro q; cases q)
  refine wpAny_excMatches_sub_self (F₅.keep _ _ hC) hob hobc hbase (codeAny_handlers_suite_as ?_)
  refine flight_d (s := { s' with heap := h₅ }) H₅ fun h₆ H₆ hsm₆ => ?_
  obtain ⟨g₆, T₆, F₆, K₆⟩ := kts_ground K F hBG H₆.1 ((hsm.trans hsm₅).trans hsm₆)
  obtain ⟨hB6, hBe, _, oe, vs, T, oT, ts, hoe, hoec, hoedd, hoe0, hoed, _⟩ := H₆
  obtain ⟨oc, od, oda, osl⟩ := oe
  dsimp only at hoec hoedd hoed
  subst hoec hoedd hoed
  have ne₆ : g₆.get? e = none := T₆.none_ _ (kts_fresh F hBG hBe fun o ho m => by
    obtain ⟨_, o', ho', hd⟩ := K.frames.mem m
    rw [ho] at ho'
    cases ho'
    obtain ⟨sl, hs⟩ := ((hsm.trans hsm₅).trans hsm₆) _ _ (F.keep _ _ ho) hd
    rw [hoe] at hs
    have := Option.some.inj hs
    rw [Obj.mk.injEq] at this
    exact hd vs this.2.2.1.symm)
  have N₆ : News g₆ L h₆ [(e, _)] := News.more F₆ News.nil hoe (fun es n q => by cases q) ne₆
  have Nl : News g₆ L h₆ news := fun q hq => ⟨hB6 _ _ (hl q hq).1, (fun z => by have := (hl q hq).1; rw [z, hL] at this; cases this), T₆.none_ _ (kts_none F.keep (hl q hq).2.1)⟩
  refine stN F₆ (news := _ :: news) (fun q hq => (List.mem_cons.mp hq).elim (fun z => z ▸ N₆ _ (.head _)) (Nl q)) (fun h₇ F₇ N₇ => ?_) hk hlo
  exact k h₇ g₆ _ vs osl T₆ F₇ N₇ K₆ (XB.keeps K₆.stays) (TB.keeps K₆.stays) (D.turn T₆)
end
end Mine
end PartX2

section PartX3
example : True := by
  w_top off
  trivial
open PySem PySem.W PyProof.Rows PySem.Calls PySem.Spec
set_option Elab.async false
set_option maxRecDepth 100000
set_option maxHeartbeats 4000000
namespace Mine
section
variable {prog : Program} {w : World} {A : Around} {E : Value → Shared → Prop} {R : Result → Shared → Prop} {h : Heap} {g : Array GenState} {d : Drawn} {t : Nat} {os : OsState}
variable {nm q : Str} {C N fI : Addr} {bs bm : List Value} {hdct : Bool} {sn : List Str} {sub : List Value} {ab : Bool} {col : Option Bool} {dd : Option Addr} {k0 k1 k2 k3 k5 : Option Value} {rest : List Value}
abbrev excObj (C t : Addr) : Obj := { cls := .ref C, data := .fields #[.ref t, .none, .none, .none, .bool false, .none] }
theorem exc_check (hC : h.get? C = some (excClassObj nm q C N bs bm hdct sn sub ab col dd k0 k1 k2 k3 k5 "Exception.__new__")) (hB : bm.contains (.type "Exception") = true) {Q : Unit → Shared → Prop} {M : Model}
    (hq : Q () ⟨h, g, d, t, os⟩) : wpAny M A (checkBuiltinCall "Exception.__new__" ⟨.ref C :: rest, []⟩) Q E ⟨h, g, d, t, os⟩ := by
  have F := PySem.F.excBase_Exception
  have hcont : (Value.ref C :: bm).contains (.type "Exception") = true := by rw [List.contains_cons, hB, Bool.or_true]
  have hstar := F.noStar
  simp only [checkBuiltinCall, F.newKind, F.newSplit, F.newRow]
  repeat (first | refine wpAny_loadPart_at hC ?_ | (refine wpAny_isSubtype_exc hC ?_; rw [hcont]) | refine wpAny_staticBase_exc hC ?_ | refine wpAny_madeBy_exc hC ?_ | simp only [bne_self_eq_false, Bool.false_eq_true, if_false] | wp_step)
  exact hq
theorem exc_new (hC : h.get? C = some (excClassObj nm q C N bs bm hdct sn sub ab col dd k0 k1 k2 k3 k5 "Exception.__new__")) (hB : bm.contains (.type "BaseException") = true ∧ bm.contains (.type "Exception") = true) (hA : bm.contains (.type "AttributeError") = false) (hN : bm.contains (.type "NameError") = false)
    (hrest : rest.length ≤ sizeLine) (hq : R (.ok (.ret (.ref (h.objs.size + 1)))) ⟨(h.push { cls := .type "tuple", data := .seq rest.toArray }).push (excObj C h.objs.size), g, d, t, os⟩) :
    codeAny (model prog w) A (.builtin "Exception.__new__" ⟨.ref C :: rest, []⟩) R ⟨h, g, d, t, os⟩ := by
  have F := PySem.F.excBase_Exception
  have hends := F.ends
  have hcB : (Value.ref C :: bm).contains (.type "BaseException") = true := by rw [List.contains_cons, hB.1, Bool.or_true]
  have hcE : (Value.ref C :: bm).contains (.type "Exception") = true := by rw [List.contains_cons, hB.2, Bool.or_true]
  have hcA : (Value.ref C :: bm).contains (.type "AttributeError") = false := by rw [List.contains_cons, hA]; rfl
  have hcN : (Value.ref C :: bm).contains (.type "NameError") = false := by rw [List.contains_cons, hN]; rfl
  refine codeAny_builtinAt F.entry ?_
  unfold Builtin.«BaseException.__new__»
  refine PySem.wpAt_bind ?_
  show PySem.wpAt _ _ _ (stack >>= _) _ _ _
  refine PySem.wpAt_bind (PySem.wpAt_stack fun p below => PySem.wpAt_of_wpAny ?_)
  wp_walk
  refine PySem.wpAt_of_wpAny ?_
  rw [F.owner]
  repeat (first | with_reducible refine wpAny_madeHere_exc F.canon hC ?_ | with_reducible refine wpAny_loadPart_at hC ?_ | (with_reducible refine wpAny_isSubtype_exc hC ?_; first | rw [hcB] | rw [hcE] | rw [hcA] | rw [hcN]) | wp_step)
  show R _ _
  rw [Heap.size_push]
  exact hq
theorem exc_made (hC : h.get? C = some (excClassObj nm q C N bs bm hdct sn sub ab col dd k0 k1 k2 k3 k5 "Exception.__new__")) (hB : bm.contains (.type "BaseException") = true ∧ bm.contains (.type "Exception") = true) (hA : bm.contains (.type "AttributeError") = false) (hN : bm.contains (.type "NameError") = false)
    (hi : Looks (model prog w) h (typeLookup (.ref C) "__init__") (some (.ref fI))) (hb : ∀ self, Looks (model prog w) h (bindSpecial (.ref fI) self) (.ref fI, [self])) (hrest : rest.length ≤ sizeLine) {Q : Value → Shared → Prop}
    (hq : wpAny (model prog w) (A.under (.builtin "type.__call__" ⟨.ref C :: rest, []⟩)) (call (.ref fI) (.ref (h.objs.size + 1) :: rest)) (fun r s' => r = .none ∧ Q (.ref (h.objs.size + 1)) s') E ⟨(h.push { cls := .type "tuple", data := .seq rest.toArray }).push (excObj C h.objs.size), g, d, t, os⟩) :
    wpAny (model prog w) A (call (.ref C) rest) Q E ⟨h, g, d, t, os⟩ := by
  have F := PySem.F.excBase_Exception
  have f1 := tc_lookup
  have f2 := tc_bind (.ref C)
  have hT : (⟨h, g, d, t, os⟩ : Shared).TypeIs (.ref C) "type" := ⟨_, hC, rfl⟩
  refine wpAny_call (codeAny_of_tree ?_)
  show wpAny _ _ (callAny (.ref C) _) _ _ _
  repeat (any_goals (first | assumption | with_reducible refine wpAny_loadPart_at hC ?_ | wp_step))
  refine ⟨rfl, ?_⟩
  refine codeAny_call_builtin_at (Code.quiet_builtin _ (by decide +kernel)) entry_typeCall (wpAny_check_type_call_sub hC ?_)
  repeat (first | with_reducible refine wpAny_loadPart_at hC ?_ | with_reducible refine wpAny_madeBy_exc hC ?_ | wp_step)
  refine codeAny_call_builtin_code (Code.quiet_builtin _ F.quiet) (exc_check hC hB.2 ?_)
  refine exc_new hC hB hA hN hrest ?_
  show wpAny _ _ _ _ _ _
  have kp : ∀ b o, h.get? b = some o → ((h.push { cls := .type "tuple", data := .seq rest.toArray }).push (excObj C h.objs.size)).get? b = some o := fun b o e => Heap.get?_push_of_some _ (Heap.get?_push_of_some _ e)
  have hC₁ := kp _ _ hC
  have hget : ((h.push { cls := .type "tuple", data := .seq rest.toArray }).push (excObj C h.objs.size)).get? (h.objs.size + 1) = some (excObj C h.objs.size) := by heap_get
  have hcC : (Value.ref C :: bm).contains (.ref C) = true := by simp
  unfold isInstance
  repeat (first | with_reducible refine wpAny_loadPart_at hget ?_ | (with_reducible refine wpAny_isSubtype_exc hC₁ ?_; rw [hcC]) | wp_step)
  show wpAny _ _ (isSubtype (.ref C) _) _ _ _
  refine wpAny_isSubtype_exc hC₁ ?_
  rw [hcC]
  repeat wp_step
  show wpAny _ _ (typeLookup (.ref C) _) _ _ _
  refine (hi.keeps kp).here ?_
  refine wpAny_holding (wpAny_bind ?_)
  refine ((hb (.ref (h.objs.size + 1))).keeps kp).here ?_
  refine wpAny_bind (wpAny_mono hq (fun r s' hr => ?_) fun _ _ x => x)
  obtain ⟨rfl, hQ⟩ := hr
  wp_walk
  exact hQ
end
section
open Builtin Builtin.ObjectAttr
variable {prog : Program} {w : World} {A : Around} {E : Value → Shared → Prop} {s : Shared} {K : Frag} {h₀ : Heap} {L e tp C : Addr} {m : Str → Option Value} {news : List (Addr × Obj)} {name : Str} {v : Value} {r1 r2 : Addr}
abbrev excObjD (C t d : Addr) : Obj := { cls := .ref C, dict := some d, data := .fields #[.ref t, .none, .none, .none, .bool false, .none] }
abbrev toldOf (w : World) (name : Str) (tk : Tok) (v : Value) : Obj := dictOf [⟨PyData.keyHash w.params name, .str name tk, v⟩] 1
theorem set_exc (F : Fr h₀ L s.heap m) (X : K.In s.heap) (N : News h₀ L s.heap ((e, excObj C tp) :: news)) (hne : ∀ p ∈ news, p.1 ≠ e)
    (hs : findIn K (.ref C) "__setattr__" = some (some (.builtin "object.__setattr__"))) (hm : (clsIn K C).map (·.mro) = some [.ref r1, .ref r2, .type "Exception", .type "BaseException", .type "object"]) (hh : (clsIn K C).any (·.hasDict) = true)
    (ht : takerIn K C name = some none) {Q : Unit → Shared → Prop}
    (h : ∀ h' tk tk' d, Fr h₀ L h' m → News h₀ L h' ((e, excObjD C tp d) :: (d, toldOf w name tk v) :: news) → (∀ p ∈ (e, excObj C tp) :: news, p.1 < d) → Q () { s with heap := h', toks := tk' }) :
    wpAny (model prog w) A (setAttr (.ref e) name v) Q E s := by
  have SF := PySem.F.store_object
  obtain ⟨cd, hc, hmro⟩ := Option.map_eq_some_iff.mp hm
  obtain ⟨cd', hc', hd'⟩ := any_some hh
  obtain rfl : cd = cd' := Option.some.inj (hc.symm.trans hc')
  have I : InstAt s.heap e (excObj C tp) C none := ⟨(N _ (.head _)).1, rfl, rfl, trivial⟩
  refine wpAny_bind (wpAny_mkText (wpAny_bind (wpAny_bind (wpAny_bind (I.type _ _ _ _ (fun _ _ e => e) (looks_findIn X hs _ _ _ _ (fun _ _ e => e) (wpAny_holding ?_)))))))
  rw [SF.slot.bind]
  refine wpAny_bind (wpAny_pure (wpAny_bind (wpAny_call ?_)))
  have ne : cd.mro.isEmpty = false := by rw [hmro]; rfl
  have sub : Looks (model prog w) s.heap (isInstance (.ref e) (.type "object")) true := I.type.andThen (looks_mroIn X (by unfold mroIn; rw [hc, Option.bind_some, if_neg (by rw [ne]; decide), hmro]; rfl))
  refine codeAny_call_builtin SF.slot.plain SF.entry (@check_slot (model prog w) _ _ _ "object.__setattr__" "object" "__setattr__" (.ref e) [.str name _, v] [] _ SF.kind SF.split sub (SF.args (.ref e) (.str name _) v) ?_)
  obtain ⟨attr, ha, hr⟩ := Option.bind_eq_some_iff.mp ht
  have hmr : Looks (model prog w) s.heap (mroOf (.ref C)) cd.mro := (looks_clsIn X hc).andThen .now
  have L3 : Looks (model prog w) s.heap (storeTaker? attr) none := by
    cases attr with
    | none => cases hr; exact .now
    | some a =>
      obtain ⟨b, hb, hb'⟩ := Option.map_eq_some_iff.mp hr
      refine (looks_takesIn X hb).andThen ?_
      cases b with
      | true => cases hb'
      | false => exact .now
  show wpAny _ _ (Builtin.«object.__setattr__» ⟨[.ref e, .str name s.toks, v], []⟩) _ _ _
  rw [osa_eq, refuse_eq]
  refine wpAny_bind (wpAny_bind (I.type.at (wpAny_bind (hmr.at ?_))))
  rw [hmro, refuseLoop_ref, refuseLoop_ref, PySem.F.store_Exception.passes]
  refine wpAny_pure (wpAny_bind (I.type.at (wpAny_bind ((looks_findIn X ha).at (wpAny_bind (L3.at ?_))))))
  dsimp only
  have hsz : ∀ p ∈ (e, excObj C tp) :: news, p.1 < s.heap.objs.size := fun p hp => Heap.lt_size (N p hp).1
  have N1 := N.push F emptyDict
  have F1 := F.push emptyDict
  obtain ⟨F2, N2⟩ := news_upd (f := fun o => { o with dict := some s.heap.objs.size }) (o' := excObjD C tp s.heap.objs.size) (pre := [(s.heap.objs.size, emptyDict)]) (post := news) F1 N1 (fun p hp => by rw [List.mem_singleton.mp hp]; exact Nat.ne_of_gt (hsz _ (.head _))) hne rfl rfl
  refine wpAny_bind (wpAny_pure (wpAny_bind ?_))
  show wpAny _ _ (instanceDict e true) _ _ _
  unfold instanceDict
  refine wpAny_bind (wpAny_loadPart (N _ (.head _)).1 (wpAny_bind ((looks_clsIn X hc).at ?_)))
  rw [hd']
  show wpAny _ _ (do let d ← alloc emptyDict; update e (fun o => { o with dict := some d }); dictMade (.ref C) e d) _ _ _
  refine wpAny_bind (wpAny_alloc (wpAny_bind (wpAny_update' (N1 _ (.tail _ (.head _))).1 ?_)))
  show wpAny _ _ (pure (some s.heap.objs.size)) _ _ _
  refine wpAny_pure ?_
  show wpAny _ _ (storeInDict s.heap.objs.size (.str name s.toks) name v) _ _ _
  unfold storeInDict newKeyGuard
  refine wpAny_bind (wpAny_pure (wpAny_bind ?_))
  have D := (N2 _ (.head _)).1
  obtain ⟨F3, N3⟩ := news_upd (f := Obj.putName name (PyData.keyHash w.params name) (.str name (s.toks + 1)) v) (o' := toldOf w name (s.toks + 1) v) (pre := []) (post := (e, excObjD C tp s.heap.objs.size) :: news) F2 N2 (fun p hp => nomatch hp) (fun p hp => by
    rcases List.mem_cons.mp hp with rfl | hp
    · exact Nat.ne_of_lt (hsz (e, excObj C tp) (.head _))
    · exact Nat.ne_of_lt (hsz _ (.tail _ hp))) rfl rfl
  have D' := (N3 _ (.head _)).1
  unfold nsSet
  refine wpAny_bind (wpAny_bind (wpAny_askSetting (wpAny_pure (wpAny_bind (wpAny_mkText (wpAny_bind (wpAny_loadPart D ?_)))))))
  dsimp only
  rw [show aRefKeyMayBeTheName name #[] = false from by rw [aRefKeyMayBeTheName_at]; simp]
  refine wpAny_updatePart D ?_
  refine wpAny_bind (wpAny_lookBehind D' (pastItsLine_dict (by rw [sizeLine_eq]; simp)) ?_)
  refine wpAny_pure (wpAny_pure (wpAny_pure ?_))
  exact h _ _ _ _ F3 (fun p hp => N3 p (by
    rcases List.mem_cons.mp hp with rfl | hp
    · exact .tail _ (.head _)
    · rcases List.mem_cons.mp hp with rfl | hp
      · exact .head _
      · exact .tail _ (.tail _ hp))) hsz
end
set_option maxHeartbeats 8000000
/-- the init of the raised class, from inside type.__call__ -/
local macro_rules | `(tactic| walk_at "setAttr ref") => `(tactic| (k_here; refine stop ?_))
theorem init_walk (w : World) : ∀ (p : Program) (loose : List Str) (mean : ExcName → Option Value) (mg mb : Str → Option Value) (dp un : Nat) (gd : Option (List Code)) (cn : Str) (cs : Scope) (a : Addr) (ccd : Value) (cl : List (Str × Addr))
    (outer : List Env) (A₀ : Around) (base h₀ : Heap) (L : Addr) (m : Str → Option Value) (s : Shared) (Q E : Value → Shared → Prop) (news : List (Addr × Obj)) (e tp v : Addr) (rest : List Value)
    (_ : Below A₀ base outer h₀) (_ : Fr h₀ L s.heap m) (_ : (hd.heap_1 w.params).In h₀) (_ : News h₀ L s.heap ((e, excObj 45 tp) :: news)) (_ : ∀ p ∈ news, p.1 ≠ e) (_ : Top p loose mean mg mb h₀) (_ : cs.kind = .function) (_ : dp + 4 < recursionLimit) (_ : un + 32 < cLine)
    (_ : ∀ h' tk tk' d, Fr h₀ L h' m → News h₀ L h' ((e, excObjD 45 tp d) :: (d, toldOf w "told" tk (.ref v)) :: news) → (∀ p ∈ (e, excObj 45 tp) :: news, p.1 < d) → Q .none { s with heap := h', toks := tk' }),
    wpAny (model Challenge.rw_pq1296_01.row.prog w) ((ktrTop dp un gd cn cs L a ccd cl outer).under (.builtin "type.__call__" ⟨.ref 45 :: rest, []⟩)) (call (.ref 29) [.ref e, .ref v]) Q E s := by
  k_fill
  intro p loose mean mg mb dp un gd cn cs a ccd cl outer A₀ base h₀ L m s Q E news e tp v rest B F X N hne T hk hdp hun hret
  have kX9 := X
  refine wpAny_call ?_
  k_dflt (refine' code_def ?k1 ?k2 ?k3 ?k4 ?k5 ?kA ?kF ?kK ?k6 ?k7 ?k8 ?k9 ?kB ?_ ?c2 ?c3 ?c4 ?c5; (case kA => exact rfl); (case kF => exact rfl); (case kK => assumption); (case k1 => k_asm); (case k2 => k_asm); (case k3 => k_asm); (case k4 => k_asm); (case k5 => k_asm); (case k6 => exact rfl); (case k7 => exact rfl); (case k8 => ktr_room); (case k9 => exact binds_K (by k_in) rfl (by k_is) rfl rfl rfl); (case c5 => decide); (case kB => exact locs rfl); (case c2 => exact rfl); (case c3 => exact rfl); (case c4 => exact rfl); k_whole; intro g' L' h' FG' F' N' B' X' T'; (try dsimp only); (try k_lift B'); (try k_fold))
  k_steps
  unfold Stop
  k_dflt (refine' set_exc ?k1 ?k2 ?k3 ?k4 ?k5 ?k6 ?k7 ?k8 ?_)
  case k1 => k_asm
  case k2 => k_in
  case k3 => k_asm
  case k4 => assumption
  case k5 => k_is
  case k6 => exact rfl
  case k7 => exact rfl
  case k8 => k_is
  k_whole
  intro _ _ _ _ _ _ _
  k_steps
  exact hret _ _ _ _ (by k_asm) (by k_asm) (by assumption)
/-- BadEncoding of one value, from any caller -/
theorem use_exc {w : World} {news : List (Addr × Obj)} {p : Program} {loose : List Str} {mean : ExcName → Option Value} {mg mb : Str → Option Value} {dp un : Nat} {gd : Option (List Code)} {cn : Str} {cs : Scope} {a : Addr} {ccd : Value} {cl : List (Str × Addr)}
    {outer : List Env} {A₀ : Around} {base h₀ : Heap} {L : Addr} {m : Str → Option Value} {s : Shared} {Q E : Value → Shared → Prop} {v : Addr}
    (B : Below A₀ base outer h₀) (F : Fr h₀ L s.heap m) (X : (hd.heap_1 w.params).In h₀) (N : News h₀ L s.heap news) (T : Top p loose mean mg mb h₀) (hk : cs.kind = .function) (hdp : dp + 4 < recursionLimit) (hun : un + 32 < cLine)
    (h : ∀ h' tk tk' e tp d, Fr h₀ L h' m → News h₀ L h' ((e, excObjD 45 tp d) :: (d, toldOf w "told" tk (.ref v)) :: (tp, tupOf [.ref v]) :: news) → tp < e → e < d → (∀ p ∈ news, p.1 < tp) → Q (.ref e) { s with heap := h', toks := tk' }) :
    wpAny (model Challenge.rw_pq1296_01.row.prog w) (ktrTop dp un gd cn cs L a ccd cl outer) (call (.ref 45) [.ref v]) Q E s := by
  obtain ⟨hh, g, dd, t, os⟩ := s
  have X' := X.keeps F.keep
  obtain ⟨nm, qn, ns, bs, bm, hdct, sn, sub, ab, col, dd', k0, k1, k2, k3, k5, hC, hb⟩ : ∃ nm qn ns bs bm hdct sn sub ab col dd k0 k1 k2 k3 k5, hh.get? 45 = some (excClassObj nm qn 45 ns bs bm hdct sn sub ab col dd k0 k1 k2 k3 k5 "Exception.__new__") ∧ bm = [.ref 32, .type "Exception", .type "BaseException", .type "object"] :=
    ⟨_, _, _, _, _, _, _, _, _, _, _, _, _, _, _, _, X' _ _ rfl, rfl⟩
  subst hb
  have hlt : ∀ p ∈ news, p.1 < hh.objs.size := fun p hp => Heap.lt_size (N p hp).1
  refine exc_made hC ⟨rfl, rfl⟩ rfl rfl (looks_findIn X' (r := some (.ref 29)) rfl) (fun self => bind_fn X' self rfl) (by rw [sizeLine_eq]; show 1 ≤ _; decide) ?_
  have N1 := N.push F (tupOf [.ref v])
  have F1 := F.push (tupOf [.ref v])
  have N2 := N1.push F1 (excObj 45 hh.objs.size)
  have F2 := F1.push (excObj 45 hh.objs.size)
  rw [Heap.size_push] at N2
  refine init_walk w p loose mean mg mb dp un gd cn cs a ccd cl outer A₀ base h₀ L m _ _ _ ((hh.objs.size, tupOf [.ref v]) :: news) _ _ _ _ B F2 X N2 (fun p hp => ?_) T hk hdp hun fun h' tk tk' d F' N' hd' => ⟨rfl, h h' tk tk' _ _ d F' N' (Nat.lt_succ_self _) (hd' _ (.head _)) hlt⟩
  rcases List.mem_cons.mp hp with rfl | hp
  · exact Nat.ne_of_lt (Nat.lt_succ_self _)
  · exact Nat.ne_of_lt (Nat.lt_succ_of_lt (hlt p hp))
end Mine
end PartX3

section PartB1
example : True := by
  w_top off
  trivial
open PySem PySem.W PyProof.Rows
set_option Elab.async false
namespace Mine
local macro_rules | `(tactic| omega) => `(tactic| first | (with_reducible assumption) | lia | omega +splitDisjunctions)
set_option maxRecDepth 100000
set_option maxHeartbeats 2000000
def RaiseOf (w : World) (E : Value → Shared → Prop) (v : Value) (s : Shared) : Prop :=
  ∃ e t d, v = .ref e ∧ (hd.heap_1 w.params).In s.heap ∧ s.heap.get? e = some (excObjD 45 t d) ∧ E (.ref e) s
section
variable {prog : Program} {w : World} {A : Around} {E : Value → Shared → Prop} {s : Shared} {env : Env}
theorem raiseStmt_d {x : Sem Value} {Q : Flow → Shared → Prop} (hh : A.handled = none) (h : wpAny (model prog w) A x (RaiseOf w E) E s) : wpAny (model prog w) A (raiseStmt env (some x) none) Q E s := by
  unfold raiseStmt
  refine wpAny_bind (wpAny_mono h (fun v s₁ h₁ => ?_) fun _ _ x => x)
  obtain ⟨e, t, d, rfl, X, he, hE⟩ := h₁
  obtain ⟨hp, g, dd, tk, os⟩ := s₁
  obtain ⟨nm, qn, ns, bs, bm, hdct, sn, sub, ab, col, dd', k0, k1, k2, k3, k5, hC, hb⟩ : ∃ nm qn ns bs bm hdct sn sub ab col dd k0 k1 k2 k3 k5, hp.get? 45 = some (excClassObj nm qn 45 ns bs bm hdct sn sub ab col dd k0 k1 k2 k3 k5 "Exception.__new__") ∧ bm = [.ref 32, .type "Exception", .type "BaseException", .type "object"] :=
    ⟨_, _, _, _, _, _, _, _, _, _, _, _, _, _, _, _, X _ _ rfl, rfl⟩
  subst hb
  have hcB : (Value.ref 45 :: [Value.ref 32, .type "Exception", .type "BaseException", .type "object"]).contains (.type "BaseException") = true := rfl
  repeat (first | with_reducible refine wpAny_loadPart_at he ?_ | with_reducible refine wpAny_loadPart_at hC ?_ | (with_reducible refine wpAny_isSubtype_exc hC ?_; rw [hcB]) | wp_step)
  exact wpAny_raiseNew_none hh hE
theorem raise_d {ex : PySem.Expr} {pos : Pos} {Q : Flow → Shared → Prop} (hh : A.handled = none) (h : wpAny (model prog w) A (eval ex env) (RaiseOf w E) E s) : wpAny (model prog w) A (exec (.Raise (some ex) none pos) env) Q E s := by
  rw [arm_exec_Raise]
  exact wpAny_bind (wpAny_standAt (raiseStmt_d hh (wpAny_bind (wpAny_mono h (fun v s₃ h₃ => wpAny_bind (wpAny_standAt (wpAny_pure h₃))) fun _ _ x => x))))
theorem raiseOf_ {e t d : Addr} (X : (hd.heap_1 w.params).In s.heap) (he : s.heap.get? e = some (excObjD 45 t d)) (h : E (.ref e) s) : RaiseOf w E (.ref e) s := ⟨e, t, d, rfl, X, he, h⟩
end

section
variable {prog : Program} {w : World} {A : Around} {E Q : Value → Shared → Prop} {s : Shared}
theorem ne_len {l b : Addr} {items items2 : Array Value} (hl : s.heap.IsList l items) (hb : s.heap.IsList b items2) (hsz : (items.size != items2.size) = true) (hu : A.units < cLine) (h : Q (.bool true) s) :
    wpAny (model prog w) A (compareOp .NotEq (.ref l) (.ref b)) Q E s := PySem.SeqAt.RcNeAt.lists_lengths hl hb hsz hu prog w E Q h
theorem ne_nils {l b : Addr} (hl : s.heap.IsList l #[]) (hb : s.heap.IsList b #[]) (hu : A.units < cLine) (h : Q (.bool false) s) :
    wpAny (model prog w) A (compareOp .NotEq (.ref l) (.ref b)) Q E s := PySem.SeqAt.RcNeAt.lists (e := fun _ => true) hl hb rfl hu (fun j h1 => absurd h1 (Nat.not_lt_zero j)) prog w E Q h
end
def ErrAt (w : World) (d : Addr) (x : Int × Str) (tl : List (Addr × Obj)) : Prop := ∃ tk t tk1 tk2, (d, toldOf w "told" tk (.ref t)) ∈ tl ∧ (t, tupOf [.int x.1 tk1, .str x.2 tk2]) ∈ tl
/-- one call that may raise, from any caller -/
def RunsE (w : World) (f : Addr) (vs : List Value) (need : Nat) (news : List (Addr × Obj)) (Ret : Value → List (Addr × Obj) → Prop) (Err : Int × Str → Prop) : Prop :=
  ∀ (p : Program) (loose : List Str) (mean : ExcName → Option Value) (mg mb : Str → Option Value) (dp un : Nat) (gd : Option (List Code)) (cn : Str) (cs : Scope) (a : Addr) (ccd : Value) (cl : List (Str × Addr))
    (outer : List Env) (A₀ : Around) (base h₀ : Heap) (L : Addr) (m : Str → Option Value) (s : Shared) (Q E : Value → Shared → Prop),
    Below A₀ base outer h₀ → Fr h₀ L s.heap m → (hd.heap_1 w.params).In h₀ → News h₀ L s.heap news → Top p loose mean mg mb h₀ → cs.kind = .function → dp + need < recursionLimit → un + 8 * need < cLine →
    (∀ r tl h' tk', Fr h₀ L h' m → News h₀ L h' (tl ++ news) → (∀ q ∈ news, ∀ p ∈ tl, q.1 < p.1) → Ret r tl → Q r { s with heap := h', toks := tk' }) →
    (∀ e d tk' h' tl G x, RaisedD base G (envX cn cs L a ccd cl :: outer) e (.ref 45) d (tl ++ news) h' → Fr h₀ L G m → G.UpToSlots h' → ErrAt w d x tl → Err x → E (.ref e) { s with heap := h', toks := tk' }) →
    wpAny (model Challenge.rw_pq1296_01.row.prog w) (ktrTop dp un gd cn cs L a ccd cl outer) (call (.ref f) vs) Q E s
theorem RaisedD.sub {base G : Heap} {l : List Env} {e d : Addr} {cls : Value} {news news' : List (Addr × Obj)} {h : Heap} (R : RaisedD base G l e cls d news h) (hs : ∀ p ∈ news', p ∈ news) : RaisedD base G l e cls d news' h :=
  let ⟨B, a0, x1, x2, x3, x4⟩ := R; ⟨B, a0, x1, x2, fun q hq => x3 q (hs q hq), x4⟩
def runOf (ks : List Int) (a : Nat) : List Int := (ks.drop a).takeWhile isSign
theorem runEnd_le {ks : List Int} {a : Nat} (h : a ≤ ks.length) : a ≤ runEnd ks a ∧ runEnd ks a ≤ ks.length := by
  have h1 := (List.takeWhile_prefix isSign (l := ks.drop a)).length_le
  rw [List.length_drop] at h1
  unfold runEnd
  omega
theorem cut_run {ks : List Int} {x : Int} (hx : 0 ≤ x) : cut ks x (runEnd ks x.toNat : Int) = runOf ks x.toNat := by
  unfold cut runEnd runOf
  have e : ((x.toNat + ((ks.drop x.toNat).takeWhile isSign).length : Nat) : Int).toNat - x.toNat = ((ks.drop x.toNat).takeWhile isSign).length := by omega
  rw [e]
  exact (List.prefix_iff_eq_take.mp (List.takeWhile_prefix isSign)).symm
theorem run_signs {ks : List Int} {a : Nat} : ∀ k ∈ runOf ks a, isSign k = true := fun k hk => by
  unfold runOf at hk
  generalize ks.drop a = l at hk
  induction l with
  | nil => cases hk
  | cons x r ih =>
    rw [List.takeWhile_cons] at hk
    split at hk
    · rename_i hx
      rcases List.mem_cons.mp hk with rfl | hk
      · exact hx
      · exact ih hk
    · cases hk
abbrev evenOf (l : List Int) : Prop := (ufold l).2.2 < 6 ∧ (ufold l).2.1 = 0
/-- what a run tells that opens at a -/
def runTells (ks : List Int) (a : Nat) : Res := rdAll (a : Int) (runEnd ks a : Int) (ufold (runOf ks a)).1 (evenOf (runOf ks a))
def mailRun (ks : List Int) (x : Int) (split : Bool) : Except (Int × Str) (List Int × Int) :=
  if (runEnd ks (x + 1).toNat : Int) = x + 1 ∧ (runEnd ks (x + 1).toNat : Int) < ks.length ∧ ks.getD (runEnd ks (x + 1).toNat : Int).toNat 0 = 45 then .ok ([38], (runEnd ks (x + 1).toNat : Int) + 1)
  else if split = true then .error (x, mSplit)
  else if (runEnd ks (x + 1).toNat : Int) = x + 1 then .error (x, mEmpty)
  else match runTells ks (x + 1).toNat with
    | .error y => .error y
    | .ok cs => if (runEnd ks (x + 1).toNat : Int) < ks.length ∧ ks.getD (runEnd ks (x + 1).toNat : Int).toNat 0 = 45 then .ok (cs, (runEnd ks (x + 1).toNat : Int) + 1) else .error ((runEnd ks (x + 1).toNat : Int), mOpen)
def bSame (bv : Value) (x : Int) : Bool := match bv with
  | .int i _ => decide (x = i)
  | _ => false
def MailRet (res : Except (Int × Str) (List Int × Int)) (r : Value) (tl : List (Addr × Obj)) : Prop :=
  ∃ rt lc cvs nc pl tk cs, tl = [(rt, tupOf [.ref lc, .int pl tk]), (lc, listOf cvs nc)] ∧ r = .ref rt ∧ lc < rt ∧ res = .ok (cs, pl) ∧ IntsAre cvs.toList cs ∧ cvs.size ≤ 1000001
section
variable {w : World} {news : List (Addr × Obj)} {p : Program} {loose : List Str} {mean : ExcName → Option Value} {mg mb : Str → Option Value} {dp un : Nat} {gd : Option (List Code)} {cn : Str} {cs : Scope} {a : Addr} {ccd : Value} {cl : List (Str × Addr)}
    {outer : List Env} {A₀ : Around} {base h₀ : Heap} {L : Addr} {m : Str → Option Value} {s : Shared} {Q E : Value → Shared → Prop}
theorem use_end {b : Array UInt8} {ks : List Int} {tb : Tok} {x : Int} {t : Tok} (B : Below A₀ base outer h₀) (F : Fr h₀ L s.heap m) (X : (hd.heap_1 w.params).In h₀) (N : News h₀ L s.heap news) (T : Top p loose mean mg mb h₀) (hk : cs.kind = .function) (hbi : KBw.bInts b = ks) (hbl : ks.length ≤ 1000000) (hx : 0 ≤ x)
    (hd : dp + 2 < recursionLimit) (hu : un + 8 * 2 < cLine) (h : ∀ h' tk' t', Fr h₀ L h' m → News h₀ L h' news → Q (.int (runEnd ks x.toNat : Int) t') { s with heap := h', toks := tk' }) :
    wpAny (model Challenge.rw_pq1296_01.row.prog w) (ktrTop dp un gd cn cs L a ccd cl outer) (call (.ref 82) [.bytes b tb, .int x t, .bool true]) Q E s :=
  runs_use B F X N T hk (runs_run_end w b ks tb x t news hbi hbl hx) hd hu fun r tl h' tk' F' N' _ hr => by
    obtain ⟨rfl, t', rfl⟩ := hr
    exact h h' tk' t' F' N'
theorem use_read {b : Array UInt8} {ks : List Int} {tb : Tok} {x y : Int} {t t2 : Tok} (B : Below A₀ base outer h₀) (F : Fr h₀ L s.heap m) (X : (hd.heap_1 w.params).In h₀) (N : News h₀ L s.heap news) (T : Top p loose mean mg mb h₀) (hk : cs.kind = .function) (hbi : KBw.bInts b = ks) (hbl : ks.length ≤ 1000000) (hx : 0 ≤ x) (hy : y = runEnd ks x.toNat) (hx2 : x ≤ ks.length)
    (hd : dp + 3 < recursionLimit) (hu : un + 8 * 3 < cLine)
    (h1 : ∀ h' tk' rt lc lf cvs nc nf cs', Fr h₀ L h' m → News h₀ L h' ((rt, tupOf [.ref lc, .ref lf]) :: (lc, listOf cvs nc) :: (lf, listOf #[] nf) :: news) → (∀ p ∈ news, p.1 < lc) → lc < lf → lf < rt → runTells ks x.toNat = .ok cs' → IntsAre cvs.toList cs' → cvs.size ≤ 1000001 → Q (.ref rt) { s with heap := h', toks := tk' })
    (h2 : ∀ h' tk' rt lc lf cvs nc nf tt rest e g tk1 tk2, Fr h₀ L h' m → News h₀ L h' ((rt, tupOf [.ref lc, .ref lf]) :: (lc, listOf cvs nc) :: (lf, listOf (Value.ref tt :: rest).toArray nf) :: (tt, tupOf [.int e tk1, .str g tk2]) :: news) → (∀ p ∈ news, p.1 < lc) → lc < lf → lf < tt → tt < rt → runTells ks x.toNat = .error (e, g) → rest.length ≤ 1000000 → Q (.ref rt) { s with heap := h', toks := tk' }) :
    wpAny (model Challenge.rw_pq1296_01.row.prog w) (ktrTop dp un gd cn cs L a ccd cl outer) (call (.ref 96) [.bytes b tb, .int x t, .int y t2, .bool true]) Q E s := by
  subst hy
  have hle := runEnd_le (ks := ks) (a := x.toNat) (by omega)
  refine runs_use B F X N T hk (runs_read w b ks tb x (runEnd ks x.toNat) t t2 news hbi hbl hx (by omega) (by omega) (fun k hk => by rw [cut_run hx] at hk; exact run_signs k hk)) hd hu fun r tl h' tk' F' N' hl hr => ?_
  obtain ⟨rt, lc, lf, cvs, nc, fvs, nf, tl', rfl, rfl, hrep, h3, h4, h5, h6, h7⟩ := hr
  rw [cut_run hx] at hrep
  have ex : ((x.toNat : Nat) : Int) = x := Int.toNat_of_nonneg hx
  have er : rdAll x (runEnd ks x.toNat : Int) (ufold (runOf ks x.toNat)).1 ((ufold (runOf ks x.toNat)).2.2 < 6 ∧ (ufold (runOf ks x.toNat)).2.1 = 0) = runTells ks x.toNat := by unfold runTells; rw [ex]
  rw [er] at hrep
  have hn : ∀ p ∈ news, p.1 < lc := fun p hp => hl p hp _ (.tail _ (.head _))
  cases e : runTells ks x.toNat with
  | ok cs' =>
    rw [e] at hrep
    obtain ⟨rfl, rfl, hI⟩ := hrep
    exact h1 h' tk' rt lc lf cvs nc nf cs' F' N' hn h3 h4 e hI h5
  | error q =>
    obtain ⟨e0, g⟩ := q
    rw [e] at hrep
    obtain ⟨tt, rest, tk1, tk2, hf, rfl⟩ := hrep
    obtain ⟨h8, h9⟩ := h7 _ (.head _)
    have hfv : fvs = (Value.ref tt :: rest).toArray := by rw [← hf]
    subst hfv
    exact h2 h' tk' rt lc lf cvs nc nf tt rest e0 g tk1 tk2 F' N' hn h3 h8 h9 e (by simp at h6; omega)
end
section
variable {w : World} {prog : Program} {news rest : List (Addr × Obj)} {A : Around} {base h₀ g : Heap} {L L' : Addr} {m m' : Str → Option Value} {s s₀ : Shared} {Q E : Value → Shared → Prop} {cenv env : Env} {outer : List Env} {Err : Int × Str → Prop} {e d tp t D lc : Addr} {tk tk1 tk2 : Tok} {x1 : Int} {x2 : Str}
theorem raise_fin (hexc : ∀ e d tk' h' tl G x, RaisedD base G (cenv :: outer) e (.ref 45) d (tl ++ news) h' → Fr h₀ L G m → G.UpToSlots h' → ErrAt w d x tl → Err x → E (.ref e) { s₀ with heap := h', toks := tk' })
    (K : Below A base (cenv :: outer) g) (FG : Fr h₀ L g m) (F : Fr g L' s.heap m') (X : (hd.heap_1 w.params).In g) (N : News g L' s.heap ((e, excObjD 45 tp d) :: (d, toldOf w "told" tk (.ref t)) :: (tp, tupOf [.ref t]) :: rest)) (h1 : tp < e) (h2 : e < d) (h3 : ∀ p ∈ rest, p.1 < tp)
    (hm : (t, tupOf [.int x1 tk1, .str x2 tk2]) ∈ rest) (hs : ∀ p ∈ news, p ∈ rest) (hx : Err (x1, x2)) (hs0 : s = { s₀ with heap := s.heap, toks := s.toks }) (hf : env.frame = some L') (hk : env.scope.kind = .function) :
    RaiseOf w (fun e s' => wpAny (model prog w) (A.deeper env) (leaving env e) (fun _ s'' => E e s'') (fun e' s'' => E e' s'') s') (.ref e) s := by
  refine raiseOf_ (X.keeps F.keep) (N _ (.head _)).1 ?_
  refine leave_raiseD (cls := .ref 45) (d := d) K F N (fun q hq => ?_) rfl rfl rfl rfl rfl (fun h' R U => ?_) hf hk
  · rcases List.mem_cons.mp hq with rfl | hq
    · exact Nat.ne_of_gt h2
    rcases List.mem_cons.mp hq with rfl | hq
    · exact Nat.ne_of_lt h1
    · exact Nat.ne_of_lt (Nat.lt_trans (h3 q hq) h1)
  · rw [hs0]
    refine hexc e d s.toks h' [(d, toldOf w "told" tk (.ref t)), (t, tupOf [.int x1 tk1, .str x2 tk2])] g (x1, x2) (R.sub fun p hp => ?_) FG U ⟨tk, t, tk1, tk2, .head _, .tail _ (.head _)⟩ hx
    simp only [List.cons_append, List.nil_append, List.mem_cons] at hp ⊢
    rcases hp with h | h | h
    · exact .inl h
    · exact .inr (.inr (h ▸ hm))
    · exact .inr (.inr (hs p h))
theorem mail_fin {res : Except (Int × Str) (List Int × Int)} {h' : Heap} {tk' : Nat} {cvs : Array Value} {nc : Nat} {cs' : List Int} {pl : Int} (hret : ∀ r tl h' tk', Fr h₀ L h' m → News h₀ L h' (tl ++ news) → (∀ q ∈ news, ∀ p ∈ tl, q.1 < p.1) → MailRet res r tl → Q r { s with heap := h', toks := tk' })
    (F : Fr h₀ L h' m) (N : News h₀ L h' ((D, tupOf [.ref lc, .int pl tk]) :: rest)) (hm : (lc, listOf cvs nc) ∈ rest) (hs : ∀ p ∈ news, p ∈ rest) (hlc : ∀ p ∈ news, p.1 < lc) (hD : lc < D) (hres : res = .ok (cs', pl)) (hI : IntsAre cvs.toList cs') (hz : cvs.size ≤ 1000001) :
    Q (.ref D) { s with heap := h', toks := tk' } := by
  refine hret (.ref D) [(D, tupOf [.ref lc, .int pl tk]), (lc, listOf cvs nc)] h' tk' F (fun p hp => N p ?_) (fun q hq p hp => ?_) ⟨D, lc, cvs, nc, pl, tk, cs', rfl, rfl, hD, hres, hI, hz⟩
  · simp only [List.cons_append, List.nil_append, List.mem_cons] at hp ⊢
    rcases hp with h | h | h
    · exact .inl h
    · exact .inr (h ▸ hm)
    · exact .inr (hs p h)
  · rcases List.mem_cons.mp hp with rfl | hp
    · exact Nat.lt_trans (hlc q hq) hD
    · rw [List.mem_singleton.mp hp]; exact hlc q hq
end
section
variable {ks : List Int} {x : Int} {sp : Bool}
theorem m_one (h1 : (runEnd ks (x + 1).toNat : Int) = x + 1) (h2 : (runEnd ks (x + 1).toNat : Int) < ks.length) (h3 : ks.getD (runEnd ks (x + 1).toNat : Int).toNat 0 = 45) : mailRun ks x sp = .ok ([38], (runEnd ks (x + 1).toNat : Int) + 1) := by
  unfold mailRun; rw [if_pos ⟨h1, h2, h3⟩]
theorem m_split (h1 : ¬ ((runEnd ks (x + 1).toNat : Int) = x + 1 ∧ (runEnd ks (x + 1).toNat : Int) < ks.length ∧ ks.getD (runEnd ks (x + 1).toNat : Int).toNat 0 = 45)) (h : sp = true) : mailRun ks x sp = .error (x, mSplit) := by
  unfold mailRun; rw [if_neg h1, if_pos h]
theorem m_empty (h1 : ¬ ((runEnd ks (x + 1).toNat : Int) = x + 1 ∧ (runEnd ks (x + 1).toNat : Int) < ks.length ∧ ks.getD (runEnd ks (x + 1).toNat : Int).toNat 0 = 45)) (h : sp = false) (h2 : (runEnd ks (x + 1).toNat : Int) = x + 1) : mailRun ks x sp = .error (x, mEmpty) := by
  unfold mailRun; rw [if_neg h1, if_neg (by rw [h]; decide), if_pos h2]
theorem m_read {y : Int × Str} (h : sp = false) (h2 : (runEnd ks (x + 1).toNat : Int) ≠ x + 1) (hr : runTells ks (x + 1).toNat = .error y) : mailRun ks x sp = .error y := by
  unfold mailRun; rw [if_neg (fun q => h2 q.1), if_neg (by rw [h]; decide), if_neg h2, hr]
theorem m_ok {cs : List Int} (h : sp = false) (h2 : (runEnd ks (x + 1).toNat : Int) ≠ x + 1) (hr : runTells ks (x + 1).toNat = .ok cs) (h3 : (runEnd ks (x + 1).toNat : Int) < ks.length) (h4 : ks.getD (runEnd ks (x + 1).toNat : Int).toNat 0 = 45) : mailRun ks x sp = .ok (cs, (runEnd ks (x + 1).toNat : Int) + 1) := by
  unfold mailRun; rw [if_neg (fun q => h2 q.1), if_neg (by rw [h]; decide), if_neg h2, hr]
  exact if_pos ⟨h3, h4⟩
theorem m_open {cs : List Int} (h : sp = false) (h2 : (runEnd ks (x + 1).toNat : Int) ≠ x + 1) (hr : runTells ks (x + 1).toNat = .ok cs) (h3 : ¬ ((runEnd ks (x + 1).toNat : Int) < ks.length ∧ ks.getD (runEnd ks (x + 1).toNat : Int).toNat 0 = 45)) : mailRun ks x sp = .error ((runEnd ks (x + 1).toNat : Int), mOpen) := by
  unfold mailRun; rw [if_neg (fun q => h2 q.1), if_neg (by rw [h]; decide), if_neg h2, hr]
  exact if_neg h3
theorem eq_behind {prog : Program} {w : World} {A : Around} {E Q : Value → Shared → Prop} {s : Shared} {bv : Value} {t : Tok} (hbv : bv = .none ∨ ∃ i ti, bv = .int i ti) (h : Q (.bool (bSame bv x)) s) :
    wpAny (model prog w) A (compareOp .Eq (.int x t) bv) Q E s := by
  rcases hbv with rfl | ⟨i, ti, rfl⟩
  · exact PySem.EqNone.eq_int_none h
  · exact PySem.P.eq_int h
end
local macro_rules | `(tactic| k_all) => `(tactic| with_unfolding_all assumption)
local macro_rules | `(tactic| walk_at "exec Raise some none") => `(tactic| (k_here; k_dflt (refine raise_d ?_ ?_; exact rfl)))
local macro_rules | `(tactic| walk_at "RaiseOf") => `(tactic| (refine stop ?_))
local macro_rules | `(tactic| walk_at "leaving ref") => `(tactic| (k_here; refine stop ?_))
local macro_rules | `(tactic| walk_at "call ref") => `(tactic| (k_here; refine stop ?_))
local macro_rules | `(tactic| walk_at "compareOp NotEq ref ref") => `(tactic| (k_here; refine stop ?_))
local macro_rules | `(tactic| walk_at "compareOp Eq int") => `(tactic| (k_here; refine stop ?_))
theorem runs_mail (w : World) (b : Array UInt8) (ks : List Int) (tb : Tok) (x : Int) (t : Tok) (bv : Value) (news : List (Addr × Obj)) (hbi : KBw.bInts b = ks) (hbl : ks.length ≤ 1000000) (hx : 0 ≤ x) (hx2 : x < ks.length) (hbv : bv = .none ∨ ∃ i ti, bv = .int i ti) :
    RunsE w 103 [.bytes b tb, .int x t, bv] 6 news (MailRet (mailRun ks x (bSame bv x))) (fun e => mailRun ks x (bSame bv x) = .error e) := by
  unfold RunsE
  k_fill
  intro p loose mean mg mb dp un gd cn cs a ccd cl outer A₀ base h₀ L m s Q E B F X N T hk hd hu hret hexc
  refine wpAny_call ?_
  k_dflt cell_enter
  k_steps
  repeat' ((unfold Stop); (first | ((with_reducible show wpAny _ _ (call (Value.ref 82) _) _ _ _); (k_dflt refine' use_end ?k1 ?k2 ?k3 ?k4 ?k5 ?kK ?ka1 ?ka2 ?ka3 ?kd ?ku (fun _ _ _ _ _ => ?_)); (case ka1 => assumption); (case ka2 => assumption); (case ka3 => omega); (case k1 => k_asm); (case k2 => k_asm); (case k3 => k_asm); (case k4 => k_asm); (case k5 => k_asm); (case kK => first | exact rfl | assumption); (case kd => ktr_room); (case ku => ktr_units); (all_goals try k_whole); (all_goals try k_sweep)) | ((with_reducible show wpAny _ _ (call (Value.ref 96) _) _ _ _); (k_dflt refine' use_read ?k1 ?k2 ?k3 ?k4 ?k5 ?kK ?ka1 ?ka2 ?ka3 ?ka4 ?ka5 ?kd ?ku (fun _ _ _ _ _ _ _ _ _ _ _ _ _ _ _ _ => ?_) (fun _ _ _ _ _ _ _ _ _ _ _ _ _ _ _ _ _ _ _ => ?_)); (case ka1 => assumption); (case ka2 => assumption); (case ka3 => omega); (case ka4 => exact rfl); (case ka5 => omega); (case k1 => k_asm); (case k2 => k_asm); (case k3 => k_asm); (case k4 => k_asm); (case k5 => k_asm); (case kK => first | exact rfl | assumption); (case kd => ktr_room); (case ku => ktr_units); (all_goals try k_whole); (all_goals try k_sweep)) | ((with_reducible show wpAny _ _ (call (Value.ref 45) _) _ _ _); (k_dflt refine' use_exc ?k1 ?k2 ?k3 ?k4 ?k5 ?kK ?kd ?ku (fun _ _ _ _ _ _ _ _ _ _ _ => ?_)); (case k1 => k_asm); (case k2 => k_asm); (case k3 => k_asm); (case k4 => k_asm); (case k5 => k_asm); (case kK => first | exact rfl | assumption); (case kd => ktr_room); (case ku => ktr_units); (all_goals try k_whole); (all_goals try k_sweep)) | ((with_reducible show wpAny _ _ (compareOp _ (Value.ref _) (Value.ref _)) _ _ _); k_dflt (first | refine ne_nils (by is_list) (by is_list) (by ktr_units) ?_ | refine ne_len (by is_list) (by is_list) (by rfl) (by ktr_units) ?_)) | ((with_reducible show wpAny _ _ (compareOp _ _ _) _ _ _); k_dflt (refine eq_behind (by assumption) ?_)) | ((with_reducible show RaiseOf _ _ _ _); (k_dflt refine' raiseOf_ ?k1 ?k2 ?_); (case k1 => k_in); (case k2 => (with_reducible rename News _ _ _ _ => kN9; exact (kN9 _ (.head _)).1))) | ((with_reducible show wpAny _ _ (leaving _ _) _ _ _); (k_dflt refine' leave_raiseD ?k1 ?k2 ?k3 ?k4 ?k5 ?k6 ?k7 ?k8 ?k9 ?_ ?k10 ?k11); (case k1 => assumption); (case k2 => assumption); (case k3 => assumption); (case k4 => assumption); (case k5 => exact rfl); (case k6 => exact rfl); (case k7 => exact rfl); (case k8 => exact rfl); (case k9 => exact rfl); (case k10 => exact rfl); (case k11 => exact rfl); k_whole; intro _ R' U'; (try dsimp only at R' U' ⊢))); (try k_steps))
  all_goals first
    | contradiction
    | (with_unfolding_all refine' raise_fin hexc ?rB ?rFG ?rF ?rX ?rN ?r1 ?r2 ?r3 ?rm ?rs ?rx ?rs0 ?rf ?rk
       case rB => assumption
       case rFG => assumption
       case rF => assumption
       case rX => assumption
       case rN => assumption
       case r1 => assumption
       case r2 => assumption
       case r3 => assumption
       case rm => first | exact .head _ | exact .tail _ (.head _) | exact .tail _ (.tail _ (.head _)) | exact .tail _ (.tail _ (.tail _ (.head _))) | exact .tail _ (.tail _ (.tail _ (.tail _ (.head _))))
       case rs => intro p hp; simp only [List.mem_cons]; simp only [hp, or_true]
       case rs0 => rfl
       case rf => rfl
       case rk => rfl
       case rx => first | exact m_split (by omega) (by assumption) | exact m_empty (by omega) (by assumption) (by assumption) | exact m_read (by assumption) (by assumption) (by assumption) | exact m_open (by assumption) (by assumption) (by assumption) (by omega))
    | (rename_i l1 kF kN Tc kX
       refine' mail_fin hret kF kN ?rm ?rs ?rl ?rD ?rx ?rI ?rz
       case rm => first | exact .head _ | exact .tail _ (.head _) | exact .tail _ (.tail _ (.head _)) | exact .tail _ (.tail _ (.tail _ (.head _)))
       case rs => intro p hp; simp only [List.mem_cons]; simp only [hp, or_true]
       case rl => first | assumption | exact allLt_mem (by assumption)
       case rD => simp [l1]
       case rI => first | assumption | exact .cons _ _ .nil
       case rz => first | assumption | decide
       case rx => first | exact m_one (by assumption) (by assumption) (by assumption) | exact m_ok (by assumption) (by assumption) (by assumption) (by assumption) (by assumption))
end Mine
end PartB1

section PartL3
example : True := by
  w_top off
  trivial
open PySem PySem.W PyProof.Rows
set_option Elab.async false
namespace Mine
theorem rd_len (st : Int) : ∀ (n : Nat) (U : List Int) (a : Nat) (cs : List Int), U.length ≤ n → rd st a U = .ok cs → cs.length ≤ U.length := by
  have one_len : ∀ {a u k cs U n}, (∀ cs', k = Except.ok cs' → cs'.length ≤ n) → one st a u k = .ok cs → (u :: U : List Int).length = n + 1 → cs.length ≤ n + 1 := by
    intro a u k cs U n hk h _
    unfold one at h
    split at h
    · cases h
    split at h
    · cases h
    cases k with
    | error e => cases h
    | ok cs' => cases h; have := hk cs' rfl; simp; omega
  intro n
  induction n with
  | zero =>
    intro U a cs hn h
    have : U = [] := List.eq_nil_of_length_eq_zero (by omega)
    subst this
    rw [rd] at h
    cases h
    exact Nat.le_refl _
  | succ n ih =>
    intro U a cs hn h
    match U, hn, h with
    | [], _, h => rw [rd] at h; cases h; exact Nat.le_refl _
    | [u], _, h =>
      rw [rd] at h
      exact one_len (n := 0) (U := []) (fun cs' e => by cases e; exact Nat.le_refl _) h rfl
    | u :: v :: r, hn, h =>
      rw [rd] at h
      split at h
      · cases e : rd st (a + 2) r with
        | error x => rw [e] at h; cases h
        | ok cs' =>
          rw [e] at h
          cases h
          have := ih r _ cs' (by simp at hn; omega) e
          simp; omega
      · refine one_len (n := (v :: r).length) (U := v :: r) (fun cs' e => ih (v :: r) _ cs' (by simp at hn ⊢; omega) e) h rfl
theorem runOf_len {ks : List Int} {a : Nat} : runEnd ks a = a + (runOf ks a).length := rfl
theorem tells_len {ks : List Int} {a : Nat} {cs : List Int} (h : runTells ks a = .ok cs) : cs.length ≤ (runOf ks a).length := by
  unfold runTells rdAll at h
  cases e : rd (a : Int) 0 (ufold (runOf ks a)).1 with
  | error x => rw [e] at h; cases h
  | ok cs' =>
    rw [e] at h
    dsimp only at h
    split at h
    · cases h
      exact Nat.le_trans (rd_len _ _ _ _ _ (Nat.le_refl _) e) (ufold_len _)
    · cases h
theorem mail_nums {n E L c K : Nat} (hE : E = n + 1 + L) (h2 : (E : Int) < K) (hc : c ≤ L + 1) : (c : Int) ≤ E + 1 - n ∧ (n : Int) < E + 1 ∧ (E : Int) + 1 ≤ K := by lia
theorem mail_bound {ks : List Int} {x : Int} {sp : Bool} {cs : List Int} {pl : Int} (hx : 0 ≤ x) (_hx2 : x < ks.length) (h : mailRun ks x sp = .ok (cs, pl)) : (cs.length : Int) ≤ pl - x ∧ x < pl ∧ pl ≤ ks.length := by
  obtain ⟨n, rfl⟩ := Int.eq_ofNat_of_zero_le hx
  have hr := runOf_len (ks := ks) (a := n + 1)
  unfold mailRun at h
  rw [show ((n : Int) + 1).toNat = n + 1 from rfl] at h
  split at h
  · rename_i q
    cases h
    exact mail_nums hr q.2.1 (Nat.le_add_left 1 _)
  split at h
  · cases h
  split at h
  · cases h
  split at h
  · cases h
  · rename_i cs' e
    split at h
    · rename_i q
      cases h
      exact mail_nums hr q.1 (Nat.le_succ_of_le (tells_len e))
    · cases h
/-- what the octets tell, from a place on; bh: where the last run of signs ends -/
inductive Dec (ks : List Int) : Int → Int → Res → Prop
  | done {x bh : Int} : (ks.length : Int) ≤ x → Dec ks x bh (.ok [])
  | bad {x bh : Int} {e} : x < ks.length → ks.getD x.toNat 0 = 38 → mailRun ks x (decide (x = bh)) = .error e → Dec ks x bh (.error e)
  | run {x bh : Int} {cs pl R} : x < ks.length → ks.getD x.toNat 0 = 38 → mailRun ks x (decide (x = bh)) = .ok (cs, pl) → Dec ks pl (if x + 2 < pl then pl else -1) R → Dec ks x bh (R.map (cs ++ ·))
  | sign {x bh : Int} {R} : x < ks.length → ks.getD x.toNat 0 ≠ 38 → 32 ≤ ks.getD x.toNat 0 ∧ ks.getD x.toNat 0 ≤ 126 → Dec ks (x + 1) bh R → Dec ks x bh (R.map (ks.getD x.toNat 0 :: ·))
  | not {x bh : Int} : x < ks.length → ks.getD x.toNat 0 ≠ 38 → ¬ (32 ≤ ks.getD x.toNat 0 ∧ ks.getD x.toNat 0 ≤ 126) → Dec ks x bh (.error (x, mDirect))
theorem Dec.det {ks : List Int} {x bh : Int} {R R' : Res} (h : Dec ks x bh R) : Dec ks x bh R' → R = R' := by
  intro h'
  induction h generalizing R' with
  | done h0 => cases h' <;> first | rfl | omega
  | bad h0 h1 h2 =>
    cases h' with
    | done => omega
    | bad _ _ h3 => rw [h2] at h3; cases h3; rfl
    | run _ _ h3 _ => rw [h2] at h3; cases h3
    | sign _ h3 => exact absurd h1 h3
    | not _ h3 => exact absurd h1 h3
  | run h0 h1 h2 h4 ih =>
    cases h' with
    | done => omega
    | bad _ _ h3 => rw [h2] at h3; cases h3
    | run _ _ h3 h5 => rw [h2] at h3; cases h3; rw [ih h5]
    | sign _ h3 => exact absurd h1 h3
    | not _ h3 => exact absurd h1 h3
  | sign h0 h1 h2 h4 ih =>
    cases h' with
    | done => omega
    | bad _ h3 => exact absurd h3 h1
    | run _ h3 => exact absurd h3 h1
    | sign _ _ _ h5 => rw [ih h5]
    | not _ _ h3 => exact absurd h2 h3
  | not h0 h1 h2 =>
    cases h' with
    | done => omega
    | bad _ h3 => exact absurd h3 h1
    | run _ h3 => exact absurd h3 h1
    | sign _ _ h3 => exact absurd h3 h2
    | not => rfl
theorem Dec.forget {ks : List Int} {x bh : Int} {R : Res} (h : Dec ks x bh R) : ∀ {bh' : Int}, bh < x → bh' < x → Dec ks x bh' R := by
  induction h with
  | done h0 => intro bh' _ _; exact .done h0
  | bad h0 h1 h2 =>
    intro bh' q1 q2
    rw [decide_eq_false (by omega)] at h2
    exact .bad h0 h1 (by rw [decide_eq_false (by omega)]; exact h2)
  | run h0 h1 h2 h4 _ =>
    intro bh' q1 q2
    rw [decide_eq_false (by omega)] at h2
    exact .run h0 h1 (by rw [decide_eq_false (by omega)]; exact h2) h4
  | sign h0 h1 h2 _ ih => intro bh' q1 q2; exact .sign h0 h1 h2 (ih (by omega) (by omega))
  | not h0 h1 h2 => intro bh' _ _; exact .not h0 h1 h2
end Mine
end PartL3

section PartC1
example : True := by
  w_top off
  trivial
open PySem PySem.W PyProof.Rows
set_option Elab.async false
namespace Mine
local macro_rules | `(tactic| walk_at "no such key") => `(tactic| skip)
local macro_rules | `(tactic| omega) => `(tactic| first | (with_reducible assumption) | lia | omega +splitDisjunctions)
set_option maxRecDepth 100000
set_option maxHeartbeats 2000000
def bVal (bv : Value) : Int := match bv with
  | .int i _ => i
  | _ => -1
theorem bSame_val {bv : Value} {x : Int} (hbv : bv = .none ∨ ∃ i ti, bv = .int i ti) (hx : 0 ≤ x) : bSame bv x = decide (x = bVal bv) := by
  rcases hbv with rfl | ⟨i, ti, rfl⟩
  · show false = decide (x = -1); exact (decide_eq_false (by omega)).symm
  · rfl
section
variable {w : World} {news : List (Addr × Obj)} {p : Program} {loose : List Str} {mean : ExcName → Option Value} {mg mb : Str → Option Value} {dp un : Nat} {gd : Option (List Code)} {cn : Str} {cs : Scope} {a : Addr} {ccd : Value} {cl : List (Str × Addr)}
    {outer : List Env} {A₀ : Around} {base h₀ : Heap} {L : Addr} {m : Str → Option Value} {s : Shared} {Q E : Value → Shared → Prop}
theorem use_mail {b : Array UInt8} {ks : List Int} {tb : Tok} {x : Int} {t : Tok} {bv : Value} (B : Below A₀ base outer h₀) (F : Fr h₀ L s.heap m) (X : (hd.heap_1 w.params).In h₀) (N : News h₀ L s.heap news) (T : Top p loose mean mg mb h₀) (hk : cs.kind = .function) (hbi : KBw.bInts b = ks) (hbl : ks.length ≤ 1000000) (hx : 0 ≤ x) (hx2 : x < ks.length) (hbv : bv = .none ∨ ∃ i ti, bv = .int i ti)
    (hd : dp + 6 < recursionLimit) (hu : un + 8 * 6 < cLine)
    (h1 : ∀ h' tk' rt lc cvs nc pl tk cs', Fr h₀ L h' m → News h₀ L h' ((rt, tupOf [.ref lc, .int pl tk]) :: (lc, listOf cvs nc) :: news) → (∀ p ∈ news, p.1 < lc) → (∀ p ∈ (lc, listOf cvs nc) :: news, p.1 < rt) → mailRun ks x (decide (x = bVal bv)) = .ok (cs', pl) → IntsAre cvs.toList cs' → (cvs.size : Int) ≤ pl - x → x < pl → pl ≤ ks.length → Q (.ref rt) { s with heap := h', toks := tk' })
    (h2 : ∀ e d tk' h' tl G x', RaisedD base G (envX cn cs L a ccd cl :: outer) e (.ref 45) d (tl ++ news) h' → Fr h₀ L G m → G.UpToSlots h' → ErrAt w d x' tl → mailRun ks x (decide (x = bVal bv)) = .error x' → E (.ref e) { s with heap := h', toks := tk' }) :
    wpAny (model Challenge.rw_pq1296_01.row.prog w) (ktrTop dp un gd cn cs L a ccd cl outer) (call (.ref 103) [.bytes b tb, .int x t, bv]) Q E s := by
  rw [← bSame_val hbv hx] at h1 h2
  refine runs_mail w b ks tb x t bv news hbi hbl hx hx2 hbv p loose mean mg mb dp un gd cn cs a ccd cl outer A₀ base h₀ L m s Q E B F X N T hk hd hu (fun r tl h' tk' F' N' hl hr => ?_) h2
  obtain ⟨rt, lc, cvs, nc, pl, tk, cs', rfl, rfl, q1, q2, q3, q4⟩ := hr
  obtain ⟨b1, b2, b3⟩ := mail_bound hx hx2 q2
  refine h1 h' tk' rt lc cvs nc pl tk cs' F' N' (fun p hp => hl p hp _ (.tail _ (.head _))) (fun p hp => (List.mem_cons.mp hp).elim (fun e => e ▸ q1) fun hp => hl p hp _ (.head _)) q2 q3 ?_ b2 b3
  have := q3.length
  rw [Array.length_toList] at this
  omega
theorem pass_fin {prog : Program} {A : Around} {cenv env : Env} {g G : Heap} {L' e d : Addr} {m' : Str → Option Value} {news' tl : List (Addr × Obj)} {x : Int × Str} {Err : Int × Str → Prop} {s₀ s' : Shared}
    (hexc : ∀ e d tk' h' tl G x, RaisedD base G (cenv :: outer) e (.ref 45) d (tl ++ news) h' → Fr h₀ L G m → G.UpToSlots h' → ErrAt w d x tl → Err x → E (.ref e) { s₀ with heap := h', toks := tk' })
    (K : Below A base (cenv :: outer) g) (FG : Fr h₀ L g m) (F : Fr g L' G m') (R : RaisedD base G (env :: cenv :: outer) e (.ref 45) d (tl ++ news') s'.heap) (U : G.UpToSlots s'.heap) (he : ErrAt w d x tl) (hx : Err x) (hs : ∀ p ∈ news, p ∈ news') (hs0 : s' = { s₀ with heap := s'.heap, toks := s'.toks }) (hf : env.frame = some L') :
    wpAny (model prog w) (A.deeper env) (leaving env (.ref e)) (fun _ s'' => E (.ref e) s'') (fun e' s'' => E e' s'') s' := by
  refine leave_onD K F R U (fun h'' R' U' => ?_) hf
  rw [hs0]
  exact hexc e d s'.toks h'' tl g x (R'.sub fun p hp => (List.mem_append.mp hp).elim (List.mem_append_left _) fun h => List.mem_append_right _ (hs p h)) FG U' he hx
end
theorem upd_of {D : Addr} {o o' : Obj} {post : List (Addr × Obj)} (h2 : ∀ p ∈ post, p.1 ≠ D) : ∀ {pre : List (Addr × Obj)}, (∀ p ∈ pre, p.1 ≠ D) → Upd D o o' (pre ++ (D, o) :: post) (pre ++ (D, o') :: post)
  | [], _ => .head h2
  | p :: _, h => .tail (h p (.head _)) (upd_of h2 fun q hq => h q (.tail _ hq))
theorem extend_any {prog : Program} {w : World} {A : Around} {E Q : Value → Shared → Prop} {s : Shared} {h₀ : Heap} {L D b : Addr} {m : Str → Option Value} {news : List (Addr × Obj)} {its its2 : Array Value} {n n2 : Nat} {g : Obj → List (Addr × Obj)}
    (F : Fr h₀ L s.heap m) (N : News h₀ L s.heap news) (hb : (b, listOf its2 n2) ∈ news) (U : UpdF D (listOf its n) news g) (hz : its.size + its2.size ≤ 4000000)
    (h : ∀ h' c, Fr h₀ L h' m → News h₀ L h' (g (listOf (its ++ its2) c)) → Q .none { s with heap := h' }) : wpAny (model prog w) A (call (.builtin "list.extend") [.ref D, .ref b]) Q E s := by
  obtain ⟨pre, post, rfl, hg, h1, h2⟩ := U.split
  have hd : ¬(!its.isEmpty && Builtin.List.listTooLong (its.size + its2.size)) = true := by
    have : Builtin.List.listTooLong (its.size + its2.size) = false := by unfold Builtin.List.listTooLong; rw [sizeLine_eq]; exact decide_eq_false (by omega)
    rw [this, Bool.and_false]; decide
  have hz1 : its.toList.length ≤ sizeLine := by rw [Array.length_toList, sizeLine_eq]; omega
  have hz2 : its.size + its2.size ≤ sizeLine + 1 := by rw [sizeLine_eq]; omega
  by_cases e : its2.toList = []
  · refine kxn_extend F N hb e (upd_of h2 h1) hd hz1 hz2 fun h' F' N' => h h' n F' ?_
    have e1 : its2 = #[] := Array.toList_inj.mp (by rw [e])
    rw [hg, e1, Array.append_empty]; exact N'
  · refine kl_extend F N hb (l := its.toList ++ its2.toList) rfl (fun q => e (List.eq_nil_of_length_eq_zero q)) (upd_of h2 h1) hd hz1 hz2 fun h' F' N' => h h' (n + 1) F' ?_
    have e1 : (its.toList ++ its2.toList).toArray = its ++ its2 := by apply Array.toList_inj.mp; simp
    rw [e1] at N'
    rw [hg]; exact N'
theorem mem_two {a b x : Addr × Obj} {l : List (Addr × Obj)} : ∀ p ∈ x :: l, p ∈ a :: b :: x :: l := fun _ hp => .tail _ (.tail _ hp)
theorem mem_zero {x : Addr × Obj} {l : List (Addr × Obj)} : ∀ p ∈ x :: l, p ∈ x :: l := fun _ hp => hp
theorem ints_app {us vs : Array Value} {U V : List Int} (h : IntsAre us.toList U) (h2 : IntsAre vs.toList V) : IntsAre (us ++ vs).toList (U ++ V) := by
  have e : (us ++ vs).toList = us.toList ++ vs.toList := by simp
  rw [e]
  generalize us.toList = a at h
  induction h with
  | nil => exact h2
  | cons _ _ _ ih => exact .cons _ _ ih
local macro_rules | `(tactic| k_all) => `(tactic| with_unfolding_all assumption)
local macro_rules | `(tactic| walk_at "exec While") => `(tactic| (k_here; refine stop ?_))
local macro_rules | `(tactic| walk_at "exec While Compare") => `(tactic| (k_here; refine stop ?_))
local macro_rules | `(tactic| walk_at "LoopPost") => `(tactic| (dsimp only [LoopPost]))
local macro_rules | `(tactic| walk_at "exec Raise some none") => `(tactic| (k_here; refine stop ?_))
local macro_rules | `(tactic| walk_at "call ref") => `(tactic| (k_here; first | ((with_reducible show wpAny _ _ (call (Value.ref 75) _) _ _ _); (k_dflt refine' use_bool ?k1 ?k2 ?k3 ?k4 ?k5 ?kK (runs_direct _ _ _ _) ?kd ?ku (fun h' tk' F' N' => ?_)); (case k1 => k_asm); (case k2 => k_asm); (case k3 => k_asm); (case k4 => k_asm); (case k5 => k_asm); (case kK => first | exact rfl | assumption); (case kd => ktr_room); (case ku => ktr_units); k_whole; try k_sweep) | refine stop ?_))
local macro_rules | `(tactic| walk_at "call builtin:list.extend") => `(tactic| (k_here; refine stop ?_))
def DecRet (ks : List Int) (r : Value) (tl : List (Addr × Obj)) : Prop := ∃ lt us nn cs, tl = [(lt, listOf us nn)] ∧ r = .ref lt ∧ IntsAre us.toList cs ∧ us.size ≤ ks.length ∧ Dec ks 0 (-1) (.ok cs)
abbrev DSt := Array Value × Nat × (Int × Tok) × Value × List Int
theorem runs_dec (w : World) (b : Array UInt8) (ks : List Int) (tb : Tok) (news : List (Addr × Obj)) (hbi : KBw.bInts b = ks) (hbl : ks.length ≤ 1000000) :
    RunsE w 110 [.bytes b tb] 7 news (DecRet ks) (fun e => Dec ks 0 (-1) (.error e)) := by
  unfold RunsE
  k_fill
  intro p loose mean mg mb dp un gd cn cs a ccd cl outer A₀ base h₀ L m s Q E B F X N T hk hd hu hret hexc
  refine wpAny_call ?_
  k_dflt cell_enter
  k_steps
  rename_i tk0 lt _ hlt _ _ _ _ _ _ _ F' N'
  unfold Stop
  have hnlt : ∀ p ∈ news, p.1 ≠ lt := fun p hp => Nat.ne_of_lt (hlt p hp)
  with_unfolding_all refine' while_ps (σ := DSt) (fun c => (lt, listOf c.1 c.2.1) :: news) (fun c => [(Str.ofString "octets", .bytes b tb), (Str.ofString "text", .ref lt), (Str.ofString "at", .int c.2.2.1.1 c.2.2.1.2), (Str.ofString "behind", c.2.2.2.1)]) (fun c => 0 ≤ c.2.2.1.1 ∧ c.2.2.1.1 ≤ ks.length ∧ (c.1.size : Int) ≤ c.2.2.1.1 ∧ (c.2.2.2.1 = .none ∨ ∃ i ti, c.2.2.2.1 = .int i ti) ∧ IntsAre c.1.toList c.2.2.2.2 ∧ ∀ R, Dec ks c.2.2.1.1 (bVal c.2.2.2.1) R → Dec ks 0 (-1) (R.map (c.2.2.2.2 ++ ·))) (fun c => ks.length - c.2.2.1.1.toNat) (#[], 0, (0, tk0), .none, []) F' N' ?kn ?kk ?kp ?turn ?hE
  case kn => exact fun p hp => .tail _ hp
  case kk => kst_all
  case kp =>
    refine ⟨Int.le_refl _, by dsimp only; omega, Int.le_refl _, .inl rfl, .nil, fun R h => ?_⟩
    have e : R.map (([] : List Int) ++ ·) = R := by cases R <;> rfl
    rw [e]; exact h
  case hE => with_unfolding_all passes_own
  case turn =>
    rintro ⟨us, nn, ⟨x, tx⟩, bv, acc⟩ u h tk ⟨hp0, hp1, hp2, hbv, hIA, hdec⟩ F' N'
    dsimp only at hp0 hp1 hp2 hbv hIA hdec F' N' ⊢
    k_steps
    repeat' ((unfold Stop); (first | (k_dflt (refine raise_d ?_ ?_; exact rfl)) | ((with_reducible show wpAny _ _ (call (Value.ref 103) _) _ _ _); (k_dflt refine' use_mail ?k1 ?k2 ?k3 ?k4 ?k5 ?kK ?ka1 ?ka2 ?ka3 ?ka4 ?ka5 ?kd ?ku ?kOk ?kErr); (case' kOk => (intro _ _ _ _ _ _ _ _ _ _ _ kl1 kl2 _ _ _ _ _)); (case' kErr => intro _ _ _ _ _ _ _ _ _ _ _); (case ka1 => assumption); (case ka2 => assumption); (case ka3 => assumption); (case ka4 => assumption); (case ka5 => assumption); (case k1 => k_asm); (case k2 => k_asm); (case k3 => k_asm); (case k4 => k_asm); (case k5 => k_asm); (case kK => first | exact rfl | assumption); (case kd => ktr_room); (case ku => ktr_units); (all_goals try k_lt kl1); (all_goals try k_lt kl2); (all_goals try k_whole); (all_goals try k_sweep)) | ((with_reducible show wpAny _ _ (call (Value.ref 45) _) _ _ _); (k_dflt refine' use_exc ?k1 ?k2 ?k3 ?k4 ?k5 ?kK ?kd ?ku (fun _ _ _ _ _ _ _ _ kl1 kl2 _ => ?_)); (case k1 => k_asm); (case k2 => k_asm); (case k3 => k_asm); (case k4 => k_asm); (case k5 => k_asm); (case kK => first | exact rfl | assumption); (case kd => ktr_room); (case ku => ktr_units); (all_goals try k_lt kl1); (all_goals try k_lt kl2); (all_goals try k_whole); (all_goals try k_sweep)) | ((k_dflt (refine' extend_any ?F ?N ?b ?U ?z ?_)); (case F => k_asm); (case N => k_asm); (case b => k_mem); (case U => k_updF); (case z => omega); intro _ _ F' N'; (try dsimp only at N'); (try k_sweep))); (try k_steps))
    · refine pass_fin (Err := fun e => Dec ks 0 (-1) (.error e)) hexc (by assumption) (by assumption) (by assumption) (by assumption) (by assumption) (by assumption) (hdec (.error _) (.bad (by assumption) (by assumption) (by assumption))) (fun p hp => .tail _ hp) rfl rfl
    · rename IntsAre _ _ => kI
      rename mailRun _ _ _ = _ => kres
      rename x + 2 < _ => kc
      rename List Int => cs9
      refine' loop_end ⟨?a1, ?a2, ⟨?a3, ?a4⟩, ?a5, acc ++ cs9⟩ (by assumption) (by assumption) ?e1 ?e2 ?e3 ?e4
      case e1 => exact mem_two
      case e2 => kst_all
      case e3 =>
        refine ⟨by dsimp only; omega, by dsimp only; omega, by dsimp only; rw [Array.size_append]; omega, .inr ⟨_, _, rfl⟩, ints_app hIA kI, fun R h => ?_⟩
        have h2 := hdec _ (.run (by assumption) (by assumption) kres (by rw [if_pos kc]; exact h))
        rw [map_map] at h2
        rw [show ((acc ++ cs9) ++ ·) = ((acc ++ ·) ∘ (cs9 ++ ·)) from funext fun l => List.append_assoc _ _ _]
        exact h2
      case e4 => dsimp only; omega
    · rename IntsAre _ _ => kI
      rename mailRun _ _ _ = _ => kres
      rename ¬ (x + 2 < _) => kc
      rename List Int => cs9
      refine' loop_end ⟨?b1, ?b2, ⟨?b3, ?b4⟩, ?b5, acc ++ cs9⟩ (by assumption) (by assumption) ?f1 ?f2 ?f3 ?f4
      case f1 => exact mem_two
      case f2 => kst_all
      case f3 =>
        refine ⟨by dsimp only; omega, by dsimp only; omega, by dsimp only; rw [Array.size_append]; omega, .inl rfl, ints_app hIA kI, fun R h => ?_⟩
        have h2 := hdec _ (.run (by assumption) (by assumption) kres (by rw [if_neg kc]; exact h))
        rw [map_map] at h2
        rw [show ((acc ++ cs9) ++ ·) = ((acc ++ ·) ∘ (cs9 ++ ·)) from funext fun l => List.append_assoc _ _ _]
        exact h2
      case f4 => dsimp only; omega
    · rename (_ ≤ _ ∧ _ ≤ (126 : Int) ∧ _) => kd
      refine' loop_end ⟨?c1, ?c2, ⟨?c3, ?c4⟩, ?c5, acc ++ [ks.getD x.toNat 0]⟩ (by assumption) (by assumption) ?g1 ?g2 ?g3 ?g4
      case g1 => exact mem_zero
      case g2 => kst_all
      case g3 =>
        refine ⟨by dsimp only; omega, by dsimp only; omega, by show ((us.push _).size : Int) ≤ x + 1; rw [Array.size_push]; omega, hbv, ints_pushA hIA _ _, fun R h => ?_⟩
        have h2 := hdec _ (.sign (by assumption) (by assumption) ⟨kd.1, kd.2.1⟩ h)
        rw [map_map] at h2
        rw [show ((acc ++ [ks.getD x.toNat 0]) ++ ·) = ((acc ++ ·) ∘ (ks.getD x.toNat 0 :: ·)) from funext fun l => List.append_assoc _ _ _]
        exact h2
      case g4 => dsimp only; omega
    · with_unfolding_all refine' raise_fin (Err := fun e => Dec ks 0 (-1) (.error e)) hexc ?rB ?rFG ?rF ?rX ?rN ?r1 ?r2 ?r3 ?rm ?rs ?rx ?rs0 ?rf ?rk
      case rB => assumption
      case rFG => assumption
      case rF => assumption
      case rX => assumption
      case rN => assumption
      case r1 => assumption
      case r2 => assumption
      case r3 => assumption
      case rm => exact .head _
      case rs => intro p hp; simp only [List.mem_cons]; simp only [hp, or_true]
      case rs0 => rfl
      case rf => rfl
      case rk => rfl
      case rx => exact hdec (.error _) (.not (by assumption) (by assumption) (by omega))
    · rename ¬ (x < _) => kd
      have h2 := hdec (.ok []) (.done (by omega))
      have h3 : Dec ks 0 (-1) (.ok acc) := by
        have e : (Except.ok [] : Res).map (acc ++ ·) = .ok acc := by show Except.ok (acc ++ []) = _; rw [List.append_nil]
        rw [← e]; exact h2
      refine retL (tl := [(lt, listOf us nn)]) hret (by k_asm) (by k_asm) (fun p hp => hp) (fun q hq p hp => ?_) ⟨lt, us, nn, acc, rfl, rfl, hIA, by omega, h3⟩
      rw [List.mem_singleton.mp hp]
      exact hlt q hq
end Mine
end PartC1

section PartL4
example : True := by
  w_top off
  trivial
open PySem PySem.W PyProof.Rows
set_option Elab.async false
namespace Mine
def tbit (b : Bool) : Nat := if b then 49 else 48
/-- a text of bits -/
def tb (l : List Bool) : Str := ⟨(l.map tbit).toArray⟩
theorem tb_len (l : List Bool) : (tb l).length = l.length := by show ((l.map tbit).toArray).size = _; simp
theorem tb_app (a b : List Bool) : tb a ++ tb b = tb (a ++ b) := by
  show (⟨(a.map tbit).toArray ++ (b.map tbit).toArray⟩ : Str) = ⟨((a ++ b).map tbit).toArray⟩
  simp
theorem tbit_inj {a b : Bool} (h : tbit a = tbit b) : a = b := by revert h; cases a <;> cases b <;> decide
theorem tb_inj {a b : List Bool} (h : tb a = tb b) : a = b := by
  unfold tb at h
  have h1 := congrArg Str.cps h
  have h2 := congrArg Array.toList h1
  simp only [] at h2
  exact (List.map_inj_right fun x y => tbit_inj).mp h2
theorem tb_beq (a b : List Bool) : (tb a == tb b) = decide (a = b) := by
  rw [Bool.eq_iff_iff, beq_iff_eq, decide_eq_true_eq]
  exact ⟨tb_inj, fun h => by rw [h]⟩
theorem pick_range {α : Type} (a : Array α) (s n : Nat) (h : s + n ≤ a.size) : ((List.range' s n).filterMap (a[·]?)) = (a.toList.drop s).take n := by
  induction n generalizing s with
  | zero => simp
  | succ n ih =>
    have hs : s < a.size := by lia
    rw [List.range'_succ, List.filterMap_cons, Array.getElem?_eq_getElem hs]
    dsimp only
    rw [ih (s + 1) (by lia)]
    have : s < a.toList.length := by rw [Array.length_toList]; exact hs
    rw [List.drop_eq_getElem_cons this, List.take_succ_cons, Array.getElem_toList]
theorem clip_cast {m n : Nat} : max 0 (min (m : Int) (n : Int)) = ((min m n : Nat) : Int) := by
  rw [Int.max_eq_right (Int.le_min.mpr ⟨Int.natCast_nonneg _, Int.natCast_nonneg _⟩)]
  rcases Nat.le_total m n with h | h
  · rw [Nat.min_eq_left h, Int.min_eq_left (Int.ofNat_le.mpr h)]
  · rw [Nat.min_eq_right h, Int.min_eq_right (Int.ofNat_le.mpr h)]
theorem idx_nn {m k n : Nat} : Builtin.Str.strSliceIndices (some (m : Int)) (some (k : Int)) 1 n = List.range' (min m n) (min k n - min m n) := by
  unfold Builtin.Str.strSliceIndices sliceRange
  have n1 : ¬ ((m : Int) < 0) := Int.not_lt.mpr (Int.natCast_nonneg _)
  have n2 : ¬ ((k : Int) < 0) := Int.not_lt.mpr (Int.natCast_nonneg _)
  simp only [show (1 : Int) > 0 by decide, if_true, n1, n2, if_false]
  rw [clip_cast, clip_cast]
  generalize min m n = a
  generalize min k n = b
  by_cases hab : (a : Int) < (b : Int)
  · rw [if_pos hab, Int.ediv_one, Int.add_sub_cancel, Int.toNat_sub, List.range'_eq_map_range]
    refine List.map_congr_left fun k _ => ?_
    rw [Int.one_mul]; rfl
  · rw [if_neg hab, Nat.sub_eq_zero_of_le (Nat.le_of_not_lt fun h => hab (Int.ofNat_lt.mpr h))]; rfl
theorem fit_idx {a b n : Nat} (ha : a ≤ n) (hb : b ≤ n) : a + (b - a) ≤ n := by lia
theorem full_idx {a b n : Nat} (hb : b ≤ n) (h : b - a = n) : n = 0 ∨ a = 0 := by lia
theorem drop_clip {α : Type} (l : List α) (m k : Nat) : (l.drop (min m l.length)).take (min k l.length - min m l.length) = (l.drop m).take (k - m) := by
  by_cases h1 : m ≤ l.length
  · rw [Nat.min_eq_left h1]
    by_cases h2 : k ≤ l.length
    · rw [Nat.min_eq_left h2]
    · rw [Nat.min_eq_right (Nat.le_of_not_le h2), List.take_of_length_le (by rw [List.length_drop]; exact Nat.le_refl _), List.take_of_length_le (by rw [List.length_drop]; exact Nat.sub_le_sub_right (Nat.le_of_not_le h2) _)]
  · rw [Nat.min_eq_right (Nat.le_of_not_le h1), List.drop_eq_nil_of_le (Nat.le_refl _), List.drop_eq_nil_of_le (Nat.le_of_not_le h1), List.take_nil, List.take_nil]
theorem tb_slice_nn (l : List Bool) (m k : Nat) : Txt.slice (tb l) (some (m : Int)) (some (k : Int)) = tb ((l.drop m).take (k - m)) := by
  have hs : (tb l).cps.size = l.length := tb_len l
  have hpick := pick_range (tb l).cps (min m l.length) (min k l.length - min m l.length) (by rw [hs]; exact fit_idx (Nat.min_le_right ..) (Nat.min_le_right ..))
  have hlist : ((tb l).cps.toList.drop (min m l.length)).take (min k l.length - min m l.length) = ((l.drop m).take (k - m)).map tbit := by
    show (((l.map tbit)).drop _).take _ = _
    rw [← List.map_drop, ← List.map_take, drop_clip]
  unfold Txt.slice
  rw [tb_len, idx_nn]
  split
  · rename_i hlen
    simp only [beq_self_eq_true, Bool.true_and, beq_iff_eq, List.length_range'] at hlen
    rcases full_idx (Nat.min_le_right ..) hlen with hz | hz
    · have : l = [] := List.eq_nil_of_length_eq_zero hz
      subst this; simp
    · rw [hlen, hz, List.drop_zero, List.take_of_length_le (by rw [Array.length_toList, hs]; exact Nat.le_refl _)] at hlist
      show _ = (⟨(((l.drop m).take (k - m)).map tbit).toArray⟩ : Str)
      rw [← hlist]
  · rw [hpick, hlist]; rfl
theorem tb_slice {l : List Bool} {i j : Int} (hi : 0 ≤ i) (hj : 0 ≤ j) : Txt.slice (tb l) (some i) (some j) = tb ((l.drop i.toNat).take (j.toNat - i.toNat)) := by
  obtain ⟨m, rfl⟩ := Int.eq_ofNat_of_zero_le hi
  obtain ⟨k, rfl⟩ := Int.eq_ofNat_of_zero_le hj
  exact tb_slice_nn l m k
theorem tb_slice_from {l : List Bool} {i : Int} (hi : 0 ≤ i) : Txt.slice (tb l) (some i) none = tb (l.drop i.toNat) := by
  have e : Txt.slice (tb l) (some i) none = Txt.slice (tb l) (some i) (some ((tb l).length : Int)) := by
    unfold Txt.slice
    rw [StrLaws.sliceIdx_none_hi]
  rw [e, tb_slice hi (Int.natCast_nonneg _), Int.toNat_natCast, tb_len, List.take_of_length_le (by rw [List.length_drop]; exact Nat.le_refl _)]
theorem tb_has (l : List Bool) : Txt.contains (tb l) (tb [true]) = decide (true ∈ l) := by
  rw [Bool.eq_iff_iff, decide_eq_true_eq]
  unfold Txt.contains
  rw [StrLaws.found_iff]
  constructor
  · rintro ⟨i, h1, h2⟩
    rw [tb_len, tb_len] at h1
    have hi : i < l.length := by simp at h1; lia
    unfold Builtin.Str.subAt at h2
    have h3 := congrArg (fun a : Array Nat => a[0]?) (beq_iff_eq.mp h2)
    have e1 : (tb [true]).length = 1 := rfl
    have hi2 : i < (tb l).cps.size := by rw [show (tb l).cps.size = l.length from tb_len l]; exact hi
    have e2 : (tb l).cps[i]? = some 49 := by
      have e3 : ((tb l).cps.extract i (i + 1))[0]? = (tb l).cps[i]? := by
        rw [Array.getElem?_extract, if_pos (by lia)]; rfl
      rw [← e3]; exact h3
    have e4 : (l.map tbit)[i]? = some 49 := by
      have : (tb l).cps[i]? = (l.map tbit)[i]? := by show ((l.map tbit).toArray)[i]? = _; simp
      rw [← this]; exact e2
    rw [List.getElem?_map, List.getElem?_eq_getElem hi] at e4
    have e5 : l[i] = true := by
      cases hb : l[i] with
      | true => rfl
      | false => rw [hb] at e4; cases e4
    rw [← e5]; exact List.getElem_mem hi
  · intro h
    obtain ⟨i, hi, e⟩ := List.getElem_of_mem h
    refine ⟨i, by rw [tb_len, tb_len]; exact hi, ?_⟩
    unfold Builtin.Str.subAt
    rw [beq_iff_eq]
    have e1 : (tb [true]).length = 1 := rfl
    have hi2 : i < (tb l).cps.size := by rw [show (tb l).cps.size = l.length from tb_len l]; exact hi
    rw [e1]
    apply Array.ext
    · rw [Array.size_extract]; show min (i + 1) (tb l).cps.size - i = 1; lia
    · intro k h1 h2
      have hk : k = 0 := by have : (tb [true]).cps.size = 1 := rfl; lia
      subst hk
      rw [Array.getElem_extract]
      show ((l.map tbit).toArray)[i + 0]'_ = 49
      simp [e]; rfl
theorem tb_join (ls : List (List Bool)) : Txt.join (Str.ofString "") (ls.map tb) = tb ls.flatten := by
  have key : ∀ (ls : List (List Bool)) (acc : Array Nat), (ls.map tb).foldl (fun acc p => acc ++ (Str.ofString "").cps ++ p.cps) acc = acc ++ (ls.flatten.map tbit).toArray := by
    intro ls
    induction ls with
    | nil => intro acc; simp
    | cons a r ih =>
      intro acc
      rw [List.map_cons, List.foldl_cons, ih]
      have e : (Str.ofString "").cps = #[] := rfl
      rw [e, Array.append_empty]
      show acc ++ (a.map tbit).toArray ++ _ = _
      apply Array.toList_inj.mp
      simp
  show Builtin.Str.glued _ _ = _
  unfold Builtin.Str.glued
  cases ls with
  | nil => rfl
  | cons a r =>
    simp only [List.map_cons, List.drop_one, List.tail_cons, List.headD_cons]
    rw [key]
    show (⟨(a.map tbit).toArray ++ _⟩ : Str) = tb _
    unfold tb
    simp
end Mine
end PartL4

section PartL5
example : True := by
  w_top off
  trivial
open PySem PySem.W PyProof.Rows PySem.Calls Builtin
set_option Elab.async false
set_option maxRecDepth 100000
namespace Mine
def bitsN : Nat → Nat → List Bool
  | 0, _ => []
  | k + 1, n => bitsN k (n / 2) ++ [n % 2 == 1]
def bval (l : List Bool) : Nat := l.foldl (fun a b => 2 * a + b.toNat) 0
theorem kind_format : builtinKind "format" = none := by decide +kernel
theorem plain_format : plainId "format" = true := by decide +kernel
theorem entry_format : entryFor table "format" = some Builtin.«format» := entryFor_of_tree (by kernel_rfl)
theorem args_format (a b : Value) : argsOk "format" ⟨[a, b], []⟩ := by unfold argsOk; kernel_rfl
theorem call_fmt {prog : Program} {w : World} {A : Around} {E Q : Value → Shared → Prop} {s : Shared} {a : Int} {t u : Tok} {spec y : Str} (hne : (spec.length == 0) = false)
    (g : Meets («int.__format__» ⟨[.int a t, .str spec u], []⟩) (fun _ R s => ∀ t' k, R (.ok (.ret (.str y t'))) { s with toks := k }))
    (h : ∀ t' k, Q (.str y t') { s with toks := k }) : wpAny (model prog w) A (call (.builtin "format") [.int a t, .str spec u]) Q E s := by
  refine call_function_entry kind_format plain_format entry_format (args_format _ _) ?_
  unfold Builtin.«format»
  refine wpAny_bind (wpAny_of_eq (a := [Value.int a t, Value.str spec u]) rfl ?_)
  refine wpAny_bind (wpAny_pure ?_)
  dsimp only
  refine wpAny_bind (wpAny_typeNameOf (T := "str") (typeIs_str _ _ _) (by decide) fun _ => ?_)
  refine wpAny_bind (wpAny_of_eq (a := some spec) rfl ?_)
  dsimp only
  rw [hne]
  rw [if_neg (by decide)]
  refine wpAny_bind (m := callSpecial? (.int a t) (Str.ofString "__format__") [.str spec u]) (wpAny_callSpecial?_slot (name := Str.ofString "__format__") (typeIs_int _ a t) F.slot_int_format
    (call_meets F.slot_int_format (typeIs_int _ a t) F.entry_int_format (F.args_int_format_2 _ _) g fun t' k => ?_))
  exact wpAny_bind (wpAny_isInstance (T := "str") (b := true) rfl isSubtype_str_str (wpAny_pure ⟨_, rfl, h _ _⟩))
set_option maxHeartbeats 4000000
open Builtin.Float in
def specOf (k : Nat) : FormatSpec := { fill := 48, align := 61, width := some k, type := some 98 }
open Builtin.Float in
theorem parse6 : ∀ name, parseFormatSpec [48, 54, 98] name 62 = .ok (specOf 6) := fun name => by kernel_rfl
open Builtin.Float in
theorem parse16 : ∀ name, parseFormatSpec [48, 49, 54, 98] name 62 = .ok (specOf 16) := fun name => by kernel_rfl
def digs (n : Nat) : List Nat := (Nat.toDigits 2 n).map fun c => c.toNat
def padded (k n : Nat) : Str := intField' (specOf k) (decide ((n : Int) < 0)) [] ((Nat.toDigits 2 (n : Int).natAbs).map fun c => (if (98 : Nat) == 88 then c.toUpper else c).toNat) [] 4
theorem padded6 : ∀ n : Fin 64, padded 6 n.val = tb (bitsN 6 n.val) := by decide +kernel
theorem fmt_text {spec : Str} {k n : Nat} {T : Str} (h1 : (spec.length == 0) = false) (h2 : ((spec.cps.toList.drop 1).any (· ≥ 128) || (spec.cps.getD 0 0 ≥ 128 && !([60, 62, 61, 94] : List Nat).contains (spec.cps.getD 1 0))) = false) (h3 : ∀ name, Builtin.Float.parseFormatSpec spec.cps.toList name 62 = .ok (specOf k)) (h4 : decide ((specOf k).width.getD 0 > 100000) = false)
    (hT : padded k n = T) (hL : T.length ≤ 1000) (t u : Tok) : Meets («int.__format__» ⟨[.int (n : Int) t, .str spec u], []⟩) (fun _ R s => ∀ t' k, R (.ok (.ret (.str T t'))) { s with toks := k }) := by
  apply KPc.meets_of
  intro _ _ _ _ _ _ h
  unfold Builtin.«int.__format__»
  refine wpAny_bind (wpAny_of_eq (a := (_, _)) rfl ?_)
  refine wpAny_bind (wpAny_of_eq (a := _) rfl ?_)
  refine wpAny_ite (KPc.ite_no Bool.false_ne_true ?_)
  refine wpAny_bind (wpAny_typeNameOf (T := "str") (typeIs_str _ _ _) (by decide) fun _ => ?_)
  refine wpAny_bind (wpAny_of_eq (a := some _) rfl ?_)
  refine wpAny_ite (KPc.ite_no (by rw [h1]; exact Bool.false_ne_true) ?_)
  refine wpAny_ite (KPc.ite_no (by rw [h2]; exact Bool.false_ne_true) ?_)
  refine wpAny_bind (wpAny_typeNameOfCut_int ?_)
  rw [h3]
  dsimp only
  refine wpAny_ite (KPc.ite_yes rfl ?_)
  refine wpAny_ite (KPc.ite_no (of_decide_eq_false h4) ?_)
  exact KXf.ret_text (X := padded k n) hT (by show (padded k n).length ≤ _; rw [hT, sizeLine_eq]; omega) h
theorem fmt6 (n : Nat) (hn : n < 64) (t u : Tok) : Meets («int.__format__» ⟨[.int (n : Int) t, .str (Str.ofString "06b") u], []⟩) (fun _ R s => ∀ t' k, R (.ok (.ret (.str (tb (bitsN 6 n)) t'))) { s with toks := k }) :=
  fmt_text (k := 6) (by decide +kernel) (by decide +kernel) parse6 rfl (padded6 ⟨n, hn⟩) (by rw [tb_len]; show (bitsN 6 n).length ≤ _; decide +revert) t u
theorem bitsN_len : ∀ (k n : Nat), (bitsN k n).length = k
  | 0, _ => rfl
  | k + 1, n => by rw [bitsN, List.length_append, bitsN_len k]; rfl
end Mine
end PartL5

section PartL6
example : True := by
  w_top off
  trivial
open PySem PySem.W PyProof.Rows PySem.Calls PySem.NumText
set_option Elab.async false
set_option maxRecDepth 100000
namespace Mine
theorem digits_tb (l : List Bool) (hl : l ≠ []) : digits? 2 (l.map tbit) = some (l.map Bool.toNat).toArray := by
  have key : ∀ (l : List Bool) (a : Array Nat) (z : Bool), (l.map tbit).foldlM (step 2) (a, z) = some (a ++ (l.map Bool.toNat).toArray, z || !l.isEmpty) := by
    intro l
    induction l with
    | nil => intro a z; simp
    | cons b r ih =>
      intro a z
      rw [List.map_cons, List.foldlM_cons]
      have hs : step 2 (a, z) (tbit b) = some (a.push b.toNat, true) := by cases b <;> rfl
      rw [hs]
      show (r.map tbit).foldlM (step 2) (a.push b.toNat, true) = _
      rw [ih]
      have e1 : a.push b.toNat ++ (r.map Bool.toNat).toArray = a ++ ((b :: r).map Bool.toNat).toArray := by
        apply Array.toList_inj.mp; simp
      rw [e1]; simp
  unfold digits?
  rw [key]
  have hz : (false || !l.isEmpty) = true := by cases l with | nil => exact absurd rfl hl | cons => rfl
  rw [hz]
  simp
theorem tb_ascii (l : List Bool) : (tb l).cps.all (· < 128) = true := by
  show ((l.map tbit).toArray).all _ = true
  rw [List.all_toArray, List.all_map, List.all_eq_true]
  intro b _
  cases b <;> rfl
theorem tb_seen (l : List Bool) : (l.map tbit).takeWhile (· != 0) = l.map tbit := by
  induction l with
  | nil => rfl
  | cons b r ih => rw [List.map_cons, List.takeWhile_cons, if_pos (by cases b <;> rfl), ih]
theorem tb_drop (l : List Bool) : (l.map tbit).dropWhile blank = l.map tbit := by
  cases l with
  | nil => rfl
  | cons b r => rw [List.map_cons, List.dropWhile_cons, if_neg (by cases b <;> decide)]
theorem read2 (l : List Bool) (hl : l ≠ []) (limit : Nat) : (int_private% "readNumeral") limit 2 (l.map tbit) = (int_private% "Numeral.value") (bval l) := by
  refine (readNumeral_eq limit 2 _).trans ?_
  rw [tb_drop]
  have hsign : sign (l.map tbit) = (false, l.map tbit) := by
    cases l with
    | nil => rfl
    | cons b r => cases b <;> rfl
  rw [hsign]
  have hpre : prefix? (l.map tbit) = none := by
    match l with
    | [] => rfl
    | [b] => cases b <;> rfl
    | b :: c :: r => cases b <;> cases c <;> rfl
  have hbased : based 2 (l.map tbit) = (2, false, l.map tbit) := by
    unfold based; rw [hpre]; rfl
  rw [hbased]
  have hrev : ((l.map tbit).reverse.dropWhile blank).reverse = l.map tbit := by
    rw [← List.map_reverse, tb_drop, ← List.map_reverse, List.reverse_reverse]
  dsimp only
  rw [hrev, digits_tb l hl]
  have hfold : (l.map Bool.toNat).toArray.foldl (fun acc d => acc * 2 + d) 0 = bval l := by
    unfold bval
    rw [List.foldl_toArray, List.foldl_map]
    congr 1
    funext a b
    omega
  unfold judge
  dsimp only
  rw [hfold]
  rfl
theorem wp_text2 {M : Model} {A : Around} {E : Value → Shared → Prop} {s : Shared} {Q : Value → Shared → Prop} {v : Value} {text : List Nat} {base : Nat} {l : List Bool} (hl : l ≠ []) (hn : l.length ≤ 640) (ht : text = l.map tbit) (hb : base = 2)
    (h : Q (.int (bval l) s.toks) { s with toks := s.toks + 1 }) :
    wpAny M A ((int_private% "intFromText") v text base) Q E s := by
  subst ht hb
  obtain ⟨hp, g, d, tk, os⟩ := s
  have hs : ((l.map tbit).takeWhile (· != 0)).length ≤ 640 := by rw [tb_seen, List.length_map]; exact hn
  have hr : ∀ limit, (int_private% "readNumeral") limit 2 ((l.map tbit).takeWhile (· != 0)) = (int_private% "Numeral.value") (bval l) := fun limit => by rw [tb_seen]; exact read2 l hl limit
  have ha : (((l.map tbit).takeWhile (· != 0)).length == (l.map tbit).length) = true := by rw [tb_seen]; exact beq_self_eq_true _
  repeat (any_goals (first
    | assumption
    | (with_reducible refine wpAny_ite_true (decide_eq_true hs) ?_)
    | (with_reducible refine wpAny_ite_true (decide_eq_true ha) ?_)
    | wp_step))
  all_goals (try rw [hr])
  all_goals (try dsimp only)
  repeat (any_goals (first
    | assumption
    | (with_reducible refine wpAny_ite_true (decide_eq_true hs) ?_)
    | (with_reducible refine wpAny_ite_true (decide_eq_true ha) ?_)
    | wp_step))
set_option maxHeartbeats 4000000 in
theorem gives_bits {l : List Bool} {t u : Tok} (hl : l ≠ []) (hn : l.length ≤ 640) : Gives (Builtin.«int.__new__» ⟨[.type "int", .str (tb l) t, .int 2 u], []⟩) (.int (bval l)) :=
  .of_wp fun M A E s Q h => by
    obtain ⟨hp, g, d, tk, os⟩ := s
    have f1 := F.conv_sub_int
    have f2 := F.madeHere_int
    have f6 : typeOf (.str (tb l) t) = pure (.type "str") := rfl
    have hasc := tb_ascii l
    have hk := KIN.Hid.mk (And.intro hl hn)
    clear hl hn
    repeat (any_goals (first
      | assumption
      | ((with_reducible show wpAny _ _ ((int_private% "intFromText") _ _ _) _ _ _); refine wp_text2 (l := l) hk.out.1 hk.out.2 (if_pos hasc) rfl ?_)
      | wp_step))
    all_goals first | exact ⟨_, rfl, h⟩ | skip
theorem typeCall_int_2 (a b : Value) : checkTypeCall "int" ⟨[a, b], []⟩ = pure () := by kernel_rfl
theorem newCall_int_2 (a b : Value) : checkBuiltinCall "int.__new__" ⟨[.type "int", a, b], []⟩ = pure () := by kernel_rfl
theorem init_3 (a b c : Value) : argsOk "object.__init__" ⟨[a, b, c], []⟩ := by
  unfold argsOk; rw [signature?_of (id := "object.__init__") (n := ['_', '_', 't', 'i', 'n', 'i', '_', '_']) (o := ['t', 'c', 'e', 'j', 'b', 'o']) (by kernel_rfl) F.owner_object]; kernel_rfl
theorem call_bits {prog : Program} {w : World} {A : Around} {E Q : Value → Shared → Prop} {s : Shared} {x : Str} {l : List Bool} {t u : Tok} (hx : x = tb l) (hl : l ≠ []) (hn : l.length ≤ 640) (h : Q (.int (bval l) s.toks) { s with toks := s.toks + 1 }) :
    wpAny (model prog w) A (call (.type "int") [.str x t, .int 2 u]) Q E s := by
  subst hx
  exact callType_new F.called_int F.newNe_int (typeCall_int_2 _ _) (newCall_int_2 _ _) (fun obj => init_3 obj _ _) F.entry_int_new (gives_bits hl hn).meets (show (Made.int (bval l)).post _ s from ⟨rfl, h⟩)
end Mine
end PartL6

section PartL7
example : True := by
  w_top off
  trivial
open PySem PySem.W PyProof.Rows PySem.Calls Builtin Builtin.Bytes
set_option Elab.async false
set_option maxRecDepth 100000
namespace Mine
theorem slot_bindex : Slot "bytes" "index" "bytes.index" :=
  .of (owner := "bytes") (n := "index") (by rw [typeLookup_type, builtinLookup_eq_fast]; kernel_rfl) (by decide +kernel) (by decide +kernel) (by decide +kernel)
    (by first | exact .inl (by decide +kernel) | exact .inr (by decide +kernel)) (by rw [isSubtype_type]; kernel_rfl)
theorem type_bindex : typeOf (.builtin "bytes.index") = pure (.type "method_descriptor") := by show builtinType _ = _; rw [builtinType_eq_fast]; kernel_rfl
theorem entry_bindex : entryFor table "bytes.index" = some Builtin.«bytes.index» := entryFor_of_tree (by kernel_rfl)
theorem args_bindex (a b : Value) : argsOk "bytes.index" ⟨[a, b], []⟩ := by unfold argsOk; kernel_rfl
theorem slot_bjoin : Slot "bytes" "join" "bytes.join" :=
  .of (owner := "bytes") (n := "join") (by rw [typeLookup_type, builtinLookup_eq_fast]; kernel_rfl) (by decide +kernel) (by decide +kernel) (by decide +kernel)
    (by first | exact .inl (by decide +kernel) | exact .inr (by decide +kernel)) (by rw [isSubtype_type]; kernel_rfl)
theorem type_bjoin : typeOf (.builtin "bytes.join") = pure (.type "method_descriptor") := by show builtinType _ = _; rw [builtinType_eq_fast]; kernel_rfl
theorem entry_bjoin : entryFor table "bytes.join" = some Builtin.«bytes.join» := entryFor_of_tree (by kernel_rfl)
theorem args_bjoin (a b : Value) : argsOk "bytes.join" ⟨[a, b], []⟩ := by unfold argsOk; kernel_rfl
section
variable {prog : Program} {w : World} {A : Around} {E : Value → Shared → Prop} {s : Shared} {b : Array UInt8} {t u : Tok} {k : Int}
theorem bmethod_index {M : Model} {pl : Sem Bool} {Q : Value × List Value → Shared → Prop} (h : Q (.builtin "bytes.index", [.bytes b t]) s) : wpAny M A (getMethod (.bytes b t) "index" pl) Q E s := by
  with_reducible exact KBd.method_of (.bytes b t) (typeIs_bytes _ _ _) slot_bindex type_bindex KBd.noRef h
theorem bmethod_join {M : Model} {pl : Sem Bool} {Q : Value × List Value → Shared → Prop} (h : Q (.builtin "bytes.join", [.bytes b t]) s) : wpAny M A (getMethod (.bytes b t) "join" pl) Q E s := by
  with_reducible exact KBd.method_of (.bytes b t) (typeIs_bytes _ _ _) slot_bjoin type_bjoin KBd.noRef h
theorem int_buffer : typeLookup (.type "int") "__buffer__" = pure none := by rw [typeLookup_type, builtinLookup_eq_fast]; kernel_rfl
theorem int_index : typeLookup (.type "int") "__index__" = pure (some (.builtin "int.__index__")) := by rw [typeLookup_type, builtinLookup_eq_fast]; kernel_rfl
set_option maxHeartbeats 4000000 in
theorem gives_index {i : Nat} (h0 : 0 ≤ k) (h1 : k < 256) (hf : find? b #[k.toNat.toUInt8] 0 b.size = some i) (hb : 1 ≤ b.size) : Gives (Builtin.«bytes.index» ⟨[.bytes b t, .int k u], []⟩) (.int i) :=
  .of_wp fun M A E s Q h => by
    obtain ⟨hp, g, d, tk, os⟩ := s
    have f1 := int_buffer
    have f2 := int_index
    have f3 : typeOf (.int k u) = pure (.type "int") := rfl
    unfold Builtin.«bytes.index» searchM searchArgs
    repeat (any_goals (first | assumption | wp_step))
    have hw : window b.size none none = ((0 : Int), (b.size : Int)) := by
      unfold window
      simp only [Option.getD_none]
      rw [if_neg (by omega), if_neg (by omega), Int.min_self]
    have hg : ((if (window b.size none none).snd - (window b.size none none).fst < ((#[k.toNat.toUInt8] : Array UInt8).size : Int) then none
          else some ((window b.size none none).fst.toNat, (window b.size none none).snd.toNat)).bind
        fun x => match x with
        | (lo, hi) => if false = true then rfind? b #[k.toNat.toUInt8] lo hi else find? b #[k.toNat.toUInt8] lo hi) = some i := by
      rw [hw]
      dsimp only
      rw [if_neg (by show ¬ ((b.size : Int) - 0 < 1); omega)]
      exact hf
    rw [hg]
    repeat (any_goals (first | assumption | wp_step))
    all_goals exact ⟨_, rfl, h⟩
theorem call_index {Q : Value → Shared → Prop} {i : Nat} (h0 : 0 ≤ k) (h1 : k < 256) (hf : find? b #[k.toNat.toUInt8] 0 b.size = some i) (hb : 1 ≤ b.size) (h : Q (.int (i : Int) s.toks) { s with toks := s.toks + 1 }) :
    wpAny (model prog w) A (call (.builtin "bytes.index") [.bytes b t, .int k u]) Q E s :=
  call_gives slot_bindex (typeIs_bytes _ _ _) entry_bindex (args_bindex _ _) (gives_index h0 h1 hf hb) h
end
end Mine
end PartL7

section PartL8
example : True := by
  w_top off
  trivial
open PySem PySem.W PyProof.Rows
set_option Elab.async false
namespace Mine
local macro_rules | `(tactic| omega) => `(tactic| first | (with_reducible assumption) | lia | omega +splitDisjunctions)
theorem bitsN_length : ∀ (k n : Nat), (bitsN k n).length = k
  | 0, _ => rfl
  | k + 1, n => by rw [bitsN, List.length_append, bitsN_length k]; rfl
theorem bval_snoc (l : List Bool) (b : Bool) : bval (l ++ [b]) = 2 * bval l + b.toNat := by unfold bval; rw [List.foldl_append]; rfl
theorem bval_app (a b : List Bool) : bval (a ++ b) = bval a * 2 ^ b.length + bval b := by
  generalize hn : b.length = n
  induction n generalizing b with
  | zero => have : b = [] := List.eq_nil_of_length_eq_zero hn
            subst this; simp [bval]
  | succ n ih =>
    have hne : b ≠ [] := by intro e; subst e; cases hn
    have hs := List.dropLast_concat_getLast hne
    have hl : b.dropLast.length = n := by rw [List.length_dropLast]; omega
    rw [← hs, ← List.append_assoc, bval_snoc, bval_snoc, ih b.dropLast hl, Nat.pow_succ, Nat.mul_add]
    have : 2 * (bval a * 2 ^ n) = bval a * (2 ^ n * 2) := by rw [Nat.mul_comm 2, Nat.mul_assoc]
    omega
theorem bval_lt (l : List Bool) : bval l < 2 ^ l.length := by
  generalize hn : l.length = n
  induction n generalizing l with
  | zero => have : l = [] := List.eq_nil_of_length_eq_zero hn
            subst this; decide
  | succ n ih =>
    have hne : l ≠ [] := by intro e; subst e; cases hn
    have hs := List.dropLast_concat_getLast hne
    have hl : l.dropLast.length = n := by rw [List.length_dropLast]; omega
    rw [← hs, bval_snoc]
    have := ih _ hl
    have h2 : (l.getLast hne).toNat ≤ 1 := by cases l.getLast hne <;> decide
    rw [Nat.pow_succ]; omega
theorem bitsN_bval : ∀ (k : Nat) (l : List Bool), l.length = k → bitsN k (bval l) = l
  | 0, l, h => by have : l = [] := List.eq_nil_of_length_eq_zero h
                  subst this; rfl
  | k + 1, l, h => by
    have hne : l ≠ [] := by intro e; subst e; cases h
    have hs := List.dropLast_concat_getLast hne
    have hl : l.dropLast.length = k := by rw [List.length_dropLast]; omega
    rw [← hs, bval_snoc, bitsN]
    have e1 : (2 * bval l.dropLast + (l.getLast hne).toNat) / 2 = bval l.dropLast := by
      cases l.getLast hne <;> simp <;> omega
    have e2 : ((2 * bval l.dropLast + (l.getLast hne).toNat) % 2 == 1) = l.getLast hne := by
      cases l.getLast hne <;> simp <;> omega
    rw [e1, e2, bitsN_bval k _ hl]
theorem bval_bitsN : ∀ (k n : Nat), bval (bitsN k n) = n % 2 ^ k
  | 0, n => by rw [Nat.pow_zero, Nat.mod_one]; rfl
  | k + 1, n => by
    rw [bitsN, bval_snoc, bval_bitsN k, Nat.pow_succ]
    have e : (n % 2 == 1).toNat = n % 2 := by
      rcases Nat.mod_two_eq_zero_or_one n with h | h <;> rw [h] <;> rfl
    rw [e, Nat.mul_comm (2 ^ k) 2, Nat.mod_mul]
    omega
theorem bval_split {X : List Bool} {k : Nat} (h : k ≤ X.length) : bval (X.take k) = bval X / 2 ^ (X.length - k) ∧ bval (X.drop k) = bval X % 2 ^ (X.length - k) := by
  have h1 := bval_app (X.take k) (X.drop k)
  rw [List.take_append_drop] at h1
  have h2 := bval_lt (X.drop k)
  rw [List.length_drop] at h1 h2
  have hp : 0 < 2 ^ (X.length - k) := Nat.pow_pos (by decide)
  rw [h1]
  constructor
  · rw [Nat.mul_comm, Nat.mul_add_div hp, Nat.div_eq_of_lt h2, Nat.add_zero]
  · rw [Nat.mul_comm, Nat.mul_add_mod, Nat.mod_eq_of_lt h2]
def unitBits (U : List Int) : List Bool := (U.map fun u => bitsN 16 u.toNat).flatten
theorem unitBits_app (U V : List Int) : unitBits (U ++ V) = unitBits U ++ unitBits V := by unfold unitBits; simp
theorem unitBits_len (U : List Int) : (unitBits U).length = 16 * U.length := by
  induction U with
  | nil => rfl
  | cons u r ih => 
    have e : unitBits (u :: r) = bitsN 16 u.toNat ++ unitBits r := by unfold unitBits; simp
    rw [e, List.length_append, ih, bitsN_length, List.length_cons]; omega
/-- units and the bits behind them -/
def BRep (B : List Bool) (a : List Int × Int × Int) : Prop := ∃ R : List Bool, B = unitBits a.1 ++ R ∧ (R.length : Int) = a.2.2 ∧ (bval R : Int) = a.2.1 ∧ R.length < 16 ∧ ∀ u ∈ a.1, 0 ≤ u ∧ u < 65536
theorem brep_step {B : List Bool} {a : List Int × Int × Int} {v : Int} (h : BRep B a) (h0 : 0 ≤ v) (h1 : v < 64) : BRep (B ++ bitsN 6 v.toNat) (ustep a v) := by
  obtain ⟨U, r, m⟩ := a
  obtain ⟨R, rfl, hm, hr, hR, hU⟩ := h
  dsimp only at hm hr hU
  have hv : bval (bitsN 6 v.toNat) = v.toNat := by rw [bval_bitsN]; exact Nat.mod_eq_of_lt (by omega)
  have hX : bval (R ++ bitsN 6 v.toNat) = bval R * 64 + v.toNat := by rw [bval_app, bitsN_length, hv]
  have hXl : (R ++ bitsN 6 v.toNat).length = R.length + 6 := by rw [List.length_append, bitsN_length]
  unfold ustep
  dsimp only
  split
  · rename_i hc
    have hk : 16 ≤ (R ++ bitsN 6 v.toNat).length := by omega
    obtain ⟨s1, s2⟩ := bval_split hk
    generalize hXX : R ++ bitsN 6 v.toNat = X at hX hXl hk s1 s2
    have hsh : (m + 6 - 16).toNat = X.length - 16 := by omega
    have hval : (r * 64 + v : Int) = ((bval X : Nat) : Int) := by rw [hX]; omega
    have hu : (r * 64 + v) / 2 ^ (m + 6 - 16).toNat = ((bval (X.take 16) : Nat) : Int) := by
      rw [hval, hsh, s1]; simp
    have hr' : (r * 64 + v) % 2 ^ (m + 6 - 16).toNat = ((bval (X.drop 16) : Nat) : Int) := by
      rw [hval, hsh, s2]; simp
    have ht : (X.take 16).length = 16 := by rw [List.length_take]; omega
    have hlt := bval_lt (X.take 16)
    rw [ht] at hlt
    have hub : ((bval (X.take 16) : Nat) : Int) < 65536 := by
      have h2 : (2 : Nat) ^ 16 = 65536 := by decide
      omega
    generalize hP : (r * 64 + v) / 2 ^ (m + 6 - 16).toNat = P at hu
    generalize hM : (r * 64 + v) % 2 ^ (m + 6 - 16).toNat = M at hr'
    generalize hT : bval (X.take 16) = T at hu hub
    refine ⟨X.drop 16, ?_, ?_, hr'.symm, ?_, ?_⟩
    · show unitBits U ++ R ++ bitsN 6 v.toNat = unitBits (U ++ [P]) ++ X.drop 16
      rw [hu, unitBits_app, List.append_assoc, List.append_assoc, hXX]
      have e : unitBits [((T : Nat) : Int)] = X.take 16 := by
        unfold unitBits
        simp only [List.map_cons, List.map_nil, List.flatten_cons, List.flatten_nil, List.append_nil, Int.toNat_natCast]
        rw [← hT]
        exact bitsN_bval 16 _ ht
      rw [e, List.take_append_drop]
    · show ((X.drop 16).length : Int) = m + 6 - 16
      rw [List.length_drop]; omega
    · rw [List.length_drop]; omega
    · intro u hu'
      rcases List.mem_append.mp hu' with q | q
      · exact hU u q
      · rw [List.mem_singleton.mp q, hu]
        exact ⟨Int.natCast_nonneg _, hub⟩
  · rename_i hc
    refine ⟨R ++ bitsN 6 v.toNat, by rw [List.append_assoc], by rw [hXl]; push_cast; omega, by rw [hX]; push_cast; omega, by rw [hXl]; omega, hU⟩
def lbits (l : List Int) : List Bool := ((svals l).map fun v => bitsN 6 v.toNat).flatten
theorem lbits_rep (l : List Int) (hl : ∀ k ∈ l, isSign k = true) : BRep (lbits l) (ufold l) := by
  have key : ∀ (vs : List Int) (B : List Bool) (a : List Int × Int × Int), (∀ v ∈ vs, 0 ≤ v ∧ v < 64) → BRep B a → BRep (B ++ (vs.map fun v => bitsN 6 v.toNat).flatten) (vs.foldl ustep a) := by
    intro vs
    induction vs with
    | nil => intro B a _ h; simpa using h
    | cons v r ih =>
      intro B a hv h
      have hv0 := hv v (List.mem_cons_self ..)
      have := ih _ _ (fun k hk => hv k (List.mem_cons_of_mem _ hk)) (brep_step h hv0.1 hv0.2)
      rw [List.map_cons, List.flatten_cons, ← List.append_assoc]
      exact this
  have h := key (svals l) [] ([], 0, 0) (fun v hv => by
    obtain ⟨k, hk, rfl⟩ := List.mem_map.mp hv
    obtain ⟨v, e⟩ := Option.isSome_iff_exists.mp (hl k hk)
    rw [e]; exact sval_bound e) ⟨[], rfl, rfl, rfl, by decide, fun u hu => nomatch hu⟩
  exact h
theorem lbits_len (l : List Int) : (lbits l).length = 6 * l.length := by
  unfold lbits svals
  induction l with
  | nil => rfl
  | cons k r ih => simp only [List.map_cons, List.flatten_cons, List.length_append, bitsN_length, List.length_cons] at ih ⊢; omega
end Mine
end PartL8

section PartL9
example : True := by
  w_top off
  trivial
open PySem PySem.W PyProof.Rows
set_option Elab.async false
namespace Mine
local macro_rules | `(tactic| omega) => `(tactic| first | (with_reducible assumption) | lia | omega +splitDisjunctions)
def piece (B : List Bool) (i j : Int) : List Bool := (B.drop i.toNat).take (j.toNat - i.toNat)
theorem bval_inj {a b : List Bool} (h : a.length = b.length) (e : bval a = bval b) : a = b := by
  rw [← bitsN_bval _ a rfl, ← bitsN_bval _ b rfl, e, h]
theorem unit_drop : ∀ (U : List Int) (a : Nat) (R : List Bool), a < U.length → ((unitBits U ++ R).drop (16 * a)) = bitsN 16 (U.getD a 0).toNat ++ ((unitBits U ++ R).drop (16 * a + 16))
  | u :: r, 0, R, _ => by
    have e : unitBits (u :: r) = bitsN 16 u.toNat ++ unitBits r := by unfold unitBits; simp
    rw [e, Nat.mul_zero, List.drop_zero, List.append_assoc]
    have : (bitsN 16 u.toNat ++ (unitBits r ++ R)).drop (0 + 16) = unitBits r ++ R := by
      rw [List.drop_append_of_le_length (by rw [bitsN_length]; omega), List.drop_eq_nil_of_le (by rw [bitsN_length]; omega)]; rfl
    rw [this]; rfl
  | u :: r, a + 1, R, h => by
    have e : unitBits (u :: r) = bitsN 16 u.toNat ++ unitBits r := by unfold unitBits; simp
    have key : ∀ n, (bitsN 16 u.toNat ++ (unitBits r ++ R)).drop (16 + n) = (unitBits r ++ R).drop n := fun n => by
      rw [← List.drop_drop, List.drop_left' (bitsN_length _ _)]
    rw [e, List.append_assoc, show 16 * (a + 1) = 16 + 16 * a by omega, show 16 + 16 * a + 16 = 16 + (16 * a + 16) by omega, key, key]
    exact unit_drop r a R (by simpa using h)
section
variable {B : List Bool} {U : List Int} {r m : Int} (h : BRep B (U, r, m))
include h
theorem brep_len : (B.length : Int) = 16 * U.length + m := by
  obtain ⟨R, rfl, hm, _, _, _⟩ := h
  dsimp only at hm ⊢
  rw [List.length_append, unitBits_len, ← hm]
  rfl
theorem brep_unit {a : Nat} (ha : a < U.length) : 0 ≤ U.getD a 0 ∧ U.getD a 0 < 65536 := by
  obtain ⟨_, _, _, _, _, hU⟩ := h
  rw [List.getD_eq_getElem?_getD, List.getElem?_eq_getElem ha]
  exact hU _ (List.getElem_mem ha)
theorem brep_piece {a : Nat} (ha : a < U.length) {x y : Nat} (hx : x ≤ y) (hy : y ≤ 16) {i j : Int} (hi : i = 16 * a + x) (hj : j = 16 * a + y) :
    piece B i j = ((bitsN 16 (U.getD a 0).toNat).drop x).take (y - x) := by
  obtain ⟨R, rfl, _, _, _, _⟩ := h
  unfold piece
  have e1 : i.toNat = 16 * a + x := by rw [hi]; rfl
  have e2 : j.toNat - i.toNat = y - x := by rw [e1, hj]; exact Nat.add_sub_add_left ..
  rw [e2, e1, ← List.drop_drop, unit_drop U a R ha]
  rw [List.drop_append_of_le_length (by rw [bitsN_length]; exact Nat.le_trans hx hy), List.take_append_of_le_length (by rw [List.length_drop, bitsN_length]; exact Nat.sub_le_sub_right hy _)]
theorem brep_nat {a : Nat} (ha : a < U.length) : (U.getD a 0).toNat < 65536 := (Int.toNat_lt (brep_unit h ha).1).mpr (brep_unit h ha).2
theorem brep_val {a : Nat} (ha : a < U.length) {i j : Int} (hi : i = 16 * a) (hj : j = 16 * a + 16) : (bval (piece B i j) : Int) = U.getD a 0 := by
  have hu := brep_unit h ha
  rw [brep_piece h ha (x := 0) (y := 16) (by decide) (by decide) (by rw [hi]; exact (Int.add_zero _).symm) hj, List.drop_zero, List.take_of_length_le (by rw [bitsN_length]; exact Nat.le_refl _), bval_bitsN]
  have : (2 : Nat) ^ 16 = 65536 := by decide
  rw [this, Nat.mod_eq_of_lt (brep_nat h ha), Int.toNat_of_nonneg hu.1]
theorem brep_six {a : Nat} (ha : a < U.length) {i j : Int} (hi : i = 16 * a) (hj : j = 16 * a + 6) : piece B i j = [true, true, false, true, true, false] ↔ high (U.getD a 0) := by
  have hu := brep_unit h ha
  rw [brep_piece h ha (x := 0) (y := 6) (by decide) (by decide) (by rw [hi]; exact (Int.add_zero _).symm) hj, List.drop_zero]
  have hs := (bval_split (X := bitsN 16 (U.getD a 0).toNat) (k := 6) (by rw [bitsN_length]; decide)).1
  rw [bitsN_length, bval_bitsN] at hs
  have e1 : (2 : Nat) ^ 16 = 65536 := by decide
  have e2 : (2 : Nat) ^ (16 - 6) = 1024 := by decide
  rw [e1, e2, Nat.mod_eq_of_lt (brep_nat h ha)] at hs
  have hl : ((bitsN 16 (U.getD a 0).toNat).take 6).length = 6 := by rw [List.length_take, bitsN_length]; rfl
  unfold high
  constructor
  · intro e
    rw [show 6 - 0 = 6 from rfl] at e
    rw [e] at hs
    have : bval [true, true, false, true, true, false] = 54 := by decide
    omega
  · intro e
    refine bval_inj hl ?_
    rw [show 6 - 0 = 6 from rfl, hs]
    have : bval [true, true, false, true, true, false] = 54 := by decide
    omega
theorem brep_five {a : Nat} (ha : a < U.length) {i j : Int} (hi : i = 16 * a) (hj : j = 16 * a + 5) : piece B i j = [true, true, false, true, true] ↔ (high (U.getD a 0) ∨ low (U.getD a 0)) := by
  have hu := brep_unit h ha
  rw [brep_piece h ha (x := 0) (y := 5) (by decide) (by decide) (by rw [hi]; exact (Int.add_zero _).symm) hj, List.drop_zero]
  have hs := (bval_split (X := bitsN 16 (U.getD a 0).toNat) (k := 5) (by rw [bitsN_length]; decide)).1
  rw [bitsN_length, bval_bitsN] at hs
  have e1 : (2 : Nat) ^ 16 = 65536 := by decide
  have e2 : (2 : Nat) ^ (16 - 5) = 2048 := by decide
  rw [e1, e2, Nat.mod_eq_of_lt (brep_nat h ha)] at hs
  have hl : ((bitsN 16 (U.getD a 0).toNat).take 5).length = 5 := by rw [List.length_take, bitsN_length]; rfl
  unfold high low
  have h27 : bval [true, true, false, true, true] = 27 := by decide
  constructor
  · intro e
    rw [show 5 - 0 = 5 from rfl] at e
    rw [e] at hs
    omega
  · intro e
    refine bval_inj hl ?_
    rw [show 5 - 0 = 5 from rfl, hs]
    omega
theorem brep_ten {a : Nat} (ha : a < U.length) {i j : Int} (hi : i = 16 * a + 6) (hj : j = 16 * a + 16) : (bval (piece B i j) : Int) = U.getD a 0 % 1024 ∧ (piece B i j).length = 10 := by
  have hu := brep_unit h ha
  rw [brep_piece h ha (x := 6) (y := 16) (by decide) (by decide) hi hj, List.take_of_length_le (by rw [List.length_drop, bitsN_length]; exact Nat.le_refl _)]
  have hs := (bval_split (X := bitsN 16 (U.getD a 0).toNat) (k := 6) (by rw [bitsN_length]; decide)).2
  rw [bitsN_length, bval_bitsN] at hs
  have e1 : (2 : Nat) ^ 16 = 65536 := by decide
  have e2 : (2 : Nat) ^ (16 - 6) = 1024 := by decide
  rw [e1, e2, Nat.mod_eq_of_lt (brep_nat h ha)] at hs
  refine ⟨by rw [hs]; exact congrArg (· % (1024 : Int)) (Int.toNat_of_nonneg hu.1), by rw [List.length_drop, bitsN_length]⟩
theorem brep_pair {a : Nat} (ha : a + 1 < U.length) (h1 : high (U.getD a 0)) (h2 : low (U.getD (a + 1) 0)) {i j k l : Int} (hi : i = 16 * a + 6) (hj : j = 16 * a + 16) (hk : k = 16 * a + 22) (hl : l = 16 * a + 32) :
    (bval (piece B i j ++ piece B k l) : Int) + 65536 = 65536 + (U.getD a 0 - 55296) * 1024 + U.getD (a + 1) 0 - 56320 := by
  obtain ⟨a1, a2⟩ := brep_ten h (by omega : a < U.length) hi hj
  obtain ⟨b1, b2⟩ := brep_ten h ha (i := k) (j := l) (by omega) (by omega)
  unfold high low at *
  have e := bval_app (piece B i j) (piece B k l)
  rw [b2] at e
  have e2 : (2 : Nat) ^ 10 = 1024 := by decide
  rw [e2] at e
  omega
theorem brep_left : (true ∈ B.drop (16 * U.length) ↔ r ≠ 0) ∧ ((B.drop (16 * U.length)).length : Int) = m := by
  obtain ⟨R, rfl, hm, hr, _, _⟩ := h
  dsimp only at hm hr ⊢
  have e : (unitBits U ++ R).drop (16 * U.length) = R := by
    rw [List.drop_append_of_le_length (by rw [unitBits_len]; omega), List.drop_eq_nil_of_le (by rw [unitBits_len]; omega)]; rfl
  rw [e]
  refine ⟨?_, hm⟩
  rw [← hr]
  have key : ∀ R : List Bool, true ∈ R ↔ bval R ≠ 0 := by
    intro R
    generalize hn : R.length = n
    induction n generalizing R with
    | zero => have : R = [] := List.eq_nil_of_length_eq_zero hn
              subst this; simp [bval]
    | succ n ih =>
      have hne : R ≠ [] := by intro e; subst e; cases hn
      have hs := List.dropLast_concat_getLast hne
      have hl : R.dropLast.length = n := by rw [List.length_dropLast]; omega
      have := ih _ hl
      rw [← hs, bval_snoc, List.mem_append, this, List.mem_singleton]
      cases R.getLast hne <;> simp <;> omega
  rw [key]; omega
end
end Mine
end PartL9

section PartE1
example : True := by
  w_top off
  trivial
open PySem PySem.W PyProof.Rows PySem.Calls PySem.Spec PyProof.Rows.LCg
set_option Elab.async false
set_option maxRecDepth 100000
namespace Mine
section
variable {prog : Program} {w : World} {A : Around} {E : Value → Shared → Prop} {s : Shared} {h₀ : Heap} {L : Addr} {m : Str → Option Value} {env : Env} {elt iter : PySem.Expr} {x : Str} {px : Pos} {scope : Scope} {cl : List (Str × Addr)}
theorem comp_inv {n : Nat} {S : List (Addr × Obj) → Prop} {P : Nat → Value → Prop} {Fin : List Value → List (Addr × Obj) → Prop} {news : List (Addr × Obj)} (J : Nat → List Value → List (Addr × Obj) → Prop) (j0 : J 0 [] news)
    (turn : ∀ i v ys news' I oI C oC D m₂ h tk (E' : Value → Shared → Prop), i < n → P i v → J i ys news' → NsObj oC m₂ → m₂ x = some v → Fr h₀ L h m → News h₀ L h ((I, oI) :: (C, oC) :: (D, lst ys) :: news') → Off3 I C D news' → ((@Ne Nat I C) ∧ (@Ne Nat I D) ∧ (@Ne Nat C D)) →
      wpAny (model prog w) A (eval elt (compEnvC scope cl C env)) (CompEnd h₀ L m { s with heap := h, toks := tk } I oI C oC D (lst ys) S (fun y news'' => J (i + 1) (ys ++ [y]) news'')) E' { s with heap := h, toks := tk })
    (fin : ∀ ys news', J n ys news' → Fin ys news') : CompRest prog w A h₀ L m env elt x scope cl s S P Fin n 0 [] news := by
  have key : ∀ (j i : Nat) (ys : List Value) (news' : List (Addr × Obj)), i + j = n → J i ys news' → CompRest prog w A h₀ L m env elt x scope cl s S P Fin j i ys news' := by
    intro j
    induction j with
    | zero => intro i ys news' hi hj; obtain rfl : i = n := by omega
              exact CompRest.zero (fin ys news' hj)
    | succ j ih =>
      intro i ys news' hi hj
      refine CompRest.succ fun v I oI C oC D m₂ h tk E' hv hC hx F N off ne => ?_
      refine wpAny_mono (turn i v ys news' I oI C oC D m₂ h tk E' (by omega) hv hj hC hx F N off ne) (fun y s₂ hq => ?_) fun _ _ e => e
      obtain ⟨h', tk', nw, e, F', N', off', hS, hy⟩ := hq
      exact ⟨h', tk', nw, e, F', N', off', hS, ih (i + 1) _ nw (by omega) hy⟩
  exact key n 0 [] news (by omega) j0
def CompB (prog : Program) (w : World) (A : Around) (h₀ : Heap) (L : Addr) (m : Str → Option Value) (env : Env) (elt : PySem.Expr) (x : Str) (scope : Scope) (cl : List (Str × Addr)) (Fin : Shared → List Value → List (Addr × Obj) → Prop) (xv : Value) (s₁ : Shared) : Prop :=
  ∃ b tb news, xv = .bytes b tb ∧ A.handled = none ∧ Fr h₀ L s₁.heap m ∧ News h₀ L s₁.heap news ∧ b.size ≤ sizeLine ∧
    ∀ g, CompRest prog w A h₀ L m env elt x scope cl { s₁ with heap := g } (fun _ => True) (fun i v => ∃ c u, b[i]? = some c ∧ v = .int (c.toNat : Int) u) (Fin { s₁ with heap := g }) b.size 0 [] news
theorem comp_bytes {pos : Pos} {Q : Value → Shared → Prop} (_ : Fr h₀ L s.heap m) (hclos : closureFor scope env = pure cl) (hcell : ∀ y ∈ scope.names, y.2 ≠ .cell) (hkind : scope.kind = .function)
    (hnames : ∀ y ∈ scope.names, y.2 = .local → scope.names.lookup y.1 = some .local) (hx : scope.names.lookup x = some .local)
    (h : wpAny (model prog w) A (eval iter env) (CompB prog w A h₀ L m env elt x scope cl (fun s₂ => FinE h₀ L m s₂ Q)) E s)
    (hs : ∀ x, foldedSetIterable iter env x = pure x := by intro _; rfl) :
    wpAny (model prog w) A (eval (.ListComp elt [⟨.Name x px, iter, [], 0⟩] scope pos) env) Q E s := by
  rw [eval_ListComp]
  refine wpAny_comprehension_free (use := none) rfl hs hclos hkind hnames (wpAny_mono h (fun xv s₁ h₁ => ?_) fun _ _ e => e)
  obtain ⟨b, tb, news, rfl, hh, F, N, hsz, R⟩ := h₁
  refine KBw.pyIter_bytes ?_
  have W := KBw.walks (prog := prog) (w := w) hh s₁.heap.objs.size b tb
  refine block_U (S := fun _ => True) W hsz (fun i h st => by obtain ⟨o, e, _⟩ := st; exact ⟨o, e⟩) (fun i h h' o nw st e e' _ _ _ => by
      obtain ⟨o', q, r⟩ := st
      rw [e] at q; cases q
      exact ⟨o, e', r⟩) hcell hkind hx ⟨_, Heap.get?_push_size _ rfl, rfl, rfl⟩ (fun b' hb => ?_)
    (F.keeps fun _ _ e => Heap.get?_push_of_some _ e) (N.grown fun _ _ e => Heap.get?_push_of_some _ e) (Nat.ne_of_lt F.ns.lt) (next_is_new F) (fun p hp => Nat.ne_of_lt (Heap.lt_size (N p hp).1)) trivial (R _) ?_
  · rw [List.mem_singleton.mp hb]
    show s₁.heap.objs.size < (s₁.heap.push _).objs.size
    rw [Heap.size_push]; exact Nat.lt_succ_self _
  · intro D C h tk m' ys news' F' N' o1 hn hC₀ hD₀ hCL hDL hCD offC fin
    refine ⟨m', hn, fun h'' hs'' => fin D h'' tk (F'.change hs'' hCL hC₀) (fun p hp => ?_) o1⟩
    refine ⟨hs''.extBut _ _ ?_ (N' p hp).1, (N' p hp).2⟩
    rcases List.mem_cons.mp hp with rfl | hp
    · exact Ne.symm hCD
    · exact offC p hp
end
end Mine
end PartE1

section PartD0
example : True := by
  w_top off
  trivial
open PySem PySem.W PyProof.Rows
set_option Elab.async false
namespace Mine
set_option maxRecDepth 100000
def lawSigns : Array UInt8 := #[65, 66, 67, 68, 69, 70, 71, 72, 73, 74, 75, 76, 77, 78, 79, 80, 81, 82, 83, 84, 85, 86, 87, 88, 89, 90, 97, 98, 99, 100, 101, 102, 103, 104, 105, 106, 107, 108, 109, 110, 111, 112, 113, 114, 115, 116, 117, 118, 119, 120, 121, 122, 48, 49, 50, 51, 52, 53, 54, 55, 56, 57, 43, 44]
theorem sign_find : ∀ n : Fin 256, ((sval (n.val : Int)).all fun i => Builtin.Bytes.find? lawSigns #[n.val.toUInt8] 0 lawSigns.size == some i.toNat) = true := by decide +kernel
theorem sign_has : ∀ n : Fin 256, lawSigns.contains n.val.toUInt8 = isSign (n.val : Int) := by decide +kernel
theorem sval_byte {k v : Int} (h : sval k = some v) : 0 ≤ k ∧ k < 256 := by
  unfold sval at h
  (repeat' split at h) <;> first | omega | cases h
section
variable {prog : Program} {w : World} {A : Around} {E Q : Value → Shared → Prop} {s : Shared} {t u : Tok} {k v : Int} {b : Array UInt8} {B : List Bool} {i j i2 j2 : Int}
theorem sign_index (hb : b = lawSigns) (hv : sval k = some v) (h : Q (.int v s.toks) { s with toks := s.toks + 1 }) : wpAny (model prog w) A (call (.builtin "bytes.index") [.bytes b t, .int k u]) Q E s := by
  subst hb
  obtain ⟨h0, h1⟩ := sval_byte hv
  have hv0 := (sval_bound hv).1
  have e : ((k.toNat : Nat) : Int) = k := Int.toNat_of_nonneg h0
  have hf := sign_find ⟨k.toNat, by omega⟩
  dsimp only at hf
  rw [e, hv] at hf
  have hf2 := beq_iff_eq.mp (show (Builtin.Bytes.find? lawSigns #[k.toNat.toUInt8] 0 lawSigns.size == some v.toNat) = true from hf)
  refine call_index h0 h1 hf2 (by decide) ?_
  rw [Int.toNat_of_nonneg hv0]
  exact h
theorem fmt_sign (h0 : 0 ≤ v) (h1 : v < 64) (h : ∀ t' k, Q (.str (tb (bitsN 6 v.toNat)) t') { s with toks := k }) : wpAny (model prog w) A (call (.builtin "format") [.int v t, .str (Str.ofString "06b") u]) Q E s := by
  have e : v = ((v.toNat : Nat) : Int) := (Int.toNat_of_nonneg h0).symm
  rw [e]
  exact call_fmt (by decide +kernel) (fmt6 v.toNat (by omega) t u) h
theorem piece_ne (hi : 0 ≤ i) (hij : i < j) (hB : i < B.length) : piece B i j ≠ [] := by
  intro e
  have := congrArg List.length e
  unfold piece at this
  rw [List.length_take, List.length_drop] at this
  exact absurd this (Nat.ne_of_gt (Nat.lt_min.mpr ⟨Nat.sub_pos_of_lt ((Int.toNat_lt_toNat (Int.lt_of_le_of_lt hi hij)).mpr hij), Nat.sub_pos_of_lt ((Int.toNat_lt hi).mpr hB)⟩))
theorem piece_len (hi : 0 ≤ i) (hij : i ≤ j) : (piece B i j).length ≤ (j - i).toNat := by
  unfold piece
  rw [List.length_take]
  exact Nat.le_trans (Nat.min_le_left ..) (Nat.le_of_eq (Int.toNat_sub'' (Int.le_trans hi hij) hi).symm)
theorem slice_piece (hi : 0 ≤ i) (hj : 0 ≤ j) : Txt.slice (tb B) (some i) (some j) = tb (piece B i j) := tb_slice hi hj
theorem int_piece (hv : (bval (piece B i j) : Int) = v) (hi : 0 ≤ i) (hij : i < j) (hB : i < B.length) (hj : j - i ≤ 640) (h : Q (.int v s.toks) { s with toks := s.toks + 1 }) :
    wpAny (model prog w) A (call (.type "int") [.str (Txt.slice (tb B) (some i) (some j)) t, .int 2 u]) Q E s := by
  have := piece_len (B := B) hi (Int.le_of_lt hij)
  subst hv
  exact call_bits (slice_piece hi (Int.le_trans hi (Int.le_of_lt hij))) (piece_ne hi hij hB) (Nat.le_trans this (Int.toNat_le.mpr hj)) h
theorem int_two (hi : 0 ≤ i) (hij : i < j) (hB : i < B.length) (hj : j - i ≤ 320) (hi2 : 0 ≤ i2) (hij2 : i2 ≤ j2) (hj2 : j2 - i2 ≤ 320) (h : Q (.int (bval (piece B i j ++ piece B i2 j2)) s.toks) { s with toks := s.toks + 1 }) :
    wpAny (model prog w) A (call (.type "int") [.str (Txt.slice (tb B) (some i) (some j) ++ Txt.slice (tb B) (some i2) (some j2)) t, .int 2 u]) Q E s := by
  have h1 := piece_len (B := B) hi (Int.le_of_lt hij)
  have h2 := piece_len (B := B) hi2 hij2
  refine call_bits (l := piece B i j ++ piece B i2 j2) (by rw [slice_piece hi (Int.le_trans hi (Int.le_of_lt hij)), slice_piece hi2 (Int.le_trans hi2 hij2), tb_app]) (fun e => piece_ne hi hij hB (List.append_eq_nil_iff.mp e).1) (by rw [List.length_append]; exact Nat.add_le_add (Nat.le_trans h1 (Int.toNat_le.mpr hj)) (Nat.le_trans h2 (Int.toNat_le.mpr hj2))) h
theorem eq_piece {lit : Str} {l : List Bool} {P : Prop} [Decidable P] (hl : lit = tb l) (hq : piece B i j = l ↔ P) (hi : 0 ≤ i) (hj : 0 ≤ j) (h : Q (.bool (decide P)) s) : wpAny (model prog w) A (compareOp .Eq (.str (Txt.slice (tb B) (some i) (some j)) t) (.str lit u)) Q E s := by
  subst hl
  refine PyProof.Rows.eq_str ?_
  rw [slice_piece hi hj, tb_beq, show decide (piece B i j = l) = decide P from by rw [Bool.eq_iff_iff, decide_eq_true_eq, decide_eq_true_eq]; exact hq]
  exact h
theorem eq_range {lit : Str} {l : List Bool} {lo hi' c : Int} (hl : lit = tb l) (hq : piece B i j = l ↔ (lo ≤ c ∧ c ≤ hi')) (hi : 0 ≤ i) (hj : 0 ≤ j) (h : Q (.bool (decide (lo ≤ c ∧ c ≤ hi'))) s) : wpAny (model prog w) A (compareOp .Eq (.str (Txt.slice (tb B) (some i) (some j)) t) (.str lit u)) Q E s := eq_piece hl hq hi hj h
theorem add_two (hB : B.length ≤ 1000000) (h : ∀ t' k, Q (.str (Txt.slice (tb B) (some i) (some j) ++ Txt.slice (tb B) (some i2) (some j2)) t') { s with toks := k }) :
    wpAny (model prog w) A (binaryOp .Add (.str (Txt.slice (tb B) (some i) (some j)) t) (.str (Txt.slice (tb B) (some i2) (some j2)) u)) Q E s := by
  refine SB.add h ?_
  have h1 := Txt.slice_le (tb B) (some i) (some j)
  have h2 := Txt.slice_le (tb B) (some i2) (some j2)
  rw [tb_len] at h1 h2
  rw [sizeLine_eq]; omega
theorem has_one {lit : Str} (hl : lit = tb [true]) (hi : 0 ≤ i) (h : Q (.bool (decide (true ∈ B.drop i.toNat))) s) : wpAny (model prog w) A (compareOp .In (.str lit u) (.str (Txt.slice (tb B) (some i) none) t)) Q E s := by
  subst hl
  refine P.in_str ?_
  show Q (.bool (Txt.contains (Txt.slice (tb B) (some i) none) (tb [true]))) s
  rw [tb_slice_from hi, tb_has]
  exact h
theorem sub_ss {value slice : PySem.Expr} {h₀ : Heap} {L : Addr} {m : Str → Option Value} {news : List (Addr × Obj)} {ui uj : Tok} (hB : B.length ≤ 1000000) (hF : Fr h₀ L s.heap m) (hN : News h₀ L s.heap news) (h : ∀ h' t' k, Fr h₀ L h' m → News h₀ L h' news → Q (.str (Txt.slice (tb B) (some i) (some j)) t') { s with heap := h', toks := k })
    (hs : subscripted slice false (.str (tb B) t) (.ref s.heap.objs.size) = operate [.ref s.heap.objs.size, .str (tb B) t] (getItem (.str (tb B) t) (.ref s.heap.objs.size)) := by with_unfolding_all rfl)
    (ht : ∀ r, letTemporaryGo value (.str (tb B) t) r = pure () := by intro _; with_unfolding_all rfl) :
    wpAny (model prog w) A (subscriptTail value slice (.str (tb B) t) (.ref s.heap.objs.size)) Q E { s with heap := s.heap.push { cls := .type "slice", data := .fields #[.int i ui, .int j uj, .none] } } :=
  slice_strN_ss hF hN h hs ht (by rw [tb_len, sizeLine_eq]; omega)
theorem sub_sn {value slice : PySem.Expr} {h₀ : Heap} {L : Addr} {m : Str → Option Value} {news : List (Addr × Obj)} {ui : Tok} (hB : B.length ≤ 1000000) (hF : Fr h₀ L s.heap m) (hN : News h₀ L s.heap news) (h : ∀ h' t' k, Fr h₀ L h' m → News h₀ L h' news → Q (.str (Txt.slice (tb B) (some i) none) t') { s with heap := h', toks := k })
    (hs : subscripted slice false (.str (tb B) t) (.ref s.heap.objs.size) = operate [.ref s.heap.objs.size, .str (tb B) t] (getItem (.str (tb B) t) (.ref s.heap.objs.size)) := by with_unfolding_all rfl)
    (ht : ∀ r, letTemporaryGo value (.str (tb B) t) r = pure () := by intro _; with_unfolding_all rfl) :
    wpAny (model prog w) A (subscriptTail value slice (.str (tb B) t) (.ref s.heap.objs.size)) Q E { s with heap := s.heap.push { cls := .type "slice", data := .fields #[.int i ui, .none, .none] } } :=
  slice_strN_sn hF hN h hs ht (by rw [tb_len, sizeLine_eq]; omega)
theorem len_tb (hB : B.length ≤ 1000000) (h : Q (.int (B.length : Int) (s.toks + 1)) { s with toks := s.toks + 1 + 1 }) : wpAny (model prog w) A (call (.builtin "len") [.str (tb B) t]) Q E s := by
  refine PyProof.Rows.len_str (by rw [tb_len]; omega) ?_
  rw [tb_len]; exact h
theorem join_bits {D : Addr} {ys : List Value} {ls : List (List Bool)} (hl : s.heap.IsList D ys.toArray) (hi : StrsAre ys (ls.map tb)) (hf : ls.flatten = B) (hw : 7 * B.length + ls.length ≤ 1000000) (h : ∀ t' k, Q (.str (tb B) t') { s with toks := k }) :
    wpAny (model prog w) A (call (.builtin "str.join") [.str (Str.ofString "") t, .ref D]) Q E s := by
  subst hf
  refine join_listW hl (by simpa using hi) (by decide) ?_ fun t' k => by rw [tb_join]; exact h t' k
  rw [List.length_map, List.map_map]
  have e : (ls.map (Str.length ∘ tb)).sum = ls.flatten.length := by
    rw [List.length_flatten]
    congr 1
    exact List.map_congr_left fun l _ => tb_len l
  rw [e]; omega
end
end Mine
end PartD0

section PartD1
example : True := by
  w_top off
  trivial
open PySem PySem.W PyProof.Rows
set_option Elab.async false
namespace Mine
local macro_rules | `(tactic| omega) => `(tactic| first | (with_reducible assumption) | lia | omega +splitDisjunctions)
set_option maxRecDepth 100000
set_option maxHeartbeats 2000000
local macro_rules | `(tactic| k_all) => `(tactic| with_unfolding_all assumption)
local macro_rules | `(tactic| walk_at "exec While") => `(tactic| (k_here; refine stop ?_))
local macro_rules | `(tactic| walk_at "exec While Compare") => `(tactic| (k_here; refine stop ?_))
local macro_rules | `(tactic| walk_at "LoopPost") => `(tactic| (dsimp only [LoopPost]))
local macro_rules | `(tactic| walk_at "eval ListComp") => `(tactic| (k_here; refine stop ?_))
local macro_rules | `(tactic| walk_at "getMethod bytes") => `(tactic| (k_here; refine stop ?_))
local macro_rules | `(tactic| walk_at "call builtin:bytes.index") => `(tactic| (k_here; refine stop ?_))
local macro_rules | `(tactic| walk_at "call builtin:format") => `(tactic| (k_here; refine stop ?_))
local macro_rules | `(tactic| walk_at "call builtin:str.join") => `(tactic| (k_here; refine stop ?_))
local macro_rules | `(tactic| walk_at "call builtin:len") => `(tactic| (k_here; (with_reducible show wpAny _ _ (call (Value.builtin "len") [Value.str _ _]) _ _ _); refine stop ?_))
local macro_rules | `(tactic| walk_at "call type:int") => `(tactic| (k_here; refine stop ?_))
local macro_rules | `(tactic| walk_at "compareOp Eq str str") => `(tactic| (k_here; refine stop ?_))
local macro_rules | `(tactic| walk_at "binaryOp Add str str") => `(tactic| (k_here; refine stop ?_))
local macro_rules | `(tactic| walk_at "compareOp In str str") => `(tactic| (k_here; refine stop ?_))
local macro_rules | `(tactic| walk_at "subscriptTail Name Slice") => `(tactic| (k_here; refine stop ?_))
local macro_rules | `(tactic| walk_at "subscriptTail Name Slice str ref") => `(tactic| (k_here; refine stop ?_))
local macro_rules | `(tactic| walk_at "isTrue BoolOp") => `(tactic| (k_here; (with_reducible show wpAny _ _ (isTrue (PySem.Expr.BoolOp _ (_ :: _ :: _) _) _ _) _ _ _); refine stop ?_))
local macro_rules | `(tactic| walk_at "isTrue Compare") => `(tactic| (k_here; (with_reducible show wpAny _ _ (isTrue (PySem.Expr.Compare _ (_ :: _ :: _) _ _) _ _) _ _ _); refine stop ?_))
local macro_rules | `(tactic| walk_at "exec Assign") => `(tactic| (k_here; (with_reducible show wpAny _ _ (exec (PySem.Stmt.Assign _ (PySem.Expr.IfExp _ _ _ _) _) _) _ _ _); (fail_if_success (with_reducible show wpAny _ _ _ (Mid _ _ _ _ _ _) _ _)); refine stop ?_))
def LuRet (res : Res) (r : Value) (tl : List (Addr × Obj)) : Prop := match res with
  | .ok cs => ∃ rt lc cvs nc, tl = [(rt, tupOf [.ref lc, .none]), (lc, listOf cvs nc)] ∧ r = .ref rt ∧ lc < rt ∧ IntsAre cvs.toList cs ∧ cvs.size ≤ 100000
  | .error e => ∃ rt ft tk1 tk2, tl = [(rt, tupOf [.none, .ref ft]), (ft, tupOf [.int e.1 tk1, .str e.2 tk2])] ∧ r = .ref rt ∧ ft < rt
abbrev LSt := Array Value × Nat × (Int × Tok) × Nat × List Int
section
variable {h₀ : Heap} {L : Addr} {m : Str → Option Value} {s : Shared} {Q : Value → Shared → Prop} {news rest : List (Addr × Obj)} {h' : Heap} {tk' : Nat} {res : Res} {rt ft lc : Addr} {e : Int} {g : Str} {tk1 tk2 : Tok}
theorem lu_fault (hret : ∀ r tl h' tk', Fr h₀ L h' m → News h₀ L h' (tl ++ news) → (∀ q ∈ news, ∀ p ∈ tl, q.1 < p.1) → LuRet res r tl → Q r { s with heap := h', toks := tk' })
    (F : Fr h₀ L h' m) (N : News h₀ L h' ((rt, tupOf [.none, .ref ft]) :: (ft, tupOf [.int e tk1, .str g tk2]) :: rest)) (hs : ∀ p ∈ news, p ∈ rest) (h1 : ft < rt) (h2 : AllLt ft news) (hres : res = .error (e, g)) : Q (.ref rt) { s with heap := h', toks := tk' } := by
  subst hres
  refine hret (.ref rt) [(rt, tupOf [.none, .ref ft]), (ft, tupOf [.int e tk1, .str g tk2])] h' tk' F (fun p hp => N p ?_) (fun q hq p hp => ?_) ⟨rt, ft, tk1, tk2, rfl, rfl, h1⟩
  · simp only [List.cons_append, List.nil_append, List.mem_cons] at hp ⊢
    rcases hp with h | h | h
    · exact .inl h
    · exact .inr (.inl h)
    · exact .inr (.inr (hs p h))
  · have := allLt_mem h2 q hq
    rcases List.mem_cons.mp hp with rfl | hp
    · exact Nat.lt_trans this h1
    · rw [List.mem_singleton.mp hp]; exact this
theorem rdAll_err {st en : Int} {U : List Int} {a : Nat} {cs : List Int} {y : Int × Str} {ok : Prop} [Decidable ok] (h : RdSame st U a (.ok cs)) (h1 : rd st a (U.drop a) = .error y) : rdAll st en U ok = .error y := by
  have h0 : rd st 0 U = _ := h
  unfold rdAll
  rw [h0, h1]; rfl
end
theorem runs_lunits (w : World) (b : Array UInt8) (ks : List Int) (tkb : Tok) (x : Int) (t : Tok) (news : List (Addr × Obj)) (hbi : KBw.bInts b = ks) (hbl : ks.length ≤ 10000) (hx : 0 ≤ x) (hs : ∀ k ∈ ks, isSign k = true) :
    Runs w 142 [.bytes b tkb, .int x t] 3 news (LuRet (rdAll x (x + ks.length) (ufold ks).1 (evenOf ks))) := by
  unfold Runs
  k_fill
  intro p loose mean mg mb dp un gd cn cs a ccd cl outer A₀ base h₀ L m s Q E B F X N T hk hd hu hret
  refine wpAny_call ?_
  k_dflt cell_enter
  k_steps
  unfold Stop
  k_dflt (refine comp_bytes (by k_asm) (by with_unfolding_all rfl) (by decide) (by rfl) (by decide) (by rfl) ?_)
  k_steps
  refine ⟨b, tkb, news, rfl, rfl, by k_asm, by k_asm, by rw [← KBw.ints_length, hbi, sizeLine_eq]; omega, fun g => comp_inv (fun i ys nw => nw = news ∧ StrsAre ys (((svals (ks.take i)).map fun v => bitsN 6 v.toNat).map tb)) ⟨rfl, .nil⟩ ?turn ?fin⟩
  case turn =>
    rintro i v ys _ I oI C oC D m₂ h tk E' hi ⟨c, u, hc, rfl⟩ ⟨rfl, hys⟩ hC hx' F1 N1 off ne
    have hki : ks[i]? = some ((c.toNat : Nat) : Int) := by rw [← hbi]; exact KBw.ints_get hc
    have hsg := hs _ (List.mem_of_getElem? hki)
    obtain ⟨sv, hsv⟩ := Option.isSome_iff_exists.mp hsg
    obtain ⟨hsv0, hsv1⟩ := sval_bound hsv
    k_steps
    repeat' ((unfold Stop); (first | ((with_reducible show wpAny _ _ (getMethod (Value.bytes _ _) _ _) _ _ _); with_reducible refine bmethod_index ?_) | ((with_reducible show wpAny _ _ (call (Value.builtin "bytes.index") _) _ _ _); (k_dflt (refine' sign_index ?zb ?zv ?_)); (case zb => exact rfl); (case zv => assumption)) | ((with_reducible show wpAny _ _ (call (Value.builtin "format") _) _ _ _); (k_dflt (refine' fmt_sign ?z0 ?z1 ?_)); (case z0 => omega); (case z1 => omega); intro _ _) | ((with_reducible show wpAny _ _ (call (Value.builtin "str.join") _) _ _ _); (k_dflt (refine' join_bits ?zl ?zi ?zf ?zw ?_)); (case zl => exact News.isList (by k_asm) (by k_mem)); (case zi => assumption); (case zf => assumption); (case zw => assumption); intro _ _) | ((with_reducible show wpAny _ _ (call (Value.builtin "len") _) _ _ _); (k_dflt (refine len_tb (by omega) ?_))) | ((with_reducible show wpAny _ _ (call (Value.type "int") _) _ _ _); (k_dflt (first | (refine' int_piece ?hv ?h1 ?h2 ?h3 ?h4 ?_; (case hv => assumption); (case h1 => omega); (case h2 => omega); (case h3 => omega); (case h4 => omega)) | (refine' int_two ?h1 ?h2 ?h3 ?h4 ?h5 ?h6 ?h7 ?_; (case h1 => omega); (case h2 => omega); (case h3 => omega); (case h4 => omega); (case h5 => omega); (case h6 => omega); (case h7 => omega))))) | ((with_reducible show wpAny _ _ (compareOp PySem.CmpOp.Eq _ _) _ _ _); (k_dflt (refine' eq_range ?ze ?zq ?z2 ?z3 ?_)); (case ze => first | exact (show _ = tb [true, true, false, true, true, false] from by decide) | exact (show _ = tb [true, true, false, true, true] from by decide)); (case zq => assumption); (case z2 => omega); (case z3 => omega)) | ((with_reducible show wpAny _ _ (binaryOp PySem.Operator.Add _ _) _ _ _); (k_dflt (refine add_two (by omega) ?_)); intro _ _) | ((with_reducible show wpAny _ _ (compareOp PySem.CmpOp.In _ _) _ _ _); (k_dflt (refine' has_one ?zo ?z2 ?_)); (case zo => decide); (case z2 => omega)) | ((with_reducible show wpAny _ _ (subscriptTail _ _ _ _) _ _ _); (with_reducible rename Fr _ _ _ _ => F'); (with_reducible rename News _ _ _ _ => N'); k_dflt (first | refine sub_ss (s := ⟨_, _, _, _, _⟩) (by omega) F' N' ?_ | refine sub_sn (s := ⟨_, _, _, _, _⟩) (by omega) F' N' ?_); intro _ _ _ F' N')); (try k_steps))
    refine LCg.CompEnd.intro (by assumption) (by assumption) _ (fun p hp => hp) off trivial ⟨rfl, ?_⟩
    have e : svals (ks.take (i + 1)) = svals (ks.take i) ++ [sv] := by
      unfold svals
      rw [List.take_add_one, hki, List.map_append]
      simp [hsv]
    rw [e, List.map_append, List.map_append]
    exact kct_snoc hys
  case fin =>
    rintro ys nw ⟨hnw, hys⟩
    obtain rfl : news = nw := hnw.symm
    rw [List.take_of_length_le (by rw [← hbi, KBw.ints_length]; exact Nat.le_refl _)] at hys
    have hfl : ((svals ks).map fun v => bitsN 6 v.toNat).flatten = lbits ks := rfl
    have hjw : 7 * (lbits ks).length + ((svals ks).map fun v => bitsN 6 v.toNat).length ≤ 1000000 := by
      rw [lbits_len]; unfold svals; simp; omega
    have hrep := lbits_rep ks hs
    have hBl := lbits_len ks
    obtain ⟨hok, _⟩ := ufold_in ks hs
    generalize hB : lbits ks = B at hfl hjw hrep hBl
    obtain ⟨U, rr, mm, hU⟩ : ∃ U r m, ufold ks = (U, r, m) := ⟨_, _, _, rfl⟩
    have hres0 : rdAll x (x + ks.length) (ufold ks).1 (evenOf ks) = rdAll x (x + ks.length) U (mm < 6 ∧ rr = 0) := by
      have : ∀ z, ufold ks = z → rdAll x (x + ks.length) (ufold ks).1 (evenOf ks) = rdAll x (x + ks.length) z.1 (z.2.2 < 6 ∧ z.2.1 = 0) := by intro z hz; subst hz; rfl
      exact this _ hU
    rw [hres0] at hret
    rw [hU] at hrep hok
    have hlen := brep_len hrep
    obtain ⟨_, _, hm0, hm1, _⟩ := hok
    dsimp only at hm0 hm1
    have hwh : ((B.length : Nat) : Int).fdiv 16 * 16 = 16 * U.length := by
      rw [Int.fdiv_eq_ediv_of_nonneg _ (by decide)]; omega
    unfold LCg.FinE
    intro D h tk F1 N1 o1
    k_steps
    repeat' ((unfold Stop); (first | ((with_reducible show wpAny _ _ (getMethod (Value.bytes _ _) _ _) _ _ _); with_reducible refine bmethod_index ?_) | ((with_reducible show wpAny _ _ (call (Value.builtin "bytes.index") _) _ _ _); (k_dflt (refine' sign_index ?zb ?zv ?_)); (case zb => exact rfl); (case zv => assumption)) | ((with_reducible show wpAny _ _ (call (Value.builtin "format") _) _ _ _); (k_dflt (refine' fmt_sign ?z0 ?z1 ?_)); (case z0 => omega); (case z1 => omega); intro _ _) | ((with_reducible show wpAny _ _ (call (Value.builtin "str.join") _) _ _ _); (k_dflt (refine' join_bits ?zl ?zi ?zf ?zw ?_)); (case zl => exact News.isList (by k_asm) (by k_mem)); (case zi => assumption); (case zf => assumption); (case zw => assumption); intro _ _) | ((with_reducible show wpAny _ _ (call (Value.builtin "len") _) _ _ _); (k_dflt (refine len_tb (by omega) ?_))) | ((with_reducible show wpAny _ _ (call (Value.type "int") _) _ _ _); (k_dflt (first | (refine' int_piece ?hv ?h1 ?h2 ?h3 ?h4 ?_; (case hv => assumption); (case h1 => omega); (case h2 => omega); (case h3 => omega); (case h4 => omega)) | (refine' int_two ?h1 ?h2 ?h3 ?h4 ?h5 ?h6 ?h7 ?_; (case h1 => omega); (case h2 => omega); (case h3 => omega); (case h4 => omega); (case h5 => omega); (case h6 => omega); (case h7 => omega))))) | ((with_reducible show wpAny _ _ (compareOp PySem.CmpOp.Eq _ _) _ _ _); (k_dflt (refine' eq_range ?ze ?zq ?z2 ?z3 ?_)); (case ze => first | exact (show _ = tb [true, true, false, true, true, false] from by decide) | exact (show _ = tb [true, true, false, true, true] from by decide)); (case zq => assumption); (case z2 => omega); (case z3 => omega)) | ((with_reducible show wpAny _ _ (binaryOp PySem.Operator.Add _ _) _ _ _); (k_dflt (refine add_two (by omega) ?_)); intro _ _) | ((with_reducible show wpAny _ _ (compareOp PySem.CmpOp.In _ _) _ _ _); (k_dflt (refine' has_one ?zo ?z2 ?_)); (case zo => decide); (case z2 => omega)) | ((with_reducible show wpAny _ _ (subscriptTail _ _ _ _) _ _ _); (with_reducible rename Fr _ _ _ _ => F'); (with_reducible rename News _ _ _ _ => N'); k_dflt (first | refine sub_ss (s := ⟨_, _, _, _, _⟩) (by omega) F' N' ?_ | refine sub_sn (s := ⟨_, _, _, _, _⟩) (by omega) F' N' ?_); intro _ _ _ F' N')); (try k_steps))
    rename_i t1 _ _ tk0 lc _ hl1 _ _ _ _ _ _ _ F' N'
    unfold Stop
    have hnlc : ∀ p ∈ news, p.1 ≠ lc := fun p hp => Nat.ne_of_lt (allLt_mem hl1.2 p hp)
    with_unfolding_all refine' while_ps (σ := LSt) (fun c => (lc, listOf c.1 c.2.1) :: news) (fun c => [(Str.ofString "signs", .bytes b tkb), (Str.ofString "start", .int x t), (Str.ofString "bits", .str (tb B) t1), (Str.ofString "whole", .int ((B.length : Int).fdiv 16 * 16) (tk0 + 1 + 1 + 1 + 1 + 1)), (Str.ofString "codes", .ref lc), (Str.ofString "at", .int c.2.2.1.1 c.2.2.1.2)]) (fun c => c.2.2.1.1 = 16 * c.2.2.2.1 ∧ c.2.2.2.1 ≤ U.length ∧ c.1.size ≤ c.2.2.2.1 ∧ IntsAre c.1.toList c.2.2.2.2 ∧ RdSame x U c.2.2.2.1 (.ok c.2.2.2.2)) (fun c => U.length - c.2.2.2.1) (#[], 0, (0, tk0 + 1 + 1 + 1 + 1 + 1 + 1), 0, []) F' N' ?kn ?kk ?kp ?turn ?hE
    case kn => intro p hp; simp only [List.mem_cons] at hp ⊢; rcases hp with h1 | h1 <;> simp [h1]
    case kk => kst_all
    case kp =>
      refine ⟨rfl, Nat.zero_le _, Nat.le_refl _, .nil, ?_⟩
      show rd x 0 U = (rd x 0 U).map ([] ++ ·)
      cases rd x 0 U <;> rfl
    case hE => with_unfolding_all passes_own
    case turn =>
      rintro ⟨cvs, nc, ⟨k, tc⟩, a9, acc⟩ u h tk ⟨hk9, hp1, hp2, hIA, hsame⟩ F' N'
      dsimp only at hk9 hp1 hp2 hIA hsame F' N' ⊢
      have hcz : cvs.size ≤ 100000 := by omega
      have e16 : (a9 : Int) * 16 = k := by omega
      by_cases hin : a9 < U.length
      · have hu := brep_val hrep hin (i := k) (j := k + 16) hk9 (by omega)
        have hub := brep_unit hrep hin
        have h6 : piece B k (k + 6) = [true, true, false, true, true, false] ↔ (55296 ≤ U.getD a9 0 ∧ U.getD a9 0 ≤ 56319) := brep_six hrep hin (i := k) (j := k + 6) hk9 (by omega)
        have h5 : piece B k (k + 5) = [true, true, false, true, true] ↔ (55296 ≤ U.getD a9 0 ∧ U.getD a9 0 ≤ 57343) := (brep_five hrep hin (i := k) (j := k + 5) hk9 (by omega)).trans (by unfold high low; omega)
        have hu2 : a9 + 1 < U.length → (bval (piece B (k + 16) (k + 32)) : Int) = U.getD (a9 + 1) 0 := fun hin2 => brep_val hrep hin2 (i := k + 16) (j := k + 32) (by omega) (by omega)
        k_steps
        repeat' ((unfold Stop); (first | ((with_reducible show wpAny _ _ (getMethod (Value.bytes _ _) _ _) _ _ _); with_reducible refine bmethod_index ?_) | ((with_reducible show wpAny _ _ (call (Value.builtin "bytes.index") _) _ _ _); (k_dflt (refine' sign_index ?zb ?zv ?_)); (case zb => exact rfl); (case zv => assumption)) | ((with_reducible show wpAny _ _ (call (Value.builtin "format") _) _ _ _); (k_dflt (refine' fmt_sign ?z0 ?z1 ?_)); (case z0 => omega); (case z1 => omega); intro _ _) | ((with_reducible show wpAny _ _ (call (Value.builtin "str.join") _) _ _ _); (k_dflt (refine' join_bits ?zl ?zi ?zf ?zw ?_)); (case zl => exact News.isList (by k_asm) (by k_mem)); (case zi => assumption); (case zf => assumption); (case zw => assumption); intro _ _) | ((with_reducible show wpAny _ _ (call (Value.builtin "len") _) _ _ _); (k_dflt (refine len_tb (by omega) ?_))) | ((with_reducible show wpAny _ _ (call (Value.type "int") _) _ _ _); (k_dflt (first | (refine' int_piece ?hv ?h1 ?h2 ?h3 ?h4 ?_; (case hv => assumption); (case h1 => omega); (case h2 => omega); (case h3 => omega); (case h4 => omega)) | (refine' int_two ?h1 ?h2 ?h3 ?h4 ?h5 ?h6 ?h7 ?_; (case h1 => omega); (case h2 => omega); (case h3 => omega); (case h4 => omega); (case h5 => omega); (case h6 => omega); (case h7 => omega))))) | ((with_reducible show wpAny _ _ (compareOp PySem.CmpOp.Eq _ _) _ _ _); (k_dflt (refine' eq_range ?ze ?zq ?z2 ?z3 ?_)); (case ze => first | exact (show _ = tb [true, true, false, true, true, false] from by decide) | exact (show _ = tb [true, true, false, true, true] from by decide)); (case zq => assumption); (case z2 => omega); (case z3 => omega)) | ((with_reducible show wpAny _ _ (binaryOp PySem.Operator.Add _ _) _ _ _); (k_dflt (refine add_two (by omega) ?_)); intro _ _) | ((with_reducible show wpAny _ _ (compareOp PySem.CmpOp.In _ _) _ _ _); (k_dflt (refine' has_one ?zo ?z2 ?_)); (case zo => decide); (case z2 => omega)) | ((with_reducible show wpAny _ _ (subscriptTail _ _ _ _) _ _ _); (with_reducible rename Fr _ _ _ _ => F'); (with_reducible rename News _ _ _ _ => N'); k_dflt (first | refine sub_ss (s := ⟨_, _, _, _, _⟩) (by omega) F' N' ?_ | refine sub_sn (s := ⟨_, _, _, _, _⟩) (by omega) F' N' ?_); intro _ _ _ F' N')); (try k_steps))
        unfold Stop
        (with_reducible rename Fr _ _ _ _ => F9); with_unfolding_all refine cut_psF (σ := Tok × Int × Tok) F9 (fun _ => (lc, listOf cvs nc) :: news) (fun c => [(Str.ofString "signs", .bytes b tkb), (Str.ofString "start", .int x t), (Str.ofString "bits", .str (tb B) t1), (Str.ofString "whole", .int ((B.length : Int).fdiv 16 * 16) (tk0 + 1 + 1 + 1 + 1 + 1)), (Str.ofString "codes", .ref lc), (Str.ofString "at", .int k tc), (Str.ofString "unit", .int (U.getD a9 0) c.1), (Str.ofString "low", .int c.2.1 c.2.2)]) (fun c => c.2.1 = if a9 + 1 < U.length then U.getD (a9 + 1) 0 else 0) ?ilow ?rlow
        case ilow =>
          k_steps
          repeat' ((unfold Stop); (first | ((with_reducible show wpAny _ _ (getMethod (Value.bytes _ _) _ _) _ _ _); with_reducible refine bmethod_index ?_) | ((with_reducible show wpAny _ _ (call (Value.builtin "bytes.index") _) _ _ _); (k_dflt (refine' sign_index ?zb ?zv ?_)); (case zb => exact rfl); (case zv => assumption)) | ((with_reducible show wpAny _ _ (call (Value.builtin "format") _) _ _ _); (k_dflt (refine' fmt_sign ?z0 ?z1 ?_)); (case z0 => omega); (case z1 => omega); intro _ _) | ((with_reducible show wpAny _ _ (call (Value.builtin "str.join") _) _ _ _); (k_dflt (refine' join_bits ?zl ?zi ?zf ?zw ?_)); (case zl => exact News.isList (by k_asm) (by k_mem)); (case zi => assumption); (case zf => assumption); (case zw => assumption); intro _ _) | ((with_reducible show wpAny _ _ (call (Value.builtin "len") _) _ _ _); (k_dflt (refine len_tb (by omega) ?_))) | ((with_reducible show wpAny _ _ (call (Value.type "int") _) _ _ _); (k_dflt (first | (refine' int_piece ?hv ?h1 ?h2 ?h3 ?h4 ?_; (case hv => (first | assumption | exact hu2 (by omega))); (case h1 => omega); (case h2 => omega); (case h3 => omega); (case h4 => omega)) | (refine' int_two ?h1 ?h2 ?h3 ?h4 ?h5 ?h6 ?h7 ?_; (case h1 => omega); (case h2 => omega); (case h3 => omega); (case h4 => omega); (case h5 => omega); (case h6 => omega); (case h7 => omega))))) | ((with_reducible show wpAny _ _ (compareOp PySem.CmpOp.Eq _ _) _ _ _); (k_dflt (refine' eq_range ?ze ?zq ?z2 ?z3 ?_)); (case ze => first | exact (show _ = tb [true, true, false, true, true, false] from by decide) | exact (show _ = tb [true, true, false, true, true] from by decide)); (case zq => assumption); (case z2 => omega); (case z3 => omega)) | ((with_reducible show wpAny _ _ (binaryOp PySem.Operator.Add _ _) _ _ _); (k_dflt (refine add_two (by omega) ?_)); intro _ _) | ((with_reducible show wpAny _ _ (compareOp PySem.CmpOp.In _ _) _ _ _); (k_dflt (refine' has_one ?zo ?z2 ?_)); (case zo => decide); (case z2 => omega)) | ((with_reducible show wpAny _ _ (subscriptTail _ _ _ _) _ _ _); (with_reducible rename Fr _ _ _ _ => F'); (with_reducible rename News _ _ _ _ => N'); k_dflt (first | refine sub_ss (s := ⟨_, _, _, _, _⟩) (by omega) F' N' ?_ | refine sub_sn (s := ⟨_, _, _, _, _⟩) (by omega) F' N' ?_); intro _ _ _ F' N')); (try k_steps))
          · exact mid_ (_, _, _) (by assumption) (by assumption) (by kst_in) (by kst_all) (by dsimp only; rw [if_pos (by omega)])
          · exact mid_ (_, _, _) (by assumption) (by assumption) (by kst_in) (by kst_all) (by dsimp only; rw [if_neg (by omega)])
        case rlow =>
          rintro ⟨tku, lv, tkl⟩ u h tk hlv F' N'
          dsimp only at hlv F' N' ⊢
          clear hu2
          k_steps
          unfold Stop
          refine' cut_test ((55296 ≤ U.getD a9 0 ∧ U.getD a9 0 ≤ 56319) ∧ 56320 ≤ lv ∧ lv ≤ 57343) (by k_asm) (by k_asm) ?t1 ?y1 ?n1
          case t1 =>
            refine isTrue_and ?_
            k_steps
            repeat' ((unfold Stop); (first | ((with_reducible show wpAny _ _ (isTrue _ _ _) _ _ _); first | refine isTrue_and ?_ | refine isTrue_chain ?_) | ((with_reducible show wpAny _ _ (getMethod (Value.bytes _ _) _ _) _ _ _); with_reducible refine bmethod_index ?_) | ((with_reducible show wpAny _ _ (call (Value.builtin "bytes.index") _) _ _ _); (k_dflt (refine' sign_index ?zb ?zv ?_)); (case zb => exact rfl); (case zv => assumption)) | ((with_reducible show wpAny _ _ (call (Value.builtin "format") _) _ _ _); (k_dflt (refine' fmt_sign ?z0 ?z1 ?_)); (case z0 => omega); (case z1 => omega); intro _ _) | ((with_reducible show wpAny _ _ (call (Value.builtin "str.join") _) _ _ _); (k_dflt (refine' join_bits ?zl ?zi ?zf ?zw ?_)); (case zl => exact News.isList (by k_asm) (by k_mem)); (case zi => assumption); (case zf => assumption); (case zw => assumption); intro _ _) | ((with_reducible show wpAny _ _ (call (Value.builtin "len") _) _ _ _); (k_dflt (refine len_tb (by omega) ?_))) | ((with_reducible show wpAny _ _ (call (Value.type "int") _) _ _ _); (k_dflt (first | (refine' int_piece ?hv ?h1 ?h2 ?h3 ?h4 ?_; (case hv => assumption); (case h1 => omega); (case h2 => omega); (case h3 => omega); (case h4 => omega)) | (refine' int_two ?h1 ?h2 ?h3 ?h4 ?h5 ?h6 ?h7 ?_; (case h1 => omega); (case h2 => omega); (case h3 => omega); (case h4 => omega); (case h5 => omega); (case h6 => omega); (case h7 => omega))))) | ((with_reducible show wpAny _ _ (compareOp PySem.CmpOp.Eq _ _) _ _ _); (k_dflt (refine' eq_range ?ze ?zq ?z2 ?z3 ?_)); (case ze => first | exact (show _ = tb [true, true, false, true, true, false] from by decide) | exact (show _ = tb [true, true, false, true, true] from by decide)); (case zq => assumption); (case z2 => omega); (case z3 => omega)) | ((with_reducible show wpAny _ _ (binaryOp PySem.Operator.Add _ _) _ _ _); (k_dflt (refine add_two (by omega) ?_)); intro _ _) | ((with_reducible show wpAny _ _ (compareOp PySem.CmpOp.In _ _) _ _ _); (k_dflt (refine' has_one ?zo ?z2 ?_)); (case zo => decide); (case z2 => omega)) | ((with_reducible show wpAny _ _ (subscriptTail _ _ _ _) _ _ _); (with_reducible rename Fr _ _ _ _ => F'); (with_reducible rename News _ _ _ _ => N'); k_dflt (first | refine sub_ss (s := ⟨_, _, _, _, _⟩) (by omega) F' N' ?_ | refine sub_sn (s := ⟨_, _, _, _, _⟩) (by omega) F' N' ?_); intro _ _ _ F' N')); (try k_steps))
            all_goals first | exact tested_ (by k_asm) (by k_asm) (yes_iff (by omega)) | exact tested_ (by k_asm) (by k_asm) (no_iff (by omega)) | exact tested_ (by k_asm) (by k_asm) (dec_iff (by omega))
          case y1 =>
            intro _ _ _ _ hP
            have hin2 : a9 + 1 < U.length := by
              by_cases q : a9 + 1 < U.length
              · exact q
              · rw [if_neg q] at hlv; omega
            rw [if_pos hin2] at hlv
            rw [hlv] at hP
            clear hlv
            k_steps
            repeat' ((unfold Stop); (first | ((with_reducible show wpAny _ _ (getMethod (Value.bytes _ _) _ _) _ _ _); with_reducible refine bmethod_index ?_) | ((with_reducible show wpAny _ _ (call (Value.builtin "bytes.index") _) _ _ _); (k_dflt (refine' sign_index ?zb ?zv ?_)); (case zb => exact rfl); (case zv => assumption)) | ((with_reducible show wpAny _ _ (call (Value.builtin "format") _) _ _ _); (k_dflt (refine' fmt_sign ?z0 ?z1 ?_)); (case z0 => omega); (case z1 => omega); intro _ _) | ((with_reducible show wpAny _ _ (call (Value.builtin "str.join") _) _ _ _); (k_dflt (refine' join_bits ?zl ?zi ?zf ?zw ?_)); (case zl => exact News.isList (by k_asm) (by k_mem)); (case zi => assumption); (case zf => assumption); (case zw => assumption); intro _ _) | ((with_reducible show wpAny _ _ (call (Value.builtin "len") _) _ _ _); (k_dflt (refine len_tb (by omega) ?_))) | ((with_reducible show wpAny _ _ (call (Value.type "int") _) _ _ _); (k_dflt (first | (refine' int_piece ?hv ?h1 ?h2 ?h3 ?h4 ?_; (case hv => assumption); (case h1 => omega); (case h2 => omega); (case h3 => omega); (case h4 => omega)) | (refine' int_two ?h1 ?h2 ?h3 ?h4 ?h5 ?h6 ?h7 ?_; (case h1 => omega); (case h2 => omega); (case h3 => omega); (case h4 => omega); (case h5 => omega); (case h6 => omega); (case h7 => omega))))) | ((with_reducible show wpAny _ _ (compareOp PySem.CmpOp.Eq _ _) _ _ _); (k_dflt (refine' eq_range ?ze ?zq ?z2 ?z3 ?_)); (case ze => first | exact (show _ = tb [true, true, false, true, true, false] from by decide) | exact (show _ = tb [true, true, false, true, true] from by decide)); (case zq => assumption); (case z2 => omega); (case z3 => omega)) | ((with_reducible show wpAny _ _ (binaryOp PySem.Operator.Add _ _) _ _ _); (k_dflt (refine add_two (by omega) ?_)); intro _ _) | ((with_reducible show wpAny _ _ (compareOp PySem.CmpOp.In _ _) _ _ _); (k_dflt (refine' has_one ?zo ?z2 ?_)); (case zo => decide); (case z2 => omega)) | ((with_reducible show wpAny _ _ (subscriptTail _ _ _ _) _ _ _); (with_reducible rename Fr _ _ _ _ => F'); (with_reducible rename News _ _ _ _ => N'); k_dflt (first | refine sub_ss (s := ⟨_, _, _, _, _⟩) (by omega) F' N' ?_ | refine sub_sn (s := ⟨_, _, _, _, _⟩) (by omega) F' N' ?_); intro _ _ _ F' N')); (try k_steps))
            have e := rd_pair (st := x) hin2 hP.1 hP.2
            have ev := brep_pair hrep hin2 hP.1 hP.2 (i := k + 6) (j := k + 16) (k := k + 22) (l := k + 32) (by omega) (by omega) (by omega) (by omega)
            refine' loop_end ⟨?a1, ?a2, ⟨?a3, ?a4⟩, a9 + 2, acc ++ [65536 + (U.getD a9 0 - 55296) * 1024 + U.getD (a9 + 1) 0 - 56320]⟩ (by assumption) (by assumption) ?e1 ?e2 ?e3 ?e4
            case e1 => exact mem_zero
            case e2 => kst_all
            case e3 =>
              refine ⟨by dsimp only; omega, by dsimp only; omega, ?_, ?_, same_code (acc := .ok acc) hsame e⟩
              · show (cvs.push _).size ≤ a9 + 2; rw [Array.size_push]; omega
              · rw [← ev]; exact ints_pushA hIA _ _
            case e4 => dsimp only; omega
          case n1 =>
            intro _ _ _ _ hP
            have e := rd_one (st := x) hin (fun q => hP ⟨q.1, by rw [hlv, if_pos q.2.1]; exact q.2.2⟩)
            clear hlv hP
            k_steps
            repeat' ((unfold Stop); (first | ((with_reducible show wpAny _ _ (getMethod (Value.bytes _ _) _ _) _ _ _); with_reducible refine bmethod_index ?_) | ((with_reducible show wpAny _ _ (call (Value.builtin "bytes.index") _) _ _ _); (k_dflt (refine' sign_index ?zb ?zv ?_)); (case zb => exact rfl); (case zv => assumption)) | ((with_reducible show wpAny _ _ (call (Value.builtin "format") _) _ _ _); (k_dflt (refine' fmt_sign ?z0 ?z1 ?_)); (case z0 => omega); (case z1 => omega); intro _ _) | ((with_reducible show wpAny _ _ (call (Value.builtin "str.join") _) _ _ _); (k_dflt (refine' join_bits ?zl ?zi ?zf ?zw ?_)); (case zl => exact News.isList (by k_asm) (by k_mem)); (case zi => assumption); (case zf => assumption); (case zw => assumption); intro _ _) | ((with_reducible show wpAny _ _ (call (Value.builtin "len") _) _ _ _); (k_dflt (refine len_tb (by omega) ?_))) | ((with_reducible show wpAny _ _ (call (Value.type "int") _) _ _ _); (k_dflt (first | (refine' int_piece ?hv ?h1 ?h2 ?h3 ?h4 ?_; (case hv => assumption); (case h1 => omega); (case h2 => omega); (case h3 => omega); (case h4 => omega)) | (refine' int_two ?h1 ?h2 ?h3 ?h4 ?h5 ?h6 ?h7 ?_; (case h1 => omega); (case h2 => omega); (case h3 => omega); (case h4 => omega); (case h5 => omega); (case h6 => omega); (case h7 => omega))))) | ((with_reducible show wpAny _ _ (compareOp PySem.CmpOp.Eq _ _) _ _ _); (k_dflt (refine' eq_range ?ze ?zq ?z2 ?z3 ?_)); (case ze => first | exact (show _ = tb [true, true, false, true, true, false] from by decide) | exact (show _ = tb [true, true, false, true, true] from by decide)); (case zq => assumption); (case z2 => omega); (case z3 => omega)) | ((with_reducible show wpAny _ _ (binaryOp PySem.Operator.Add _ _) _ _ _); (k_dflt (refine add_two (by omega) ?_)); intro _ _) | ((with_reducible show wpAny _ _ (compareOp PySem.CmpOp.In _ _) _ _ _); (k_dflt (refine' has_one ?zo ?z2 ?_)); (case zo => decide); (case z2 => omega)) | ((with_reducible show wpAny _ _ (subscriptTail _ _ _ _) _ _ _); (with_reducible rename Fr _ _ _ _ => F'); (with_reducible rename News _ _ _ _ => N'); k_dflt (first | refine sub_ss (s := ⟨_, _, _, _, _⟩) (by omega) F' N' ?_ | refine sub_sn (s := ⟨_, _, _, _, _⟩) (by omega) F' N' ?_); intro _ _ _ F' N')); (try k_steps))
            · rename (_ ∧ _ ≤ (57343 : Int)) => g2
              rename_i l9 kF kN Tc kX
              rw [one_lone (by unfold high low; omega), e16] at e
              exact lu_fault hret kF kN (fun p hp => .tail _ hp) l9.1 (by rename (lc < _ ∧ AllLt _ news) => q; exact q.2) (rdAll_err hsame e)
            · unfold Stop
              rename (¬ (_ ∧ _ ≤ (57343 : Int))) => g2
              refine' cut_test (31 < U.getD a9 0 ∧ U.getD a9 0 < 127) (by k_asm) (by k_asm) ?t2 ?y2 ?n2
              case t2 =>
                refine isTrue_chain ?_
                k_steps
                all_goals first | exact tested_ (by k_asm) (by k_asm) (yes_iff (by omega)) | exact tested_ (by k_asm) (by k_asm) (no_iff (by omega)) | exact tested_ (by k_asm) (by k_asm) (dec_iff (by omega))
              case y2 =>
                intro _ _ _ _ hP
                rw [one_need (by omega), e16] at e
                k_steps
                rename_i l9 kF kN Tc kX
                exact lu_fault hret kF kN (fun p hp => .tail _ hp) l9.1 (by rename (lc < _ ∧ AllLt _ news) => q; exact q.2) (rdAll_err hsame e)
              case n2 =>
                intro _ _ _ _ hP
                rw [one_plain (by unfold high low; omega) (by omega)] at e
                k_steps
                refine' loop_end ⟨?a1x1, ?a2x1, ⟨?a3x1, ?a4x1⟩, a9 + 1, acc ++ [U.getD a9 0]⟩ (by assumption) (by assumption) ?e1x1 ?e2x1 ?e3x1 ?e4x1
                case e1x1 => exact mem_zero
                case e2x1 => kst_all
                case e3x1 =>
                  refine ⟨by dsimp only; omega, by dsimp only; omega, ?_, ints_pushA hIA _ _, same_code (acc := .ok acc) hsame e⟩
                  show (cvs.push _).size ≤ a9 + 1; rw [Array.size_push]; omega
                case e4x1 => dsimp only; omega
      · have ha9 : a9 = U.length := by omega
        obtain ⟨hlt1, hlt2⟩ := brep_left hrep
        have hwn : ((B.length : Int).fdiv 16 * 16).toNat = 16 * U.length := by omega
        k_steps
        unfold Stop
        refine' cut_test (¬ (mm < 6 ∧ rr = 0)) (by k_asm) (by k_asm) ?t3 ?y3 ?n3
        case t3 =>
          refine isTrue_or ?_
          k_steps
          repeat' ((unfold Stop); (first | ((with_reducible show wpAny _ _ (getMethod (Value.bytes _ _) _ _) _ _ _); with_reducible refine bmethod_index ?_) | ((with_reducible show wpAny _ _ (call (Value.builtin "bytes.index") _) _ _ _); (k_dflt (refine' sign_index ?zb ?zv ?_)); (case zb => exact rfl); (case zv => assumption)) | ((with_reducible show wpAny _ _ (call (Value.builtin "format") _) _ _ _); (k_dflt (refine' fmt_sign ?z0 ?z1 ?_)); (case z0 => omega); (case z1 => omega); intro _ _) | ((with_reducible show wpAny _ _ (call (Value.builtin "str.join") _) _ _ _); (k_dflt (refine' join_bits ?zl ?zi ?zf ?zw ?_)); (case zl => exact News.isList (by k_asm) (by k_mem)); (case zi => assumption); (case zf => assumption); (case zw => assumption); intro _ _) | ((with_reducible show wpAny _ _ (call (Value.builtin "len") _) _ _ _); (k_dflt (refine len_tb (by omega) ?_))) | ((with_reducible show wpAny _ _ (call (Value.type "int") _) _ _ _); (k_dflt (first | (refine' int_piece ?hv ?h1 ?h2 ?h3 ?h4 ?_; (case hv => assumption); (case h1 => omega); (case h2 => omega); (case h3 => omega); (case h4 => omega)) | (refine' int_two ?h1 ?h2 ?h3 ?h4 ?h5 ?h6 ?h7 ?_; (case h1 => omega); (case h2 => omega); (case h3 => omega); (case h4 => omega); (case h5 => omega); (case h6 => omega); (case h7 => omega))))) | ((with_reducible show wpAny _ _ (compareOp PySem.CmpOp.Eq _ _) _ _ _); (k_dflt (refine' eq_range ?ze ?zq ?z2 ?z3 ?_)); (case ze => first | exact (show _ = tb [true, true, false, true, true, false] from by decide) | exact (show _ = tb [true, true, false, true, true] from by decide)); (case zq => assumption); (case z2 => omega); (case z3 => omega)) | ((with_reducible show wpAny _ _ (binaryOp PySem.Operator.Add _ _) _ _ _); (k_dflt (refine add_two (by omega) ?_)); intro _ _) | ((with_reducible show wpAny _ _ (compareOp PySem.CmpOp.In _ _) _ _ _); (k_dflt (refine' has_one ?zo ?z2 ?_)); (case zo => decide); (case z2 => omega)) | ((with_reducible show wpAny _ _ (subscriptTail _ _ _ _) _ _ _); (with_reducible rename Fr _ _ _ _ => F'); (with_reducible rename News _ _ _ _ => N'); k_dflt (first | refine sub_ss (s := ⟨_, _, _, _, _⟩) (by omega) F' N' ?_ | refine sub_sn (s := ⟨_, _, _, _, _⟩) (by omega) F' N' ?_); intro _ _ _ F' N')); (try k_steps))
          all_goals first | exact tested_ (by k_asm) (by k_asm) (yes_iff (by omega)) | exact tested_ (by k_asm) (by k_asm) (no_iff (by omega)) | exact tested_ (by k_asm) (by k_asm) (yes_iff (fun q => by rename (true ∈ List.drop _ _) => g1; rw [hwn, hlt1] at g1; exact g1 q.2)) | exact tested_ (by k_asm) (by k_asm) (no_iff (fun q => by rename (¬ true ∈ List.drop _ _) => g1; rw [hwn, hlt1] at g1; omega))
        case y3 =>
          intro _ _ _ _ hP
          k_steps
          rename_i l9 kF kN Tc kX
          refine lu_fault hret kF kN (fun p hp => .tail _ hp) l9.1 (by rename (lc < _ ∧ AllLt _ news) => q; exact q.2) ?_
          exact same_left (acc := .ok acc) hsame (by omega) _ hP
        case n3 =>
          intro _ _ _ _ hP
          k_steps
          rename_i l9 kF kN Tc kX
          have hres : rdAll x (x + ks.length) U (mm < 6 ∧ rr = 0) = .ok acc := same_done (acc := .ok acc) hsame (by omega) _ (by omega)
          rw [hres] at hret
          refine hret _ [(_, tupOf [.ref lc, .none]), (lc, listOf cvs nc)] _ _ kF kN (fun q hq p hp => ?_) ⟨_, lc, cvs, nc, rfl, rfl, l9.1, hIA, hcz⟩
          rcases List.mem_cons.mp hp with rfl | hp
          · exact allLt_mem l9.2 q hq
          · rw [List.mem_singleton.mp hp]; exact allLt_mem hl1.2 q hq
end Mine
end PartD1

section PartD2a
example : True := by
  w_top off
  trivial
open PySem PySem.W PyProof.Rows PySem.Calls Builtin
set_option Elab.async false
set_option maxRecDepth 100000
namespace Mine
section
variable {prog : Program} {w : World} {A : Around} {E Q : Value → Shared → Prop} {s : Shared} {b : Array UInt8} {t u : Tok} {k : Int}
set_option maxHeartbeats 4000000 in
theorem gives_bcontains (h0 : 0 ≤ k) (h1 : k < 256) : Gives (Builtin.«bytes.__contains__» ⟨[.bytes b t, .int k u], []⟩) (.val (.bool (b.contains k.toNat.toUInt8))) :=
  .of_wp fun M A E s Q h => by
    obtain ⟨hp, g, d, tk, os⟩ := s
    have f2 := int_index
    have f3 : typeOf (.int k u) = pure (.type "int") := rfl
    have f4 : Bytes.buffer? "bytes.__contains__" (.bytes b t) = pure (some b) := KBy.buffer_eq
    unfold Builtin.«bytes.__contains__» Builtin.Bytes.containsIn
    repeat (any_goals (first | assumption | (refine wpAny_bind ?_; (rw [show Bytes.buffer? _ (Value.bytes b t) = _ from f4]); refine wpAny_pure ?_) | wp_step))
    all_goals exact ⟨_, rfl, h⟩
theorem in_signs {ks : List Int} {b2 : Array UInt8} {i : Nat} (hb : b = lawSigns) (hk : KBw.bInts b2 = ks) (h : Q (.bool (isSign (ks.getD i 0))) s) : wpAny (model prog w) A (compareOp .In (.int (ks.getD i 0) u) (.bytes b t)) Q E s := by
  subst hb hk
  obtain ⟨h0, h1⟩ := KBw.getD_in (ks := KBw.bInts b2) (j := i) fun k hk => KBw.ints_in hk
  generalize (KBw.bInts b2).getD i 0 = k at h0 h1 h
  refine in_gives (r := lawSigns.contains k.toNat.toUInt8) (typeIs_bytes s _ t) FB.slot_bytes_contains FB.entry_bytes_contains (FB.args_bytes_contains_2 _ _) (gives_bcontains h0 h1) ?_
  have hf := sign_has ⟨k.toNat, by omega⟩
  dsimp only at hf
  rw [Int.toNat_of_nonneg h0] at hf
  rw [hf]; exact h
theorem list_toNat {l : List UInt8} {c : UInt8} : ∀ {ks : List Int}, l.map (fun c => (c.toNat : Int)) = ks → (l = [c] ↔ ks = [(c.toNat : Int)]) := by
  intro ks e
  subst e
  constructor
  · rintro rfl; rfl
  · intro h
    obtain ⟨d, rfl⟩ : ∃ d, l = [d] := by
      have e : l.length = 1 := by simpa using congrArg List.length h
      match l, e with
      | [d], _ => exact ⟨d, rfl⟩
    have : (d.toNat : Int) = c.toNat := by simpa using h
    have : d.toNat = c.toNat := by omega
    rw [UInt8.toNat_inj.mp this]
theorem one_cut {ks : List Int} {x y v : Int} (h0 : 0 ≤ x) (hy : y = x + 1) : (ks.drop (clipAt ks.length x)).take (clipAt ks.length y - clipAt ks.length x) = [v] ↔ (x < ks.length ∧ ks.getD x.toNat 0 = v) := by
  subst hy
  by_cases hx : x < ks.length
  · rw [clip_nn h0 (by omega), clip_nn (by omega) (by omega)]
    have e : (x + 1).toNat - x.toNat = 1 := by omega
    have hl : x.toNat < ks.length := by omega
    rw [e, List.drop_eq_getElem_cons hl, List.getD_eq_getElem?_getD, List.getElem?_eq_getElem hl]
    rw [List.take_succ_cons, List.take_zero]
    simp [hx]
  · have hc : clipAt ks.length x = ks.length := by have := clipAt_cast ks.length x; omega
    rw [hc, List.drop_length]
    simp [hx]
theorem ne_one {ks ks2 : List Int} {x y v : Int} {l : List UInt8} {c : UInt8} (hk : KBw.bInts b = ks2) (h2 : ks2 = (ks.drop (clipAt ks.length x)).take (clipAt ks.length y - clipAt ks.length x)) (hl : l = [c]) (hv : v = (c.toNat : Int)) (h0 : 0 ≤ x) (hy : y = x + 1) (h : Q (.bool (!decide (x < ks.length ∧ ks.getD x.toNat 0 = v))) s) : wpAny (model prog w) A (compareOp .NotEq (.bytes b t) (.bytes l.toArray u)) Q E s := by
  subst hl hv
  refine ne_bytes ?_
  have e : (b.toList != [c].toArray.toList) = !decide (x < ks.length ∧ ks.getD x.toNat 0 = (c.toNat : Int)) := by
    have e1 : (b.toList = [c]) ↔ (x < ks.length ∧ ks.getD x.toNat 0 = (c.toNat : Int)) := (list_toNat (show b.toList.map _ = ks2 from hk)).trans (by rw [h2]; exact one_cut h0 hy)
    show (!(b.toList == [c])) = _
    congr 1
    rw [Bool.eq_iff_iff, beq_iff_eq, decide_eq_true_eq]
    exact e1
  rw [e]; exact h
end
end Mine
end PartD2a

section PartD2
example : True := by
  w_top off
  trivial
open PySem PySem.W PyProof.Rows
set_option Elab.async false
namespace Mine
local macro_rules | `(tactic| omega) => `(tactic| first | (with_reducible assumption) | lia | omega +splitDisjunctions)
set_option maxRecDepth 100000
set_option maxHeartbeats 2000000
theorem run_cut {ks : List Int} {x y : Int} (hx : 0 ≤ x) (hx2 : x ≤ ks.length) (hy : y = runEnd ks x.toNat) : (ks.drop (clipAt ks.length x)).take (clipAt ks.length y - clipAt ks.length x) = runOf ks x.toNat := by
  have hle := runEnd_le (ks := ks) (a := x.toNat) (by omega)
  rw [clip_nn hx (by omega), clip_nn (by omega) (by omega), ← cut_run hx, hy]
  rfl
def OpRet (res : Except (Int × Str) (List Int × Int)) (r : Value) (tl : List (Addr × Obj)) : Prop := match res with
  | .ok q => ∃ rt lc cvs nc tk, tl = [(rt, tupOf [.ref lc, .int q.2 tk, .none]), (lc, listOf cvs nc)] ∧ r = .ref rt ∧ lc < rt ∧ IntsAre cvs.toList q.1 ∧ cvs.size ≤ 100000
  | .error e => ∃ rt ft tk tk1 tk2, tl = [(rt, tupOf [.none, .int 0 tk, .ref ft]), (ft, tupOf [.int e.1 tk1, .str e.2 tk2])] ∧ r = .ref rt ∧ ft < rt
section
variable {w : World} {news : List (Addr × Obj)} {p : Program} {loose : List Str} {mean : ExcName → Option Value} {mg mb : Str → Option Value} {dp un : Nat} {gd : Option (List Code)} {cn : Str} {cs : Scope} {a : Addr} {ccd : Value} {cl : List (Str × Addr)}
    {outer : List Env} {A₀ : Around} {base h₀ : Heap} {L : Addr} {m : Str → Option Value} {s : Shared} {Q E : Value → Shared → Prop}
theorem use_lunits {b2 : Array UInt8} {ks ks2 : List Int} {tb : Tok} {x y : Int} {t : Tok} (B : Below A₀ base outer h₀) (F : Fr h₀ L s.heap m) (X : (hd.heap_1 w.params).In h₀) (N : News h₀ L s.heap news) (T : Top p loose mean mg mb h₀) (hk : cs.kind = .function)
    (hbi : KBw.bInts b2 = ks2) (h2 : ks2 = (ks.drop (clipAt ks.length x)).take (clipAt ks.length y - clipAt ks.length x)) (hbl : ks.length ≤ 10000) (hx : 0 ≤ x) (hx2 : x ≤ ks.length) (hy : y = runEnd ks x.toNat)
    (hd : dp + 3 < recursionLimit) (hu : un + 8 * 3 < cLine)
    (g1 : ∀ h' tk' rt lc cvs nc cs', Fr h₀ L h' m → News h₀ L h' ((rt, tupOf [.ref lc, .none]) :: (lc, listOf cvs nc) :: news) → (∀ p ∈ news, p.1 < lc) → lc < rt → runTells ks x.toNat = .ok cs' → IntsAre cvs.toList cs' → cvs.size ≤ 100000 → Q (.ref rt) { s with heap := h', toks := tk' })
    (g2 : ∀ h' tk' rt ft e g tk1 tk2, Fr h₀ L h' m → News h₀ L h' ((rt, tupOf [.none, .ref ft]) :: (ft, tupOf [.int e tk1, .str g tk2]) :: news) → (∀ p ∈ news, p.1 < ft) → ft < rt → runTells ks x.toNat = .error (e, g) → Q (.ref rt) { s with heap := h', toks := tk' }) :
    wpAny (model Challenge.rw_pq1296_01.row.prog w) (ktrTop dp un gd cn cs L a ccd cl outer) (call (.ref 142) [.bytes b2 tb, .int x t]) Q E s := by
  have h3 := h2.trans (run_cut hx hx2 hy)
  subst h3
  have hle := runEnd_le (ks := ks) (a := x.toNat) (by omega)
  have hrl := runOf_len (ks := ks) (a := x.toNat)
  refine runs_use B F X N T hk (runs_lunits w b2 (runOf ks x.toNat) tb x t news hbi (by omega) hx run_signs) hd hu fun r tl h' tk' F' N' hl hr => ?_
  have e : rdAll x (x + (runOf ks x.toNat).length) (ufold (runOf ks x.toNat)).1 (evenOf (runOf ks x.toNat)) = runTells ks x.toNat := by
    unfold runTells
    have e1 : ((x.toNat : Nat) : Int) = x := Int.toNat_of_nonneg hx
    have e2 : (runEnd ks x.toNat : Int) = x + (runOf ks x.toNat).length := by omega
    rw [e1, e2]
  rw [e] at hr
  cases e9 : runTells ks x.toNat with
  | ok cs' =>
    rw [e9] at hr
    obtain ⟨rt, lc, cvs, nc, rfl, rfl, q1, q2, q3⟩ := hr
    exact g1 h' tk' rt lc cvs nc cs' F' N' (fun p hp => hl p hp _ (.tail _ (.head _))) q1 e9 q2 q3
  | error q =>
    rw [e9] at hr
    obtain ⟨rt, ft, tk1, tk2, rfl, rfl, q1⟩ := hr
    exact g2 h' tk' rt ft q.1 q.2 tk1 tk2 F' N' (fun p hp => hl p hp _ (.tail _ (.head _))) q1 e9
theorem op_fault {res : Except (Int × Str) (List Int × Int)} {D ft : Addr} {tk tk1 tk2 : Tok} {e : Int} {g : Str} {rest : List (Addr × Obj)} {h' : Heap} {tk' : Nat} (hret : ∀ r tl h' tk', Fr h₀ L h' m → News h₀ L h' (tl ++ news) → (∀ q ∈ news, ∀ p ∈ tl, q.1 < p.1) → OpRet res r tl → Q r { s with heap := h', toks := tk' })
    (F : Fr h₀ L h' m) (N : News h₀ L h' ((D, tupOf [.none, .int 0 tk, .ref ft]) :: rest)) (hm : (ft, tupOf [.int e tk1, .str g tk2]) ∈ rest) (hs : ∀ p ∈ news, p ∈ rest) (h1 : ft < D) (h2 : ∀ p ∈ news, p.1 < ft) (hres : res = .error (e, g)) : Q (.ref D) { s with heap := h', toks := tk' } := by
  subst hres
  refine hret (.ref D) [(D, tupOf [.none, .int 0 tk, .ref ft]), (ft, tupOf [.int e tk1, .str g tk2])] h' tk' F (fun p hp => N p ?_) (fun q hq p hp => ?_) ⟨D, ft, tk, tk1, tk2, rfl, rfl, h1⟩
  · simp only [List.cons_append, List.nil_append, List.mem_cons] at hp ⊢
    rcases hp with h | h | h
    · exact .inl h
    · exact .inr (h ▸ hm)
    · exact .inr (hs p h)
  · rcases List.mem_cons.mp hp with rfl | hp
    · exact Nat.lt_trans (h2 q hq) h1
    · rw [List.mem_singleton.mp hp]; exact h2 q hq
theorem op_ok {res : Except (Int × Str) (List Int × Int)} {D lc : Addr} {tk : Tok} {pl : Int} {cs' : List Int} {cvs : Array Value} {nc : Nat} {rest : List (Addr × Obj)} {h' : Heap} {tk' : Nat} (hret : ∀ r tl h' tk', Fr h₀ L h' m → News h₀ L h' (tl ++ news) → (∀ q ∈ news, ∀ p ∈ tl, q.1 < p.1) → OpRet res r tl → Q r { s with heap := h', toks := tk' })
    (F : Fr h₀ L h' m) (N : News h₀ L h' ((D, tupOf [.ref lc, .int pl tk, .none]) :: rest)) (hm : (lc, listOf cvs nc) ∈ rest) (hs : ∀ p ∈ news, p ∈ rest) (h1 : lc < D) (h2 : ∀ p ∈ news, p.1 < lc) (hres : res = .ok (cs', pl)) (hI : IntsAre cvs.toList cs') (hz : cvs.size ≤ 100000) : Q (.ref D) { s with heap := h', toks := tk' } := by
  subst hres
  refine hret (.ref D) [(D, tupOf [.ref lc, .int pl tk, .none]), (lc, listOf cvs nc)] h' tk' F (fun p hp => N p ?_) (fun q hq p hp => ?_) ⟨D, lc, cvs, nc, tk, rfl, rfl, h1, hI, hz⟩
  · simp only [List.cons_append, List.nil_append, List.mem_cons] at hp ⊢
    rcases hp with h | h | h
    · exact .inl h
    · exact .inr (h ▸ hm)
    · exact .inr (hs p h)
  · rcases List.mem_cons.mp hp with rfl | hp
    · exact Nat.lt_trans (h2 q hq) h1
    · rw [List.mem_singleton.mp hp]; exact h2 q hq
end
local macro_rules | `(tactic| k_all) => `(tactic| with_unfolding_all assumption)
local macro_rules | `(tactic| walk_at "exec While") => `(tactic| (k_here; refine stop ?_))
local macro_rules | `(tactic| walk_at "exec While Compare") => `(tactic| (k_here; refine stop ?_))
local macro_rules | `(tactic| walk_at "LoopPost") => `(tactic| (dsimp only [LoopPost]))
local macro_rules | `(tactic| walk_at "compareOp In int bytes") => `(tactic| (k_here; refine stop ?_))
local macro_rules | `(tactic| walk_at "compareOp NotEq bytes bytes") => `(tactic| (k_here; refine stop ?_))
local macro_rules | `(tactic| walk_at "call ref") => `(tactic| (k_here; refine stop ?_))
theorem runs_opened (w : World) (b : Array UInt8) (ks : List Int) (tb : Tok) (x bh : Int) (t t2 : Tok) (news : List (Addr × Obj)) (hbi : KBw.bInts b = ks) (hbl : ks.length ≤ 10000) (hx : 0 ≤ x) (hx2 : x < ks.length) (hno : ¬ (x + 1 < ks.length ∧ ks.getD (x + 1).toNat 0 = 45)) :
    Runs w 149 [.bytes b tb, .int x t, .int bh t2] 5 news (OpRet (mailRun ks x (decide (x = bh)))) := by
  unfold Runs
  k_fill
  intro p loose mean mg mb dp un gd cn cs a ccd cl outer A₀ base h₀ L m s Q E B F X N T hk hd hu hret
  refine wpAny_call ?_
  k_dflt cell_enter
  k_steps
  · refine op_fault hret (by k_asm) (by k_asm) (.head _) (fun p hp => .tail _ hp) (And.left (by assumption)) (by assumption) (m_split (fun q => hno ⟨by omega, by rw [← q.1]; exact q.2.2⟩) (decide_eq_true (by assumption)))
  unfold Stop
  with_unfolding_all refine' while_ps (σ := Int × Tok) (fun _ => news) (fun c => [(Str.ofString "octets", .bytes b tb), (Str.ofString "at", .int x t), (Str.ofString "end", .int c.1 c.2)]) (fun c => 0 ≤ c.1 ∧ x + 1 ≤ c.1 ∧ runEnd ks c.1.toNat = runEnd ks (x + 1).toNat) (fun c => ks.length - c.1.toNat) (x + 1, _) (by assumption) (by assumption) ?kn ?kk ⟨by dsimp only; omega, Int.le_refl _, rfl⟩ ?turn ?hE
  case kn => exact fun _ h => h
  case kk => kst_all
  case hE => with_unfolding_all passes_own
  case turn =>
    rintro ⟨k, tc⟩ u h tk ⟨hp0, hp1, hp⟩ F' N'
    dsimp only at hp0 hp1 hp F' ⊢
    have hsp : decide (x = bh) = false := decide_eq_false (by assumption)
    by_cases hin : k < ks.length ∧ isSign (ks.getD k.toNat 0) = true
    · obtain ⟨hi1, hi2⟩ := hin
      k_steps
      repeat' ((unfold Stop); (first | ((k_dflt (refine' in_signs ?hb ?hv ?_)); (case hb => exact rfl); (case hv => assumption)) | ((k_dflt (refine' ne_one ?h1 ?h2 ?h3 ?h4 ?h5 ?h6 ?_)); (case h1 => assumption); (case h2 => exact rfl); (case h3 => exact rfl); (case h4 => exact rfl); (case h5 => omega); (case h6 => exact rfl)) | ((k_dflt (refine' use_lunits ?k1 ?k2 ?k3 ?k4 ?k5 ?kK ?ka1 ?ka2 ?ka3 ?ka4 ?ka5 ?ka6 ?kd ?ku (fun _ _ _ _ _ _ _ _ _ _ _ _ _ => ?_) (fun _ _ _ _ _ _ _ _ _ _ _ _ => ?_))); (case ka1 => assumption); (case ka2 => exact rfl); (case ka3 => omega); (case ka4 => omega); (case ka5 => omega); (case ka6 => assumption); (case k1 => k_asm); (case k2 => k_asm); (case k3 => k_asm); (case k4 => k_asm); (case k5 => k_asm); (case kK => first | exact rfl | assumption); (case kd => ktr_room); (case ku => ktr_units); (all_goals try k_whole); (all_goals try k_sweep))); (try k_steps))
      have e := runEnd_in (ks := ks) (i := k.toNat) (by omega)
      rw [if_pos hi2] at e
      have e2 : (k + 1).toNat = k.toNat + 1 := by omega
      exact loop_end (k + 1, _) (by assumption) (by assumption) (by kst_in) (by kst_all) ⟨by dsimp only; omega, by dsimp only; omega, by dsimp only; rw [e2, ← e, hp]⟩ (by dsimp only; omega)
    · have hend : k = (runEnd ks (x + 1).toNat : Int) := by
        rw [← hp]
        by_cases hl : k < ks.length
        · rw [runEnd_in (by omega), if_neg (fun q => hin ⟨hl, q⟩)]; omega
        · rw [runEnd_out (by omega)]; omega
      k_steps
      repeat' ((unfold Stop); (first | ((k_dflt (refine' in_signs ?hb ?hv ?_)); (case hb => exact rfl); (case hv => assumption)) | ((k_dflt (refine' ne_one ?h1 ?h2 ?h3 ?h4 ?h5 ?h6 ?_)); (case h1 => assumption); (case h2 => exact rfl); (case h3 => exact rfl); (case h4 => exact rfl); (case h5 => omega); (case h6 => exact rfl)) | ((k_dflt (refine' use_lunits ?k1 ?k2 ?k3 ?k4 ?k5 ?kK ?ka1 ?ka2 ?ka3 ?ka4 ?ka5 ?ka6 ?kd ?ku (fun _ _ _ _ _ _ _ _ _ _ _ _ _ => ?_) (fun _ _ _ _ _ _ _ _ _ _ _ _ => ?_))); (case ka1 => assumption); (case ka2 => exact rfl); (case ka3 => omega); (case ka4 => omega); (case ka5 => omega); (case ka6 => assumption); (case k1 => k_asm); (case k2 => k_asm); (case k3 => k_asm); (case k4 => k_asm); (case k5 => k_asm); (case kK => first | exact rfl | assumption); (case kd => ktr_room); (case ku => ktr_units); (all_goals try k_whole); (all_goals try k_sweep))); (try k_steps))
      all_goals first
        | exact absurd ⟨by assumption, by assumption⟩ hin
        | (refine' op_fault hret ?rF ?rN ?rm ?rs ?r1 ?r2 ?rx
           case rF => k_asm
           case rN => k_asm
           case rm => first | exact .head _ | exact .tail _ (.head _) | exact .tail _ (.tail _ (.head _))
           case rs => intro p hp; simp only [List.mem_cons]; simp only [hp, or_true]
           case r1 => first | assumption | exact And.left (by assumption) | exact And.left (And.right (by assumption)) | exact And.left (And.right (And.right (by assumption)))
           case r2 => first | assumption | (refine allLt_mem ?_; first | exact And.right (by assumption) | exact And.right (And.right (by assumption)) | exact And.right (And.right (And.right (by assumption))))
           case rx => first | exact m_empty (fun q => hno ⟨by omega, by rw [← q.1]; exact q.2.2⟩) hsp (by omega) | exact m_read hsp (by omega) (by assumption) | (rw [hend]; exact m_open hsp (by omega) (by assumption) (fun q => by rename ¬ (k < _ ∧ _) => g; rw [hend] at g; exact g q)) | (rw [hend]; exact m_open hsp (by omega) (by assumption) (fun q => by omega)))
        | (rename (k < _ ∧ _ = _) => g
           rw [hend] at g
           refine' op_ok hret ?rF ?rN ?rm ?rs ?r1 ?r2 ?rx ?rI ?rz
           case rF => k_asm
           case rN => k_asm
           case rm => first | exact .head _ | exact .tail _ (.head _) | exact .tail _ (.tail _ (.head _))
           case rs => intro p hp; simp only [List.mem_cons]; simp only [hp, or_true]
           case r1 => first | assumption | exact And.left (by assumption) | exact And.left (And.right (by assumption)) | exact And.left (And.right (And.right (by assumption)))
           case r2 => first | assumption | (refine allLt_mem ?_; first | exact And.right (by assumption) | exact And.right (And.right (by assumption)) | exact And.right (And.right (And.right (by assumption))))
           case rI => assumption
           case rz => assumption
           case rx => rw [hend]; exact m_ok hsp (by omega) (by assumption) g.1 g.2)
end Mine
end PartD2

section PartD3
example : True := by
  w_top off
  trivial
open PySem PySem.W PyProof.Rows
set_option Elab.async false
namespace Mine
local macro_rules | `(tactic| omega) => `(tactic| first | (with_reducible assumption) | lia | omega +splitDisjunctions)
set_option maxRecDepth 100000
set_option maxHeartbeats 2000000
theorem mail_far {ks : List Int} {x : Int} {sp : Bool} {cs : List Int} {pl : Int} (hx : 0 ≤ x) (hx2 : x < ks.length) (hno : ¬ (x + 1 < ks.length ∧ ks.getD (x + 1).toNat 0 = 45)) (h : mailRun ks x sp = .ok (cs, pl)) : x + 2 < pl := by
  have hl := runEnd_le (ks := ks) (a := (x + 1).toNat) (by omega)
  unfold mailRun at h
  split at h
  · rename_i q
    exact absurd ⟨by omega, by rw [← q.1]; exact q.2.2⟩ hno
  split at h
  · cases h
  split at h
  · cases h
  split at h
  · cases h
  · split at h
    · cases h; omega
    · cases h
theorem list_toNat2 {l : List UInt8} {c d : UInt8} : ∀ {ks : List Int}, l.map (fun c => (c.toNat : Int)) = ks → (l = [c, d] ↔ ks = [(c.toNat : Int), (d.toNat : Int)]) := by
  intro ks e
  subst e
  constructor
  · rintro rfl; rfl
  · intro h
    obtain ⟨a, b, rfl⟩ : ∃ a b, l = [a, b] := by
      have e : l.length = 2 := by simpa using congrArg List.length h
      match l, e with
      | [a, b], _ => exact ⟨a, b, rfl⟩
    simp only [List.map_cons, List.map_nil, List.cons.injEq, and_true] at h
    have h1 : a.toNat = c.toNat := by omega
    have h2 : b.toNat = d.toNat := by omega
    rw [UInt8.toNat_inj.mp h1, UInt8.toNat_inj.mp h2]
theorem two_cut {ks : List Int} {x y u v : Int} (h0 : 0 ≤ x) (hy : y = x + 2) : (ks.drop (clipAt ks.length x)).take (clipAt ks.length y - clipAt ks.length x) = [u, v] ↔ (x + 1 < ks.length ∧ ks.getD x.toNat 0 = u ∧ ks.getD (x + 1).toNat 0 = v) := by
  subst hy
  by_cases hx : x + 1 < ks.length
  · rw [clip_nn h0 (by omega), clip_nn (by omega) (by omega)]
    have e : (x + 2).toNat - x.toNat = 2 := by omega
    have e1 : (x + 1).toNat = x.toNat + 1 := by omega
    have hl : x.toNat < ks.length := by omega
    have hl2 : x.toNat + 1 < ks.length := by omega
    rw [e, e1, List.drop_eq_getElem_cons hl, List.drop_eq_getElem_cons hl2, List.getD_eq_getElem?_getD, List.getElem?_eq_getElem hl, List.getD_eq_getElem?_getD, List.getElem?_eq_getElem hl2]
    rw [List.take_succ_cons, List.take_succ_cons, List.take_zero]
    simp [hx]
  · constructor
    · intro q
      have := congrArg List.length q
      rw [List.length_take, List.length_drop] at this
      have c1 : ks.length - clipAt ks.length x ≤ 1 := by
        clear this q
        have c := clipAt_cast ks.length x
        rw [if_neg (Int.not_lt.mpr h0)] at c
        lia
      exact absurd (Nat.le_trans (Nat.le_of_eq this.symm) (Nat.le_trans (Nat.min_le_right ..) c1)) (by simp)
    · intro q; exact absurd q.1 hx
section
variable {prog : Program} {w : World} {A : Around} {E Q : Value → Shared → Prop} {s : Shared} {b : Array UInt8} {t u : Tok}
theorem eq_twob {ks ks2 : List Int} {x y v1 v2 : Int} {l : List UInt8} {c d : UInt8} (hk : KBw.bInts b = ks2) (h2 : ks2 = (ks.drop (clipAt ks.length x)).take (clipAt ks.length y - clipAt ks.length x)) (hl : l = [c, d]) (hv : v1 = (c.toNat : Int)) (hv2 : v2 = (d.toNat : Int)) (h0 : 0 ≤ x) (hy : y = x + 2) (h : Q (.bool (decide (x + 1 < ks.length ∧ ks.getD x.toNat 0 = v1 ∧ ks.getD (x + 1).toNat 0 = v2))) s) : wpAny (model prog w) A (compareOp .Eq (.bytes b t) (.bytes l.toArray u)) Q E s := by
  subst hl hv hv2
  refine eq_bytes ?_
  have e : (b.toList == [c, d].toArray.toList) = decide (x + 1 < ks.length ∧ ks.getD x.toNat 0 = (c.toNat : Int) ∧ ks.getD (x + 1).toNat 0 = (d.toNat : Int)) := by
    have e1 : (b.toList = [c, d]) ↔ (x + 1 < ks.length ∧ ks.getD x.toNat 0 = (c.toNat : Int) ∧ ks.getD (x + 1).toNat 0 = (d.toNat : Int)) := (list_toNat2 (show b.toList.map _ = ks2 from hk)).trans (by rw [h2]; exact two_cut h0 hy)
    show (b.toList == [c, d]) = _
    rw [Bool.eq_iff_iff, beq_iff_eq, decide_eq_true_eq]
    exact e1
  rw [e]; exact h
theorem cat_any {h₀ : Heap} {L a b : Addr} {m : Str → Option Value} {news : List (Addr × Obj)} {its its2 : Array Value} {n n2 : Nat} (F : Fr h₀ L s.heap m) (N : News h₀ L s.heap news) (ha : (a, listOf its n) ∈ news) (hb : (b, listOf its2 n2) ∈ news) (hz : its.size + its2.size ≤ 1000000)
    (h : ∀ D h', Fr h₀ L h' m → News h₀ L h' ((D, listOf (its ++ its2) 0) :: news) → (∀ p ∈ news, p.1 < D) → Q (.ref D) { s with heap := h' }) : wpAny (model prog w) A (binaryOp .Add (.ref a) (.ref b)) Q E s := by
  have e : (its.toList ++ its2.toList).toArray = its ++ its2 := by apply Array.toList_inj.mp; simp
  refine kmk_add_lit F N (N.isList ha) (N.isList hb) rfl (fun D h' F' N' l => ?_) (by rw [Array.length_toList, Array.length_toList, sizeLine_eq]; omega)
  rw [e] at N'
  exact h D h' F' N' l
end
section
variable {w : World} {news : List (Addr × Obj)} {p : Program} {loose : List Str} {mean : ExcName → Option Value} {mg mb : Str → Option Value} {dp un : Nat} {gd : Option (List Code)} {cn : Str} {cs : Scope} {a : Addr} {ccd : Value} {cl : List (Str × Addr)}
    {outer : List Env} {A₀ : Around} {base h₀ : Heap} {L : Addr} {m : Str → Option Value} {s : Shared} {Q E : Value → Shared → Prop}
theorem use_opened {b : Array UInt8} {ks : List Int} {tb : Tok} {x bh : Int} {t t2 : Tok} (B : Below A₀ base outer h₀) (F : Fr h₀ L s.heap m) (X : (hd.heap_1 w.params).In h₀) (N : News h₀ L s.heap news) (T : Top p loose mean mg mb h₀) (hk : cs.kind = .function)
    (hbi : KBw.bInts b = ks) (hbl : ks.length ≤ 10000) (hx : 0 ≤ x) (hx2 : x < ks.length) (hno : ¬ (x + 1 < ks.length ∧ ks.getD (x + 1).toNat 0 = 45))
    (hd : dp + 5 < recursionLimit) (hu : un + 8 * 5 < cLine)
    (g1 : ∀ h' tk' rt lc cvs nc cs' pl tk, Fr h₀ L h' m → News h₀ L h' ((rt, tupOf [.ref lc, .int pl tk, .none]) :: (lc, listOf cvs nc) :: news) → (∀ p ∈ news, p.1 < lc) → (∀ p ∈ (lc, listOf cvs nc) :: news, p.1 < rt) → mailRun ks x (decide (x = bh)) = .ok (cs', pl) → IntsAre cvs.toList cs' → (cvs.size : Int) ≤ pl - x → x + 2 < pl → pl ≤ ks.length → Q (.ref rt) { s with heap := h', toks := tk' })
    (g2 : ∀ h' tk' rt ft tk e g tk1 tk2, Fr h₀ L h' m → News h₀ L h' ((rt, tupOf [.none, .int 0 tk, .ref ft]) :: (ft, tupOf [.int e tk1, .str g tk2]) :: news) → (∀ p ∈ news, p.1 < ft) → (∀ p ∈ (ft, tupOf [.int e tk1, .str g tk2]) :: news, p.1 < rt) → mailRun ks x (decide (x = bh)) = .error (e, g) → Q (.ref rt) { s with heap := h', toks := tk' }) :
    wpAny (model Challenge.rw_pq1296_01.row.prog w) (ktrTop dp un gd cn cs L a ccd cl outer) (call (.ref 149) [.bytes b tb, .int x t, .int bh t2]) Q E s := by
  refine runs_use B F X N T hk (runs_opened w b ks tb x bh t t2 news hbi hbl hx hx2 hno) hd hu fun r tl h' tk' F' N' hl hr => ?_
  cases e9 : mailRun ks x (decide (x = bh)) with
  | ok q =>
    obtain ⟨cs', pl⟩ := q
    rw [e9] at hr
    obtain ⟨rt, lc, cvs, nc, tk, rfl, rfl, q1, q2, q3⟩ := hr
    obtain ⟨b1, b2, b3⟩ := mail_bound hx hx2 e9
    have hsz := q2.length
    rw [Array.length_toList] at hsz
    dsimp only at hsz
    refine g1 h' tk' rt lc cvs nc cs' pl tk F' N' (fun p hp => hl p hp _ (.tail _ (.head _))) (fun p hp => (List.mem_cons.mp hp).elim (fun e => e ▸ q1) fun hp => hl p hp _ (.head _)) e9 q2 (by omega) (mail_far hx hx2 hno e9) b3
  | error q =>
    rw [e9] at hr
    obtain ⟨rt, ft, tk, tk1, tk2, rfl, rfl, q1⟩ := hr
    exact g2 h' tk' rt ft tk q.1 q.2 tk1 tk2 F' N' (fun p hp => hl p hp _ (.tail _ (.head _))) (fun p hp => (List.mem_cons.mp hp).elim (fun e => e ▸ q1) fun hp => hl p hp _ (.head _)) e9
end
def LrRet (ks : List Int) (r : Value) (tl : List (Addr × Obj)) : Prop :=
  (∃ lt us nn cs, tl = [(lt, listOf us nn)] ∧ r = .ref lt ∧ IntsAre us.toList cs ∧ us.size ≤ ks.length ∧ Dec ks 0 (-1) (.ok cs)) ∨ (∃ ft e tk1 tk2, tl = [(ft, tupOf [.int e.1 tk1, .str e.2 tk2])] ∧ r = .ref ft ∧ Dec ks 0 (-1) (.error e))
theorem mem_cat {x y a b c : Addr × Obj} {l : List (Addr × Obj)} : ∀ p ∈ y :: l, p ∈ x :: y :: a :: b :: c :: l := fun p hp => (List.mem_cons.mp hp).elim (fun e => e ▸ .tail _ (.head _)) fun hp => .tail _ (.tail _ (.tail _ (.tail _ (.tail _ hp))))
theorem lr_fault {ks : List Int} {news l : List (Addr × Obj)} {h₀ : Heap} {L : Addr} {m : Str → Option Value} {s : Shared} {Q : Value → Shared → Prop} {ft : Addr} {tk1 tk2 : Tok} {e : Int} {g : Str} {h' : Heap} {tk' : Nat} (hret : ∀ r tl h' tk', Fr h₀ L h' m → News h₀ L h' (tl ++ news) → (∀ q ∈ news, ∀ p ∈ tl, q.1 < p.1) → LrRet ks r tl → Q r { s with heap := h', toks := tk' })
    (F : Fr h₀ L h' m) (N : News h₀ L h' l) (hm : (ft, tupOf [.int e tk1, .str g tk2]) ∈ l) (hs : ∀ p ∈ news, p ∈ l) (h2 : ∀ p ∈ news, p.1 < ft) (hd : Dec ks 0 (-1) (.error (e, g))) : Q (.ref ft) { s with heap := h', toks := tk' } := by
  refine hret (.ref ft) [(ft, tupOf [.int e tk1, .str g tk2])] h' tk' F (fun p hp => N p ?_) (fun q hq p hp => ?_) (.inr ⟨ft, (e, g), tk1, tk2, rfl, rfl, hd⟩)
  · rcases List.mem_cons.mp hp with rfl | hp
    · exact hm
    · exact hs p hp
  · rw [List.mem_singleton.mp hp]; exact h2 q hq
local macro_rules | `(tactic| k_all) => `(tactic| with_unfolding_all assumption)
local macro_rules | `(tactic| walk_at "exec While") => `(tactic| (k_here; refine stop ?_))
local macro_rules | `(tactic| walk_at "exec While Compare") => `(tactic| (k_here; refine stop ?_))
local macro_rules | `(tactic| walk_at "isTrue BoolOp") => `(tactic| (k_here; (with_reducible show wpAny _ _ (isTrue (PySem.Expr.BoolOp _ (_ :: _ :: _) _) _ _) _ _ _); refine stop ?_))
local macro_rules | `(tactic| walk_at "isTrue Compare") => `(tactic| (k_here; (with_reducible show wpAny _ _ (isTrue (PySem.Expr.Compare _ (_ :: _ :: _) _ _) _ _) _ _ _); refine stop ?_))
local macro_rules | `(tactic| walk_at "LoopPost") => `(tactic| (dsimp only [LoopPost]))
local macro_rules | `(tactic| walk_at "compareOp NotEq bytes bytes") => `(tactic| (k_here; refine stop ?_))
local macro_rules | `(tactic| walk_at "compareOp Eq bytes bytes") => `(tactic| (k_here; refine stop ?_))
local macro_rules | `(tactic| walk_at "binaryOp Add ref ref") => `(tactic| (k_here; refine stop ?_))
local macro_rules | `(tactic| walk_at "call ref") => `(tactic| (k_here; refine stop ?_))
abbrev LrSt := Addr × Array Value × Nat × (Int × Tok) × (Int × Tok) × List Int
theorem runs_lread (w : World) (b : Array UInt8) (ks : List Int) (tb : Tok) (news : List (Addr × Obj)) (hbi : KBw.bInts b = ks) (hbl : ks.length ≤ 10000) :
    Runs w 156 [.bytes b tb] 6 news (LrRet ks) := by
  unfold Runs
  k_fill
  intro p loose mean mg mb dp un gd cn cs a ccd cl outer A₀ base h₀ L m s Q E B F X N T hk hd hu hret
  refine wpAny_call ?_
  k_dflt cell_enter
  k_steps
  rename_i tk0 lt _ hlt _ _ _ _ _ _ _ F' N'
  unfold Stop
  with_unfolding_all refine' while_ps (σ := LrSt) (fun c => (c.1, listOf c.2.1 c.2.2.1) :: news) (fun c => [(Str.ofString "octets", .bytes b tb), (Str.ofString "codes", .ref c.1), (Str.ofString "at", .int c.2.2.2.1.1 c.2.2.2.1.2), (Str.ofString "behind", .int c.2.2.2.2.1.1 c.2.2.2.2.1.2)]) (fun c => (∀ p ∈ news, p.1 < c.1) ∧ 0 ≤ c.2.2.2.1.1 ∧ c.2.2.2.1.1 ≤ ks.length ∧ (c.2.1.size : Int) ≤ c.2.2.2.1.1 ∧ c.2.2.2.2.1.1 ≤ c.2.2.2.1.1 ∧ IntsAre c.2.1.toList c.2.2.2.2.2 ∧ ∀ R, Dec ks c.2.2.2.1.1 c.2.2.2.2.1.1 R → Dec ks 0 (-1) (R.map (c.2.2.2.2.2 ++ ·))) (fun c => ks.length - c.2.2.2.1.1.toNat) (lt, #[], 0, (0, ?q1), (-1, ?q2), []) F' N' ?kn ?kk ?kp ?turn ?hE
  case kn => exact fun p hp => .tail _ hp
  case kk => kst_all
  case kp =>
    refine ⟨hlt, Int.le_refl _, by dsimp only; omega, Int.le_refl _, by dsimp only; omega, .nil, fun R h => ?_⟩
    have e : R.map (([] : List Int) ++ ·) = R := by cases R <;> rfl
    rw [e]; exact h
  case hE => with_unfolding_all passes_own
  case turn =>
    rintro ⟨lt, us, nn, ⟨x, tx⟩, ⟨bh, tbh⟩, acc⟩ u h tk ⟨hlt, hp0, hp1, hp2, hbh, hIA, hdec⟩ F' N'
    dsimp only at hlt hp0 hp1 hp2 hbh hIA hdec F' N' ⊢
    have hnlt : ∀ p ∈ news, p.1 ≠ lt := fun p hp => Nat.ne_of_lt (hlt p hp)
    k_steps
    · unfold Stop
      refine' cut_test (¬ (ks.getD x.toNat 0 = 38 ∧ ¬ (x + 1 < ks.length ∧ ks.getD (x + 1).toNat 0 = 45))) (by k_asm) (by k_asm) ?t1 ?y1 ?n1
      case t1 =>
        refine isTrue_or ?_
        k_steps
        repeat' ((unfold Stop); (first | ((with_reducible show wpAny _ _ (compareOp PySem.CmpOp.NotEq (Value.bytes _ _) (Value.bytes _ _)) _ _ _); (k_dflt (refine' ne_one (v := 38) ?h1 ?h2 ?h3 ?h4 ?h5 ?h6 ?_)); (case h1 => assumption); (case h2 => exact rfl); (case h3 => exact rfl); (case h4 => exact rfl); (case h5 => omega); (case h6 => exact rfl)) | ((with_reducible show wpAny _ _ (compareOp PySem.CmpOp.Eq (Value.bytes _ _) (Value.bytes _ _)) _ _ _); (k_dflt (refine' eq_twob (v1 := 38) (v2 := 45) ?h1 ?h2 ?h3 ?h4 ?h5 ?h6 ?h7 ?_)); (case h1 => assumption); (case h2 => exact rfl); (case h3 => exact rfl); (case h4 => exact rfl); (case h5 => exact rfl); (case h6 => omega); (case h7 => exact rfl)) | ((with_reducible show wpAny _ _ (binaryOp PySem.Operator.Add (Value.ref _) (Value.ref _)) _ _ _); (k_dflt (refine' cat_any ?caF ?caN ?caA ?caB ?caZ ?_)); (case caF => k_asm); (case caN => k_asm); (case caA => k_mem); (case caB => k_mem); (case caZ => omega); intro _ _ _ _ l1; (try k_lt l1); (try k_sweep)) | ((with_reducible show wpAny _ _ (call (Value.ref 149) _) _ _ _); (k_dflt (refine' use_opened ?k1 ?k2 ?k3 ?k4 ?k5 ?kK ?ka1 ?ka2 ?ka3 ?ka4 ?ka5 ?kd ?ku (fun _ _ _ _ _ _ _ _ _ _ _ kl1 kl2 _ _ _ _ _ => ?_) (fun _ _ _ _ _ _ _ _ _ _ _ kl1 kl2 _ => ?_))); (case ka1 => assumption); (case ka2 => assumption); (case ka3 => assumption); (case ka4 => omega); (case ka5 => omega); (case k1 => k_asm); (case k2 => k_asm); (case k3 => k_asm); (case k4 => k_asm); (case k5 => k_asm); (case kK => first | exact rfl | assumption); (case kd => ktr_room); (case ku => ktr_units); (all_goals try k_lt kl1); (all_goals try k_lt kl2); (all_goals try k_whole); (all_goals try k_sweep))); (try k_steps))
        all_goals first | exact tested_ (by k_asm) (by k_asm) (yes_iff (by omega)) | exact tested_ (by k_asm) (by k_asm) (no_iff (by omega)) | exact tested_ (by k_asm) (by k_asm) (dec_iff (by omega))
      case y1 =>
        intro h' k F1 N1 hP
        k_steps
        unfold Stop
        refine' cut_test (31 < ks.getD x.toNat 0 ∧ ks.getD x.toNat 0 < 127) (by k_asm) (by k_asm) ?t2 ?y2 ?n2
        case t2 =>
          refine isTrue_chain ?_
          k_steps
          all_goals first | exact tested_ (by k_asm) (by k_asm) (yes_iff (by omega)) | exact tested_ (by k_asm) (by k_asm) (no_iff (by omega)) | exact tested_ (by k_asm) (by k_asm) (dec_iff (by omega))
        case y2 =>
          intro h' k F1 N1 hc
          k_steps
          · rename ks.getD x.toNat 0 = 38 => g
            refine' loop_end ⟨?a0, ?a1, ?a2, ⟨?a3, ?a4⟩, ⟨?a5, ?a6⟩, acc ++ [38]⟩ (by assumption) (by assumption) ?e1 ?e2 ?e3 ?e4
            case e1 => exact mem_zero
            case e2 => kst_all
            case e3 =>
              refine ⟨hlt, by dsimp only; omega, by dsimp only; omega, by show ((us.push _).size : Int) ≤ x + 2; rw [Array.size_push]; omega, by dsimp only; omega, by rw [g]; exact ints_pushA hIA _ _, fun R h => ?_⟩
              dsimp only at h
              have hre : (runEnd ks (x + 1).toNat : Int) = x + 1 := by
                rw [runEnd_in (by omega), if_neg (by unfold isSign; rw [show ks.getD (x + 1).toNat 0 = 45 by omega]; decide)]; omega
              have hm : mailRun ks x (decide (x = bh)) = .ok ([38], x + 2) := by
                have := m_one (ks := ks) (x := x) (sp := decide (x = bh)) hre (by omega) (by rw [hre]; omega)
                rw [hre] at this
                rw [this, Int.add_assoc]; rfl
              have h2 := hdec _ (.run (by assumption) g hm (by rw [if_neg (by omega)]; exact h.forget (by omega) (by omega)))
              rw [map_map] at h2
              rw [show ((acc ++ [38]) ++ ·) = ((acc ++ ·) ∘ ([38] ++ ·)) from funext fun l => List.append_assoc _ _ _]
              exact h2
            case e4 => dsimp only; omega
          · rename ks.getD x.toNat 0 ≠ 38 => g
            refine' loop_end ⟨?b0, ?b1, ?b2, ⟨?b3, ?b4⟩, ⟨?b5, ?b6⟩, acc ++ [ks.getD x.toNat 0]⟩ (by assumption) (by assumption) ?f1 ?f2 ?f3 ?f4
            case f1 => exact mem_zero
            case f2 => kst_all
            case f3 =>
              refine ⟨hlt, by dsimp only; omega, by dsimp only; omega, by show ((us.push _).size : Int) ≤ x + 1; rw [Array.size_push]; omega, by dsimp only; omega, ints_pushA hIA _ _, fun R h => ?_⟩
              have h2 := hdec _ (.sign (by assumption) g (by omega) h)
              rw [map_map] at h2
              rw [show ((acc ++ [ks.getD x.toNat 0]) ++ ·) = ((acc ++ ·) ∘ (ks.getD x.toNat 0 :: ·)) from funext fun l => List.append_assoc _ _ _]
              exact h2
            case f4 => dsimp only; omega
        case n2 =>
          intro h' k F1 N1 hc
          k_steps
          rename_i l9 kF kN Tc kX
          exact lr_fault hret kF kN (.head _) (fun p hp => .tail _ (.tail _ hp)) (allLt_mem l9.2) (hdec (.error _) (.not (by assumption) (fun q => by omega) (fun q => hc (by omega))))
      case n1 =>
        intro h' k F1 N1 hP
        have g38 : ks.getD x.toNat 0 = 38 := by omega
        k_steps
        repeat' ((unfold Stop); (first | ((with_reducible show wpAny _ _ (compareOp PySem.CmpOp.NotEq (Value.bytes _ _) (Value.bytes _ _)) _ _ _); (k_dflt (refine' ne_one (v := 38) ?h1 ?h2 ?h3 ?h4 ?h5 ?h6 ?_)); (case h1 => assumption); (case h2 => exact rfl); (case h3 => exact rfl); (case h4 => exact rfl); (case h5 => omega); (case h6 => exact rfl)) | ((with_reducible show wpAny _ _ (compareOp PySem.CmpOp.Eq (Value.bytes _ _) (Value.bytes _ _)) _ _ _); (k_dflt (refine' eq_twob (v1 := 38) (v2 := 45) ?h1 ?h2 ?h3 ?h4 ?h5 ?h6 ?h7 ?_)); (case h1 => assumption); (case h2 => exact rfl); (case h3 => exact rfl); (case h4 => exact rfl); (case h5 => exact rfl); (case h6 => omega); (case h7 => exact rfl)) | ((with_reducible show wpAny _ _ (binaryOp PySem.Operator.Add (Value.ref _) (Value.ref _)) _ _ _); (k_dflt (refine' cat_any ?caF ?caN ?caA ?caB ?caZ ?_)); (case caF => k_asm); (case caN => k_asm); (case caA => k_mem); (case caB => k_mem); (case caZ => omega); intro _ _ _ _ l1; (try k_lt l1); (try k_sweep)) | ((with_reducible show wpAny _ _ (call (Value.ref 149) _) _ _ _); (k_dflt (refine' use_opened ?k1 ?k2 ?k3 ?k4 ?k5 ?kK ?ka1 ?ka2 ?ka3 ?ka4 ?ka5 ?kd ?ku (fun _ _ _ _ _ _ _ _ _ _ _ kl1 kl2 _ _ _ _ _ => ?_) (fun _ _ _ _ _ _ _ _ _ _ _ kl1 kl2 _ => ?_))); (case ka1 => assumption); (case ka2 => assumption); (case ka3 => assumption); (case ka4 => omega); (case ka5 => omega); (case k1 => k_asm); (case k2 => k_asm); (case k3 => k_asm); (case k4 => k_asm); (case k5 => k_asm); (case kK => first | exact rfl | assumption); (case kd => ktr_room); (case ku => ktr_units); (all_goals try k_lt kl1); (all_goals try k_lt kl2); (all_goals try k_whole); (all_goals try k_sweep))); (try k_steps))
        · rename IntsAre _ _ => kI
          rename mailRun _ _ _ = _ => kres
          rename List Int => cs9
          refine' loop_end ⟨?w0, ?w1, ?w2, ⟨?w3, ?w4⟩, ⟨?w5, ?w6⟩, acc ++ cs9⟩ (by assumption) (by assumption) ?v1 ?v2 ?v3 ?v4
          case v1 => exact mem_cat
          case v2 => kst_all
          case v3 =>
            refine ⟨?_, by dsimp only; omega, by dsimp only; omega, by dsimp only; rw [Array.size_append]; omega, by dsimp only; omega, ints_app hIA kI, fun R h => ?_⟩
            · exact allLt_mem (And.right (And.right (And.right (by assumption))))
            have h2 := hdec _ (.run (by assumption) g38 kres (by rw [if_pos (by assumption)]; exact h))
            rw [map_map] at h2
            rw [show ((acc ++ cs9) ++ ·) = ((acc ++ ·) ∘ (cs9 ++ ·)) from funext fun l => List.append_assoc _ _ _]
            exact h2
          case v4 => dsimp only; omega
        · rename mailRun _ _ _ = _ => kres
          exact lr_fault hret (by k_asm) (by k_asm) (.tail _ (.head _)) (fun p hp => .tail _ (.tail _ (.tail _ hp))) (allLt_mem (by rename (lt < _ ∧ AllLt _ news) => q9; exact q9.2)) (hdec (.error _) (.bad (by assumption) g38 kres))
    · have h2 := hdec (.ok []) (.done (by omega))
      have h3 : Dec ks 0 (-1) (.ok acc) := by
        have e : (Except.ok [] : Res).map (acc ++ ·) = .ok acc := by show Except.ok (acc ++ []) = _; rw [List.append_nil]
        rw [← e]; exact h2
      refine retL (tl := [(lt, listOf us nn)]) hret (by k_asm) (by k_asm) (fun p hp => hp) (fun q hq p hp => ?_) (.inl ⟨lt, us, nn, acc, rfl, rfl, hIA, by omega, h3⟩)
      rw [List.mem_singleton.mp hp]
      exact hlt q hq
end Mine
end PartD3

section PartK1
example : True := by
  w_top off
  trivial
open PySem PySem.W PyProof.Rows PySem.Calls PySem.Spec
set_option Elab.async false
set_option maxRecDepth 100000
namespace Mine
abbrev framesOf (l : List Env) : List Addr := l.filterMap (·.frame)
/-- leaving a body beneath which an exception has been caught: the frames' slots may have turned -/
def LeaveT (outer : List Env) (fs : List Addr) (A₀ : Around) (base h₀ : Heap) (L : Addr) (m : Str → Option Value) (g : Heap) (R : Result → Shared → Prop) (v : Value) (s' : Shared) : Prop :=
  ∃ g' L' m' news', KtsTurn fs g g' ∧ Fr g' L' s'.heap m' ∧ News g' L' s'.heap news' ∧
    ∀ h₀', KtsTurn (framesOf outer) h₀ h₀' → Fr h₀' L s'.heap m → News h₀' L s'.heap news' → Below A₀ base outer h₀' → R (.ok (.ret v)) s'
theorem turn_fr {h₀ h₀' h : Heap} {L : Addr} {m : Str → Option Value} (T : KtsTurn [] h₀ h₀') (F : Fr h₀' L h m) : Fr h₀ L h m :=
  ⟨F.ns, fun b o e => F.keep b o (T.other b o e (fun q => nomatch q)), by have := F.above; rw [T.size] at this; exact this⟩
theorem turn_news {fs : List Addr} {h₀ h₀' h : Heap} {L : Addr} {news : List (Addr × Obj)} (T : KtsTurn fs h₀ h₀') (N : News h₀' L h news) : News h₀ L h news := fun p hp => by
  obtain ⟨a, b, c⟩ := N p hp
  refine ⟨a, b, ?_⟩
  cases q : h₀.get? p.1 with
  | none => rfl
  | some o =>
    obtain ⟨sl, hs⟩ := T.up q
    rw [c] at hs; cases hs
section
variable {prog : Program} {w : World} {A₀ A : Around} {s : Shared} {base h₀ : Heap} {outer : List Env} {L : Addr} {m : Str → Option Value} {env : Env} {news : List (Addr × Obj)}
  {R : Result → Shared → Prop} {name qual : Str} {params : Arguments} {body : List Stmt} {scope : Scope} {cl : List (Str × Addr)} {dV kV doc pm cdv ct : Value} {an : Option Addr} {fo : Obj} {f : Addr} {args : Args} {binds : List (Str × Value)}
theorem groundT (B : Below A₀ base outer h₀) (F : Fr h₀ L s.heap m) (N : News h₀ L s.heap news) (hA : A.frames = some (env :: outer)) (hf : env.frame = some L) (hke : env.scope.kind = .function) (D : KtsDicts (framesOf outer) h₀) :
    Fr h₀ L (hideAll s.heap (news.map (·.1))) m ∧ Below A base (env :: outer) (hideAll s.heap (news.map (·.1))) ∧ h₀.StaysIn (hideAll s.heap (news.map (·.1))) ∧ KtsDicts (framesOf (env :: outer)) (hideAll s.heap (news.map (·.1))) ∧
      ∀ v s', LeaveT outer (framesOf (env :: outer)) A₀ base h₀ L m (hideAll s.heap (news.map (·.1))) R v s' → R (.ok (.ret v)) s' := by
  obtain ⟨FG, BG, st, _⟩ := groundX (R := R) B F N hA hf hke
  have nL₀ := kts_self F
  have hout : ∀ {b : Addr} {o : Obj}, h₀.get? b = some o → b ∉ framesOf outer → b ∉ framesOf (env :: outer) := fun {b o} e nm hm => by
    rcases env_mem hf hm with z | z
    · rw [z, nL₀] at e; cases e
    · exact nm z
  refine ⟨FG, BG, st, fun b hb => ?_, fun v s' hl => ?_⟩
  · rcases env_mem hf hb with z | z
    · obtain ⟨oL, es, ep, hL, hLd, _⟩ := FG.ns
      exact ⟨oL, es, ep, z ▸ hL, hLd⟩
    · obtain ⟨o, es, n, ho, hd⟩ := D b z
      exact ⟨o, es, n, st b o ho, hd⟩
  obtain ⟨g', L', m', news', T', F', N', k⟩ := hl
  obtain ⟨oL, es, ep, hL, hLd, hLk, hLf⟩ := FG.ns
  obtain ⟨sl, hs⟩ := T'.up hL
  obtain ⟨T₁, S₁⟩ := kts_turn_at (h := s'.heap) (fs := framesOf outer) (g := h₀) (fun b hb => let ⟨_, o, ho, _⟩ := B.frames.mem hb; ⟨o, ho⟩)
    (fun b o e nm => F'.keep b o (T'.other b o (st b o e) (hout e nm))) (fun b o e _ => let ⟨sl', hs'⟩ := T'.up (st b o e); ⟨sl', F'.keep _ _ hs'⟩)
  refine k _ T₁ ⟨⟨_, es, ep, F'.keep _ _ hs, hLd, hLk, hLf⟩, S₁, by rw [T₁.size]; exact F.above⟩ (fun p hp => ⟨(N' p hp).1, fun q => ?_, T₁.none_ _ ?_⟩)
    ⟨B.stack, fun b o e => T₁.other b o (B.stays b o e) (fun hm => by rw [(B.frames.mem hm).1] at e; cases e), B.frames.of_keeps fun b o e _ => let ⟨sl', hs'⟩ := T₁.up e; ⟨_, hs', rfl⟩⟩
  · have := (N' p hp).2.2; rw [q, hs] at this; cases this
  · cases q : h₀.get? p.1 with
    | none => rfl
    | some o =>
      obtain ⟨sl', hs'⟩ := T'.up (st _ _ q)
      have := (N' p hp).2.2
      rw [hs'] at this; cases this
/-- a def is entered beneath which an exception may be caught -/
theorem code_T {K : Frag} {p : Program} {loose : List Str} {mean : ExcName → Option Value} {mg mb : Str → Option Value} {oc : Value} {od : Option Addr} {osl : Array (Option Value)}
    (B : Below A₀ base outer h₀) (F : Fr h₀ L s.heap m) (X₀ : K.In h₀) (N : News h₀ L s.heap news) (T : Top p loose mean mg mb h₀) (D : KtsDicts (framesOf outer) h₀) (hA : A.frames = some (env :: outer)) (hf : env.frame = some L) (hke : env.scope.kind = .function)
    (ho : K.lookup f = some ⟨oc, od, .func (fnOf name qual params body scope dV kV doc pm an cdv ct), osl⟩) (hcd : codeIn K cdv qual = true) (hroom : A.depth < recursionLimit)
    (hbind : BindsTo s (fnOf name qual params body scope dV kV doc pm an cdv ct) args binds) (hloc : ∀ y ∈ binds, scope.names.lookup y.1 = some .local)
    (h : ∀ g L' h₁, Fr h₀ L g m → Fr g L' h₁ (fun y => binds.reverse.lookup y) → News g L' h₁ news → Below A base (env :: outer) g → K.In g → Top p loose mean mg mb g → KtsDicts (framesOf (env :: outer)) g →
      wpAny (model prog w) (A.deeper (envOf qual scope L' f cdv)) (execs body (envOf qual scope L' f cdv))
        (fun fl s' => LeaveT outer (framesOf (env :: outer)) A₀ base h₀ L m g R (match fl with | .ret v => v | _ => .none) s')
        (fun e s' => wpAny (model prog w) (A.deeper (envOf qual scope L' f cdv)) (leaving (envOf qual scope L' f cdv) e) (fun _ s'' => R (.error e) s'') (fun e' s'' => R (.error e') s'') s')
        { s with heap := h₁, toks := s.toks + binds.length })
    (hco : scope.isCoroutine = false) (hgen : scope.isGenerator = false) (hk : scope.kind = .function)
    (hcell : ∀ x ∈ scope.names, x.2 ≠ .cell) : codeAny (model prog w) A (.call (.ref f) args) R s := by
  obtain ⟨FG, BG, st, DG, lv⟩ := groundT (R := R) B F N hA hf hke D
  have X := X₀.keeps F.keep
  refine codeAny_call_def (fd := fnOf name qual params body scope dV kV doc pm an cdv ct) (body := body) (binds := binds) hroom (X _ _ ho) rfl (T.nolimit.keeps F.keep) (codeRec_of X hcd) rfl hbind hcell hloc (fun h₁ hns hk₁ => ?_) hco hgen hk
  exact wpAny_mono (h _ s.heap.objs.size h₁ FG ⟨hns, fun b o e => hk₁ b o (of_hideAll _ e), Nat.le_of_eq (hideAll_size _ _)⟩
    (fun p hp => ⟨hk₁ _ _ (N p hp).1, Nat.ne_of_lt (Heap.lt_size (N p hp).1), hideAll_none _ (List.mem_map_of_mem hp)⟩) BG (X₀.keeps st) (T.keeps st) DG) (fun fl s' hl => lv _ _ hl) fun _ _ y => y
/-- the same of a def with cells -/
theorem code_TC {K : Frag} {p : Program} {loose : List Str} {mean : ExcName → Option Value} {mg mb : Str → Option Value} {oc : Value} {od : Option Addr} {osl : Array (Option Value)}
    (B : Below A₀ base outer h₀) (F : Fr h₀ L s.heap m) (X₀ : K.In h₀) (N : News h₀ L s.heap news) (T : Top p loose mean mg mb h₀) (D : KtsDicts (framesOf outer) h₀) (hA : A.frames = some (env :: outer)) (hf : env.frame = some L) (hke : env.scope.kind = .function)
    (ho : K.lookup f = some ⟨oc, od, .func (fnOf name qual params body scope dV kV doc pm an cdv ct), osl⟩) (hcd : codeIn K cdv qual = true) (hroom : A.depth < recursionLimit)
    (hbind : BindsTo s (fnOf name qual params body scope dV kV doc pm an cdv ct) args binds) (hkind : (binds.all fun y => scope.names.lookup y.1 == some .local || scope.names.lookup y.1 == some .cell) = true)
    (hnd : ((cellsFrom 0 scope.names []).map (·.1)).Nodup)
    (h : ∀ g L' h₁ tk cells, Fr h₀ L g m → Fr g L' h₁ (bindL (envOfC qual scope L' f cdv).kindOf binds fun _ => none) → News g L' h₁ (cells ++ news) →
      CellsAre (bindC (envOfC qual scope L' f cdv).kindOf binds fun _ => none) (cellsFrom (L' + 1) scope.names []) cells → Below A base (env :: outer) g → K.In g → Top p loose mean mg mb g → KtsDicts (framesOf (env :: outer)) g → (∀ p ∈ news, p.1 < L') →
      wpAny (model prog w) (A.deeper (envOfC qual scope L' f cdv)) (execs body (envOfC qual scope L' f cdv))
        (fun fl s' => LeaveT outer (framesOf (env :: outer)) A₀ base h₀ L m g R (match fl with | .ret v => v | _ => .none) s')
        (fun e s' => wpAny (model prog w) (A.deeper (envOfC qual scope L' f cdv)) (leaving (envOfC qual scope L' f cdv) e) (fun _ s'' => R (.error e) s'') (fun e' s'' => R (.error e') s'') s')
        { s with heap := h₁, toks := tk })
    (hco : scope.isCoroutine = false) (hgen : scope.isGenerator = false) (hk : scope.kind = .function) : codeAny (model prog w) A (.call (.ref f) args) R s := by
  obtain ⟨FG, BG, st, DG, lv⟩ := groundT (R := R) B F N hA hf hke D
  have X := X₀.keeps F.keep
  refine codeAny_call_function hroom (X _ _ ho) rfl hco hgen rfl (codeRec_of X hcd) (hbind _ _ _ _ ?_)
  refine wpAny_newFunctionEnv_cells hk (kindsX hkind _) fun env' he s' x => ?_
  subst he
  refine ⟨(T.nolimit.keeps F.keep).keeps x.toInCall.keep, codeAny_func ?_⟩
  obtain ⟨h₁, tk, rfl, _⟩ := x.done
  have hk₁ := x.toInCall.keep
  obtain ⟨cells, NC, Y⟩ := Cl.news (h₀ := s.heap) (Nat.le_refl _) fun n c hm => ⟨x.cell n c (lookup_of_mem_nodup (cellsFrom_names scope.names 0 (s.heap.objs.size + 1) [] [] rfl ▸ hnd) hm), x.above n c hm⟩
  refine wpAny_mono (h _ s.heap.objs.size h₁ tk cells FG ⟨x.toInCall.ns, fun b o e => hk₁ b o (of_hideAll _ e), Nat.le_of_eq (hideAll_size _ _)⟩ (fun p hp => ?_) Y BG (X₀.keeps st) (T.keeps st) DG (fun p hp => Heap.lt_size (N p hp).1)) (fun fl s' hl => lv _ _ hl) fun _ _ y => y
  rcases List.mem_append.mp hp with hp | hp
  · refine ⟨(NC p hp).1, (NC p hp).2.1, ?_⟩
    cases q : (hideAll s.heap (news.map (·.1))).get? p.1 with
    | none => rfl
    | some o => have := of_hideAll _ q; rw [(NC p hp).2.2] at this; cases this
  · exact ⟨hk₁ _ _ (N p hp).1, Nat.ne_of_lt (Heap.lt_size (N p hp).1), hideAll_none _ (List.mem_map_of_mem hp)⟩
end
end Mine
end PartK1

section PartK2
example : True := by
  w_top off
  trivial
open PySem PySem.W PyProof.Rows PySem.Calls PySem.Spec
set_option Elab.async false
set_option maxRecDepth 100000
namespace Mine
theorem kind_bga : builtinKind "BaseException.__getattribute__" = some .slot := by decide +kernel
theorem split_bga : splitId "BaseException.__getattribute__" = some ("BaseException", "__getattribute__") := by decide +kernel
section
variable {prog : Program} {w : World} {A : Around} {E : Value → Shared → Prop} {s : Shared} {K : Frag} {e C r1 r2 : Addr} {ox : Obj} {od : Option Obj} {name : Str} {expr : Bool} {Q : Value → Shared → Prop} {v : Value}
/-- a field of an exception of a class of its own -/
theorem get_told (X : K.In s.heap) (I : InstAt s.heap e ox C od) (hga : findIn K (.ref C) "__getattribute__" = some (some (.builtin "BaseException.__getattribute__"))) (hk : findIn K (.ref C) "__getattr__" = some none)
    (hm : (clsIn K C).map (·.mro) = some [.ref r1, .ref r2, .type "Exception", .type "BaseException", .type "object"]) (hf : findObj K C od name = some (.value v)) (hh : handedIn v = true) (h : Q v { s with toks := s.toks + 1 }) : wpAny (model prog w) A (getAttr (.ref e) name expr) Q E s := by
  obtain ⟨cd, hc, hmro⟩ := Option.map_eq_some_iff.mp hm
  have ne : cd.mro.isEmpty = false := by rw [hmro]; rfl
  have sub : Looks (model prog w) s.heap (isInstance (.ref e) (.type "BaseException")) true := I.type.andThen (looks_mroIn X (by unfold mroIn; rw [hc, Option.bind_some, if_neg (by rw [ne]; decide), hmro]; rfl))
  have SF := PySem.F.excAttr_ValueError.ga
  obtain ⟨hp, g, d, t, os⟩ := s
  have L0 := I.type (M := model prog w)
  have L1 := looks_findIn (M := model prog w) X hga
  have L2 := looks_findIn (M := model prog w) X hk
  have L3 := looks_find (M := model prog w) X I hf
  unfold getAttr getAttrBy
  refine wpAny_bind (wpAny_mkText (wpAny_holding (wpAny_bind (L0.at (wpAny_bind (L1.at ?_))))))
  show wpAny _ _ (getAttrByItsOwn _ _ _ _ _ _) _ _ _
  unfold getAttrByItsOwn
  refine wpAny_bind (L2.at (wpAny_bind (wpAny_attempt (wpAny_holding ?_))))
  have hx0 : (expr && onTheHeap (Value.builtin "BaseException.__getattribute__")) = false := by cases expr <;> rfl
  unfold callGetattribute
  rw [hx0]
  show wpAny _ _ (boundAndCalled _ _ _) _ _ _
  unfold boundAndCalled
  rw [SF.bind]
  refine wpAny_bind (wpAny_pure (wpAny_call ?_))
  refine codeAny_call_builtin SF.plain PySem.F.entry_bexc_ga (@check_slot (model prog w) _ _ _ "BaseException.__getattribute__" "BaseException" "__getattribute__" (.ref e) [.str name _] [] _ kind_bga split_bga sub (PySem.F.args_bexc_ga _ _) ?_)
  unfold Builtin.«object.__getattribute__»
  refine wpAny_bind (wpAny_of_eq (a := (Value.ref e, [Value.str name t])) rfl (wpAny_bind (wpAny_of_eq (a := name) rfl (wpAny_bind (L0.at (wpAny_bind (L3.at ?_)))))))
  refine wpAny_pure ?_
  show wpAny _ _ (handedOut v) _ _ _
  rw [handedOut_of hh]; exact wpAny_pure h
end
end Mine
end PartK2

section PartT1
example : True := by
  w_top off
  trivial
open PySem PySem.W PyProof.Rows
set_option Elab.async false
namespace Mine
set_option maxRecDepth 100000
set_option maxHeartbeats 2000000
section
variable {w : World} {news : List (Addr × Obj)} {p : Program} {loose : List Str} {mean : ExcName → Option Value} {mg mb : Str → Option Value} {dp un : Nat} {gd : Option (List Code)} {cn : Str} {cs : Scope} {a : Addr} {ccd : Value} {cl : List (Str × Addr)}
    {outer : List Env} {A₀ : Around} {base h₀ : Heap} {L : Addr} {m : Str → Option Value} {s : Shared} {Q E : Value → Shared → Prop}
theorem use_runsE {f : Addr} {vs : List Value} {need : Nat} {Ret : Value → List (Addr × Obj) → Prop} {Err : Int × Str → Prop} (hR : RunsE w f vs need news Ret Err) (B : Below A₀ base outer h₀) (F : Fr h₀ L s.heap m) (X : (hd.heap_1 w.params).In h₀) (N : News h₀ L s.heap news) (T : Top p loose mean mg mb h₀) (hk : cs.kind = .function) (hd : dp + need < recursionLimit) (hu : un + 8 * need < cLine)
    (g1 : ∀ r tl h' tk', Fr h₀ L h' m → News h₀ L h' (tl ++ news) → (∀ q ∈ news, ∀ p ∈ tl, q.1 < p.1) → Ret r tl → Q r { s with heap := h', toks := tk' })
    (g2 : ∀ e d t x tk tk1 tk2 tk' h' G, RaisedD base G (envX cn cs L a ccd cl :: outer) e (.ref 45) d ((d, toldOf w "told" tk (.ref t)) :: (t, tupOf [.int x.1 tk1, .str x.2 tk2]) :: news) h' → Fr h₀ L G m → G.UpToSlots h' → Err x → E (.ref e) { s with heap := h', toks := tk' }) :
    wpAny (model Challenge.rw_pq1296_01.row.prog w) (ktrTop dp un gd cn cs L a ccd cl outer) (call (.ref f) vs) Q E s :=
  hR p loose mean mg mb dp un gd cn cs a ccd cl outer A₀ base h₀ L m s Q E B F X N T hk hd hu g1 fun e d tk' h' tl G x R FG U ⟨tk, t, tk1, tk2, m1, m2⟩ hx => g2 e d t x tk tk1 tk2 tk' h' G (R.sub fun p hp => by
    rcases List.mem_cons.mp hp with rfl | hp
    · exact List.mem_append_left _ m1
    rcases List.mem_cons.mp hp with rfl | hp
    · exact List.mem_append_left _ m2
    · exact List.mem_append_right _ hp) FG U hx
end
def ErrRet (Err : Int × Str → Prop) (r : Value) (tl : List (Addr × Obj)) : Prop := ∃ ft x tk1 tk2, tl = [(ft, tupOf [.int x.1 tk1, .str x.2 tk2])] ∧ r = .ref ft ∧ Err x
local macro_rules | `(tactic| k_all) => `(tactic| with_unfolding_all assumption)
local macro_rules | `(tactic| walk_at "exec Try") => `(tactic| (k_here; refine wpAny_Try_except ?_))
local macro_rules | `(tactic| walk_at "LeaveT") => `(tactic| (refine stop ?_))
local macro_rules | `(tactic| walk_at "noteFrame ref") => `(tactic| (refine stop ?_))
local macro_rules | `(tactic| walk_at "callWith ref") => `(tactic| (k_here; refine stop ?_))
local macro_rules | `(tactic| walk_at "call ref") => `(tactic| (k_here; refine stop ?_))
theorem runs_told (w : World) (c : Addr) (need : Nat) (news : List (Addr × Obj)) (Ret : Value → List (Addr × Obj) → Prop) (Err : Int × Str → Prop) (hR : RunsE w c [] need news Ret Err) (occ : Value) (od : Option Addr) (fd : FuncData) (sl : Array (Option Value)) (hfn : (c, (⟨occ, od, .func fd, sl⟩ : Obj)) ∈ news) :
  ∀ (p : Program) (loose : List Str) (mean : ExcName → Option Value) (mg mb : Str → Option Value) (dp un : Nat) (gd : Option (List Code)) (cn : Str) (cs : Scope) (a : Addr) (ccd : Value) (cl : List (Str × Addr))
    (outer : List Env) (A₀ : Around) (base h₀ : Heap) (L : Addr) (m : Str → Option Value) (s : Shared) (Q E : Value → Shared → Prop),
    Below A₀ base outer h₀ → Fr h₀ L s.heap m → (hd.heap_1 w.params).In h₀ → News h₀ L s.heap news → Top p loose mean mg mb h₀ → (hd.heap_1 w.params).In base → Top p loose mean mg mb base → KtsDicts (framesOf outer) h₀ → cs.kind = .function → dp + (need + 1) < recursionLimit → un + 8 * (need + 1) < cLine →
    (∀ h₀' r tl h' tk', KtsTurn (framesOf outer) h₀ h₀' → Fr h₀' L h' m → News h₀' L h' (tl ++ news) → Below A₀ base outer h₀' → (Ret r tl ∧ ∀ q ∈ news, ∀ p ∈ tl, q.1 < p.1) ∨ ErrRet Err r tl → Q r { s with heap := h', toks := tk' }) →
    wpAny (model Challenge.rw_pq1296_01.row.prog w) (ktrTop dp un gd cn cs L a ccd cl outer) (call (.ref 163) [.ref c]) Q E s := by
  k_fill
  intro p loose mean mg mb dp un gd cn cs a ccd cl outer A₀ base h₀ L m s Q E B F X N T XB TB D hk hd hu hret
  refine wpAny_call ?_
  k_dflt (refine' code_T ?k1 ?k2 ?k3 ?k4 ?k5 ?kD ?kA ?kF ?kK ?k6 ?k7 ?k8 ?k9 ?kB ?_ ?c2 ?c3 ?c4 ?c5; (case kA => exact rfl); (case kF => exact rfl); (case kD => assumption); (case kK => assumption); (case k1 => k_asm); (case k2 => k_asm); (case k3 => k_asm); (case k4 => k_asm); (case k5 => k_asm); (case k6 => k_is); (case k7 => k_is); (case k8 => ktr_room); (case k9 => exact BindsTo.of_eq rfl); (case c5 => decide); (case kB => exact locs rfl); (case c2 => exact rfl); (case c3 => exact rfl); (case c4 => exact rfl); k_whole; intro g' L' h' FG' F' N' B' X' T' D'; (try dsimp only); (try k_lift B'); (try k_fold))
  k_steps
  repeat' ((unfold Stop); (first | (k_dflt (refine' callWith_F0 ?k1 ?_); (case k1 => exact FnAt.of (by k_asm) (by assumption)); k_whole; try dsimp only [List.nil_append, List.cons_append]) | ((k_dflt (refine' use_runsE ?kR ?k1 ?k2 ?k3 ?k4 ?k5 ?kK ?kd ?ku (fun _ _ _ _ _ _ _ _ => ?_) (fun _ _ _ _ _ _ _ _ _ _ _ _ _ _ => ?_))); (case kR => assumption); (case k1 => k_asm); (case k2 => k_asm); (case k3 => k_asm); (case k4 => k_asm); (case k5 => k_asm); (case kK => first | exact rfl | assumption); (case kd => ktr_room); (case ku => ktr_units); (all_goals try k_whole); (all_goals try k_sweep))); (try k_steps))
  · rename_i r tl h9 tk9 F9 N9 kl kr
    unfold Stop
    exact ⟨_, _, _, _, .refl, F9, N9, fun h₀' T9 F8 N8 B8 => hret h₀' r tl _ _ T9 F8 N8 B8 (.inl ⟨kr, kl⟩)⟩
  · rename_i e d t x tk tk1 tk2 tk9 h9 G kRD kFG kU kX
    unfold Stop
    k_dflt (refine' caught_D kRD kFG ?k1 kU XB TB ?k2 ?k3 ?k4 (fun h8 g8 tk8 vs sl8 T8 F8 N8 B8 X8 P8 D8 => ?_))
    case k1 => k_asm
    case k2 => assumption
    case k3 => k_is
    case k4 => exact rfl
    k_steps
    k_dflt refine' get_told (C := 45) (v := .ref t) (X8.keeps F8.keep) ⟨(N8 _ (.head _)).1, rfl, rfl, (N8 _ (.tail _ (.head _))).1⟩ ?k4 ?k5 ?k6 (findObj_own ?k7 ?k8 ?k9 ?k10) ?k11 ?_
    case k4 => k_is
    case k5 => k_is
    case k6 => exact rfl
    case k7 => k_is
    case k8 => k_is
    case k9 => k_is
    case k10 => exact rfl
    case k11 => exact rfl
    k_steps
    rename_i F9 N9
    unfold Stop
    refine ⟨_, _, _, _, T8, F9, N9, fun h₀' T9 F7 N7 B7 => hret h₀' (.ref t) [(t, tupOf [.int x.1 tk1, .str x.2 tk2])] _ _ T9 F7 (fun p hp => N7 p ?_) B7 (.inr ⟨t, x, tk1, tk2, rfl, rfl, kX⟩)⟩
    exact .tail _ (.tail _ hp)
end Mine
end PartT1

section PartU1
example : True := by
  w_top off
  trivial
open PySem PySem.W PyProof.Rows
set_option Elab.async false
namespace Mine
set_option maxRecDepth 100000
set_option maxHeartbeats 2000000
local macro_rules | `(tactic| k_all) => `(tactic| with_unfolding_all assumption)
local macro_rules | `(tactic| walk_at "call ref") => `(tactic| (k_here; refine stop ?_))
theorem runs_alone (w : World) (b : Array UInt8) (ks : List Int) (tb : Tok) (x bh : Int) (t t2 : Tok) (news : List (Addr × Obj)) (hbi : KBw.bInts b = ks) (hbl : ks.length ≤ 1000000) (hx : 0 ≤ x) (hx2 : x < ks.length) :
    RunsE w 170 [.bytes b tb, .int x t, .int bh t2] 7 news (MailRet (mailRun ks x (decide (x = bh)))) (fun e => mailRun ks x (decide (x = bh)) = .error e) := by
  unfold RunsE
  k_fill
  intro p loose mean mg mb dp un gd cn cs a ccd cl outer A₀ base h₀ L m s Q E B F X N T hk hd hu hret hexc
  refine wpAny_call ?_
  k_dflt cell_enter
  k_steps
  repeat' ((unfold Stop); ((k_dflt refine' use_mail ?k1 ?k2 ?k3 ?k4 ?k5 ?kK ?ka1 ?ka2 ?ka3 ?ka4 ?ka5 ?kd ?ku ?kOk ?kErr); (case' kOk => (intro _ _ _ _ _ _ _ _ _ _ _ kl1 kl2 _ _ _ _ _)); (case' kErr => intro _ _ _ _ _ _ _ _ _ _ _); (case ka1 => assumption); (case ka2 => assumption); (case ka3 => assumption); (case ka4 => assumption); (case ka5 => exact .inr ⟨_, _, rfl⟩); (case k1 => k_asm); (case k2 => k_asm); (case k3 => k_asm); (case k4 => k_asm); (case k5 => k_asm); (case kK => first | exact rfl | assumption); (case kd => ktr_room); (case ku => ktr_units); (all_goals try k_lt kl1); (all_goals try k_lt kl2); (all_goals try k_whole); (all_goals try k_sweep)); (try k_steps))
  · exact pass_fin (Err := fun e => mailRun ks x (decide (x = bh)) = .error e) hexc (by assumption) (by assumption) (by assumption) (by assumption) (by assumption) (by assumption) (by assumption) (fun p hp => hp) rfl rfl
  · rename_i l1 kF kN Tc kX
    rename IntsAre _ _ => kI
    refine' mail_fin hret kF kN (.head _) ?rs ?rl ?rD ?rx kI ?rz
    case rs => intro p hp; simp only [List.mem_cons]; simp only [hp, or_true]
    case rl => exact allLt_mem (And.right (And.right (by assumption)))
    case rD => exact l1.1
    case rx => assumption
    case rz => omega
end Mine
end PartU1

section PartU2
example : True := by
  w_top off
  trivial
open PySem PySem.W PyProof.Rows
set_option Elab.async false
namespace Mine
local macro_rules | `(tactic| walk_at "no such key") => `(tactic| skip)
set_option maxRecDepth 100000
set_option maxHeartbeats 8000000
/-- a table of codes: before the lambda is made for the first time, and behind it -/
def TabL (P : Addr) (qual : Str) (pos : Pos) (tabs : List (Addr × Obj)) : Prop :=
  tabs = [(P, tabObj #[])] ∨ ∃ c' oc vs t, tabs = [(c', oc), (P, tabObj #[rawInt pos.line, rawInt pos.col, .ref c'])] ∧ oc.data = .fields vs ∧ vs[1]? = some (.str qual t) ∧ c' ≠ P
section
variable {M : Model} {A : Around} {E : Value → Shared → Prop} {s : Shared} {h₀ : Heap} {L a c P : Addr} {m mg mb : Str → Option Value} {cn : Str} {cs : Scope} {ccd : Value} {cl : List (Str × Addr)} {pre tabs : List (Addr × Obj)}
  {p : Program} {loose : List Str} {mean : ExcName → Option Value} {name qual : Str} {params : Arguments} {body : PySem.Expr} {scope : Scope} {pos : Pos} {firstLine : Nat} {clos : List (Str × Addr)}
theorem upd_end {P : Addr} {o o' : Obj} : ∀ {pre : List (Addr × Obj)}, (∀ p ∈ pre, p.1 ≠ P) → UpdF P o (pre ++ [(P, o)]) (fun o' => pre ++ [(P, o')])
  | [], _ => .head fun _ h => nomatch h
  | p :: _, h => .tail (h p (.head _)) (upd_end (o' := o') fun q hq => h q (.tail _ hq))
theorem lam_any {Q : Value → Shared → Prop} (F : Fr h₀ L s.heap m) (N : News h₀ L s.heap (pre ++ tabs)) (T : Top p loose mean mg mb h₀) (C : CodeHd h₀ c P) (hcd : ccd = .ref c) (ht : TabL P qual pos tabs) (hdis : ∀ q ∈ tabs, ∀ p ∈ pre, p.1 ≠ q.1)
    (hcl : closureFor scope (envX cn cs L a ccd cl) = pure clos)
    (h : ∀ f c' oc vs t ctv h' tk, Fr h₀ L h' m → News h₀ L h' ((f, kla_obj name qual params body scope clos ((mg "__name__").getD .none) c' ctv) :: (pre ++ [(c', oc), (P, tabObj #[rawInt pos.line, rawInt pos.col, .ref c'])])) →
      oc.data = .fields vs → vs[1]? = some (.str qual t) → c' ≠ P → (∀ p ∈ pre, p.1 ≠ c') → (∀ p ∈ pre, p.1 ≠ P) → (∀ p ∈ pre, p.1 < f) → c' < f → P < f → Q (.ref f) { s with heap := h', toks := tk }) :
    wpAny M A (makeFunction name qual params (.expr body) scope (envX cn cs L a ccd cl) [] [] [] pos firstLine) Q E s := by
  rcases ht with rfl | ⟨c', oc, vs, t, rfl, hd, hv, hcP⟩
  · have hP : ∀ p ∈ pre, p.1 ≠ P := fun p hp => hdis (P, tabObj #[]) (.head _) p hp
    refine kla_nest F N T C hcd (upd_end (o' := tabObj #[]) hP) trivial rfl hcl fun f c' oc vs t ctv h' tk F' N' hd hv h1 h2 => ?_
    have h172 : P < c' := h1 (P, tabObj #[]) (List.mem_append_right _ (.head _))
    refine h f c' oc vs t ctv h' tk F' (fun p hp => N' p ?_) hd hv (Nat.ne_of_gt h172) (fun p hp => Nat.ne_of_lt (h1 p (List.mem_append_left _ hp))) hP (fun p hp => Nat.lt_trans (h1 p (List.mem_append_left _ hp)) h2) h2 (Nat.lt_trans h172 h2)
    rcases List.mem_cons.mp hp with rfl | hp
    · exact .head _
    rcases List.mem_append.mp hp with hp | hp
    · exact .tail _ (.tail _ (List.mem_append_left _ hp))
    rcases List.mem_cons.mp hp with rfl | hp
    · exact .tail _ (.head _)
    · exact .tail _ (.tail _ (List.mem_append_right _ hp))
  · refine kla_hit (c' := c') F N T C hcd (ps := #[rawInt pos.line, rawInt pos.col, .ref c']) (List.mem_append_right _ (.tail _ (.head _))) (by simp [TriplesOk, rawInt]) (by simp [codeAmong, rawInt]) hcl fun f ctv h' tk F' N' h1 => ?_
    exact h f c' oc vs t ctv h' tk F' N' hd hv hcP (fun p hp => hdis (c', oc) (.head _) p hp) (fun p hp => hdis _ (.tail _ (.head _)) p hp) (fun p hp => h1 p (List.mem_append_left _ hp)) (h1 (c', oc) (List.mem_append_right _ (.head _))) (h1 _ (List.mem_append_right _ (.tail _ (.head _))))
end
local macro_rules | `(tactic| k_all) => `(tactic| with_unfolding_all assumption)
local macro_rules | `(tactic| walk_at "eval Name") => `(tactic| (k_here; k_dflt (refine' nameX_F ?N ?c ?m ?d ?_ ?a ?b; (case a => rfl); (case b => rfl); (case N => k_asm); (case c => rfl); (case m => assumption); (case d => assumption); k_whole)))
theorem runs_lam1 (w : World) (f c' ca cb co : Addr) (oc oa ob oo : Obj) (vs : Array Value) (tq : Tok) (nm qual : Str) (pm ctv : Value) (b : Array UInt8) (ks : List Int) (tb t t2 : Tok) (x bh : Int) (news : List (Addr × Obj)) (p0 p1 p2 p3 p4 : Pos)
    (hf : (f, kla_obj nm qual { posonlyargs := [], args := [], vararg := none, kwonlyargs := [], kw_defaults := [], kwarg := none, defaults := [] } (.Call (.Name (Str.ofString "_law_alone") p0) [.Name (Str.ofString "octets") p1, .Name (Str.ofString "at") p2, .Name (Str.ofString "behind") p3] [] p4)
      { kind := .function, names := [(Str.ofString "at", .free), (Str.ofString "behind", .free), (Str.ofString "octets", .free), (Str.ofString "_law_alone", .globalImplicit)], isGenerator := false, isCoroutine := false } [(Str.ofString "octets", co), (Str.ofString "behind", cb), (Str.ofString "at", ca)] pm c' ctv) ∈ news)
    (hc : (c', oc) ∈ news) (hd : oc.data = .fields vs) (hv : vs[1]? = some (.str qual tq)) (ha : (ca, oa) ∈ news) (hao : oa.data = .cell (some (.int x t))) (hb : (cb, ob) ∈ news) (hbo : ob.data = .cell (some (.int bh t2))) (ho : (co, oo) ∈ news) (hoo : oo.data = .cell (some (.bytes b tb)))
    (hbi : KBw.bInts b = ks) (hbl : ks.length ≤ 1000000) (hx : 0 ≤ x) (hx2 : x < ks.length) :
    RunsE w f [] 8 news (MailRet (mailRun ks x (decide (x = bh)))) (fun e => mailRun ks x (decide (x = bh)) = .error e) := by
  unfold RunsE
  k_fill
  intro p loose mean mg mb dp un gd cn cs a ccd cl outer A₀ base h₀ L m s Q E B F X N T hk hdp hu hret hexc
  refine wpAny_call ?_
  k_dflt (refine' kla_code ?k1 ?k2 ?k3 ?k4 ?k5 ?kA ?kF ?kK ?k6 ?k7 ?k8 ?k9 ?kB ?_ ?c2 ?c3 ?c4 ?c5; (case kA => exact rfl); (case kF => exact rfl); (case kK => assumption); (case k1 => k_asm); (case k2 => k_asm); (case k3 => k_asm); (case k4 => k_asm); (case k5 => k_asm); (case k6 => exact hf); (case k7 => exact codeRec_news N hc hd hv); (case k8 => ktr_room); (case k9 => exact rfl); (case c5 => decide); (case kB => exact locs rfl); (case c2 => exact rfl); (case c3 => exact rfl); (case c4 => exact rfl); k_whole; intro g' L' h' FG' F' N' B' X' T'; (try dsimp only); (try k_lift B'); (try k_fold))
  k_steps
  k_dflt refine' use_runsE (runs_alone _ _ _ _ _ _ _ _ _ hbi hbl hx hx2) ?k1 ?k2 ?k3 ?k4 ?k5 ?kK ?kd ?ku (fun r tl h' tk' F' N' kl kr => ?_) (fun e d t x9 tk tk1 tk2 tk' h' G kRD kFG kU kX => ?_)
  case k1 => k_asm
  case k2 => k_asm
  case k3 => k_asm
  case k4 => k_asm
  case k5 => k_asm
  case kK => exact rfl
  case kd => ktr_room
  case ku => ktr_units
  · k_steps
    rename_i kF kN Tc kX
    exact hret r tl _ _ kF kN kl kr
  · k_steps
    exact pass_fin (Err := fun e => mailRun ks x (decide (x = bh)) = .error e) (tl := [(d, toldOf w "told" tk (.ref t)), (t, tupOf [.int x9.1 tk1, .str x9.2 tk2])]) hexc B' FG' kFG kRD kU ⟨tk, t, tk1, tk2, .head _, .tail _ (.head _)⟩ kX (fun p hp => hp) rfl rfl
theorem dec_fin {ks cs : List Int} {news : List (Addr × Obj)} {h₀ : Heap} {L D : Addr} {m : Str → Option Value} {s : Shared} {Q : Value → Shared → Prop} {us : Array Value} {n : Nat} {x : Addr × Obj} {h' : Heap} {tk' : Nat} (hret : ∀ r tl h' tk', Fr h₀ L h' m → News h₀ L h' (tl ++ news) → (∀ q ∈ news, ∀ p ∈ tl, q.1 < p.1) → DecRet ks r tl → Q r { s with heap := h', toks := tk' })
    (F : Fr h₀ L h' m) (N : News h₀ L h' ((D, listOf us n) :: x :: news)) (hl : ∀ p ∈ news, p.1 < D) (hI : IntsAre us.toList cs) (hz : us.size ≤ ks.length) (hD : Dec ks 0 (-1) (.ok cs)) : Q (.ref D) { s with heap := h', toks := tk' } := by
  refine hret _ [(D, listOf us n)] _ _ F (fun p hp => N p ?_) (fun q hq p hp => ?_) ⟨D, us, n, cs, rfl, rfl, hI, hz, hD⟩
  · rcases List.mem_cons.mp hp with rfl | hp
    · exact .head _
    · exact .tail _ (.tail _ hp)
  · rw [List.mem_singleton.mp hp]; exact hl q hq
theorem runs_lam2 (w : World) (f c' co : Addr) (oc oo : Obj) (vs : Array Value) (tq : Tok) (nm qual : Str) (pm ctv : Value) (b : Array UInt8) (ks : List Int) (tb : Tok) (news : List (Addr × Obj)) (p0 p1 p2 p3 p4 : Pos)
    (hf : (f, kla_obj nm qual { posonlyargs := [], args := [], vararg := none, kwonlyargs := [], kw_defaults := [], kwarg := none, defaults := [] } (.Call (.Name (Str.ofString "list") p0) [.Call (.Name (Str.ofString "decode_mailbox") p1) [.Name (Str.ofString "some") p2] [] p3] [] p4)
      { kind := .function, names := [(Str.ofString "some", .free), (Str.ofString "list", .globalImplicit), (Str.ofString "decode_mailbox", .globalImplicit)], isGenerator := false, isCoroutine := false } [(Str.ofString "some", co)] pm c' ctv) ∈ news)
    (hc : (c', oc) ∈ news) (hd : oc.data = .fields vs) (hv : vs[1]? = some (.str qual tq)) (ho : (co, oo) ∈ news) (hoo : oo.data = .cell (some (.bytes b tb)))
    (hbi : KBw.bInts b = ks) (hbl : ks.length ≤ 1000000) :
    RunsE w f [] 8 news (DecRet ks) (fun e => Dec ks 0 (-1) (.error e)) := by
  unfold RunsE
  k_fill
  intro p loose mean mg mb dp un gd cn cs a ccd cl outer A₀ base h₀ L m s Q E B F X N T hk hdp hu hret hexc
  refine wpAny_call ?_
  k_dflt (refine' kla_code ?k1 ?k2 ?k3 ?k4 ?k5 ?kA ?kF ?kK ?k6 ?k7 ?k8 ?k9 ?kB ?_ ?c2 ?c3 ?c4 ?c5; (case kA => exact rfl); (case kF => exact rfl); (case kK => assumption); (case k1 => k_asm); (case k2 => k_asm); (case k3 => k_asm); (case k4 => k_asm); (case k5 => k_asm); (case k6 => exact hf); (case k7 => exact codeRec_news N hc hd hv); (case k8 => ktr_room); (case k9 => exact rfl); (case c5 => decide); (case kB => exact locs rfl); (case c2 => exact rfl); (case c3 => exact rfl); (case c4 => exact rfl); k_whole; intro g' L' h' FG' F' N' B' X' T'; (try dsimp only); (try k_lift B'); (try k_fold))
  k_steps
  k_dflt refine' use_runsE (runs_dec _ _ _ _ _ hbi hbl) ?k1 ?k2 ?k3 ?k4 ?k5 ?kK ?kd ?ku (fun r tl h' tk' F' N' kl kr => ?_) (fun e d t x9 tk tk1 tk2 tk' h' G kRD kFG kU kX => ?_)
  case k1 => k_asm
  case k2 => k_asm
  case k3 => k_asm
  case k4 => k_asm
  case k5 => k_asm
  case kK => exact rfl
  case kd => ktr_room
  case ku => ktr_units
  · obtain ⟨lt, us, nn, cs', rfl, rfl, kI, kz, kD⟩ := kr
    dsimp only [List.cons_append, List.nil_append] at N'
    have hlt : ∀ p ∈ news, p.1 < lt := fun p hp => kl p hp _ (.head _)
    k_steps
    rename_i l1 kF kN Tc kX
    exact dec_fin hret kF kN (allLt_mem l1.2) kI kz kD
  · k_steps
    exact pass_fin (Err := fun e => Dec ks 0 (-1) (.error e)) (tl := [(d, toldOf w "told" tk (.ref t)), (t, tupOf [.int x9.1 tk1, .str x9.2 tk2])]) hexc B' FG' kFG kRD kU ⟨tk, t, tk1, tk2, .head _, .tail _ (.head _)⟩ kX (fun p hp => hp) rfl rfl
end Mine
end PartU2

section PartK3
example : True := by
  w_top off
  trivial
open PySem PySem.W PyProof.Rows PySem.Calls PySem.Spec
set_option Elab.async false
set_option maxRecDepth 100000
namespace Mine
section
variable {prog : Program} {w : World} {A : Around} {E : Value → Shared → Prop} {s : Shared} {env : Env} {target : PySem.Expr} {body : List Stmt} {Q : Flow → Shared → Prop}
/-- what holds behind a turn -/
def TurnEnd (fp : List Addr) (h₁ : Heap) (Inv : Heap → Prop) (s s' : Shared) : Prop := ∃ h' tk', s' = { s with heap := h', toks := tk' } ∧ Inv h' ∧ ∀ b ∈ fp, ∀ o, h₁.get? b = some o → h'.get? b = some o
def TurnPost (fp : List Addr) (h₁ : Heap) (Inv : Heap → Prop) (Q : Flow → Shared → Prop) (s : Shared) (f : Flow) (s' : Shared) : Prop := match f with
  | .ret v => Q (.ret v) s'
  | .brk => Q .next s'
  | _ => TurnEnd fp h₁ Inv s s'
theorem turn_end {fp : List Addr} {h₁ : Heap} {Inv : Heap → Prop} {h' : Heap} {tk' : Nat} (hi : Inv h') (ho : ∀ b ∈ fp, ∀ o, h₁.get? b = some o → h'.get? b = some o) : TurnEnd fp h₁ Inv s { s with heap := h', toks := tk' } := ⟨h', tk', rfl, hi, ho⟩
/-- a for, by anything that holds of the heap between the turns: the ground may turn -/
theorem for_walk {I : Addr} {n : Nat} {fp : List Addr} {Pv : Nat → Value → Prop} {St : Nat → Heap → Prop} (Inv : Nat → Heap → Prop) (W : Walks prog w A I fp [I] n Pv St)
    (hgo : ∀ (v : Value) (s' : Shared) (Q' : Unit → Shared → Prop) (E' : Value → Shared → Prop), Q' () s' → wpAny (model prog w) A (letOwnedTupleGo target (.ref I) v) Q' E' s')
    (hst : St 0 s.heap) (h0 : Inv 0 s.heap) (stab : ∀ i h h', Inv i h → (∀ b o, b ≠ I → h.get? b = some o → h'.get? b = some o) → Inv i h')
    (turn : ∀ i v h tk, i < n → Pv i v → Inv i h → St (i + 1) h → wpAny (model prog w) A (assign target env v) (fun _ s₃ => wpAny (model prog w) A (execs body env) (fun f s₄ => TurnPost fp h (Inv (i + 1)) Q s f s₄) E s₃) E { s with heap := h, toks := tk })
    (done : ∀ h tk, Inv n h → Q .next { s with heap := h, toks := tk }) (hE : PassesOwn (model prog w) A env E := by passes_own) :
    codeAny (model prog w) A (.forLoop target (.ref I) body [] env) (fun r s' => match r with | .ok f => Q f s' | .error e => cameBackBy (model prog w) A env E e s') s := by
  refine codeAny_forLoop_any (fun k s' => ∃ h' tk' i, s' = { s with heap := h', toks := tk' } ∧ St i h' ∧ Inv i h' ∧ i ≤ n ∧ k = n + 1 - i) ?_ (n + 1) ⟨s.heap, s.toks, 0, rfl, hst, h0, Nat.zero_le _, rfl⟩
  rintro k s' ⟨h', tk', i, rfl, st, hi, hin, rfl⟩
  by_cases hlt : i < n
  · refine W.item i _ _ _ hlt st fun v h₁ tk₁ hP st₁ hk₁ => ?_
    refine hgo _ _ _ _ ?_
    refine wpAny_mono (turn i v h₁ tk₁ hlt hP (stab i h' h₁ hi fun b o hb e => hk₁ b o (by simpa using hb) e) st₁) (fun _ s₂ h₂ => wpAny_passesOwn hE (wpAny_mono h₂ (fun f s₃ h₃ => ?_) fun _ _ x => x)) hE
    have next : TurnEnd fp h₁ (Inv (i + 1)) s s₃ → ∃ m, m < n + 1 - i ∧ ∃ h' tk' j, s₃ = { s with heap := h', toks := tk' } ∧ St j h' ∧ Inv j h' ∧ j ≤ n ∧ m = n + 1 - j := by
      rintro ⟨h₄, tk₄, rfl, hi₄, ho₄⟩
      exact ⟨n + 1 - (i + 1), by omega, h₄, tk₄, i + 1, rfl, W.frame _ _ _ st₁ ho₄, hi₄, hlt, rfl⟩
    cases f with
    | ret v => exact h₃
    | brk => exact h₃
    | next => exact next h₃
    | cont => exact next h₃
  · obtain rfl : i = n := by omega
    refine W.done _ _ _ st fun h₁ tk₁ hk₁ => wpAny_execs_nil ?_
    exact done h₁ tk₁ (stab i h' h₁ hi fun b o hb e => hk₁ b o (by simpa using hb) e)
end
end Mine
end PartK3

section PartK4
example : True := by
  w_top off
  trivial
open PySem PySem.W PyProof.Rows PySem.Calls PySem.Spec
set_option Elab.async false
set_option maxRecDepth 100000
namespace Mine
section
variable {prog : Program} {w : World} {A : Around} {E : Value → Shared → Prop} {s : Shared} {R : Value → Shared → Prop}
/-- range(n), iterated -/
theorem iter_range {n : Nat} {t : Tok} (hh : A.handled = none) (hn : n ≤ 16777216)
    (k : ∀ I h tk, s.heap.objs.size ≤ I → (∀ b o, s.heap.get? b = some o → h.get? b = some o) → Walks prog w A I [I] [I] n (fun i v => ∃ t, v = .int (0 + i * 1) t) (fun i h => IsRangeIter h I (0 + (i : Nat) * 1) ((n : Int) - (i : Nat)) 1) → IsRangeIter h I (0 + ((0 : Nat) : Int) * 1) ((n : Int) - ((0 : Nat) : Int)) 1 → R (.ref I) { s with heap := h, toks := tk }) :
    wpAny (model prog w) A (call (.type "range") [.int (n : Int) t]) (fun xv s₁ => wpAny (model prog w) A (pyIter xv) R E s₁) E s := by
  refine call_range_1 ?_
  have hsz : Builtin.Range.rangeSize 0 (n : Int) 1 = (n : Int) := by rw [rangeSize_one]; split <;> omega
  have hsm : Builtin.Range.small 0 (n : Int) 1 = true := small_one (by decide) (by decide) (by omega) (by omega)
  refine wpAny_pyIter_range (IsRange.new _ _ _ _ _ _ _) hsm ?_
  rw [hsz]
  have e : ∀ hp : Heap, IsRangeIter (hp.push { cls := .type "range_iterator", data := .fields #[rawInt 0, rawInt (n : Int), rawInt 1] }) hp.objs.size (0 + ((0 : Nat) : Int) * 1) ((n : Int) - ((0 : Nat) : Int)) 1 := fun hp => by simpa using Heap.get?_push_size _ rfl
  refine k _ _ _ ?_ (fun b o e => Heap.get?_push_of_some _ (Heap.get?_push_of_some _ e)) (Walks.range hh _ 0 1 n) (e _)
  show s.heap.objs.size ≤ (s.heap.push _).objs.size
  rw [Heap.size_push]; omega
/-- a tuple, iterated -/
theorem iter_tuple {T : Addr} {items : Array Value} (hh : A.handled = none) (hl : s.heap.IsTuple T items)
    (k : ∀ I h tk, s.heap.objs.size ≤ I → (∀ b o, s.heap.get? b = some o → h.get? b = some o) → (∃ St : Nat → Heap → Prop, Walks prog w A I [I, T] [I] items.size (fun i v => items[i]? = some v) St ∧ St 0 h ∧ ∀ i h, St i h → ∃ o, h.get? I = some o ∧ ∀ es n, o.data ≠ .dict es n) → R (.ref I) { s with heap := h, toks := tk }) :
    wpAny (model prog w) A (pyIter (.ref T)) R E s := by
  have hne : T ≠ s.heap.objs.size := by obtain ⟨o, ho, _⟩ := hl; exact Nat.ne_of_lt (Heap.lt_size ho)
  refine wpAny_pyIter_tuple hl ?_
  refine k _ _ _ (Nat.le_refl _) (fun b o e => Heap.get?_push_of_some _ e) ⟨_, Walks.tuple hh s.heap.objs.size T hne items, ?_, ?_⟩
  · have e : (s.heap.push { cls := .type "tuple_iterator", data := .fields #[.ref T, .int 0 0] }).get? s.heap.objs.size = some { cls := .type "tuple_iterator", data := .fields #[.ref T, .int 0 0] } := Heap.get?_push_size _ rfl
    exact ⟨⟨_, e, rfl, rfl⟩, hl.at fun o e => Heap.get?_push_of_some _ e⟩
  · rintro i h ⟨⟨it, hit, hic, hid⟩, _⟩
    exact ⟨it, hit, fun es n q => by rw [hid] at q; cases q⟩
end
end Mine
end PartK4

section PartV1
example : True := by
  w_top off
  trivial
open PySem PySem.W PyProof.Rows PySem.Calls PySem.Spec PyProof.V
set_option Elab.async false
set_option maxRecDepth 100000
namespace Mine
section
variable {prog : Program} {w : World} {A : Around} {E Q : Value → Shared → Prop} {s : Shared} {h₀ : Heap} {L a b la lb : Addr} {news : List (Addr × Obj)} {its its2 : Array Value} {n n2 : Nat} {ns : List Int} {k : Int} {g : Str} {t t2 u u2 : Tok}
theorem ne_lists (N : News h₀ L s.heap news) (ha : (a, listOf its n) ∈ news) (hb : (b, listOf its2 n2) ∈ news) (hi : IntsAre its.toList ns) (hj : IntsAre its2.toList ns) (hu : A.units + 64 < cLine) (h : Q (.bool false) s) :
    wpAny (model prog w) A (compareOp .NotEq (.ref a) (.ref b)) Q E s := by
  have ha' : s.heap.IsList a its.toList.toArray := by rw [Array.toArray_toList]; exact N.isList ha
  have hb' : s.heap.IsList b its2.toList.toArray := by rw [Array.toArray_toList]; exact N.isList hb
  refine ke_ne_ints ha' hb' hi hj hu ?_
  simpa using h
theorem reads_ints (N : News h₀ L s.heap news) (ha : (a, listOf its n) ∈ news) (hi : IntsAre its.toList ns) : ∃ as, Reads s.heap (.ref a) (.list (ns.map PyData.int)) as := by
  have ha' : s.heap.IsList a its.toList.toArray := by rw [Array.toArray_toList]; exact N.isList ha
  exact ⟨_, reads_newData ha' (ke_carried hi)⟩
theorem sameAll_ints (ns : List Int) : Spec.sameAll (ns.map PyData.int) (ns.map PyData.int) = true := by rw [ke_sameAll]; simp
theorem ne_pairs (N : News h₀ L s.heap news) (ha : (a, tupOf [.ref la, .int k t]) ∈ news) (hb : (b, tupOf [.ref lb, .int k t2]) ∈ news) (hla : (la, listOf its n) ∈ news) (hlb : (lb, listOf its2 n2) ∈ news) (hi : IntsAre its.toList ns) (hj : IntsAre its2.toList ns) (hu : A.units + 64 < cLine) (h : Q (.bool false) s) :
    wpAny (model prog w) A (compareOp .NotEq (.ref a) (.ref b)) Q E s := by
  obtain ⟨xa, ra⟩ := reads_ints N hla hi
  obtain ⟨xb, rb⟩ := reads_ints N hlb hj
  have hs : SeqAt.shaped (.tuple [.list (ns.map PyData.int), .int k]) = true := by
    simp [SeqAt.shaped, PyData.canLay0, PyData.canLayAll0, PyData.depth, PyData.depthAll, ke_canLayAll0, ke_depthAll]
  have hsh : (Shape.tuple [.list .int, .int]).has (.tuple [.list (ns.map PyData.int), .int k]) = true := by
    have := list_map_has (sh := .int) (g := PyData.int) (l := ns) fun _ => by simp [Shape.has]
    simp only [Shape.has] at this
    simp [Shape.has, Shape.hasAll]
  refine ne_dataH_same (Reads.tuple (N _ ha).1 rfl rfl (.cons ra (.cons (.int _ _) .nil))) (Reads.tuple (N _ hb).1 rfl rfl (.cons rb (.cons (.int _ _) .nil))) hs hs hu (SeqAt.noMix_of_shape (.tuple [.list .int, .int]) rfl _ _ hsh hsh) ?_
  have e : Spec.same (PyData.tuple [.list (ns.map PyData.int), .int k]) (PyData.tuple [.list (ns.map PyData.int), .int k]) = true := by
    simp [Spec.same, Spec.sameAll, sameAll_ints]
  rw [e]; exact h
theorem ne_faults (hg : PyData.strOk g = true) (N : News h₀ L s.heap news) (ha : (a, tupOf [.int k t, .str g u]) ∈ news) (hb : (b, tupOf [.int k t2, .str g u2]) ∈ news) (hu : A.units + 64 < cLine) (h : Q (.bool false) s) :
    wpAny (model prog w) A (compareOp .NotEq (.ref a) (.ref b)) Q E s := by
  have hs : SeqAt.shaped (.tuple [.int k, .str g]) = true := by
    simp [SeqAt.shaped, PyData.canLay0, PyData.canLayAll0, PyData.depth, PyData.depthAll, hg]
  have hsh : (Shape.tuple [.int, .str]).has (.tuple [.int k, .str g]) = true := by
    simp [Shape.has, Shape.hasAll]
  refine ne_dataH_same (Reads.tuple (N _ ha).1 rfl rfl (.cons (.int _ _) (.cons (.str _ _) .nil))) (Reads.tuple (N _ hb).1 rfl rfl (.cons (.int _ _) (.cons (.str _ _) .nil))) hs hs hu (SeqAt.noMix_of_shape (.tuple [.int, .str]) rfl _ _ hsh hsh) ?_
  have e : Spec.same (PyData.tuple [.int k, .str g]) (PyData.tuple [.int k, .str g]) = true := by
    simp [Spec.same, Spec.sameAll]
  rw [e]; exact h
end
end Mine
end PartV1

section PartV2
example : True := by
  w_top off
  trivial
open PySem PySem.W PyProof.Rows
set_option Elab.async false
namespace Mine
def GoodR (R : Res) : Prop := match R with
  | .ok _ => True
  | .error e => PyData.strOk e.2 = true
theorem good_map {R : Res} {f : List Int → List Int} (h : GoodR R) : GoodR (R.map f) := by cases R <;> exact h
theorem good_one {st : Int} {a : Nat} {u : Int} {k : Res} (h : GoodR k) : GoodR (one st a u k) := by
  unfold one
  split
  · exact show PyData.strOk mLone = true by decide +kernel
  split
  · exact show PyData.strOk mNeed = true by decide +kernel
  · exact good_map h
theorem good_rd (st : Int) : ∀ (n : Nat) (U : List Int) (a : Nat), U.length ≤ n → GoodR (rd st a U) := by
  intro n
  induction n with
  | zero =>
    intro U a h
    obtain rfl : U = [] := List.eq_nil_of_length_eq_zero (by omega)
    rw [rd]; trivial
  | succ n ih =>
    intro U a h
    match U, h with
    | [], _ => rw [rd]; trivial
    | [u], _ => rw [rd]; exact good_one trivial
    | u :: v :: r, h =>
      rw [rd]
      simp only [List.length_cons] at h
      split
      · exact good_map (ih _ _ (by omega))
      · exact good_one (ih _ _ (by simp only [List.length_cons]; omega))
theorem good_tells {ks : List Int} {a : Nat} : GoodR (runTells ks a) := by
  unfold runTells rdAll
  have := good_rd (a : Int) _ (ufold (runOf ks a)).1 0 (Nat.le_refl _)
  cases e : rd (a : Int) 0 (ufold (runOf ks a)).1 with
  | error x => rw [e] at this; exact this
  | ok cs =>
    dsimp only
    split
    · trivial
    · exact show PyData.strOk mLeft = true by decide +kernel
theorem mail_good {ks : List Int} {x : Int} {sp : Bool} {e : Int} {g : Str} (h : mailRun ks x sp = .error (e, g)) : PyData.strOk g = true := by
  unfold mailRun at h
  split at h
  · cases h
  split at h
  · cases h; decide +kernel
  split at h
  · cases h; decide +kernel
  split at h
  · rename_i y hy
    cases h
    have := good_tells (ks := ks) (a := (x + 1).toNat)
    rw [hy] at this; exact this
  · split at h
    · cases h
    · cases h; decide +kernel
theorem dec_good {ks : List Int} {x bh : Int} {R : Res} (h : Dec ks x bh R) : GoodR R := by
  induction h with
  | done => trivial
  | bad _ _ h => rename_i e _ _; obtain ⟨e1, e2⟩ := e; exact mail_good h
  | run _ _ _ _ ih => exact good_map ih
  | sign _ _ _ _ ih => exact good_map ih
  | not => exact show PyData.strOk mDirect = true by decide +kernel
end Mine
end PartV2

section PartU3
example : True := by
  w_top off
  trivial
open PySem PySem.W PyProof.Rows
set_option Elab.async false
namespace Mine
local macro_rules | `(tactic| omega) => `(tactic| first | (with_reducible assumption) | lia | omega +splitDisjunctions)
set_option maxRecDepth 100000
set_option maxHeartbeats 1000000
local macro_rules | `(tactic| k_all) => `(tactic| first | with_unfolding_all assumption | exact List.forall_mem_nil _ | (refine' List.forall_mem_cons.mpr ⟨?a, ?b⟩; (case a => k_ne); (case b => k_all)))
local macro_rules | `(tactic| walk_at "exec For") => `(tactic| (k_here; refine stop ?_))
local macro_rules | `(tactic| walk_at "exec For Name Call cons nil") => `(tactic| (k_here; refine stop ?_))
local macro_rules | `(tactic| walk_at "exec For Name Tuple cons nil") => `(tactic| (k_here; refine stop ?_))
local macro_rules | `(tactic| walk_at "pyIter ref") => `(tactic| (k_here; refine stop ?_))
local macro_rules | `(tactic| walk_at "pyIter") => `(tactic| (k_here; refine stop ?_))
local macro_rules | `(tactic| walk_at "TurnPost") => `(tactic| (dsimp only [TurnPost]))
local macro_rules | `(tactic| walk_at "call type:range") => `(tactic| (k_here; refine stop ?_))
local macro_rules | `(tactic| walk_at "eval Lambda") => `(tactic| (k_here; refine stop ?_))
local macro_rules | `(tactic| walk_at "compareOp NotEq ref ref") => `(tactic| (k_here; refine stop ?_))
local macro_rules | `(tactic| walk_at "isTrue BoolOp") => `(tactic| (k_here; (with_reducible show wpAny _ _ (isTrue (PySem.Expr.BoolOp _ (_ :: _ :: _) _) _ _) _ _ _); refine stop ?_))
local macro_rules | `(tactic| walk_at "compareOp NotEq bytes bytes") => `(tactic| (k_here; refine stop ?_))
local macro_rules | `(tactic| walk_at "call ref") => `(tactic| (k_here; refine stop ?_))
theorem fr_stab {g h h' : Heap} {L I : Addr} {m : Str → Option Value} (F : Fr g L h m) (hI : g.get? I = none) (hL : L ≠ I) (hk : ∀ b o, b ≠ I → h.get? b = some o → h'.get? b = some o) : Fr g L h' m :=
  ⟨F.ns.at' fun o e => hk _ o hL e, fun b o e => hk b o (fun q => by rw [q, hI] at e; cases e) (F.keep b o e), F.above⟩
theorem news_stab {g h h' : Heap} {L I : Addr} {news : List (Addr × Obj)} (N : News g L h news) (hI : ∀ p ∈ news, p.1 ≠ I) (hk : ∀ b o, b ≠ I → h.get? b = some o → h'.get? b = some o) : News g L h' news :=
  fun p hp => ⟨hk _ _ (hI p hp) (N p hp).1, (N p hp).2⟩
def InvO (A : Around) (base : Heap) (env : Env) (L L' I x : Addr) (g : Heap) (o1 ox : Obj) (h : Heap) : Prop :=
  ∃ g' m' o3 o2 v3 v2 tabs, KtsTurn [L] g g' ∧ Below A base [env] g' ∧ Fr g' L' h m' ∧ News g' L' h ((L' + 1 + 1 + 1, o3) :: (L' + 1 + 1, o2) :: (L' + 1, o1) :: (x, ox) :: tabs) ∧ o3.data = .cell v3 ∧ o2.data = .cell v2 ∧
    TabL 172 (Str.ofString "_law_runs_right.<locals>.<lambda>") ⟨200, 29, 200, 67⟩ tabs ∧ ∀ q ∈ tabs, q.1 ≠ I ∧ L' + 1 + 1 + 1 ≠ q.1 ∧ L' + 1 + 1 ≠ q.1 ∧ L' + 1 ≠ q.1 ∧ x ≠ q.1
def InvI (A : Around) (base : Heap) (env : Env) (L L' I2 T I1 x : Addr) (g : Heap) (oT oI o2 o1 ox : Obj) (h : Heap) : Prop :=
  ∃ g' m' o3 v3 tabs, KtsTurn [L] g g' ∧ Below A base [env] g' ∧ Fr g' L' h m' ∧ News g' L' h ((T, oT) :: (I1, oI) :: (L' + 1 + 1 + 1, o3) :: (L' + 1 + 1, o2) :: (L' + 1, o1) :: (x, ox) :: tabs) ∧ o3.data = .cell v3 ∧
    TabL 172 (Str.ofString "_law_runs_right.<locals>.<lambda>") ⟨200, 29, 200, 67⟩ tabs ∧ ∀ q ∈ tabs, q.1 ≠ I2 ∧ q.1 ≠ T ∧ q.1 ≠ I1 ∧ L' + 1 + 1 + 1 ≠ q.1 ∧ L' + 1 + 1 ≠ q.1 ∧ L' + 1 ≠ q.1 ∧ x ≠ q.1
theorem invO_end {A : Around} {base : Heap} {env : Env} {L L' I x : Addr} {g g' : Heap} {o1 o2 o3 oI ox : Obj} {v3 v2 : Option Value} {tabs l : List (Addr × Obj)} {h₁ h : Heap} {m' : Str → Option Value} {s : Shared} {tk : Nat} (T : KtsTurn [L] g g') (B : Below A base [env] g') (F : Fr g' L' h m') (N : News g' L' h l) (hI : h₁.get? I = some oI) (mI : (I, oI) ∈ l) (m3 : (L' + 1 + 1 + 1, o3) ∈ l) (m2 : (L' + 1 + 1, o2) ∈ l) (m1 : (L' + 1, o1) ∈ l) (mt : ∀ p ∈ (x, ox) :: tabs, p ∈ l)
    (e3 : o3.data = .cell v3) (e2 : o2.data = .cell v2) (ht : TabL 172 (Str.ofString "_law_runs_right.<locals>.<lambda>") ⟨200, 29, 200, 67⟩ tabs) (hd : ∀ q ∈ tabs, q.1 ≠ I ∧ L' + 1 + 1 + 1 ≠ q.1 ∧ L' + 1 + 1 ≠ q.1 ∧ L' + 1 ≠ q.1 ∧ x ≠ q.1) :
    TurnEnd [I] h₁ (fun h => InvO A base env L L' I x g o1 ox h) s { s with heap := h, toks := tk } := by
  refine turn_end ⟨g', m', o3, o2, v3, v2, tabs, T, B, F, fun p hp => N p ?_, e3, e2, ht, hd⟩ fun b hb o e => ?_
  · rcases List.mem_cons.mp hp with rfl | hp
    · exact m3
    rcases List.mem_cons.mp hp with rfl | hp
    · exact m2
    rcases List.mem_cons.mp hp with rfl | hp
    · exact m1
    · exact mt p hp
  · rw [List.mem_singleton.mp hb] at e ⊢
    rw [hI] at e
    cases e
    exact (N _ mI).1
theorem invI_end {A : Around} {base : Heap} {env : Env} {L L' I2 T I1 x : Addr} {g g' : Heap} {oT oI o1 o2 o3 oJ ox : Obj} {v3 : Option Value} {tabs l : List (Addr × Obj)} {h₁ h : Heap} {m' : Str → Option Value} {s : Shared} {tk : Nat} (TT : KtsTurn [L] g g') (B : Below A base [env] g') (F : Fr g' L' h m') (N : News g' L' h l) (hI : h₁.get? I2 = some oJ) (hT : h₁.get? T = some oT) (mI : (I2, oJ) ∈ l) (mt : ∀ p ∈ (T, oT) :: (I1, oI) :: (L' + 1 + 1 + 1, o3) :: (L' + 1 + 1, o2) :: (L' + 1, o1) :: (x, ox) :: tabs, p ∈ l)
    (e3 : o3.data = .cell v3) (ht : TabL 172 (Str.ofString "_law_runs_right.<locals>.<lambda>") ⟨200, 29, 200, 67⟩ tabs) (hd : ∀ q ∈ tabs, q.1 ≠ I2 ∧ q.1 ≠ T ∧ q.1 ≠ I1 ∧ L' + 1 + 1 + 1 ≠ q.1 ∧ L' + 1 + 1 ≠ q.1 ∧ L' + 1 ≠ q.1 ∧ x ≠ q.1) :
    TurnEnd [I2, T] h₁ (fun h => InvI A base env L L' I2 T I1 x g oT oI o2 o1 ox h) s { s with heap := h, toks := tk } := by
  refine turn_end ⟨g', m', o3, v3, tabs, TT, B, F, fun p hp => N p (mt p hp), e3, ht, hd⟩ fun b hb o e => ?_
  rcases List.mem_cons.mp hb with rfl | hb
  · rw [hI] at e; cases e; exact (N _ mI).1
  · rw [List.mem_singleton.mp hb] at e ⊢
    rw [hT] at e; cases e; exact (N _ (mt _ (.head _))).1
theorem tabl_has {P : Addr} {qual : Str} {pos : Pos} {tabs : List (Addr × Obj)} (h : TabL P qual pos tabs) : ∃ ps, (P, tabObj ps) ∈ tabs := by
  rcases h with rfl | ⟨c', oc, vs, t, rfl, _⟩
  · exact ⟨_, .head _⟩
  · exact ⟨_, .tail _ (.head _)⟩
theorem runs_rr (w : World) (b : Array UInt8) (ks : List Int) (tb : Tok) (xx : Addr) (ox : Obj) (hxx : xx ≠ 172) (hbi : KBw.bInts b = ks) (hbl : ks.length ≤ 10000) :
  ∀ (p : Program) (loose : List Str) (mean : ExcName → Option Value) (mg mb : Str → Option Value) (dp un : Nat) (gd : Option (List Code)) (cn : Str) (cs : Scope) (a : Addr) (ccd : Value) (cl : List (Str × Addr))
    (A₀ : Around) (base h₀ : Heap) (L : Addr) (m : Str → Option Value) (s : Shared) (Q E : Value → Shared → Prop),
    Below A₀ base [] h₀ → Fr h₀ L s.heap m → (hd.heap_1 w.params).In h₀ → News h₀ L s.heap [(xx, ox), (172, tabObj #[])] → Top p loose mean mg mb h₀ → (hd.heap_1 w.params).In base → Top p loose mean mg mb base → CodeHd h₀ 176 172 → cs.kind = .function → dp + 12 < recursionLimit → un + 8 * 12 + 64 < cLine →
    (∀ h' tk' ps, Fr h₀ L h' m → News h₀ L h' [(172, tabObj ps), (xx, ox)] → Q (.bool true) { s with heap := h', toks := tk' }) →
    wpAny (model Challenge.rw_pq1296_01.row.prog w) (ktrTop dp un gd cn cs L a ccd cl []) (call (.ref 177) [.bytes b tb]) Q E s := by
  k_fill
  intro p loose mean mg mb dp un gd cn cs a ccd cl A₀ base h₀ L m s Q E B F X N T XB TB C hk hd hu hret
  refine wpAny_call ?_
  k_dflt (refine' code_TC ?k1 ?k2 ?k3 ?k4 ?k5 ?kD ?kA ?kF ?kK ?k6 ?k7 ?k8 ?k9 ?kB ?kN ?_ ?c2 ?c3 ?c4; (case kA => exact rfl); (case kF => exact rfl); (case kK => assumption); (case k1 => k_asm); (case kD => exact ktsDicts_nil); (case k2 => k_asm); (case k3 => k_asm); (case k4 => k_asm); (case k5 => k_asm); (case k6 => k_is); (case k7 => k_is); (case k8 => ktr_room); (case k9 => exact BindsTo.of_eq rfl); (case kB => exact rfl); (case kN => decide); (case c2 => exact rfl); (case c3 => exact rfl); (case c4 => exact rfl); k_whole; intro g' L' h' tk' cells FG' F' N' Y' B' X' T' D' l0)
  obtain ⟨o3, o2, o1, rfl, d3, d2, d1⟩ := CellsAre.three Y'
  have d3' : o3.data = .cell none := d3
  have d2' : o2.data = .cell none := d2
  have d1' : o1.data = .cell (some (.bytes b tb)) := d1
  clear Y' d1 d2 d3
  try dsimp only [List.cons_append, List.nil_append] at N'
  have hL0 : @LT.lt Nat _ 172 L' := l0 (172, tabObj #[]) (.tail _ (.head _))
  have hLx : @LT.lt Nat _ xx L' := l0 (xx, ox) (.head _)
  have hxx' : @Ne Nat xx 172 := hxx
  k_steps
  unfold Stop
  refine wpAny_For ?_
  k_steps
  unfold Stop
  k_dflt refine iter_range (n := ks.length) rfl (by omega) fun I1 h1 tk1 hI1 hk1 W1 st1 => ?_
  have hLI : L' < I1 := Nat.lt_of_lt_of_le F'.ns.lt hI1
  have hN3 : @LT.lt Nat _ (L' + 1 + 1 + 1) I1 := Nat.lt_of_lt_of_le (Heap.lt_size (N' _ (.head _)).1) hI1
  have hgI1 : g'.get? I1 = none := Heap.get?_none_of_le (Nat.le_trans F'.above (Nat.le_of_lt hLI))
  k_dflt refine' for_walk (fun _ h => InvO (ktrTop dp un gd cn cs L a ccd cl []) base (envX cn cs L a ccd cl) L L' I1 xx g' o1 ox h) W1 (fun v s' Q' E' q => wpAny_pure q) st1 ?h0 ?stab ?turn ?done ?hE
  case hE => with_unfolding_all passes_own
  case h0 =>
    refine ⟨g', _, o3, o2, none, none, [(172, tabObj #[])], .refl, B', ⟨F'.ns.keeps hk1, fun b o e => hk1 _ _ (F'.keep b o e), F'.above⟩, fun p hp => ⟨hk1 _ _ (N' p hp).1, (N' p hp).2⟩, d3', d2', .inl rfl, fun q hq => ?_⟩
    rw [List.mem_singleton.mp hq]
    refine ⟨?_, ?_, ?_, ?_, ?_⟩ <;> (refine neN ?_; dsimp only; omega)
  case stab =>
    rintro i h h' ⟨g2, m2, o3, o2, v3, v2, tabs, T2, B2, F2, N2, e3, e2, ht, hdis⟩ hk
    refine ⟨g2, m2, o3, o2, v3, v2, tabs, T2, B2, fr_stab F2 (T2.none_ _ hgI1) (Nat.ne_of_lt hLI) hk, news_stab N2 (fun p hp => ?_) hk, e3, e2, ht, hdis⟩
    rcases List.mem_cons.mp hp with rfl | hp
    · refine neN ?_; dsimp only; omega
    rcases List.mem_cons.mp hp with rfl | hp
    · refine neN ?_; dsimp only; omega
    rcases List.mem_cons.mp hp with rfl | hp
    · refine neN ?_; dsimp only; omega
    rcases List.mem_cons.mp hp with rfl | hp
    · refine neN ?_; dsimp only; omega
    · exact (hdis p hp).1
  case done =>
    rintro h tk ⟨g2, m2, o3, o2, v3, v2, tabs, T2, B2, F2, N2, e3, e2, ht, hdis⟩
    k_steps
    obtain ⟨ps, hps⟩ := tabl_has ht
    exact ⟨g2, L', m2, _, T2, F2, N2, fun h₀' T9 F9 N9 B9 => hret _ _ ps (turn_fr T9 F9) fun p hp => turn_news T9 N9 p (by
      rcases List.mem_cons.mp hp with rfl | hp
      · exact .tail _ (.tail _ (.tail _ (.tail _ hps)))
      · rw [List.mem_singleton.mp hp]; exact .tail _ (.tail _ (.tail _ (.head _))))⟩
  case turn =>
    rintro i v h tk hi ⟨t, rfl⟩ ⟨g2, m2, o3, o2, v3, v2, tabs, T2, B2, F2, N2, e3, e2, ht, hdis⟩ st
    have e0 : (0 + (i : Int) * 1) = i := by omega
    rw [e0]
    obtain ⟨oI1, hoI1, hnd⟩ : ∃ oI, h.get? I1 = some oI ∧ ∀ es n, oI.data ≠ .dict es n := ⟨_, st, fun es n q => by cases q⟩
    clear st
    have hx0 : 0 ≤ (i : Int) := by omega
    have hx1 : (i : Int) < ks.length := by omega
    generalize (i : Int) = x at hx0 hx1 ⊢
    have N3 : News g2 L' h ((I1, oI1) :: (L' + 1 + 1 + 1, o3) :: (L' + 1 + 1, o2) :: (L' + 1, o1) :: (xx, ox) :: tabs) := fun p hp => by
      rcases List.mem_cons.mp hp with rfl | hp
      · exact ⟨hoI1, Nat.ne_of_gt hLI, T2.none_ _ hgI1⟩
      · exact N2 p hp
    have q3 : ∀ q ∈ tabs, q.1 ≠ L' + 1 + 1 + 1 := fun q hq => (hdis q hq).2.1.symm
    have q2 : ∀ q ∈ tabs, q.1 ≠ L' + 1 + 1 := fun q hq => (hdis q hq).2.2.1.symm
    have q1 : ∀ q ∈ tabs, q.1 ≠ L' + 1 := fun q hq => (hdis q hq).2.2.2.1.symm
    have qI : ∀ q ∈ tabs, q.1 ≠ I1 := fun q hq => (hdis q hq).1
    clear N2
    k_steps
    unfold Stop
    refine' cut_test (ks.getD x.toNat 0 = 38 ∧ ¬ (x + 1 < ks.length ∧ ks.getD (x + 1).toNat 0 = 45)) (by k_asm) (by k_asm) ?t1 ?y1 ?n1
    case t1 =>
      refine isTrue_and ?_
      k_steps
      repeat' ((unfold Stop); (first | ((with_reducible show wpAny _ _ (compareOp PySem.CmpOp.NotEq (Value.bytes _ _) (Value.bytes _ _)) _ _ _); (k_dflt (refine' ne_one (v := 45) ?uh1 ?uh2 ?uh3 ?uh4 ?uh5 ?uh6 ?_)); (case uh1 => assumption); (case uh2 => exact rfl); (case uh3 => exact rfl); (case uh4 => exact rfl); (case uh5 => omega); (case uh6 => omega)) | ((with_reducible show wpAny _ _ (call (Value.ref 149) _) _ _ _); (k_dflt (refine' use_opened ?uk1 ?uk2 ?uk3 ?uk4 ?uk5 ?ukK ?uka1 ?uka2 ?uka3 ?uka4 ?uka5 ?ukd ?uku (fun _ _ _ _ _ _ _ _ _ _ _ kl1 kl2 _ _ _ _ _ => ?_) (fun _ _ _ _ _ _ _ _ _ _ _ kl1 kl2 _ => ?_))); (case uka1 => assumption); (case uka2 => assumption); (case uka3 => assumption); (case uka4 => omega); (case uka5 => omega); (case uk1 => k_asm); (case uk2 => k_asm); (case uk3 => k_asm); (case uk4 => k_asm); (case uk5 => k_asm); (case ukK => first | exact rfl | assumption); (case ukd => ktr_room); (case uku => ktr_units); (all_goals try k_lt kl1); (all_goals try k_lt kl2); (all_goals try k_whole); (all_goals try k_sweep))); (try k_steps))
      all_goals first | exact tested_ (by k_asm) (by k_asm) (yes_iff (by omega)) | exact tested_ (by k_asm) (by k_asm) (no_iff (by omega)) | exact tested_ (by k_asm) (by k_asm) (dec_iff (by omega))
    case n1 =>
      intro h' k F1 N1 hP
      k_steps
      exact invO_end T2 B2 (by k_asm) (by k_asm) hoI1 (.head _) (.tail _ (.head _)) (.tail _ (.tail _ (.head _))) (.tail _ (.tail _ (.tail _ (.head _)))) (fun p hp => .tail _ (.tail _ (.tail _ (.tail _ hp)))) e3 (by assumption) ht hdis
    case y1 =>
      intro h' k F1 N1 hP
      k_steps
      unfold Stop
      refine wpAny_For ?_
      k_steps
      unfold Stop
      rename_i o9 d9 T h9 F9 N9 l9
      k_dflt refine iter_tuple rfl (News.isTup N9 (.head _)) fun I2 h2 tk2 hI2 hk2 ⟨St2, W2, st2, ob2⟩ => ?_
      have hLI2 : L' < I2 := Nat.lt_of_lt_of_le F9.ns.lt hI2
      have lt2 : ∀ p ∈ (T, tupOf [.int (-1) (k + 1), .int x t]) :: (I1, oI1) :: (L' + 1 + 1 + 1, o3) :: (L' + 1 + 1, o9) :: (L' + 1, o1) :: (xx, ox) :: tabs, p.1 < I2 := fun p hp => Nat.lt_of_lt_of_le (Heap.lt_size (N9 p hp).1) hI2
      have hT2 : @LT.lt Nat _ T I2 := lt2 _ (.head _)
      have hgI2 : g'.get? I2 = none := Heap.get?_none_of_le (Nat.le_trans F'.above (Nat.le_of_lt hLI2))
      have hI12 : @LT.lt Nat _ I1 I2 := lt2 _ (.tail _ (.head _))
      have hIT : @LT.lt Nat _ I1 T := l9.1
      clear qI q1 q2 q3
      k_dflt refine' for_walk (fun _ h => InvI (ktrTop dp un gd cn cs L a ccd cl []) base (envX cn cs L a ccd cl) L L' I2 T I1 xx g' (tupOf [.int (-1) (k + 1), .int x t]) oI1 o9 o1 ox h) W2 (fun v s' Q' E' q => wpAny_pure q) st2 ?h0 ?stab ?turn ?done ?hE
      case hE => with_unfolding_all passes_own
      case h0 =>
        refine ⟨g2, m2, o3, v3, tabs, T2, B2, ⟨F9.ns.keeps hk2, fun b o e => hk2 _ _ (F9.keep b o e), F9.above⟩, fun p hp => ⟨hk2 _ _ (N9 p hp).1, (N9 p hp).2⟩, e3, ht, fun q hq => ⟨Nat.ne_of_lt (lt2 q (.tail _ (.tail _ (.tail _ (.tail _ (.tail _ (.tail _ hq))))))), Nat.ne_of_lt (allLt_mem l9.2.2.2.2.2 q hq), (hdis q hq).1, (hdis q hq).2⟩⟩
      case stab =>
        rintro j h h' ⟨g3, m3, o3, v3, tabs, T3, B3, F3, N3, e3, ht, hdis⟩ hk
        refine ⟨g3, m3, o3, v3, tabs, T3, B3, fr_stab F3 (T3.none_ _ hgI2) (Nat.ne_of_lt hLI2) hk, news_stab N3 (fun p hp => ?_) hk, e3, ht, hdis⟩
        rcases List.mem_cons.mp hp with rfl | hp
        · refine neN ?_; dsimp only; omega
        rcases List.mem_cons.mp hp with rfl | hp
        · refine neN ?_; dsimp only; omega
        rcases List.mem_cons.mp hp with rfl | hp
        · refine neN ?_; dsimp only; omega
        rcases List.mem_cons.mp hp with rfl | hp
        · refine neN ?_; dsimp only; omega
        rcases List.mem_cons.mp hp with rfl | hp
        · refine neN ?_; dsimp only; omega
        rcases List.mem_cons.mp hp with rfl | hp
        · refine neN ?_; dsimp only; omega
        · exact (hdis p hp).1
      case done =>
        rintro h tk ⟨g3, m3, o3, v3, tabs, T3, B3, F3, N3, e3, ht, hdis⟩
        k_steps
        exact invO_end T3 B3 (by k_asm) (by k_asm) hoI1 (.tail _ (.head _)) (.tail _ (.tail _ (.head _))) (.tail _ (.tail _ (.tail _ (.head _)))) (.tail _ (.tail _ (.tail _ (.tail _ (.head _))))) (fun p hp => .tail _ (.tail _ (.tail _ (.tail _ (.tail _ hp))))) e3 d9 ht (fun q hq => (hdis q hq).2.2)
      case turn =>
        rintro j v h tk hj hv ⟨g3, m3, o3, v3, tabs, T3, B3, F3, N3, e3, ht, hdis⟩ st
        obtain ⟨oI2, hoI2, hnd2⟩ := ob2 _ _ st
        have hoI2 : h.get? I2 = some oI2 := hoI2
        clear st
        obtain ⟨bh, t2, rfl⟩ : ∃ bh t2, v = .int bh t2 := by
          match j, hv with
          | 0, hv => cases hv; exact ⟨_, _, rfl⟩
          | 1, hv => cases hv; exact ⟨_, _, rfl⟩
          | j + 2, hv => cases hv
        have N4 : News g3 L' h ((I2, oI2) :: (T, tupOf [.int (-1) (k + 1), .int x t]) :: (I1, oI1) :: (L' + 1 + 1 + 1, o3) :: (L' + 1 + 1, o9) :: (L' + 1, o1) :: (xx, ox) :: tabs) := fun p hp => by
          rcases List.mem_cons.mp hp with rfl | hp
          · exact ⟨hoI2, Nat.ne_of_gt hLI2, T3.none_ _ hgI2⟩
          · exact N3 p hp
        have q3 : ∀ q ∈ tabs, q.1 ≠ L' + 1 + 1 + 1 := fun q hq => (hdis q hq).2.2.2.1.symm
        have X3 := XB.keeps B3.stays
        have P3 := TB.keeps B3.stays
        have hnL := kts_self FG'
        have hk3 : ∀ b o, h₀.get? b = some o → g3.get? b = some o := fun b o e => T3.other b o (FG'.keep b o e) fun q => by rw [List.mem_singleton.mp q, hnL] at e; cases e
        have hTT := (N4 _ (.tail _ (.head _))).1
        clear N3
        k_steps
        repeat' ((unfold Stop); (first | ((with_reducible show wpAny _ _ (compareOp PySem.CmpOp.NotEq (Value.bytes _ _) (Value.bytes _ _)) _ _ _); (k_dflt (refine' ne_one (v := 45) ?uh1 ?uh2 ?uh3 ?uh4 ?uh5 ?uh6 ?_)); (case uh1 => assumption); (case uh2 => exact rfl); (case uh3 => exact rfl); (case uh4 => exact rfl); (case uh5 => omega); (case uh6 => omega)) | ((with_reducible show wpAny _ _ (call (Value.ref 149) _) _ _ _); (k_dflt (refine' use_opened ?uk1 ?uk2 ?uk3 ?uk4 ?uk5 ?ukK ?uka1 ?uka2 ?uka3 ?uka4 ?uka5 ?ukd ?uku (fun _ _ _ _ _ _ _ _ _ _ _ kl1 kl2 _ _ _ _ _ => ?_) (fun _ _ _ _ _ _ _ _ _ _ _ kl1 kl2 _ => ?_))); (case uka1 => assumption); (case uka2 => assumption); (case uka3 => assumption); (case uka4 => omega); (case uka5 => omega); (case uk1 => k_asm); (case uk2 => k_asm); (case uk3 => k_asm); (case uk4 => k_asm); (case uk5 => k_asm); (case ukK => first | exact rfl | assumption); (case ukd => ktr_room); (case uku => ktr_units); (all_goals try k_lt kl1); (all_goals try k_lt kl2); (all_goals try k_whole); (all_goals try k_sweep))); (try k_steps))
        · rename_i D _ l1 h8 F8 N8
          rename mailRun _ _ _ = _ => kres
          rename IntsAre _ _ => kI
          rename (I2 < _ ∧ _) => kl1
          rename (_ < _ ∧ I2 < _ ∧ _) => kl2
          rename (_ = Data.cell (some (Value.int bh t2))) => d8
          unfold Stop
          refine kla_eval rfl ?_
          k_dflt refine lam_any (pre := [_, _, _, _, _, _, _, _, _, _]) (tabs := tabs) F8 N8 P3 (C.keeps hk3) rfl ht ?hdis rfl fun f c' oc vs tq ctv h7 tk7 F7 N7 hd7 hv7 hcP q4 q5 q6 q7 q8 => ?_
          case hdis =>
            intro q hq
            obtain ⟨z1, z2, z3, z4, z5, z6, z7⟩ := hdis q hq
            have y1 := allLt_mem l1.2.2.2.2.2.2.2.2.2 q hq
            have y2 := allLt_mem kl2.2.2.2.2.2.2.2.2 q hq
            have y3 := allLt_mem kl1.2.2.2.2.2.2.2 q hq
            exact List.forall_mem_cons.mpr ⟨Nat.ne_of_gt y1, List.forall_mem_cons.mpr ⟨Nat.ne_of_gt y2, List.forall_mem_cons.mpr ⟨Nat.ne_of_gt y3, List.forall_mem_cons.mpr ⟨z1.symm, List.forall_mem_cons.mpr ⟨z2.symm, List.forall_mem_cons.mpr ⟨z3.symm, List.forall_mem_cons.mpr ⟨z4, List.forall_mem_cons.mpr ⟨z5, List.forall_mem_cons.mpr ⟨z6, List.forall_mem_cons.mpr ⟨z7, List.forall_mem_nil _⟩⟩⟩⟩⟩⟩⟩⟩⟩⟩
          k_steps
          unfold Stop
          k_dflt refine' runs_told w f 8 _ _ _ (runs_lam1 w f c' (L' + 1 + 1) (L' + 1 + 1 + 1) (L' + 1) oc o9 _ o1 vs tq _ _ _ ctv b ks tb t t2 x bh _ _ _ _ _ _ (.head _) ?mc hd7 hv7 ?ma d9 ?mb d8 ?mo d1' hbi (by omega) hx0 hx1) _ _ _ _ (.head _) _ _ _ _ _ _ _ _ _ _ _ _ _ _ _ _ _ _ _ _ _ _ B3 F7 X3 N7 P3 XB TB (D'.turn T3) rfl ?rd ?ru fun g6 r tl h6 tk6 T6 F6 N6 B6 hr => ?_
          case mc => exact .tail _ (List.mem_append_right _ (.head _))
          case ma => exact .tail _ (List.mem_append_left _ (.tail _ (.tail _ (.tail _ (.tail _ (.tail _ (.tail _ (.tail _ (.head _)))))))))
          case mb => exact .tail _ (List.mem_append_left _ (.tail _ (.tail _ (.tail _ (.tail _ (.tail _ (.tail _ (.head _))))))))
          case mo => exact .tail _ (List.mem_append_left _ (.tail _ (.tail _ (.tail _ (.tail _ (.tail _ (.tail _ (.tail _ (.tail _ (.head _))))))))))
          case rd => ktr_room
          case ru => ktr_units
          have hd6 : ∀ q ∈ [(c', oc), (172, tabObj #[rawInt ((⟨200, 29, 200, 67⟩ : Pos).line : Nat), rawInt ((⟨200, 29, 200, 67⟩ : Pos).col : Nat), .ref c'])], q.1 ≠ I2 ∧ q.1 ≠ T ∧ q.1 ≠ I1 ∧ L' + 1 + 1 + 1 ≠ q.1 ∧ L' + 1 + 1 ≠ q.1 ∧ L' + 1 ≠ q.1 ∧ xx ≠ q.1 := by
            intro q hq
            rcases List.mem_cons.mp hq with rfl | hq
            · exact ⟨(q4 _ (.tail _ (.tail _ (.tail _ (.head _))))).symm, (q4 _ (.tail _ (.tail _ (.tail _ (.tail _ (.head _)))))).symm, (q4 _ (.tail _ (.tail _ (.tail _ (.tail _ (.tail _ (.head _))))))).symm, q4 _ (.tail _ (.tail _ (.tail _ (.tail _ (.tail _ (.tail _ (.head _))))))), q4 _ (.tail _ (.tail _ (.tail _ (.tail _ (.tail _ (.tail _ (.tail _ (.head _)))))))), q4 _ (.tail _ (.tail _ (.tail _ (.tail _ (.tail _ (.tail _ (.tail _ (.tail _ (.head _))))))))), q4 _ (.tail _ (.tail _ (.tail _ (.tail _ (.tail _ (.tail _ (.tail _ (.tail _ (.tail _ (.head _))))))))))⟩
            · rw [List.mem_singleton.mp hq]
              exact ⟨(q5 _ (.tail _ (.tail _ (.tail _ (.head _))))).symm, (q5 _ (.tail _ (.tail _ (.tail _ (.tail _ (.head _)))))).symm, (q5 _ (.tail _ (.tail _ (.tail _ (.tail _ (.tail _ (.head _))))))).symm, q5 _ (.tail _ (.tail _ (.tail _ (.tail _ (.tail _ (.tail _ (.head _))))))), q5 _ (.tail _ (.tail _ (.tail _ (.tail _ (.tail _ (.tail _ (.tail _ (.head _)))))))), q5 _ (.tail _ (.tail _ (.tail _ (.tail _ (.tail _ (.tail _ (.tail _ (.tail _ (.head _))))))))), q5 _ (.tail _ (.tail _ (.tail _ (.tail _ (.tail _ (.tail _ (.tail _ (.tail _ (.tail _ (.head _))))))))))⟩
          rcases hr with ⟨⟨rt2, lc2, cvs2, nc2, pl2, tk2, cs2, rfl, rfl, _, res2, kI2, _⟩, _⟩ | ⟨ft, x9, _, _, _, _, res2⟩
          · rw [kres] at res2
            cases res2
            have N6' := N6
            clear N6
            dsimp only [List.cons_append, List.nil_append] at N6'
            k_steps
            unfold Stop
            k_dflt refine ne_pairs N6' (.head _) (.tail _ (.tail _ (.tail _ (.head _)))) (.tail _ (.head _)) (.tail _ (.tail _ (.tail _ (.tail _ (.tail _ (.head _)))))) kI2 kI (by ktr_units) ?_
            k_steps
            exact invI_end (T3.trans T6) B6 F6 N6' hoI2 hTT (.tail _ (.tail _ (.tail _ (.tail _ (.tail _ (.tail _ (.head _))))))) (fun p hp => .tail _ (.tail _ (.tail _ (.tail _ (.tail _ (.tail _ (.tail _ hp))))))) d8 (.inr ⟨c', oc, vs, tq, rfl, hd7, hv7, hcP⟩) hd6
          · rw [kres] at res2; cases res2
        · rename_i h8 F8 N8
          rename mailRun _ _ _ = _ => kres
          rename (I2 < _ ∧ _) => kl1
          rename (_ < _ ∧ I2 < _ ∧ _) => kl2
          rename (_ = Data.cell (some (Value.int bh t2))) => d8
          unfold Stop
          refine kla_eval rfl ?_
          k_dflt refine lam_any (pre := [_, _, _, _, _, _, _, _, _]) (tabs := tabs) F8 N8 P3 (C.keeps hk3) rfl ht ?hdis rfl fun f c' oc vs tq ctv h7 tk7 F7 N7 hd7 hv7 hcP q4 q5 q6 q7 q8 => ?_
          case hdis =>
            intro q hq
            obtain ⟨z1, z2, z3, z4, z5, z6, z7⟩ := hdis q hq
            have y2 := allLt_mem kl2.2.2.2.2.2.2.2.2 q hq
            have y3 := allLt_mem kl1.2.2.2.2.2.2.2 q hq
            exact List.forall_mem_cons.mpr ⟨Nat.ne_of_gt y2, List.forall_mem_cons.mpr ⟨Nat.ne_of_gt y3, List.forall_mem_cons.mpr ⟨z1.symm, List.forall_mem_cons.mpr ⟨z2.symm, List.forall_mem_cons.mpr ⟨z3.symm, List.forall_mem_cons.mpr ⟨z4, List.forall_mem_cons.mpr ⟨z5, List.forall_mem_cons.mpr ⟨z6, List.forall_mem_cons.mpr ⟨z7, List.forall_mem_nil _⟩⟩⟩⟩⟩⟩⟩⟩⟩
          k_steps
          unfold Stop
          k_dflt refine' runs_told w f 8 _ _ _ (runs_lam1 w f c' (L' + 1 + 1) (L' + 1 + 1 + 1) (L' + 1) oc o9 _ o1 vs tq _ _ _ ctv b ks tb t t2 x bh _ _ _ _ _ _ (.head _) ?mc hd7 hv7 ?ma d9 ?mb d8 ?mo d1' hbi (by omega) hx0 hx1) _ _ _ _ (.head _) _ _ _ _ _ _ _ _ _ _ _ _ _ _ _ _ _ _ _ _ _ _ B3 F7 X3 N7 P3 XB TB (D'.turn T3) rfl ?rd ?ru fun g6 r tl h6 tk6 T6 F6 N6 B6 hr => ?_
          case mc => exact .tail _ (List.mem_append_right _ (.head _))
          case ma => exact .tail _ (List.mem_append_left _ (.tail _ (.tail _ (.tail _ (.tail _ (.tail _ (.tail _ (.head _))))))))
          case mb => exact .tail _ (List.mem_append_left _ (.tail _ (.tail _ (.tail _ (.tail _ (.tail _ (.head _)))))))
          case mo => exact .tail _ (List.mem_append_left _ (.tail _ (.tail _ (.tail _ (.tail _ (.tail _ (.tail _ (.tail _ (.head _)))))))))
          case rd => ktr_room
          case ru => ktr_units
          have hd6 : ∀ q ∈ [(c', oc), (172, tabObj #[rawInt ((⟨200, 29, 200, 67⟩ : Pos).line : Nat), rawInt ((⟨200, 29, 200, 67⟩ : Pos).col : Nat), .ref c'])], q.1 ≠ I2 ∧ q.1 ≠ T ∧ q.1 ≠ I1 ∧ L' + 1 + 1 + 1 ≠ q.1 ∧ L' + 1 + 1 ≠ q.1 ∧ L' + 1 ≠ q.1 ∧ xx ≠ q.1 := by
            intro q hq
            rcases List.mem_cons.mp hq with rfl | hq
            · exact ⟨(q4 _ (.tail _ (.tail _ (.head _)))).symm, (q4 _ (.tail _ (.tail _ (.tail _ (.head _))))).symm, (q4 _ (.tail _ (.tail _ (.tail _ (.tail _ (.head _)))))).symm, q4 _ (.tail _ (.tail _ (.tail _ (.tail _ (.tail _ (.head _)))))), q4 _ (.tail _ (.tail _ (.tail _ (.tail _ (.tail _ (.tail _ (.head _))))))), q4 _ (.tail _ (.tail _ (.tail _ (.tail _ (.tail _ (.tail _ (.tail _ (.head _)))))))), q4 _ (.tail _ (.tail _ (.tail _ (.tail _ (.tail _ (.tail _ (.tail _ (.tail _ (.head _)))))))))⟩
            · rw [List.mem_singleton.mp hq]
              exact ⟨(q5 _ (.tail _ (.tail _ (.head _)))).symm, (q5 _ (.tail _ (.tail _ (.tail _ (.head _))))).symm, (q5 _ (.tail _ (.tail _ (.tail _ (.tail _ (.head _)))))).symm, q5 _ (.tail _ (.tail _ (.tail _ (.tail _ (.tail _ (.head _)))))), q5 _ (.tail _ (.tail _ (.tail _ (.tail _ (.tail _ (.tail _ (.head _))))))), q5 _ (.tail _ (.tail _ (.tail _ (.tail _ (.tail _ (.tail _ (.tail _ (.head _)))))))), q5 _ (.tail _ (.tail _ (.tail _ (.tail _ (.tail _ (.tail _ (.tail _ (.tail _ (.head _)))))))))⟩
          rcases hr with ⟨⟨rt2, lc2, cvs2, nc2, pl2, tk2, cs2, rfl, rfl, _, res2, kI2, _⟩, _⟩ | ⟨ft, x9, _, _, rfl, rfl, res2⟩
          · rw [kres] at res2; cases res2
          · have hg := mail_good kres
            rw [kres] at res2
            cases res2
            have N6' := N6
            clear N6
            dsimp only [List.cons_append, List.nil_append] at N6'
            k_steps
            unfold Stop
            k_dflt refine ne_faults hg N6' (.head _) (.tail _ (.tail _ (.tail _ (.head _)))) (by ktr_units) ?_
            k_steps
            exact invI_end (T3.trans T6) B6 F6 N6' hoI2 hTT (.tail _ (.tail _ (.tail _ (.tail _ (.head _))))) (fun p hp => .tail _ (.tail _ (.tail _ (.tail _ (.tail _ hp))))) d8 (.inr ⟨c', oc, vs, tq, rfl, hd7, hv7, hcP⟩) hd6
end Mine
end PartU3

section PartW1
example : True := by
  w_top off
  trivial
open PySem PySem.W PyProof.Rows
set_option Elab.async false
namespace Mine
set_option maxRecDepth 100000
set_option maxHeartbeats 1000000
/-- the pen: its cells, and how many may still be drawn -/
def Pen (w : World) (o : Obj) (D : Addr) (k : Nat) : Prop := ∃ (many : Int) (t : Tok), 0 ≤ many ∧ many + (k : Int) ≤ 100000 ∧ o.IsDictOf (strKind Challenge.rw_pq1296_01.row.prog w) [(Str.ofString "cells", .ref D), (Str.ofString "many", .int many t)]
/-- a call that draws: the def at `f`, its first argument the pen at `pd` -/
def RunsP (w : World) (f : Addr) (pd D : Addr) (ys : List Value) (o : Obj) (args : List Value) (k need : Nat) (news : List (Addr × Obj)) (Ret : Value → Prop) : Prop :=
  ∀ (p : Program) (loose : List Str) (mean : ExcName → Option Value) (mg mb : Str → Option Value) (dp un : Nat) (gd : Option (List Code)) (cn : Str) (cs : Scope) (a : Addr) (ccd : Value) (cl : List (Str × Addr))
    (outer : List Env) (A₀ : Around) (base h₀ : Heap) (L : Addr) (m : Str → Option Value) (s : Shared) (Q E : Value → Shared → Prop),
    Below A₀ base outer h₀ → Fr h₀ L s.heap m → (hd.heap_1 w.params).In h₀ → News h₀ L s.heap ((pd, o) :: (D, LCg.lst ys) :: news) → Top p loose mean mg mb h₀ → cs.kind = .function → dp + need < recursionLimit → un + 8 * need < cLine →
    (∀ r o' h' tk', Fr h₀ L h' m → News h₀ L h' ((pd, o') :: (D, LCg.lst ys) :: news) → Pen w o' D k → Ret r → Q r { s with heap := h', toks := tk' }) →
    wpAny (model Challenge.rw_pq1296_01.row.prog w) (ktrTop dp un gd cn cs L a ccd cl outer) (call (.ref f) (.ref pd :: args)) Q E s
def DrawRet (top : Int) (r : Value) : Prop := ∃ x t, r = .int x t ∧ 0 ≤ x ∧ x < top
local macro_rules | `(tactic| k_all) => `(tactic| first | with_unfolding_all assumption | exact List.forall_mem_nil _ | (refine' List.forall_mem_cons.mpr ⟨?a, ?b⟩; (case a => k_ne); (case b => k_all)))
theorem credit {m : Int} {k : Nat} (h : m + ((k + 1 : Nat) : Int) ≤ 100000) : m ≤ 100000 ∧ m + 1 + (k : Int) ≤ 100000 := by omega
theorem credit_le {m : Int} {a b : Nat} (h : a ≤ b) (h1 : m + (b : Int) ≤ 100000) : m + (a : Int) ≤ 100000 := by omega
theorem turn_one {n i : Nat} (hi : i < n) : n - i = n - (i + 1) + 1 := by omega
theorem runs_draw (w : World) (pd D : Addr) (o : Obj) (ys : List Value) (ns : List Int) (k : Nat) (top : Int) (tt : Tok) (news : List (Addr × Obj)) (hp : Pen w o D (k + 1)) (hI : IntsAre ys ns) (hl : ns.length ≤ 50) (ht : 0 < top) (ht2 : top ≤ 100000) (hpD : D ≠ pd) (hpn : ∀ p ∈ news, p.1 ≠ pd) :
    RunsP w 122 pd D ys o [.int top tt] k 1 news (DrawRet top) := by
  unfold RunsP
  k_fill
  intro p loose mean mg mb dp un gd cn cs a ccd cl outer A₀ base h₀ L m s Q E B F X N T hk hd hu hret
  obtain ⟨many, tp, hm, hm2, hp⟩ := hp
  obtain ⟨hm3, hm4⟩ := credit hm2
  refine wpAny_call ?_
  k_dflt cell_enter
  k_steps
  all_goals (refine hret _ _ _ _ (by assumption) (by assumption) ⟨many + 1, _, Int.add_nonneg hm (by decide), hm4, by assumption⟩ ⟨_, _, rfl, ?_, ?_⟩)
  all_goals first | exact Int.fmod_nonneg_of_pos _ ht | exact Int.fmod_lt_of_pos _ ht
theorem pen_le {w : World} {o : Obj} {D : Addr} {a b : Nat} (h : a ≤ b) : Pen w o D b → Pen w o D a := fun ⟨m, t, h0, h1, h2⟩ => ⟨m, t, h0, credit_le h h1, h2⟩
theorem pen_turn {w : World} {o : Obj} {D : Addr} {c m n i : Nat} (hi : i < n) (h : Pen w o D (c + m * (n - i))) : Pen w o D (c + m * (n - (i + 1)) + m) := by
  rw [turn_one hi, Nat.mul_succ, ← Nat.add_assoc] at h
  exact h
section
variable {w : World} {pd D : Addr} {ys : List Value} {o : Obj} {k c need : Nat} {news : List (Addr × Obj)} {p : Program} {loose : List Str} {mean : ExcName → Option Value} {mg mb : Str → Option Value} {dp un : Nat} {gd : Option (List Code)} {cn : Str} {cs : Scope} {a : Addr} {ccd : Value} {cl : List (Str × Addr)}
    {outer : List Env} {A₀ : Around} {base h₀ : Heap} {L : Addr} {m : Str → Option Value} {s : Shared} {Q E : Value → Shared → Prop} {u : Obj → List (Addr × Obj)} {f : Addr} {args : List Value} {Ret : Value → Prop}
/-- a contract with the pen, used wherever the pen lies in the ledger -/
theorem use_pen (B : Below A₀ base outer h₀) (F : Fr h₀ L s.heap m) (X : (hd.heap_1 w.params).In h₀) (N : News h₀ L s.heap news) (T : Top p loose mean mg mb h₀) (hk : cs.kind = .function)
    (U : UpdF pd o news u) (hD : (D, LCg.lst ys) ∈ news) (hR : ∀ rest, (∀ p ∈ rest, p.1 ≠ pd) → RunsP w f pd D ys o args k need rest Ret) (hd : dp + need < recursionLimit) (hu : un + 8 * need < cLine)
    (h : ∀ r o' h' tk', Fr h₀ L h' m → News h₀ L h' (u o') → Pen w o' D k → Ret r → Q r { s with heap := h', toks := tk' }) :
    wpAny (model Challenge.rw_pq1296_01.row.prog w) (ktrTop dp un gd cn cs L a ccd cl outer) (call (.ref f) (.ref pd :: args)) Q E s := by
  obtain ⟨pre, post, rfl, hu', h1, h2⟩ := U.split
  have hr : ∀ p ∈ pre ++ post, p.1 ≠ pd := fun p hp => (List.mem_append.mp hp).elim (h1 p) (h2 p)
  refine hR (pre ++ post) hr p loose mean mg mb dp un gd cn cs a ccd cl outer A₀ base h₀ L m s Q E B F X (fun q hq => N q ?_) T hk hd hu fun r o' h' tk' F' N' P hret => ?_
  · rcases List.mem_cons.mp hq with rfl | hq
    · exact List.mem_append_right _ (.head _)
    rcases List.mem_cons.mp hq with rfl | hq
    · exact hD
    · exact (List.mem_append.mp hq).elim (List.mem_append_left _) fun x => List.mem_append_right _ (.tail _ x)
  · refine h r o' h' tk' F' (fun q hq => N' q ?_) P hret
    rw [hu'] at hq
    rcases List.mem_append.mp hq with hq | hq
    · exact .tail _ (.tail _ (List.mem_append_left _ hq))
    rcases List.mem_cons.mp hq with rfl | hq
    · exact .head _
    · exact .tail _ (.tail _ (List.mem_append_right _ hq))
/-- one draw -/
theorem use_draw {ns : List Int} {top : Int} {tt : Tok} (B : Below A₀ base outer h₀) (F : Fr h₀ L s.heap m) (X : (hd.heap_1 w.params).In h₀) (N : News h₀ L s.heap news) (T : Top p loose mean mg mb h₀) (hk : cs.kind = .function)
    (U : UpdF pd o news u) (hp : Pen w o D (k + 1)) (hne : D ≠ pd) (hD : (D, LCg.lst ys) ∈ news) (hI : IntsAre ys ns) (hl : ns.length ≤ 50) (ht : 0 < top) (ht2 : top ≤ 100000) (hd : dp + 1 < recursionLimit) (hu : un + 8 * 1 < cLine)
    (h : ∀ x t o' h' tk', Fr h₀ L h' m → News h₀ L h' (u o') → Pen w o' D k → 0 ≤ x → x < top → Q (.int x t) { s with heap := h', toks := tk' }) :
    wpAny (model Challenge.rw_pq1296_01.row.prog w) (ktrTop dp un gd cn cs L a ccd cl outer) (call (.ref 122) [.ref pd, .int top tt]) Q E s :=
  use_pen B F X N T hk U hD (fun rest hr => runs_draw w pd D o ys ns k top tt rest hp hI hl ht ht2 hne hr) hd hu fun r o' h' tk' F' N' P hret => by
    obtain ⟨x, t, rfl, h0, h1⟩ := hret
    exact h x t o' h' tk' F' N' P h0 h1
end
end Mine
end PartW1

section PartE2
example : True := by
  w_top off
  trivial
open PySem PySem.W PyProof.Rows PySem.Calls PySem.Spec PyProof.Rows.LCg
set_option Elab.async false
set_option maxRecDepth 100000
namespace Mine
local macro_rules | `(tactic| omega) => `(tactic| first | (with_reducible assumption) | lia | omega +splitDisjunctions)
section
variable {prog : Program} {w : World} {A : Around} {E : Value → Shared → Prop} {s : Shared} {h₀ : Heap} {L : Addr} {m : Str → Option Value} {env : Env} {elt iter : PySem.Expr} {x : Str} {px : Pos} {scope : Scope} {cl : List (Str × Addr)}
def CompR (prog : Program) (w : World) (A : Around) (h₀ : Heap) (L : Addr) (m : Str → Option Value) (env : Env) (elt : PySem.Expr) (x : Str) (scope : Scope) (cl : List (Str × Addr)) (Fin : Shared → List Value → List (Addr × Obj) → Prop) (xv : Value) (s₁ : Shared) : Prop :=
  ∃ (r : Addr) (a b c : Int) (t u v : Tok) (n : Nat) (news : List (Addr × Obj)), xv = .ref r ∧ A.handled = none ∧ Fr h₀ L s₁.heap m ∧ News h₀ L s₁.heap news ∧ IsRange s₁.heap r a b c t u v ∧ Builtin.Range.small a b c = true ∧ Builtin.Range.rangeSize a b c = (n : Int) ∧ n ≤ sizeLine ∧
    ∀ g, CompRest prog w A h₀ L m env elt x scope cl { s₁ with heap := g } (fun _ => True) (fun i v => ∃ u, v = .int (a + i * c) u) (Fin { s₁ with heap := g }) n 0 [] news
/-- a comprehension over a range of any step -/
theorem comp_range {pos : Pos} {Q : Value → Shared → Prop} (_ : Fr h₀ L s.heap m) (hclos : closureFor scope env = pure cl) (hcell : ∀ y ∈ scope.names, y.2 ≠ .cell) (hkind : scope.kind = .function)
    (hnames : ∀ y ∈ scope.names, y.2 = .local → scope.names.lookup y.1 = some .local) (hx : scope.names.lookup x = some .local)
    (h : wpAny (model prog w) A (eval iter env) (CompR prog w A h₀ L m env elt x scope cl (fun s₂ => FinE h₀ L m s₂ Q)) E s)
    (hs : ∀ x, foldedSetIterable iter env x = pure x := by intro _; rfl) :
    wpAny (model prog w) A (eval (.ListComp elt [⟨.Name x px, iter, [], 0⟩] scope pos) env) Q E s := by
  rw [eval_ListComp]
  refine wpAny_comprehension_free (use := none) rfl hs hclos hkind hnames (wpAny_mono h (fun xv s₁ h₁ => ?_) fun _ _ e => e)
  obtain ⟨r, a, b, c, t, u, v, n, news, rfl, hh, F, N, hr, hsm, hn, hsz, R⟩ := h₁
  refine wpAny_pyIter_range hr hsm ?_
  have W := Walks.range (prog := prog) (w := w) hh s₁.heap.objs.size a c n
  refine block_U (S := fun _ => True) W hsz (fun i h st => ⟨_, st⟩) (fun i h h' o nw st e e' _ _ _ => by
      have st' : h.get? _ = some _ := st
      show h'.get? _ = some _
      rw [e', ← e]; exact st') hcell hkind hx (by show IsRangeIter _ _ _ _ _; rw [hn]; simpa using Heap.get?_push_size _ rfl) (fun b' hb => ?_)
    (F.keeps fun _ _ e => Heap.get?_push_of_some _ e) (N.grown fun _ _ e => Heap.get?_push_of_some _ e) (Nat.ne_of_lt F.ns.lt) (next_is_new F) (fun p hp => Nat.ne_of_lt (Heap.lt_size (N p hp).1)) trivial (R _) ?_
  · rw [List.mem_singleton.mp hb]
    show s₁.heap.objs.size < (s₁.heap.push _).objs.size
    rw [Heap.size_push]; exact Nat.lt_succ_self _
  · intro D C h tk m' ys news' F' N' o1 hn hC₀ hD₀ hCL hDL hCD offC fin
    refine ⟨m', hn, fun h'' hs'' => fin D h'' tk (F'.change hs'' hCL hC₀) (fun p hp => ?_) o1⟩
    refine ⟨hs''.extBut _ _ ?_ (N' p hp).1, (N' p hp).2⟩
    rcases List.mem_cons.mp hp with rfl | hp
    · exact Ne.symm hCD
    · exact offC p hp
/-- range(n) as the source of a comprehension -/
theorem src_one {Fin : Shared → List Value → List (Addr × Obj) → Prop} {news : List (Addr × Obj)} {n : Int} {t : Tok} (hh : A.handled = none) (F : Fr h₀ L s.heap m) (N : News h₀ L s.heap news) (h0 : 0 ≤ n) (hn : n ≤ 100000)
    (h : ∀ g tk, CompRest prog w A h₀ L m env elt x scope cl { s with heap := g, toks := tk } (fun _ => True) (fun i v => ∃ u, v = .int (0 + i * 1) u) (Fin { s with heap := g, toks := tk }) n.toNat 0 [] news) :
    wpAny (model prog w) A (call (.type "range") [.int n t]) (CompR prog w A h₀ L m env elt x scope cl Fin) E s := by
  refine call_range_1 ?_
  refine ⟨_, 0, n, 1, _, _, _, n.toNat, news, rfl, hh, F.push _, fun p hq => ⟨Heap.get?_push_of_some _ (N p hq).1, (N p hq).2⟩, IsRange.new _ _ _ _ _ _ _, small_one (by decide) (by decide) (by omega) (by omega), ?_, by rw [sizeLine_eq]; omega, fun g => h g _⟩
  rw [rangeSize_one]; split <;> omega
/-- range(0, n, 6) as the source of a comprehension -/
theorem src_six {Fin : Shared → List Value → List (Addr × Obj) → Prop} {news : List (Addr × Obj)} {n : Int} {t u v : Tok} (hh : A.handled = none) (F : Fr h₀ L s.heap m) (N : News h₀ L s.heap news) (h0 : 0 ≤ n) (hn : n ≤ 100000)
    (h : ∀ g tk, CompRest prog w A h₀ L m env elt x scope cl { s with heap := g, toks := tk } (fun _ => True) (fun i v => ∃ u, v = .int (0 + i * 6) u) (Fin { s with heap := g, toks := tk }) ((n + 5) / 6).toNat 0 [] news) :
    wpAny (model prog w) A (call (.type "range") [.int 0 t, .int n u, .int 6 v]) (CompR prog w A h₀ L m env elt x scope cl Fin) E s := by
  have hz : Builtin.Range.rangeSize 0 n 6 = (n + 5) / 6 := by rw [rangeSize_pos (by decide) h0]; omega
  refine call_range_3 (by decide) ?_ (Or.inl (PyProof.noPylong_small (by omega)))
  refine ⟨_, 0, n, 6, _, _, _, ((n + 5) / 6).toNat, news, rfl, hh, F.push _, fun p hq => ⟨Heap.get?_push_of_some _ (N p hq).1, (N p hq).2⟩, IsRange.new _ _ _ _ _ _ _, ?_, by rw [hz]; omega, by rw [sizeLine_eq]; omega, fun g => h g _⟩
  unfold Builtin.Range.small
  rw [hz]
  simp only [Builtin.Range.rangeFitsLong, Bool.and_eq_true, Bool.or_eq_true, decide_eq_true_eq, beq_iff_eq, show (6 : Int) > 0 by decide, if_true]
  omega
theorem mul_zeros {i : Int} {t u : Tok} {Q : Value → Shared → Prop} (h0 : 0 ≤ i) (h5 : i ≤ 5) (h : ∀ t' k, Q (.str (tb (List.replicate i.toNat false)) t') { s with toks := k }) :
    wpAny (model prog w) A (binaryOp .Mult (.str (Str.ofString "0") t) (.int i u)) Q E s := by
  refine SB.mul (mulOk_of 16 1048576 (by decide) (by omega) (by omega) (by decide) (by decide)) fun t' k => ?_
  have e : Txt.mul (Str.ofString "0") i = tb (List.replicate i.toNat false) := by
    have : i = 0 ∨ i = 1 ∨ i = 2 ∨ i = 3 ∨ i = 4 ∨ i = 5 := by omega
    rcases this with rfl | rfl | rfl | rfl | rfl | rfl <;> decide +kernel
  rw [e]; exact h t' k
theorem add_tb {a b : List Bool} {x y : Str} {t u : Tok} {Q : Value → Shared → Prop} (hx : x = tb a) (hy : y = tb b) (hz : a.length + b.length ≤ 1000000) (h : ∀ t' k, Q (.str (tb (a ++ b)) t') { s with toks := k }) :
    wpAny (model prog w) A (binaryOp .Add (.str x t) (.str y u)) Q E s := by
  subst hx hy
  refine SB.add (fun t' k => ?_) (by rw [tb_len, tb_len, sizeLine_eq]; omega)
  rw [tb_app]; exact h t' k
theorem add_tb_len {a b : List Bool} {x y : Str} {t u : Tok} {Q : Value → Shared → Prop} (hx : x = tb a) (hy : y = tb b) (hz : a.length + b.length ≤ 1000000) (h : ∀ (c : List Bool) t' k, c.length = a.length + b.length → Q (.str (tb c) t') { s with toks := k }) :
    wpAny (model prog w) A (binaryOp .Add (.str x t) (.str y u)) Q E s := add_tb hx hy hz fun t' k => h (a ++ b) t' k List.length_append
end
end Mine
end PartE2

section PartW3a
example : True := by
  w_top off
  trivial
open PySem PySem.W PyProof.Rows PySem.Calls PySem.Spec
set_option Elab.async false
set_option maxRecDepth 100000
namespace Mine
section
variable {M : Model} {prog : Program} {w : World} {A : Around} {E : Value → Shared → Prop} {s : Shared} {h₀ : Heap} {L : Addr}
def UN : List Int := [233, 12354, 55357, 56832, 65, 38, 127, 31, 0, 65535]
theorem padded16 : ∀ n ∈ UN, padded 16 n.toNat = tb (bitsN 16 n.toNat) := by decide +kernel
theorem fmt_unit {x : Int} {t u : Tok} {Q : Value → Shared → Prop} (h0 : 0 ≤ x) (h1 : x < 10) (h : ∀ (l : List Bool) t' k, l.length = 16 → Q (.str (tb l) t') { s with toks := k }) :
    wpAny (model prog w) A (call (.builtin "format") [.int (UN.getD x.toNat 0) t, .str (Str.ofString "016b") u]) Q E s := by
  have hm : UN.getD x.toNat 0 ∈ UN := by
    have hlt : x.toNat < UN.length := by show x.toNat < 10; omega
    rw [List.getD_eq_getElem?_getD, List.getElem?_eq_getElem hlt]; exact List.getElem_mem hlt
  have hn : 0 ≤ UN.getD x.toNat 0 := (show ∀ n ∈ UN, (0 : Int) ≤ n by decide) _ hm
  generalize UN.getD x.toNat 0 = v at hm hn ⊢
  have e : v = ((v.toNat : Nat) : Int) := (Int.toNat_of_nonneg hn).symm
  have hp := padded16 v hm
  rw [e]
  refine call_fmt (by decide +kernel) (fmt_text (k := 16) (T := tb (bitsN 16 v.toNat)) (by decide +kernel) (by decide +kernel) parse16 rfl hp (by rw [tb_len, bitsN_len]; decide) t u) fun t' k => h _ t' k (bitsN_len _ _)
/-- what is known of octets: their number is bounded -/
theorem add_len {b c : Array UInt8} {n m : Nat} {t u : Tok} {Q : Value → Shared → Prop} (hb : b.size ≤ n) (hc : c.size ≤ m) (hz : n + m ≤ 100000) (h : ∀ (d : Array UInt8) t' k, d.size ≤ n + m → Q (.bytes d t') { s with toks := k }) :
    wpAny (model prog w) A (binaryOp .Add (.bytes b t) (.bytes c u)) Q E s :=
  KBy.add_bytes (by omega) fun t' k => h _ t' k (by rw [Array.size_append]; omega)
/-- a tuple of short octets, one of them taken -/
def OctIn (k : Nat) (l : List Value) : Prop := ∀ v ∈ l, ∃ b t, v = .bytes b t ∧ b.size ≤ k
theorem octs_nil {k : Nat} : OctIn k [] := fun _ h => nomatch h
theorem octs_cons {k : Nat} {b : Array UInt8} {t : Tok} {l : List Value} (hb : b.size ≤ k) (hl : OctIn k l) : OctIn k (.bytes b t :: l) := fun v hv => by
  rcases List.mem_cons.mp hv with rfl | hv
  · exact ⟨b, t, rfl, hb⟩
  · exact hl v hv
theorem tup_any {value slice : PySem.Expr} {T : Addr} {l : List Value} {i : Int} {u : Tok} {k n : Nat} {Q : Value → Shared → Prop} (ht : IsTup s.heap T l.toArray) (hl : OctIn k l) (hn : l.length = n) (h0 : 0 ≤ i) (h1 : i < n) (h2 : n ≤ 1000) (h : ∀ b t, b.size ≤ k → Q (.bytes b t) s)
    (hs : subscripted slice false (.ref T) (.int i u) = operate [.ref T, .int i u] (getItem (.ref T) (.int i u)) := by with_unfolding_all rfl) :
    wpAny (model prog w) A (subscriptTail value slice (.ref T) (.int i u)) Q E s := by
  subst hn
  have hlt : i.toNat < l.length := by omega
  obtain ⟨b, t, e, hb⟩ := hl _ (List.getElem_mem hlt)
  exact item_tupleT (j := i.toNat) (x := l[i.toNat]) ht (by omega) (by omega) (seqIndex_of h0 h1) (List.getElem?_eq_getElem hlt) (by rw [e]; exact h b t hb) hs
end
end Mine
end PartW3a

section PartW5
example : True := by
  w_top off
  trivial
open PySem PySem.W PyProof.Rows PySem.Calls Builtin Builtin.Bytes
set_option Elab.async false
set_option maxRecDepth 100000
namespace Mine
theorem take_eq {id : String} {b : Array UInt8} {t : Tok} : takeBuffer? id (.bytes b t) 0 = pure (some (b, none)) := by
  unfold takeBuffer?
  rw [KBy.special_eq KBy.look_buffer, KBy.own_buffer]
  have e : Bytes.buffer? id (.bytes b t) ((0 : Int) == fullReadOnly) = pure (some b) := KBy.buffer_eq
  rw [e]
  kernel_rfl
theorem takeq_eq {id : String} {b : Array UInt8} {t : Tok} : takeBufferQuiet? id (.bytes b t) 0 = pure (some (b, none)) := by
  unfold takeBufferQuiet?
  rw [take_eq]
  rfl
section
variable {M : Model} {A : Around} {E : Value → Shared → Prop} {s : Shared}
theorem wp_joinLetGo {keep : List Value} {Q : Unit → Shared → Prop} : ∀ {taken : List (Value × Option Value)}, (∀ p ∈ taken, p.2 = none) → Q () s → wpAny M A (joinLetGo taken keep) Q E s
  | [], _, h => wpAny_pure h
  | (x, w) :: r, hw, h => by
    obtain rfl : w = none := hw (x, w) (.head _)
    unfold joinLetGo
    dsimp only
    refine wpAny_bind (wpAny_letGo ?_)
    exact wp_joinLetGo (fun p hp => hw p (.tail _ hp)) h
theorem forIn_upto {β : Type} {n : Nat} (f : Nat → β → Sem (ForInStep β)) (I : Nat → β → Prop) {Q : β → Shared → Prop}
    (turn : ∀ i b, i < n → I i b → wpAny M A (f i b) (fun r s' => match r with | .yield b' => s' = s ∧ I (i + 1) b' | .done _ => False) E s) (fin : ∀ b, I n b → Q b s) (b : β) (h : I 0 b) : wpAny M A (forIn [:n] b f) Q E s := by
  rw [Std.Legacy.Range.forIn_eq_forIn_range']
  have hsz : ([:n] : Std.Legacy.Range).size = n := by simp [Std.Legacy.Range.size]
  rw [hsz]
  refine wpAny_forIn_list _ (fun rest b s' => s' = s ∧ ∃ i, i ≤ n ∧ rest = List.range' i (n - i) 1 ∧ I i b) _ ?_ ?_ _ _ ⟨rfl, 0, Nat.zero_le _, rfl, h⟩
  · rintro x rest b s' ⟨rfl, i, hi, hr, hI⟩
    obtain ⟨j, hj⟩ : ∃ j, n - i = j + 1 := by
      cases h : n - i with
      | zero => rw [h] at hr; cases hr
      | succ j => exact ⟨j, rfl⟩
    rw [hj, List.range'_succ] at hr
    obtain ⟨hx, hrest⟩ := List.cons.inj hr
    rw [hx]
    refine wpAny_mono (turn i b (by omega) hI) (fun r s2 h2 => ?_) fun _ _ e => e
    cases r with
    | done b' => exact h2.elim
    | yield b' => exact ⟨h2.1, i + 1, by omega, by rw [hrest, show n - (i + 1) = j from by omega], h2.2⟩
  · rintro b s' ⟨rfl, i, hi, hr, hI⟩
    obtain rfl : i = n := by
      cases h : n - i with
      | zero => omega
      | succ j => rw [h] at hr; cases hr
    exact fin b hI
theorem joined_size : ∀ (l : List (Array UInt8 × Nat)) (a : Array UInt8), (l.foldl (fun out (q : Array UInt8 × Nat) => (if q.2 > 0 then out ++ (#[] : Array UInt8) else out) ++ q.1) a).size = a.size + (l.map (·.1.size)).sum
  | [], a => by simp
  | (p, i) :: r, a => by
    rw [List.foldl_cons, joined_size r, List.map_cons, List.sum_cons]
    split <;> simp [Array.size_append] <;> omega
theorem joined_le (parts : List (Array UInt8)) : (joined #[] parts).size = (parts.map (·.size)).sum := by
  unfold joined
  have := joined_size parts.zipIdx #[]
  have e : (parts.zipIdx.map fun x => x.1.size) = parts.map (·.size) := by
    have := congrArg (List.map (fun x : Array UInt8 => x.size)) (List.zipIdx_map_fst 0 parts)
    rw [List.map_map] at this
    exact this
  rw [e] at this
  simpa using this
theorem fold_size : ∀ (l : List (Array UInt8)) (a : Nat), l.foldl (fun x (y : Array UInt8) => x + y.size) a = a + (l.map (·.size)).sum
  | [], a => by simp
  | p :: r, a => by rw [List.foldl_cons, fold_size r, List.map_cons, List.sum_cons]; omega
end
set_option maxHeartbeats 1000000 in
theorem meets_join {D : Addr} {ys : List Value} {k : Nat} {t : Tok} (hne : ys ≠ []) (hy : OctIn k ys) (hz : k * ys.length ≤ 100000) :
    Meets (Builtin.«bytes.join» ⟨[.bytes #[] t, .ref D], []⟩) (fun _ R s => s.heap.IsList D ys.toArray ∧ ∀ b t' kk, b.size ≤ k * ys.length → R (.ok (.ret (.bytes b t'))) { s with toks := kk }) :=
  .of_wp fun prog w A R s h => by
    obtain ⟨hl, h⟩ := h
    obtain ⟨o, ho, hc, n, hd⟩ := hl
    have htl : s.TypeIs (.ref D) "list" := ⟨o, ho, hc⟩
    unfold Builtin.«bytes.join» joinM
    rcases ys with _ | ⟨x, _ | ⟨y, r⟩⟩
    · exact absurd rfl hne
    · obtain ⟨b, u, rfl, hb⟩ := hy x (.head _)
      have hq := h b u s.toks (by simpa using hb)
      have ht : typeOf (.bytes b u) = pure (.type "bytes") := rfl
      wp_walk using wpAny_seqItems ho hd
      exact ⟨_, rfl, hq⟩
    · wp_walk using wpAny_seqItems ho hd, forIn_upto _ (fun i (b : Array (Array UInt8) × List (Value × Option Value)) => b.1.size = i ∧ (b.1.toList.map (·.size)).sum ≤ k * i ∧ ∀ q ∈ b.2, q.2 = none ∧ q.1.onHeap = false)
      case turn =>
        generalize hys : x :: y :: r = ys at *
        rintro i ⟨parts, taken⟩ hi ⟨h1, h2, h3⟩
        have hi : i < ys.length := by simpa using hi
        obtain ⟨b, u, e, hb⟩ := hy _ (List.getElem_mem hi)
        have hx : ys.toArray.getD i .none = .bytes b u := by rw [← e]; simp [Array.getD, hi]
        have ha : (Kind.bytes == Kind.bytearray || taken.any fun x => x.1.onHeap) = false := by
          rw [Bool.or_eq_false_iff]
          exact ⟨rfl, List.any_eq_false.mpr fun q hq => by rw [(h3 q hq).2]; exact Bool.false_ne_true⟩
        dsimp only
        refine wpAny_bind (wpAny_seqItems ho hd ?_)
        dsimp only
        rw [hx, ha]
        refine wpAny_ite_false rfl ?_
        refine wpAny_bind (wpAny_holding (wpAny_of_eq takeq_eq ?_))
        dsimp only
        refine wpAny_bind (wpAny_seqItems ho hd ?_)
        dsimp only
        refine wpAny_ite_false (by simp) (wpAny_pure ?_)
        refine ⟨rfl, by rw [Array.size_push, h1], ?_, fun q hq => ?_⟩
        · dsimp only at h2 ⊢
          rw [Array.toList_push, List.map_append, List.sum_append, Nat.mul_succ]
          refine Nat.add_le_add h2 ?_
          simpa using hb
        · rcases List.mem_append.mp hq with hq | hq
          · exact h3 q hq
          · rw [List.mem_singleton.mp hq]; exact ⟨rfl, rfl⟩
      case fin =>
        generalize hys : x :: y :: r = ys at *
        rintro ⟨parts, taken⟩ ⟨h1, h2, h3⟩
        rw [List.size_toArray] at h2
        dsimp only at h2 ⊢
        refine wpAny_bind (wpAny_pure ?_)
        have hs : Array.foldl (fun x1 (x2 : Array UInt8) => x1 + x2.size) ((#[] : Array UInt8).size * (parts.size - 1)) parts = (parts.toList.map (·.size)).sum := by
          rw [← Array.foldl_toList, fold_size]; simp
        rw [hs]
        refine wpAny_ite_false (decide_eq_false (by rw [KBy.tooLong_not (by omega)]; exact Bool.false_ne_true)) ?_
        have hj : (joined #[] parts.toList).size ≤ k * ys.length := by rw [joined_le]; exact h2
        refine wpAny_bind (wpAny_mkBytes ?_ (by rw [sizeLine_eq]; omega))
        refine wpAny_bind (wpAny_holding (wpAny_point ?_))
        refine wpAny_bind (wp_joinLetGo (fun q hq => (h3 q hq).1) ?_)
        exact wpAny_pure ⟨_, rfl, h _ _ _ hj⟩
      case h => exact ⟨rfl, by simp, fun _ h => nomatch h⟩
theorem join_octs {prog : Program} {w : World} {A : Around} {E Q : Value → Shared → Prop} {s : Shared} {D : Addr} {ys : List Value} {k : Nat} {t : Tok} (hl : s.heap.IsList D ys.toArray) (hne : ys ≠ []) (hy : OctIn k ys) (hz : k * ys.length ≤ 100000)
    (h : ∀ b t' kk, b.size ≤ k * ys.length → Q (.bytes b t') { s with toks := kk }) : wpAny (model prog w) A (call (.builtin "bytes.join") [.bytes #[] t, .ref D]) Q E s :=
  call_meets slot_bjoin (typeIs_bytes _ _ _) entry_bjoin (args_bjoin _ _) (meets_join hne hy hz) ⟨hl, h⟩
end Mine
end PartW5

section PartWZ
example : True := by
  w_top off
  trivial
open PySem PySem.W PyProof.Rows
set_option Elab.async false
namespace Mine
local macro_rules | `(tactic| omega) => `(tactic| first | (with_reducible assumption) | lia | omega +splitDisjunctions)
set_option maxRecDepth 100000
set_option maxHeartbeats 1000000
theorem int_six {prog : Program} {w : World} {A : Around} {E Q : Value → Shared → Prop} {s : Shared} {t u : Tok} {B : List Bool} {x : Int} (h0 : 0 ≤ x) (h6 : x + 6 ≤ B.length) (h : ∀ v, 0 ≤ v → v < 64 → Q (.int v s.toks) { s with toks := s.toks + 1 }) :
    wpAny (model prog w) A (call (.type "int") [.str (Txt.slice (tb B) (some x) (some (x + 6))) t, .int 2 u]) Q E s := by
  have e6 : x + 6 - x = 6 := by rw [Int.add_comm, Int.add_sub_cancel]
  have hx := Int.lt_add_of_pos_right x (by decide : (0 : Int) < 6)
  have hb : ((bval (piece B x (x + 6)) : Nat) : Int) < 64 := by
    have h1 := bval_lt (piece B x (x + 6))
    have h2 : (piece B x (x + 6)).length ≤ 6 := by have h3 := piece_len (B := B) h0 (Int.le_of_lt hx); rw [e6] at h3; exact h3
    exact Int.ofNat_lt.mpr (Nat.lt_of_lt_of_le h1 (Nat.pow_le_pow_right (by decide) h2))
  exact int_piece rfl h0 hx (Int.lt_of_lt_of_le hx h6) (by rw [e6]; decide) (h _ (Int.natCast_nonneg _) hb)
local macro_rules | `(tactic| k_ne) => `(tactic| (refine neN ?_; (try dsimp only); first | assumption | (refine Ne.symm ?_; assumption) | omega))
local macro_rules | `(tactic| k_all) => `(tactic| first | with_unfolding_all assumption | exact List.forall_mem_nil _ | (refine' List.forall_mem_cons.mpr ⟨?a, ?b⟩; (case a => k_ne); (case b => k_all)))
local macro_rules | `(tactic| walk_at "eval ListComp") => `(tactic| (k_here; (with_reducible show wpAny _ _ (eval (PySem.Expr.ListComp _ [⟨_, PySem.Expr.Call _ _ _ _, _, _⟩] _ _) _) _ _ _); refine stop ?_))
local macro_rules | `(tactic| walk_at "call type:range") => `(tactic| (k_here; refine stop ?_))
local macro_rules | `(tactic| walk_at "call type:int") => `(tactic| (k_here; k_dflt (refine' int_six ?h0 ?h6 (fun v' v0 v1 => ?_); (case h0 => assumption); (case h6 => assumption))))
local macro_rules | `(tactic| walk_at "call builtin:len") => `(tactic| (k_here; k_dflt (refine len_tb (by first | assumption | omega) ?_)))
local macro_rules | `(tactic| walk_at "call builtin:format") => `(tactic| (k_here; k_dflt (refine' fmt_unit ?h0 ?h1 ?_; (case h0 => assumption); (case h1 => assumption)); intro l' t' k' hl'))
local macro_rules | `(tactic| walk_at "call builtin:str.join") => `(tactic| (k_here; k_dflt (refine' join_bits ?hl ?hi rfl ?hw ?_; (case hl => exact News.isList (by k_asm) (by k_mem)); (case hi => assumption); (case hw => first | assumption | omega)); intro t' k'))
local macro_rules | `(tactic| walk_at "call builtin:bytes.join") => `(tactic| (k_here; refine stop ?_))
local macro_rules | `(tactic| walk_at "binaryOp Mult str int") => `(tactic| (k_here; k_dflt (refine' mul_zeros ?h0 ?h5 ?_; (case h0 => omega); (case h5 => omega)); intro t' k'))
local macro_rules | `(tactic| walk_at "binaryOp Add str str") => `(tactic| (k_here; k_dflt (refine' add_tb_len rfl ?hy ?hz ?_; (case hy => first | exact rfl | exact (show _ = tb [true] from by decide)); (case hz => (simp only [List.length_replicate, List.length_singleton]; omega))); intro B2 t' k' hB2; simp only [List.length_replicate, List.length_singleton] at hB2))
local macro_rules | `(tactic| walk_at "binaryOp Add bytes bytes") => `(tactic| (k_here; k_dflt (refine' add_len ?hb ?hc ?hz ?_; (case hb => first | assumption | exact (show _ ≤ 1 from by decide)); (case hc => first | assumption | exact (show _ ≤ 1 from by decide)); (case hz => decide)); intro b' t' k' hb'))
local macro_rules | `(tactic| walk_at "subscriptTail Name Slice str ref") => `(tactic| ((with_reducible rename Fr _ _ _ _ => F'); (with_reducible rename News _ _ _ _ => N'); k_dflt (refine sub_ss (s := ⟨_, _, _, _, _⟩) (by assumption) F' N' ?_); intro h' t' k' F' N'))
local macro_rules | `(tactic| walk_at "exec If") => `(tactic| (k_here; (with_reducible show wpAny _ _ (exec (PySem.Stmt.If _ [PySem.Stmt.Assign _ _ _] _ _) _) _ _ _); (fail_if_success (with_reducible show wpAny _ _ _ (Mid _ _ _ _ _ _) _ _)); refine stop ?_))
local macro_rules | `(tactic| walk_at "getMethod bytes") => `(tactic| (k_here; with_reducible refine bmethod_join ?_))
local macro_rules | `(tactic| walk_at "exec For Name Tuple cons nil") => `(tactic| (k_here; refine stop ?_))
local macro_rules | `(tactic| walk_at "pyIter ref") => `(tactic| (k_here; refine stop ?_))
local macro_rules | `(tactic| walk_at "TurnPost") => `(tactic| (dsimp only [TurnPost]))
local macro_rules | `(tactic| walk_at "eval Lambda") => `(tactic| (k_here; refine stop ?_))
local macro_rules | `(tactic| walk_at "compareOp NotEq ref ref") => `(tactic| (k_here; refine stop ?_))
local macro_rules | `(tactic| walk_at "call ref") => `(tactic| (k_here; k_dflt (first
  | ((with_reducible show wpAny _ _ (call (Value.ref 122) _) _ _ _); (refine' use_draw ?k1 ?k2 ?k3 ?k4 ?k5 ?kK ?kU ?kp ?kne ?kD ?kI ?kl ?kt ?kt2 ?kd ?ku (fun x' t' o' h' tk' F' N' P' a3 a4 => ?_)); (case k1 => k_asm); (case k2 => k_asm); (case k3 => k_asm); (case k4 => k_asm); (case k5 => k_asm); (case kK => first | exact rfl | assumption); (case kU => k_updF); (case kp => assumption); (case kne => assumption); (case kD => k_mem); (case kI => assumption); (case kl => assumption); (case kt => first | decide | assumption | omega); (case kt2 => first | decide | assumption | omega); (case kd => ktr_room); (case ku => ktr_units); k_whole; try k_sweep)
  | ((fail_if_success (with_reducible show wpAny _ _ (call (Value.ref 115) _) _ _ _)); refine stop ?_))))
theorem byte_in (c : UInt8) : 0 ≤ ((c.toNat : Nat) : Int) ∧ ((c.toNat : Nat) : Int) < 256 := ⟨Int.natCast_nonneg _, Int.ofNat_lt.mpr (UInt8.toNat_lt c)⟩
def BytesIn (N : Nat) (r : Value) (tl : List (Addr × Obj)) : Prop := tl = [] ∧ ∃ b t, r = .bytes b t ∧ b.size ≤ N
theorem in_snoc {ns : List Int} {n : Int} (h : KBa.In ns) (hn : 0 ≤ n ∧ n < 256) : KBa.In (ns ++ [n]) := fun k hk => by
  rcases List.mem_append.mp hk with hk | hk
  · exact h k hk
  · rw [List.mem_singleton.mp hk]; exact hn
theorem runs_written (w : World) (B : List Bool) (t : Tok) (news : List (Addr × Obj)) (hB : B.length ≤ 500) : Runs w 127 [.str (tb B) t] 2 news (BytesIn 100) := by
  unfold Runs
  k_fill
  intro p loose mean mg mb dp un gd cn cs a ccd cl outer A₀ base h₀ L m s Q E B' F X N T hk hd hu hret
  refine wpAny_call ?_
  k_dflt (refine' code_defC ?k1 ?k2 ?k3 ?k4 ?k5 ?kA ?kF ?kK ?k6 ?k7 ?k8 ?k9 ?kB ?kD ?_ ?c2 ?c3 ?c4; (case kA => exact rfl); (case kF => exact rfl); (case kK => assumption); (case k1 => k_asm); (case k2 => k_asm); (case k3 => k_asm); (case k4 => k_asm); (case k5 => k_asm); (case k6 => k_is); (case k7 => k_is); (case k8 => ktr_room); (case k9 => exact BindsTo.of_eq rfl); (case kB => exact rfl); (case kD => decide); (case c2 => exact rfl); (case c3 => exact rfl); (case c4 => exact rfl); k_whole; intro g' L' h' tk' cells FG' F' N' Y' B' X' T' l0)
  obtain ⟨o1, rfl, d1⟩ := CellsAre.one Y'
  have d1' : o1.data = .cell (some (.str (tb B) t)) := d1
  clear Y' d1
  have hn1 : ∀ p ∈ news, p.1 ≠ L' + 1 := fun p hp => Nat.ne_of_lt (Nat.lt_succ_of_lt (l0 p hp))
  try dsimp only [List.cons_append, List.nil_append] at N'
  have hm : 0 ≤ (-(B.length : Int)).fmod 6 := Int.fmod_nonneg_of_pos _ (by decide)
  have hm2 : (-(B.length : Int)).fmod 6 < 6 := Int.fmod_lt_of_pos _ (by decide)
  have he : (-(B.length : Int)).fmod 6 = (-(B.length : Int)) % 6 := Int.fmod_eq_emod_of_nonneg _ (by decide)
  k_steps
  unfold Stop
  k_dflt (refine comp_range (by k_asm) (by with_unfolding_all rfl) (by decide) (by rfl) (by decide) (by rfl) ?_)
  k_steps
  rename_i B2 t2 k2 hB2 h2 o2 F2 N2 d2
  unfold Stop
  have hlen : B2.length ≤ 505 ∧ B2.length % 6 = 0 := by omega
  have hB6 : B2.length ≤ 1000000 := Nat.le_trans hlen.1 (by decide)
  refine src_six rfl (by k_asm) (by k_asm) (by omega) (by omega) fun g9 tk9 => comp_inv (fun i ys nw => nw = (L' + 1, o2) :: news ∧ ∃ ns, IntsAre ys ns ∧ ns.length = i ∧ KBa.In ns) ⟨rfl, [], .nil, rfl, fun _ h => nomatch h⟩ ?turn ?fin
  case turn =>
    rintro i v ys _ I oI C oC D m₂ h tk E' hi ⟨u, rfl⟩ ⟨rfl, ns, hI, hl, hin⟩ hC hx' F1 N1 off ne
    have hi0 : 0 ≤ 0 + (i : Int) * 6 := by omega
    have hi6 : 0 + (i : Int) * 6 + 6 ≤ B2.length := by omega
    clear he hm hm2 hlen hi
    generalize 0 + (i : Int) * 6 = x at hi0 hi6 hx' ⊢
    k_steps
    exact LCg.CompEnd.intro (by assumption) (by assumption) _ (fun p hp => hp) off trivial ⟨rfl, ns ++ [_], IntsAre.append hI (.cons _ _ .nil), by rw [List.length_append, hl]; rfl, in_snoc hin (byte_in _)⟩
  case fin =>
    rintro ys nw ⟨rfl, ns, hI, hl, hin⟩
    unfold LCg.FinE
    intro D h tk F1 N1 o1
    have hl2 : ns.length ≤ 100 := by omega
    k_steps
    refine ret0 (Ret := BytesIn 100) hret (by k_asm) (fun p hp => (by assumption : News h₀ L _ ((D, LCg.lst ys) :: (L' + 1, o2) :: news)) p (.tail _ (.tail _ hp))) ⟨rfl, _, _, rfl, ?_⟩
    rw [← KBw.ints_length, KBa.ints_make hin]; exact hl2
theorem use_written {w : World} {B : List Bool} {t : Tok} {news : List (Addr × Obj)} {p : Program} {loose : List Str} {mean : ExcName → Option Value} {mg mb : Str → Option Value} {dp un : Nat} {gd : Option (List Code)} {cn : Str} {cs : Scope} {a : Addr} {ccd : Value} {cl : List (Str × Addr)}
    {outer : List Env} {A₀ : Around} {base h₀ : Heap} {L : Addr} {m : Str → Option Value} {s : Shared} {Q E : Value → Shared → Prop} (B' : Below A₀ base outer h₀) (F : Fr h₀ L s.heap m) (X : (hd.heap_1 w.params).In h₀) (N : News h₀ L s.heap news) (T : Top p loose mean mg mb h₀) (hk : cs.kind = .function)
    (hB : B.length ≤ 500) (hd : dp + 2 < recursionLimit) (hu : un + 8 * 2 < cLine) (h : ∀ h' tk' b t, Fr h₀ L h' m → News h₀ L h' news → b.size ≤ 100 → Q (.bytes b t) { s with heap := h', toks := tk' }) :
    wpAny (model Challenge.rw_pq1296_01.row.prog w) (ktrTop dp un gd cn cs L a ccd cl outer) (call (.ref 127) [.str (tb B) t]) Q E s :=
  runs_use B' F X N T hk (runs_written w B t news hB) hd hu fun r tl h' tk' F' N' _ hr => by
    obtain ⟨rfl, b, t, rfl, hb⟩ := hr
    exact h h' tk' b t F' N' hb
--W3
theorem all16 {ls : List (List Bool)} {l0 : List Bool} (h : ∀ l ∈ ls, l.length = 16) (h0 : l0.length = 16) : ∀ l ∈ ls ++ [l0], l.length = 16 := fun l hl => by
  rcases List.mem_append.mp hl with hl | hl
  · exact h l hl
  · rw [List.mem_singleton.mp hl]; exact h0
theorem turns_le {x : Int} {m : Nat} (h0 : 0 ≤ x) (h1 : x < m) (hm : m ≤ 1000 := by decide) : (0 ≤ 1 + x ∧ 1 + x ≤ 100000) ∧ 1 ≤ (1 + x).toNat ∧ (1 + x).toNat ≤ m := by omega
theorem flat16 : ∀ {ls : List (List Bool)}, (∀ l ∈ ls, l.length = 16) → ls.flatten.length = 16 * ls.length
  | [], _ => rfl
  | l :: ls, h => by
    rw [List.flatten_cons, List.length_append, h l (.head _), flat16 fun x hx => h x (.tail _ hx), List.length_cons]; omega
def OctRet (r : Value) : Prop := ∃ b t, r = .bytes b t ∧ b.size ≤ 200
theorem runs_run (w : World) (pd D : Addr) (o : Obj) (ys : List Value) (ns : List Int) (k : Nat) (news : List (Addr × Obj)) (hp : Pen w o D (k + 5)) (hI : IntsAre ys ns) (hl : ns.length ≤ 50)
    (hpD : D ≠ pd) (hpn : ∀ p ∈ news, p.1 ≠ pd) :
    RunsP w 132 pd D ys o [] k 4 news OctRet := by
  unfold RunsP
  k_fill
  intro p loose mean mg mb dp un gd cn cs a ccd cl outer A₀ base h₀ L m s Q E B' F X N T hk hd hu hret
  refine wpAny_call ?_
  k_dflt (refine' code_defC ?k1 ?k2 ?k3 ?k4 ?k5 ?kA ?kF ?kK ?k6 ?k7 ?k8 ?k9 ?kB ?kD ?_ ?c2 ?c3 ?c4; (case kA => exact rfl); (case kF => exact rfl); (case kK => assumption); (case k1 => k_asm); (case k2 => k_asm); (case k3 => k_asm); (case k4 => k_asm); (case k5 => k_asm); (case k6 => k_is); (case k7 => k_is); (case k8 => ktr_room); (case k9 => exact BindsTo.of_eq rfl); (case kB => exact rfl); (case kD => decide); (case c2 => exact rfl); (case c3 => exact rfl); (case c4 => exact rfl); k_whole; intro g' L' h' tk' cells FG' F' N' Y' B' X' T' l0)
  obtain ⟨o1, o2, rfl, d1, d2⟩ := CellsAre.two Y'
  have d1' : o1.data = .cell none := d1
  have d2' : o2.data = .cell (some (.ref pd)) := d2
  clear Y' d1 d2
  have lpd : @LT.lt Nat _ pd L' := l0 _ (.head _)
  have lD : @LT.lt Nat _ D L' := l0 _ (.tail _ (.head _))
  have hpD' : @Ne Nat D pd := hpD
  have hn1 : ∀ p ∈ news, p.1 ≠ L' + 1 := fun p hp => Nat.ne_of_lt (Nat.lt_succ_of_lt (l0 p (.tail _ (.tail _ hp))))
  have hn2 : ∀ p ∈ news, p.1 ≠ L' + 1 + 1 := fun p hp => Nat.ne_of_lt (Nat.lt_succ_of_lt (Nat.lt_succ_of_lt (l0 p (.tail _ (.tail _ hp)))))
  try dsimp only [List.cons_append, List.nil_append] at N'
  k_steps
  unfold Stop
  k_dflt (refine comp_range (by k_asm) (by with_unfolding_all rfl) (by decide) (by rfl) (by decide) (by rfl) ?_)
  k_steps
  unfold Stop
  rename_i lu h9 l1 h1 o3 d3 x1 t1 o4 h4 tk4 F4 N4 P4 a3 a4
  have lup : @Ne Nat lu pd := Nat.ne_of_gt l1.2.2.1
  obtain ⟨hn0, -, hn3⟩ := turns_le (m := 3) a3 a4
  refine Exists.elim (⟨_, _, .cons _ _ (.cons _ _ (.cons _ _ (.cons _ _ (.cons _ _ (.cons _ _ (.cons _ _ (.cons _ _ (.cons _ _ (.cons _ _ .nil))))))))), N4⟩ : ∃ us nu, IntsAre us.toList UN ∧ News g' L' h4 ((lu, W.listOf us nu) :: (L' + 1 + 1, o3) :: (L' + 1, o2) :: (pd, o4) :: (D, LCg.lst ys) :: news)) fun us hx => Exists.elim hx fun nu hx => ?_
  have hus := hx.1
  have N5 := hx.2
  have hq1 : @Ne Nat (L' + 1) pd := Nat.ne_of_gt (Nat.lt_succ_of_lt lpd)
  have hq2 : @Ne Nat (L' + 1 + 1) pd := Nat.ne_of_gt (Nat.lt_succ_of_lt (Nat.lt_succ_of_lt lpd))
  clear N4 a3 a4 l1 lpd lD hx
  refine src_one rfl (by k_asm) N5 hn0.1 hn0.2 fun g9 tk9 => comp_inv (fun i ys' nw => ∃ o' ls, nw = (lu, W.listOf us nu) :: (L' + 1 + 1, o3) :: (L' + 1, o2) :: (pd, o') :: (D, LCg.lst ys) :: news ∧ Pen w o' D (k + 1 + 1 * ((1 + x1).toNat - i)) ∧ StrsAre ys' (ls.map tb) ∧ ls.length = i ∧ ∀ l ∈ ls, l.length = 16) ⟨o4, [], rfl, pen_le (by omega) P4, .nil, rfl, fun _ h => nomatch h⟩ ?turn ?fin
  case turn =>
    rintro i v ys' _ I oI C oC D2 m₂ h tk E' hi ⟨u, rfl⟩ ⟨o', ls, rfl, P5, hS, hsl, hs16⟩ hC hx' F1 N1 off ne
    have pI : @Ne Nat I pd := off.2.2.2.1.1.symm
    have pC : @Ne Nat C pd := off.2.2.2.1.2.1.symm
    have pD : @Ne Nat D2 pd := off.2.2.2.1.2.2.symm
    have P6 := pen_turn hi P5
    have hUN : UN.length = 10 := rfl
    clear P5
    k_steps
    rename Pen _ _ _ _ => P9
    rename News _ _ _ _ => N9
    exact LCg.CompEnd.intro (by assumption) N9 _ (fun p hp => hp) off trivial ⟨_, ls ++ [_], rfl, P9, by rw [List.map_append]; exact kct_snoc hS, by rw [List.length_append, hsl]; rfl, all16 hs16 (by assumption)⟩
  case fin =>
    rintro ys' nw ⟨o', ls, rfl, P5, hS, hsl, hs16⟩
    have hfl : ls.flatten.length = 16 * ls.length := flat16 hs16
    have hw1 : 7 * ls.flatten.length + ls.length ≤ 1000000 := by omega
    have hw2 : ls.flatten.length ≤ 48 := by omega
    have P6 : Pen w o' D (k + 1) := pen_le (Nat.le_add_right _ _) P5
    clear hfl hsl hn3 P5
    unfold LCg.FinE
    intro D2 h tk F1 N1 o1
    have pD : @Ne Nat D2 pd := o1.2.2.2.1.symm
    k_steps
    unfold Stop
    k_dflt refine' use_written ?k1 ?k2 ?k3 ?k4 ?k5 ?kK (Nat.le_trans hw2 (by decide)) ?kd ?ku (fun h' tk' b' t' F' N' hb' => ?_)
    case k1 => k_asm
    case k2 => k_asm
    case k3 => k_asm
    case k4 => k_asm
    case k5 => k_asm
    case kK => exact rfl
    case kd => ktr_room
    case ku => ktr_units
    k_whole
    k_steps
    unfold Stop
    rename_i t2 k2 h4 tk1 x9 t9 o9 h3 tk3 P9 a3 a4 h2 tk2 h8 F8 N8
    with_unfolding_all refine cut_ps (σ := Array UInt8 × Tok) (h₀ := g') (L := L') (fun _ => (pd, o9) :: (D, LCg.lst ys) :: news) (fun c => [(Str.ofString "signs", .bytes c.1 c.2), (Str.ofString "way", .int x9 t9), (Str.ofString "bits", .str (tb ls.flatten) t2)]) (fun c => c.1.size ≤ 101) ?i1 ?r1
    case i1 =>
      k_steps
      all_goals exact mid_ (_, _) (by assumption) (by assumption) (by kst_in) (by kst_all) (by dsimp only; omega)
    case r1 =>
      rintro ⟨b9, tb9⟩ u h tk hb9 F8 N8
      dsimp only at hb9 F8 N8 ⊢
      k_steps
      unfold Stop
      with_unfolding_all refine cut_ps (σ := Array UInt8 × Tok) (h₀ := g') (L := L') (fun _ => (pd, o9) :: (D, LCg.lst ys) :: news) (fun c => [(Str.ofString "signs", .bytes c.1 c.2), (Str.ofString "way", .int x9 t9)]) (fun c => c.1.size ≤ 101) ?i2 ?r2
      case i2 =>
        have hf6 : ((ls.flatten.length : Nat) : Int).fmod 6 = (ls.flatten.length : Int) % 6 := Int.fmod_eq_emod_of_nonneg _ (by decide)
        k_steps
        · unfold Stop
          k_dflt refine' use_written ?k1 ?k2 ?k3 ?k4 ?k5 ?kK ?kz ?kd ?ku (fun h' tk' b' t' F' N' hb' => ?_)
          case k1 => k_asm
          case k2 => k_asm
          case k3 => k_asm
          case k4 => k_asm
          case k5 => k_asm
          case kK => exact rfl
          case kz => omega
          case kd => ktr_room
          case ku => ktr_units
          k_whole
          k_steps
          exact mid_ (_, _) (by assumption) (by assumption) (by kst_in) (by kst_all) (by dsimp only; omega)
        all_goals exact mid_ (_, _) (by assumption) (by assumption) (by kst_in) (by kst_all) (by dsimp only; omega)
      case r2 =>
        rintro ⟨b9, tb9⟩ u h tk hb9 F8 N8
        dsimp only at hb9 F8 N8 ⊢
        k_steps
        dsimp only
        k_dflt refine' tup_any (k := 3) (n := 9) ?ht ?hl ?hn ?h0 ?h1 ?h2 ?_
        case ht => exact News.isTup (by k_asm) (.head _)
        case hl => repeat (first | exact octs_nil | refine octs_cons (by decide) ?_)
        case hn => exact rfl
        case h0 => omega
        case h1 => omega
        case h2 => decide
        intro b8 tb8 hb8
        k_steps
        rename News _ _ _ _ => kN
        exact hret _ o9 _ _ (by assumption) (fun p hp => kN p (.tail _ hp)) P9 ⟨_, _, rfl, Nat.le_trans (by assumption) (by decide)⟩
--W4
theorem runs_piece (w : World) (pd D : Addr) (o : Obj) (ys : List Value) (ns : List Int) (k : Nat) (news : List (Addr × Obj)) (hp : Pen w o D (k + 6)) (hI : IntsAre ys ns) (hl : ns.length ≤ 50)
    (hpD : D ≠ pd) (hpn : ∀ p ∈ news, p.1 ≠ pd) :
    RunsP w 137 pd D ys o [] k 5 news OctRet := by
  unfold RunsP
  k_fill
  intro p loose mean mg mb dp un gd cn cs a ccd cl outer A₀ base h₀ L m s Q E B' F X N T hk hd hu hret
  refine wpAny_call ?_
  k_dflt (refine' code_defC ?k1 ?k2 ?k3 ?k4 ?k5 ?kA ?kF ?kK ?k6 ?k7 ?k8 ?k9 ?kB ?kD ?_ ?c2 ?c3 ?c4; (case kA => exact rfl); (case kF => exact rfl); (case kK => assumption); (case k1 => k_asm); (case k2 => k_asm); (case k3 => k_asm); (case k4 => k_asm); (case k5 => k_asm); (case k6 => k_is); (case k7 => k_is); (case k8 => ktr_room); (case k9 => exact BindsTo.of_eq rfl); (case kB => exact rfl); (case kD => decide); (case c2 => exact rfl); (case c3 => exact rfl); (case c4 => exact rfl); k_whole; intro g' L' h' tk' cells FG' F' N' Y' B' X' T' l0)
  obtain ⟨o2, rfl, d2⟩ := CellsAre.one Y'
  have d2' : o2.data = .cell (some (.ref pd)) := d2
  clear Y' d2
  have hq1 : @Ne Nat (L' + 1) pd := Nat.ne_of_gt (Nat.lt_succ_of_lt (l0 (pd, o) (.head _)))
  try dsimp only [List.cons_append, List.nil_append] at N'
  k_steps
  · unfold Stop
    rename Pen _ _ _ _ => P9
    k_dflt refine' use_pen ?k1 ?k2 ?k3 ?k4 ?k5 ?kK ?kU ?kD (fun rest hr => runs_run w pd D _ ys ns k rest P9 hI hl hpD hr) ?kd ?ku (fun r o' h' tk' F' N' P' hr => ?_)
    case k1 => k_asm
    case k2 => k_asm
    case k3 => k_asm
    case k4 => k_asm
    case k5 => k_asm
    case kK => exact rfl
    case kU => k_updF
    case kD => k_mem
    case kd => ktr_room
    case ku => ktr_units
    k_whole
    k_steps
    rename News _ _ _ _ => kN
    exact hret _ _ _ _ (by assumption) (fun p hp => kN p (.tail _ hp)) P' hr
  · k_dflt refine' tup_any (k := 3) (n := 6) ?ht ?hl ?hn ?h0 ?h1 ?h2 (fun b8 tb8 hb8 => ?_)
    case ht => exact News.isTup (by k_asm) (.head _)
    case hl => repeat (first | exact octs_nil | refine octs_cons (by decide) ?_)
    case hn => exact rfl
    case h0 => omega
    case h1 => omega
    case h2 => decide
    k_steps
    rename Pen _ _ _ _ => P9
    rename News _ _ _ _ => kN
    exact hret _ _ _ _ (by assumption) (fun p hp => kN p (.tail _ (.tail _ hp))) (pen_le (Nat.le_add_right k 4) P9) ⟨_, _, rfl, Nat.le_trans (by assumption) (by decide)⟩
  · k_dflt refine' tup_any (k := 3) (n := 5) ?ht ?hl ?hn ?h0 ?h1 ?h2 (fun b8 tb8 hb8 => ?_)
    case ht => exact News.isTup (by k_asm) (.head _)
    case hl => repeat (first | exact octs_nil | refine octs_cons (by decide) ?_)
    case hn => exact rfl
    case h0 => omega
    case h1 => omega
    case h2 => decide
    k_steps
    rename Pen _ _ _ _ => P9
    rename News _ _ _ _ => kN
    exact hret _ _ _ _ (by assumption) (fun p hp => kN p (.tail _ (.tail _ hp))) (pen_le (Nat.le_add_right k 4) P9) ⟨_, _, rfl, Nat.le_trans (by assumption) (by decide)⟩
  · k_dflt refine' tup_any (k := 3) (n := 4) ?ht ?hl ?hn ?h0 ?h1 ?h2 (fun b8 tb8 hb8 => ?_)
    case ht => exact News.isTup (by k_asm) (.head _)
    case hl => repeat (first | exact octs_nil | refine octs_cons (by decide) ?_)
    case hn => exact rfl
    case h0 => omega
    case h1 => omega
    case h2 => decide
    k_steps
    rename Pen _ _ _ _ => P9
    rename News _ _ _ _ => kN
    exact hret _ _ _ _ (by assumption) (fun p hp => kN p (.tail _ (.tail _ hp))) (pen_le (Nat.le_add_right k 4) P9) ⟨_, _, rfl, Nat.le_trans (by assumption) (by decide)⟩
  · unfold Stop
    k_dflt (refine comp_range (by k_asm) (by with_unfolding_all rfl) (by decide) (by rfl) (by decide) (by rfl) ?_)
    k_steps
    unfold Stop
    rename Pen _ _ _ _ => P4
    rename News _ _ _ _ => N4
    rename_i x1 t1 o4 h4 tk4 F4 a3 a4
    obtain ⟨hn0, -, hn3⟩ := turns_le (m := 4) a3 a4
    clear a3 a4
    refine src_one rfl (by k_asm) N4 hn0.1 hn0.2 fun g9 tk9 => comp_inv (fun i ys' nw => ∃ o' ns', nw = (L' + 1, o2) :: (pd, o') :: (D, LCg.lst ys) :: news ∧ Pen w o' D (k + 1 * ((1 + x1).toNat - i)) ∧ IntsAre ys' ns' ∧ ns'.length = i ∧ KBa.In ns') ⟨o4, [], rfl, pen_le (by omega) P4, .nil, rfl, fun _ h => nomatch h⟩ ?turn ?fin
    case turn =>
      rintro i v ys' _ I oI C oC D2 m₂ h tk E' hi ⟨u, rfl⟩ ⟨o', ns', rfl, P5, hS, hsl, hin⟩ hC hx' F1 N1 off ne
      have pI : @Ne Nat I pd := off.2.1.1.symm
      have pC : @Ne Nat C pd := off.2.1.2.1.symm
      have pD : @Ne Nat D2 pd := off.2.1.2.2.symm
      have P6 := pen_turn hi P5
      clear P5
      k_steps
      rename Pen _ _ _ _ => P9
      rename News _ _ _ _ => N9
      exact LCg.CompEnd.intro (by assumption) N9 _ (fun p hp => hp) off trivial ⟨_, ns' ++ [_], rfl, P9, IntsAre.append hS (.cons _ _ .nil), by rw [List.length_append, hsl]; rfl, in_snoc hin (byte_in _)⟩
    case fin =>
      rintro ys' nw ⟨o', ns', rfl, P5, hS, hsl, hin⟩
      unfold LCg.FinE
      intro D2 h tk F1 N1 o1
      have hl4 : ns'.length ≤ 4 := hsl ▸ hn3
      clear hsl hn3 hn0
      k_steps
      rename News _ _ _ _ => kN
      refine hret _ _ _ _ (by assumption) (fun p hp => kN p (.tail _ (.tail _ hp))) (pen_le (Nat.le_add_right _ _) P5) ⟨_, _, rfl, ?_⟩
      have hz : (byteArr ns').size = ns'.length := by rw [← KBw.ints_length, KBa.ints_make hin]
      rw [Array.size_append, Array.size_append, hz]
      show 1 + ns'.length + 1 ≤ 200
      omega
--Z1
def InvZ (g : Heap) (L I T : Addr) (b : Array UInt8) (tb : Tok) (oT : Obj) (h : Heap) : Prop :=
  ∃ u oS vS tabs, Fr g L h (kstB u [(Str.ofString "octets", .bytes b tb)]) ∧ News g L h ((T, oT) :: (L + 1 + 1, oS) :: (172, tabObj #[]) :: tabs) ∧ oS.data = .cell vS ∧
    TabL 179 (Str.ofString "law.<locals>.<lambda>") ⟨207, 21, 207, 55⟩ tabs ∧ ∀ q ∈ tabs, q.1 ≠ I ∧ q.1 ≠ T ∧ L + 1 + 1 ≠ q.1 ∧ 172 ≠ q.1
theorem invZ_end {g : Heap} {L I T : Addr} {b : Array UInt8} {tb : Tok} {oT oI oS : Obj} {vS : Option Value} {tabs l : List (Addr × Obj)} {h₁ h : Heap} {s : Shared} {tk : Nat} {u : Str → Option Value} (F : Fr g L h (kstB u [(Str.ofString "octets", .bytes b tb)])) (N : News g L h l) (hI : h₁.get? I = some oI) (hT : h₁.get? T = some oT)
    (mI : (I, oI) ∈ l) (mt : ∀ p ∈ (T, oT) :: (L + 1 + 1, oS) :: (172, tabObj #[]) :: tabs, p ∈ l) (e3 : oS.data = .cell vS) (ht : TabL 179 (Str.ofString "law.<locals>.<lambda>") ⟨207, 21, 207, 55⟩ tabs) (hd : ∀ q ∈ tabs, q.1 ≠ I ∧ q.1 ≠ T ∧ L + 1 + 1 ≠ q.1 ∧ 172 ≠ q.1) :
    TurnEnd [I, T] h₁ (fun h => InvZ g L I T b tb oT h) s { s with heap := h, toks := tk } := by
  refine turn_end ⟨u, oS, vS, tabs, F, fun p hp => N p (mt p hp), e3, ht, hd⟩ fun b hb o e => ?_
  rcases List.mem_cons.mp hb with rfl | hb
  · rw [hI] at e; cases e; exact (N _ mI).1
  · rw [List.mem_singleton.mp hb] at e ⊢
    rw [hT] at e; cases e; exact (N _ (mt _ (.head _))).1
theorem octs_snoc {k : Nat} {l : List Value} {b : Array UInt8} {t : Tok} (h : OctIn k l) (hb : b.size ≤ k) : OctIn k (l ++ [.bytes b t]) := fun v hv => by
  rcases List.mem_append.mp hv with hv | hv
  · exact h v hv
  · rw [List.mem_singleton.mp hv]; exact ⟨b, t, rfl, hb⟩
theorem law_holds : PySem.Challenge.rw_pq1296_01.Holds := by
  refine Mine.hd ?_
  k_go0
  all_goals (try k_fold)
  k_steps
  unfold Stop
  rename World => w
  rename Shared => s1
  rename Obj.IsDictOf _ _ _ => hdict
  rename IntsAre ys _ => hI8
  rename_i oc2 oc1 lf rt X0 X1 T1 K0 lft0 cH0 l0 g1 L1 h5 B1 X2 T2 tkk pd h4 od0 lo0 hdz l11 D1 ws h3 F3 nD hI' hC' hL' l1 hkl1 hkl g9 hL8 DD h2 tk2 F2 N2 ne2 h1 od F1 N1 Tc kX h0 oc F0 N0 d0
  have P0 : Pen w od DD 100 := ⟨0, _, Int.le_refl _, by decide, hdict⟩
  obtain ⟨ns, hns, hnl⟩ : ∃ ns, IntsAre ys ns ∧ ns.length ≤ 50 := ⟨_, hI8, by rw [List.length_map, List.length_take]; exact Nat.min_le_left ..⟩
  have hne : (DD : Addr) ≠ pd := Ne.symm ne2.2.1
  have hne1 : @Ne Nat D1 pd := Nat.ne_of_gt l1.1
  have hq2 : @Ne Nat (s1.heap.objs.size + 1 + 1) pd := Nat.ne_of_lt l11.1
  have hq1 : @Ne Nat (s1.heap.objs.size + 1) pd := Nat.ne_of_lt l11.2.1
  have hq3 : @Ne Nat 172 pd := Nat.ne_of_lt l11.2.2.1
  have hq4 : @Ne Nat 179 pd := Nat.ne_of_lt l11.2.2.2
  clear hI8 hL8 hI' hC' hL' hkl1 hkl F1 N1 F2 N2 F3 nD hdict hdz l1 l11 ne2 h1 h2 h3 h4 tk2
  k_dflt (refine comp_range (by k_asm) (by with_unfolding_all rfl) (by decide) (by rfl) (by decide) (by rfl) ?_)
  k_steps
  unfold Stop
  rename Pen _ _ _ _ => P4
  rename News _ _ _ _ => N4
  rename_i x1 t1 o4 h4' tk4 F4 a3 a4
  obtain ⟨hn0, hn1, hn3⟩ := turns_le (m := 6) a3 a4
  clear P0 a3 a4
  refine src_one rfl (by k_asm) N4 hn0.1 hn0.2 fun g9 tk9 => comp_inv (fun i ys' nw => ∃ o', nw = [(DD, LCg.lst ys), (D1, W.listOf ws.toArray 0), (pd, o'), (s1.heap.objs.size + 1 + 1, oc2), (s1.heap.objs.size + 1, oc), (172, tabObj #[]), (179, tabObj #[])] ∧ Pen w o' DD (1 + 6 * ((1 + x1).toNat - i)) ∧ OctIn 200 ys' ∧ ys'.length = i) ⟨o4, rfl, pen_le (by omega) P4, octs_nil, rfl⟩ ?turn ?fin
  case turn =>
    rintro i v ys' _ I oI C oC D2 m₂ h tk E' hi ⟨u, rfl⟩ ⟨o', rfl, P5, hO, hsl⟩ hC hx' F1 N1 off ne
    have pI : @Ne Nat I pd := off.2.2.1.1.symm
    have pC : @Ne Nat C pd := off.2.2.1.2.1.symm
    have pD : @Ne Nat D2 pd := off.2.2.1.2.2.symm
    have P6 := pen_turn hi P5
    clear P5
    k_steps
    unfold Stop
    k_dflt refine' use_pen ?k1 ?k2 ?k3 ?k4 ?k5 ?kK ?kU ?kD (fun rest hr => runs_piece w pd DD _ ys ns _ rest P6 hns hnl hne hr) ?kd ?ku (fun r o' h' tk' F' N' P' hr => ?_)
    case k1 => k_asm
    case k2 => k_asm
    case k3 => k_asm
    case k4 => k_asm
    case k5 => k_asm
    case kK => exact rfl
    case kU => k_updF
    case kD => k_mem
    case kd => ktr_room
    case ku => ktr_units
    obtain ⟨b8, tb8, rfl, hb8⟩ := hr
    exact LCg.CompEnd.intro F' N' _ (fun p hp => hp) off trivial ⟨_, rfl, P', octs_snoc hO hb8, by rw [List.length_append, hsl]; rfl⟩
  case fin =>
    rintro ys' nw ⟨o', rfl, P5, hO, hsl⟩
    unfold LCg.FinE
    intro D2 h tk F1 N1 o1
    have pD : @Ne Nat D2 pd := o1.2.2.1.symm
    have hl6 : ys'.length ≤ 6 := hsl ▸ hn3
    have hys0 : ys' ≠ [] := fun e => by rw [← hsl, e] at hn1; exact absurd hn1 (by decide)
    have P6 : Pen w o' DD 1 := pen_le (Nat.le_add_right _ _) P5
    clear hsl hn0 hn1 hn3 P5
    k_steps
    unfold Stop
    rename Fr _ _ _ _ => F1
    rename News _ _ _ _ => N1
    k_dflt refine join_octs (k := 200) (News.isList N1 (.head _)) hys0 hO (Nat.le_trans (Nat.mul_le_mul_left 200 hl6) (by decide)) (fun b tb kk hb => ?_)
    obtain ⟨ks, hbi⟩ : ∃ ks, KBw.bInts b = ks := ⟨_, rfl⟩
    have hbl : ks.length ≤ 1200 := by rw [← hbi, KBw.ints_length]; exact Nat.le_trans hb (Nat.mul_le_mul_left 200 hl6)
    clear hb hl6
    k_steps
    unfold Stop
    refine wpAny_For ?_
    k_steps
    unfold Stop
    rename_i hh3 x5 t5 o5 hh2 tk5 P5' c3 c4 hh1 t6 k6 hcut T h9 F9 N9 l9
    obtain ⟨ks2, hbi2, hbl2⟩ : ∃ ks2, KBw.bInts (KBy.picked b none (some x5)) = ks2 ∧ ks2.length ≤ 1200 := ⟨_, hcut, Nat.le_trans (List.length_take_le' ..) hbl⟩
    generalize KBy.picked b none (some x5) = b2 at hbi2 N9
    have F9' := fr_of (ps := [(Str.ofString "octets", .bytes b tb)]) F9 (by kst_all)
    have N9' : News (ghostOf s1.heap [(176, 172), (181, 179)]) s1.heap.objs.size h9 ((T, tupOf [.bytes b tb, .bytes b2 t6]) :: (s1.heap.objs.size + 1 + 1, oc2) :: (172, tabObj #[]) :: [(179, tabObj #[])]) := fun p hp => N9 p (by
      rcases List.mem_cons.mp hp with rfl | hp
      · exact .head _
      rcases List.mem_cons.mp hp with rfl | hp
      · exact .tail _ (.tail _ (.tail _ (.tail _ (.tail _ (.head _)))))
      rcases List.mem_cons.mp hp with rfl | hp
      · exact .tail _ (.tail _ (.tail _ (.tail _ (.tail _ (.tail _ (.tail _ (.head _)))))))
      · rw [List.mem_singleton.mp hp]; exact .tail _ (.tail _ (.tail _ (.tail _ (.tail _ (.tail _ (.tail _ (.tail _ (.head _))))))))
      )
    k_dflt refine iter_tuple rfl (News.isTup N9 (.head _)) fun I h2 tk2 hI hk2 ⟨St, W, st, ob⟩ => ?_
    have hLI : s1.heap.objs.size < I := Nat.lt_of_lt_of_le F9.ns.lt hI
    have lt2 : ∀ p ∈ (T, tupOf [.bytes b tb, .bytes b2 t6]) :: (s1.heap.objs.size + 1 + 1, oc2) :: (172, tabObj #[]) :: [(179, tabObj #[])], p.1 < I := fun p hp => Nat.lt_of_lt_of_le (Heap.lt_size (N9' p hp).1) hI
    have qT : @Ne Nat T (s1.heap.objs.size + 1 + 1) := Nat.ne_of_gt l9.2.2.2.2.1
    have qI : @Ne Nat I (s1.heap.objs.size + 1 + 1) := Nat.ne_of_gt (lt2 (_, oc2) (.tail _ (.head _)))
    have qP : @Ne Nat 172 (s1.heap.objs.size + 1 + 1) := Nat.ne_of_lt (Nat.lt_succ_of_lt (Nat.lt_succ_of_lt l0.1))
    have hgI : (ghostOf s1.heap [(176, 172), (181, 179)]).get? I = none := Heap.get?_none_of_le (Nat.le_trans F9.above (Nat.le_of_lt hLI))
    k_dflt refine' for_walk (fun _ h => InvZ (ghostOf s1.heap [(176, 172), (181, 179)]) s1.heap.objs.size I T b tb (tupOf [.bytes b tb, .bytes b2 t6]) h) W (fun v s' Q' E' q => wpAny_pure q) st ?h0 ?stab ?turn ?done ?hE
    case hE => with_unfolding_all passes_own
    case h0 =>
      refine ⟨_, oc2, _, [(179, tabObj #[])], ⟨F9'.ns.keeps hk2, fun b o e => hk2 _ _ (F9'.keep b o e), F9'.above⟩, fun p hp => ⟨hk2 _ _ (N9' p hp).1, (N9' p hp).2⟩, lf, .inl rfl, fun q hq => ?_⟩
      rw [List.mem_singleton.mp hq]
      exact ⟨Nat.ne_of_lt (lt2 _ (.tail _ (.tail _ (.tail _ (.head _))))), Nat.ne_of_lt l9.2.2.2.2.2.2.2, Nat.ne_of_gt (Nat.lt_succ_of_lt (Nat.lt_succ_of_lt l0.2)), by decide⟩
    case stab =>
      rintro i h h' ⟨u, oS, vS, tabs, F2, N2, e3, ht, hdis⟩ hk
      refine ⟨u, oS, vS, tabs, fr_stab F2 hgI (Nat.ne_of_lt hLI) hk, news_stab N2 (fun p hp => ?_) hk, e3, ht, hdis⟩
      rcases List.mem_cons.mp hp with rfl | hp
      · exact Nat.ne_of_lt (lt2 (T, _) (.head _))
      rcases List.mem_cons.mp hp with rfl | hp
      · exact Nat.ne_of_lt (lt2 (_, oc2) (.tail _ (.head _)))
      rcases List.mem_cons.mp hp with rfl | hp
      · exact Nat.ne_of_lt (lt2 (172, _) (.tail _ (.tail _ (.head _))))
      · exact (hdis p hp).1
    case done =>
      rintro h tk ⟨u, oS, vS, tabs, F2, N2, e3, ht, hdis⟩
      k_steps
      unfold Stop
      rename News _ _ _ _ => N3
      rename Fr _ _ _ _ => F3
      obtain ⟨ps2, hps2⟩ := tabl_has ht
      k_dflt refine' runs_rr w b ks tb 179 (tabObj ps2) (by decide) hbi (by omega) _ _ _ _ _ _ _ _ _ _ _ _ _ _ _ _ _ _ _ _ _ K0 F3 kX (fun p hp => ?hn) Tc kX Tc cH0 rfl ?rd ?ru (fun h' tk' ps F' N' => ?_)
      case hn =>
        rcases List.mem_cons.mp hp with rfl | hp
        · exact N3 _ (.tail _ (.tail _ (.tail _ hps2)))
        · rw [List.mem_singleton.mp hp]; exact N3 _ (.tail _ (.tail _ (.head _)))
      case rd => ktr_room
      case ru => ktr_units
      k_steps
    case turn =>
      rintro i v h tk hi hv ⟨u, oS, vS, tabs, F2, N2, e3, ht, hdis⟩ st
      obtain ⟨oI, hoI, hnd⟩ := ob _ _ st
      have hoI : h.get? I = some oI := hoI
      clear st
      obtain ⟨b3, t3, ks3, rfl, hbi3, hbl3⟩ : ∃ b3 t3 ks3, v = .bytes b3 t3 ∧ KBw.bInts b3 = ks3 ∧ ks3.length ≤ 1200 := by
        match i, hv with
        | 0, hv => cases hv; exact ⟨_, _, _, rfl, hbi, hbl⟩
        | 1, hv => cases hv; exact ⟨_, _, _, rfl, hbi2, hbl2⟩
        | i + 2, hv => cases hv
      have N4 : News (ghostOf s1.heap [(176, 172), (181, 179)]) s1.heap.objs.size h ((I, oI) :: (T, tupOf [.bytes b tb, .bytes b2 t6]) :: (s1.heap.objs.size + 1 + 1, oS) :: (172, tabObj #[]) :: tabs) := fun p hp => by
        rcases List.mem_cons.mp hp with rfl | hp
        · exact ⟨hoI, Nat.ne_of_gt hLI, hgI⟩
        · exact N2 p hp
      have q1 : ∀ q ∈ tabs, q.1 ≠ s1.heap.objs.size + 1 + 1 := fun q hq => (hdis q hq).2.2.1.symm
      have hTT := (N4 _ (.tail _ (.head _))).1
      clear N2
      k_steps
      unfold Stop
      rename_i h8 oS2 F8 N8 e8
      refine kla_eval rfl ?_
      k_dflt refine lam_any (pre := [_, _, _, _]) (tabs := tabs) F8 N8 Tc codeHd rfl ht ?hdis rfl fun f c' oc vs tq ctv h7 tk7 F7 N7 hd7 hv7 hcP q4 q5 q6 q7 q8 => ?_
      case hdis =>
        intro q hq
        obtain ⟨z1, z2, z3, z4⟩ := hdis q hq
        exact List.forall_mem_cons.mpr ⟨z1.symm, List.forall_mem_cons.mpr ⟨z2.symm, List.forall_mem_cons.mpr ⟨z3, List.forall_mem_cons.mpr ⟨z4, List.forall_mem_nil _⟩⟩⟩⟩
      k_steps
      unfold Stop
      k_dflt refine' runs_told w f 8 _ _ _ (runs_lam2 w f c' (s1.heap.objs.size + 1 + 1) oc oS2 vs tq _ _ _ ctv b3 ks3 t3 _ _ _ _ _ _ (.head _) ?mc hd7 hv7 ?mo e8 hbi3 (by omega)) _ _ _ _ (.head _) _ _ _ _ _ _ _ _ _ _ _ _ _ _ _ _ _ _ _ _ _ _ K0 F7 kX N7 Tc kX Tc ktsDicts_nil rfl ?rd ?ru fun g6 r tl h6 tk6 T6 F6 N6 B6 hr => ?_
      case mc => exact .tail _ (List.mem_append_right _ (.head _))
      case mo => exact .tail _ (List.mem_append_left _ (.tail _ (.tail _ (.head _))))
      case rd => ktr_room
      case ru => ktr_units
      have F6' := turn_fr T6 F6
      have N6' := turn_news T6 N6
      clear F6 N6
      k_steps
      unfold Stop
      k_dflt refine' runs_use K0 F6' kX N6' Tc rfl (runs_lread w b3 ks3 t3 _ hbi3 (by omega)) ?rd2 ?ru2 (fun r2 tl2 h9 tk9 F9 N9 l9 hr2 => ?_)
      case rd2 => ktr_room
      case ru2 => ktr_units
      have hd6 : ∀ q ∈ [(c', oc), (179, tabObj #[rawInt ((⟨207, 21, 207, 55⟩ : Pos).line : Nat), rawInt ((⟨207, 21, 207, 55⟩ : Pos).col : Nat), .ref c'])], q.1 ≠ I ∧ q.1 ≠ T ∧ s1.heap.objs.size + 1 + 1 ≠ q.1 ∧ 172 ≠ q.1 := by
        intro q hq
        rcases List.mem_cons.mp hq with rfl | hq
        · exact ⟨(q4 _ (.head _)).symm, (q4 _ (.tail _ (.head _))).symm, q4 _ (.tail _ (.tail _ (.head _))), q4 _ (.tail _ (.tail _ (.tail _ (.head _))))⟩
        · rw [List.mem_singleton.mp hq]
          exact ⟨(q5 _ (.head _)).symm, (q5 _ (.tail _ (.head _))).symm, q5 _ (.tail _ (.tail _ (.head _))), q5 _ (.tail _ (.tail _ (.tail _ (.head _))))⟩
      clear N6' F6'
      rcases hr with ⟨⟨lt, us, nn, cs, rfl, rfl, kI, kz, kD⟩, kl⟩ | ⟨ft, x9, tk1, tk2, rfl, rfl, kE⟩
      · rcases hr2 with ⟨lt2, us2, nn2, cs2, rfl, rfl, kI2, kz2, kD2⟩ | ⟨ft2, e2, tk3, tk4, rfl, rfl, kD2⟩
        · have hcs : cs = cs2 := by have := kD.det kD2; cases this; rfl
          subst hcs
          dsimp only [List.cons_append, List.nil_append] at N9
          k_steps
          unfold Stop
          k_dflt refine ne_lists N9 (.tail _ (.head _)) (.head _) kI kI2 (by ktr_units) ?_
          k_steps
          exact invZ_end F9 N9 hoI hTT (.tail _ (.tail _ (.tail _ (.head _)))) (fun p hp => .tail _ (.tail _ (.tail _ (.tail _ hp)))) e8 (.inr ⟨c', oc, vs, tq, rfl, hd7, hv7, hcP⟩) hd6
        · cases kD.det kD2
      · rcases hr2 with ⟨lt2, us2, nn2, cs2, rfl, rfl, kI2, kz2, kD2⟩ | ⟨ft2, e2, tk3, tk4, rfl, rfl, kD2⟩
        · cases kE.det kD2
        · have hg := dec_good kE
          have hxe : x9 = e2 := by have := kE.det kD2; cases this; rfl
          subst hxe
          dsimp only [List.cons_append, List.nil_append] at N9
          k_steps
          unfold Stop
          k_dflt refine ne_faults hg N9 (.tail _ (.head _)) (.head _) (by ktr_units) ?_
          k_steps
          exact invZ_end F9 N9 hoI hTT (.tail _ (.tail _ (.tail _ (.head _)))) (fun p hp => .tail _ (.tail _ (.tail _ (.tail _ hp)))) e8 (.inr ⟨c', oc, vs, tq, rfl, hd7, hv7, hcP⟩) hd6
end Mine
end PartWZ
theorem PySem.Challenge.cw_pq1296_01_holds : PySem.Challenge.rw_pq1296_01.Holds :=
  Mine.law_holds
