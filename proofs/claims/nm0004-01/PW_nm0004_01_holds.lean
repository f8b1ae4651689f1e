import PyProof.Rows.All
import Wide.All
import OpenK.AllK
import Wide.FinOn
import Lean
import PySem.Challenge.RW_nm0004_01
open PySem PySem.W PyProof.Rows
set_option Elab.async false
namespace Mine
def keepAt : List Bool → List Stmt → List Stmt
  | true :: bs, x :: xs => x :: keepAt bs xs
  | false :: bs, _ :: xs => keepAt bs xs
  | _, _ => []
def view : Program := { PySem.Challenge.pw_nm0004_01 with main := { PySem.Challenge.pw_nm0004_01.main with body := keepAt [false, true, true, true, true, false, true, true, false, true, true, true, true, true, true, true] PySem.Challenge.pw_nm0004_01.main.body } }
end Mine
section
local macro_rules | `(tactic| o_head $H) => `(tactic| (refine holds_open (q := Mine.view) (loose := []) (Xt := fun s => xlAt Mine.view [] s && recOk (RowW.records (OpenRow.toRowW (OpenLaw.row PySem.Challenge.rw_nm0004_01))) s) (XP := XL Mine.view []) (Yf := Hook.obs $H) (Ya := Hook.val $H) (YP := Hook.says $H) (N := 2120) ?hl (Hook.of $H) (Hook.keeps $H) (fun s e => xl_of s (Bool.and_eq_true_iff.mp e).1) XL.keeps (by rfl) (by rfl) (by rfl) (fun s e => recFacts_of (Bool.and_eq_true_iff.mp e).2) (by rfl) (by first | assumption | decide +kernel) (by decide +kernel) ⟨rfl, rfl, rfl, rfl, rfl, by decide +kernel⟩ ?hw ?hc; (case hl => (intro w; kernel_rfl))))
set_option maxRecDepth 100000 in
set_option maxHeartbeats 8000000 in
open_top Mine.hd for PySem.Challenge.rw_nm0004_01
end
section
local macro_rules | `(tactic| walk_at $s:str) => `(tactic| k_extra $s)
namespace Mine
abbrev Led := List (Addr × Obj)
/-- the walk pauses here -/
def Stop (P : Prop) : Prop := P
theorem Stop.mk {P : Prop} (h : Stop P) : P := h
theorem Stop.go {P : Prop} (h : P) : Stop P := h
/-- the contract of a def at address f: a call from any frame over the ledger news -/
def Ctr (w : World) (f : Addr) (cost : Nat) (args : List Value) (news : Led) (Post : Value → Led → Prop) : Prop :=
  ∀ (p : Program) (loose : List Str) (mean : ExcName → Option Value) (mg mb : Str → Option Value)
    (dp un : Nat) (gd : Option (List Code)) (cn : Str) (cs : Scope) (a : Addr) (ccd : Value) (cl : List (Str × Addr)) (outer : List Env) (A₀ : Around) (base h₀ : Heap) (L : Addr) (m : Str → Option Value)
    (s : Shared) (Q E : Value → Shared → Prop),
    Below A₀ base outer h₀ → Fr h₀ L s.heap m → (Mine.hd.heap_39 w.params).In h₀ → News h₀ L s.heap news → Top p loose mean mg mb h₀ → cs.kind = .function →
    dp + cost < recursionLimit → un + 8 * cost < cLine →
    (∀ r news' h' tk', Fr h₀ L h' m → News h₀ L h' news' → Post r news' → Q r { s with heap := h', toks := tk' }) →
    wpAny (model PySem.Challenge.rw_nm0004_01.row.prog w) (ktrTop dp un gd cn cs L a ccd cl outer) (call (.ref f) args) Q E s
theorem Ctr.use {w : World} {f : Addr} {cost : Nat} {args : List Value} {news : Led} {Post : Value → Led → Prop} (C : Ctr w f cost args news Post)
    {p : Program} {loose : List Str} {mean : ExcName → Option Value} {mg mb : Str → Option Value}
    {dp un : Nat} {gd : Option (List Code)} {cn : Str} {cs : Scope} {a : Addr} {ccd : Value} {cl : List (Str × Addr)} {outer : List Env} {A₀ : Around} {base h₀ : Heap} {L : Addr} {m : Str → Option Value}
    {s : Shared} {Q E : Value → Shared → Prop} {all : Led}
    (B : Below A₀ base outer h₀) (F : Fr h₀ L s.heap m) (X : (Mine.hd.heap_39 w.params).In h₀) (N : News h₀ L s.heap all) (T : Top p loose mean mg mb h₀) (hk : cs.kind = .function)
    (hd : dp + cost < recursionLimit) (hu : un + 8 * cost < cLine) (hs : ∀ q ∈ news, q ∈ all)
    (ret : ∀ r news' h' tk', Fr h₀ L h' m → News h₀ L h' news' → Post r news' → Q r { s with heap := h', toks := tk' }) :
    wpAny (model PySem.Challenge.rw_nm0004_01.row.prog w) (ktrTop dp un gd cn cs L a ccd cl outer) (call (.ref f) args) Q E s :=
  C _ _ _ _ _ _ _ _ _ _ _ _ _ _ _ _ _ _ _ _ _ _ B F X (fun q hq => N q (hs q hq)) T hk hd hu ret
section
variable {prog : Program} {w : World} {A : Around} {E : Value → Shared → Prop} {s : Shared} {h₀ : Heap} {L D : Addr} {m : Str → Option Value} {news news' : Led} {vs ws : List Value} {n : Nat} {k : Int} {t : Tok} {v : Value}
theorem set_any {Q : Unit → Shared → Prop} (F : Fr h₀ L s.heap m) (N : News h₀ L s.heap news) (U : Upd D (listOf vs.toArray n) (listOf ws.toArray n) news news') (h0 : 0 ≤ k) (h1 : k < vs.length) (hfit : k < 2 ^ 63) (hw : vs.set k.toNat v = ws)
    (h : ∀ h', Fr h₀ L h' m → News h₀ L h' news' → Q () { s with heap := h' }) :
    wpAny (model prog w) A (setItem (.ref D) (.int k t) v) Q E s := by
  obtain ⟨pre, post, rfl, rfl, a, b⟩ := U.split
  subst hw
  have z := N (D, listOf vs.toArray n) (List.mem_append.mpr (.inr (.head _)))
  refine ki_setAt z.1 h0 hfit (by simpa using h1) (h _ (F.change (Heap.SameBut.update ..) z.2.1 z.2.2) (ki_turn _ N a b ?_ ?_))
  · show vs.toArray.setIfInBounds k.toNat v = (vs.set k.toNat v).toArray
    apply Array.toList_inj.mp
    simp
  · simp
end
theorem Ctr.weaken {w : World} {f : Addr} {cost : Nat} {args : List Value} {news news₁ : Led} {Post Post₁ : Value → Led → Prop} (C : Ctr w f cost args news Post) (hs : ∀ q ∈ news, q ∈ news₁)
    (hp : ∀ r n', Post r n' → ∃ n'', Post₁ r n'' ∧ ∀ q ∈ n'', q ∈ n') : Ctr w f cost args news₁ Post₁ := by
  intro p loose mean mg mb dp un gd cn cs a ccd cl outer A₀ base h₀ L m s Q E B F X N T hk hd hu ret
  refine C.use B F X N T hk hd hu hs fun r n' h' tk' F' N' P => ?_
  obtain ⟨n'', P', hs'⟩ := hp r n' P
  exact ret r n'' h' tk' F' (fun q hq => N' q (hs' q hq)) P'
theorem mem_swap {A B C : Led} : ∀ q ∈ A ++ (B ++ C), q ∈ B ++ (A ++ C) := by
  intro q hq
  simp only [List.mem_append] at hq ⊢
  rcases hq with h | h | h
  · exact .inr (.inl h)
  · exact .inl h
  · exact .inr (.inr h)
theorem mem_swap' {A B C : Led} : ∀ q ∈ A ++ (B ++ C), q ∈ B ++ (A ++ C) := mem_swap
/-- the well: its list at wl, its numbers at nl; at most B numbers -/
def Well (B : Nat) (wl nl : Addr) (W : Led) : Prop :=
  ∃ (vs : List Value) (ns : List Int) (pl : Int) (tp : Tok) (e1 e2 : Nat),
    W = [(wl, listOf [.ref nl, .int pl tp].toArray e1), (nl, listOf vs.toArray e2)] ∧ IntsAre vs ns ∧ (∀ n ∈ ns, 0 ≤ n ∧ n < 2147483648) ∧ 0 < ns.length ∧ ns.length ≤ B ∧ 0 ≤ pl ∧ pl ≤ ns.length ∧ (@Ne Nat wl nl)
theorem Well.mono {B B' : Nat} {wl nl : Addr} {W : Led} (h : Well B wl nl W) (hB : B ≤ B') : Well B' wl nl W := by
  obtain ⟨vs, ns, pl, tp, e1, e2, a, b, c, d, e, f⟩ := h
  exact ⟨vs, ns, pl, tp, e1, e2, a, b, c, d, Nat.le_trans e hB, f⟩
theorem sub0 {X : Led} : ∀ q ∈ ([] : Led) ++ X, q ∈ X := fun _ h => h
theorem sub1 {a0 : Addr × Obj} {X : Led} : ∀ q ∈ ([a0] : Led) ++ X, q ∈ a0 :: X := fun _ h => h
theorem sub2 {a0 a1 : Addr × Obj} {X : Led} : ∀ q ∈ ([a0, a1] : Led) ++ X, q ∈ a0 :: a1 :: X := fun _ h => h
theorem sub3 {a0 a1 a2 : Addr × Obj} {X : Led} : ∀ q ∈ ([a0, a1, a2] : Led) ++ X, q ∈ a0 :: a1 :: a2 :: X := fun _ h => h
theorem sub4 {a0 a1 a2 a3 : Addr × Obj} {X : Led} : ∀ q ∈ ([a0, a1, a2, a3] : Led) ++ X, q ∈ a0 :: a1 :: a2 :: a3 :: X := fun _ h => h
theorem sub5 {a0 a1 a2 a3 a4 : Addr × Obj} {X : Led} : ∀ q ∈ ([a0, a1, a2, a3, a4] : Led) ++ X, q ∈ a0 :: a1 :: a2 :: a3 :: a4 :: X := fun _ h => h
theorem sub6 {a0 a1 a2 a3 a4 a5 : Addr × Obj} {X : Led} : ∀ q ∈ ([a0, a1, a2, a3, a4, a5] : Led) ++ X, q ∈ a0 :: a1 :: a2 :: a3 :: a4 :: a5 :: X := fun _ h => h
theorem sub7 {a0 a1 a2 a3 a4 a5 a6 : Addr × Obj} {X : Led} : ∀ q ∈ ([a0, a1, a2, a3, a4, a5, a6] : Led) ++ X, q ∈ a0 :: a1 :: a2 :: a3 :: a4 :: a5 :: a6 :: X := fun _ h => h
theorem sub8 {a0 a1 a2 a3 a4 a5 a6 a7 : Addr × Obj} {X : Led} : ∀ q ∈ ([a0, a1, a2, a3, a4, a5, a6, a7] : Led) ++ X, q ∈ a0 :: a1 :: a2 :: a3 :: a4 :: a5 :: a6 :: a7 :: X := fun _ h => h
theorem sub9 {a0 a1 a2 a3 a4 a5 a6 a7 a8 : Addr × Obj} {X : Led} : ∀ q ∈ ([a0, a1, a2, a3, a4, a5, a6, a7, a8] : Led) ++ X, q ∈ a0 :: a1 :: a2 :: a3 :: a4 :: a5 :: a6 :: a7 :: a8 :: X := fun _ h => h
theorem sub10 {a0 a1 a2 a3 a4 a5 a6 a7 a8 a9 : Addr × Obj} {X : Led} : ∀ q ∈ ([a0, a1, a2, a3, a4, a5, a6, a7, a8, a9] : Led) ++ X, q ∈ a0 :: a1 :: a2 :: a3 :: a4 :: a5 :: a6 :: a7 :: a8 :: a9 :: X := fun _ h => h
theorem sub11 {a0 a1 a2 a3 a4 a5 a6 a7 a8 a9 a10 : Addr × Obj} {X : Led} : ∀ q ∈ ([a0, a1, a2, a3, a4, a5, a6, a7, a8, a9, a10] : Led) ++ X, q ∈ a0 :: a1 :: a2 :: a3 :: a4 :: a5 :: a6 :: a7 :: a8 :: a9 :: a10 :: X := fun _ h => h
theorem sub12 {a0 a1 a2 a3 a4 a5 a6 a7 a8 a9 a10 a11 : Addr × Obj} {X : Led} : ∀ q ∈ ([a0, a1, a2, a3, a4, a5, a6, a7, a8, a9, a10, a11] : Led) ++ X, q ∈ a0 :: a1 :: a2 :: a3 :: a4 :: a5 :: a6 :: a7 :: a8 :: a9 :: a10 :: a11 :: X := fun _ h => h
theorem eqs0 {X : Led} : X = ([] : Led) ++ X := rfl
theorem eqs1 {a0 : Addr × Obj} {X : Led} : a0 :: X = ([a0] : Led) ++ X := rfl
theorem eqs2 {a0 a1 : Addr × Obj} {X : Led} : a0 :: a1 :: X = ([a0, a1] : Led) ++ X := rfl
theorem eqs3 {a0 a1 a2 : Addr × Obj} {X : Led} : a0 :: a1 :: a2 :: X = ([a0, a1, a2] : Led) ++ X := rfl
theorem eqs4 {a0 a1 a2 a3 : Addr × Obj} {X : Led} : a0 :: a1 :: a2 :: a3 :: X = ([a0, a1, a2, a3] : Led) ++ X := rfl
theorem eqs5 {a0 a1 a2 a3 a4 : Addr × Obj} {X : Led} : a0 :: a1 :: a2 :: a3 :: a4 :: X = ([a0, a1, a2, a3, a4] : Led) ++ X := rfl
theorem eqs6 {a0 a1 a2 a3 a4 a5 : Addr × Obj} {X : Led} : a0 :: a1 :: a2 :: a3 :: a4 :: a5 :: X = ([a0, a1, a2, a3, a4, a5] : Led) ++ X := rfl
theorem eqs7 {a0 a1 a2 a3 a4 a5 a6 : Addr × Obj} {X : Led} : a0 :: a1 :: a2 :: a3 :: a4 :: a5 :: a6 :: X = ([a0, a1, a2, a3, a4, a5, a6] : Led) ++ X := rfl
theorem eqs8 {a0 a1 a2 a3 a4 a5 a6 a7 : Addr × Obj} {X : Led} : a0 :: a1 :: a2 :: a3 :: a4 :: a5 :: a6 :: a7 :: X = ([a0, a1, a2, a3, a4, a5, a6, a7] : Led) ++ X := rfl
theorem eqs9 {a0 a1 a2 a3 a4 a5 a6 a7 a8 : Addr × Obj} {X : Led} : a0 :: a1 :: a2 :: a3 :: a4 :: a5 :: a6 :: a7 :: a8 :: X = ([a0, a1, a2, a3, a4, a5, a6, a7, a8] : Led) ++ X := rfl
theorem eqs10 {a0 a1 a2 a3 a4 a5 a6 a7 a8 a9 : Addr × Obj} {X : Led} : a0 :: a1 :: a2 :: a3 :: a4 :: a5 :: a6 :: a7 :: a8 :: a9 :: X = ([a0, a1, a2, a3, a4, a5, a6, a7, a8, a9] : Led) ++ X := rfl
theorem eqs11 {a0 a1 a2 a3 a4 a5 a6 a7 a8 a9 a10 : Addr × Obj} {X : Led} : a0 :: a1 :: a2 :: a3 :: a4 :: a5 :: a6 :: a7 :: a8 :: a9 :: a10 :: X = ([a0, a1, a2, a3, a4, a5, a6, a7, a8, a9, a10] : Led) ++ X := rfl
theorem eqs12 {a0 a1 a2 a3 a4 a5 a6 a7 a8 a9 a10 a11 : Addr × Obj} {X : Led} : a0 :: a1 :: a2 :: a3 :: a4 :: a5 :: a6 :: a7 :: a8 :: a9 :: a10 :: a11 :: X = ([a0, a1, a2, a3, a4, a5, a6, a7, a8, a9, a10, a11] : Led) ++ X := rfl
theorem eqs13 {a0 a1 a2 a3 a4 a5 a6 a7 a8 a9 a10 a11 a12 : Addr × Obj} {X : Led} : a0 :: a1 :: a2 :: a3 :: a4 :: a5 :: a6 :: a7 :: a8 :: a9 :: a10 :: a11 :: a12 :: X = ([a0, a1, a2, a3, a4, a5, a6, a7, a8, a9, a10, a11, a12] : Led) ++ X := rfl
theorem eqs14 {a0 a1 a2 a3 a4 a5 a6 a7 a8 a9 a10 a11 a12 a13 : Addr × Obj} {X : Led} : a0 :: a1 :: a2 :: a3 :: a4 :: a5 :: a6 :: a7 :: a8 :: a9 :: a10 :: a11 :: a12 :: a13 :: X = ([a0, a1, a2, a3, a4, a5, a6, a7, a8, a9, a10, a11, a12, a13] : Led) ++ X := rfl
theorem eqs15 {a0 a1 a2 a3 a4 a5 a6 a7 a8 a9 a10 a11 a12 a13 a14 : Addr × Obj} {X : Led} : a0 :: a1 :: a2 :: a3 :: a4 :: a5 :: a6 :: a7 :: a8 :: a9 :: a10 :: a11 :: a12 :: a13 :: a14 :: X = ([a0, a1, a2, a3, a4, a5, a6, a7, a8, a9, a10, a11, a12, a13, a14] : Led) ++ X := rfl
theorem eqs16 {a0 a1 a2 a3 a4 a5 a6 a7 a8 a9 a10 a11 a12 a13 a14 a15 : Addr × Obj} {X : Led} : a0 :: a1 :: a2 :: a3 :: a4 :: a5 :: a6 :: a7 :: a8 :: a9 :: a10 :: a11 :: a12 :: a13 :: a14 :: a15 :: X = ([a0, a1, a2, a3, a4, a5, a6, a7, a8, a9, a10, a11, a12, a13, a14, a15] : Led) ++ X := rfl
theorem eqs17 {a0 a1 a2 a3 a4 a5 a6 a7 a8 a9 a10 a11 a12 a13 a14 a15 a16 : Addr × Obj} {X : Led} : a0 :: a1 :: a2 :: a3 :: a4 :: a5 :: a6 :: a7 :: a8 :: a9 :: a10 :: a11 :: a12 :: a13 :: a14 :: a15 :: a16 :: X = ([a0, a1, a2, a3, a4, a5, a6, a7, a8, a9, a10, a11, a12, a13, a14, a15, a16] : Led) ++ X := rfl
theorem eqs18 {a0 a1 a2 a3 a4 a5 a6 a7 a8 a9 a10 a11 a12 a13 a14 a15 a16 a17 : Addr × Obj} {X : Led} : a0 :: a1 :: a2 :: a3 :: a4 :: a5 :: a6 :: a7 :: a8 :: a9 :: a10 :: a11 :: a12 :: a13 :: a14 :: a15 :: a16 :: a17 :: X = ([a0, a1, a2, a3, a4, a5, a6, a7, a8, a9, a10, a11, a12, a13, a14, a15, a16, a17] : Led) ++ X := rfl
theorem eqs19 {a0 a1 a2 a3 a4 a5 a6 a7 a8 a9 a10 a11 a12 a13 a14 a15 a16 a17 a18 : Addr × Obj} {X : Led} : a0 :: a1 :: a2 :: a3 :: a4 :: a5 :: a6 :: a7 :: a8 :: a9 :: a10 :: a11 :: a12 :: a13 :: a14 :: a15 :: a16 :: a17 :: a18 :: X = ([a0, a1, a2, a3, a4, a5, a6, a7, a8, a9, a10, a11, a12, a13, a14, a15, a16, a17, a18] : Led) ++ X := rfl
theorem eqs20 {a0 a1 a2 a3 a4 a5 a6 a7 a8 a9 a10 a11 a12 a13 a14 a15 a16 a17 a18 a19 : Addr × Obj} {X : Led} : a0 :: a1 :: a2 :: a3 :: a4 :: a5 :: a6 :: a7 :: a8 :: a9 :: a10 :: a11 :: a12 :: a13 :: a14 :: a15 :: a16 :: a17 :: a18 :: a19 :: X = ([a0, a1, a2, a3, a4, a5, a6, a7, a8, a9, a10, a11, a12, a13, a14, a15, a16, a17, a18, a19] : Led) ++ X := rfl
theorem mem_tl {a b : Addr × Obj} {l : Led} (h : a ∈ l) : a ∈ b :: l := .tail _ h
theorem mem_hd {a : Addr × Obj} {l : Led} : a ∈ a :: l := .head _
theorem off2_nil {wl nl : Addr} : OwnOff [] [wl, nl] := fun _ h => nomatch h
theorem off2_cons {a wl nl : Addr} {o : Obj} {r : Led} (h1 : @Ne Nat a wl) (h2 : @Ne Nat a nl) (h : OwnOff r [wl, nl]) : OwnOff ((a, o) :: r) [wl, nl] := by
  intro p hp b hb
  rcases List.mem_cons.mp hp with rfl | hp
  · rcases List.mem_cons.mp hb with rfl | hb
    · exact h1
    · rw [List.mem_singleton.mp hb]; exact h2
  · exact h p hp b hb
/-- every entry's address is at or above b -/
def Ge (b : Addr) (tl : Led) : Prop := ∀ p ∈ tl, (@LE.le Nat _ b p.1)
theorem ge_nil {b : Addr} : Ge b [] := fun _ h => nomatch h
theorem ge_cons {b a : Addr} {o : Obj} {r : Led} (h1 : @LE.le Nat _ b a) (h : Ge b r) : Ge b ((a, o) :: r) := by
  intro p hp
  rcases List.mem_cons.mp hp with rfl | hp
  · exact h1
  · exact h p hp
theorem Ge.app {b : Addr} {r t : Led} (h1 : Ge b r) (h : Ge b t) : Ge b (r ++ t) := fun p hp => (List.mem_append.mp hp).elim (h1 p) (h p)
section
variable {prog : Program} {w : World} {A : Around} {s : Shared} {h₀ : Heap} {L : Addr} {m : Str → Option Value} {env : Env} {elt : Expr} {x : Str} {scope : Scope} {cl : List (Str × Addr)} {S : Led → Prop} {P : Nat → Value → Prop} {Fin : List Value → Led → Prop} {n : Nat} {news : Led}
/-- a turn's end -/
def MidEnd (h₀ : Heap) (L : Addr) (m : Str → Option Value) (pre M rest : Led) (s₁ : Shared) (I : Addr) (oI : Obj) (C : Addr) (oC : Obj) (D : Addr) (oD : Obj) (K : Value → Led → Prop) (y : Value) (s₂ : Shared) : Prop :=
  ∃ h' tk' M', s₂ = { s₁ with heap := h', toks := tk' } ∧ Fr h₀ L h' m ∧ News h₀ L h' ((I, oI) :: (C, oC) :: (D, oD) :: (pre ++ (M' ++ rest))) ∧
        (∀ p ∈ M', (∃ q ∈ M, q.1 = p.1) ∨ (p.1 ≠ I ∧ p.1 ≠ C ∧ p.1 ≠ D)) ∧ K y M'
open LCg in
/-- a comprehension's turns by what holds of its middle part of the ledger -/
theorem comp_mid (pre M rest : Led) (K : Nat → List Value → Led → Prop) (hn : news = pre ++ (M ++ rest)) (h0 : K 0 [] M) (hS : ∀ M, S (pre ++ (M ++ rest)))
    (hstep : ∀ i ys M v I oI C oC D m₂ h tk (E' : Value → Shared → Prop), i < n → K i ys M → P i v → NsObj oC m₂ → m₂ x = some v → Fr h₀ L h m → News h₀ L h ((I, oI) :: (C, oC) :: (D, lst ys) :: (pre ++ (M ++ rest))) →
      (∀ p ∈ pre ++ (M ++ rest), p.1 ≠ I ∧ p.1 ≠ C ∧ p.1 ≠ D) → ((@Ne Nat I C) ∧ (@Ne Nat I D) ∧ (@Ne Nat C D)) →
      wpAny (model prog w) A (eval elt (compEnvC scope cl C env)) (MidEnd h₀ L m pre M rest { s with heap := h, toks := tk } I oI C oC D (lst ys) (fun y M' => K (i + 1) (ys ++ [y]) M')) E' { s with heap := h, toks := tk })
    (hfin : ∀ ys M, K n ys M → Fin ys (pre ++ (M ++ rest))) :
    CompRest prog w A h₀ L m env elt x scope cl s S P Fin n 0 [] news := by
  subst hn
  have all : ∀ k i ys M, i + k = n → K i ys M → CompRest prog w A h₀ L m env elt x scope cl s S P Fin k i ys (pre ++ (M ++ rest)) := by
    intro k
    induction k with
    | zero => intro i ys M hi hK; exact CompRest.zero (hfin ys M ((show i = n by omega) ▸ hK))
    | succ k ih =>
      intro i ys M hi hK
      refine CompRest.succ fun v I oI C oC D m₂ h tk E' hP hC hx F N off ne => ?_
      have off' := off.mem
      refine wpAny_mono (hstep i ys M v I oI C oC D m₂ h tk E' (by omega) hK hP hC hx F N off' ne) (fun y s₂ hy => ?_) fun _ _ e => e
      obtain ⟨h', tk', M', rfl, F', N', hM, hK'⟩ := hy
      refine ⟨h', tk', pre ++ (M' ++ rest), rfl, F', N', Off3.of fun p hp => ?_, hS M', ih (i + 1) _ M' (by omega) hK'⟩
      rcases List.mem_append.mp hp with hp | hp
      · exact off' p (List.mem_append.mpr (.inl hp))
      · rcases List.mem_append.mp hp with hp | hp
        · rcases hM p hp with ⟨q, hq, e⟩ | hq
          · rw [← e]; exact off' q (List.mem_append.mpr (.inr (List.mem_append.mpr (.inl hq))))
          · exact hq
        · exact off' p (List.mem_append.mpr (.inr (List.mem_append.mpr (.inr hp))))
  exact all n 0 [] M (by omega) h0
end
/-- comp_mid, and what is new lies apart from pre and rest -/
theorem dis_new {a : Addr} {o : Obj} {l : Led} (h : ∀ p ∈ l, p.1 ≠ a) : ∀ p ∈ [(a, o)], ∀ q ∈ l, p.1 ≠ q.1 := by
  intro p hp q hq
  rw [List.mem_singleton.mp hp]; exact Ne.symm (h q hq)
theorem Well.off {B : Nat} {wl nl : Addr} {W X : Led} {P : Addr → Prop} (h : Well B wl nl W) (l : ∀ p ∈ X, P p.1) (hs : ∀ p ∈ W, p ∈ X) : P wl ∧ P nl := by
  obtain ⟨vs, ns, pl, tp, e1, e2, rfl, _⟩ := h
  exact ⟨l _ (hs _ (.head _)), l _ (hs _ (.tail _ (.head _)))⟩
theorem Well.same {B B' : Nat} {wl nl : Addr} {W W' : Led} (h : Well B wl nl W) (h' : Well B' wl nl W') : ∀ p ∈ W', ∃ q ∈ W, q.1 = p.1 := by
  obtain ⟨vs, ns, pl, tp, e1, e2, rfl, _⟩ := h
  obtain ⟨vs, ns, pl, tp, e1, e2, rfl, _⟩ := h'
  intro p hp
  rcases List.mem_cons.mp hp with rfl | hp
  · exact ⟨_, .head _, rfl⟩
  · rw [List.mem_singleton.mp hp]; exact ⟨_, .tail _ (.head _), rfl⟩
/-- an address apart from the well's and from rest's -/
def Sep (a wl nl : Addr) (rest : Led) : Prop := (@Ne Nat a wl) ∧ (@Ne Nat a nl) ∧ ∀ q ∈ rest, (@Ne Nat a q.1)
def Seps (wl nl : Addr) (rest tl : Led) : Prop := ∀ p ∈ tl, Sep p.1 wl nl rest
theorem seps_nil {wl nl : Addr} {rest : Led} : Seps wl nl rest [] := fun _ h => nomatch h
theorem seps_cons {a wl nl : Addr} {o : Obj} {rest tl : Led} (h : Sep a wl nl rest) (h2 : Seps wl nl rest tl) : Seps wl nl rest ((a, o) :: tl) := by
  intro p hp
  rcases List.mem_cons.mp hp with rfl | hp
  · exact h
  · exact h2 p hp
theorem allLt_all {d : Addr} {l : Led} (h : AllLt d l) : ∀ p ∈ l, (@LT.lt Nat _ p.1 d) := by
  induction l with
  | nil => exact fun _ hp => nomatch hp
  | cons x r ih =>
    have h1 : (@LT.lt Nat _ x.1 d) ∧ AllLt d r := h
    intro p hp
    cases hp with
    | head => exact h1.1
    | tail _ hp => exact ih h1.2 p hp
theorem off1_all {D : Addr} {l : Led} (h : LCg.Off1 D l) : ∀ p ∈ l, (@Ne Nat p.1 D) := by
  induction l with
  | nil => exact fun _ hp => nomatch hp
  | cons x r ih =>
    have h1 : (@Ne Nat x.1 D) ∧ LCg.Off1 D r := h
    intro p hp
    cases hp with
    | head => exact h1.1
    | tail _ hp => exact ih h1.2 p hp
theorem sep_of {B : Nat} {a wl nl : Addr} {W rest : Led} (hW : Well B wl nl W) (h : ∀ p ∈ W ++ rest, (@Ne Nat a p.1)) : Sep a wl nl rest := by
  obtain ⟨vs, ns, pl, tp, e1, e2, rfl, _⟩ := hW
  exact ⟨h _ (List.mem_append.mpr (.inl (.head _))), h _ (List.mem_append.mpr (.inl (.tail _ (.head _)))), fun q hq => h q (List.mem_append.mpr (.inr hq))⟩
theorem sep_lt {B : Nat} {a wl nl : Addr} {W rest : Led} (h : AllLt a (W ++ rest)) (hW : Well B wl nl W) : Sep a wl nl rest := sep_of hW fun p hp => Nat.ne_of_gt (allLt_all h p hp)
theorem sep_off {B : Nat} {a wl nl : Addr} {W rest : Led} (h : LCg.Off1 a (W ++ rest)) (hW : Well B wl nl W) : Sep a wl nl rest := sep_of hW fun p hp => Ne.symm (off1_all h p hp)
theorem sep_ge {B : Nat} {a b wl nl : Addr} {W rest : Led} (h : ∀ p ∈ W ++ rest, p.1 < b) (hW : Well B wl nl W) (hab : @LE.le Nat _ b a) : Sep a wl nl rest := sep_of hW fun p hp => Nat.ne_of_gt (Nat.lt_of_lt_of_le (h p hp) hab)
theorem Well.lt {B : Nat} {wl nl x : Addr} {W rest : Led} (h : Well B wl nl W) (l : ∀ p ∈ W ++ rest, p.1 < x) : (@LT.lt Nat _ wl x) ∧ (@LT.lt Nat _ nl x) := by
  obtain ⟨vs, ns, pl, tp, e1, e2, rfl, _⟩ := h
  exact ⟨l _ (List.mem_append.mpr (.inl (.head _))), l _ (List.mem_append.mpr (.inl (.tail _ (.head _))))⟩
/-- a block's end, as the law draws it -/
inductive End where
  | jump (g : Int)
  | branch (v g0 g1 : Int)
  | table (v low : Int) (gs : List Int) (g : Int)
  | give (v : Int)
def End.op : End → Str
  | .jump _ => Str.ofString "jump"
  | .branch .. => Str.ofString "branch"
  | .table .. => Str.ofString "table"
  | .give _ => Str.ofString "give"
def rDat (v : Int) : Dat := .tuple [.str (Str.ofString "r"), .int v]
def End.args : End → List Dat
  | .jump _ => []
  | .branch v _ _ => [rDat v]
  | .table v _ _ _ => [rDat v]
  | .give v => [rDat v]
def End.low : End → Int
  | .table _ low _ _ => low
  | _ => 0
def End.goals : End → List Int
  | .jump g => [g]
  | .branch _ g0 g1 => [g0, g1]
  | .table _ _ gs g => gs ++ [g]
  | .give _ => []
def intDats (ns : List Int) : List Dat := ns.map Dat.int
def endDat (e : End) : Dat := .tuple [.str e.op, .list e.args, .int e.low, .list (intDats e.goals)]
def EndOk (many : Int) (e : End) : Prop := (∀ g ∈ e.goals, 0 ≤ g ∧ g < many) ∧ e.goals.length ≤ 4 ∧ 0 ≤ e.low ∧ e.low < 5
theorem datAll_intDats {news : Led} {vs : List Value} {ns : List Int} (h : IntsAre vs ns) : DatAll news vs (intDats ns) := by
  induction h with
  | nil => exact .nil
  | cons i t _ ih => exact .cons (.int i t) ih
end Mine
namespace Mine
theorem gt_ne2 {a b c : Nat} (h : b < c) (h2 : c + 1 < a) : (@Ne Nat a b) := Nat.ne_of_gt (Nat.lt_trans h (Nat.lt_of_succ_lt h2))
theorem gt_ne1 {b c : Nat} (h : b < c) : (@Ne Nat (c + 1) b) := Nat.ne_of_gt (Nat.lt_succ_of_lt h)
theorem gt_ne11 {b c : Nat} (h : b < c) : (@Ne Nat (c + 1 + 1) b) := Nat.ne_of_gt (Nat.lt_succ_of_lt (Nat.lt_succ_of_lt h))
theorem room2 {u c n a b : Nat} (h : u + c < n) (k : a + b ≤ c) : u + a + b < n := by omega
theorem bnd1 {u c n a : Nat} (h : u ≤ c) (k : c + a ≤ n) : u + a ≤ n := by omega
theorem bnd2 {u c n a b : Nat} (h : u ≤ c) (k : c + a + b ≤ n) : u + a + b ≤ n := by omega
theorem bnd3 {u c n a b d : Nat} (h : u ≤ c) (k : c + a + b + d ≤ n) : u + a + b + d ≤ n := by omega
theorem bnd4 {u c n a b d e : Nat} (h : u ≤ c) (k : c + a + b + d + e ≤ n) : u + a + b + d + e ≤ n := by omega
theorem bnd_end {B i : Nat} {k : Int} (h : B ≤ 999000) (hi : i < (k - 0).toNat) (hk : k < 4) : B + 4 + 2 * i ≤ 999990 := by omega
theorem bnd_tab {B : Nat} {k : Int} (hk : k < 4) : B + 4 + 2 * (k - 0).toNat + 2 ≤ B + 12 := by omega
theorem bnd_len {k : Int} (hk : k < 4) : (k - 0).toNat + 1 ≤ 4 := by omega
end Mine
namespace Mine
section
theorem kset1 : True := by
  k_with_none
  k_with "M gen" => ((fail_if_success (goal_lacks Mine.MidEnd PyProof.Rows.LCg.CompSrc PyProof.Rows.LCt.CompSrcT)); k_fold)
  k_with "M steps" => (repeat' (first | k_extra "M gen" | (k_unfold; (try dsimp only)) | (k_end; wrow_close) | walk1 | (dsimp only; walk1) | (leave1; walk_say "STEP leave1"; try dsimp only) | fail "no step"))
  k_with "setItem ref int" => ((k_here; (with_reducible show wpAny _ _ (setItem (Value.ref _) (Value.int _ _) _) _ _ _); k_dflt (refine' set_any ?k1q1 ?k2q1 ?k3q1 ?k4q1 ?k5q1 ?k6q1 ?k7q1 ?_; (case k1q1 => k_asm); (case k2q1 => k_asm); (case k3q1 => k_upd); (case k7q1 => exact rfl); (case k4q1 => decide); (case k5q1 => decide); (case k6q1 => decide); k_whole); intro h'zq F'zq N'zq; (try k_sweep)))
  trivial
set_option maxRecDepth 100000 in
set_option maxHeartbeats 8000000 in
theorem draw_ctr (w : World) (B : Nat) (wl nl : Addr) (W rest : Led) (size : Int) (ts : Tok) (hW : Well B wl nl W) (hB : B ≤ 1000000) (hap : OwnOff rest [wl, nl]) (h0 : 0 < size) (h1 : size < 1000) :
    Ctr w 101 1 [.ref wl, .int size ts] (W ++ rest) (fun r news' => ∃ W' k tk, r = .int k tk ∧ news' = W' ++ rest ∧ Well (B + 1) wl nl W' ∧ 0 ≤ k ∧ k < size) := by
  unfold Ctr
  k_fill
  w_top off
  intro p loose mean mg mb dp un gd cn cs a ccd cl outer A₀ base h₀ L m s Q E BB F X N T hk hd hu hret
  obtain ⟨vs, ns, pl, tp, e1, e2, rfl, hI, hns, hpos, hlen, hp0, hp1, hne⟩ := hW
  dsimp only [List.cons_append, List.nil_append] at N ⊢
  refine wpAny_call ?_
  k_dflt ktr_enter
  k_extra "M steps"
  · refine hret _ _ _ _ (by k_asm) (by k_asm) ⟨[(wl, _), (nl, _)], _, _, rfl, rfl, ⟨_, _, pl + 1, _, _, _, rfl, hI.append (.cons _ _ .nil), ?_, ?_, ?_, ?_, ?_, hne⟩, fmod_lo _ h0, fmod_hi _ h0⟩
    · intro n hn
      rcases List.mem_append.mp hn with hn | hn
      · exact hns n hn
      · rw [List.mem_singleton.mp hn]
        exact ⟨fmod_lo _ (by decide), Int.lt_trans (fmod_hi _ (by decide)) (by decide)⟩
    all_goals ((try simp only [List.length_append, List.length_singleton]); omega)
  · refine hret _ _ _ _ (by k_asm) (by k_asm) ⟨[(wl, _), (nl, _)], _, _, rfl, rfl, ⟨_, _, pl + 1, _, _, _, rfl, hI, hns, hpos, ?_, ?_, ?_, hne⟩, fmod_lo _ h0, fmod_hi _ h0⟩
    all_goals omega
end
theorem kset2 : True := by
  k_with_none
  k_with "M gen" => ((fail_if_success (goal_lacks Mine.MidEnd PyProof.Rows.LCg.CompSrc PyProof.Rows.LCt.CompSrcT)); k_fold)
  k_with "M steps" => (repeat' (first | k_extra "M gen" | (k_unfold; (try dsimp only)) | (k_end; wrow_close) | walk1 | (dsimp only; walk1) | (leave1; walk_say "STEP leave1"; try dsimp only) | fail "no step"))
  trivial
theorem draw_pre (w : World) (B : Nat) (wl nl : Addr) (pre W rest : Led) (size : Int) (ts : Tok) (hW : Well B wl nl W) (hB : B ≤ 1000000) (hpre : OwnOff pre [wl, nl]) (hap : OwnOff rest [wl, nl]) (h0 : 0 < size) (h1 : size < 1000) :
    Ctr w 101 1 [.ref wl, .int size ts] (pre ++ (W ++ rest)) (fun r news' => ∃ W' k tk, r = .int k tk ∧ news' = pre ++ (W' ++ rest) ∧ Well (B + 1) wl nl W' ∧ 0 ≤ k ∧ k < size) := by
  refine (draw_ctr w B wl nl W (pre ++ rest) size ts hW hB (fun p hp => (List.mem_append.mp hp).elim (hpre p) (hap p)) h0 h1).weaken mem_swap ?_
  rintro r n' ⟨W', k, tk, e, rfl, hW', h⟩
  exact ⟨_, ⟨W', k, tk, e, rfl, hW', h⟩, mem_swap'⟩
theorem draw_use {w : World} {p : Program} {loose : List Str} {mean : ExcName → Option Value} {mg mb : Str → Option Value}
    {dp un : Nat} {gd : Option (List Code)} {cn : Str} {cs : Scope} {a : Addr} {ccd : Value} {cl : List (Str × Addr)} {outer : List Env} {A₀ : Around} {base h₀ : Heap} {L : Addr} {m : Str → Option Value}
    {s : Shared} {Q E : Value → Shared → Prop} {all : Led} {B : Nat} {wl nl : Addr} {pre W rest : Led} {size : Int} {ts : Tok}
    (BB : Below A₀ base outer h₀) (F : Fr h₀ L s.heap m) (X : (Mine.hd.heap_39 w.params).In h₀) (N : News h₀ L s.heap all) (T : Top p loose mean mg mb h₀) (hk : cs.kind = .function)
    (hd : dp + 1 < recursionLimit) (hu : un + 8 * 1 < cLine) (hs : ∀ q ∈ pre ++ (W ++ rest), q ∈ all) (hW : Well B wl nl W) (hB : B ≤ 1000000) (hpre : OwnOff pre [wl, nl]) (hap : OwnOff rest [wl, nl]) (h0 : 0 < size) (h1 : size < 1000)
    (ret : ∀ W' k tk h' tk', Fr h₀ L h' m → News h₀ L h' (pre ++ (W' ++ rest)) → Well (B + 1) wl nl W' → 0 ≤ k → k < size → Q (.int k tk) { s with heap := h', toks := tk' }) :
    wpAny (model PySem.Challenge.rw_nm0004_01.row.prog w) (ktrTop dp un gd cn cs L a ccd cl outer) (call (.ref 101) [.ref wl, .int size ts]) Q E s := by
  refine Ctr.use (draw_pre w B wl nl pre W rest size ts hW hB hpre hap h0 h1) BB F X N T hk hd hu hs ?_
  rintro r n' h' tk' F' N' ⟨W', k, tk, rfl, rfl, hW', hk0, hk1⟩
  exact ret W' k tk h' tk' F' N' hW' hk0 hk1
end Mine
namespace Mine
section
theorem kset3 : True := by
  k_with_none
  k_with "M gen" => ((fail_if_success (goal_lacks Mine.MidEnd PyProof.Rows.LCg.CompSrc PyProof.Rows.LCt.CompSrcT)); k_fold)
  k_with "M steps" => (repeat' (first | k_extra "M gen" | (k_unfold; (try dsimp only)) | (k_end; wrow_close) | walk1 | (dsimp only; walk1) | (leave1; walk_say "STEP leave1"; try dsimp only) | fail "no step"))
  k_with "M none" => (skip)
  k_with "call ref" => ((k_here; (with_reducible show wpAny _ _ (call (Value.ref 101) _ _) _ _ _); k_dflt (refine' draw_use (pre := []) ?c1q3 ?c2q3 ?c3q3 ?c4q3 ?c5q3 ?c6q3 ?c7q3 ?c8q3 ?c9q3 (by assumption) ?kBq3 ?kPq3 (by assumption) ?k0q3 ?k1q3 ?_; (case c1q3 => k_asm); (case c2q3 => k_asm); (case c3q3 => k_asm); (case c4q3 => k_asm); (case c5q3 => k_asm); (case c6q3 => first | exact rfl | assumption); (case c9q3 => exact fun _ h => h); (case kBq3 => first | exact bnd1 (by with_reducible assumption) (Nat.le_of_ble_eq_true rfl) | omega); (case kPq3 => exact fun _ h => nomatch h); (case k0q3 => first | with_reducible assumption | decide); (case k1q3 => first | with_reducible assumption | decide); (case c7q3 | c8q3 => exact room2 (by with_reducible assumption) (Nat.le_of_ble_eq_true rfl)); k_whole); (intro W9zq k9zq t9zq h9zq tk9zq F9zq N9zq hW9zq h09zq h19zq; (try dsimp only [List.cons_append, List.nil_append] at N9zq); (try dsimp only); (try k_fold))))
  trivial
set_option maxRecDepth 100000 in
set_option maxHeartbeats 8000000 in
theorem goal_ctr (w : World) (B : Nat) (wl nl : Addr) (W rest : Led) (many : Int) (ts : Tok) (hW : Well B wl nl W) (hB : B ≤ 999990) (hap : OwnOff rest [wl, nl]) (h0 : 0 < many) (h1 : many < 1000) :
    Ctr w 108 2 [.ref wl, .int many ts] (W ++ rest) (fun r news' => ∃ W' k tk, r = .int k tk ∧ news' = W' ++ rest ∧ Well (B + 2) wl nl W' ∧ 0 ≤ k ∧ k < many) := by
  unfold Ctr
  k_fill
  w_top off
  intro p loose mean mg mb dp un gd cn cs a ccd cl outer A₀ base h₀ L m s Q E BB F X N T hk hd hu hret
  refine wpAny_call ?_
  k_dflt ktr_enter
  k_extra "M steps"
  · exact hret _ _ _ _ (by k_asm) (by k_asm) ⟨_, _, _, rfl, rfl, Well.mono (by assumption) (by omega), by decide, h0⟩
  · exact hret _ _ _ _ (by k_asm) (by k_asm) ⟨_, _, _, rfl, rfl, by assumption, by assumption, by assumption⟩
end
theorem kset4 : True := by
  k_with_none
  k_with "M gen" => ((fail_if_success (goal_lacks Mine.MidEnd PyProof.Rows.LCg.CompSrc PyProof.Rows.LCt.CompSrcT)); k_fold)
  k_with "M steps" => (repeat' (first | k_extra "M gen" | (k_unfold; (try dsimp only)) | (k_end; wrow_close) | walk1 | (dsimp only; walk1) | (leave1; walk_say "STEP leave1"; try dsimp only) | fail "no step"))
  trivial
theorem goal_pre (w : World) (B : Nat) (wl nl : Addr) (pre W rest : Led) (many : Int) (ts : Tok) (hW : Well B wl nl W) (hB : B ≤ 999990) (hpre : OwnOff pre [wl, nl]) (hap : OwnOff rest [wl, nl]) (h0 : 0 < many) (h1 : many < 1000) :
    Ctr w 108 2 [.ref wl, .int many ts] (pre ++ (W ++ rest)) (fun r news' => ∃ W' k tk, r = .int k tk ∧ news' = pre ++ (W' ++ rest) ∧ Well (B + 2) wl nl W' ∧ 0 ≤ k ∧ k < many) := by
  refine (goal_ctr w B wl nl W (pre ++ rest) many ts hW hB (fun p hp => (List.mem_append.mp hp).elim (hpre p) (hap p)) h0 h1).weaken mem_swap ?_
  rintro r n' ⟨W', k, tk, e, rfl, hW', h⟩
  exact ⟨_, ⟨W', k, tk, e, rfl, hW', h⟩, mem_swap'⟩
theorem goal_use {w : World} {p : Program} {loose : List Str} {mean : ExcName → Option Value} {mg mb : Str → Option Value}
    {dp un : Nat} {gd : Option (List Code)} {cn : Str} {cs : Scope} {a : Addr} {ccd : Value} {cl : List (Str × Addr)} {outer : List Env} {A₀ : Around} {base h₀ : Heap} {L : Addr} {m : Str → Option Value}
    {s : Shared} {Q E : Value → Shared → Prop} {all : Led} {B : Nat} {wl nl : Addr} {pre W rest : Led} {size : Int} {ts : Tok}
    (BB : Below A₀ base outer h₀) (F : Fr h₀ L s.heap m) (X : (Mine.hd.heap_39 w.params).In h₀) (N : News h₀ L s.heap all) (T : Top p loose mean mg mb h₀) (hk : cs.kind = .function)
    (hd : dp + 2 < recursionLimit) (hu : un + 8 * 2 < cLine) (hs : ∀ q ∈ pre ++ (W ++ rest), q ∈ all) (hW : Well B wl nl W) (hB : B ≤ 999990) (hpre : OwnOff pre [wl, nl]) (hap : OwnOff rest [wl, nl]) (h0 : 0 < size) (h1 : size < 1000)
    (ret : ∀ W' k tk h' tk', Fr h₀ L h' m → News h₀ L h' (pre ++ (W' ++ rest)) → Well (B + 2) wl nl W' → 0 ≤ k → k < size → Q (.int k tk) { s with heap := h', toks := tk' }) :
    wpAny (model PySem.Challenge.rw_nm0004_01.row.prog w) (ktrTop dp un gd cn cs L a ccd cl outer) (call (.ref 108) [.ref wl, .int size ts]) Q E s := by
  refine Ctr.use (goal_pre w B wl nl pre W rest size ts hW hB hpre hap h0 h1) BB F X N T hk hd hu hs ?_
  rintro r n' h' tk' F' N' ⟨W', k, tk, rfl, rfl, hW', hk0, hk1⟩
  exact ret W' k tk h' tk' F' N' hW' hk0 hk1
end Mine
namespace Mine
section
theorem kset5 : True := by
  k_with_none
  k_with "M gen" => ((fail_if_success (goal_lacks Mine.MidEnd PyProof.Rows.LCg.CompSrc PyProof.Rows.LCt.CompSrcT)); k_fold)
  k_with "M steps" => (repeat' (first | k_extra "M gen" | (k_unfold; (try dsimp only)) | (k_end; wrow_close) | walk1 | (dsimp only; walk1) | (leave1; walk_say "STEP leave1"; try dsimp only) | fail "no step"))
  k_with "M off" => (first | exact off2_nil | (refine off2_cons ?offAq4 ?offBq4 ?offCq4; (case offAq4 => omega); (case offBq4 => omega); (case offCq4 => k_extra "M off")))
  k_with "M sub" => (first | exact sub0 | exact sub1 | exact sub2 | exact sub3 | exact sub4 | exact sub5 | exact sub6 | exact sub7 | exact sub8 | exact sub9 | exact sub10 | exact sub11 | exact sub12)
  k_with "M after" => (((intro r9zq n9zq h9zq tk9zq F9zq N9zq P9zq; obtain ⟨W9zq, k9zq, t9zq, e9zq, e9'zq, hW9zq, h09zq, h19zq⟩ := P9zq; subst e9zq; subst e9'zq; (try dsimp only [List.cons_append, List.nil_append] at N9zq); (try dsimp only); (try k_fold))))
  k_with "M ctr" => (((case c1 => k_asm); (case c2 => k_asm); (case c3 => k_asm); (case c4 => k_asm); (case c5 => k_asm); (case c6 => first | exact rfl | assumption); (case c9 => k_extra "M sub"); (case kB => omega); (case kP => k_extra "M off"); (case k0 => omega); (case k1 => omega); (case c7 => ktr_room); (case c8 => ktr_units); k_whole))
  k_with "call ref" => ((k_here; (with_reducible show wpAny _ _ (call (Value.ref 101) _ _) _ _ _); k_dflt (refine' Ctr.use (draw_pre _ _ _ _ _ _ _ _ _ (by assumption) ?kB ?kP (by assumption) ?k0 ?k1) ?c1 ?c2 ?c3 ?c4 ?c5 ?c6 ?c7 ?c8 ?c9 ?_; k_extra "M ctr"; k_extra "M after")))
  k_with "call ref" => ((k_here; (with_reducible show wpAny _ _ (call (Value.ref 108) _ _) _ _ _); k_dflt (refine' Ctr.use (goal_pre _ _ _ _ _ _ _ _ _ (by assumption) ?kB ?kP (by assumption) ?k0 ?k1) ?c1 ?c2 ?c3 ?c4 ?c5 ?c6 ?c7 ?c8 ?c9 ?_; k_extra "M ctr"; k_extra "M after")))
  k_with "M enterC" => ((refine' code_defC ?k1q10 ?k2q10 ?k3q10 ?k4q10 ?k5q10 ?kAq10 ?kFq10 ?kKq10 ?k6q10 ?k7q10 ?k8q10 ?k9q10 ?kBq10 ?kDq10 ?_ ?c2q10 ?c3q10 ?c4q10; (case kAq10 => exact rfl); (case kFq10 => exact rfl); (case kKq10 => assumption); (case k1q10 => k_asm); (case k2q10 => k_asm); (case k3q10 => k_asm); (case k4q10 => k_asm); (case k5q10 => k_asm); (case k6q10 => k_is); (case k7q10 => k_is); (case k8q10 => ktr_room); (case k9q10 => exact BindsTo.of_eq rfl); (case kBq10 => exact rfl); (case kDq10 => decide +kernel); (case c2q10 => exact rfl); (case c3q10 => exact rfl); (case c4q10 => exact rfl); k_whole; intro g'zq L'zq h'zq tk'zq cells'zq FG'zq F'zq N'zq Y'zq B'zq X'zq T'zq l1zq; k_cells Y'zq; (try simp only [List.cons_append, List.nil_append] at N'zq); (try dsimp only); (try k_fold)))
  k_with "eval ListComp" => ((k_here; k_dflt (refine LCg.ListComp_U (F₀ := by k_asm) (by with_unfolding_all rfl) (by decide) (by rfl) (by decide) (by rfl) ?_)))
  k_with "CompSrc" => (refine Stop.mk ?_)
  k_with "M eq" => (first | exact eqs0 | exact eqs1 | exact eqs2 | exact eqs3 | exact eqs4 | exact eqs5 | exact eqs6 | exact eqs7 | exact eqs8 | exact eqs9 | exact eqs10 | exact eqs11 | exact eqs12 | exact eqs13 | exact eqs14 | exact eqs15 | exact eqs16)
  k_with "M seps" => (first | exact seps_nil | (refine seps_cons ?s1q14 ?s2q14; (case s1q14 => first | assumption | exact sep_lt (by assumption) (by assumption) | exact sep_ge (by assumption) (by assumption) (by omega)); (case s2q14 => k_extra "M seps")))
  k_with "M split" => (repeat ((with_reducible rename (_ ∧ _) => hc9zq); have hc9azq := hc9zq.1; have hc9bzq := hc9zq.2; clear hc9zq))
  k_with "M fin" => (((case eq => k_extra "M eq"); (case well => exact Well.mono (by assumption) (by omega)); (case sep => k_extra "M split"; k_extra "M seps")))
  trivial
set_option maxRecDepth 100000 in
set_option maxHeartbeats 8000000 in
theorem end_ctr (w : World) (B : Nat) (wl nl : Addr) (W rest : Led) (many : Int) (ts : Tok) (hW : Well B wl nl W) (hB : B ≤ 999000) (hap : OwnOff rest [wl, nl]) (h0 : 0 < many) (h1 : many < 1000) :
    Ctr w 113 4 [.ref wl, .int many ts] (W ++ rest) (fun r news' => ∃ tl W' e, news' = tl ++ (W' ++ rest) ∧ Well (B + 12) wl nl W' ∧ EndOk many e ∧ DatIn tl r (endDat e) ∧ Seps wl nl rest tl) := by
  unfold Ctr
  k_fill
  w_top off
  intro p loose mean mg mb dp un gd cn cs a ccd cl outer A₀ base h₀ L m s Q E BB F X N T hk hd hu hret
  refine wpAny_call ?_
  k_dflt k_extra "M enterC"
  rename (∀ p : Addr × Obj, p ∈ _ → p.1 < _) => l1
  have l2 := hW.lt l1
  k_extra "M steps"
  rotate_left 2
  · refine Stop.go ?_
    refine LCg.CompSrc.range (by rfl) (by k_asm) (by k_asm) (by assumption) ?cs1 (rangeSize_nat _ _) ?cs2 ?cs3
    case cs1 => exact small_one (by omega) (by omega) (by omega) (by omega)
    case cs2 => rw [sizeLine_eq]; omega
    intro g9
    refine' comp_mid _ _ _ (fun i ys M => Well (B + 4 + 2 * i) wl nl M ∧ ∃ ns : List Int, IntsAre ys ns ∧ ns.length = i ∧ ∀ n ∈ ns, 0 ≤ n ∧ n < many) ?hn ?h0 ?hS ?hstep ?hfin
    case hn => k_extra "M eq"
    case h0 => exact ⟨Well.mono (by assumption) (by omega), [], .nil, rfl, fun _ h => nomatch h⟩
    case hS => intro M; trivial
    case hstep =>
      rintro i ys M v I oI C oC D m₂ h tk E' hi ⟨hWM, ns, hIy, hly, hby⟩ hP hC hx F N off ne
      dsimp only [List.cons_append, List.nil_append] at N
      have q1 := hWM.off (P := fun a => a ≠ I ∧ a ≠ C ∧ a ≠ D) off (by intro p hp; simp [hp])
      have q2 : (@Ne Nat wl I ∧ @Ne Nat wl C ∧ @Ne Nat wl D) ∧ (@Ne Nat nl I ∧ @Ne Nat nl C ∧ @Ne Nat nl D) := q1
      clear q1
      k_extra "M steps"
      exact ⟨_, _, _, rfl, by k_asm, by k_asm, fun p hp => .inl (hWM.same (by assumption) p hp), Well.mono (by assumption) (by omega), ns ++ [_], hIy.append (.cons _ _ .nil), by rw [List.length_append, hly]; rfl, fun n hn => by
        rcases List.mem_append.mp hn with hn | hn
        · exact hby n hn
        · rw [List.mem_singleton.mp hn]; exact ⟨by assumption, by assumption⟩⟩
    rintro ys M ⟨hWM, ns, hIy, hly, hby⟩
    unfold LCg.FinE
    intro D9 h9 tk9 F9 N9 o9
    dsimp only [List.cons_append, List.nil_append] at N9
    simp only [LCg.Off1, List.cons_append, List.nil_append] at o9
    have q3 := sep_off (a := D9) o9.2.2.2.2.2.2 hWM
    have q4 : (@Ne Nat D9 wl ∧ @Ne Nat D9 nl) := ⟨q3.1, q3.2.1⟩
    dsimp only
    try k_fold
    k_extra "M steps"
    refine' hret _ _ _ _ (by k_asm) (by k_asm) ⟨_, _, .table _ _ _ _, ?eq, ?well, ?ok, ?dat, ?sep⟩
    k_extra "M fin"
    case dat => exact .tuple (by k_mem) (.cons (.str _ _) (.cons (.list (by k_mem) (.cons (.tuple (by k_mem) (.cons (.str _ _) (.cons (.int _ _) .nil))) .nil)) (.cons (.int _ _) (.cons (.list (by k_mem) (datAll_intDats (by assumption))) .nil))))
    case ok =>
      refine ⟨fun x hx => ?_, ?_, by assumption, by assumption⟩
      · rcases List.mem_append.mp hx with hx | hx
        · exact hby x hx
        · rw [List.mem_singleton.mp hx]; exact ⟨by assumption, by assumption⟩
      · show (ns ++ [_]).length ≤ 4
        rw [List.length_append, hly, List.length_singleton]; omega
  · refine' hret _ _ _ _ (by k_asm) (by k_asm) ⟨_, _, .give _, ?eq, ?well, ?ok, ?dat, ?sep⟩
    k_extra "M fin"
    case dat => exact .tuple (by k_mem) (.cons (.str _ _) (.cons (.list (by k_mem) (.cons (.tuple (by k_mem) (.cons (.str _ _) (.cons (.int _ _) .nil))) .nil)) (.cons (.int _ _) (.cons (.list (by k_mem) .nil) .nil))))
    case ok => exact ⟨(fun x hx => nomatch hx), (by decide : 0 ≤ 4), (by decide : (0 : Int) ≤ 0), (by decide : (0 : Int) < 5)⟩
  · refine' hret _ _ _ _ (by k_asm) (by k_asm) ⟨_, _, .jump _, ?eq, ?well, ?ok, ?dat, ?sep⟩
    k_extra "M fin"
    case dat => exact .tuple (by k_mem) (.cons (.str _ _) (.cons (.list (by k_mem) .nil) (.cons (.int _ _) (.cons (.list (by k_mem) (.cons (.int _ _) .nil)) .nil))))
    case ok => exact ⟨(fun x hx => by rw [List.mem_singleton.mp hx]; exact ⟨by assumption, by assumption⟩), (by decide : 1 ≤ 4), (by decide : (0 : Int) ≤ 0), (by decide : (0 : Int) < 5)⟩
  · refine' hret _ _ _ _ (by k_asm) (by k_asm) ⟨_, _, .branch _ _ _, ?eq, ?well, ?ok, ?dat, ?sep⟩
    k_extra "M fin"
    case dat => exact .tuple (by k_mem) (.cons (.str _ _) (.cons (.list (by k_mem) (.cons (.tuple (by k_mem) (.cons (.str _ _) (.cons (.int _ _) .nil))) .nil)) (.cons (.int _ _) (.cons (.list (by k_mem) (.cons (.int _ _) (.cons (.int _ _) .nil))) .nil))))
    case ok =>
      refine ⟨fun x hx => ?_, (by decide : 2 ≤ 4), (by decide : (0 : Int) ≤ 0), (by decide : (0 : Int) < 5)⟩
      rcases List.mem_cons.mp hx with rfl | hx
      · exact ⟨by assumption, by assumption⟩
      · rw [List.mem_singleton.mp hx]; exact ⟨by assumption, by assumption⟩
end
end Mine
namespace Mine
section
variable {prog : Program} {w : World} {A : Around} {E : Value → Shared → Prop} {s : Shared} {env : Env} {h₀ : Heap} {target : Expr} {body : List Stmt} {Q : Flow → Shared → Prop} {news : Led} {m₀ : Str → Option Value}
/-- a for's turn: what its end shows -/
def TurnEnd (h₀ : Heap) (L : Addr) (pre M rest its : Led) (s₁ : Shared) (K : (Str → Option Value) → Led → Prop) (s₂ : Shared) : Prop :=
  ∃ h' tk' m' M', s₂ = { s₁ with heap := h', toks := tk' } ∧ Fr h₀ L h' m' ∧ News h₀ L h' (its ++ (pre ++ (M' ++ rest))) ∧ (∀ p ∈ M', (∃ q ∈ M, q.1 = p.1) ∨ ∀ q ∈ its, p.1 ≠ q.1) ∧ K m' M'
def TurnPost (h₀ : Heap) (L : Addr) (pre M rest its : Led) (s₁ : Shared) (K : (Str → Option Value) → Led → Prop) (Q : Flow → Shared → Prop) (f : Flow) (s₂ : Shared) : Prop :=
  match f with
  | .ret v => Q (.ret v) s₂
  | .brk => Q .next s₂
  | _ => TurnEnd h₀ L pre M rest its s₁ K s₂
theorem kset6 : True := by
  k_with_none
  k_with "M gen" => ((fail_if_success (goal_lacks Mine.MidEnd PyProof.Rows.LCg.CompSrc PyProof.Rows.LCt.CompSrcT)); k_fold)
  k_with "M steps" => (repeat' (first | k_extra "M gen" | (k_unfold; (try dsimp only)) | (k_end; wrow_close) | walk1 | (dsimp only; walk1) | (leave1; walk_say "STEP leave1"; try dsimp only) | fail "no step"))
  trivial
theorem items_mid {ws : List (Addr × String)} {keep : Led} {xs : List Itm} (pre M rest : Led) (K : Nat → (Str → Option Value) → Led → Prop) (hn : news = pre ++ (M ++ rest)) (h0 : K 0 m₀ M) (hk : ∀ M, SubL keep (pre ++ (M ++ rest)))
    (hoff : ∀ p ∈ pre ++ (M ++ rest), ∀ q ∈ ws, p.1 ≠ q.1)
    (hstep : ∀ i m M a v h tk its, xs[i]? = some a → a.Is v h → K i m M → Objs ws its → (∀ p ∈ pre ++ (M ++ rest), ∀ q ∈ ws, p.1 ≠ q.1) → Fr h₀ env.locals h m → News h₀ env.locals h (its ++ (pre ++ (M ++ rest))) →
      wpAny (model prog w) A (assign target env v) (fun _ s₂ => wpAny (model prog w) A (execs body env) (TurnPost h₀ env.locals pre M rest its { s with heap := h, toks := tk } (K (i + 1)) Q) E s₂) E { s with heap := h, toks := tk })
    (hfin : ∀ m M h tk, K xs.length m M → Fr h₀ env.locals h m → News h₀ env.locals h (pre ++ (M ++ rest)) → Q .next { s with heap := h, toks := tk }) :
    ItemsRest prog w A E h₀ env target body Q s ws keep xs m₀ news := by
  subst hn
  have all : ∀ k i m M, i + k = xs.length → K i m M → (∀ p ∈ pre ++ (M ++ rest), ∀ q ∈ ws, p.1 ≠ q.1) → ItemsRest prog w A E h₀ env target body Q s ws keep (xs.drop i) m (pre ++ (M ++ rest)) := by
    intro k
    induction k with
    | zero =>
      intro i m M hi hK _
      rw [List.drop_eq_nil_of_le (by omega)]
      exact fun h tk F N => hfin m M h tk ((show i = xs.length by omega) ▸ hK) F N
    | succ k ih =>
      intro i m M hi hK off
      have hlt : i < xs.length := by omega
      rw [List.drop_eq_getElem_cons hlt]
      intro v h tk hv F
      have key : ∀ its, Objs ws its → News h₀ env.locals h (its ++ (pre ++ (M ++ rest))) → wpAny (model prog w) A (assign target env v) (fun _ s₂ => wpAny (model prog w) A (execs body env) (UnrPostW h₀ env.locals { s with heap := h, toks := tk } its (fun m' n' => SubL keep n' ∧ ItemsRest prog w A E h₀ env target body Q s ws keep (xs.drop (i + 1)) m' n') Q) E s₂) E { s with heap := h, toks := tk } := by
        intro its ho N
        refine wpAny_mono (hstep i m M _ v h tk its (List.getElem?_eq_getElem hlt) hv hK ho off F N) (fun _ s₂ h₂ => wpAny_mono h₂ (fun f s₃ p => ?_) fun _ _ e => e) fun _ _ e => e
        have hmap := ho.map
        have fin : TurnEnd h₀ env.locals pre M rest its { s with heap := h, toks := tk } (K (i + 1)) s₃ → UnrEndW h₀ env.locals { s with heap := h, toks := tk } its (fun m' n' => SubL keep n' ∧ ItemsRest prog w A E h₀ env target body Q s ws keep (xs.drop (i + 1)) m' n') s₃ := by
          rintro ⟨h', tk', m', M', rfl, F', N', hM, hK'⟩
          have off' : ∀ p ∈ pre ++ (M' ++ rest), ∀ q ∈ ws, p.1 ≠ q.1 := by
            intro p hp q hq
            rcases List.mem_append.mp hp with hp | hp
            · exact off p (List.mem_append.mpr (.inl hp)) q hq
            · rcases List.mem_append.mp hp with hp | hp
              · rcases hM p hp with ⟨r, hr, e⟩ | hr
                · rw [← e]; exact off r (List.mem_append.mpr (.inr (List.mem_append.mpr (.inl hr)))) q hq
                · have h4 : q.1 ∈ its.map (·.1) := by rw [hmap]; exact List.mem_map.mpr ⟨q, hq, rfl⟩
                  obtain ⟨r, hr', e⟩ := List.mem_map.mp h4
                  rw [← e]; exact hr r hr'
              · exact off p (List.mem_append.mpr (.inr (List.mem_append.mpr (.inr hp)))) q hq
          refine ⟨h', tk', m', pre ++ (M' ++ rest), rfl, F', N', fun p hp q hq => ?_, hk M', ih (i + 1) m' M' (by omega) hK' off'⟩
          have h4 : q.1 ∈ ws.map (·.1) := by rw [← hmap]; exact List.mem_map.mpr ⟨q, hq, rfl⟩
          obtain ⟨r, hr, e⟩ := List.mem_map.mp h4
          rw [← e]; exact off' p hp r hr
        cases f with
        | ret v => exact p
        | brk => exact p
        | next => exact fin p
        | cont => exact fin p
      exact allObj_of key
  have := all xs.length 0 m₀ M (by omega) h0 hoff
  rwa [List.drop_zero] at this
where
  allObj_of {ws : List (Addr × String)} {k : Led → Prop} (h : ∀ its, Objs ws its → k its) : AllObj ws k := by
    induction ws generalizing k with
    | nil => exact h [] trivial
    | cons w r ih => exact fun o ho => ih fun its hi => h ((w.1, o) :: its) ⟨⟨rfl, ho⟩, hi⟩
end
section
variable {prog : Program} {w : World} {A : Around} {E : Value → Shared → Prop} {s : Shared} {env : Env} {h₀ : Heap} {target : Expr} {body : List Stmt} {Q : Flow → Shared → Prop} {news : Led} {m₀ : Str → Option Value}
/-- the frame's map: the stored names are u's, the rest stands -/
abbrev frm (stored : List Str) (u m₀ : Str → Option Value) : Str → Option Value := fun z => if stored.contains z then u z else m₀ z
theorem frm_of {stored : List Str} {m m₀ : Str → Option Value} (h : ∀ z, stored.contains z = false → m z = m₀ z) : m = frm stored m m₀ := by
  funext z
  show m z = if stored.contains z = true then m z else m₀ z
  cases hz : stored.contains z with
  | true => rfl
  | false => exact h z hz
theorem same_if {x z : Str} {stored : List Str} {a b : Option Value} (hx : stored.contains x = true) (hz : stored.contains z = false) : (if z = x then a else b) = b := by
  rw [if_neg]
  intro e
  rw [e, hx] at hz
  cases hz
theorem same_frm {z : Str} {stored : List Str} {u m₀ : Str → Option Value} (hz : stored.contains z = false) : frm stored u m₀ z = m₀ z := by
  show (if stored.contains z = true then u z else m₀ z) = m₀ z
  rw [hz]; rfl
theorem frm_name {stored : List Str} {u m₀ : Str → Option Value} {x : Str} {v : Value} {h : Heap} {L : Addr} (F : Fr h₀ L h (frm stored u m₀)) (hx : stored.contains x = true) (hu : u x = some v) : Fr h₀ L h (fun z => if z = x then some v else frm stored u m₀ z) := by
  have e : (fun z => if z = x then some v else frm stored u m₀ z) = frm stored u m₀ := by
    funext z
    show (if z = x then some v else if stored.contains z = true then u z else m₀ z) = if stored.contains z = true then u z else m₀ z
    by_cases hz : z = x
    · rw [if_pos hz, hz, hx, hu]; rfl
    · rw [if_neg hz]
  rw [e]; exact F
def TurnEndF (h₀ : Heap) (L : Addr) (stored : List Str) (m₀ : Str → Option Value) (pre M rest its : Led) (s₁ : Shared) (K : (Str → Option Value) → Led → Prop) (s₂ : Shared) : Prop :=
  ∃ h' tk' m' M', s₂ = { s₁ with heap := h', toks := tk' } ∧ Fr h₀ L h' m' ∧ (∀ z, stored.contains z = false → m' z = m₀ z) ∧ News h₀ L h' (its ++ (pre ++ (M' ++ rest))) ∧ (∀ p ∈ M', (∃ q ∈ M, q.1 = p.1) ∨ ∀ q ∈ its, p.1 ≠ q.1) ∧ K m' M'
def TurnPostF (h₀ : Heap) (L : Addr) (stored : List Str) (m₀ : Str → Option Value) (pre M rest its : Led) (s₁ : Shared) (K : (Str → Option Value) → Led → Prop) (Q : Flow → Shared → Prop) (f : Flow) (s₂ : Shared) : Prop :=
  match f with
  | .ret v => Q (.ret v) s₂
  | .brk => Q .next s₂
  | _ => TurnEndF h₀ L stored m₀ pre M rest its s₁ K s₂
theorem items_fr {ws : List (Addr × String)} {keep : Led} {xs : List Itm} (stored : List Str) (pre M rest : Led) (K : Nat → (Str → Option Value) → Led → Prop) (hn : news = pre ++ (M ++ rest)) (h0 : K 0 m₀ M) (hk : ∀ M, SubL keep (pre ++ (M ++ rest)))
    (hoff : ∀ p ∈ pre ++ (M ++ rest), ∀ q ∈ ws, p.1 ≠ q.1)
    (hstep : ∀ i u M a v h tk its, xs[i]? = some a → a.Is v h → K i u M → Objs ws its → (∀ p ∈ pre ++ (M ++ rest), ∀ q ∈ ws, p.1 ≠ q.1) → Fr h₀ env.locals h (frm stored u m₀) → News h₀ env.locals h (its ++ (pre ++ (M ++ rest))) →
      wpAny (model prog w) A (assign target env v) (fun _ s₂ => wpAny (model prog w) A (execs body env) (TurnPostF h₀ env.locals stored m₀ pre M rest its { s with heap := h, toks := tk } (K (i + 1)) Q) E s₂) E { s with heap := h, toks := tk })
    (hfin : ∀ u M h tk, K xs.length u M → Fr h₀ env.locals h (frm stored u m₀) → News h₀ env.locals h (pre ++ (M ++ rest)) → Q .next { s with heap := h, toks := tk }) :
    ItemsRest prog w A E h₀ env target body Q s ws keep xs m₀ news := by
  refine items_mid pre M rest (fun i m M => K i m M ∧ ∀ z, stored.contains z = false → m z = m₀ z) hn ⟨h0, fun _ _ => rfl⟩ hk hoff ?_ ?_
  · rintro i m M a v h tk its hx ha ⟨hK, hm⟩ ho off F N
    rw [frm_of hm] at F
    refine wpAny_mono (hstep i m M a v h tk its hx ha hK ho off F N) (fun _ s₂ h₂ => wpAny_mono h₂ (fun f s₃ p => ?_) fun _ _ e => e) fun _ _ e => e
    have fin : TurnEndF h₀ env.locals stored m₀ pre M rest its { s with heap := h, toks := tk } (K (i + 1)) s₃ → TurnEnd h₀ env.locals pre M rest its { s with heap := h, toks := tk } (fun m M => K (i + 1) m M ∧ ∀ z, stored.contains z = false → m z = m₀ z) s₃ := by
      rintro ⟨h', tk', m', M', e, F', hm', N', hM, hK'⟩
      exact ⟨h', tk', m', M', e, F', N', hM, hK', hm'⟩
    cases f with
    | ret v => exact p
    | brk => exact p
    | next => exact fin p
    | cont => exact fin p
  · rintro m M h tk ⟨hK, hm⟩ F N
    rw [frm_of hm] at F
    exact hfin m M h tk hK F N
end
/-- pointwise -/
inductive All2 {α β : Type} (R : α → β → Prop) : List α → List β → Prop
  | nil : All2 R [] []
  | cons {a : α} {b : β} {l : List α} {r : List β} : R a b → All2 R l r → All2 R (a :: l) (b :: r)
theorem All2.length {α β : Type} {R : α → β → Prop} {l : List α} {r : List β} (h : All2 R l r) : l.length = r.length := by
  induction h with
  | nil => rfl
  | cons _ _ ih => rw [List.length_cons, List.length_cons, ih]
theorem All2.mono {α β : Type} {R S : α → β → Prop} {l : List α} {r : List β} (h : All2 R l r) (hs : ∀ a ∈ l, ∀ b, R a b → S a b) : All2 S l r := by
  induction h with
  | nil => exact .nil
  | cons h1 _ ih => exact .cons (hs _ (.head _) _ h1) (ih fun a ha => hs a (.tail _ ha))
theorem All2.snoc {α β : Type} {R : α → β → Prop} {l : List α} {r : List β} {a : α} {b : β} (h : All2 R l r) (h1 : R a b) : All2 R (l ++ [a]) (r ++ [b]) := by
  induction h with
  | nil => exact .cons h1 .nil
  | cons h2 _ ih => exact .cons h2 ih
theorem All2.get {α β : Type} {R : α → β → Prop} {l : List α} {r : List β} (h : All2 R l r) {i : Nat} {b : β} (hb : r[i]? = some b) : ∃ a, l[i]? = some a ∧ R a b := by
  induction h generalizing i with
  | nil => simp at hb
  | cons h1 _ ih =>
    cases i with
    | zero => simp at hb; subst hb; exact ⟨_, rfl, h1⟩
    | succ i => simpa using ih (i := i) (by simpa using hb)
theorem All2.get' {α β : Type} {R : α → β → Prop} {l : List α} {r : List β} (h : All2 R l r) {i : Nat} {a : α} (ha : l[i]? = some a) : ∃ b, r[i]? = some b ∧ R a b := by
  induction h generalizing i with
  | nil => simp at ha
  | cons h1 _ ih =>
    cases i with
    | zero => simp at ha; subst ha; exact ⟨_, rfl, h1⟩
    | succ i => simpa using ih (i := i) (by simpa using ha)
abbrev ent (w : World) (n : String) (k : Tok) (v : Value) : DictEntry := ⟨PyData.keyHash w.params (Str.ofString n), .str (Str.ofString n) k, v⟩
structure FuncR where
  x : Addr
  dx : Addr
  lp : Addr
  lsl : Addr
  lb : Addr
  k1 : Tok
  k2 : Tok
  k3 : Tok
  k4 : Tok
  k5 : Tok
  k6 : Tok
  k7 : Tok
  t1 : Tok
  t6 : Tok
abbrev funcObj (w : World) (r : FuncR) : Obj :=
  dictOf [ent w "name" r.k1 (.str (Str.ofString "h") r.t1), ent w "params" r.k2 (.ref r.lp), ent w "is_static" r.k3 (.bool false), ent w "slots" r.k4 (.ref r.lsl), ent w "blocks" r.k5 (.ref r.lb), ent w "registers" r.k6 (.int 3 r.t6), ent w "has_value" r.k7 (.bool true)] 7
structure FuncOk (w : World) (imm : Led) (r : FuncR) : Prop where
  inst : (r.x, instObj 73 r.dx) ∈ imm
  dict : (r.dx, funcObj w r) ∈ imm
  params : DatIn imm (.ref r.lp) (.list [.int 0, .int 1])
  slots : DatIn imm (.ref r.lsl) (.list [.tuple [.int 4, .int 4]])
structure StepR where
  x : Addr
  dx : Addr
  k1 : Tok
  k2 : Tok
  k3 : Tok
  k4 : Tok
  k5 : Tok
  k6 : Tok
  op : Str
  t1 : Tok
  dst : Int
  t2 : Tok
  la : Addr
  mv : Value
  t6 : Tok
abbrev stepObj (w : World) (r : StepR) : Obj :=
  dictOf [ent w "op" r.k1 (.str r.op r.t1), ent w "dst" r.k2 (.int r.dst r.t2), ent w "args" r.k3 (.ref r.la), ent w "more" r.k4 r.mv, ent w "is_volatile" r.k5 (.bool false), ent w "line" r.k6 (.int 0 r.t6)] 6
structure StepD where
  op : Str
  dst : Int
  args : List Dat
  more : Dat
structure StepIs (imm : Led) (r : StepR) (d : StepD) : Prop where
  op : r.op = d.op
  dst : r.dst = d.dst
  args : ∃ avs n, (r.la, listOf (List.toArray avs) n) ∈ imm ∧ DatAll imm avs d.args
  more : DatIn imm r.mv d.more
def StepIn (w : World) (imm : Led) (v : Value) (d : StepD) : Prop :=
  ∃ r : StepR, v = .ref r.x ∧ (r.x, instObj 31 r.dx) ∈ imm ∧ (r.dx, stepObj w r) ∈ imm ∧ StepIs imm r d
structure BlockR where
  x : Addr
  dx : Addr
  k1 : Tok
  k2 : Tok
  k3 : Tok
  num : Int
  tn : Tok
  ls : Addr
  e : StepR
abbrev blockObj (w : World) (r : BlockR) : Obj :=
  dictOf [ent w "number" r.k1 (.int r.num r.tn), ent w "steps" r.k2 (.ref r.ls), ent w "end" r.k3 (.ref r.e.x)] 3
structure BlockD where
  num : Int
  rows : List StepD
  e : End
def moreDat : End → Dat
  | .jump g => .int g
  | .branch _ g0 g1 => .tuple [.int g0, .int g1]
  | .table _ low gs g => .tuple [.int low, .list (intDats gs), .int g]
  | .give _ => .int 0
def endStep (e : End) : StepD := { op := e.op, dst := -1, args := e.args, more := moreDat e }
structure BlockIs (w : World) (imm : Led) (r : BlockR) (b : BlockD) : Prop where
  num : r.num = b.num
  inst : (r.x, instObj 52 r.dx) ∈ imm
  einst : (r.e.x, instObj 31 r.e.dx) ∈ imm
  steps : ∃ svs n, (r.ls, listOf (List.toArray svs) n) ∈ imm ∧ All2 (StepIn w imm) svs b.rows
  e : StepIs imm r.e (endStep b.e)
abbrev mutLed (w : World) (r : BlockR) : Led := [(r.dx, blockObj w r), (r.e.dx, stepObj w r.e)]
def muts (w : World) (rs : List BlockR) : Led := rs.flatMap (mutLed w)
def refsOf (rs : List BlockR) : List Value := rs.map fun r => .ref r.x
def rowAt (i t : Nat) : StepD := { op := Str.ofString "const", dst := t, args := [.tuple [.str (Str.ofString "k"), .int (10 * i + t)]], more := .int 0 }
def blockAt (i : Nat) (e : End) : BlockD := { num := i, rows := (List.range (i % 3)).map (rowAt i), e }
def blocksFrom : Nat → List End → List BlockD
  | _, [] => []
  | i, e :: r => blockAt i e :: blocksFrom (i + 1) r
theorem blocksFrom_snoc (l : List End) (e : End) : ∀ i, blocksFrom i (l ++ [e]) = blocksFrom i l ++ [blockAt (i + l.length) e] := by
  induction l with
  | nil => intro i; rfl
  | cons a r ih =>
    intro i
    show blockAt i a :: blocksFrom (i + 1) (r ++ [e]) = blockAt i a :: (blocksFrom (i + 1) r ++ [blockAt (i + (r.length + 1)) e])
    rw [ih, show i + 1 + r.length = i + (r.length + 1) by omega]
/-- two ledgers without a common address -/
def Dis (a b : Led) : Prop := ∀ p ∈ a, ∀ q ∈ b, (@Ne Nat p.1 q.1)
theorem StepIs.mono {imm imm' : Led} {r : StepR} {d : StepD} (h : StepIs imm r d) (hs : ∀ p ∈ imm, p ∈ imm') : StepIs imm' r d := by
  obtain ⟨a, b, ⟨avs, n, c, d⟩, e⟩ := h
  exact ⟨a, b, ⟨avs, n, hs _ c, d.mono hs⟩, e.mono hs⟩
theorem StepIn.mono {w : World} {imm imm' : Led} {v : Value} {d : StepD} (h : StepIn w imm v d) (hs : ∀ p ∈ imm, p ∈ imm') : StepIn w imm' v d := by
  obtain ⟨r, a, b, c, d⟩ := h
  exact ⟨r, a, hs _ b, hs _ c, d.mono hs⟩
theorem BlockIs.mono {w : World} {imm imm' : Led} {r : BlockR} {b : BlockD} (h : BlockIs w imm r b) (hs : ∀ p ∈ imm, p ∈ imm') : BlockIs w imm' r b := by
  obtain ⟨a, b, c, ⟨svs, n, d, e⟩, f⟩ := h
  exact ⟨a, hs _ b, hs _ c, ⟨svs, n, hs _ d, e.mono fun _ _ _ h => h.mono hs⟩, f.mono hs⟩
theorem FuncOk.mono {w : World} {imm imm' : Led} {r : FuncR} (h : FuncOk w imm r) (hs : ∀ p ∈ imm, p ∈ imm') : FuncOk w imm' r :=
  ⟨hs _ h.inst, hs _ h.dict, h.params.mono hs, h.slots.mono hs⟩
end Mine
namespace Mine
theorem allLt_ne {d : Addr} {l : Led} (h : AllLt d l) : ∀ p ∈ l, p.1 ≠ d := fun p hp => Nat.ne_of_lt (allLt_all h p hp)
theorem allLt_ne_lt {d x : Addr} {l : Led} (h2 : @LT.lt Nat _ d x) (h : AllLt d l) : ∀ p ∈ l, p.1 ≠ x := fun p hp => Nat.ne_of_lt (Nat.lt_trans (allLt_all h p hp) h2)
theorem allLt_up {d b : Addr} {l : Led} (h : ∀ p ∈ l, p.1 < b) (hb : @LE.le Nat _ b d) : AllLt d l := by
  induction l with
  | nil => trivial
  | cons x r ih => exact ⟨Nat.lt_of_lt_of_le (h x (.head _)) hb, ih fun p hp => h p (.tail _ hp)⟩
theorem own_nil {l : Led} : OwnOff l [] := fun _ _ _ h => nomatch h
theorem own_cons {l : Led} {b : Addr} {adr : List Addr} (h : ∀ p ∈ l, p.1 ≠ b) (h2 : OwnOff l adr) : OwnOff l (b :: adr) := by
  intro p hp c hc
  rcases List.mem_cons.mp hc with rfl | hc
  · exact h p hp
  · exact h2 p hp c hc
theorem dis_nil {l : Led} : Dis [] l := fun _ h => nomatch h
theorem dis_cons {a : Addr} {o : Obj} {r l : Led} (h : ∀ q ∈ l, q.1 ≠ a) (h2 : Dis r l) : Dis ((a, o) :: r) l := by
  intro p hp q hq
  rcases List.mem_cons.mp hp with rfl | hp
  · exact Ne.symm (h q hq)
  · exact h2 p hp q hq
theorem ne_app {a : Addr} {l r : Led} (h1 : ∀ p ∈ l, p.1 ≠ a) (h2 : ∀ p ∈ r, p.1 ≠ a) : ∀ p ∈ l ++ r, p.1 ≠ a := fun p hp => (List.mem_append.mp hp).elim (h1 p) (h2 p)
theorem func_pack {G : Prop} {w : World} {h₀ h : Heap} {L : Addr} {all news : Led} {x dx lp lsl lb c t44 : Addr} {k1 k2 k3 k4 k5 k6 k7 t1 t6 a0 a1 b0 b1 : Tok} {n1 n2 n3 n4 : Nat} {oc : Obj} {cv : Option Value} (N : News h₀ L h all) (hcell : oc.data = .cell cv)
    (hi : (x, instObj 73 dx) ∈ all)
    (hd : (dx, dictOf [ent w "name" k1 (.str (Str.ofString "h") t1), ent w "params" k2 (.ref lp), ent w "is_static" k3 (.bool false), ent w "slots" k4 (.ref lsl), ent w "blocks" k5 (.ref lb), ent w "registers" k6 (.int 3 t6), ent w "has_value" k7 (.bool true)] 7) ∈ all)
    (hp : (lp, listOf (List.toArray [Value.int 0 a0, .int 1 a1]) n1) ∈ all) (hs : (lsl, listOf (List.toArray [Value.ref t44]) n2) ∈ all) (ht : (t44, ({ cls := .type "tuple", data := .seq (List.toArray [Value.int 4 b0, .int 4 b1]) n3 } : Obj)) ∈ all)
    (hb : (lb, listOf (List.toArray []) n4) ∈ all) (hc : (c, oc) ∈ all) (hn : ∀ p ∈ news, p ∈ all)
    (own : ∀ o1 o2 o3 : Obj, OwnOff ((lp, o1) :: (lsl, o2) :: (t44, o3) :: news) [x, dx, c, lb]) (own2 : ∀ o1 o2 o3 : Obj, Dis [(lp, o1), (lsl, o2), (t44, o3)] news)
    (hne : (@Ne Nat x dx ∧ @Ne Nat x c ∧ @Ne Nat x lb) ∧ (@Ne Nat dx c ∧ @Ne Nat dx lb) ∧ @Ne Nat c lb)
    (k : ∀ (fr : FuncR) (imm0 : Led) (c' : Addr) (oc' : Obj) (cv' : Option Value), c' = c → oc' = oc → oc'.data = .cell cv' → fr.x = x → fr.lb = lb → FuncOk w ((fr.x, instObj 73 fr.dx) :: (fr.dx, funcObj w fr) :: imm0) fr → News h₀ L h ((fr.x, instObj 73 fr.dx) :: (fr.dx, funcObj w fr) :: (c', oc') :: (fr.lb, listOf (List.toArray []) n4) :: (imm0 ++ news)) →
      OwnOff (imm0 ++ news) [fr.x, fr.dx, c', fr.lb] → Dis imm0 news → (@Ne Nat fr.x fr.dx ∧ @Ne Nat fr.x c' ∧ @Ne Nat fr.x fr.lb) → (@Ne Nat fr.dx c' ∧ @Ne Nat fr.dx fr.lb) → @Ne Nat c' fr.lb → G) : G := by
  refine k ⟨x, dx, lp, lsl, lb, k1, k2, k3, k4, k5, k6, k7, t1, t6⟩ [(lp, listOf (List.toArray [Value.int 0 a0, .int 1 a1]) n1), (lsl, listOf (List.toArray [Value.ref t44]) n2), (t44, ({ cls := .type "tuple", data := .seq (List.toArray [Value.int 4 b0, .int 4 b1]) n3 } : Obj))] c oc cv rfl rfl hcell rfl rfl ⟨.head _, .tail _ (.head _), ?_, ?_⟩ ?_ (own _ _ _) (own2 _ _ _) hne.1 hne.2.1 hne.2.2
  · exact .list (.tail _ (.tail _ (.head _))) (.cons (.int 0 a0) (.cons (.int 1 a1) .nil))
  · exact .list (.tail _ (.tail _ (.tail _ (.head _)))) (.cons (.tuple (.tail _ (.tail _ (.tail _ (.tail _ (.head _))))) (.cons (.int 4 b0) (.cons (.int 4 b1) .nil))) .nil)
  · intro p hp9
    refine N p ?_
    simp only [List.mem_cons, List.cons_append, List.nil_append] at hp9
    rcases hp9 with rfl | rfl | rfl | rfl | rfl | rfl | rfl | hp9
    · exact hi
    · exact hd
    · exact hc
    · exact hb
    · exact hp
    · exact hs
    · exact ht
    · exact hn p hp9
end Mine
namespace Mine
theorem enumItems_inv : ∀ {vs : List Value} {a i : Nat} {x : Itm}, (enumItems a vs)[i]? = some x → ∃ v, vs[i]? = some v ∧ x = .pair (fun t => .int ((a + i : Nat) : Int) t) v
  | [], _, _, _, h => by simp [enumItems] at h
  | y :: r, a, 0, x, h => by
    have e : Itm.pair (fun t => Value.int (a : Int) t) y = x := by simpa [enumItems] using h
    exact ⟨y, rfl, e.symm⟩
  | y :: r, a, i + 1, x, h => by
    have h' : (enumItems (a + 1) r)[i]? = some x := by simpa [enumItems] using h
    obtain ⟨v, h1, h2⟩ := enumItems_inv h'
    exact ⟨v, by simpa using h1, by rw [h2, show a + 1 + i = a + (i + 1) by omega]⟩
theorem objs_one {a : Addr} {c : String} {its : Led} (h : Objs [(a, c)] its) : ∃ o1 : Obj, its = [(a, o1)] := by
  cases its with
  | nil => exact False.elim h
  | cons p r =>
    have h' : (p.1 = a ∧ p.2.cls = .type c) ∧ Objs [] r := h
    cases r with
    | nil => exact ⟨p.2, by rw [← h'.1.1]⟩
    | cons q t => exact False.elim h'.2
theorem objs_two {a b : Addr} {c d : String} {its : Led} (h : Objs [(a, c), (b, d)] its) : ∃ o1 o2 : Obj, its = [(a, o1), (b, o2)] := by
  cases its with
  | nil => exact False.elim h
  | cons p r =>
    have h' : (p.1 = a ∧ p.2.cls = .type c) ∧ Objs [(b, d)] r := h
    obtain ⟨o2, e⟩ := objs_one h'.2
    exact ⟨p.2, o2, by rw [e, ← h'.1.1]⟩
theorem datAll_at {ld : Led} {vs : List Value} {ds : List Dat} (h : DatAll ld vs ds) {i : Nat} {v : Value} (hv : vs[i]? = some v) : ∃ d, ds[i]? = some d ∧ DatIn ld v d := by
  have hlt : i < ds.length := by
    rw [← h.length]
    exact (List.getElem?_eq_some_iff.mp hv).1
  obtain ⟨v', h1, h2⟩ := h.get hlt
  rw [hv] at h1; cases h1
  exact ⟨_, List.getElem?_eq_getElem hlt, h2⟩
end Mine
namespace Mine
theorem ints_of_datAll {ld : Led} {vs : List Value} {ns : List Int} (h : DatAll ld vs (intDats ns)) : IntsAre vs ns := by
  induction ns generalizing vs with
  | nil => cases h; exact .nil
  | cons n r ih =>
    cases h with
    | cons h1 h2 => cases h1 with
      | int i t => exact .cons _ _ (ih h2)
theorem end_inv {ld : Led} {v : Value} {e : End} (h : DatIn ld v (endDat e)) : ∃ (a la lg : Addr) (t t2 : Tok) (n1 n2 n3 : Nat) (avs gvs : List Value), v = .ref a ∧ (a, ({ cls := .type "tuple", data := .seq (List.toArray [.str e.op t, .ref la, .int e.low t2, .ref lg]) n1 } : Obj)) ∈ ld ∧
    (la, listOf (List.toArray avs) n2) ∈ ld ∧ DatAll ld avs e.args ∧ (lg, listOf (List.toArray gvs) n3) ∈ ld ∧ IntsAre gvs e.goals := by
  cases h with
  | tuple hm h =>
    cases h with
    | cons h1 h =>
      cases h with
      | cons h2 h =>
        cases h with
        | cons h3 h =>
          cases h with
          | cons h4 h =>
            cases h
            cases h1
            cases h2 with
            | list m2 d2 =>
              cases h3
              cases h4 with
              | list m4 d4 => exact ⟨_, _, _, _, _, _, _, _, _, _, rfl, hm, m2, d2, m4, ints_of_datAll d4⟩
end Mine
namespace Mine
section
variable {prog : Program} {w : World} {A : Around} {s : Shared} {h₀ : Heap} {L : Addr} {m : Str → Option Value} {env : Env} {elt : Expr} {x : Str} {scope : Scope} {cl : List (Str × Addr)} {S : Led → Prop} {P : Nat → Value → Prop} {Fin : List Value → Led → Prop} {n : Nat} {news : Led}
/-- a turn's end: what is new, apart from all that was -/
def NewEnd (h₀ : Heap) (L : Addr) (m : Str → Option Value) (old : Led) (s₁ : Shared) (I : Addr) (oI : Obj) (C : Addr) (oC : Obj) (D : Addr) (oD : Obj) (pre acc rest : Led) (K : Value → Led → Prop) (y : Value) (s₂ : Shared) : Prop :=
  ∃ h' tk' new, s₂ = { s₁ with heap := h', toks := tk' } ∧ Fr h₀ L h' m ∧ News h₀ L h' ((I, oI) :: (C, oC) :: (D, oD) :: (pre ++ ((new ++ acc) ++ rest))) ∧ Dis new old ∧ K y (new ++ acc)
open LCg in
theorem comp_new (pre rest : Led) (K : Nat → List Value → Led → Prop) (hn : news = pre ++ ([] ++ rest)) (h0 : K 0 [] []) (hS : ∀ M, S (pre ++ (M ++ rest)))
    (hstep : ∀ i ys acc v I oI C oC D m₂ h tk (E' : Value → Shared → Prop), i < n → K i ys acc → P i v → NsObj oC m₂ → m₂ x = some v → Fr h₀ L h m → News h₀ L h ((I, oI) :: (C, oC) :: (D, lst ys) :: (pre ++ (acc ++ rest))) →
      OwnOff (pre ++ (acc ++ rest)) [I, C, D] → ((@Ne Nat I C) ∧ (@Ne Nat I D) ∧ (@Ne Nat C D)) → Dis acc (pre ++ rest) →
      wpAny (model prog w) A (eval elt (compEnvC scope cl C env)) (NewEnd h₀ L m ((I, oI) :: (C, oC) :: (D, lst ys) :: (pre ++ (acc ++ rest))) { s with heap := h, toks := tk } I oI C oC D (lst ys) pre acc rest (K (i + 1) <| ys ++ [·])) E' { s with heap := h, toks := tk })
    (hfin : ∀ ys acc, K n ys acc → Dis acc (pre ++ rest) → Fin ys (pre ++ (acc ++ rest))) :
    CompRest prog w A h₀ L m env elt x scope cl s S P Fin n 0 [] news := by
  refine comp_mid pre [] rest (fun i ys M => K i ys M ∧ Dis M (pre ++ rest)) hn ⟨h0, fun _ h => nomatch h⟩ hS ?_ (fun ys M h => hfin ys M h.1 h.2)
  rintro i ys acc v I oI C oC D m₂ h tk E' hi ⟨hK, hd⟩ hP hC hx F N off ne
  refine wpAny_mono (hstep i ys acc v I oI C oC D m₂ h tk E' hi hK hP hC hx F N (fun p hp b hb => ?_) ne hd) (fun y s₂ hy => ?_) fun _ _ e => e
  · have o := off p hp
    rcases List.mem_cons.mp hb with rfl | hb
    · exact o.1
    · rcases List.mem_cons.mp hb with rfl | hb
      · exact o.2.1
      · rw [List.mem_singleton.mp hb]; exact o.2.2
  · obtain ⟨h', tk', new, rfl, F', N', hnew, hK'⟩ := hy
    refine ⟨h', tk', new ++ acc, rfl, F', N', fun p hp => ?_, hK', fun p hp q hq => ?_⟩
    · rcases List.mem_append.mp hp with hp | hp
      · exact .inr ⟨hnew p hp _ (.head _), hnew p hp _ (.tail _ (.head _)), hnew p hp _ (.tail _ (.tail _ (.head _)))⟩
      · exact .inl ⟨p, hp, rfl⟩
    · rcases List.mem_append.mp hp with hp | hp
      · refine hnew p hp q (.tail _ (.tail _ (.tail _ ?_)))
        rcases List.mem_append.mp hq with hq | hq
        · exact List.mem_append.mpr (.inl hq)
        · exact List.mem_append.mpr (.inr (List.mem_append.mpr (.inr hq)))
      · exact hd p hp q hq
end
end Mine
namespace Mine
theorem news_sub {h₀ h : Heap} {L : Addr} {a b : Led} (N : News h₀ L h b) (hs : ∀ p ∈ a, p ∈ b) : News h₀ L h a := fun p hp => N p (hs p hp)
/-- the end of a turn that makes a step of constants -/
theorem step_new {w : World} {h₀ h' : Heap} {L : Addr} {m : Str → Option Value} {all old pre acc X : Led} {s₁ : Shared} {tk' : Nat} {I C D x dx la ta : Addr} {oI oC oD : Obj} {k1 k2 k3 k4 k5 k6 t1 t2 t6 tk tv tm : Tok} {op kk : Str} {dst val : Int} {n1 n2 : Nat} {i j : Nat} {ys : List Value}
    (F : Fr h₀ L h' m) (N : News h₀ L h' all) (hx : (x, instObj 31 dx) ∈ all)
    (hdx : (dx, dictOf [ent w "op" k1 (.str op t1), ent w "dst" k2 (.int dst t2), ent w "args" k3 (.ref la), ent w "more" k4 (.int 0 tm), ent w "is_volatile" k5 (.bool false), ent w "line" k6 (.int 0 t6)] 6) ∈ all)
    (hla : (la, listOf (List.toArray [Value.ref ta]) n1) ∈ all) (hta : (ta, ({ cls := .type "tuple", data := .seq (List.toArray [Value.str kk tk, .int val tv]) n2 } : Obj)) ∈ all)
    (hsub : ∀ p ∈ (I, oI) :: (C, oC) :: (D, oD) :: (pre ++ (acc ++ X)), p ∈ all) (hdis : ∀ o1 o2 o3 o4 : Obj, Dis [(x, o1), (dx, o2), (la, o3), (ta, o4)] old)
    (hK : All2 (StepIn w acc) ys ((List.range j).map (rowAt i))) (hop : op = Str.ofString "const") (hkk : kk = Str.ofString "k") (hdst : dst = j) (hval : val = 10 * i + j) :
    NewEnd h₀ L m old s₁ I oI C oC D oD pre acc X (fun y acc' => All2 (StepIn w acc') (ys ++ [y]) ((List.range (j + 1)).map (rowAt i))) (.ref x) { s₁ with heap := h', toks := tk' } := by
  subst hop hkk hdst hval
  let r : StepR := ⟨x, dx, k1, k2, k3, k4, k5, k6, Str.ofString "const", t1, (j : Int), t2, la, .int 0 tm, t6⟩
  refine ⟨h', tk', [(x, instObj 31 dx), (dx, stepObj w r), (la, listOf (List.toArray [Value.ref ta]) n1), (ta, ({ cls := .type "tuple", data := .seq (List.toArray [Value.str (Str.ofString "k") tk, .int (10 * i + j) tv]) n2 } : Obj))], rfl, F, news_sub N fun p hp => ?_, hdis _ _ _ _, ?_⟩
  · simp only [List.mem_cons, List.mem_append, List.not_mem_nil, or_false] at hp
    rcases hp with rfl | rfl | rfl | hp | ((rfl | rfl | rfl | rfl) | hp) | hp
    · exact hsub _ (.head _)
    · exact hsub _ (.tail _ (.head _))
    · exact hsub _ (.tail _ (.tail _ (.head _)))
    · exact hsub _ (.tail _ (.tail _ (.tail _ (List.mem_append.mpr (.inl hp)))))
    · exact hx
    · exact hdx
    · exact hla
    · exact hta
    · exact hsub _ (.tail _ (.tail _ (.tail _ (List.mem_append.mpr (.inr (List.mem_append.mpr (.inl hp)))))))
    · exact hsub _ (.tail _ (.tail _ (.tail _ (List.mem_append.mpr (.inr (List.mem_append.mpr (.inr hp)))))))
  · rw [List.range_succ, List.map_append]
    refine (hK.mono fun v _ d hd => hd.mono fun p hp => ?_).snoc ⟨r, rfl, .head _, .tail _ (.head _), rfl, rfl, ⟨[.ref ta], n1, .tail _ (.tail _ (.head _)), .cons (.tuple (n := n2) (.tail _ (.tail _ (.tail _ (.head _)))) (.cons (.str _ _) (.cons (.int _ _) .nil))) .nil⟩, .int 0 tm⟩
    exact List.mem_append.mpr (.inr hp)
end Mine
namespace Mine
theorem dis_ne {acc l : Led} {a : Addr} {o : Obj} (h : Dis acc l) (hm : (a, o) ∈ l) : ∀ p ∈ acc, p.1 ≠ a := fun p hp => h p hp _ hm
end Mine
namespace Mine
theorem mem_apr {a : Addr × Obj} {l r : Led} (h : a ∈ r) : a ∈ l ++ r := List.mem_append.mpr (.inr h)
theorem mem_apl {a : Addr × Obj} {l r : Led} (h : a ∈ l) : a ∈ l ++ r := List.mem_append.mpr (.inl h)
end Mine
namespace Mine
section
variable {prog : Program} {w : World} {A : Around} {E : Value → Shared → Prop} {s : Shared} {h₀ : Heap} {L D : Addr} {m : Str → Option Value} {news news' : Led} {vs : List Value} {n : Nat} {v : Value}
theorem append_any {Q : Value → Shared → Prop} (F : Fr h₀ L s.heap m) (N : News h₀ L s.heap news) (U : Upd D (listOf vs.toArray n) (listOf (vs ++ [v]).toArray (n + 1)) news news') (hz : vs.length ≤ 1000)
    (h : ∀ h', Fr h₀ L h' m → News h₀ L h' news' → Q .none { s with heap := h' }) :
    wpAny (model prog w) A (call (.builtin "list.append") [.ref D, v]) Q E s := by
  obtain ⟨pre, post, rfl, rfl, a, b⟩ := U.split
  have z := N (D, listOf vs.toArray n) (List.mem_append.mpr (.inr (.head _)))
  refine append_at (hsz := by rw [List.size_toArray, sizeLine_eq]; omega) z.1 fun h' hs hD => ?_
  refine h h' (F.change hs z.2.1 z.2.2) fun p hp => ?_
  rcases List.mem_append.mp hp with hp | hp
  · have q := N p (List.mem_append.mpr (.inl hp))
    exact ⟨hs.extBut _ _ (a p hp) q.1, q.2⟩
  · rcases List.mem_cons.mp hp with rfl | hp
    · refine ⟨hD.trans ?_, z.2⟩
      rw [List.push_toArray]
    · have q := N p (List.mem_append.mpr (.inr (.tail _ hp)))
      exact ⟨hs.extBut _ _ (b p hp) q.1, q.2⟩
end
theorem slice_last (gs : List Int) (g : Int) : (gs ++ [g]).take ((gs ++ [g]).length - (-(-1 : Int)).toNat) = gs := by simp
/-- what holds between the turns of _law_func's loop -/
def FuncInv (w : World) (c : Addr) (fr : FuncR) (imm0 news nd : Led) (es : List End) (i : Nat) (M : Led) : Prop :=
  ∃ (oc : Obj) (cv : Option Value) (recs : List BlockR) (imm : Led) (n : Nat), M = (c, oc) :: (fr.lb, listOf (List.toArray (refsOf recs)) n) :: (muts w recs ++ imm) ∧ oc.data = .cell cv ∧ All2 (BlockIs w (imm ++ (imm0 ++ nd))) recs (blocksFrom 0 (es.take i)) ∧
      ((muts w recs).map (·.1)).Nodup ∧ Dis (muts w recs) (imm ++ (imm0 ++ news)) ∧ OwnOff (muts w recs ++ imm) [fr.x, fr.dx, c, fr.lb] ∧ Dis (muts w recs ++ imm) news
theorem muts_snoc (w : World) (rs : List BlockR) (r : BlockR) : muts w (rs ++ [r]) = muts w rs ++ mutLed w r := by
  unfold muts
  rw [List.flatMap_append]
  simp
theorem func_turn {w : World} {c : Addr} {fr : FuncR} {imm0 news nd X nimm : Led} {es : List End} {i : Nat} {e1 : End} {oc' : Obj} {cv' : Option Value} {recs : List BlockR} {imm : Led} {n : Nat} {r : BlockR}
    (hX : (muts w recs ++ imm) ++ (imm0 ++ news) = X) (he : es[i]? = some e1) (hcell : oc'.data = .cell cv') (hAll : All2 (BlockIs w (imm ++ (imm0 ++ nd))) recs (blocksFrom 0 (es.take i)))
    (hnd : ((muts w recs).map (·.1)).Nodup) (hdis : Dis (muts w recs) (imm ++ (imm0 ++ news))) (hown : OwnOff (muts w recs ++ imm) [fr.x, fr.dx, c, fr.lb]) (hdn : Dis (muts w recs ++ imm) news)
    (hb : ∀ p ∈ X, p.1 ≠ r.dx) (he2 : ∀ p ∈ X, p.1 ≠ r.e.dx) (hne : @Ne Nat r.dx r.e.dx) (hnX : Dis nimm X) (hnb : OwnOff nimm [r.dx, r.e.dx]) (hno : OwnOff (mutLed w r ++ nimm) [fr.x, fr.dx, c, fr.lb])
    (hblk2 : BlockIs w ((nimm ++ imm) ++ (imm0 ++ nd)) r (blockAt i e1)) :
    FuncInv w c fr imm0 news nd es (i + 1) ((c, oc') :: (fr.lb, listOf (List.toArray (refsOf (recs ++ [r]))) (n + 1)) :: (muts w (recs ++ [r]) ++ (nimm ++ imm))) := by
  have sX : ∀ p ∈ muts w recs ++ imm, p ∈ X := fun p hp => hX ▸ List.mem_append.mpr (.inl hp)
  have sN : ∀ p ∈ imm0 ++ news, p ∈ X := fun p hp => hX ▸ List.mem_append.mpr (.inr hp)
  have hmut : ∀ p ∈ mutLed w r, p.1 = r.dx ∨ p.1 = r.e.dx := by
    intro p hp
    rcases List.mem_cons.mp hp with rfl | hp
    · exact .inl rfl
    · rw [List.mem_singleton.mp hp]; exact .inr rfl
  have hmX : ∀ p ∈ mutLed w r, ∀ q ∈ X, p.1 ≠ q.1 := by
    intro p hp q hq
    rcases hmut p hp with e | e <;> rw [e]
    · exact Ne.symm (hb q hq)
    · exact Ne.symm (he2 q hq)
  refine ⟨oc', cv', recs ++ [r], nimm ++ imm, n + 1, rfl, hcell, ?_, ?_, ?_, ?_, ?_⟩
  · have ht : es.take (i + 1) = es.take i ++ [e1] := by rw [List.take_add_one, he]; rfl
    have hl : (es.take i).length = i := by
      have := (List.getElem?_eq_some_iff.mp he).1
      rw [List.length_take]; omega
    rw [ht, blocksFrom_snoc, hl, Nat.zero_add]
    refine All2.snoc (hAll.mono fun a _ b h => h.mono fun p hp => ?_) hblk2
    simp only [List.mem_append] at hp ⊢
    rcases hp with hp | hp
    · exact .inl (.inr hp)
    · exact .inr hp
  · rw [muts_snoc, List.map_append, List.nodup_append]
    refine ⟨hnd, ?_, ?_⟩
    · show ([r.dx, r.e.dx] : List Addr).Nodup
      simp only [List.nodup_cons, List.mem_singleton, List.not_mem_nil, not_false_eq_true, List.nodup_nil, and_self, and_true]
      exact hne
    · intro a ha b hb' e
      obtain ⟨p, hp, rfl⟩ := List.mem_map.mp ha
      obtain ⟨q, hq, rfl⟩ := List.mem_map.mp hb'
      exact hmX q hq p (sX p (List.mem_append.mpr (.inl hp))) e.symm
  · rw [muts_snoc]
    intro p hp q hq
    rcases List.mem_append.mp hp with hp | hp
    · rcases List.mem_append.mp hq with hq | hq
      · rcases List.mem_append.mp hq with hq | hq
        · exact Ne.symm (hnX q hq p (sX p (List.mem_append.mpr (.inl hp))))
        · exact hdis p hp q (List.mem_append.mpr (.inl hq))
      · exact hdis p hp q (List.mem_append.mpr (.inr hq))
    · rcases List.mem_append.mp hq with hq | hq
      · rcases List.mem_append.mp hq with hq | hq
        · rcases hmut p hp with e | e <;> rw [e]
          · exact Ne.symm (hnb q hq _ (.head _))
          · exact Ne.symm (hnb q hq _ (.tail _ (.head _)))
        · exact hmX p hp q (sX q (List.mem_append.mpr (.inr hq)))
      · exact hmX p hp q (sN q hq)
  · rw [muts_snoc]
    intro p hp
    simp only [List.mem_append] at hp
    rcases hp with (hp | hp) | hp | hp
    · exact hown p (List.mem_append.mpr (.inl hp))
    · exact hno p (List.mem_append.mpr (.inl hp))
    · exact hno p (List.mem_append.mpr (.inr hp))
    · exact hown p (List.mem_append.mpr (.inr hp))
  · rw [muts_snoc]
    intro p hp q hq
    simp only [List.mem_append] at hp
    have hqX : q ∈ X := sN q (List.mem_append.mpr (.inr hq))
    rcases hp with (hp | hp) | hp | hp
    · exact hdn p (List.mem_append.mpr (.inl hp)) q hq
    · exact hmX p hp q hqX
    · exact hnX p hp q hqX
    · exact hdn p (List.mem_append.mpr (.inr hp)) q hq
end Mine
namespace Mine
theorem allLt_app {d : Addr} {l r : Led} (h : AllLt d (l ++ r)) : ∀ p ∈ r, p.1 ≠ d := fun p hp => Nat.ne_of_lt (allLt_all h p (List.mem_append.mpr (.inr hp)))
theorem allLt_apl {d : Addr} {l r : Led} (h : AllLt d (l ++ r)) : ∀ p ∈ l, p.1 ≠ d := fun p hp => Nat.ne_of_lt (allLt_all h p (List.mem_append.mpr (.inl hp)))
theorem off1_ne {d : Addr} {l : Led} (h : LCg.Off1 d l) : ∀ p ∈ l, p.1 ≠ d := off1_all h
theorem turn_end {w : World} {h₀ h' : Heap} {L : Addr} {m' m₀ : Str → Option Value} {stored : List Str} {all acc X extra news nd imm0 : Led} {s₁ : Shared} {tk' : Nat} {c I bx bdx ex edx la ls : Addr} {fr : FuncR} {o1 o2 oc oc' : Obj} {cv' : Option Value}
    {k1 k2 k3 tn q1 q2 q3 q4 q5 q6 t1 t2 t6 : Tok} {op : Str} {dst num : Int} {mv : Value} {avs ys : List Value} {na nl n i : Nat} {e1 : End} {es : List End} {recs : List BlockR} {imm : Led}
    (F : Fr h₀ L h' m') (N : News h₀ L h' all) (hm : ∀ z, stored.contains z = false → m' z = m₀ z)
    (hcell : oc'.data = .cell cv') (hc : (c, oc') ∈ all)
    (hbi : (bx, instObj 52 bdx) ∈ all) (hbd : (bdx, dictOf [ent w "number" k1 (.int num tn), ent w "steps" k2 (.ref ls), ent w "end" k3 (.ref ex)] 3) ∈ all)
    (hei : (ex, instObj 31 edx) ∈ all) (hed : (edx, dictOf [ent w "op" q1 (.str op t1), ent w "dst" q2 (.int dst t2), ent w "args" q3 (.ref la), ent w "more" q4 mv, ent w "is_volatile" q5 (.bool false), ent w "line" q6 (.int 0 t6)] 6) ∈ all)
    (hlb : (fr.lb, listOf (List.toArray (refsOf recs ++ [.ref bx])) (n + 1)) ∈ all)
    (hla : (la, listOf (List.toArray avs) na) ∈ all) (hls : (ls, listOf (List.toArray ys) nl) ∈ all)
    (hsteps : All2 (StepIn w acc) ys ((List.range (i % 3)).map (rowAt i))) (hextra : ∀ p ∈ extra, p ∈ all) (hmore : DatIn extra mv (moreDat e1)) (hargs : DatAll nd avs e1.args)
    (hits : ∀ p ∈ [(I + 1, o1), (I, o2), (fr.x, instObj 73 fr.dx), (fr.dx, funcObj w fr)], p ∈ all) (haX : ∀ p ∈ acc ++ X, p ∈ all)
    (hX : (muts w recs ++ imm) ++ (imm0 ++ news) = X) (he : es[i]? = some e1) (hAll : All2 (BlockIs w (imm ++ (imm0 ++ nd))) recs (blocksFrom 0 (es.take i)))
    (hnd : ((muts w recs).map (·.1)).Nodup) (hdis : Dis (muts w recs) (imm ++ (imm0 ++ news))) (hown : OwnOff (muts w recs ++ imm) [fr.x, fr.dx, c, fr.lb]) (hdn : Dis (muts w recs ++ imm) news)
    (hop : op = e1.op) (hdst : dst = -1) (hnum : num = i)
    (hA : OwnOff (acc ++ X) [ex, edx, la, ls]) (hAx : Dis extra (acc ++ X)) (hB : OwnOff X [bx, bdx]) (hdX : Dis acc X) (hda : OwnOff acc [bdx, I + 1, I, fr.x, fr.dx, c, fr.lb])
    (hE : ∀ a b d e : Obj, OwnOff ((bx, a) :: (ex, b) :: (la, d) :: (ls, e) :: extra) [bdx, edx, fr.x, fr.dx, c, fr.lb, I + 1, I]) (hE2 : ∀ a b : Obj, OwnOff [(bdx, a), (edx, b)] [fr.x, fr.dx, c, fr.lb, I + 1, I]) (hne : @Ne Nat bdx edx) :
    TurnEndF h₀ L stored m₀ [(fr.x, instObj 73 fr.dx), (fr.dx, funcObj w fr)] ((c, oc) :: (fr.lb, listOf (List.toArray (refsOf recs)) n) :: (muts w recs ++ imm)) (imm0 ++ news) [(I + 1, o1), (I, o2)] s₁ (fun _ M => FuncInv w c fr imm0 news nd es (i + 1) M)
      { s₁ with heap := h', toks := tk' } := by
  subst hop hdst hnum
  let er : StepR := ⟨ex, edx, q1, q2, q3, q4, q5, q6, e1.op, t1, -1, t2, la, mv, t6⟩
  let r : BlockR := ⟨bx, bdx, k1, k2, k3, (i : Int), tn, ls, er⟩
  let nimm : Led := ((bx, instObj 52 bdx) :: (ex, instObj 31 edx) :: (la, listOf (List.toArray avs) na) :: (ls, listOf (List.toArray ys) nl) :: extra) ++ acc
  have hE' := hE (instObj 52 bdx) (instObj 31 edx) (listOf (List.toArray avs) na) (listOf (List.toArray ys) nl)
  have inv : FuncInv w c fr imm0 news nd es (i + 1) ((c, oc') :: (fr.lb, listOf (List.toArray (refsOf (recs ++ [r]))) (n + 1)) :: (muts w (recs ++ [r]) ++ (nimm ++ imm))) := by
    refine func_turn (X := X) hX he hcell hAll hnd hdis hown hdn (fun p hp => hB p hp _ (.tail _ (.head _))) (fun p hp => hA p (List.mem_append.mpr (.inr hp)) _ (.tail _ (.head _))) hne ?_ ?_ ?_ ?_
    · intro p hp q hq
      rcases List.mem_append.mp hp with hp | hp
      · have hqa : q ∈ acc ++ X := List.mem_append.mpr (.inr hq)
        rcases List.mem_cons.mp hp with rfl | hp
        · exact Ne.symm (hB q hq _ (.head _))
        · rcases List.mem_cons.mp hp with rfl | hp
          · exact Ne.symm (hA q hqa _ (.head _))
          · rcases List.mem_cons.mp hp with rfl | hp
            · exact Ne.symm (hA q hqa _ (.tail _ (.tail _ (.head _))))
            · rcases List.mem_cons.mp hp with rfl | hp
              · exact Ne.symm (hA q hqa _ (.tail _ (.tail _ (.tail _ (.head _)))))
              · exact hAx p hp q hqa
      · exact hdX p hp q hq
    · intro p hp b hb
      rcases List.mem_append.mp hp with hp1 | hp2
      · refine hE' p hp1 b ?_
        rcases List.mem_cons.mp hb with rfl | hb
        · exact .head _
        · rw [List.mem_singleton.mp hb]; exact .tail _ (.head _)
      · rcases List.mem_cons.mp hb with rfl | hb
        · exact hda p hp2 _ (.head _)
        · rw [List.mem_singleton.mp hb]; exact hA p (List.mem_append.mpr (.inl hp2)) _ (.tail _ (.head _))
    · intro p hp b hb
      rcases List.mem_append.mp hp with hp | hp
      · exact hE2 _ _ p hp b (by simp only [List.mem_cons, List.not_mem_nil, or_false] at hb ⊢; rcases hb with h | h | h | h <;> simp [h])
      · rcases List.mem_append.mp hp with hp | hp
        · exact hE' p hp b (by simp only [List.mem_cons, List.not_mem_nil, or_false] at hb ⊢; rcases hb with h | h | h | h <;> simp [h])
        · exact hda p hp b (by simp only [List.mem_cons, List.not_mem_nil, or_false] at hb ⊢; rcases hb with h | h | h | h <;> simp [h])
    · have s1 : ∀ p ∈ nimm, p ∈ (nimm ++ imm) ++ (imm0 ++ nd) := fun p hp => List.mem_append.mpr (.inl (List.mem_append.mpr (.inl hp)))
      have sn : ∀ p ∈ nd, p ∈ (nimm ++ imm) ++ (imm0 ++ nd) := fun p hp => List.mem_append.mpr (.inr (List.mem_append.mpr (.inr hp)))
      have sa : ∀ p ∈ acc, p ∈ nimm := fun p hp => List.mem_append.mpr (.inr hp)
      have se : ∀ p ∈ extra, p ∈ nimm := fun p hp => List.mem_append.mpr (.inl (.tail _ (.tail _ (.tail _ (.tail _ hp)))))
      exact ⟨rfl, s1 _ (List.mem_append.mpr (.inl (.head _))), s1 _ (List.mem_append.mpr (.inl (.tail _ (.head _)))),
        ⟨ys, nl, s1 _ (List.mem_append.mpr (.inl (.tail _ (.tail _ (.tail _ (.head _)))))), hsteps.mono fun v _ d hd => hd.mono fun p hp => s1 p (sa p hp)⟩,
        ⟨rfl, rfl, ⟨avs, na, s1 _ (List.mem_append.mpr (.inl (.tail _ (.tail _ (.head _))))), hargs.mono sn⟩, hmore.mono fun p hp => s1 p (se p hp)⟩⟩
  refine ⟨h', tk', m', _, rfl, F, hm, news_sub N fun p hp => ?_, fun p hp => ?_, inv⟩
  · have er : refsOf (recs ++ [r]) = refsOf recs ++ [.ref bx] := by unfold refsOf; rw [List.map_append]; rfl
    have sX : ∀ p ∈ X, p ∈ all := fun p hp => haX p (List.mem_append.mpr (.inr hp))
    rw [muts_snoc, er] at hp
    simp only [List.mem_append, List.mem_cons, List.not_mem_nil, or_false] at hp
    have m1 : ∀ p, p ∈ muts w recs → p ∈ all := fun p hp => sX p (hX ▸ List.mem_append.mpr (.inl (List.mem_append.mpr (.inl hp))))
    have m2 : ∀ p, p ∈ imm → p ∈ all := fun p hp => sX p (hX ▸ List.mem_append.mpr (.inl (List.mem_append.mpr (.inr hp))))
    have m3 : ∀ p, p ∈ imm0 → p ∈ all := fun p hp => sX p (hX ▸ List.mem_append.mpr (.inr (List.mem_append.mpr (.inl hp))))
    have m4 : ∀ p, p ∈ news → p ∈ all := fun p hp => sX p (hX ▸ List.mem_append.mpr (.inr (List.mem_append.mpr (.inr hp))))
    have m5 : ∀ p, p ∈ acc → p ∈ all := fun p hp => haX p (List.mem_append.mpr (.inl hp))
    have m6 : ∀ p, p ∈ nimm → p ∈ all := by
      intro p hp
      rcases List.mem_append.mp hp with hp | hp
      · rcases List.mem_cons.mp hp with rfl | hp
        · exact hbi
        · rcases List.mem_cons.mp hp with rfl | hp
          · exact hei
          · rcases List.mem_cons.mp hp with rfl | hp
            · exact hla
            · rcases List.mem_cons.mp hp with rfl | hp
              · exact hls
              · exact hextra p hp
      · exact m5 p hp
    rcases hp with (rfl | rfl) | (rfl | rfl) | (rfl | rfl | (hp | rfl | rfl) | hp | hp) | hp | hp
    · exact hits _ (.head _)
    · exact hits _ (.tail _ (.head _))
    · exact hits _ (.tail _ (.tail _ (.head _)))
    · exact hits _ (.tail _ (.tail _ (.tail _ (.head _))))
    · exact hc
    · exact hlb
    · exact m1 _ hp
    · exact hbd
    · exact hed
    · exact m6 _ hp
    · exact m2 _ hp
    · exact m3 _ hp
    · exact m4 _ hp
  · have mI : ∀ q ∈ [(I + 1, o1), (I, o2)], q.1 = I + 1 ∨ q.1 = I := by
      intro q hq
      rcases List.mem_cons.mp hq with rfl | hq
      · exact .inl rfl
      · rw [List.mem_singleton.mp hq]; exact .inr rfl
    rw [muts_snoc] at hp
    rcases List.mem_cons.mp hp with rfl | hp
    · exact .inl ⟨_, .head _, rfl⟩
    · rcases List.mem_cons.mp hp with rfl | hp
      · exact .inl ⟨_, .tail _ (.head _), rfl⟩
      · simp only [List.mem_append] at hp
        rcases hp with (hp | hp) | hp | hp
        · exact .inl ⟨p, .tail _ (.tail _ (List.mem_append.mpr (.inl hp))), rfl⟩
        · refine .inr fun q hq => ?_
          rcases mI q hq with e | e <;> rw [e]
          · exact hE2 _ _ p hp _ (by simp)
          · exact hE2 _ _ p hp _ (by simp)
        · refine .inr fun q hq => ?_
          rcases List.mem_append.mp hp with hp | hp
          · rcases mI q hq with e | e <;> rw [e]
            · exact hE' p hp _ (by simp)
            · exact hE' p hp _ (by simp)
          · rcases mI q hq with e | e <;> rw [e]
            · exact hda p hp _ (by simp)
            · exact hda p hp _ (by simp)
        · exact .inl ⟨p, .tail _ (.tail _ (List.mem_append.mpr (.inr hp))), rfl⟩
end Mine
namespace Mine
/-- a func's graph in a ledger: its blocks' list and the dicts of its blocks and ends may change; the rest (Y) stands, what is told of them lies in X -/
structure FuncAt (w : World) (fr : FuncR) (recs : List BlockR) (X Y : Led) (bs : List BlockD) : Prop where
  ok : FuncOk w X fr
  blocks : All2 (BlockIs w X) recs bs
  nodup : ((muts w recs).map (·.1)).Nodup
  dis : Dis (muts w recs) Y
  own : OwnOff (muts w recs ++ Y) [fr.lb]
abbrev funcLed (w : World) (fr : FuncR) (recs : List BlockR) (n : Nat) (X : Led) : Led := (fr.lb, listOf (List.toArray (refsOf recs)) n) :: (muts w recs ++ X)
def FuncPost (w : World) (news nd : Led) (bs : List BlockD) (r : Value) (news' : Led) : Prop :=
  ∃ (fr : FuncR) (recs : List BlockR) (imm : Led) (n : Nat), r = .ref fr.x ∧ news' = funcLed w fr recs n (imm ++ news) ∧ FuncAt w fr recs (imm ++ nd) (imm ++ news) bs ∧ Dis (muts w recs ++ imm) news ∧ OwnOff news [fr.lb]
theorem func_fin {w : World} {c : Addr} {fr : FuncR} {imm0 news nd M : Led} {es : List End} {h₀ h : Heap} {L : Addr} (hI : FuncInv w c fr imm0 news nd es es.length M) (N : News h₀ L h ([(fr.x, instObj 73 fr.dx), (fr.dx, funcObj w fr)] ++ (M ++ (imm0 ++ news))))
    (hok : FuncOk w ((fr.x, instObj 73 fr.dx) :: (fr.dx, funcObj w fr) :: imm0) fr) (own0 : OwnOff (imm0 ++ news) [fr.x, fr.dx, c, fr.lb]) (dis0 : Dis imm0 news) (ne0 : @Ne Nat fr.x fr.dx ∧ @Ne Nat fr.x c ∧ @Ne Nat fr.x fr.lb) (ne1 : @Ne Nat fr.dx c ∧ @Ne Nat fr.dx fr.lb) :
    ∃ news', News h₀ L h news' ∧ FuncPost w news nd (blocksFrom 0 es) (.ref fr.x) news' := by
  obtain ⟨oc, cv, recs, imm, n, rfl, hcell, hAll, hnd, hdis, hown, hdn⟩ := hI
  rw [List.take_length] at hAll
  have hmX : ∀ p ∈ (fr.x, instObj 73 fr.dx) :: (fr.dx, funcObj w fr) :: imm0, p ∈ ((fr.x, instObj 73 fr.dx) :: (fr.dx, funcObj w fr) :: (imm ++ imm0)) ++ nd := by
    intro p hp
    rcases List.mem_cons.mp hp with rfl | hp
    · exact .head _
    · rcases List.mem_cons.mp hp with rfl | hp
      · exact .tail _ (.head _)
      · exact .tail _ (.tail _ (List.mem_append.mpr (.inl (List.mem_append.mpr (.inr hp)))))
  have hsX : ∀ p ∈ imm ++ (imm0 ++ nd), p ∈ ((fr.x, instObj 73 fr.dx) :: (fr.dx, funcObj w fr) :: (imm ++ imm0)) ++ nd := by
    intro p hp
    show p ∈ (fr.x, instObj 73 fr.dx) :: (fr.dx, funcObj w fr) :: ((imm ++ imm0) ++ nd)
    rw [List.append_assoc]
    exact .tail _ (.tail _ hp)
  have hinv : ∀ p ∈ ((fr.x, instObj 73 fr.dx) :: (fr.dx, funcObj w fr) :: (imm ++ imm0)) ++ news, p = (fr.x, instObj 73 fr.dx) ∨ p = (fr.dx, funcObj w fr) ∨ p ∈ imm ++ (imm0 ++ news) := by
    intro p hp
    have hp : p ∈ (fr.x, instObj 73 fr.dx) :: (fr.dx, funcObj w fr) :: ((imm ++ imm0) ++ news) := hp
    rw [List.append_assoc] at hp
    rcases List.mem_cons.mp hp with rfl | hp
    · exact .inl rfl
    · rcases List.mem_cons.mp hp with rfl | hp
      · exact .inr (.inl rfl)
      · exact .inr (.inr hp)
  refine ⟨funcLed w fr recs n (((fr.x, instObj 73 fr.dx) :: (fr.dx, funcObj w fr) :: (imm ++ imm0)) ++ news), news_sub N ?_, fr, recs, (fr.x, instObj 73 fr.dx) :: (fr.dx, funcObj w fr) :: (imm ++ imm0), n, rfl, rfl, ⟨hok.mono hmX, hAll.mono fun a _ b h => h.mono hsX, hnd, ?_, ?_⟩, ?_, ?_⟩
  · intro p hp
    rcases List.mem_cons.mp hp with rfl | hp
    · exact .tail _ (.tail _ (.tail _ (.head _)))
    · rcases List.mem_append.mp hp with hp | hp
      · exact .tail _ (.tail _ (.tail _ (.tail _ (List.mem_append.mpr (.inl (List.mem_append.mpr (.inl hp)))))))
      · rcases hinv p hp with rfl | rfl | hp
        · exact .head _
        · exact .tail _ (.head _)
        · refine .tail _ (.tail _ (.tail _ (.tail _ ?_)))
          rcases List.mem_append.mp hp with hp | hp
          · exact List.mem_append.mpr (.inl (List.mem_append.mpr (.inr hp)))
          · exact List.mem_append.mpr (.inr hp)
  · intro p hp q hq
    rcases hinv q hq with rfl | rfl | hq
    · exact hown p (List.mem_append.mpr (.inl hp)) _ (.head _)
    · exact hown p (List.mem_append.mpr (.inl hp)) _ (.tail _ (.head _))
    · exact hdis p hp q hq
  · intro p hp b hb
    rw [List.mem_singleton.mp hb]
    rcases List.mem_append.mp hp with hp | hp
    · exact hown p (List.mem_append.mpr (.inl hp)) _ (.tail _ (.tail _ (.tail _ (.head _))))
    · rcases hinv p hp with rfl | rfl | hp
      · exact ne0.2.2
      · exact ne1.2
      · rcases List.mem_append.mp hp with hp | hp
        · exact hown p (List.mem_append.mpr (.inr hp)) _ (.tail _ (.tail _ (.tail _ (.head _))))
        · exact own0 p hp _ (.tail _ (.tail _ (.tail _ (.head _))))
  · intro p hp q hq
    have hq0 : q ∈ imm0 ++ news := List.mem_append.mpr (.inr hq)
    rcases List.mem_append.mp hp with hp | hp
    · exact hdn p (List.mem_append.mpr (.inl hp)) q hq
    · rcases List.mem_cons.mp hp with rfl | hp
      · exact Ne.symm (own0 q hq0 _ (.head _))
      · rcases List.mem_cons.mp hp with rfl | hp
        · exact Ne.symm (own0 q hq0 _ (.tail _ (.head _)))
        · rcases List.mem_append.mp hp with hp | hp
          · exact hdn p (List.mem_append.mpr (.inr hp)) q hq
          · exact dis0 p hp q hq
  · intro p hp b hb
    rw [List.mem_singleton.mp hb]
    exact own0 p (List.mem_append.mpr (.inr hp)) _ (.tail _ (.tail _ (.tail _ (.head _))))
end Mine
namespace Mine
theorem blocksFrom_length : ∀ (l : List End) (i : Nat), (blocksFrom i l).length = l.length
  | [], _ => rfl
  | e :: r, i => by
    show (blocksFrom (i + 1) r).length + 1 = r.length + 1
    rw [blocksFrom_length r (i + 1)]
theorem refs_len {w : World} {X : Led} {recs : List BlockR} {es : List End} {i : Nat} (h : All2 (BlockIs w X) recs (blocksFrom 0 (es.take i))) (hn : es.length ≤ 5) : (refsOf recs).length ≤ 1000 := by
  have := h.length
  rw [blocksFrom_length, List.length_take] at this
  unfold refsOf
  rw [List.length_map, this]
  omega
end Mine
namespace Mine
theorem turn_next {h₀ : Heap} {L : Addr} {stored : List Str} {m₀ : Str → Option Value} {pre M rest its : Led} {s₁ : Shared} {K : (Str → Option Value) → Led → Prop} {Q : Flow → Shared → Prop} {s₂ : Shared} (h : TurnEndF h₀ L stored m₀ pre M rest its s₁ K s₂) : TurnPostF h₀ L stored m₀ pre M rest its s₁ K Q .next s₂ := h
end Mine
namespace Mine
theorem fmod3 (i : Nat) : (Int.fmod (i : Int) 3 - 0).toNat = i % 3 := by
  rw [Int.fmod_eq_emod_of_nonneg _ (by decide)]
  omega
end Mine
namespace Mine
theorem last_ok (gs : List Int) (g : Int) : -(((gs ++ [g]).length : Nat) : Int) ≤ -1 := by
  rw [List.length_append, List.length_singleton]; omega
theorem last_item (gs : List Int) (g : Int) : (gs ++ [g]).getD (-1 + (((gs ++ [g]).length : Nat) : Int)).toNat 0 = g := by
  have e : (-1 + (((gs ++ [g]).length : Nat) : Int)).toNat = gs.length := by
    rw [List.length_append, List.length_singleton]; omega
  rw [e, List.getD_eq_getElem?_getD, List.getElem?_append_right (Nat.le_refl _), Nat.sub_self]
  rfl
end Mine
namespace Mine
abbrev tabExtra (xa xb : Addr) (i0 i1 : Int) (t0 t1 : Tok) (n0 n1 : Nat) (ws : List Value) : Led :=
  [(xa, { cls := .type "tuple", data := .seq (List.toArray [Value.int i0 t0, .ref xb, .int i1 t1]) n0 }), (xb, listOf (List.toArray ws) n1)]
end Mine
namespace Mine
theorem enumItems_len : ∀ (vs : List Value) (i : Nat), (enumItems i vs).length = vs.length
  | [], _ => rfl
  | _ :: r, i => by
    show (enumItems (i + 1) r).length + 1 = r.length + 1
    rw [enumItems_len r (i + 1)]
theorem args_len (e : End) : e.args.length ≤ 1 := by cases e <;> exact Nat.le_of_ble_eq_true rfl
end Mine
section
open Mine
local macro_rules | `(tactic| k_mem) => `(tactic| k_extra "M mem")
local macro_rules | `(tactic| k_all) => `(tactic| k_extra "M all")
local macro_rules | `(tactic| k_ne) => `(tactic| k_extra "M ne")
namespace Mine
def StepGot (r : StepR) (op : Str) (dst : Int) (la : Addr) (mv : Value) : Prop := r.op = op ∧ r.dst = dst ∧ r.la = la ∧ r.mv = mv
section
theorem kset7 : True := by
  k_with_none
  k_with "M gen" => ((fail_if_success (goal_lacks Mine.MidEnd Mine.NewEnd Mine.TurnPostF PyProof.Rows.LCg.CompSrc PyProof.Rows.LCt.CompSrcT)); k_fold)
  k_with "M steps" => (repeat' (first | k_extra "M gen" | (k_unfold; (try dsimp only)) | (k_end; wrow_close) | walk1 | (dsimp only; walk1) | (leave1; walk_say "STEP leave1"; try dsimp only) | fail "no step"))
  k_with "M enterC" => ((refine' code_defC ?k1q17 ?k2q17 ?k3q17 ?k4q17 ?k5q17 ?kAq17 ?kFq17 ?kKq17 ?k6q17 ?k7q17 ?k8q17 ?k9q17 ?kBq17 ?kDq17 ?_ ?c2q17 ?c3q17 ?c4q17; (case kAq17 => exact rfl); (case kFq17 => exact rfl); (case kKq17 => assumption); (case k1q17 => k_asm); (case k2q17 => k_asm); (case k3q17 => k_asm); (case k4q17 => k_asm); (case k5q17 => k_asm); (case k6q17 => k_is); (case k7q17 => k_is); (case k8q17 => ktr_room); (case k9q17 => exact BindsTo.of_eq rfl); (case kBq17 => exact rfl); (case kDq17 => decide +kernel); (case c2q17 => exact rfl); (case c3q17 => exact rfl); (case c4q17 => exact rfl); k_whole; intro g'zq L'zq h'zq tk'zq cells'zq FG'zq F'zq N'zq Y'zq B'zq X'zq T'zq l1zq; k_cells Y'zq; (try simp only [List.cons_append, List.nil_append] at N'zq); (try dsimp only); (try k_fold)))
  k_with "M enter" => ((refine' code_def ?k1q18 ?k2q18 ?k3q18 ?k4q18 ?k5q18 ?kAq18 ?kFq18 ?kKq18 ?k6q18 ?k7q18 ?k8q18 ?k9q18 ?kBq18 ?_ ?c2q18 ?c3q18 ?c4q18 ?c5q18; (case kAq18 => exact rfl); (case kFq18 => exact rfl); (case kKq18 => first | exact rfl | assumption); (case k1q18 => k_asm); (case k2q18 => k_asm); (case k3q18 => k_asm); (case k4q18 => k_asm); (case k5q18 => k_asm); (case k6q18 => k_is); (case k7q18 => k_is); (case k8q18 => ktr_room); (case k9q18 => exact BindsTo.of_eq rfl); (case c5q18 => decide); (case kBq18 => exact locs rfl); (case c2q18 => exact rfl); (case c3q18 => exact rfl); (case c4q18 => exact rfl); k_whole; intro g'zq L'zq h'zq FG'zq F'zq N'zq B'zq X'zq T'zq; (try dsimp only); (try k_fold)))
  k_with "M mem" => (first | exact mem_hd | (with_reducible refine mem_tl ?_; k_extra "M mem") | with_reducible assumption | (with_reducible refine mem_apr ?_; k_extra "M mem") | (with_reducible refine mem_apl ?_; k_extra "M mem"))
  k_with "M ne" => ((refine neN ?_; (try dsimp only); first | exact Nat.ne_of_lt (by with_reducible assumption) | exact Nat.ne_of_gt (by with_reducible assumption) | with_reducible assumption | exact Ne.symm (by with_reducible assumption) | omega))
  k_with "M all" => (first | exact List.forall_mem_nil _ | with_reducible assumption | (with_reducible refine' List.forall_mem_cons.mpr ⟨?aq21, ?bq21⟩; (case aq21 => k_extra "M ne"); (case bq21 => k_extra "M all")) | (refine' allLt_ne ?dAq21; (case dAq21 => with_reducible assumption)) | (refine' off1_ne ?dAq21; (case dAq21 => with_reducible assumption)) | (refine' OwnOff.ne ?dAq21 ?dBq21; (case dAq21 => with_reducible assumption); (case dBq21 => k_memK)) | (refine' ne_app ?nAq21 ?nBq21; (case nAq21 => k_extra "M all"); (case nBq21 => k_extra "M all")) | (refine' dis_ne ?dAq21 ?dBq21; (case dAq21 => with_reducible assumption); (case dBq21 => k_extra "M mem")) | (refine' allLt_app ?dAq21; (case dAq21 => with_reducible assumption)) | (refine' allLt_apl ?dAq21; (case dAq21 => with_reducible assumption)) | (refine' allLt_ne_lt ?dAq21 ?dBq21; (case dAq21 => with_reducible assumption); (case dBq21 => with_reducible assumption)))
  k_with "newList" => ((k_here; k_dflt (refine' newList_K ?k1q22 ?k2q22 ?_; (case k1q22 => k_asm); (case k2q22 => k_asm); k_whole); intro l'zq h'zq F'zq N'zq l1zq; (try k_lt l1zq); (try k_sweep); k_extra "M split"))
  k_with "newTuple" => ((k_here; k_dflt (refine' kup_newTuple ?Fq23 ?Nq23 ?_ ?zq23; (case Fq23 => k_asm); (case Nq23 => k_asm); (case zq23 => kmk_size)); intro D'zq h'zq F'zq N'zq l1zq; (try k_lt l1zq); (try k_sweep); k_extra "M split"))
  k_with "call type:list" => ((k_here; (with_reducible show wpAny _ _ (call (Value.type _) [Value.ref _]) _ _ _); k_dflt (first | (refine' list_copyK ?k1q24 ?k2q24 ?k3q24 ?_ ?zq24; (case k1q24 => k_asm); (case k2q24 => k_asm); (case k3q24 => exact News.isList (by k_asm) (by k_extra "M mem")); (case zq24 => first | exact Nat.le_of_ble_eq_true rfl | (rw [List.size_toArray, sizeLine_eq]; omega) | exact kmk_sz (by with_reducible assumption) (by rw [sizeLine_eq]; omega)); k_whole) | (refine' list_copyKT ?k1q24 ?k2q24 ?k3q24 ?_ ?zq24; (case k1q24 => k_asm); (case k2q24 => k_asm); (case k3q24 => exact News.isTup (by k_asm) (by k_extra "M mem")); (case zq24 => exact Nat.le_of_ble_eq_true rfl); k_whole)); intro D'zq c'zq h'zq F'zq N'zq l1zq; (try k_lt l1zq); (try k_sweep); k_extra "M split"))
  k_with "M own" => (first | exact own_nil | (refine own_cons ?oAq25 ?oBq25; (case oAq25 => k_extra "M all"); (case oBq25 => k_extra "M own")))
  k_with "M dis" => (first | exact dis_nil | (refine dis_cons ?dAq26 ?dBq26; (case dAq26 => k_extra "M all"); (case dBq26 => k_extra "M dis")))
  k_with "M split" => (repeat ((with_reducible rename (_ ∧ _) => hc9zq); have hc9azq := hc9zq.1; have hc9bzq := hc9zq.2; clear hc9zq))
  k_with "M eq" => (first | exact eqs0 | exact eqs1 | exact eqs2 | exact eqs3 | exact eqs4 | exact eqs5 | exact eqs6 | exact eqs7 | exact eqs8 | exact eqs9 | exact eqs10 | exact eqs11 | exact eqs12 | exact eqs13 | exact eqs14 | exact eqs15 | exact eqs16)
  k_with "M tails" => ((intro pzq hpzq; (try dsimp only [List.cons_append, List.nil_append] at hpzq ⊢); repeat (first | with_reducible exact hpzq | with_reducible exact mem_apl hpzq | with_reducible refine List.mem_cons_of_mem _ ?_ | with_reducible refine mem_apr ?_)))
  k_with "M at" => (first | exact mem_hd | (refine mem_tl ?_; k_extra "M at"))
  k_with "M same" => ((intro zzq hzzq; (try dsimp only); (repeat (refine Eq.trans (same_if rfl hzzq) ?_)); first | exact same_frm hzzq | rfl))
  k_with "M clear" => (((repeat ((with_reducible rename (@LT.lt Nat _ _ _) => zzzq); clear zzzq)); (repeat ((with_reducible rename (AllLt _ _) => zzzq); clear zzzq))))
  k_with "M use" => (((case c1 => k_asm); (case c2 => k_asm); (case c3 => k_asm); (case c4 => k_asm); (case c5 => k_asm); (case c6 => first | exact rfl | assumption); (case c7 => ktr_room); (case c8 => ktr_units); k_whole))
  k_with "call builtin:list.append" => ((k_here; k_dflt (refine' append_any ?k1q34 ?k2q34 ?k3q34 ?k4q34 ?_; (case k1q34 => k_asm); (case k2q34 => k_asm); (case k3q34 => k_upd); (case k4q34 => with_reducible assumption)); intro h'zq F'zq N'zq))
  k_with "call builtin:len" => ((k_here; (with_reducible show wpAny _ _ (call (Value.builtin "len") [Value.ref _]) _ _ _); k_dflt (refine' kun_lenL ?k1q35 ?k2q35 ?k3q35 ?_; (case k1q35 => exact News.isList (by k_asm) (by k_extra "M mem")); (case k2q35 => with_reducible assumption); (case k3q35 => omega); k_whole)))
  k_with "binaryOp Add ref ref" => ((k_here; (with_reducible show wpAny _ _ (binaryOp _ (Value.ref _) (Value.ref _)) _ _ _); k_dflt (refine' kmk_add_ints ?Fq36 ?Nq36 ?aq36 ?bq36 ?iq36 ?jq36 ?_ ?zq36; (case Fq36 => k_asm); (case Nq36 => k_asm); (case aq36 => exact News.isList (by k_asm) (by k_extra "M mem")); (case bq36 => exact News.isList (by k_asm) (by k_extra "M mem")); (case iq36 => with_reducible assumption); (case jq36 => exact .cons _ _ .nil); (case zq36 => rw [sizeLine_eq, List.length_singleton]; omega)); intro D'zq ws'zq h'zq F'zq N'zq l1zq hI'zq; (try k_lt l1zq); (try k_sweep); k_extra "M split"))
  k_with "call ref" => ((k_here; k_dflt (refine' call_cls ?k1q37 ?k2q37 ?k3q37 ?k4q37 ?k5q37 ?k6q37 ?_; (case k1q37 => k_asm); (case k2q37 => k_asm); (case k3q37 => k_asm); (case k4q37 => k_is); (case k5q37 => k_is); (case k6q37 => k_is); k_whole; intro x'zq d'zq h'zq F'zq N'zq l1zq l2zq; (try k_lt l1zq); (try k_lt2 l2zq); (try k_sweep); k_extra "M split"; k_extra "M enter")))
  trivial
set_option maxRecDepth 100000 in
set_option maxHeartbeats 8000000 in
theorem step_ctr (w : World) (op : Str) (t1 t2 : Tok) (dst : Int) (la : Addr) (mv : Value) (news : Led) :
    Ctr w 31 2 [.str op t1, .int dst t2, .ref la, mv] news (fun r n' => ∃ r' : StepR, r = .ref r'.x ∧ n' = (r'.x, instObj 31 r'.dx) :: (r'.dx, stepObj w r') :: news ∧ (∀ p ∈ news, p.1 < r'.dx) ∧ (@LT.lt Nat _ r'.dx r'.x) ∧ r'.op = op ∧ r'.dst = dst ∧ r'.la = la ∧ r'.mv = mv) := by
  unfold Ctr
  k_fill
  w_top off
  intro p loose mean mg mb dp un gd cn cs a ccd cl outer A₀ base h₀ L m s Q E BB F X N T hk hd hu hret
  k_here
  k_dflt (refine' call_cls ?k1 ?k2 ?k3 ?k4 ?k5 ?k6 ?_; (case k1 => k_asm); (case k2 => k_asm); (case k3 => k_asm); (case k4 => k_is); (case k5 => k_is); (case k6 => k_is); k_whole; intro x' d' h' F' N' l1 l2)
  have l3 := l1
  (try k_lt l1); (try k_lt2 l2); (try k_sweep); k_extra "M split"; k_extra "M enter"
  k_extra "M steps"
  exact hret _ _ _ _ (by k_asm) (by k_asm) ⟨⟨_, _, _, _, _, _, _, _, _, _, _, _, _, _, _⟩, rfl, rfl, l3, by assumption, rfl, rfl, rfl, rfl⟩
set_option maxRecDepth 100000 in
set_option maxHeartbeats 8000000 in
theorem block_ctr (w : World) (num : Int) (t1 : Tok) (news : Led) :
    Ctr w 52 2 [.int num t1] news (fun r n' => ∃ (x dx l : Addr) (k1 k2 k3 t2 : Tok), r = .ref x ∧ n' = (l, listOf (List.toArray []) 0) :: (x, instObj 52 dx) :: (dx, dictOf [ent w "number" k1 (.int num t2), ent w "steps" k2 (.ref l), ent w "end" k3 .none] 3) :: news ∧ (∀ p ∈ news, p.1 < dx) ∧ (∀ p ∈ news, p.1 < x) ∧ (∀ p ∈ news, p.1 < l) ∧ (@LT.lt Nat _ dx x) ∧ (@LT.lt Nat _ dx l) ∧ (@LT.lt Nat _ x l)) := by
  unfold Ctr
  k_fill
  w_top off
  intro p loose mean mg mb dp un gd cn cs a ccd cl outer A₀ base h₀ L m s Q E BB F X N T hk hd hu hret
  k_here
  k_dflt (refine' call_cls ?k1 ?k2 ?k3 ?k4 ?k5 ?k6 ?_; (case k1 => k_asm); (case k2 => k_asm); (case k3 => k_asm); (case k4 => k_is); (case k5 => k_is); (case k6 => k_is); k_whole; intro x' d' h' F' N' l1 l2)
  have l3 := l1
  (try k_lt l1); (try k_lt2 l2); (try k_sweep); k_extra "M split"; k_extra "M enter"
  k_extra "M steps"
  exact hret _ _ _ _ (by k_asm) (by k_asm) ⟨_, _, _, _, _, _, _, rfl, rfl, l3, fun p hp => Nat.lt_trans (l3 p hp) (by assumption), fun p hp => Nat.lt_trans (l3 p hp) (by assumption), by assumption, by assumption, by assumption⟩
end
section
variable {w : World} {p : Program} {loose : List Str} {mean : ExcName → Option Value} {mg mb : Str → Option Value}
    {dp un : Nat} {gd : Option (List Code)} {cn : Str} {cs : Scope} {a : Addr} {ccd : Value} {cl : List (Str × Addr)} {outer : List Env} {A₀ : Around} {base h₀ : Heap} {L : Addr} {m : Str → Option Value}
    {s : Shared} {Q E : Value → Shared → Prop} {all : Led} {op : Str} {t1 t2 : Tok} {dst num : Int} {la : Addr} {mv : Value}
theorem kset8 : True := by
  k_with_none
  k_with "M gen" => ((fail_if_success (goal_lacks Mine.MidEnd Mine.NewEnd Mine.TurnPostF PyProof.Rows.LCg.CompSrc PyProof.Rows.LCt.CompSrcT)); k_fold)
  k_with "M steps" => (repeat' (first | k_extra "M gen" | (k_unfold; (try dsimp only)) | (k_end; wrow_close) | walk1 | (dsimp only; walk1) | (leave1; walk_say "STEP leave1"; try dsimp only) | fail "no step"))
  k_with "M enterC" => ((refine' code_defC ?k1q17 ?k2q17 ?k3q17 ?k4q17 ?k5q17 ?kAq17 ?kFq17 ?kKq17 ?k6q17 ?k7q17 ?k8q17 ?k9q17 ?kBq17 ?kDq17 ?_ ?c2q17 ?c3q17 ?c4q17; (case kAq17 => exact rfl); (case kFq17 => exact rfl); (case kKq17 => assumption); (case k1q17 => k_asm); (case k2q17 => k_asm); (case k3q17 => k_asm); (case k4q17 => k_asm); (case k5q17 => k_asm); (case k6q17 => k_is); (case k7q17 => k_is); (case k8q17 => ktr_room); (case k9q17 => exact BindsTo.of_eq rfl); (case kBq17 => exact rfl); (case kDq17 => decide +kernel); (case c2q17 => exact rfl); (case c3q17 => exact rfl); (case c4q17 => exact rfl); k_whole; intro g'zq L'zq h'zq tk'zq cells'zq FG'zq F'zq N'zq Y'zq B'zq X'zq T'zq l1zq; k_cells Y'zq; (try simp only [List.cons_append, List.nil_append] at N'zq); (try dsimp only); (try k_fold)))
  k_with "M enter" => ((refine' code_def ?k1q18 ?k2q18 ?k3q18 ?k4q18 ?k5q18 ?kAq18 ?kFq18 ?kKq18 ?k6q18 ?k7q18 ?k8q18 ?k9q18 ?kBq18 ?_ ?c2q18 ?c3q18 ?c4q18 ?c5q18; (case kAq18 => exact rfl); (case kFq18 => exact rfl); (case kKq18 => first | exact rfl | assumption); (case k1q18 => k_asm); (case k2q18 => k_asm); (case k3q18 => k_asm); (case k4q18 => k_asm); (case k5q18 => k_asm); (case k6q18 => k_is); (case k7q18 => k_is); (case k8q18 => ktr_room); (case k9q18 => exact BindsTo.of_eq rfl); (case c5q18 => decide); (case kBq18 => exact locs rfl); (case c2q18 => exact rfl); (case c3q18 => exact rfl); (case c4q18 => exact rfl); k_whole; intro g'zq L'zq h'zq FG'zq F'zq N'zq B'zq X'zq T'zq; (try dsimp only); (try k_fold)))
  k_with "M mem" => (first | exact mem_hd | (with_reducible refine mem_tl ?_; k_extra "M mem") | with_reducible assumption | (with_reducible refine mem_apr ?_; k_extra "M mem") | (with_reducible refine mem_apl ?_; k_extra "M mem"))
  k_with "M ne" => ((refine neN ?_; (try dsimp only); first | exact Nat.ne_of_lt (by with_reducible assumption) | exact Nat.ne_of_gt (by with_reducible assumption) | with_reducible assumption | exact Ne.symm (by with_reducible assumption) | omega))
  k_with "M all" => (first | exact List.forall_mem_nil _ | with_reducible assumption | (with_reducible refine' List.forall_mem_cons.mpr ⟨?aq21, ?bq21⟩; (case aq21 => k_extra "M ne"); (case bq21 => k_extra "M all")) | (refine' allLt_ne ?dAq21; (case dAq21 => with_reducible assumption)) | (refine' off1_ne ?dAq21; (case dAq21 => with_reducible assumption)) | (refine' OwnOff.ne ?dAq21 ?dBq21; (case dAq21 => with_reducible assumption); (case dBq21 => k_memK)) | (refine' ne_app ?nAq21 ?nBq21; (case nAq21 => k_extra "M all"); (case nBq21 => k_extra "M all")) | (refine' dis_ne ?dAq21 ?dBq21; (case dAq21 => with_reducible assumption); (case dBq21 => k_extra "M mem")) | (refine' allLt_app ?dAq21; (case dAq21 => with_reducible assumption)) | (refine' allLt_apl ?dAq21; (case dAq21 => with_reducible assumption)) | (refine' allLt_ne_lt ?dAq21 ?dBq21; (case dAq21 => with_reducible assumption); (case dBq21 => with_reducible assumption)))
  k_with "newList" => ((k_here; k_dflt (refine' newList_K ?k1q22 ?k2q22 ?_; (case k1q22 => k_asm); (case k2q22 => k_asm); k_whole); intro l'zq h'zq F'zq N'zq l1zq; (try k_lt l1zq); (try k_sweep); k_extra "M split"))
  k_with "newTuple" => ((k_here; k_dflt (refine' kup_newTuple ?Fq23 ?Nq23 ?_ ?zq23; (case Fq23 => k_asm); (case Nq23 => k_asm); (case zq23 => kmk_size)); intro D'zq h'zq F'zq N'zq l1zq; (try k_lt l1zq); (try k_sweep); k_extra "M split"))
  k_with "call type:list" => ((k_here; (with_reducible show wpAny _ _ (call (Value.type _) [Value.ref _]) _ _ _); k_dflt (first | (refine' list_copyK ?k1q24 ?k2q24 ?k3q24 ?_ ?zq24; (case k1q24 => k_asm); (case k2q24 => k_asm); (case k3q24 => exact News.isList (by k_asm) (by k_extra "M mem")); (case zq24 => first | exact Nat.le_of_ble_eq_true rfl | (rw [List.size_toArray, sizeLine_eq]; omega) | exact kmk_sz (by with_reducible assumption) (by rw [sizeLine_eq]; omega)); k_whole) | (refine' list_copyKT ?k1q24 ?k2q24 ?k3q24 ?_ ?zq24; (case k1q24 => k_asm); (case k2q24 => k_asm); (case k3q24 => exact News.isTup (by k_asm) (by k_extra "M mem")); (case zq24 => exact Nat.le_of_ble_eq_true rfl); k_whole)); intro D'zq c'zq h'zq F'zq N'zq l1zq; (try k_lt l1zq); (try k_sweep); k_extra "M split"))
  k_with "M own" => (first | exact own_nil | (refine own_cons ?oAq25 ?oBq25; (case oAq25 => k_extra "M all"); (case oBq25 => k_extra "M own")))
  k_with "M dis" => (first | exact dis_nil | (refine dis_cons ?dAq26 ?dBq26; (case dAq26 => k_extra "M all"); (case dBq26 => k_extra "M dis")))
  k_with "M split" => (repeat ((with_reducible rename (_ ∧ _) => hc9zq); have hc9azq := hc9zq.1; have hc9bzq := hc9zq.2; clear hc9zq))
  k_with "M eq" => (first | exact eqs0 | exact eqs1 | exact eqs2 | exact eqs3 | exact eqs4 | exact eqs5 | exact eqs6 | exact eqs7 | exact eqs8 | exact eqs9 | exact eqs10 | exact eqs11 | exact eqs12 | exact eqs13 | exact eqs14 | exact eqs15 | exact eqs16)
  k_with "M tails" => ((intro pzq hpzq; (try dsimp only [List.cons_append, List.nil_append] at hpzq ⊢); repeat (first | with_reducible exact hpzq | with_reducible exact mem_apl hpzq | with_reducible refine List.mem_cons_of_mem _ ?_ | with_reducible refine mem_apr ?_)))
  k_with "M at" => (first | exact mem_hd | (refine mem_tl ?_; k_extra "M at"))
  k_with "M same" => ((intro zzq hzzq; (try dsimp only); (repeat (refine Eq.trans (same_if rfl hzzq) ?_)); first | exact same_frm hzzq | rfl))
  k_with "M clear" => (((repeat ((with_reducible rename (@LT.lt Nat _ _ _) => zzzq); clear zzzq)); (repeat ((with_reducible rename (AllLt _ _) => zzzq); clear zzzq))))
  k_with "M use" => (((case c1 => k_asm); (case c2 => k_asm); (case c3 => k_asm); (case c4 => k_asm); (case c5 => k_asm); (case c6 => first | exact rfl | assumption); (case c7 => ktr_room); (case c8 => ktr_units); k_whole))
  k_with "call builtin:list.append" => ((k_here; k_dflt (refine' append_any ?k1q34 ?k2q34 ?k3q34 ?k4q34 ?_; (case k1q34 => k_asm); (case k2q34 => k_asm); (case k3q34 => k_upd); (case k4q34 => with_reducible assumption)); intro h'zq F'zq N'zq))
  k_with "call builtin:len" => ((k_here; (with_reducible show wpAny _ _ (call (Value.builtin "len") [Value.ref _]) _ _ _); k_dflt (refine' kun_lenL ?k1q35 ?k2q35 ?k3q35 ?_; (case k1q35 => exact News.isList (by k_asm) (by k_extra "M mem")); (case k2q35 => with_reducible assumption); (case k3q35 => omega); k_whole)))
  k_with "binaryOp Add ref ref" => ((k_here; (with_reducible show wpAny _ _ (binaryOp _ (Value.ref _) (Value.ref _)) _ _ _); k_dflt (refine' kmk_add_ints ?Fq36 ?Nq36 ?aq36 ?bq36 ?iq36 ?jq36 ?_ ?zq36; (case Fq36 => k_asm); (case Nq36 => k_asm); (case aq36 => exact News.isList (by k_asm) (by k_extra "M mem")); (case bq36 => exact News.isList (by k_asm) (by k_extra "M mem")); (case iq36 => with_reducible assumption); (case jq36 => exact .cons _ _ .nil); (case zq36 => rw [sizeLine_eq, List.length_singleton]; omega)); intro D'zq ws'zq h'zq F'zq N'zq l1zq hI'zq; (try k_lt l1zq); (try k_sweep); k_extra "M split"))
  trivial
theorem step_use (B : Below A₀ base outer h₀) (F : Fr h₀ L s.heap m) (X : (Mine.hd.heap_39 w.params).In h₀) (N : News h₀ L s.heap all) (T : Top p loose mean mg mb h₀) (hk : cs.kind = .function)
    (hd : dp + 2 < recursionLimit) (hu : un + 8 * 2 < cLine)
    (ret : ∀ (r : StepR) h' tk', Fr h₀ L h' m → News h₀ L h' ((r.x, instObj 31 r.dx) :: (r.dx, stepObj w r) :: all) → (∀ p ∈ all, p.1 < r.dx) → (∀ p ∈ all, p.1 < r.x) → (@LT.lt Nat _ r.dx r.x) → StepGot r op dst la mv → Q (.ref r.x) { s with heap := h', toks := tk' }) :
    wpAny (model PySem.Challenge.rw_nm0004_01.row.prog w) (ktrTop dp un gd cn cs L a ccd cl outer) (call (.ref 31) [.str op t1, .int dst t2, .ref la, mv]) Q E s := by
  refine Ctr.use (step_ctr w op t1 t2 dst la mv all) B F X N T hk hd hu (fun _ h => h) ?_
  rintro r n' h' tk' F' N' ⟨r', rfl, rfl, l1, l2, e⟩
  exact ret r' h' tk' F' N' l1 (fun p hp => Nat.lt_trans (l1 p hp) l2) l2 e
theorem block_use (B : Below A₀ base outer h₀) (F : Fr h₀ L s.heap m) (X : (Mine.hd.heap_39 w.params).In h₀) (N : News h₀ L s.heap all) (T : Top p loose mean mg mb h₀) (hk : cs.kind = .function)
    (hd : dp + 2 < recursionLimit) (hu : un + 8 * 2 < cLine)
    (ret : ∀ (x dx l : Addr) (k1 k2 k3 tn : Tok) h' tk', Fr h₀ L h' m → News h₀ L h' ((l, listOf (List.toArray []) 0) :: (x, instObj 52 dx) :: (dx, dictOf [ent w "number" k1 (.int num tn), ent w "steps" k2 (.ref l), ent w "end" k3 .none] 3) :: all) → (∀ p ∈ all, p.1 < dx) → (∀ p ∈ all, p.1 < x) → (∀ p ∈ all, p.1 < l) → ((@LT.lt Nat _ dx x) ∧ (@LT.lt Nat _ dx l) ∧ (@LT.lt Nat _ x l)) → Q (.ref x) { s with heap := h', toks := tk' }) :
    wpAny (model PySem.Challenge.rw_nm0004_01.row.prog w) (ktrTop dp un gd cn cs L a ccd cl outer) (call (.ref 52) [.int num t1]) Q E s := by
  refine Ctr.use (block_ctr w num t1 all) B F X N T hk hd hu (fun _ h => h) ?_
  rintro r n' h' tk' F' N' ⟨x, dx, l, k1, k2, k3, t9, rfl, rfl, l1, l2, l3, e⟩
  exact ret x dx l k1 k2 k3 t9 h' tk' F' N' l1 l2 l3 e
end
section
/-- what holds behind the law's choice of 'more' -/
def MoreQ (h₀ : Heap) (L : Addr) (front back : Led) (m1 : Str → Option Value) (x : Str) (d : Dat) (s₁ : Shared) (f : Flow) (s₂ : Shared) : Prop :=
  f = .next ∧ ∃ h' tk' mv extra, s₂ = { s₁ with heap := h', toks := tk' } ∧ Fr h₀ L h' (fun z => if z = x then some mv else m1 z) ∧ News h₀ L h' (front ++ (extra ++ back)) ∧ DatIn extra mv d ∧ Dis extra (front ++ back)
theorem more_join {M : Model} {A : Around} {t : Sem Flow} {Q : Flow → Shared → Prop} {E : Value → Shared → Prop} {s₁ : Shared} {h₀ : Heap} {L : Addr} {front all : Led} {m1 : Str → Option Value} (back : Led) (x : Str) (d : Dat)
    (F : Fr h₀ L s₁.heap m1) (N : News h₀ L s₁.heap all) (he : all = front ++ back)
    (h : wpAny M A t (MoreQ h₀ L front back m1 x d s₁) E s₁)
    (k : ∀ mv extra h' tk', Fr h₀ L h' (fun z => if z = x then some mv else m1 z) → News h₀ L h' (front ++ (extra ++ back)) → DatIn extra mv d → Dis extra (front ++ back) → Q .next { s₁ with heap := h', toks := tk' }) : wpAny M A t Q E s₁ := by
  refine wpAny_mono h ?_ fun _ _ e => e
  rintro f s₂ ⟨rfl, h', tk', mv, extra, rfl, F, N, D, X⟩
  exact k mv extra h' tk' F N D X
theorem more_end {s₁ : Shared} {h₀ h' : Heap} {tk' : Nat} {L : Addr} {front back all : Led} {m' m1 : Str → Option Value} {x : Str} {d : Dat} {mv : Value} (extra : Led) (F : Fr h₀ L h' m') (N : News h₀ L h' all)
    (hm : ∀ z, m' z = if z = x then some mv else m1 z) (hs : all = extra ++ (front ++ back)) (hd : DatIn extra mv d) (hx : Dis extra (front ++ back)) : MoreQ h₀ L front back m1 x d s₁ .next { s₁ with heap := h', toks := tk' } := by
  have e := funext hm
  subst e hs
  refine ⟨rfl, h', tk', mv, extra, rfl, F, news_sub N ?_, hd, hx⟩
  intro p hp
  simp only [List.mem_append] at hp ⊢
  rcases hp with hp | hp | hp
  · exact .inr (.inl hp)
  · exact .inl hp
  · exact .inr (.inr hp)
def IfMark : Prop := True
theorem more_give {c : Prop} [Decidable c] {a R : Option Value} : (if c then a else R) = if c then a else (if c then a else R) := by split <;> rfl
theorem more_if {x : Str} {a b : Option Value} {m1 : Str → Option Value} {z : Str} (h : ∀ z, m1 z = if z = x then b else m1 z) : (if z = x then a else if z = x then b else m1 z) = if z = x then a else m1 z := by
  rw [← h z]
end
theorem step_new2 {w : World} {h₀ h' : Heap} {L : Addr} {m : Str → Option Value} {all old pre acc X : Led} {s₁ : Shared} {tk' : Nat} {I C D la ta : Addr} {oI oC oD : Obj} {r : StepR} {tk tv tm : Tok} {op kk : Str} {dst val : Int} {n1 n2 : Nat} {i j : Nat} {ys : List Value}
    (he : StepGot r op dst la (.int 0 tm)) (F : Fr h₀ L h' m) (N : News h₀ L h' all) (hx : (r.x, instObj 31 r.dx) ∈ all) (hdx : (r.dx, stepObj w r) ∈ all)
    (hla : (la, listOf (List.toArray [Value.ref ta]) n1) ∈ all) (hta : (ta, ({ cls := .type "tuple", data := .seq (List.toArray [Value.str kk tk, .int val tv]) n2 } : Obj)) ∈ all)
    (hsub : ∀ p ∈ (I, oI) :: (C, oC) :: (D, oD) :: (pre ++ (acc ++ X)), p ∈ all) (hdis : ∀ o1 o2 o3 o4 : Obj, Dis [(r.x, o1), (r.dx, o2), (la, o3), (ta, o4)] old)
    (hK : All2 (StepIn w acc) ys ((List.range j).map (rowAt i))) (hop : op = Str.ofString "const") (hkk : kk = Str.ofString "k") (hdst : dst = j) (hval : val = 10 * i + j) :
    NewEnd h₀ L m old s₁ I oI C oC D oD pre acc X (fun y acc' => All2 (StepIn w acc') (ys ++ [y]) ((List.range (j + 1)).map (rowAt i))) (.ref r.x) { s₁ with heap := h', toks := tk' } := by
  obtain ⟨x, dx, k1, k2, k3, k4, k5, k6, op', t1, dst', t2, la', mv', t6⟩ := r
  obtain ⟨rfl, rfl, rfl, rfl⟩ := he
  exact step_new F N hx hdx hla hta hsub hdis hK hop hkk hdst hval
theorem turn_end2 {w : World} {h₀ h' : Heap} {L : Addr} {m' m₀ : Str → Option Value} {stored : List Str} {all acc X extra news nd imm0 : Led} {s₁ : Shared} {tk' : Nat} {c I bx bdx la ls : Addr} {fr : FuncR} {o1 o2 oc oc' : Obj} {cv' : Option Value}
    {er : StepR} {k1 k2 k3 tn : Tok} {op : Str} {dst num : Int} {mv : Value} {avs ys : List Value} {na nl n i : Nat} {e1 : End} {es : List End} {recs : List BlockR} {imm : Led}
    (F : Fr h₀ L h' m') (N : News h₀ L h' all) (hm : ∀ z, stored.contains z = false → m' z = m₀ z)
    (hcell : oc'.data = .cell cv') (hc : (c, oc') ∈ all)
    (hbi : (bx, instObj 52 bdx) ∈ all) (hbd : (bdx, dictOf [ent w "number" k1 (.int num tn), ent w "steps" k2 (.ref ls), ent w "end" k3 (.ref er.x)] 3) ∈ all)
    (her : StepGot er op dst la mv) (hei : (er.x, instObj 31 er.dx) ∈ all) (hed : (er.dx, stepObj w er) ∈ all)
    (hlb : (fr.lb, listOf (List.toArray (refsOf recs ++ [.ref bx])) (n + 1)) ∈ all)
    (hla : (la, listOf (List.toArray avs) na) ∈ all) (hls : (ls, listOf (List.toArray ys) nl) ∈ all)
    (hsteps : All2 (StepIn w acc) ys ((List.range (i % 3)).map (rowAt i))) (hextra : ∀ p ∈ extra, p ∈ all) (hmore : DatIn extra mv (moreDat e1)) (hargs : DatAll nd avs e1.args)
    (hits : ∀ p ∈ [(I + 1, o1), (I, o2), (fr.x, instObj 73 fr.dx), (fr.dx, funcObj w fr)], p ∈ all) (haX : ∀ p ∈ acc ++ X, p ∈ all)
    (hX : (muts w recs ++ imm) ++ (imm0 ++ news) = X) (he : es[i]? = some e1) (hAll : All2 (BlockIs w (imm ++ (imm0 ++ nd))) recs (blocksFrom 0 (es.take i)))
    (hnd : ((muts w recs).map (·.1)).Nodup) (hdis : Dis (muts w recs) (imm ++ (imm0 ++ news))) (hown : OwnOff (muts w recs ++ imm) [fr.x, fr.dx, c, fr.lb]) (hdn : Dis (muts w recs ++ imm) news)
    (hop : op = e1.op) (hdst : dst = -1) (hnum : num = i)
    (hA : OwnOff (acc ++ X) [er.x, er.dx, la, ls]) (hAx : Dis extra (acc ++ X)) (hB : OwnOff X [bx, bdx]) (hdX : Dis acc X) (hda : OwnOff acc [bdx, I + 1, I, fr.x, fr.dx, c, fr.lb])
    (hE : ∀ a b d e : Obj, OwnOff ((bx, a) :: (er.x, b) :: (la, d) :: (ls, e) :: extra) [bdx, er.dx, fr.x, fr.dx, c, fr.lb, I + 1, I]) (hE2 : ∀ a b : Obj, OwnOff [(bdx, a), (er.dx, b)] [fr.x, fr.dx, c, fr.lb, I + 1, I]) (hne : @Ne Nat bdx er.dx) :
    TurnEndF h₀ L stored m₀ [(fr.x, instObj 73 fr.dx), (fr.dx, funcObj w fr)] ((c, oc) :: (fr.lb, listOf (List.toArray (refsOf recs)) n) :: (muts w recs ++ imm)) (imm0 ++ news) [(I + 1, o1), (I, o2)] s₁ (fun _ M => FuncInv w c fr imm0 news nd es (i + 1) M)
      { s₁ with heap := h', toks := tk' } := by
  obtain ⟨x, dx, k1, k2, k3, k4, k5, k6, op', t1, dst', t2, la', mv', t6⟩ := er
  obtain ⟨rfl, rfl, rfl, rfl⟩ := her
  exact turn_end F N hm hcell hc hbi hbd hei hed hlb hla hls hsteps hextra hmore hargs hits haX hX he hAll hnd hdis hown hdn hop hdst hnum hA hAx hB hdX hda hE hE2 hne
end Mine
namespace Mine
section
theorem kset9 : True := by
  k_with_none
  k_with "M gen" => ((fail_if_success (goal_lacks Mine.MidEnd Mine.MoreQ Mine.NewEnd Mine.TurnPostF PyProof.Rows.LCg.CompSrc PyProof.Rows.LCt.CompSrcT)); k_fold)
  k_with "M steps" => (repeat' (first | k_extra "M gen" | (k_unfold; (try dsimp only)) | (k_end; wrow_close) | walk1 | (dsimp only; walk1) | (leave1; walk_say "STEP leave1"; try dsimp only) | fail "no step"))
  k_with "M enterC" => ((refine' code_defC ?k1q17 ?k2q17 ?k3q17 ?k4q17 ?k5q17 ?kAq17 ?kFq17 ?kKq17 ?k6q17 ?k7q17 ?k8q17 ?k9q17 ?kBq17 ?kDq17 ?_ ?c2q17 ?c3q17 ?c4q17; (case kAq17 => exact rfl); (case kFq17 => exact rfl); (case kKq17 => assumption); (case k1q17 => k_asm); (case k2q17 => k_asm); (case k3q17 => k_asm); (case k4q17 => k_asm); (case k5q17 => k_asm); (case k6q17 => k_is); (case k7q17 => k_is); (case k8q17 => ktr_room); (case k9q17 => exact BindsTo.of_eq rfl); (case kBq17 => exact rfl); (case kDq17 => decide +kernel); (case c2q17 => exact rfl); (case c3q17 => exact rfl); (case c4q17 => exact rfl); k_whole; intro g'zq L'zq h'zq tk'zq cells'zq FG'zq F'zq N'zq Y'zq B'zq X'zq T'zq l1zq; k_cells Y'zq; (try simp only [List.cons_append, List.nil_append] at N'zq); (try dsimp only); (try k_fold)))
  k_with "M enter" => ((refine' code_def ?k1q18 ?k2q18 ?k3q18 ?k4q18 ?k5q18 ?kAq18 ?kFq18 ?kKq18 ?k6q18 ?k7q18 ?k8q18 ?k9q18 ?kBq18 ?_ ?c2q18 ?c3q18 ?c4q18 ?c5q18; (case kAq18 => exact rfl); (case kFq18 => exact rfl); (case kKq18 => first | exact rfl | assumption); (case k1q18 => k_asm); (case k2q18 => k_asm); (case k3q18 => k_asm); (case k4q18 => k_asm); (case k5q18 => k_asm); (case k6q18 => k_is); (case k7q18 => k_is); (case k8q18 => ktr_room); (case k9q18 => exact BindsTo.of_eq rfl); (case c5q18 => decide); (case kBq18 => exact locs rfl); (case c2q18 => exact rfl); (case c3q18 => exact rfl); (case c4q18 => exact rfl); k_whole; intro g'zq L'zq h'zq FG'zq F'zq N'zq B'zq X'zq T'zq; (try dsimp only); (try k_fold)))
  k_with "M mem" => (first | exact mem_hd | (with_reducible refine mem_tl ?_; k_extra "M mem") | with_reducible assumption | (with_reducible refine mem_apr ?_; k_extra "M mem") | (with_reducible refine mem_apl ?_; k_extra "M mem"))
  k_with "M ne" => ((refine neN ?_; (try dsimp only); first | exact Nat.ne_of_lt (by with_reducible assumption) | exact Nat.ne_of_gt (by with_reducible assumption) | with_reducible assumption | exact Ne.symm (by with_reducible assumption) | omega))
  k_with "M all" => (first | exact List.forall_mem_nil _ | with_reducible assumption | (with_reducible refine' List.forall_mem_cons.mpr ⟨?aq21, ?bq21⟩; (case aq21 => k_extra "M ne"); (case bq21 => k_extra "M all")) | (refine' allLt_ne ?dAq21; (case dAq21 => with_reducible assumption)) | (refine' off1_ne ?dAq21; (case dAq21 => with_reducible assumption)) | (refine' OwnOff.ne ?dAq21 ?dBq21; (case dAq21 => with_reducible assumption); (case dBq21 => k_memK)) | (refine' ne_app ?nAq21 ?nBq21; (case nAq21 => k_extra "M all"); (case nBq21 => k_extra "M all")) | (refine' dis_ne ?dAq21 ?dBq21; (case dAq21 => with_reducible assumption); (case dBq21 => k_extra "M mem")) | (refine' allLt_app ?dAq21; (case dAq21 => with_reducible assumption)) | (refine' allLt_apl ?dAq21; (case dAq21 => with_reducible assumption)) | (refine' allLt_ne_lt ?dAq21 ?dBq21; (case dAq21 => with_reducible assumption); (case dBq21 => with_reducible assumption)))
  k_with "newList" => ((k_here; k_dflt (refine' newList_K ?k1q22 ?k2q22 ?_; (case k1q22 => k_asm); (case k2q22 => k_asm); k_whole); intro l'zq h'zq F'zq N'zq l1zq; (try k_lt l1zq); (try k_sweep); k_extra "M split"))
  k_with "newTuple" => ((k_here; k_dflt (refine' kup_newTuple ?Fq23 ?Nq23 ?_ ?zq23; (case Fq23 => k_asm); (case Nq23 => k_asm); (case zq23 => kmk_size)); intro D'zq h'zq F'zq N'zq l1zq; (try k_lt l1zq); (try k_sweep); k_extra "M split"))
  k_with "call type:list" => ((k_here; (with_reducible show wpAny _ _ (call (Value.type _) [Value.ref _]) _ _ _); k_dflt (first | (refine' list_copyK ?k1q24 ?k2q24 ?k3q24 ?_ ?zq24; (case k1q24 => k_asm); (case k2q24 => k_asm); (case k3q24 => exact News.isList (by k_asm) (by k_extra "M mem")); (case zq24 => first | exact Nat.le_of_ble_eq_true rfl | (rw [List.size_toArray, sizeLine_eq]; omega) | exact kmk_sz (by with_reducible assumption) (by rw [sizeLine_eq]; omega)); k_whole) | (refine' list_copyKT ?k1q24 ?k2q24 ?k3q24 ?_ ?zq24; (case k1q24 => k_asm); (case k2q24 => k_asm); (case k3q24 => exact News.isTup (by k_asm) (by k_extra "M mem")); (case zq24 => exact Nat.le_of_ble_eq_true rfl); k_whole)); intro D'zq c'zq h'zq F'zq N'zq l1zq; (try k_lt l1zq); (try k_sweep); k_extra "M split"))
  k_with "M own" => (first | exact own_nil | (refine own_cons ?oAq25 ?oBq25; (case oAq25 => k_extra "M all"); (case oBq25 => k_extra "M own")))
  k_with "M dis" => (first | exact dis_nil | (refine dis_cons ?dAq26 ?dBq26; (case dAq26 => k_extra "M all"); (case dBq26 => k_extra "M dis")))
  k_with "M split" => (repeat ((with_reducible rename (_ ∧ _) => hc9zq); have hc9azq := hc9zq.1; have hc9bzq := hc9zq.2; clear hc9zq))
  k_with "M eq" => (first | exact eqs0 | exact eqs1 | exact eqs2 | exact eqs3 | exact eqs4 | exact eqs5 | exact eqs6 | exact eqs7 | exact eqs8 | exact eqs9 | exact eqs10 | exact eqs11 | exact eqs12 | exact eqs13 | exact eqs14 | exact eqs15 | exact eqs16)
  k_with "M tails" => ((intro pzq hpzq; (try dsimp only [List.cons_append, List.nil_append] at hpzq ⊢); repeat (first | with_reducible exact hpzq | with_reducible exact mem_apl hpzq | with_reducible refine List.mem_cons_of_mem _ ?_ | with_reducible refine mem_apr ?_)))
  k_with "M at" => (first | exact mem_hd | (refine mem_tl ?_; k_extra "M at"))
  k_with "M same" => ((intro zzq hzzq; (try dsimp only); (repeat (refine Eq.trans (same_if rfl hzzq) ?_)); first | exact same_frm hzzq | rfl))
  k_with "M clear" => (((repeat ((with_reducible rename (@LT.lt Nat _ _ _) => zzzq); clear zzzq)); (repeat ((with_reducible rename (AllLt _ _) => zzzq); clear zzzq))))
  k_with "M use" => (((case c1 => k_asm); (case c2 => k_asm); (case c3 => k_asm); (case c4 => k_asm); (case c5 => k_asm); (case c6 => first | exact rfl | assumption); (case c7 => ktr_room); (case c8 => ktr_units); k_whole))
  k_with "call builtin:list.append" => ((k_here; k_dflt (refine' append_any ?k1q34 ?k2q34 ?k3q34 ?k4q34 ?_; (case k1q34 => k_asm); (case k2q34 => k_asm); (case k3q34 => k_upd); (case k4q34 => with_reducible assumption)); intro h'zq F'zq N'zq))
  k_with "call builtin:len" => ((k_here; (with_reducible show wpAny _ _ (call (Value.builtin "len") [Value.ref _]) _ _ _); k_dflt (refine' kun_lenL ?k1q35 ?k2q35 ?k3q35 ?_; (case k1q35 => exact News.isList (by k_asm) (by k_extra "M mem")); (case k2q35 => with_reducible assumption); (case k3q35 => omega); k_whole)))
  k_with "binaryOp Add ref ref" => ((k_here; (with_reducible show wpAny _ _ (binaryOp _ (Value.ref _) (Value.ref _)) _ _ _); k_dflt (refine' kmk_add_ints ?Fq36 ?Nq36 ?aq36 ?bq36 ?iq36 ?jq36 ?_ ?zq36; (case Fq36 => k_asm); (case Nq36 => k_asm); (case aq36 => exact News.isList (by k_asm) (by k_extra "M mem")); (case bq36 => exact News.isList (by k_asm) (by k_extra "M mem")); (case iq36 => with_reducible assumption); (case jq36 => exact .cons _ _ .nil); (case zq36 => rw [sizeLine_eq, List.length_singleton]; omega)); intro D'zq ws'zq h'zq F'zq N'zq l1zq hI'zq; (try k_lt l1zq); (try k_sweep); k_extra "M split"))
  k_with "call ref" => ((k_here; k_dflt (refine' call_cls ?k1q38 ?k2q38 ?k3q38 ?k4q38 ?k5q38 ?k6q38 ?_; (case k1q38 => k_asm); (case k2q38 => k_asm); (case k3q38 => k_asm); (case k4q38 => k_is); (case k5q38 => k_is); (case k6q38 => k_is); k_whole; intro x'zq d'zq h'zq F'zq N'zq l1zq l2zq; (try k_lt l1zq); (try k_lt2 l2zq); (try k_sweep); k_extra "M split"; k_extra "M enter")))
  k_with "call ref" => ((k_here; (with_reducible show wpAny _ _ (call (Value.ref 31) _ _) _ _ _); k_dflt (refine' step_use ?k1q39 ?k2q39 ?k3q39 ?k4q39 ?k5q39 ?k6q39 ?k7q39 ?k8q39 ?_; (case k1q39 => k_asm); (case k2q39 => k_asm); (case k3q39 => k_asm); (case k4q39 => k_asm); (case k5q39 => k_asm); (case k6q39 => first | exact rfl | assumption); (case k7q39 => ktr_room); (case k8q39 => ktr_units); k_whole); intro r'zq h'zq tk'zq F'zq N'zq l1zq l2zq l3zq e1zq; (try k_lt l1zq); (try k_lt l2zq); (try dsimp only); (try k_fold); (try k_sweep); k_extra "M split"))
  k_with "call ref" => ((k_here; (with_reducible show wpAny _ _ (call (Value.ref 52) _ _) _ _ _); k_dflt (refine' block_use ?k1q40 ?k2q40 ?k3q40 ?k4q40 ?k5q40 ?k6q40 ?k7q40 ?k8q40 ?_; (case k1q40 => k_asm); (case k2q40 => k_asm); (case k3q40 => k_asm); (case k4q40 => k_asm); (case k5q40 => k_asm); (case k6q40 => first | exact rfl | assumption); (case k7q40 => ktr_room); (case k8q40 => ktr_units); k_whole); intro x'zq d'zq l'zq k1'zq k2'zq k3'zq tn'zq h'zq tk'zq F'zq N'zq l1zq l2zq l3zq e1zq; (try k_lt l1zq); (try k_lt l2zq); (try k_lt l3zq); (try dsimp only); (try k_fold); (try k_sweep); k_extra "M split"))
  k_with "exec For Tuple Call cons nil" => (refine Stop.mk ?_)
  k_with "exec For Tuple Call" => (refine Stop.mk ?_)
  k_with "exec Assign cons ListComp" => ((k_here; with_reducible refine plainObj_wpAny_Assign_Attribute ?_ ?_; rotate_left; with_unfolding_all rfl))
  k_with "subscriptTail Name Constant ref int" => ((k_here; k_dflt (refine' ksa_sub ?k1q44 ?k2q44 ?k3q44 ?k4q44 ?k5q44 ?k6q44 ?_ ?k7q44; (case k1q44 => k_asm); (case k2q44 => k_mem); (case k3q44 => with_reducible assumption); (case k4q44 => decide); (case k5q44 => first | decide | (simp only [List.length_append, List.length_cons, List.length_nil]; omega)); (case k6q44 => decide); (case k7q44 => with_unfolding_all rfl); k_whole); intro _))
  k_with "call type:enumerate" => (refine Stop.mk ?_)
  k_with "CompSrc" => (refine Stop.mk ?_)
  k_with "subscriptTail Name Slice ref ref" => ((k_here; k_dflt (refine' kmk_slice_ints ?Fq47 ?Nq47 ?lq47 ?pq47 ?qq47 ?iq47 ?mq47 ?cq47 ?_ ?sq47 ?tq47 ?zq47; (case Fq47 => k_asm); (case Nq47 => k_asm); (case lq47 => exact News.isList (by k_asm) (by k_extra "M mem")); (case pq47 => kmk_part); (case qq47 => kmk_part); (case iq47 => with_reducible assumption); (case mq47 => exact kmk_upto_neg (by with_reducible assumption) (by decide)); (case cq47 => exact rfl); (case sq47 => with_unfolding_all rfl); (case tq47 => kmk_pure); (case zq47 => exact kmk_sz (by with_reducible assumption) (by rw [sizeLine_eq]; omega))); intro D'zq ws'zq h'zq F'zq N'zq l1zq hI'zq hC'zq hL'zq; (try rw [slice_last] at hI'zq); (try k_lt l1zq); (try k_sweep); k_extra "M split"))
  k_with "subscriptTail Name UnaryOp ref int" => ((k_here; k_dflt (refine' item_list_ints_neg ?k1q48 ?k2q48 ?k3q48 ?k4q48 ?k5q48 ?_; (case k1q48 => exact News.isList (by k_asm) (by k_extra "M mem")); (case k2q48 => with_reducible assumption); (case k3q48 => decide); (case k4q48 => exact last_ok _ _); (case k5q48 => decide)); intro _; (try simp only [last_item])))
  k_with "M mem4" => ((intro pzq hpzq; rcases List.mem_cons.mp hpzq with ezq | hpzq; (rw [ezq]; k_extra "M mem"); rcases List.mem_cons.mp hpzq with ezq | hpzq; (rw [ezq]; k_extra "M mem"); rcases List.mem_cons.mp hpzq with ezq | hpzq; (rw [ezq]; k_extra "M mem"); rw [List.mem_singleton.mp hpzq]; k_extra "M mem"))
  k_with "exec If" => (((with_reducible rename IfMark => ifm9zq); refine Stop.mk ?_))
  trivial
set_option maxRecDepth 100000 in
set_option maxHeartbeats 8000000 in
theorem func_ctr (w : World) (le : Addr) (vs : List Value) (e : Nat) (es : List End) (news nd : Led) (hsn : ∀ p ∈ nd, p ∈ news) (hl : (le, listOf vs.toArray e) ∈ news) (hda : DatAll nd vs (es.map endDat)) (hn : es.length ≤ 5) (hok : ∀ x ∈ es, x.goals.length ≤ 4) :
    Ctr w 118 4 [.ref le] news (FuncPost w news nd (blocksFrom 0 es)) := by
  unfold Ctr
  k_fill
  w_top off
  intro p loose mean mg mb dp un gd cn cs a ccd cl outer A₀ base h₀ L m s Q E BB F X N T hk hd hu hret
  refine wpAny_call ?_
  k_dflt k_extra "M enterC"
  rename (∀ p : Addr × Obj, p ∈ _ → p.1 < _) => l1
  obtain ⟨Lc, eLc, l1'⟩ : ∃ Lc, Lc = _ ∧ ∀ p ∈ news, p.1 < Lc := ⟨_, rfl, l1⟩
  subst eLc
  clear l1
  have l1c := allLt_up l1' (Nat.le_succ _)
  k_extra "M steps"
  refine Stop.go ?_
  k_extra "M split"
  refine' func_pack (w := w) (news := news) ?N ?cell ?hi ?hd ?hp ?hs ?ht ?hb ?hc ?hn ?own ?own2 ?hne ?k
  case N => k_asm
  case cell => assumption
  case hi => k_mem
  case hd => k_mem
  case hp => k_mem
  case hs => k_mem
  case ht => k_mem
  case hb => k_mem
  case hc => k_mem
  case hn => intro p hp; repeat (first | exact hp | refine List.mem_cons_of_mem _ ?_)
  case own => intro o1 o2 o3; k_extra "M own"
  case own2 => intro o1 o2 o3; k_extra "M dis"
  case hne => exact ⟨⟨by omega, by omega, by omega⟩, ⟨by omega, by omega⟩, by omega⟩
  intro fr imm0 c oc cv ec eoc hcell ex elb hfo Nf own0 dis0 ne0 ne1 ne2
  subst ec eoc ex elb
  refine For_turns (by k_asm) ?_
  k_extra "M steps"
  refine Stop.go ?_
  refine ktu_enum (by rfl) (by k_asm) Nf (.tail _ (.tail _ (.tail _ (.tail _ (List.mem_append.mpr (.inr hl)))))) rfl rfl rfl ?_
  intro I hI
  try dsimp only
  refine' items_fr [Str.ofString "end", Str.ofString "op", Str.ofString "args", Str.ofString "low", Str.ofString "goals", Str.ofString "block", Str.ofString "more"] [(fr.x, instObj 73 fr.dx), (fr.dx, funcObj w fr)] [(Lc + 1, oc), (fr.lb, listOf (List.toArray []) 0)] (imm0 ++ news)
    (fun i _ M => FuncInv w (Lc + 1) fr imm0 news nd es i M) ?hn ?h0 ?hk ?hoff ?hstep ?hfin
  case hn => exact rfl
  case h0 => exact ⟨oc, cv, [], [], 0, rfl, hcell, .nil, List.nodup_nil, (fun _ h => nomatch h), (fun _ h => nomatch h), (fun _ h => nomatch h)⟩
  case hk =>
    intro M
    refine ⟨?_, trivial⟩
    exact List.mem_append.mpr (.inr (List.mem_append.mpr (.inr (List.mem_append.mpr (.inr hl)))))
  case hoff =>
    intro p hp q hq
    have h1 := hI p hp
    rcases List.mem_cons.mp hq with rfl | hq
    · exact Nat.ne_of_lt (Nat.lt_succ_of_lt h1)
    · rw [List.mem_singleton.mp hq]; exact Nat.ne_of_lt h1
  case hstep =>
    rintro i u M a9 v h tk its hx ha ⟨oc, cv, recs, imm, n, rfl, hcell, hAll, hnd, hdis, hown, hdn⟩ ho off F N
    obtain ⟨v1, hv1, rfl⟩ := enumItems_inv hx
    obtain ⟨T, t, rfl, hT⟩ := ha
    obtain ⟨o1, o2, rfl⟩ := objs_two ho
    obtain ⟨d1, hd1, hdat⟩ := datAll_at hda hv1
    rw [List.getElem?_map] at hd1
    obtain ⟨e1, he1, rfl⟩ := Option.map_eq_some_iff.mp hd1
    obtain ⟨ae, la, lg, te, te2, n1, n2, n3, avs, gvs, rfl, hme, hmla, hargs, hmlg, hgoals⟩ := end_inv hdat
    have hiI : OwnOff ((muts w recs ++ imm) ++ (imm0 ++ news)) [fr.x, fr.dx, Lc + 1, fr.lb] := fun p hp => (List.mem_append.mp hp).elim (hown p) (own0 p)
    have ow : OwnOff ((fr.x, instObj 73 fr.dx) :: (fr.dx, funcObj w fr) :: (Lc + 1, oc) :: (fr.lb, listOf (List.toArray (refsOf recs)) n) :: ((muts w recs ++ imm) ++ (imm0 ++ news))) [I + 1, I] := by
      intro p hp b hb
      rcases List.mem_cons.mp hb with rfl | hb
      · exact off p (by simpa using hp) _ (.head _)
      · rw [List.mem_singleton.mp hb]; exact off p (by simpa using hp) _ (.tail _ (.head _))
    have ow1 : OwnOff ((muts w recs ++ imm) ++ (imm0 ++ news)) [I + 1, I] := fun p hp => ow p (.tail _ (.tail _ (.tail _ (.tail _ hp))))
    have f1 : (@Ne Nat fr.x (I + 1)) ∧ (@Ne Nat fr.x I) := ⟨ow _ (.head _) _ (.head _), ow _ (.head _) _ (.tail _ (.head _))⟩
    have f2 : (@Ne Nat fr.dx (I + 1)) ∧ (@Ne Nat fr.dx I) := ⟨ow _ (.tail _ (.head _)) _ (.head _), ow _ (.tail _ (.head _)) _ (.tail _ (.head _))⟩
    have f3 : (@Ne Nat (Lc + 1) (I + 1)) ∧ (@Ne Nat (Lc + 1) I) := ⟨ow _ (.tail _ (.tail _ (.head _))) _ (.head _), ow _ (.tail _ (.tail _ (.head _))) _ (.tail _ (.head _))⟩
    have f4 : (@Ne Nat fr.lb (I + 1)) ∧ (@Ne Nat fr.lb I) := ⟨ow _ (.tail _ (.tail _ (.tail _ (.head _)))) _ (.head _), ow _ (.tail _ (.tail _ (.tail _ (.head _)))) _ (.tail _ (.head _))⟩
    have ow6 : OwnOff ((muts w recs ++ imm) ++ (imm0 ++ news)) [I + 1, I, fr.x, fr.dx, Lc + 1, fr.lb] := own_cons (fun p hp => ow1 p hp _ (.head _)) (own_cons (fun p hp => ow1 p hp _ (.tail _ (.head _))) hiI)
    clear off ow ho hx ow1 hiI
    dsimp only [List.cons_append, List.nil_append] at N
    generalize hX : (muts w recs ++ imm) ++ (imm0 ++ news) = X at N ow6
    have hsub : ∀ p ∈ nd, p ∈ X := by intro p hp; rw [← hX]; exact List.mem_append.mpr (.inr (List.mem_append.mpr (.inr (hsn p hp))))
    replace hme := hsub _ hme
    replace hmla := hsub _ hmla
    replace hmlg := hsub _ hmlg
    dsimp only at hT
    rw [Nat.zero_add] at hT
    have hi5 : i < 5 := by
      have := (List.getElem?_eq_some_iff.mp he1).1
      omega
    have hz5 : (refsOf recs).length ≤ 1000 := refs_len hAll hn
    k_extra "M steps"
    refine Stop.go ?_
    refine LCg.CompSrc.range (by rfl) (by k_asm) (by k_asm) (by assumption) ?cs1 (rangeSize_nat _ _) ?cs2 ?cs3
    case cs1 => exact small_one (by decide) (by decide) (Int.le_trans (by decide) (fmod_lo _ (by decide))) (Int.lt_trans (fmod_hi _ (by decide)) (by decide))
    case cs2 =>
      have q := fmod_hi (i : Int) (show (0 : Int) < 3 by decide)
      rw [sizeLine_eq]; omega
    intro g9
    refine' comp_new _ X (fun j ys acc => All2 (StepIn w acc) ys ((List.range j).map (rowAt i))) ?gn ?g0 ?gS ?gstep ?gfin
    case gn => k_extra "M eq"
    case g0 => exact .nil
    case gS => intro M; trivial
    case gstep =>
      rintro j ys acc v I9 oI C oC D m₂ h tk E' hj hK ⟨t9, ht9⟩ hC hx F N off ne hdd
      subst ht9
      dsimp only [List.cons_append, List.nil_append] at N off hdd
      k_extra "M steps"
      refine' step_new2 ?she ?sF ?sN ?sx ?sdx ?sla ?sta ?ssub ?sdis hK rfl rfl ?sdst ?sval
      case she => assumption
      case sF => k_asm
      case sN => k_asm
      case sx => k_mem
      case sdx => k_mem
      case sla => k_mem
      case sta => k_mem
      case ssub => exact fun p hp => .tail _ (.tail _ (.tail _ (.tail _ hp)))
      case sdis =>
        intro o1 o2 o3 o4
        dsimp only [List.cons_append, List.nil_append]
        k_extra "M split"
        k_extra "M dis"
      case sdst => omega
      case sval => omega
    intro ys acc hK hdd
    rw [fmod3] at hK
    unfold LCg.FinE
    intro D9 h9 tk9 F9 N9 o9
    dsimp only [List.cons_append, List.nil_append] at N9 hdd
    simp only [LCg.Off1, List.cons_append, List.nil_append] at o9
    dsimp only
    try k_fold
    have ifm : IfMark := trivial
    k_extra "M steps"
    refine Stop.go ?_
    (with_reducible rename IfMark => ifm8); clear ifm8
    k_extra "M split"
    refine' more_join (acc ++ X) (Str.ofString "more") (moreDat e1) ?jF ?jN ?je ?jwalk ?jk
    case jF => k_asm
    case jN => k_asm
    case je => k_extra "M eq"
    case jwalk =>
      have hgl : e1.goals.length ≤ 4 := hok _ (List.mem_of_getElem? he1)
      cases e1 with
      | jump g =>
        clear hargs
        rename (Fr _ _ _ _) => Fz
        dsimp only [End.op, End.low, End.goals] at hme hgoals Fz
        k_extra "M steps"
        refine' more_end [] ?aF ?aN ?am ?as ?ad ?ax
        case aF => k_asm
        case aN => k_asm
        case am => exact fun _ => rfl
        case as => exact rfl
        case ad => exact .int _ _
        case ax => exact dis_nil
      | give v5 =>
        clear hargs
        rename (Fr _ _ _ _) => Fz
        dsimp only [End.op, End.low, End.goals] at hme hgoals Fz
        k_extra "M steps"
        refine' more_end [] ?bF ?bN ?bm ?bs ?bd ?bx
        case bF => k_asm
        case bN => k_asm
        case bm => exact fun _ => more_give
        case bs => exact rfl
        case bd => exact .int _ _
        case bx => exact dis_nil
      | branch v5 g0 g1 =>
        clear hargs
        rename (Fr _ _ _ _) => Fz
        dsimp only [End.op, End.low, End.goals] at hme hgoals Fz
        k_extra "M steps"
        refine' more_end [(_, { cls := .type "tuple", data := .seq (List.toArray [Value.int _ _, .int _ _]) _ })] ?cF ?cN ?cm ?cs ?cd ?cx
        case cF => k_asm
        case cN => k_asm
        case cm => exact fun _ => rfl
        case cs => exact rfl
        case cd => exact .tuple mem_hd (.cons (.int _ _) (.cons (.int _ _) .nil))
        case cx =>
          dsimp only [List.cons_append, List.nil_append]
          k_extra "M dis"
      | table v5 low gs g =>
        clear hargs
        rename (Fr _ _ _ _) => Fz
        dsimp only [End.op, End.low, End.goals] at hme hgoals Fz
        dsimp only [End.goals] at hgl
        k_extra "M steps"
        refine' more_end (tabExtra _ _ _ _ _ _ _ _ _) ?dF ?dN ?dm ?ds ?dd ?dx
        case dF => k_asm
        case dN => k_asm
        case dm => exact fun _ => rfl
        case ds => exact rfl
        case dd => exact .tuple mem_hd (.cons (.int _ _) (.cons (.list (mem_tl mem_hd) (datAll_intDats (by assumption))) (.cons (.int _ _) .nil)))
        case dx =>
          dsimp only [List.cons_append, List.nil_append]
          k_extra "M dis"
    case jk =>
      intro mv extra hx tkx Fx Nx hmv hdx
      have hav : avs.length ≤ 1 := by rw [hargs.length]; exact args_len e1
      dsimp only [List.cons_append, List.nil_append] at Nx hdx
      try dsimp only
      try k_fold
      k_extra "M steps"
      k_extra "M split"
      refine turn_next ?_
      refine' turn_end2 (acc := acc) (extra := extra) ?eF ?eN ?em ?ecell ?ec ?ebi ?ebd ?her ?eei ?eed ?elb ?ela ?els ?est ?eextra ?emore ?eargs ?eits ?eaX ?xX ?xe ?xA ?xnd ?xdis ?xown ?xdn ?xop ?xdst ?xnum ?eA ?eAx ?eB ?edX ?eda ?eE ?eE2 ?ene
      case xX => exact hX
      case xe => exact he1
      case xA => exact hAll
      case xnd => exact hnd
      case xdis => exact hdis
      case xown => exact hown
      case xdn => exact hdn
      case eF => k_asm
      case eN => k_asm
      case emore => exact hmv
      case eargs => exact hargs
      case her => with_reducible assumption
      case em => k_extra "M same"
      case ela => k_extra "M mem"
      case ebi => k_extra "M mem"
      case ebd => k_extra "M mem"
      case eei => k_extra "M mem"
      case eed => k_extra "M mem"
      case elb => k_extra "M mem"
      case els => k_extra "M mem"
      case ec => k_extra "M mem"
      case ecell =>
        first | rfl | assumption
      case est => with_reducible assumption
      case xop => rfl
      case xdst => rfl
      case xnum => rfl
      case eextra => k_extra "M tails"
      case eits => k_extra "M mem4"
      case eaX => k_extra "M tails"
      case eAx => exact fun p hp q hq => hdx p hp q (by revert hq; revert q; k_extra "M tails")
      case edX => exact fun p hp q hq => hdd p hp q (by revert hq; revert q; k_extra "M tails")
      case eA => k_extra "M own"
      case eB => k_extra "M own"
      case eda => k_extra "M own"
      case eE => intro a b d e; k_extra "M own"
      case eE2 => intro a b; k_extra "M own"
      case ene => k_extra "M ne"
  case hfin =>
    intro u M h tk hK F N
    have el : (enumItems 0 vs).length = es.length := by rw [enumItems_len, hda.length, List.length_map]
    rw [el] at hK
    obtain ⟨news', N', P⟩ := func_fin hK N hfo own0 dis0 ⟨ne0.1, ne0.2.1, ne0.2.2⟩ ⟨ne1.1, ne1.2⟩
    clear N
    k_extra "M steps"
    exact hret _ _ _ _ (by k_asm) (by k_asm) P
end
end Mine
namespace Mine
abbrev tupOf (its : Array Value) (k : Nat) : Obj := { cls := .type "tuple", data := .seq its k }
section
variable {prog : Program} {w : World} {A : Around} {E : Value → Shared → Prop} {s : Shared} {h₀ : Heap} {L : Addr} {m : Str → Option Value} {env : Env}
/-- a comprehension over a tuple of the ledger -/
def CompTup (prog : Program) (w : World) (A : Around) (h₀ : Heap) (L : Addr) (m : Str → Option Value) (env : Env) (elt : Expr) (x : Str) (scope : Scope) (cl : List (Str × Addr)) (Fin : Shared → List Value → Led → Prop) (xv : Value) (s₁ : Shared) : Prop :=
  ∃ ax its k news, xv = .ref ax ∧ A.handled = none ∧ Fr h₀ L s₁.heap m ∧ News h₀ L s₁.heap news ∧ (ax, tupOf its k) ∈ news ∧ its.size ≤ sizeLine ∧
    ∀ g, LCg.CompRest prog w A h₀ L m env elt x scope cl { s₁ with heap := g } (fun n => (ax, tupOf its k) ∈ n) (fun i v => its[i]? = some v) (Fin { s₁ with heap := g }) its.size 0 [] news
theorem kset10 : True := by
  k_with_none
  k_with "M gen" => ((fail_if_success (goal_lacks Mine.MidEnd Mine.MoreQ Mine.NewEnd Mine.TurnPostF PyProof.Rows.LCg.CompSrc PyProof.Rows.LCt.CompSrcT)); k_fold)
  k_with "M steps" => (repeat' (first | k_extra "M gen" | (k_unfold; (try dsimp only)) | (k_end; wrow_close) | walk1 | (dsimp only; walk1) | (leave1; walk_say "STEP leave1"; try dsimp only) | fail "no step"))
  k_with "M enterC" => ((refine' code_defC ?k1q17 ?k2q17 ?k3q17 ?k4q17 ?k5q17 ?kAq17 ?kFq17 ?kKq17 ?k6q17 ?k7q17 ?k8q17 ?k9q17 ?kBq17 ?kDq17 ?_ ?c2q17 ?c3q17 ?c4q17; (case kAq17 => exact rfl); (case kFq17 => exact rfl); (case kKq17 => assumption); (case k1q17 => k_asm); (case k2q17 => k_asm); (case k3q17 => k_asm); (case k4q17 => k_asm); (case k5q17 => k_asm); (case k6q17 => k_is); (case k7q17 => k_is); (case k8q17 => ktr_room); (case k9q17 => exact BindsTo.of_eq rfl); (case kBq17 => exact rfl); (case kDq17 => decide +kernel); (case c2q17 => exact rfl); (case c3q17 => exact rfl); (case c4q17 => exact rfl); k_whole; intro g'zq L'zq h'zq tk'zq cells'zq FG'zq F'zq N'zq Y'zq B'zq X'zq T'zq l1zq; k_cells Y'zq; (try simp only [List.cons_append, List.nil_append] at N'zq); (try dsimp only); (try k_fold)))
  k_with "M enter" => ((refine' code_def ?k1q18 ?k2q18 ?k3q18 ?k4q18 ?k5q18 ?kAq18 ?kFq18 ?kKq18 ?k6q18 ?k7q18 ?k8q18 ?k9q18 ?kBq18 ?_ ?c2q18 ?c3q18 ?c4q18 ?c5q18; (case kAq18 => exact rfl); (case kFq18 => exact rfl); (case kKq18 => first | exact rfl | assumption); (case k1q18 => k_asm); (case k2q18 => k_asm); (case k3q18 => k_asm); (case k4q18 => k_asm); (case k5q18 => k_asm); (case k6q18 => k_is); (case k7q18 => k_is); (case k8q18 => ktr_room); (case k9q18 => exact BindsTo.of_eq rfl); (case c5q18 => decide); (case kBq18 => exact locs rfl); (case c2q18 => exact rfl); (case c3q18 => exact rfl); (case c4q18 => exact rfl); k_whole; intro g'zq L'zq h'zq FG'zq F'zq N'zq B'zq X'zq T'zq; (try dsimp only); (try k_fold)))
  k_with "M mem" => (first | exact mem_hd | (with_reducible refine mem_tl ?_; k_extra "M mem") | with_reducible assumption | (with_reducible refine mem_apr ?_; k_extra "M mem") | (with_reducible refine mem_apl ?_; k_extra "M mem"))
  k_with "M ne" => ((refine neN ?_; (try dsimp only); first | exact Nat.ne_of_lt (by with_reducible assumption) | exact Nat.ne_of_gt (by with_reducible assumption) | with_reducible assumption | exact Ne.symm (by with_reducible assumption) | omega))
  k_with "M all" => (first | exact List.forall_mem_nil _ | with_reducible assumption | (with_reducible refine' List.forall_mem_cons.mpr ⟨?aq21, ?bq21⟩; (case aq21 => k_extra "M ne"); (case bq21 => k_extra "M all")) | (refine' allLt_ne ?dAq21; (case dAq21 => with_reducible assumption)) | (refine' off1_ne ?dAq21; (case dAq21 => with_reducible assumption)) | (refine' OwnOff.ne ?dAq21 ?dBq21; (case dAq21 => with_reducible assumption); (case dBq21 => k_memK)) | (refine' ne_app ?nAq21 ?nBq21; (case nAq21 => k_extra "M all"); (case nBq21 => k_extra "M all")) | (refine' dis_ne ?dAq21 ?dBq21; (case dAq21 => with_reducible assumption); (case dBq21 => k_extra "M mem")) | (refine' allLt_app ?dAq21; (case dAq21 => with_reducible assumption)) | (refine' allLt_apl ?dAq21; (case dAq21 => with_reducible assumption)) | (refine' allLt_ne_lt ?dAq21 ?dBq21; (case dAq21 => with_reducible assumption); (case dBq21 => with_reducible assumption)))
  k_with "newList" => ((k_here; k_dflt (refine' newList_K ?k1q22 ?k2q22 ?_; (case k1q22 => k_asm); (case k2q22 => k_asm); k_whole); intro l'zq h'zq F'zq N'zq l1zq; (try k_lt l1zq); (try k_sweep); k_extra "M split"))
  k_with "newTuple" => ((k_here; k_dflt (refine' kup_newTuple ?Fq23 ?Nq23 ?_ ?zq23; (case Fq23 => k_asm); (case Nq23 => k_asm); (case zq23 => kmk_size)); intro D'zq h'zq F'zq N'zq l1zq; (try k_lt l1zq); (try k_sweep); k_extra "M split"))
  k_with "call type:list" => ((k_here; (with_reducible show wpAny _ _ (call (Value.type _) [Value.ref _]) _ _ _); k_dflt (first | (refine' list_copyK ?k1q24 ?k2q24 ?k3q24 ?_ ?zq24; (case k1q24 => k_asm); (case k2q24 => k_asm); (case k3q24 => exact News.isList (by k_asm) (by k_extra "M mem")); (case zq24 => first | exact Nat.le_of_ble_eq_true rfl | (rw [List.size_toArray, sizeLine_eq]; omega) | exact kmk_sz (by with_reducible assumption) (by rw [sizeLine_eq]; omega)); k_whole) | (refine' list_copyKT ?k1q24 ?k2q24 ?k3q24 ?_ ?zq24; (case k1q24 => k_asm); (case k2q24 => k_asm); (case k3q24 => exact News.isTup (by k_asm) (by k_extra "M mem")); (case zq24 => exact Nat.le_of_ble_eq_true rfl); k_whole)); intro D'zq c'zq h'zq F'zq N'zq l1zq; (try k_lt l1zq); (try k_sweep); k_extra "M split"))
  k_with "M own" => (first | exact own_nil | (refine own_cons ?oAq25 ?oBq25; (case oAq25 => k_extra "M all"); (case oBq25 => k_extra "M own")))
  k_with "M dis" => (first | exact dis_nil | (refine dis_cons ?dAq26 ?dBq26; (case dAq26 => k_extra "M all"); (case dBq26 => k_extra "M dis")))
  k_with "M split" => (repeat ((with_reducible rename (_ ∧ _) => hc9zq); have hc9azq := hc9zq.1; have hc9bzq := hc9zq.2; clear hc9zq))
  k_with "M eq" => (first | exact eqs0 | exact eqs1 | exact eqs2 | exact eqs3 | exact eqs4 | exact eqs5 | exact eqs6 | exact eqs7 | exact eqs8 | exact eqs9 | exact eqs10 | exact eqs11 | exact eqs12 | exact eqs13 | exact eqs14 | exact eqs15 | exact eqs16)
  k_with "M tails" => ((intro pzq hpzq; (try dsimp only [List.cons_append, List.nil_append] at hpzq ⊢); repeat (first | with_reducible exact hpzq | with_reducible exact mem_apl hpzq | with_reducible refine List.mem_cons_of_mem _ ?_ | with_reducible refine mem_apr ?_)))
  k_with "M at" => (first | exact mem_hd | (refine mem_tl ?_; k_extra "M at"))
  k_with "M same" => ((intro zzq hzzq; (try dsimp only); (repeat (refine Eq.trans (same_if rfl hzzq) ?_)); first | exact same_frm hzzq | rfl))
  k_with "M clear" => (((repeat ((with_reducible rename (@LT.lt Nat _ _ _) => zzzq); clear zzzq)); (repeat ((with_reducible rename (AllLt _ _) => zzzq); clear zzzq))))
  k_with "M use" => (((case c1 => k_asm); (case c2 => k_asm); (case c3 => k_asm); (case c4 => k_asm); (case c5 => k_asm); (case c6 => first | exact rfl | assumption); (case c7 => ktr_room); (case c8 => ktr_units); k_whole))
  k_with "call builtin:list.append" => ((k_here; k_dflt (refine' append_any ?k1q34 ?k2q34 ?k3q34 ?k4q34 ?_; (case k1q34 => k_asm); (case k2q34 => k_asm); (case k3q34 => k_upd); (case k4q34 => with_reducible assumption)); intro h'zq F'zq N'zq))
  k_with "call builtin:len" => ((k_here; (with_reducible show wpAny _ _ (call (Value.builtin "len") [Value.ref _]) _ _ _); k_dflt (refine' kun_lenL ?k1q35 ?k2q35 ?k3q35 ?_; (case k1q35 => exact News.isList (by k_asm) (by k_extra "M mem")); (case k2q35 => with_reducible assumption); (case k3q35 => omega); k_whole)))
  k_with "binaryOp Add ref ref" => ((k_here; (with_reducible show wpAny _ _ (binaryOp _ (Value.ref _) (Value.ref _)) _ _ _); k_dflt (refine' kmk_add_ints ?Fq36 ?Nq36 ?aq36 ?bq36 ?iq36 ?jq36 ?_ ?zq36; (case Fq36 => k_asm); (case Nq36 => k_asm); (case aq36 => exact News.isList (by k_asm) (by k_extra "M mem")); (case bq36 => exact News.isList (by k_asm) (by k_extra "M mem")); (case iq36 => with_reducible assumption); (case jq36 => exact .cons _ _ .nil); (case zq36 => rw [sizeLine_eq, List.length_singleton]; omega)); intro D'zq ws'zq h'zq F'zq N'zq l1zq hI'zq; (try k_lt l1zq); (try k_sweep); k_extra "M split"))
  trivial
theorem CompTup.of {elt : Expr} {x : Str} {scope : Scope} {cl : List (Str × Addr)} {Fin : Shared → List Value → Led → Prop} {ax : Addr} {its : Array Value} {k : Nat} {news : Led} {s₁ : Shared}
    (hh : A.handled = none) (F : Fr h₀ L s₁.heap m) (N : News h₀ L s₁.heap news) (hm : (ax, tupOf its k) ∈ news) (hsz : its.size ≤ sizeLine)
    (h : ∀ g, LCg.CompRest prog w A h₀ L m env elt x scope cl { s₁ with heap := g } (fun n => (ax, tupOf its k) ∈ n) (fun i v => its[i]? = some v) (Fin { s₁ with heap := g }) its.size 0 [] news) :
    CompTup prog w A h₀ L m env elt x scope cl Fin (.ref ax) s₁ := ⟨ax, its, k, news, rfl, hh, F, N, hm, hsz, h⟩
theorem tup_st {ax I : Addr} {its : Array Value} {k : Nat} : ∀ i (h h' : Heap) (o : Obj) (nw : Led), (h.IsTupleIter I ax i ∧ h.IsTuple ax its) → h.get? I = some o → h'.get? I = some o → (∀ b o, h₀.get? b = some o → h'.get? b = some o) → News h₀ L h' nw → (ax, tupOf its k) ∈ nw → (h'.IsTupleIter I ax i ∧ h'.IsTuple ax its) :=
  fun i h h' o nw st e e' _ N S => ⟨by obtain ⟨o', q, r⟩ := st.1; rw [e] at q; cases q; exact ⟨o, e', r⟩, ⟨_, (N _ S).1, rfl, _, rfl⟩⟩
theorem comp_tup {elt iter : Expr} {x : Str} {px : Pos} {scope : Scope} {cl : List (Str × Addr)} {pos : Pos} {Q : Value → Shared → Prop} (F₀ : Fr h₀ L s.heap m)
    (hclos : closureFor scope env = pure cl) (hcell : ∀ y ∈ scope.names, y.2 ≠ .cell) (hkind : scope.kind = .function)
    (hnames : ∀ y ∈ scope.names, y.2 = .local → scope.names.lookup y.1 = some .local) (hx : scope.names.lookup x = some .local)
    (h : wpAny (model prog w) A (eval iter env) (CompTup prog w A h₀ L m env elt x scope cl (fun s₂ => LCg.FinE h₀ L m s₂ Q)) E s)
    (hs : ∀ x, foldedSetIterable iter env x = pure x := by intro _; rfl) :
    wpAny (model prog w) A (eval (.ListComp elt [⟨.Name x px, iter, [], 0⟩] scope pos) env) Q E s := by
  rw [eval_ListComp]
  refine wpAny_comprehension_free (use := none) rfl hs hclos hkind hnames (wpAny_mono h (fun xv s₁ h₁ => ?_) fun _ _ e => e)
  obtain ⟨ax, its, k, news, rfl, hh, F, N, S, hsz, R⟩ := h₁
  have hl : s₁.heap.IsTuple ax its := ⟨_, (N _ S).1, rfl, _, rfl⟩
  have hlt : ax < s₁.heap.objs.size := by obtain ⟨_, e, _⟩ := hl; exact Heap.lt_size e
  refine wpAny_pyIter_tuple hl ?_
  have up : ∀ b o, s₁.heap.get? b = some o → (s₁.heap.push { cls := .type "tuple_iterator", data := .fields #[.ref ax, .int 0 0] }).get? b = some o := fun b o e => Heap.get?_push_of_some _ e
  refine LCg.block_U (Walks.tuple hh s₁.heap.objs.size ax (Nat.ne_of_lt hlt) its) hsz (fun i h st => by obtain ⟨o, e, _⟩ := st.1; exact ⟨o, e⟩) (S := fun n => (ax, tupOf its k) ∈ n) tup_st hcell hkind hx ⟨⟨_, Heap.get?_push_size _ rfl, rfl, rfl⟩, hl.push _⟩ (fun b hb => ?_)
    (F.keeps up) (N.grown up) (Nat.ne_of_lt F.ns.lt) (next_is_new F) (fun p hp => Nat.ne_of_lt (Heap.lt_size (N p hp).1)) S (R _) ?_
  · show b < (s₁.heap.push _).objs.size
    rw [Heap.size_push]
    rcases List.mem_cons.mp hb with rfl | hb
    · exact Nat.lt_succ_self _
    · rw [List.mem_singleton.mp hb]; exact Nat.lt_succ_of_lt hlt
  · intro D C h tk m' ys news' F' N' o1 hn hC₀ hD₀ hCL hDL hCD offC fin
    refine ⟨m', hn, fun h'' hs'' => fin D h'' tk (F'.change hs'' hCL hC₀) (fun p hp => ?_) o1⟩
    refine ⟨hs''.extBut _ _ ?_ (N' p hp).1, (N' p hp).2⟩
    rcases List.mem_cons.mp hp with rfl | hp
    · exact Ne.symm hCD
    · exact offC p hp
end
/-- the ends behind part_entry -/
def newGoal (n g : Int) : Int := if g = 0 then n else g
def End.led (n : Int) : End → End
  | .jump g => .jump (newGoal n g)
  | .branch v g0 g1 => .branch v (newGoal n g0) (newGoal n g1)
  | .table v low gs g => .table v low (gs.map (newGoal n)) (newGoal n g)
  | .give v => .give v
theorem step_inv {ld : Led} {r : StepR} {e : End} (h : StepIs ld r (endStep e)) : r.op = e.op ∧ DatIn ld r.mv (moreDat e) := ⟨h.op, h.more⟩
end Mine
namespace Mine
theorem ints_at {vs : List Value} {ns : List Int} (h : IntsAre vs ns) {i : Nat} {v : Value} (hv : vs[i]? = some v) : ∃ k t, v = .int k t ∧ ns[i]? = some k := by
  induction h generalizing i with
  | nil => simp at hv
  | cons k t _ ih =>
    cases i with
    | zero => simp at hv; subst hv; exact ⟨k, t, rfl, rfl⟩
    | succ i => simpa using ih (i := i) (by simpa using hv)
theorem take_map {α β : Type} (f : α → β) {ns : List α} {i : Nat} {k : α} (h : ns[i]? = some k) : (ns.take (i + 1)).map f = (ns.take i).map f ++ [f k] := by
  rw [List.take_add_one, h, List.map_append]; rfl
section
variable {h₀ h' : Heap} {L : Addr} {m : Str → Option Value}
theorem new_same {old all pre acc rest : Led} {s₁ : Shared} {tk' : Nat} {I C D : Addr} {oI oC oD : Obj} {K : Value → Led → Prop} {y : Value} (F : Fr h₀ L h' m) (N : News h₀ L h' all) (hs : ∀ p ∈ (I, oI) :: (C, oC) :: (D, oD) :: (pre ++ (acc ++ rest)), p ∈ all) (hK : K y acc) :
    NewEnd h₀ L m old s₁ I oI C oC D oD pre acc rest K y { s₁ with heap := h', toks := tk' } :=
  ⟨h', tk', [], rfl, F, news_sub N hs, dis_nil, hK⟩
end
/-- what led_on leaves -/
def LedPost (w : World) (r : StepR) (e : End) (n : Int) (Y : Led) (res : Value) (news' : Led) : Prop :=
  ∃ mv' tl, res = .none ∧ news' = (r.dx, stepObj w { r with mv := mv' }) :: (tl ++ Y) ∧ DatIn tl mv' (moreDat (e.led n)) ∧ Dis tl ((r.dx, stepObj w r) :: Y)
end Mine
namespace Mine
theorem led_lt {dx b : Addr} {o : Obj} {Y : Led} (h : ∀ p ∈ (dx, o) :: Y, p.1 < b) : @LT.lt Nat _ dx b := h _ (.head _)
end Mine
namespace Mine
theorem led_post {w : World} {r : StepR} {e : End} {n : Int} {Y tl : Led} {mv' : Value} (hd : DatIn tl mv' (moreDat (e.led n))) (hdis : Dis tl ((r.dx, stepObj w r) :: Y)) :
    LedPost w r e n Y .none ((r.dx, stepObj w { r with mv := mv' }) :: (tl ++ Y)) := ⟨mv', tl, rfl, rfl, hd, hdis⟩
theorem dat_goal {ld : Led} {n g v : Int} {t : Tok} (h : v = newGoal n g) : DatIn ld (.int v t) (.int (newGoal n g)) := h ▸ .int _ _
theorem goal_is {n g : Int} (h : g = 0) : n = newGoal n g := (if_pos h).symm
theorem goal_not {n g : Int} (h : g ≠ 0) : g = newGoal n g := (if_neg h).symm
theorem goals_step {ns : List Int} {n k v : Int} {t : Tok} {i : Nat} {ys : List Value} (h : IntsAre ys ((ns.take i).map (newGoal n))) (hk : ns[i]? = some k) (hv : v = newGoal n k) : IntsAre (ys ++ [.int v t]) ((ns.take (i + 1)).map (newGoal n)) := by
  rw [take_map _ hk, hv]
  exact h.append (.cons _ _ .nil)
end Mine
namespace Mine
theorem sub_c0 {x : Addr × Obj} {all Y : Led} (h : x ∈ all) (hY : ∀ p ∈ Y, p ∈ all) : ∀ p ∈ x :: ([] ++ Y), p ∈ all := by
  intro p hp
  rcases List.mem_cons.mp hp with rfl | hp
  · exact h
  · exact hY p hp
theorem sub_c1 {x y : Addr × Obj} {all Y : Led} (h : x ∈ all) (h1 : y ∈ all) (hY : ∀ p ∈ Y, p ∈ all) : ∀ p ∈ x :: ([y] ++ Y), p ∈ all := by
  intro p hp
  rcases List.mem_cons.mp hp with rfl | hp
  · exact h
  · rcases List.mem_cons.mp hp with rfl | hp
    · exact h1
    · exact hY p hp
theorem sub_c2 {x y z : Addr × Obj} {all Y : Led} (h : x ∈ all) (h1 : y ∈ all) (h2 : z ∈ all) (hY : ∀ p ∈ Y, p ∈ all) : ∀ p ∈ x :: ([y, z] ++ Y), p ∈ all := by
  intro p hp
  rcases List.mem_cons.mp hp with rfl | hp
  · exact h
  · rcases List.mem_cons.mp hp with rfl | hp
    · exact h1
    · rcases List.mem_cons.mp hp with rfl | hp
      · exact h2
      · exact hY p hp
end Mine
namespace Mine
theorem sub_one {x : Addr × Obj} {all Y : Led} (h : x ∈ all) (hY : ∀ p ∈ Y, p ∈ all) : ∀ p ∈ x :: Y, p ∈ all := by
  intro p hp
  rcases List.mem_cons.mp hp with rfl | hp
  · exact h
  · exact hY p hp
end Mine
namespace Mine
def hasZero (e : End) : Bool := e.goals.any (· == 0)
/-- what part_entry leaves -/
def partedBy (n : Int) (b0 : BlockD) (r : List BlockD) : List BlockD :=
  { num := b0.num, rows := [], e := .jump n } :: (r ++ [({ num := n, rows := b0.rows, e := b0.e } : BlockD)]).map fun b => ({ b with e := b.e.led n } : BlockD)
def parted : List BlockD → List BlockD
  | [] => []
  | b0 :: r => if (b0 :: r).any (fun b => hasZero b.e) then partedBy ((b0 :: r).length : Nat) b0 r else b0 :: r
def PartPost (w : World) (fr : FuncR) (X Y : Led) (bs : List BlockD) (res : Value) (news' : Led) : Prop :=
  ∃ recs' n' tl, res = .none ∧ news' = funcLed w fr recs' n' (tl ++ Y) ∧ FuncAt w fr recs' (tl ++ X) (tl ++ Y) bs ∧ Dis tl Y
theorem muts_mem {w : World} {recs : List BlockR} {i : Nat} {r : BlockR} (h : recs[i]? = some r) : (r.dx, blockObj w r) ∈ muts w recs ∧ (r.e.dx, stepObj w r.e) ∈ muts w recs := by
  have hm := List.mem_of_getElem? h
  exact ⟨List.mem_flatMap.mpr ⟨r, hm, .head _⟩, List.mem_flatMap.mpr ⟨r, hm, .tail _ (.head _)⟩⟩
theorem refs_at {recs : List BlockR} {i : Nat} {v : Value} (h : (refsOf recs)[i]? = some v) : ∃ r, recs[i]? = some r ∧ v = .ref r.x := by
  unfold refsOf at h
  rw [List.getElem?_map] at h
  obtain ⟨r, hr, e⟩ := Option.map_eq_some_iff.mp h
  exact ⟨r, hr, e.symm⟩
theorem bools_app {ys : List Value} {l : List Bool} {b : Bool} (h : LSm.BoolsAre ys l) : LSm.BoolsAre (ys ++ [.bool b]) (l ++ [b]) := by
  induction h with
  | nil => exact .cons _ .nil
  | cons c _ ih => exact .cons c ih
theorem bools_step {bs : List BlockD} {b : BlockD} {i : Nat} {ys : List Value} {v : Bool} (h : LSm.BoolsAre ys ((bs.take i).map fun b => hasZero b.e)) (hb : bs[i]? = some b) (hv : v = hasZero b.e) : LSm.BoolsAre (ys ++ [.bool v]) ((bs.take (i + 1)).map fun b => hasZero b.e) := by
  rw [take_map _ hb, hv]
  exact bools_app h
end Mine
namespace Mine
theorem any_map_id {α : Type} (l : List α) (f : α → Bool) : (l.map f).any id = l.any f := by
  induction l with
  | nil => rfl
  | cons a r ih => rw [List.map_cons, List.any_cons, List.any_cons, ih]; rfl
theorem any_zero {ys : List Value} {bs : List BlockD} {k : Nat} (h : LSm.BoolsAre ys ((bs.take k).map fun b => hasZero b.e)) (hk : k = bs.length) : ∃ l, LSm.BoolsAre ys l ∧ l.any id = bs.any fun b => hasZero b.e := by
  rw [hk, List.take_length] at h
  exact ⟨_, h, any_map_id _ _⟩
end Mine
namespace Mine
theorem muts_cons (w : World) (r : BlockR) (rs : List BlockR) : muts w (r :: rs) = (r.dx, blockObj w r) :: (r.e.dx, stepObj w r.e) :: muts w rs := rfl
/-- the first block by itself -/
theorem part_start {w : World} {fr : FuncR} {recs : List BlockR} {X Y acc : Led} {b0 : BlockD} {br : List BlockD} {h₀ h : Heap} {L D9 : Addr} {o9 : Obj} {nb : Nat} (hF : FuncAt w fr recs X Y (b0 :: br))
    (N : News h₀ L h ((D9, o9) :: (fr.lb, listOf (List.toArray (refsOf recs)) nb) :: (acc ++ (muts w recs ++ Y)))) :
    ∃ r0 rs, recs = r0 :: rs ∧ BlockIs w X r0 b0 ∧ All2 (BlockIs w X) rs br ∧
      News h₀ L h ((fr.lb, listOf (List.toArray (.ref r0.x :: refsOf rs)) nb) :: (r0.dx, dictOf [ent w "number" r0.k1 (.int r0.num r0.tn), ent w "steps" r0.k2 (.ref r0.ls), ent w "end" r0.k3 (.ref r0.e.x)] 3) :: (r0.e.dx, stepObj w r0.e) :: (muts w rs ++ Y)) ∧
      OwnOff (muts w rs ++ Y) [fr.lb, r0.dx, r0.e.dx] ∧ @Ne Nat fr.lb r0.dx ∧ @Ne Nat fr.lb r0.e.dx ∧ @Ne Nat r0.dx r0.e.dx ∧ ((muts w rs).map (·.1)).Nodup ∧ Dis (muts w rs) Y := by
  obtain ⟨hok, hbl, hnd, hdis, hown⟩ := hF
  cases hbl with
  | @cons r0 b0' rs br' hB hBs =>
  rw [muts_cons] at hnd hdis hown
  rw [List.map_cons, List.map_cons] at hnd
  have n1 := List.nodup_cons.mp hnd
  have n2 := List.nodup_cons.mp n1.2
  have o1 := hown _ (List.mem_append.mpr (.inl (.head _))) fr.lb (.head _)
  have o2 := hown _ (List.mem_append.mpr (.inl (.tail _ (.head _)))) fr.lb (.head _)
  refine ⟨r0, rs, rfl, hB, hBs, news_sub N fun p hp => ?_, own_cons (fun p hp => ?_) (own_cons (fun p hp => ?_) (own_cons (fun p hp => ?_) own_nil)), Ne.symm o1, Ne.symm o2, fun e => n1.1 (e ▸ .head _), n2.2, fun p hp q hq => hdis p (.tail _ (.tail _ hp)) q hq⟩
  · rcases List.mem_cons.mp hp with rfl | hp
    · exact .tail _ (.head _)
    · exact .tail _ (.tail _ (List.mem_append.mpr (.inr hp)))
  · refine hown p ?_ _ (.head _)
    rcases List.mem_append.mp hp with hp | hp
    · exact List.mem_append.mpr (.inl (.tail _ (.tail _ hp)))
    · exact List.mem_append.mpr (.inr hp)
  · rcases List.mem_append.mp hp with hp | hp
    · intro e
      exact n1.1 (.tail _ (List.mem_map.mpr ⟨p, hp, e⟩))
    · exact Ne.symm (hdis _ (.head _) p hp)
  · rcases List.mem_append.mp hp with hp | hp
    · intro e
      exact n2.1 (List.mem_map.mpr ⟨p, hp, e⟩)
    · exact Ne.symm (hdis _ (.tail _ (.head _)) p hp)
end Mine
namespace Mine
section
theorem kset11 : True := by
  k_with_none
  k_with "M gen" => ((fail_if_success (goal_lacks Mine.MidEnd Mine.MoreQ Mine.NewEnd Mine.TurnPostF PyProof.Rows.LCg.CompSrc PyProof.Rows.LCt.CompSrcT)); k_fold)
  k_with "M steps" => (repeat' (first | k_extra "M gen" | (k_unfold; (try dsimp only)) | (k_end; wrow_close) | walk1 | (dsimp only; walk1) | (leave1; walk_say "STEP leave1"; try dsimp only) | fail "no step"))
  k_with "M enterC" => ((refine' code_defC ?k1q17 ?k2q17 ?k3q17 ?k4q17 ?k5q17 ?kAq17 ?kFq17 ?kKq17 ?k6q17 ?k7q17 ?k8q17 ?k9q17 ?kBq17 ?kDq17 ?_ ?c2q17 ?c3q17 ?c4q17; (case kAq17 => exact rfl); (case kFq17 => exact rfl); (case kKq17 => assumption); (case k1q17 => k_asm); (case k2q17 => k_asm); (case k3q17 => k_asm); (case k4q17 => k_asm); (case k5q17 => k_asm); (case k6q17 => k_is); (case k7q17 => k_is); (case k8q17 => ktr_room); (case k9q17 => exact BindsTo.of_eq rfl); (case kBq17 => exact rfl); (case kDq17 => decide +kernel); (case c2q17 => exact rfl); (case c3q17 => exact rfl); (case c4q17 => exact rfl); k_whole; intro g'zq L'zq h'zq tk'zq cells'zq FG'zq F'zq N'zq Y'zq B'zq X'zq T'zq l1zq; k_cells Y'zq; (try simp only [List.cons_append, List.nil_append] at N'zq); (try dsimp only); (try k_fold)))
  k_with "M enter" => ((refine' code_def ?k1q18 ?k2q18 ?k3q18 ?k4q18 ?k5q18 ?kAq18 ?kFq18 ?kKq18 ?k6q18 ?k7q18 ?k8q18 ?k9q18 ?kBq18 ?_ ?c2q18 ?c3q18 ?c4q18 ?c5q18; (case kAq18 => exact rfl); (case kFq18 => exact rfl); (case kKq18 => first | exact rfl | assumption); (case k1q18 => k_asm); (case k2q18 => k_asm); (case k3q18 => k_asm); (case k4q18 => k_asm); (case k5q18 => k_asm); (case k6q18 => k_is); (case k7q18 => k_is); (case k8q18 => ktr_room); (case k9q18 => exact BindsTo.of_eq rfl); (case c5q18 => decide); (case kBq18 => exact locs rfl); (case c2q18 => exact rfl); (case c3q18 => exact rfl); (case c4q18 => exact rfl); k_whole; intro g'zq L'zq h'zq FG'zq F'zq N'zq B'zq X'zq T'zq; (try dsimp only); (try k_fold)))
  k_with "M mem" => (first | exact mem_hd | (with_reducible refine mem_tl ?_; k_extra "M mem") | with_reducible assumption | (with_reducible refine mem_apr ?_; k_extra "M mem") | (with_reducible refine mem_apl ?_; k_extra "M mem"))
  k_with "M ne" => ((refine neN ?_; (try dsimp only); first | exact Nat.ne_of_lt (by with_reducible assumption) | exact Nat.ne_of_gt (by with_reducible assumption) | with_reducible assumption | exact Ne.symm (by with_reducible assumption) | omega))
  k_with "M all" => (first | exact List.forall_mem_nil _ | with_reducible assumption | (with_reducible refine' List.forall_mem_cons.mpr ⟨?aq21, ?bq21⟩; (case aq21 => k_extra "M ne"); (case bq21 => k_extra "M all")) | (refine' allLt_ne ?dAq21; (case dAq21 => with_reducible assumption)) | (refine' off1_ne ?dAq21; (case dAq21 => with_reducible assumption)) | (refine' OwnOff.ne ?dAq21 ?dBq21; (case dAq21 => with_reducible assumption); (case dBq21 => k_memK)) | (refine' ne_app ?nAq21 ?nBq21; (case nAq21 => k_extra "M all"); (case nBq21 => k_extra "M all")) | (refine' dis_ne ?dAq21 ?dBq21; (case dAq21 => with_reducible assumption); (case dBq21 => k_extra "M mem")) | (refine' allLt_app ?dAq21; (case dAq21 => with_reducible assumption)) | (refine' allLt_apl ?dAq21; (case dAq21 => with_reducible assumption)) | (refine' allLt_ne_lt ?dAq21 ?dBq21; (case dAq21 => with_reducible assumption); (case dBq21 => with_reducible assumption)))
  k_with "newList" => ((k_here; k_dflt (refine' newList_K ?k1q22 ?k2q22 ?_; (case k1q22 => k_asm); (case k2q22 => k_asm); k_whole); intro l'zq h'zq F'zq N'zq l1zq; (try k_lt l1zq); (try k_sweep); k_extra "M split"))
  k_with "newTuple" => ((k_here; k_dflt (refine' kup_newTuple ?Fq23 ?Nq23 ?_ ?zq23; (case Fq23 => k_asm); (case Nq23 => k_asm); (case zq23 => kmk_size)); intro D'zq h'zq F'zq N'zq l1zq; (try k_lt l1zq); (try k_sweep); k_extra "M split"))
  k_with "call type:list" => ((k_here; (with_reducible show wpAny _ _ (call (Value.type _) [Value.ref _]) _ _ _); k_dflt (first | (refine' list_copyK ?k1q24 ?k2q24 ?k3q24 ?_ ?zq24; (case k1q24 => k_asm); (case k2q24 => k_asm); (case k3q24 => exact News.isList (by k_asm) (by k_extra "M mem")); (case zq24 => first | exact Nat.le_of_ble_eq_true rfl | (rw [List.size_toArray, sizeLine_eq]; omega) | exact kmk_sz (by with_reducible assumption) (by rw [sizeLine_eq]; omega)); k_whole) | (refine' list_copyKT ?k1q24 ?k2q24 ?k3q24 ?_ ?zq24; (case k1q24 => k_asm); (case k2q24 => k_asm); (case k3q24 => exact News.isTup (by k_asm) (by k_extra "M mem")); (case zq24 => exact Nat.le_of_ble_eq_true rfl); k_whole)); intro D'zq c'zq h'zq F'zq N'zq l1zq; (try k_lt l1zq); (try k_sweep); k_extra "M split"))
  k_with "M own" => (first | exact own_nil | (refine own_cons ?oAq25 ?oBq25; (case oAq25 => k_extra "M all"); (case oBq25 => k_extra "M own")))
  k_with "M dis" => (first | exact dis_nil | (refine dis_cons ?dAq26 ?dBq26; (case dAq26 => k_extra "M all"); (case dBq26 => k_extra "M dis")))
  k_with "M split" => (repeat ((with_reducible rename (_ ∧ _) => hc9zq); have hc9azq := hc9zq.1; have hc9bzq := hc9zq.2; clear hc9zq))
  k_with "M eq" => (first | exact eqs0 | exact eqs1 | exact eqs2 | exact eqs3 | exact eqs4 | exact eqs5 | exact eqs6 | exact eqs7 | exact eqs8 | exact eqs9 | exact eqs10 | exact eqs11 | exact eqs12 | exact eqs13 | exact eqs14 | exact eqs15 | exact eqs16)
  k_with "M tails" => ((intro pzq hpzq; (try dsimp only [List.cons_append, List.nil_append] at hpzq ⊢); repeat (first | with_reducible exact hpzq | with_reducible exact mem_apl hpzq | with_reducible refine List.mem_cons_of_mem _ ?_ | with_reducible refine mem_apr ?_)))
  k_with "M at" => (first | exact mem_hd | (refine mem_tl ?_; k_extra "M at"))
  k_with "M same" => ((intro zzq hzzq; (try dsimp only); (repeat (refine Eq.trans (same_if rfl hzzq) ?_)); first | exact same_frm hzzq | rfl))
  k_with "M clear" => (((repeat ((with_reducible rename (@LT.lt Nat _ _ _) => zzzq); clear zzzq)); (repeat ((with_reducible rename (AllLt _ _) => zzzq); clear zzzq))))
  k_with "M use" => (((case c1 => k_asm); (case c2 => k_asm); (case c3 => k_asm); (case c4 => k_asm); (case c5 => k_asm); (case c6 => first | exact rfl | assumption); (case c7 => ktr_room); (case c8 => ktr_units); k_whole))
  k_with "call builtin:list.append" => ((k_here; k_dflt (refine' append_any ?k1q34 ?k2q34 ?k3q34 ?k4q34 ?_; (case k1q34 => k_asm); (case k2q34 => k_asm); (case k3q34 => k_upd); (case k4q34 => with_reducible assumption)); intro h'zq F'zq N'zq))
  k_with "call builtin:len" => ((k_here; (with_reducible show wpAny _ _ (call (Value.builtin "len") [Value.ref _]) _ _ _); k_dflt (refine' kun_lenL ?k1q35 ?k2q35 ?k3q35 ?_; (case k1q35 => exact News.isList (by k_asm) (by k_extra "M mem")); (case k2q35 => with_reducible assumption); (case k3q35 => omega); k_whole)))
  k_with "binaryOp Add ref ref" => ((k_here; (with_reducible show wpAny _ _ (binaryOp _ (Value.ref _) (Value.ref _)) _ _ _); k_dflt (refine' kmk_add_ints ?Fq36 ?Nq36 ?aq36 ?bq36 ?iq36 ?jq36 ?_ ?zq36; (case Fq36 => k_asm); (case Nq36 => k_asm); (case aq36 => exact News.isList (by k_asm) (by k_extra "M mem")); (case bq36 => exact News.isList (by k_asm) (by k_extra "M mem")); (case iq36 => with_reducible assumption); (case jq36 => exact .cons _ _ .nil); (case zq36 => rw [sizeLine_eq, List.length_singleton]; omega)); intro D'zq ws'zq h'zq F'zq N'zq l1zq hI'zq; (try k_lt l1zq); (try k_sweep); k_extra "M split"))
  k_with "M all" => (first | exact List.forall_mem_nil _ | with_reducible assumption | (with_reducible refine' List.forall_mem_cons.mpr ⟨?aq51, ?bq51⟩; (case aq51 => k_extra "M ne"); (case bq51 => k_extra "M all")) | (refine' allLt_ne ?dAq51; (case dAq51 => with_reducible assumption)) | (refine' off1_ne ?dAq51; (case dAq51 => with_reducible assumption)) | (refine' OwnOff.ne ?dAq51 ?dBq51; (case dAq51 => with_reducible assumption); (case dBq51 => k_memK)) | (refine' ne_app ?nAq51 ?nBq51; (case nAq51 => k_extra "M all"); (case nBq51 => k_extra "M all")) | (refine' dis_ne ?dAq51 ?dBq51; (case dAq51 => with_reducible assumption); (case dBq51 => k_extra "M mem")) | (refine' allLt_app ?dAq51; (case dAq51 => with_reducible assumption)) | (refine' allLt_ne_lt ?dAq51 ?dBq51; (case dAq51 => with_reducible assumption); (case dBq51 => with_reducible assumption)))
  k_with "call type:list" => ((k_here; (with_reducible show wpAny _ _ (call (Value.type _) [Value.ref _]) _ _ _); k_dflt (refine' list_copyK ?k1q52 ?k2q52 ?k3q52 ?_ ?zq52; (case k1q52 => k_asm); (case k2q52 => k_asm); (case k3q52 => exact News.isList (by k_asm) (by k_mem)); (case zq52 => first | exact Nat.le_of_ble_eq_true rfl | size_fits); k_whole); intro D'zq c'zq h'zq F'zq N'zq l1zq; (try k_lt l1zq); (try k_sweep); k_extra "M split"))
  k_with "M tails" => ((intro pzq hpzq; (try dsimp only [List.cons_append, List.nil_append] at hpzq); repeat (first | with_reducible exact hpzq | with_reducible refine List.mem_cons_of_mem _ ?_ | with_reducible refine mem_apr ?_)))
  k_with "call type:tuple" => ((k_here; (with_reducible show wpAny _ _ (call (Value.type _) [Value.ref _]) _ _ _); k_dflt (refine' kde_tupleOf ?k1q54 ?k2q54 ?k3q54 ?k4q54 ?k5q54 ?_; (case k1q54 => k_asm); (case k2q54 => k_asm); (case k3q54 => exact News.isList (by k_asm) (by k_extra "M mem")); (case k4q54 => first | exact Nat.le_of_ble_eq_true rfl | (rw [List.size_toArray]; omega)); (case k5q54 => exact rfl); k_whole); intro D'zq h'zq F'zq N'zq l1zq; (try k_lt l1zq); (try k_sweep); k_extra "M split"))
  k_with "eval ListComp" => ((k_here; k_dflt (first | ((with_reducible show wpAny _ _ (eval (Expr.ListComp _ [⟨_, Expr.Attribute _ _ _, _, _⟩] _ _) _) _ _ _); refine comp_tup (F₀ := by k_asm) (by with_unfolding_all rfl) (by decide) (by rfl) (by decide) (by rfl) ?_) | refine LCg.ListComp_U (F₀ := by k_asm) (by with_unfolding_all rfl) (by decide) (by rfl) (by decide) (by rfl) ?_)))
  k_with "M fin" => (((try (case N => k_asm)); (case dis => (try dsimp only); k_extra "M split"; k_extra "M dis")))
  k_with "M goal" => (first | exact goal_is (by with_reducible assumption) | exact goal_not (by with_reducible assumption))
  trivial
set_option maxRecDepth 100000 in
set_option maxHeartbeats 8000000 in
theorem led_ctr (w : World) (r : StepR) (e : End) (n : Int) (t0 tn : Tok) (Y : Led) (hY : ∀ p ∈ Y, p.1 ≠ r.dx) (hi : (r.x, instObj 31 r.dx) ∈ Y) (hs : StepIs Y r (endStep e)) (hn0 : 0 ≤ n) (hn1 : n < 1000) (hgl : e.goals.length ≤ 4) :
    Ctr w 89 4 [.ref r.x, .int 0 t0, .int n tn] ((r.dx, stepObj w r) :: Y) (LedPost w r e n Y) := by
  unfold Ctr
  k_fill
  w_top off
  intro p loose mean mg mb dp un gd cn cs a ccd cl outer A₀ base h₀ L m s Q E BB F X N T hk hd hu hret
  obtain ⟨hop, hmore⟩ := step_inv hs
  obtain ⟨x, dx, k1, k2, k3, k4, k5, k6, op, t1, dst, t2, la, mv, t6⟩ := r
  dsimp only at hY hi hop hmore N hret ⊢
  subst hop
  refine wpAny_call ?_
  cases e with
  | jump g =>
    cases hmore
    dsimp only [End.op, stepObj, ent] at N hY
    k_dflt k_extra "M enterC"
    rename (∀ p : Addr × Obj, p ∈ _ → p.1 < _) => l1
    have l2 := led_lt l1
    k_extra "M steps"
    all_goals
      refine' hret _ _ _ _ (by k_asm) (news_sub ?N ?sub) (led_post (tl := []) ?d ?dis)
      k_extra "M fin"
      case sub =>
        refine' sub_c0 ?m1 ?m2
        case m1 => k_extra "M at"
        case m2 => k_extra "M tails"
      case d => exact dat_goal (by k_extra "M goal")
  | branch v5 g0 g1 =>
    cases hmore with
    | tuple hm hl =>
    cases hl with
    | cons h1 hl =>
    cases hl with
    | cons h2 hl =>
    cases hl
    cases h1
    cases h2
    dsimp only [End.op, stepObj, ent] at N hY
    k_dflt k_extra "M enterC"
    rename (∀ p : Addr × Obj, p ∈ _ → p.1 < _) => l1
    have l2 := led_lt l1
    k_extra "M steps"
    refine CompTup.of (by rfl) (by k_asm) (by k_asm) (by k_extra "M mem") (Nat.le_of_ble_eq_true rfl) ?_
    intro g9
    refine' comp_new _ Y (fun i ys acc => IntsAre ys ((([g0, g1] : List Int).take i).map (newGoal n))) ?gn ?g0 ?gS ?gstep ?gfin
    case gn => k_extra "M eq"
    case g0 => exact .nil
    case gS => exact fun M => mem_apr (mem_apr hm)
    case gstep =>
      rintro i ys acc v I9 oI C oC D m₂ h tk E' hi hK hv hC hx F N off ne hdd
      obtain ⟨k9, t9, rfl, hk9⟩ := ints_at (.cons g0 _ (.cons g1 _ .nil)) (i := i) (by simpa using hv)
      dsimp only [List.cons_append, List.nil_append] at N off hdd
      k_extra "M steps"
      all_goals
        refine' new_same ?sF ?sN ?ss ?sk
        case sF => k_asm
        case sN => k_asm
        case ss => k_extra "M tails"
        case sk => exact goals_step hK hk9 (by k_extra "M goal")
    intro ys acc hK hdd
    have hyz : ys.length = 2 := hK.length
    unfold LCg.FinE
    intro D9 h9 tk9 F9 N9 o9
    dsimp only [List.cons_append, List.nil_append] at N9 hdd
    simp only [LCg.Off1, List.cons_append, List.nil_append] at o9
    k_extra "M split"
    dsimp only
    try k_fold
    k_extra "M steps"
    refine' hret _ _ _ _ (by k_asm) (news_sub ?N ?sub) (led_post (tl := [(_, _)]) ?d ?dis)
    case N => k_asm
    case sub =>
      refine' sub_c1 ?m1 ?m3 ?m2
      case m1 => k_extra "M at"
      case m3 => k_extra "M at"
      case m2 => k_extra "M tails"
    k_extra "M fin"
    case d => exact .tuple mem_hd (datAll_intDats hK)
  | table v5 low gs g =>
    cases hmore with
    | tuple hm hl =>
    cases hl with
    | cons h1 hl =>
    cases hl with
    | cons h2 hl =>
    cases hl with
    | cons h3 hl =>
    cases hl
    cases h1
    cases h3
    cases h2 with
    | list hml hdl =>
    have hgi := ints_of_datAll hdl
    have hgz : gs.length ≤ 4 := by
      have : (gs ++ [g]).length ≤ 4 := hgl
      rw [List.length_append] at this
      omega
    dsimp only [End.op, stepObj, ent] at N hY
    k_dflt k_extra "M enterC"
    rename (∀ p : Addr × Obj, p ∈ _ → p.1 < _) => l1
    have l2 := led_lt l1
    k_extra "M steps"
    all_goals
      refine' hret _ _ _ _ (by k_asm) (news_sub ?N ?sub) (led_post (tl := [(_, _), (_, _)]) ?d ?dis)
      case N => k_asm
      case sub =>
        refine' sub_c2 ?m1 ?m3 ?m4 ?m2
        case m3 => exact mem_hd
        case m4 =>
          refine mem_tl ?_
          exact mem_hd
        case m1 => k_extra "M at"
        case m2 => k_extra "M tails"
      k_extra "M fin"
      case d => exact .tuple mem_hd (.cons (.int _ _) (.cons (.list (mem_tl mem_hd) (datAll_intDats (ns := gs.map (newGoal n)) (by assumption))) (.cons (dat_goal (by k_extra "M goal")) .nil)))
  | give v5 =>
    cases hmore
    dsimp only [End.op, stepObj, ent] at N hY
    k_dflt k_extra "M enterC"
    rename (∀ p : Addr × Obj, p ∈ _ → p.1 < _) => l1
    have l2 := led_lt l1
    k_extra "M steps"
    refine' hret _ _ _ _ (by k_asm) (news_sub ?N ?sub) (led_post (tl := []) ?d ?dis)
    k_extra "M fin"
    case sub =>
      refine' sub_c0 ?m1 ?m2
      case m1 => k_extra "M at"
      case m2 => k_extra "M tails"
    case d => exact .int _ _
end
end Mine
namespace Mine
section
theorem kset12 : True := by
  k_with_none
  k_with "M gen" => ((fail_if_success (goal_lacks Mine.MidEnd Mine.MoreQ Mine.NewEnd Mine.TurnPostF PyProof.Rows.LCg.CompSrc PyProof.Rows.LCt.CompSrcT)); k_fold)
  k_with "M steps" => (repeat' (first | k_extra "M gen" | (k_unfold; (try dsimp only)) | (k_end; wrow_close) | walk1 | (dsimp only; walk1) | (leave1; walk_say "STEP leave1"; try dsimp only) | fail "no step"))
  k_with "M enterC" => ((refine' code_defC ?k1q17 ?k2q17 ?k3q17 ?k4q17 ?k5q17 ?kAq17 ?kFq17 ?kKq17 ?k6q17 ?k7q17 ?k8q17 ?k9q17 ?kBq17 ?kDq17 ?_ ?c2q17 ?c3q17 ?c4q17; (case kAq17 => exact rfl); (case kFq17 => exact rfl); (case kKq17 => assumption); (case k1q17 => k_asm); (case k2q17 => k_asm); (case k3q17 => k_asm); (case k4q17 => k_asm); (case k5q17 => k_asm); (case k6q17 => k_is); (case k7q17 => k_is); (case k8q17 => ktr_room); (case k9q17 => exact BindsTo.of_eq rfl); (case kBq17 => exact rfl); (case kDq17 => decide +kernel); (case c2q17 => exact rfl); (case c3q17 => exact rfl); (case c4q17 => exact rfl); k_whole; intro g'zq L'zq h'zq tk'zq cells'zq FG'zq F'zq N'zq Y'zq B'zq X'zq T'zq l1zq; k_cells Y'zq; (try simp only [List.cons_append, List.nil_append] at N'zq); (try dsimp only); (try k_fold)))
  k_with "M enter" => ((refine' code_def ?k1q18 ?k2q18 ?k3q18 ?k4q18 ?k5q18 ?kAq18 ?kFq18 ?kKq18 ?k6q18 ?k7q18 ?k8q18 ?k9q18 ?kBq18 ?_ ?c2q18 ?c3q18 ?c4q18 ?c5q18; (case kAq18 => exact rfl); (case kFq18 => exact rfl); (case kKq18 => first | exact rfl | assumption); (case k1q18 => k_asm); (case k2q18 => k_asm); (case k3q18 => k_asm); (case k4q18 => k_asm); (case k5q18 => k_asm); (case k6q18 => k_is); (case k7q18 => k_is); (case k8q18 => ktr_room); (case k9q18 => exact BindsTo.of_eq rfl); (case c5q18 => decide); (case kBq18 => exact locs rfl); (case c2q18 => exact rfl); (case c3q18 => exact rfl); (case c4q18 => exact rfl); k_whole; intro g'zq L'zq h'zq FG'zq F'zq N'zq B'zq X'zq T'zq; (try dsimp only); (try k_fold)))
  k_with "M mem" => (first | exact mem_hd | (with_reducible refine mem_tl ?_; k_extra "M mem") | with_reducible assumption | (with_reducible refine mem_apr ?_; k_extra "M mem") | (with_reducible refine mem_apl ?_; k_extra "M mem"))
  k_with "M ne" => ((refine neN ?_; (try dsimp only); first | exact Nat.ne_of_lt (by with_reducible assumption) | exact Nat.ne_of_gt (by with_reducible assumption) | with_reducible assumption | exact Ne.symm (by with_reducible assumption) | omega))
  k_with "M all" => (first | exact List.forall_mem_nil _ | with_reducible assumption | (with_reducible refine' List.forall_mem_cons.mpr ⟨?aq21, ?bq21⟩; (case aq21 => k_extra "M ne"); (case bq21 => k_extra "M all")) | (refine' allLt_ne ?dAq21; (case dAq21 => with_reducible assumption)) | (refine' off1_ne ?dAq21; (case dAq21 => with_reducible assumption)) | (refine' OwnOff.ne ?dAq21 ?dBq21; (case dAq21 => with_reducible assumption); (case dBq21 => k_memK)) | (refine' ne_app ?nAq21 ?nBq21; (case nAq21 => k_extra "M all"); (case nBq21 => k_extra "M all")) | (refine' dis_ne ?dAq21 ?dBq21; (case dAq21 => with_reducible assumption); (case dBq21 => k_extra "M mem")) | (refine' allLt_app ?dAq21; (case dAq21 => with_reducible assumption)) | (refine' allLt_apl ?dAq21; (case dAq21 => with_reducible assumption)) | (refine' allLt_ne_lt ?dAq21 ?dBq21; (case dAq21 => with_reducible assumption); (case dBq21 => with_reducible assumption)))
  k_with "newList" => ((k_here; k_dflt (refine' newList_K ?k1q22 ?k2q22 ?_; (case k1q22 => k_asm); (case k2q22 => k_asm); k_whole); intro l'zq h'zq F'zq N'zq l1zq; (try k_lt l1zq); (try k_sweep); k_extra "M split"))
  k_with "newTuple" => ((k_here; k_dflt (refine' kup_newTuple ?Fq23 ?Nq23 ?_ ?zq23; (case Fq23 => k_asm); (case Nq23 => k_asm); (case zq23 => kmk_size)); intro D'zq h'zq F'zq N'zq l1zq; (try k_lt l1zq); (try k_sweep); k_extra "M split"))
  k_with "call type:list" => ((k_here; (with_reducible show wpAny _ _ (call (Value.type _) [Value.ref _]) _ _ _); k_dflt (first | (refine' list_copyK ?k1q24 ?k2q24 ?k3q24 ?_ ?zq24; (case k1q24 => k_asm); (case k2q24 => k_asm); (case k3q24 => exact News.isList (by k_asm) (by k_extra "M mem")); (case zq24 => first | exact Nat.le_of_ble_eq_true rfl | (rw [List.size_toArray, sizeLine_eq]; omega) | exact kmk_sz (by with_reducible assumption) (by rw [sizeLine_eq]; omega)); k_whole) | (refine' list_copyKT ?k1q24 ?k2q24 ?k3q24 ?_ ?zq24; (case k1q24 => k_asm); (case k2q24 => k_asm); (case k3q24 => exact News.isTup (by k_asm) (by k_extra "M mem")); (case zq24 => exact Nat.le_of_ble_eq_true rfl); k_whole)); intro D'zq c'zq h'zq F'zq N'zq l1zq; (try k_lt l1zq); (try k_sweep); k_extra "M split"))
  k_with "M own" => (first | exact own_nil | (refine own_cons ?oAq25 ?oBq25; (case oAq25 => k_extra "M all"); (case oBq25 => k_extra "M own")))
  k_with "M dis" => (first | exact dis_nil | (refine dis_cons ?dAq26 ?dBq26; (case dAq26 => k_extra "M all"); (case dBq26 => k_extra "M dis")))
  k_with "M split" => (repeat ((with_reducible rename (_ ∧ _) => hc9zq); have hc9azq := hc9zq.1; have hc9bzq := hc9zq.2; clear hc9zq))
  k_with "M eq" => (first | exact eqs0 | exact eqs1 | exact eqs2 | exact eqs3 | exact eqs4 | exact eqs5 | exact eqs6 | exact eqs7 | exact eqs8 | exact eqs9 | exact eqs10 | exact eqs11 | exact eqs12 | exact eqs13 | exact eqs14 | exact eqs15 | exact eqs16)
  k_with "M tails" => ((intro pzq hpzq; (try dsimp only [List.cons_append, List.nil_append] at hpzq ⊢); repeat (first | with_reducible exact hpzq | with_reducible exact mem_apl hpzq | with_reducible refine List.mem_cons_of_mem _ ?_ | with_reducible refine mem_apr ?_)))
  k_with "M at" => (first | exact mem_hd | (refine mem_tl ?_; k_extra "M at"))
  k_with "M same" => ((intro zzq hzzq; (try dsimp only); (repeat (refine Eq.trans (same_if rfl hzzq) ?_)); first | exact same_frm hzzq | rfl))
  k_with "M clear" => (((repeat ((with_reducible rename (@LT.lt Nat _ _ _) => zzzq); clear zzzq)); (repeat ((with_reducible rename (AllLt _ _) => zzzq); clear zzzq))))
  k_with "M use" => (((case c1 => k_asm); (case c2 => k_asm); (case c3 => k_asm); (case c4 => k_asm); (case c5 => k_asm); (case c6 => first | exact rfl | assumption); (case c7 => ktr_room); (case c8 => ktr_units); k_whole))
  k_with "call builtin:list.append" => ((k_here; k_dflt (refine' append_any ?k1q34 ?k2q34 ?k3q34 ?k4q34 ?_; (case k1q34 => k_asm); (case k2q34 => k_asm); (case k3q34 => k_upd); (case k4q34 => with_reducible assumption)); intro h'zq F'zq N'zq))
  k_with "call builtin:len" => ((k_here; (with_reducible show wpAny _ _ (call (Value.builtin "len") [Value.ref _]) _ _ _); k_dflt (refine' kun_lenL ?k1q35 ?k2q35 ?k3q35 ?_; (case k1q35 => exact News.isList (by k_asm) (by k_extra "M mem")); (case k2q35 => with_reducible assumption); (case k3q35 => omega); k_whole)))
  k_with "binaryOp Add ref ref" => ((k_here; (with_reducible show wpAny _ _ (binaryOp _ (Value.ref _) (Value.ref _)) _ _ _); k_dflt (refine' kmk_add_ints ?Fq36 ?Nq36 ?aq36 ?bq36 ?iq36 ?jq36 ?_ ?zq36; (case Fq36 => k_asm); (case Nq36 => k_asm); (case aq36 => exact News.isList (by k_asm) (by k_extra "M mem")); (case bq36 => exact News.isList (by k_asm) (by k_extra "M mem")); (case iq36 => with_reducible assumption); (case jq36 => exact .cons _ _ .nil); (case zq36 => rw [sizeLine_eq, List.length_singleton]; omega)); intro D'zq ws'zq h'zq F'zq N'zq l1zq hI'zq; (try k_lt l1zq); (try k_sweep); k_extra "M split"))
  trivial
set_option maxRecDepth 100000 in
set_option maxHeartbeats 8000000 in
theorem followers_ctr (w : World) (r : BlockR) (e : End) (news : Led) (h1 : (r.x, instObj 52 r.dx) ∈ news) (h2 : (r.dx, blockObj w r) ∈ news) (h3 : (r.e.x, instObj 31 r.e.dx) ∈ news) (h4 : (r.e.dx, stepObj w r.e) ∈ news) (hs : StepIs news r.e (endStep e)) (hgl : e.goals.length ≤ 4) :
    Ctr w 84 2 [.ref r.x] news (fun res news' => ∃ l vs n, res = .ref l ∧ news' = (l, listOf (List.toArray vs) n) :: news ∧ IntsAre vs e.goals) := by
  unfold Ctr
  k_fill
  w_top off
  intro p loose mean mg mb dp un gd cn cs a ccd cl outer A₀ base h₀ L m s Q E BB F X N T hk hd hu hret
  obtain ⟨hop, hmore⟩ := step_inv hs
  obtain ⟨bx, bdx, b1, b2, b3, num, ts, ls, ⟨x, dx, k1, k2, k3, k4, k5, k6, op, t1, dst, t2, la, mv, t6⟩⟩ := r
  dsimp only at h1 h2 h3 h4 hop hmore N hret ⊢
  subst hop
  refine wpAny_call ?_
  cases e with
  | jump g =>
    cases hmore
    dsimp only [End.op, stepObj, blockObj, ent] at h2 h4
    k_dflt ktr_enter
    k_extra "M steps"
    exact hret _ _ _ _ (by k_asm) (by k_asm) ⟨_, _, _, rfl, rfl, .cons _ _ .nil⟩
  | branch v5 g0 g1 =>
    cases hmore with
    | tuple hm hl =>
    cases hl with
    | cons i1 hl =>
    cases hl with
    | cons i2 hl =>
    cases hl
    cases i1
    cases i2
    dsimp only [End.op, stepObj, blockObj, ent] at h2 h4
    k_dflt ktr_enter
    k_extra "M steps"
    exact hret _ _ _ _ (by k_asm) (by k_asm) ⟨_, _, _, rfl, rfl, .cons _ _ (.cons _ _ .nil)⟩
  | table v5 low gs g =>
    cases hmore with
    | tuple hm hl =>
    cases hl with
    | cons i1 hl =>
    cases hl with
    | cons i2 hl =>
    cases hl with
    | cons i3 hl =>
    cases hl
    cases i1
    cases i3
    cases i2 with
    | list hml hdl =>
    have hgi := ints_of_datAll hdl
    have hgz : gs.length ≤ 4 := by
      have : (gs ++ [g]).length ≤ 4 := hgl
      rw [List.length_append] at this
      omega
    dsimp only [End.op, stepObj, blockObj, ent] at h2 h4
    k_dflt ktr_enter
    k_extra "M steps"
    refine' hret _ _ _ _ (by k_asm) (news_sub ?N ?sub) ⟨_, _, _, rfl, rfl, ?i⟩
    case N => k_asm
    case sub =>
      refine' sub_one ?m1 ?m2
      case m1 => exact mem_hd
      case m2 => k_extra "M tails"
    case i => assumption
  | give v5 =>
    cases hmore
    dsimp only [End.op, stepObj, blockObj, ent] at h2 h4
    k_dflt ktr_enter
    k_extra "M steps"
    exact hret _ _ _ _ (by k_asm) (by k_asm) ⟨_, _, _, rfl, rfl, .nil⟩
end
end Mine
namespace Mine
theorem set_split {α : Type} : ∀ {l : List α} {j : Nat} {a : α}, l[j]? = some a → ∃ pre post, l = pre ++ a :: post ∧ pre.length = j ∧ ∀ a', l.set j a' = pre ++ a' :: post
  | [], _, _, h => by simp at h
  | x :: r, 0, a, h => by
    have e : x = a := by simpa using h
    subst e
    exact ⟨[], r, rfl, rfl, fun _ => rfl⟩
  | x :: r, j + 1, a, h => by
    obtain ⟨pre, post, e1, e2, e3⟩ := set_split (l := r) (j := j) (a := a) (by simpa using h)
    refine ⟨x :: pre, post, by rw [e1]; rfl, by rw [List.length_cons, e2], fun a' => ?_⟩
    rw [List.set_cons_succ, e3 a']; rfl
theorem All2.split {α β : Type} {R : α → β → Prop} : ∀ {pre : List α} {a : α} {post : List α} {r : List β}, All2 R (pre ++ a :: post) r → ∃ pre' b post', r = pre' ++ b :: post' ∧ pre'.length = pre.length ∧ All2 R pre pre' ∧ R a b ∧ All2 R post post'
  | [], a, post, r, h => by
    cases h with
    | cons h1 h2 => exact ⟨[], _, _, rfl, rfl, .nil, h1, h2⟩
  | x :: pre, a, post, r, h => by
    cases h with
    | cons h1 h2 =>
      obtain ⟨pre', b, post', e, el, ha, hb, hc⟩ := All2.split h2
      exact ⟨_ :: pre', b, post', by rw [e]; rfl, by rw [List.length_cons, List.length_cons, el], .cons h1 ha, hb, hc⟩
theorem All2.app {α β : Type} {R : α → β → Prop} {l l' : List α} {r r' : List β} (h : All2 R l r) (h' : All2 R l' r') : All2 R (l ++ l') (r ++ r') := by
  induction h with
  | nil => exact h'
  | cons h1 _ ih => exact .cons h1 ih
theorem muts_split (w : World) (pre : List BlockR) (r : BlockR) (post : List BlockR) : muts w (pre ++ r :: post) = muts w pre ++ (mutLed w r ++ muts w post) := by
  unfold muts
  rw [List.flatMap_append, List.flatMap_cons]
theorem led_op (e : End) (n : Int) : (e.led n).op = e.op := by cases e <;> rfl
theorem led_args (e : End) (n : Int) : (e.led n).args = e.args := by cases e <;> rfl
abbrev ledR (r : BlockR) (mv : Value) : BlockR := { r with e := { r.e with mv := mv } }
abbrev ledB (n : Int) (b : BlockD) : BlockD := { b with e := b.e.led n }
theorem part_turn {w : World} {fr : FuncR} {recs : List BlockR} {tl X1 Y1 tl9 all : Led} {bs : List BlockD} {j : Nat} {r : BlockR} {b : BlockD} {n : Int} {mv' : Value} {olb : Obj} (hF : FuncAt w fr recs (tl ++ X1) (tl ++ Y1) bs) (hr : recs[j]? = some r) (hb : bs[j]? = some b)
    (hall : ∀ p ∈ (fr.lb, olb) :: (muts w recs ++ (tl ++ Y1)), p ∈ all) (hd : DatIn tl9 mv' (moreDat (b.e.led n))) (hdis : Dis tl9 ((r.e.dx, stepObj w r.e) :: all.filter fun p => decide (p.1 ≠ r.e.dx))) :
    FuncAt w fr (recs.set j (ledR r mv')) ((tl9 ++ tl) ++ X1) ((tl9 ++ tl) ++ Y1) (bs.set j (ledB n b)) ∧ (∀ p ∈ muts w (recs.set j (ledR r mv')), p ∈ (r.e.dx, stepObj w { r.e with mv := mv' }) :: (tl9 ++ all.filter fun p => decide (p.1 ≠ r.e.dx))) ∧
      (recs.set j (ledR r mv')).map (·.x) = recs.map (·.x) ∧ (∀ p ∈ muts w (recs.set j (ledR r mv')), ∃ q ∈ muts w recs, q.1 = p.1) ∧ (∀ p ∈ tl ++ Y1, p ∈ all.filter fun p => decide (p.1 ≠ r.e.dx)) := by
  have hdall : Dis tl9 all := by
    intro p hp q hq
    by_cases e : q.1 = r.e.dx
    · rw [e]; exact hdis p hp _ (.head _)
    · exact hdis p hp q (.tail _ (List.mem_filter.mpr ⟨hq, decide_eq_true e⟩))
  obtain ⟨hok, hbl, hnd, hds, hown⟩ := hF
  obtain ⟨pre, post, rfl, hj, hset⟩ := set_split hr
  obtain ⟨pre', b', post', rfl, hj', ha, hB, hc⟩ := hbl.split
  have eb : b' = b := by
    rw [List.getElem?_append_right (by omega), show j - pre'.length = 0 by omega] at hb
    simpa using hb
  subst eb
  obtain ⟨_, _, e4, e5, hset'⟩ := set_split hb
  have hsetb : (pre' ++ b' :: post').set j (ledB n b') = pre' ++ ledB n b' :: post' := by
    rw [List.set_append_right _ _ (by omega), show j - pre'.length = 0 by omega]; rfl
  rw [hset, hsetb]
  rw [muts_split] at hnd hds hown hall
  rw [muts_split, muts_split]
  simp only [List.map_append] at hnd
  have n1 := List.nodup_append.mp hnd
  have n2 := List.nodup_append.mp n1.2.1
  have hne : r.dx ≠ r.e.dx := by
    intro e
    have h9 : ([r.dx, r.e.dx] : List Addr).Nodup := n2.1
    exact (List.nodup_cons.mp h9).1 (e ▸ .head _)
  have sm : ∀ p ∈ tl ++ X1, p ∈ (tl9 ++ tl) ++ X1 := by
    intro p hp
    rw [List.append_assoc]
    exact List.mem_append.mpr (.inr hp)
  have adr : ∀ p ∈ muts w pre ++ (mutLed w (ledR r mv') ++ muts w post), ∃ q ∈ muts w pre ++ (mutLed w r ++ muts w post), q.1 = p.1 := by
    intro p hp
    rcases List.mem_append.mp hp with hp | hp
    · exact ⟨p, List.mem_append.mpr (.inl hp), rfl⟩
    · rcases List.mem_append.mp hp with hp | hp
      · rcases List.mem_cons.mp hp with rfl | hp
        · exact ⟨_, List.mem_append.mpr (.inr (List.mem_append.mpr (.inl (.head _)))), rfl⟩
        · rw [List.mem_singleton.mp hp]
          exact ⟨_, List.mem_append.mpr (.inr (List.mem_append.mpr (.inl (.tail _ (.head _))))), rfl⟩
      · exact ⟨p, List.mem_append.mpr (.inr (List.mem_append.mpr (.inr hp))), rfl⟩
  have inall : ∀ p ∈ muts w pre ++ (mutLed w r ++ muts w post), p ∈ all := fun p hp => hall p (.tail _ (List.mem_append.mpr (.inl hp)))
  have filt : ∀ p ∈ all, p.1 ≠ r.e.dx → p ∈ all.filter fun p => decide (p.1 ≠ r.e.dx) := fun p hp h => List.mem_filter.mpr ⟨hp, decide_eq_true h⟩
  refine ⟨⟨hok.mono sm, ?_, ?_, ?_, ?_⟩, ?_, ?_, adr, ?_⟩
  · refine (ha.mono fun a _ b h => h.mono sm).app (.cons ?_ (hc.mono fun a _ b h => h.mono sm))
    obtain ⟨h1, h2, h3, h4, h5⟩ := hB.mono sm
    refine ⟨h1, h2, h3, h4, ?_⟩
    refine ⟨?_, h5.dst, ?_, ?_⟩
    · show r.e.op = (b'.e.led n).op
      rw [led_op]; exact h5.op
    · obtain ⟨avs, na, ha1, ha2⟩ := h5.args
      refine ⟨avs, na, ha1, ?_⟩
      show DatAll _ avs (b'.e.led n).args
      rw [led_args]; exact ha2
    · refine hd.mono fun p hp => ?_
      rw [List.append_assoc]
      exact List.mem_append.mpr (.inl hp)
  · rw [muts_split]
    simp only [List.map_append]
    exact hnd
  · rw [muts_split]
    intro p hp q hq
    obtain ⟨p', hp', e⟩ := adr p hp
    rw [← e]
    rw [List.append_assoc] at hq
    rcases List.mem_append.mp hq with hq | hq
    · exact Ne.symm (hdall q hq p' (inall p' hp'))
    · exact hds p' hp' q hq
  · rw [muts_split]
    intro p hp c hc'
    rw [List.mem_singleton.mp hc']
    rcases List.mem_append.mp hp with hp | hp
    · obtain ⟨p', hp', e⟩ := adr p hp
      rw [← e]
      exact hown p' (List.mem_append.mpr (.inl hp')) _ (.head _)
    · rw [List.append_assoc] at hp
      rcases List.mem_append.mp hp with hp | hp
      · exact hdall p hp _ (hall _ (.head _))
      · exact hown p (List.mem_append.mpr (.inr hp)) _ (.head _)
  · intro p hp
    rcases List.mem_append.mp hp with hp | hp
    · refine .tail _ (List.mem_append.mpr (.inr (filt p (inall p (List.mem_append.mpr (.inl hp))) fun e => ?_)))
      exact n1.2.2 p.1 (List.mem_map.mpr ⟨p, hp, rfl⟩) r.e.dx (List.mem_append.mpr (.inl (.tail _ (.head _)))) e
    · rcases List.mem_append.mp hp with hp | hp
      · rcases List.mem_cons.mp hp with rfl | hp
        · exact .tail _ (List.mem_append.mpr (.inr (filt _ (inall (r.dx, blockObj w r) (List.mem_append.mpr (.inr (List.mem_append.mpr (.inl (.head _)))))) hne)))
        · rw [List.mem_singleton.mp hp]; exact .head _
      · refine .tail _ (List.mem_append.mpr (.inr (filt p (inall p (List.mem_append.mpr (.inr (List.mem_append.mpr (.inr hp))))) fun e => ?_)))
        exact n2.2.2 r.e.dx (.tail _ (.head _)) p.1 (List.mem_map.mpr ⟨p, hp, rfl⟩) e.symm
  · simp only [List.map_append, List.map_cons]
  · intro p hp
    refine filt p (hall p (.tail _ (List.mem_append.mpr (.inr hp)))) fun e => ?_
    exact hds _ (List.mem_append.mpr (.inr (List.mem_append.mpr (.inl (.tail _ (.head _)))))) p hp e.symm
end Mine
namespace Mine
abbrev firstB (n : Int) (b0 : BlockD) : BlockD := { num := b0.num, rows := [], e := .jump n }
abbrev lastB (n : Int) (b0 : BlockD) : BlockD := { num := n, rows := b0.rows, e := b0.e }
def bsAt (n : Int) (f0 : BlockD) (tlb : List BlockD) (i : Nat) : List BlockD := f0 :: ((tlb.take i).map (ledB n) ++ tlb.drop i)
theorem bsAt_zero (n : Int) (f0 : BlockD) (tlb : List BlockD) : bsAt n f0 tlb 0 = f0 :: tlb := rfl
theorem bsAt_end (n : Int) (b0 : BlockD) (br : List BlockD) : bsAt n (firstB n b0) (br ++ [lastB n b0]) (br ++ [lastB n b0]).length = partedBy n b0 br := by
  unfold bsAt
  rw [List.take_length, List.drop_length, List.append_nil]; rfl
theorem bsAt_step {n : Int} {f0 : BlockD} {tlb : List BlockD} {i : Nat} {b : BlockD} (h : tlb[i]? = some b) : (bsAt n f0 tlb i)[i + 1]? = some b ∧ (bsAt n f0 tlb i).set (i + 1) (ledB n b) = bsAt n f0 tlb (i + 1) := by
  have hi := (List.getElem?_eq_some_iff.mp h).1
  have hl : ((tlb.take i).map (ledB n)).length = i := by rw [List.length_map, List.length_take]; omega
  have hd : tlb.drop i = b :: tlb.drop (i + 1) := by
    rw [List.drop_eq_getElem_cons hi]
    congr 1
    have := List.getElem?_eq_getElem hi
    rw [h] at this
    exact (Option.some.inj this).symm
  unfold bsAt
  constructor
  · rw [List.getElem?_cons_succ, List.getElem?_append_right (by omega), hl, Nat.sub_self, hd]; rfl
  · rw [List.set_cons_succ, List.set_append_right _ _ (by omega), hl, Nat.sub_self, hd, List.set_cons_zero, take_map _ h, List.append_assoc]; rfl
theorem part_pack {G : Prop} {w : World} {fr : FuncR} {r0 : BlockR} {rs : List BlockR} {X Y all : Led} {b0 : BlockD} {br : List BlockD} {n num dst : Int} {h₀ h : Heap} {L x d la l1 bx bd : Addr} {k1 k2 k3 tn q1 q2 q3 q4 q5 q6 t1 t2 t4 t6 : Tok} {op : Str} {na n1 nb : Nat} {olb : Array Value}
    (N : News h₀ L h all) (hok : FuncOk w X fr) (hB0 : BlockIs w X r0 b0) (hBs : All2 (BlockIs w X) rs br) (nd : ((muts w rs).map (·.1)).Nodup) (ds : Dis (muts w rs) Y)
    (own2 : OwnOff (muts w rs ++ Y) [fr.lb, r0.dx, r0.e.dx]) (e1 : @Ne Nat fr.lb r0.dx) (e2 : @Ne Nat fr.lb r0.e.dx) (e3 : @Ne Nat r0.dx r0.e.dx)
    (hlb : (fr.lb, listOf olb (nb + 1)) ∈ all) (holb : olb = (List.toArray (.ref r0.x :: refsOf rs)).push (.ref bx))
    (hx : (x, instObj 31 d) ∈ all) (hd : (d, dictOf [ent w "op" q1 (.str op t1), ent w "dst" q2 (.int dst t2), ent w "args" q3 (.ref la), ent w "more" q4 (.int n t4), ent w "is_volatile" q5 (.bool false), ent w "line" q6 (.int 0 t6)] 6) ∈ all)
    (hla : (la, listOf (List.toArray []) na) ∈ all) (hl1 : (l1, listOf (List.toArray []) n1) ∈ all) (hbx : (bx, instObj 52 bd) ∈ all)
    (hbd : (bd, dictOf [ent w "number" k1 (.int num tn), ent w "steps" k2 (.ref r0.ls), ent w "end" k3 (.ref r0.e.x)] 3) ∈ all)
    (h0 : (r0.dx, dictOf [ent w "number" r0.k1 (.int r0.num r0.tn), ent w "steps" r0.k2 (.ref l1), ent w "end" r0.k3 (.ref x)] 3) ∈ all) (he0 : (r0.e.dx, stepObj w r0.e) ∈ all) (hr : ∀ p ∈ muts w rs ++ Y, p ∈ all)
    (hop : op = Str.ofString "jump") (hdst : dst = -1) (hnum : num = n)
    (hA : OwnOff (muts w rs ++ Y) [x, d, la, l1, bx, bd]) (hB : ∀ o1 o2 o3 o4 : Obj, OwnOff [(x, o1), (la, o2), (l1, o3), (bx, o4)] [r0.dx, d, bd, r0.e.dx, fr.lb]) (hC : ∀ o1 o2 : Obj, OwnOff [(d, o1), (bd, o2)] [r0.dx, r0.e.dx, fr.lb]) (hD : @Ne Nat d bd)
    (k : ∀ (recs1 : List BlockR) (tl : Led) (bx' : Addr), bx' = bx → Dis tl Y → FuncAt w fr recs1 (tl ++ X) (tl ++ Y) (bsAt n (firstB n b0) (br ++ [lastB n b0]) 0) → News h₀ L h ((fr.lb, listOf (List.toArray (refsOf recs1)) (nb + 1)) :: (muts w recs1 ++ (tl ++ Y))) → recs1.map (·.x) = r0.x :: (rs.map (·.x) ++ [bx']) → G) : G := by
  subst hop hdst hnum holb
  let es : StepR := ⟨x, d, q1, q2, q3, q4, q5, q6, Str.ofString "jump", t1, -1, t2, la, .int num t4, t6⟩
  let r0' : BlockR := { r0 with ls := l1, e := es }
  let later : BlockR := ⟨bx, bd, k1, k2, k3, num, tn, r0.ls, r0.e⟩
  let tl : Led := [(x, instObj 31 d), (la, listOf (List.toArray []) na), (l1, listOf (List.toArray []) n1), (bx, instObj 52 bd)]
  have hB' := hB (instObj 31 d) (listOf (List.toArray []) na) (listOf (List.toArray []) n1) (instObj 52 bd)
  have hC' := hC (stepObj w es) (blockObj w later)
  have em : muts w (r0' :: (rs ++ [later])) = (r0.dx, blockObj w r0') :: (d, stepObj w es) :: (muts w rs ++ [(bd, blockObj w later), (r0.e.dx, stepObj w r0.e)]) := by
    rw [muts_cons, muts_snoc]
  have sX : ∀ p ∈ X, p ∈ tl ++ X := fun p hp => List.mem_append.mpr (.inr hp)
  have sT : ∀ p ∈ tl, p ∈ tl ++ X := fun p hp => List.mem_append.mpr (.inl hp)
  have mr : ∀ p ∈ muts w rs, p ∈ muts w rs ++ Y := fun p hp => List.mem_append.mpr (.inl hp)
  have mx : ∀ p ∈ Y, p ∈ muts w rs ++ Y := fun p hp => List.mem_append.mpr (.inr hp)
  have htY : Dis tl Y := by
    intro p hp q hq
    have z := hA q (mx q hq)
    rcases List.mem_cons.mp hp with rfl | hp
    · exact Ne.symm (z _ (.head _))
    · rcases List.mem_cons.mp hp with rfl | hp
      · exact Ne.symm (z _ (.tail _ (.tail _ (.head _))))
      · rcases List.mem_cons.mp hp with rfl | hp
        · exact Ne.symm (z _ (.tail _ (.tail _ (.tail _ (.head _)))))
        · rw [List.mem_singleton.mp hp]; exact Ne.symm (z _ (.tail _ (.tail _ (.tail _ (.tail _ (.head _))))))
  refine k (r0' :: (rs ++ [later])) tl bx rfl htY ⟨hok.mono sX, ?_, ?_, ?_, ?_⟩ (news_sub N ?_) (by rw [List.map_cons, List.map_append]; rfl)
  · refine .cons ⟨hB0.num, sX _ hB0.inst, sT _ (.head _), ⟨[], n1, sT _ (.tail _ (.tail _ (.head _))), .nil⟩, rfl, rfl, ⟨[], na, sT _ (.tail _ (.head _)), .nil⟩, .int _ _⟩ ((hBs.mono fun _ _ _ h => h.mono sX).app (.cons ?_ .nil))
    obtain ⟨_, h2, h3, h4, h5⟩ := hB0.mono sX
    exact ⟨rfl, sT _ (.tail _ (.tail _ (.tail _ (.head _)))), h3, h4, h5⟩
  · rw [em]
    simp only [List.map_cons, List.map_append, List.map_nil]
    refine List.nodup_cons.mpr ⟨?_, List.nodup_cons.mpr ⟨?_, List.nodup_append.mpr ⟨nd, ?_, ?_⟩⟩⟩
    · intro hm
      rcases List.mem_cons.mp hm with e | hm
      · exact hC' _ (.head _) _ (.head _) e.symm
      · rcases List.mem_append.mp hm with hm | hm
        · obtain ⟨p, hp, e⟩ := List.mem_map.mp hm
          exact own2 p (mr p hp) _ (.tail _ (.head _)) e
        · rcases List.mem_cons.mp hm with e | hm
          · exact hC' _ (.tail _ (.head _)) _ (.head _) e.symm
          · exact e3 (List.mem_singleton.mp hm)
    · intro hm
      rcases List.mem_append.mp hm with hm | hm
      · obtain ⟨p, hp, e⟩ := List.mem_map.mp hm
        exact hA p (mr p hp) _ (.tail _ (.head _)) e
      · rcases List.mem_cons.mp hm with e | hm
        · exact hD e
        · exact hC' _ (.head _) _ (.tail _ (.head _)) (List.mem_singleton.mp hm)
    · refine List.nodup_cons.mpr ⟨fun hm => ?_, List.nodup_cons.mpr ⟨List.not_mem_nil, List.nodup_nil⟩⟩
      exact hC' _ (.tail _ (.head _)) _ (.tail _ (.head _)) (List.mem_singleton.mp hm)
    · intro a ha b hb e
      obtain ⟨p, hp, rfl⟩ := List.mem_map.mp ha
      rcases List.mem_cons.mp hb with rfl | hb
      · exact hA p (mr p hp) _ (.tail _ (.tail _ (.tail _ (.tail _ (.tail _ (.head _)))))) e
      · exact own2 p (mr p hp) _ (.tail _ (.tail _ (.head _))) (e.trans (List.mem_singleton.mp hb))
  · rw [em]
    intro p hp q hq
    rcases List.mem_append.mp hq with hq | hq
    · rcases List.mem_cons.mp hp with rfl | hp
      · exact Ne.symm (hB' q hq _ (.head _))
      · rcases List.mem_cons.mp hp with rfl | hp
        · exact Ne.symm (hB' q hq _ (.tail _ (.head _)))
        · rcases List.mem_append.mp hp with hp | hp
          · have z := hA p (mr p hp)
            rcases List.mem_cons.mp hq with rfl | hq
            · exact z _ (.head _)
            · rcases List.mem_cons.mp hq with rfl | hq
              · exact z _ (.tail _ (.tail _ (.head _)))
              · rcases List.mem_cons.mp hq with rfl | hq
                · exact z _ (.tail _ (.tail _ (.tail _ (.head _))))
                · rw [List.mem_singleton.mp hq]; exact z _ (.tail _ (.tail _ (.tail _ (.tail _ (.head _)))))
          · rcases List.mem_cons.mp hp with rfl | hp
            · exact Ne.symm (hB' q hq _ (.tail _ (.tail _ (.head _))))
            · rw [List.mem_singleton.mp hp]; exact Ne.symm (hB' q hq _ (.tail _ (.tail _ (.tail _ (.head _)))))
    · have z := hA q (mx q hq)
      have y := own2 q (mx q hq)
      rcases List.mem_cons.mp hp with rfl | hp
      · exact Ne.symm (y _ (.tail _ (.head _)))
      · rcases List.mem_cons.mp hp with rfl | hp
        · exact Ne.symm (z _ (.tail _ (.head _)))
        · rcases List.mem_append.mp hp with hp | hp
          · exact ds p hp q hq
          · rcases List.mem_cons.mp hp with rfl | hp
            · exact Ne.symm (z _ (.tail _ (.tail _ (.tail _ (.tail _ (.tail _ (.head _)))))))
            · rw [List.mem_singleton.mp hp]; exact Ne.symm (y _ (.tail _ (.tail _ (.head _))))
  · rw [em]
    intro p hp c hc
    rw [List.mem_singleton.mp hc]
    rcases List.mem_append.mp hp with hp | hp
    · rcases List.mem_cons.mp hp with rfl | hp
      · exact Ne.symm e1
      · rcases List.mem_cons.mp hp with rfl | hp
        · exact hC' _ (.head _) _ (.tail _ (.tail _ (.head _)))
        · rcases List.mem_append.mp hp with hp | hp
          · exact own2 p (mr p hp) _ (.head _)
          · rcases List.mem_cons.mp hp with rfl | hp
            · exact hC' _ (.tail _ (.head _)) _ (.tail _ (.tail _ (.head _)))
            · rw [List.mem_singleton.mp hp]; exact Ne.symm e2
    · rcases List.mem_append.mp hp with hp | hp
      · exact hB' p hp _ (.tail _ (.tail _ (.tail _ (.tail _ (.head _)))))
      · exact own2 p (mx p hp) _ (.head _)
  · rw [em]
    have elb : List.toArray (refsOf (r0' :: (rs ++ [later]))) = (List.toArray (.ref r0.x :: refsOf rs)).push (.ref bx) := by
      rw [List.push_toArray]
      congr 1
      unfold refsOf
      rw [List.map_cons, List.map_append]; rfl
    rw [elb]
    intro p hp
    rcases List.mem_cons.mp hp with rfl | hp
    · exact hlb
    · rcases List.mem_append.mp hp with hp | hp
      · rcases List.mem_cons.mp hp with rfl | hp
        · exact h0
        · rcases List.mem_cons.mp hp with rfl | hp
          · exact hd
          · rcases List.mem_append.mp hp with hp | hp
            · exact hr p (mr p hp)
            · rcases List.mem_cons.mp hp with rfl | hp
              · exact hbd
              · rw [List.mem_singleton.mp hp]; exact he0
      · rcases List.mem_append.mp hp with hp | hp
        · rcases List.mem_cons.mp hp with rfl | hp
          · exact hx
          · rcases List.mem_cons.mp hp with rfl | hp
            · exact hla
            · rcases List.mem_cons.mp hp with rfl | hp
              · exact hl1
              · rw [List.mem_singleton.mp hp]; exact hbx
        · exact hr p (mx p hp)
end Mine
namespace Mine
theorem refs_xs (recs : List BlockR) : refsOf recs = (recs.map (·.x)).map Value.ref := by
  unfold refsOf
  rw [List.map_map]; rfl
/-- between the turns of part_entry's loop -/
def PartInv (w : World) (fr : FuncR) (xs : List Addr) (X1 Y1 : Led) (D : Addr) (bs : List BlockD) (M : Led) : Prop :=
  ∃ recs tl, M = muts w recs ++ tl ∧ recs.map (·.x) = xs ∧ FuncAt w fr recs (tl ++ X1) (tl ++ Y1) bs ∧ OwnOff M [D] ∧ Dis tl Y1
abbrev others (all : Led) (a : Addr) : Led := all.filter fun p => decide (p.1 ≠ a)
theorem others_mem {all : Led} {a : Addr} {p : Addr × Obj} (h : p ∈ all) (hn : p.1 ≠ a) : p ∈ others all a := List.mem_filter.mpr ⟨h, decide_eq_true hn⟩
theorem others_ne {all : Led} {a : Addr} : ∀ p ∈ others all a, p.1 ≠ a := fun _ h => of_decide_eq_true (List.mem_filter.mp h).2
theorem others_sub {all : Led} {a : Addr} {o : Obj} (h : (a, o) ∈ all) : ∀ q ∈ (a, o) :: others all a, q ∈ all := by
  intro q hq
  rcases List.mem_cons.mp hq with rfl | hq
  · exact h
  · exact (List.mem_filter.mp hq).1
theorem part_Y {w : World} {fr : FuncR} {recs : List BlockR} {tl X1 Y1 all : Led} {bs : List BlockD} {j : Nat} {r : BlockR} (hF : FuncAt w fr recs (tl ++ X1) (tl ++ Y1) bs) (hr : recs[j]? = some r) (hall : ∀ p ∈ tl ++ Y1, p ∈ all) : ∀ p ∈ tl ++ Y1, p ∈ others all r.e.dx :=
  fun p hp => others_mem (hall p hp) fun e => hF.dis _ (muts_mem hr).2 p hp e.symm
theorem part_end {w : World} {fr : FuncR} {recs : List BlockR} {tl X1 Y1 tl9 all : Led} {xs : List Addr} {bs bs' : List BlockD} {j : Nat} {r : BlockR} {b : BlockD} {n : Int} {mv' : Value} {olb o1 oD : Obj} {I D : Addr} {h₀ h' : Heap} {L : Addr} {m' m₀ : Str → Option Value} {stored : List Str} {s₁ : Shared} {tk' : Nat} {c : String}
    (F : Fr h₀ L h' m') (hm : ∀ z, stored.contains z = false → m' z = m₀ z)
    (N : News h₀ L h' ((r.e.dx, stepObj w { r.e with mv := mv' }) :: (tl9 ++ others all r.e.dx))) (eall : (I, o1) :: (D, oD) :: (fr.lb, olb) :: ((muts w recs ++ tl) ++ Y1) = all)
    (off : ∀ p ∈ [(D, oD), (fr.lb, olb)] ++ ((muts w recs ++ tl) ++ Y1), ∀ q ∈ [(I, c)], p.1 ≠ q.1) (hF : FuncAt w fr recs (tl ++ X1) (tl ++ Y1) bs) (hr : recs[j]? = some r) (hb : bs[j]? = some b)
    (hd : DatIn tl9 mv' (moreDat (b.e.led n))) (hdis : Dis tl9 ((r.e.dx, stepObj w r.e) :: others all r.e.dx)) (hown : OwnOff (muts w recs ++ tl) [D]) (hty : Dis tl Y1) (hxs : recs.map (·.x) = xs) (hbs : bs.set j (ledB n b) = bs') :
    TurnEndF h₀ L stored m₀ [(D, oD), (fr.lb, olb)] (muts w recs ++ tl) Y1 [(I, o1)] s₁ (fun _ M => PartInv w fr xs X1 Y1 D bs' M) { s₁ with heap := h', toks := tk' } := by
  subst hbs
  have hall : ∀ p ∈ (fr.lb, olb) :: (muts w recs ++ (tl ++ Y1)), p ∈ all := by
    intro p hp
    rw [← eall]
    refine .tail _ (.tail _ ?_)
    rw [List.append_assoc]
    exact hp
  obtain ⟨z1, z2, z3, z4, z5⟩ := part_turn (olb := olb) hF hr hb hall hd hdis
  have hex : (r.e.dx, stepObj w r.e) ∈ muts w recs := (muts_mem hr).2
  have hdall : Dis tl9 all := by
    intro p hp q hq
    by_cases e : q.1 = r.e.dx
    · rw [e]; exact hdis p hp _ (.head _)
    · exact hdis p hp q (.tail _ (others_mem hq e))
  have mI : (I, o1) ∈ all := eall ▸ .head _
  have mD : (D, oD) ∈ all := eall ▸ .tail _ (.head _)
  have mL : (fr.lb, olb) ∈ all := eall ▸ .tail _ (.tail _ (.head _))
  have nI : I ≠ r.e.dx := fun e => off _ (List.mem_append.mpr (.inr (List.mem_append.mpr (.inl (List.mem_append.mpr (.inl hex)))))) _ (.head _) e.symm
  have nD : D ≠ r.e.dx := fun e => hown _ (List.mem_append.mpr (.inl hex)) _ (.head _) e.symm
  have nL : fr.lb ≠ r.e.dx := fun e => hF.own _ (List.mem_append.mpr (.inl hex)) _ (.head _) e.symm
  refine ⟨h', tk', m', muts w (recs.set j (ledR r mv')) ++ (tl9 ++ tl), rfl, F, hm, news_sub N fun p hp => ?_, fun p hp => ?_, recs.set j (ledR r mv'), tl9 ++ tl, rfl, z3.trans hxs, z1, fun p hp c' hc => ?_, fun p hp q hq => ?_⟩
  · have hY : ∀ p ∈ all, p.1 ≠ r.e.dx → p ∈ (r.e.dx, stepObj w { r.e with mv := mv' }) :: (tl9 ++ others all r.e.dx) := fun p hp hn => .tail _ (List.mem_append.mpr (.inr (others_mem hp hn)))
    have hp : p ∈ (I, o1) :: (D, oD) :: (fr.lb, olb) :: ((muts w (recs.set j (ledR r mv')) ++ (tl9 ++ tl)) ++ Y1) := hp
    rcases List.mem_cons.mp hp with rfl | hp
    · exact hY _ mI nI
    · rcases List.mem_cons.mp hp with rfl | hp
      · exact hY _ mD nD
      · rcases List.mem_cons.mp hp with rfl | hp
        · exact hY _ mL nL
        · rcases List.mem_append.mp hp with hp | hp
          · rcases List.mem_append.mp hp with hp | hp
            · exact z2 p hp
            · rcases List.mem_append.mp hp with hp | hp
              · exact .tail _ (List.mem_append.mpr (.inl hp))
              · exact .tail _ (List.mem_append.mpr (.inr (z5 p (List.mem_append.mpr (.inl hp)))))
          · exact .tail _ (List.mem_append.mpr (.inr (z5 p (List.mem_append.mpr (.inr hp)))))
  · rcases List.mem_append.mp hp with hp | hp
    · obtain ⟨q, hq, e⟩ := z4 p hp
      exact .inl ⟨q, List.mem_append.mpr (.inl hq), e⟩
    · rcases List.mem_append.mp hp with hp | hp
      · refine .inr fun q hq => ?_
        rw [List.mem_singleton.mp hq]; exact hdall p hp _ mI
      · exact .inl ⟨p, List.mem_append.mpr (.inr hp), rfl⟩
  · rw [List.mem_singleton.mp hc]
    rcases List.mem_append.mp hp with hp | hp
    · obtain ⟨q, hq, e⟩ := z4 p hp
      rw [← e]
      exact hown q (List.mem_append.mpr (.inl hq)) _ (.head _)
    · rcases List.mem_append.mp hp with hp | hp
      · exact hdall p hp _ mD
      · exact hown p (List.mem_append.mpr (.inr hp)) _ (.head _)
  · rcases List.mem_append.mp hp with hp | hp
    · exact hdall p hp q (eall ▸ .tail _ (.tail _ (.tail _ (List.mem_append.mpr (.inr hq)))))
    · exact hty p hp q hq
/-- the block made last -/
theorem bsAt_last {n : Int} {f0 b0 : BlockD} {br : List BlockD} {i : Nat} (hi : i < (br ++ [lastB n b0]).length) : ∃ b, (bsAt n f0 (br ++ [lastB n b0]) i)[br.length + 1]? = some b ∧ b.num = n := by
  rw [List.length_append, List.length_singleton] at hi
  have hl : (((br ++ [lastB n b0]).take i).map (ledB n)).length = i := by rw [List.length_map, List.length_take, List.length_append, List.length_singleton]; omega
  refine ⟨lastB n b0, ?_, rfl⟩
  unfold bsAt
  rw [List.getElem?_cons_succ, List.getElem?_append_right (by omega), hl, List.getElem?_drop, show i + (br.length - i) = br.length by omega, List.getElem?_append_right (Nat.le_refl _), Nat.sub_self]
  rfl
theorem slice_tail (v : Value) (vs : List Value) : (slicePick (List.toArray (v :: vs)) (some 1) none none).toList = vs := by
  have e : sliceBounds (some 1) none none (List.toArray (v :: vs)).size = (((1 : Nat) : Int), (((v :: vs).length : Nat) : Int), 1) := by
    rw [List.size_toArray]
    simp only [sliceBounds, Option.getD_none, show (1 : Int) > 0 by decide, if_true, if_neg (show ¬ ((1 : Int) < 0) by decide)]
    congr 1
    rw [List.length_cons]
    omega
  rw [kmk_pick_nat _ e]
  show List.take ((v :: vs).length - 1) (List.drop 1 (v :: vs)) = vs
  rw [List.drop_one, List.tail_cons, List.length_cons, Nat.add_sub_cancel, List.take_length]
theorem rec_at {recs : List BlockR} {xs : List Addr} (h : recs.map (·.x) = xs) {i : Nat} {x : Addr} (hx : xs[i]? = some x) : ∃ r, recs[i]? = some r ∧ r.x = x := by
  rw [← h, List.getElem?_map] at hx
  exact Option.map_eq_some_iff.mp hx
theorem val_at {vs : List Addr} {i : Nat} {a : Itm} (h : ((vs.map Value.ref).map Itm.val)[i]? = some a) : ∃ x, vs[i]? = some x ∧ a = .val (.ref x) := by
  rw [List.getElem?_map, List.getElem?_map] at h
  obtain ⟨v, h1, h2⟩ := Option.map_eq_some_iff.mp h
  obtain ⟨x, h3, h4⟩ := Option.map_eq_some_iff.mp h1
  exact ⟨x, h3, by rw [← h2, ← h4]⟩
end Mine
namespace Mine
theorem mem_mid {p : Addr × Obj} {m tl X : Led} (h : p ∈ tl ++ X) : p ∈ (m ++ tl) ++ X := by
  rw [List.append_assoc]; exact mem_apr h
theorem goals_tlb {b0 : BlockD} {br : List BlockD} {n : Int} (hg : ∀ b ∈ b0 :: br, b.e.goals.length ≤ 4) : ∀ b ∈ br ++ [lastB n b0], b.e.goals.length ≤ 4 := by
  intro b hb
  rcases List.mem_append.mp hb with hb | hb
  · exact hg b (.tail _ hb)
  · rw [List.mem_singleton.mp hb]; exact hg b0 (.head _)
theorem parted_yes {b0 : BlockD} {br : List BlockD} {n : Int} {lz : List Bool} (h : lz.any id = (b0 :: br).any fun b => hasZero b.e) (hz : lz.any id = true) (hn : n = (((b0 :: br).length : Nat) : Int)) : parted (b0 :: br) = partedBy n b0 br := by
  show (if (b0 :: br).any (fun b => hasZero b.e) then partedBy ((b0 :: br).length : Nat) b0 br else b0 :: br) = _
  rw [if_pos (h ▸ hz), hn]
theorem parted_no {b0 : BlockD} {br : List BlockD} {lz : List Bool} (h : lz.any id = (b0 :: br).any fun b => hasZero b.e) (hz : lz.any id = false) : parted (b0 :: br) = b0 :: br := by
  show (if (b0 :: br).any (fun b => hasZero b.e) then partedBy ((b0 :: br).length : Nat) b0 br else b0 :: br) = _
  rw [if_neg]
  rw [← h, hz]
  decide
theorem part_no {w : World} {fr : FuncR} {recs : List BlockR} {nb : Nat} {X Y acc : Led} {b0 : BlockD} {br : List BlockD} {lz : List Bool} {h₀ h : Heap} {L D9 : Addr} {o9 : Obj} (hF : FuncAt w fr recs X Y (b0 :: br)) (he : lz.any id = (b0 :: br).any fun b => hasZero b.e) (hz : lz.any id = false)
    (N : News h₀ L h ((D9, o9) :: (fr.lb, listOf (List.toArray (refsOf recs)) nb) :: (acc ++ (muts w recs ++ Y)))) : ∃ news', News h₀ L h news' ∧ PartPost w fr X Y (parted (b0 :: br)) .none news' := by
  refine ⟨funcLed w fr recs nb ([] ++ Y), news_sub N fun p hp => ?_, recs, nb, [], rfl, rfl, ?_, dis_nil⟩
  · rcases List.mem_cons.mp hp with rfl | hp
    · exact .tail _ (.head _)
    · exact .tail _ (.tail _ (List.mem_append.mpr (.inr hp)))
  · rw [parted_no he hz]; exact hF
theorem part_yes {w : World} {fr : FuncR} {xs : List Addr} {nb : Nat} {X Y M : Led} {b0 : BlockD} {br : List BlockD} {lz : List Bool} {h₀ h : Heap} {L D : Addr} {oD : Obj} {n : Int} {k : Nat} (he : lz.any id = (b0 :: br).any fun b => hasZero b.e) (hz : lz.any id = true) (hn : n = (((b0 :: br).length : Nat) : Int))
    (hK : PartInv w fr xs X Y D (bsAt n (firstB n b0) (br ++ [lastB n b0]) k) M) (hk : k = (br ++ [lastB n b0]).length)
    (N : News h₀ L h ((D, oD) :: (fr.lb, listOf (List.toArray (xs.map Value.ref)) (nb + 1)) :: (M ++ Y))) : ∃ news', News h₀ L h news' ∧ PartPost w fr X Y (parted (b0 :: br)) .none news' := by
  obtain ⟨recs, tl, rfl, hxs, hF, _, hty⟩ := hK
  rw [hk, bsAt_end] at hF
  refine ⟨funcLed w fr recs (nb + 1) (tl ++ Y), news_sub N fun p hp => ?_, recs, nb + 1, tl, rfl, rfl, ?_, hty⟩
  · have hp : p ∈ (fr.lb, listOf (List.toArray (refsOf recs)) (nb + 1)) :: (muts w recs ++ (tl ++ Y)) := hp
    rw [refs_xs, hxs] at hp
    rcases List.mem_cons.mp hp with rfl | hp
    · exact .tail _ (.head _)
    · rw [List.append_assoc]
      exact .tail _ (.tail _ hp)
  · rw [parted_yes he hz hn]; exact hF
end Mine
namespace Mine
theorem app_sub {tl X Y : Led} (h : ∀ p ∈ X, p ∈ Y) : ∀ p ∈ tl ++ X, p ∈ tl ++ Y := fun p hp => (List.mem_append.mp hp).elim mem_apl fun hp => mem_apr (h p hp)
end Mine
namespace Mine
theorem part_pack2 {G : Prop} {w : World} {fr : FuncR} {r0 : BlockR} {rs : List BlockR} {X Y all : Led} {b0 : BlockD} {br : List BlockD} {n num dst : Int} {h₀ h : Heap} {L la l1 bx bd : Addr} {er : StepR} {k1 k2 k3 tn t4 : Tok} {op : Str} {na n1 nb : Nat} {olb : Array Value}
    (N : News h₀ L h all) (hok : FuncOk w X fr) (hB0 : BlockIs w X r0 b0) (hBs : All2 (BlockIs w X) rs br) (nd : ((muts w rs).map (·.1)).Nodup) (ds : Dis (muts w rs) Y)
    (own2 : OwnOff (muts w rs ++ Y) [fr.lb, r0.dx, r0.e.dx]) (e1 : @Ne Nat fr.lb r0.dx) (e2 : @Ne Nat fr.lb r0.e.dx) (e3 : @Ne Nat r0.dx r0.e.dx)
    (hlb : (fr.lb, listOf olb (nb + 1)) ∈ all) (holb : olb = (List.toArray (.ref r0.x :: refsOf rs)).push (.ref bx))
    (her : StepGot er op dst la (.int n t4)) (hx : (er.x, instObj 31 er.dx) ∈ all) (hd : (er.dx, stepObj w er) ∈ all)
    (hla : (la, listOf (List.toArray []) na) ∈ all) (hl1 : (l1, listOf (List.toArray []) n1) ∈ all) (hbx : (bx, instObj 52 bd) ∈ all)
    (hbd : (bd, dictOf [ent w "number" k1 (.int num tn), ent w "steps" k2 (.ref r0.ls), ent w "end" k3 (.ref r0.e.x)] 3) ∈ all)
    (h0 : (r0.dx, dictOf [ent w "number" r0.k1 (.int r0.num r0.tn), ent w "steps" r0.k2 (.ref l1), ent w "end" r0.k3 (.ref er.x)] 3) ∈ all) (he0 : (r0.e.dx, stepObj w r0.e) ∈ all) (hr : ∀ p ∈ muts w rs ++ Y, p ∈ all)
    (hop : op = Str.ofString "jump") (hdst : dst = -1) (hnum : num = n)
    (hA : OwnOff (muts w rs ++ Y) [er.x, er.dx, la, l1, bx, bd]) (hB : ∀ o1 o2 o3 o4 : Obj, OwnOff [(er.x, o1), (la, o2), (l1, o3), (bx, o4)] [r0.dx, er.dx, bd, r0.e.dx, fr.lb]) (hC : ∀ o1 o2 : Obj, OwnOff [(er.dx, o1), (bd, o2)] [r0.dx, r0.e.dx, fr.lb]) (hD : @Ne Nat er.dx bd)
    (k : ∀ (recs1 : List BlockR) (tl : Led) (bx' : Addr), bx' = bx → Dis tl Y → FuncAt w fr recs1 (tl ++ X) (tl ++ Y) (bsAt n (firstB n b0) (br ++ [lastB n b0]) 0) → News h₀ L h ((fr.lb, listOf (List.toArray (refsOf recs1)) (nb + 1)) :: (muts w recs1 ++ (tl ++ Y))) → recs1.map (·.x) = r0.x :: (rs.map (·.x) ++ [bx']) → G) : G := by
  obtain ⟨x, dx, q1, q2, q3, q4, q5, q6, op', t1, dst', t2, la', mv', t6⟩ := er
  obtain ⟨rfl, rfl, rfl, rfl⟩ := her
  exact part_pack N hok hB0 hBs nd ds own2 e1 e2 e3 hlb holb hx hd hla hl1 hbx hbd h0 he0 hr hop hdst hnum hA hB hC hD k
section
theorem kset13 : True := by
  k_with_none
  k_with "M gen" => ((fail_if_success (goal_lacks Mine.MidEnd Mine.MoreQ Mine.NewEnd Mine.TurnPostF PyProof.Rows.LCg.CompSrc PyProof.Rows.LCt.CompSrcT)); k_fold)
  k_with "M steps" => (repeat' (first | k_extra "M gen" | (k_unfold; (try dsimp only)) | (k_end; wrow_close) | walk1 | (dsimp only; walk1) | (leave1; walk_say "STEP leave1"; try dsimp only) | fail "no step"))
  k_with "M enterC" => ((refine' code_defC ?k1q17 ?k2q17 ?k3q17 ?k4q17 ?k5q17 ?kAq17 ?kFq17 ?kKq17 ?k6q17 ?k7q17 ?k8q17 ?k9q17 ?kBq17 ?kDq17 ?_ ?c2q17 ?c3q17 ?c4q17; (case kAq17 => exact rfl); (case kFq17 => exact rfl); (case kKq17 => assumption); (case k1q17 => k_asm); (case k2q17 => k_asm); (case k3q17 => k_asm); (case k4q17 => k_asm); (case k5q17 => k_asm); (case k6q17 => k_is); (case k7q17 => k_is); (case k8q17 => ktr_room); (case k9q17 => exact BindsTo.of_eq rfl); (case kBq17 => exact rfl); (case kDq17 => decide +kernel); (case c2q17 => exact rfl); (case c3q17 => exact rfl); (case c4q17 => exact rfl); k_whole; intro g'zq L'zq h'zq tk'zq cells'zq FG'zq F'zq N'zq Y'zq B'zq X'zq T'zq l1zq; k_cells Y'zq; (try simp only [List.cons_append, List.nil_append] at N'zq); (try dsimp only); (try k_fold)))
  k_with "M enter" => ((refine' code_def ?k1q18 ?k2q18 ?k3q18 ?k4q18 ?k5q18 ?kAq18 ?kFq18 ?kKq18 ?k6q18 ?k7q18 ?k8q18 ?k9q18 ?kBq18 ?_ ?c2q18 ?c3q18 ?c4q18 ?c5q18; (case kAq18 => exact rfl); (case kFq18 => exact rfl); (case kKq18 => first | exact rfl | assumption); (case k1q18 => k_asm); (case k2q18 => k_asm); (case k3q18 => k_asm); (case k4q18 => k_asm); (case k5q18 => k_asm); (case k6q18 => k_is); (case k7q18 => k_is); (case k8q18 => ktr_room); (case k9q18 => exact BindsTo.of_eq rfl); (case c5q18 => decide); (case kBq18 => exact locs rfl); (case c2q18 => exact rfl); (case c3q18 => exact rfl); (case c4q18 => exact rfl); k_whole; intro g'zq L'zq h'zq FG'zq F'zq N'zq B'zq X'zq T'zq; (try dsimp only); (try k_fold)))
  k_with "M mem" => (first | exact mem_hd | (with_reducible refine mem_tl ?_; k_extra "M mem") | with_reducible assumption | (with_reducible refine mem_apr ?_; k_extra "M mem") | (with_reducible refine mem_apl ?_; k_extra "M mem"))
  k_with "M ne" => ((refine neN ?_; (try dsimp only); first | exact Nat.ne_of_lt (by with_reducible assumption) | exact Nat.ne_of_gt (by with_reducible assumption) | with_reducible assumption | exact Ne.symm (by with_reducible assumption) | omega))
  k_with "M all" => (first | exact List.forall_mem_nil _ | with_reducible assumption | (with_reducible refine' List.forall_mem_cons.mpr ⟨?aq21, ?bq21⟩; (case aq21 => k_extra "M ne"); (case bq21 => k_extra "M all")) | (refine' allLt_ne ?dAq21; (case dAq21 => with_reducible assumption)) | (refine' off1_ne ?dAq21; (case dAq21 => with_reducible assumption)) | (refine' OwnOff.ne ?dAq21 ?dBq21; (case dAq21 => with_reducible assumption); (case dBq21 => k_memK)) | (refine' ne_app ?nAq21 ?nBq21; (case nAq21 => k_extra "M all"); (case nBq21 => k_extra "M all")) | (refine' dis_ne ?dAq21 ?dBq21; (case dAq21 => with_reducible assumption); (case dBq21 => k_extra "M mem")) | (refine' allLt_app ?dAq21; (case dAq21 => with_reducible assumption)) | (refine' allLt_apl ?dAq21; (case dAq21 => with_reducible assumption)) | (refine' allLt_ne_lt ?dAq21 ?dBq21; (case dAq21 => with_reducible assumption); (case dBq21 => with_reducible assumption)))
  k_with "newList" => ((k_here; k_dflt (refine' newList_K ?k1q22 ?k2q22 ?_; (case k1q22 => k_asm); (case k2q22 => k_asm); k_whole); intro l'zq h'zq F'zq N'zq l1zq; (try k_lt l1zq); (try k_sweep); k_extra "M split"))
  k_with "newTuple" => ((k_here; k_dflt (refine' kup_newTuple ?Fq23 ?Nq23 ?_ ?zq23; (case Fq23 => k_asm); (case Nq23 => k_asm); (case zq23 => kmk_size)); intro D'zq h'zq F'zq N'zq l1zq; (try k_lt l1zq); (try k_sweep); k_extra "M split"))
  k_with "call type:list" => ((k_here; (with_reducible show wpAny _ _ (call (Value.type _) [Value.ref _]) _ _ _); k_dflt (first | (refine' list_copyK ?k1q24 ?k2q24 ?k3q24 ?_ ?zq24; (case k1q24 => k_asm); (case k2q24 => k_asm); (case k3q24 => exact News.isList (by k_asm) (by k_extra "M mem")); (case zq24 => first | exact Nat.le_of_ble_eq_true rfl | (rw [List.size_toArray, sizeLine_eq]; omega) | exact kmk_sz (by with_reducible assumption) (by rw [sizeLine_eq]; omega)); k_whole) | (refine' list_copyKT ?k1q24 ?k2q24 ?k3q24 ?_ ?zq24; (case k1q24 => k_asm); (case k2q24 => k_asm); (case k3q24 => exact News.isTup (by k_asm) (by k_extra "M mem")); (case zq24 => exact Nat.le_of_ble_eq_true rfl); k_whole)); intro D'zq c'zq h'zq F'zq N'zq l1zq; (try k_lt l1zq); (try k_sweep); k_extra "M split"))
  k_with "M own" => (first | exact own_nil | (refine own_cons ?oAq25 ?oBq25; (case oAq25 => k_extra "M all"); (case oBq25 => k_extra "M own")))
  k_with "M dis" => (first | exact dis_nil | (refine dis_cons ?dAq26 ?dBq26; (case dAq26 => k_extra "M all"); (case dBq26 => k_extra "M dis")))
  k_with "M split" => (repeat ((with_reducible rename (_ ∧ _) => hc9zq); have hc9azq := hc9zq.1; have hc9bzq := hc9zq.2; clear hc9zq))
  k_with "M eq" => (first | exact eqs0 | exact eqs1 | exact eqs2 | exact eqs3 | exact eqs4 | exact eqs5 | exact eqs6 | exact eqs7 | exact eqs8 | exact eqs9 | exact eqs10 | exact eqs11 | exact eqs12 | exact eqs13 | exact eqs14 | exact eqs15 | exact eqs16)
  k_with "M tails" => ((intro pzq hpzq; (try dsimp only [List.cons_append, List.nil_append] at hpzq ⊢); repeat (first | with_reducible exact hpzq | with_reducible exact mem_apl hpzq | with_reducible refine List.mem_cons_of_mem _ ?_ | with_reducible refine mem_apr ?_)))
  k_with "M at" => (first | exact mem_hd | (refine mem_tl ?_; k_extra "M at"))
  k_with "M same" => ((intro zzq hzzq; (try dsimp only); (repeat (refine Eq.trans (same_if rfl hzzq) ?_)); first | exact same_frm hzzq | rfl))
  k_with "M clear" => (((repeat ((with_reducible rename (@LT.lt Nat _ _ _) => zzzq); clear zzzq)); (repeat ((with_reducible rename (AllLt _ _) => zzzq); clear zzzq))))
  k_with "M use" => (((case c1 => k_asm); (case c2 => k_asm); (case c3 => k_asm); (case c4 => k_asm); (case c5 => k_asm); (case c6 => first | exact rfl | assumption); (case c7 => ktr_room); (case c8 => ktr_units); k_whole))
  k_with "call builtin:list.append" => ((k_here; k_dflt (refine' append_any ?k1q34 ?k2q34 ?k3q34 ?k4q34 ?_; (case k1q34 => k_asm); (case k2q34 => k_asm); (case k3q34 => k_upd); (case k4q34 => with_reducible assumption)); intro h'zq F'zq N'zq))
  k_with "call builtin:len" => ((k_here; (with_reducible show wpAny _ _ (call (Value.builtin "len") [Value.ref _]) _ _ _); k_dflt (refine' kun_lenL ?k1q35 ?k2q35 ?k3q35 ?_; (case k1q35 => exact News.isList (by k_asm) (by k_extra "M mem")); (case k2q35 => with_reducible assumption); (case k3q35 => omega); k_whole)))
  k_with "binaryOp Add ref ref" => ((k_here; (with_reducible show wpAny _ _ (binaryOp _ (Value.ref _) (Value.ref _)) _ _ _); k_dflt (refine' kmk_add_ints ?Fq36 ?Nq36 ?aq36 ?bq36 ?iq36 ?jq36 ?_ ?zq36; (case Fq36 => k_asm); (case Nq36 => k_asm); (case aq36 => exact News.isList (by k_asm) (by k_extra "M mem")); (case bq36 => exact News.isList (by k_asm) (by k_extra "M mem")); (case iq36 => with_reducible assumption); (case jq36 => exact .cons _ _ .nil); (case zq36 => rw [sizeLine_eq, List.length_singleton]; omega)); intro D'zq ws'zq h'zq F'zq N'zq l1zq hI'zq; (try k_lt l1zq); (try k_sweep); k_extra "M split"))
  k_with "call ref" => ((k_here; k_dflt (refine' call_cls ?k1q58 ?k2q58 ?k3q58 ?k4q58 ?k5q58 ?k6q58 ?_; (case k1q58 => k_asm); (case k2q58 => k_asm); (case k3q58 => k_asm); (case k4q58 => k_is); (case k5q58 => k_is); (case k6q58 => k_is); k_whole; intro x'zq d'zq h'zq F'zq N'zq l1zq l2zq; (try k_lt l1zq); (try k_lt2 l2zq); (try k_sweep); k_extra "M split"; k_extra "M enter")))
  k_with "call ref" => ((k_here; (with_reducible show wpAny _ _ (call (Value.ref 31) _ _) _ _ _); k_dflt (refine' step_use ?k1q59 ?k2q59 ?k3q59 ?k4q59 ?k5q59 ?k6q59 ?k7q59 ?k8q59 ?_; (case k1q59 => k_asm); (case k2q59 => k_asm); (case k3q59 => k_asm); (case k4q59 => k_asm); (case k5q59 => k_asm); (case k6q59 => first | exact rfl | assumption); (case k7q59 => ktr_room); (case k8q59 => ktr_units); k_whole); intro r'zq h'zq tk'zq F'zq N'zq l1zq l2zq l3zq e1zq; (try k_lt l1zq); (try k_lt l2zq); (try dsimp only); (try k_fold); (try k_sweep); k_extra "M split"))
  k_with "call ref" => ((k_here; (with_reducible show wpAny _ _ (call (Value.ref 52) _ _) _ _ _); k_dflt (refine' block_use ?k1q60 ?k2q60 ?k3q60 ?k4q60 ?k5q60 ?k6q60 ?k7q60 ?k8q60 ?_; (case k1q60 => k_asm); (case k2q60 => k_asm); (case k3q60 => k_asm); (case k4q60 => k_asm); (case k5q60 => k_asm); (case k6q60 => first | exact rfl | assumption); (case k7q60 => ktr_room); (case k8q60 => ktr_units); k_whole); intro x'zq d'zq l'zq k1'zq k2'zq k3'zq tn'zq h'zq tk'zq F'zq N'zq l1zq l2zq l3zq e1zq; (try k_lt l1zq); (try k_lt l2zq); (try k_lt l3zq); (try dsimp only); (try k_fold); (try k_sweep); k_extra "M split"))
  k_with "call ref" => ((k_here; (with_reducible show wpAny _ _ (call (Value.ref 84) _ _) _ _ _); refine Stop.mk ?_))
  k_with "call ref" => ((k_here; (with_reducible show wpAny _ _ (call (Value.ref 89) _ _) _ _ _); refine Stop.mk ?_))
  k_with "CompSrc" => (refine Stop.mk ?_)
  k_with "eval ListComp" => ((k_here; k_dflt (refine LCg.ListComp_U (F₀ := by k_asm) (by with_unfolding_all rfl) (by decide) (by rfl) (by decide) (by rfl) ?_)))
  k_with "compareOp In int ref" => ((k_here; k_dflt (refine in_list_ints (News.isList (by k_asm) mem_hd) (by with_reducible assumption) ?_)))
  k_with "call builtin:any" => ((k_here; (with_reducible show wpAny _ _ (call (Value.builtin "any") [Value.ref _]) _ _ _); k_dflt (refine' LSm.any_bools ?k1q66 ?k2q66 ?k3q66 ?k4q66 ?k5q66 ?_; (case k1q66 => k_asm); (case k2q66 => k_asm); (case k3q66 => rfl); (case k4q66 => exact News.isList (by k_asm) mem_hd); (case k5q66 => with_reducible assumption); k_whole); intro h'zq tk'zq F'zq N'zq))
  k_with "exec For Name Subscript cons nil" => (refine Stop.mk ?_)
  k_with "exec For Name Subscript" => (refine Stop.mk ?_)
  k_with "subscriptTail Name Constant ref int" => (refine Stop.mk ?_)
  k_with "subscriptTail Name Slice ref ref" => (refine Stop.mk ?_)
  k_with "pyIter ref" => (refine Stop.mk ?_)
  trivial
set_option maxRecDepth 100000 in
set_option maxHeartbeats 8000000 in
theorem part_ctr (w : World) (fr : FuncR) (recs : List BlockR) (nb : Nat) (X Y : Led) (b0 : BlockD) (br : List BlockD) (hF : FuncAt w fr recs X Y (b0 :: br)) (sXY : ∀ p ∈ X, p ∈ Y) (hlen : (b0 :: br).length ≤ 5) (hg : ∀ b ∈ b0 :: br, b.e.goals.length ≤ 4) :
    Ctr w 94 6 [.ref fr.x] (funcLed w fr recs nb Y) (PartPost w fr X Y (parted (b0 :: br))) := by
  unfold Ctr
  k_fill
  w_top off
  intro p loose mean mg mb dp un gd cn cs a ccd cl outer A₀ base h₀ L m s Q E BB F X9 N T hk hd hu hret
  have hfi := sXY _ hF.ok.inst
  have hfd := sXY _ hF.ok.dict
  dsimp only [funcObj, ent] at hfd
  have hsz : (List.toArray (refsOf recs)).size ≤ 5 := by
    rw [List.size_toArray]
    unfold refsOf
    rw [List.length_map, hF.blocks.length]
    exact hlen
  refine wpAny_call ?_
  k_dflt ktr_enter
  k_extra "M steps"
  refine Stop.go ?_
  refine LCg.CompSrc.ledger (k := nb) (by rfl) (by k_asm) (by k_asm) (by k_extra "M mem") (by rw [sizeLine_eq]; omega) ?_
  intro g9
  refine' comp_new _ (muts w recs ++ Y) (fun i ys acc => LSm.BoolsAre ys (((b0 :: br).take i).map fun b => hasZero b.e)) ?gn ?g0 ?gS ?gstep ?gfin
  case gn => k_extra "M eq"
  case g0 => exact .nil
  case gS => exact fun M => .inr ⟨_, .head _, rfl, _, rfl⟩
  case gstep =>
    rintro i ys acc v I9 oI C oC D m₂ h tk E' hi hK hv hC hx F N off ne hdd
    obtain ⟨r, hr, rfl⟩ := refs_at (i := i) (by simpa using hv)
    obtain ⟨b, hb, hB⟩ := hF.blocks.get' hr
    dsimp only [List.cons_append, List.nil_append] at N off hdd
    k_extra "M steps"
    refine Stop.go ?_
    have z1 := sXY _ hB.inst
    have z2 := sXY _ hB.einst
    have z3 := muts_mem (w := w) hr
    have z4 := z3.1
    have z5 := z3.2
    refine' Ctr.use (followers_ctr w r b.e _ ?q1 ?q2 ?q3 ?q4 ?q5 ?q6) ?c1 ?c2 ?c3 ?c4 ?c5 ?c6 ?c7 ?c8 (fun q hq => hq) ?_
    k_extra "M use"
    case q1 => k_extra "M mem"
    case q2 => k_extra "M mem"
    case q3 => k_extra "M mem"
    case q4 => k_extra "M mem"
    case q5 => exact (hB.e.mono sXY).mono (by k_extra "M tails")
    case q6 => exact hg _ (List.mem_of_getElem? hb)
    intro res n9 h9 tk9 F9 N9 P9
    obtain ⟨l9, vs9, m9, rfl, rfl, hI9⟩ := P9
    k_extra "M steps"
    refine' new_same ?sF ?sN ?ss ?sk
    case sF => k_asm
    case sN => k_asm
    case ss => k_extra "M tails"
    case sk => exact bools_step hK hb rfl
  intro ys acc hK hdd
  obtain ⟨lz, hlz, elz⟩ := any_zero hK (by rw [List.size_toArray]; unfold refsOf; rw [List.length_map, hF.blocks.length])
  unfold LCg.FinE
  intro D9 h9 tk9 F9 N9 o9
  dsimp only [List.cons_append, List.nil_append] at N9 hdd
  simp only [LCg.Off1, List.cons_append, List.nil_append] at o9
  k_extra "M split"
  dsimp only
  try k_fold
  k_extra "M steps"
  · rename (News _ _ _ _) => Nz
    rename (List.any lz id = true) => hz
    obtain ⟨r0, rs, rfl, hB0, hBs, N2, own2, e1, e2, e3, nd, ds⟩ := part_start hF Nz
    clear Nz
    dsimp only [ent] at N2
    have z1 := sXY _ hB0.inst
    have z2 := sXY _ hB0.einst
    obtain ⟨n, en⟩ : ∃ n : Int, n = (((b0 :: br).length : Nat) : Int) := ⟨_, rfl⟩
    have hk2 : (((List.toArray (Value.ref r0.x :: refsOf rs)).size : Nat) : Int) = n := by
      rw [en, ← hF.blocks.length, List.size_toArray]
      unfold refsOf
      rw [List.length_cons, List.length_map, List.length_cons]
    have hn0 : 0 ≤ n := by omega
    have hn5 : n ≤ 5 := by omega
    try refine Stop.go ?_
    refine PyProof.Rows.item_list (x := .ref r0.x) (News.isList N2 mem_hd) (by decide) (by decide) rfl ?_
    k_extra "M steps"
    k_extra "M split"
    rename (News _ _ _ ((_, _) :: (_, instObj 31 _) :: _)) => Nz
    refine' part_pack2 Nz hF.ok hB0 hBs nd ds own2 e1 e2 e3 ?plb rfl ?pgot ?px ?pd ?pla ?pl1 ?pbx ?pbd ?p0 ?pe0 ?pr rfl rfl rfl ?pA ?pB ?pC ?pD ?k
    case pgot => with_reducible assumption
    case p0 => k_extra "M at"
    case px => k_extra "M at"
    case pd => k_extra "M at"
    case pla => k_extra "M at"
    case pl1 => k_extra "M at"
    case plb => k_extra "M at"
    case pbx => k_extra "M at"
    case pbd => k_extra "M at"
    case pe0 => k_extra "M at"
    case pr => k_extra "M tails"
    case pA => k_extra "M own"
    case pB => intro o1 o2 o3 o4; k_extra "M own"
    case pC => intro o1 o2; k_extra "M own"
    case pD => k_extra "M ne"
    clear Nz
    intro recs1 tl1 bx ebx htY hF1 N1 hxs
    subst ebx
    have er : refsOf recs1 = Value.ref r0.x :: (rs.map BlockR.x ++ [bx]).map Value.ref := by rw [refs_xs, hxs]; rfl
    rw [er, ← List.append_assoc] at N1
    have hsz2 : (List.toArray (Value.ref r0.x :: (rs.map BlockR.x ++ [bx]).map Value.ref)).size ≤ sizeLine := by
      rw [← er, List.size_toArray, sizeLine_eq]
      unfold refsOf
      rw [List.length_map, hF1.blocks.length, bsAt_zero, List.length_cons, List.length_append, List.length_singleton]
      rw [List.length_cons] at hlen
      omega
    have hsz1 := hF1.blocks.length
    refine Stop.go ?_
    refine For_turns (by k_asm) ?_
    k_extra "M steps"
    refine Stop.go ?_
    refine' kmk_slice_lit ?zzF ?zzN ?zzl ?zzp ?zzq ?zze ?_ ?zzs ?zzt ?zzz
    case zzF => k_asm
    case zzN => k_asm
    case zzl => exact News.isList (by k_asm) (by k_extra "M mem")
    case zzp => kmk_part
    case zzq => kmk_part
    case zze => exact slice_tail _ _
    case zzs => with_unfolding_all rfl
    case zzt => kmk_pure
    case zzz => exact hsz2
    intro D' h' F' N' l1
    have hD9 := l1
    k_lt l1
    k_extra "M split"
    k_extra "M steps"
    refine Stop.go ?_
    refine iter_listTurns (by rfl) (by k_asm) (by k_asm) mem_hd rfl rfl ?_
    intro I hI
    try dsimp only
    refine' items_fr [Str.ofString "block"] [(D', _), (fr.lb, _)] (muts w recs1 ++ tl1) Y (fun i _ M => PartInv w fr (r0.x :: (rs.map BlockR.x ++ [bx])) X Y D' (bsAt n (firstB n b0) (br ++ [lastB n b0]) i) M) ?hn ?hh0 ?hhk ?hoff ?hstep ?hfin
    case hn => exact rfl
    case hh0 =>
      refine ⟨recs1, tl1, rfl, hxs, hF1, fun p hp b hb => ?_, htY⟩
      rw [List.mem_singleton.mp hb]
      exact Nat.ne_of_lt (hD9 p (.tail _ (List.mem_append.mpr (.inl hp))))
    case hhk => exact fun M => ⟨.head _, trivial⟩
    case hoff =>
      intro p hp q hq
      rw [List.mem_singleton.mp hq]
      exact Nat.ne_of_lt (hI p hp)
    case hstep =>
      rintro i u M a9 v h tk its hx ha ⟨recs2, tl2, rfl, hxs2, hF2, hown2, hty2⟩ ho off F N
      obtain ⟨x, hx1, rfl⟩ := val_at hx
      have ha : v = .ref x := ha
      subst ha
      obtain ⟨o1, rfl⟩ := objs_one ho
      have hil := (List.getElem?_eq_some_iff.mp hx1).1
      have hbrs := hBs.length
      rw [List.length_append, List.length_map, List.length_singleton] at hil
      obtain ⟨r, hr, hrx⟩ := rec_at hxs2 (i := i + 1) (x := x) (by rw [List.getElem?_cons_succ]; exact hx1)
      subst hrx
      obtain ⟨b, hb1⟩ : ∃ b, (br ++ [lastB n b0])[i]? = some b := ⟨_, List.getElem?_eq_getElem (by rw [List.length_append, List.length_singleton]; omega)⟩
      obtain ⟨hb2, hb3⟩ := bsAt_step (n := n) (f0 := firstB n b0) hb1
      obtain ⟨b', hb', hB⟩ := hF2.blocks.get' hr
      obtain rfl : b' = b := by rw [hb2] at hb'; exact (Option.some.inj hb').symm
      obtain ⟨bl, hbl1, hbl2⟩ := bsAt_last (n := n) (f0 := firstB n b0) (b0 := b0) (br := br) (i := i) (by rw [List.length_append, List.length_singleton]; omega)
      obtain ⟨rl, hrl, hrlx⟩ := rec_at hxs2 (i := br.length + 1) (x := bx) (by rw [List.getElem?_cons_succ, List.getElem?_append_right (by rw [List.length_map]; omega), List.length_map, hbrs, Nat.sub_self]; rfl)
      obtain ⟨bl', hbl', hBl⟩ := hF2.blocks.get' hrl
      obtain rfl : bl' = bl := by rw [hbl1] at hbl'; exact (Option.some.inj hbl').symm
      have hnum : rl.num = n := hBl.num.trans hbl2
      have sTY : ∀ p ∈ tl2 ++ X, p ∈ tl2 ++ Y := app_sub sXY
      have z1 : (r.x, instObj 52 r.dx) ∈ (muts w recs2 ++ tl2) ++ Y := mem_mid (sTY _ hB.inst)
      have z4 : (r.dx, dictOf [ent w "number" r.k1 (.int r.num r.tn), ent w "steps" r.k2 (.ref r.ls), ent w "end" r.k3 (.ref r.e.x)] 3) ∈ (muts w recs2 ++ tl2) ++ Y := mem_apl (mem_apl (muts_mem hr).1)
      have z5 : (r.e.dx, stepObj w r.e) ∈ (muts w recs2 ++ tl2) ++ Y := mem_apl (mem_apl (muts_mem hr).2)
      have z6 : (bx, instObj 52 rl.dx) ∈ (muts w recs2 ++ tl2) ++ Y := by rw [← hrlx]; exact mem_mid (sTY _ hBl.inst)
      have z7 : (rl.dx, dictOf [ent w "number" rl.k1 (.int n rl.tn), ent w "steps" rl.k2 (.ref rl.ls), ent w "end" rl.k3 (.ref rl.e.x)] 3) ∈ (muts w recs2 ++ tl2) ++ Y := by rw [← hnum]; exact mem_apl (mem_apl (muts_mem hrl).1)
      dsimp only [ent] at z4 z7
      dsimp only [List.cons_append, List.nil_append] at N
      generalize hXa : (muts w recs2 ++ tl2) ++ Y = XA at N z1 z4 z5 z6 z7
      k_extra "M steps"
      refine Stop.go ?_
      have hY : ∀ p ∈ tl2 ++ Y, p ∈ others ((I, o1) :: (D', listOf (List.toArray ((rs.map BlockR.x ++ [bx]).map Value.ref)) 0) :: (fr.lb, listOf (List.toArray (Value.ref r0.x :: (rs.map BlockR.x ++ [bx]).map Value.ref)) (nb + 1)) :: XA) r.e.dx := part_Y hF2 hr fun p hp => .tail _ (.tail _ (.tail _ (hXa ▸ mem_mid hp)))
      refine' Ctr.use (led_ctr w r.e b'.e n _ _ (others ((I, o1) :: (D', listOf (List.toArray ((rs.map BlockR.x ++ [bx]).map Value.ref)) 0) :: (fr.lb, listOf (List.toArray (Value.ref r0.x :: (rs.map BlockR.x ++ [bx]).map Value.ref)) (nb + 1)) :: XA) r.e.dx) others_ne (hY _ (sTY _ hB.einst)) (hB.e.mono fun p hp => hY p (sTY p hp)) hn0 (by omega) (goals_tlb hg _ (List.mem_of_getElem? hb1))) ?c1 ?c2 ?c3 ?c4 ?c5 ?c6 ?c7 ?c8 (others_sub ?c9) ?_
      k_extra "M use"
      case c9 => exact .tail _ (.tail _ (.tail _ z5))
      intro res9 n9 h9' tk9' F9' N9' P9
      obtain ⟨mv9, tl9, rfl, rfl, hd9, hdis9⟩ := P9
      k_extra "M steps"
      refine turn_next ?_
      refine' part_end (olb := _) (c := "list_iterator") ?eF ?em ?eN (hXa ▸ rfl) ?eoff hF2 hr hb2 hd9 hdis9 hown2 hty2 hxs2 hb3
      case eF => k_asm
      case em => k_extra "M same"
      case eN => k_asm
      case eoff => exact off
    case hfin =>
      intro u M h tk hK F N
      obtain ⟨n9, N9', P9⟩ := part_yes elz hz en hK (by rw [List.length_map, List.length_map, List.length_append, List.length_map, List.length_singleton, List.length_append, List.length_singleton, hBs.length]) N
      clear N
      k_extra "M steps"
      exact hret _ _ _ _ (by k_asm) (by k_asm) P9
  · rename (List.any lz id = false) => hz
    rename (News _ _ _ _) => Nz
    obtain ⟨n9, N9', P9⟩ := part_no hF elz hz Nz
    exact hret _ _ _ _ (by k_asm) N9' P9
end
end Mine
namespace Mine
def rowDat (d : StepD) : Dat := .tuple [.str d.op, .int d.dst, .list d.args, d.more]
def toldDat (b : BlockD) : Dat := .tuple [.int b.num, .list (b.rows.map rowDat), endDat b.e]
theorem kset14 : True := by
  k_with_none
  k_with "M gen" => ((fail_if_success (goal_lacks Mine.MidEnd Mine.MoreQ Mine.NewEnd Mine.TurnPostF PyProof.Rows.LCg.CompSrc PyProof.Rows.LCt.CompSrcT)); k_fold)
  k_with "M steps" => (repeat' (first | k_extra "M gen" | (k_unfold; (try dsimp only)) | (k_end; wrow_close) | walk1 | (dsimp only; walk1) | (leave1; walk_say "STEP leave1"; try dsimp only) | fail "no step"))
  k_with "M enterC" => ((refine' code_defC ?k1q17 ?k2q17 ?k3q17 ?k4q17 ?k5q17 ?kAq17 ?kFq17 ?kKq17 ?k6q17 ?k7q17 ?k8q17 ?k9q17 ?kBq17 ?kDq17 ?_ ?c2q17 ?c3q17 ?c4q17; (case kAq17 => exact rfl); (case kFq17 => exact rfl); (case kKq17 => assumption); (case k1q17 => k_asm); (case k2q17 => k_asm); (case k3q17 => k_asm); (case k4q17 => k_asm); (case k5q17 => k_asm); (case k6q17 => k_is); (case k7q17 => k_is); (case k8q17 => ktr_room); (case k9q17 => exact BindsTo.of_eq rfl); (case kBq17 => exact rfl); (case kDq17 => decide +kernel); (case c2q17 => exact rfl); (case c3q17 => exact rfl); (case c4q17 => exact rfl); k_whole; intro g'zq L'zq h'zq tk'zq cells'zq FG'zq F'zq N'zq Y'zq B'zq X'zq T'zq l1zq; k_cells Y'zq; (try simp only [List.cons_append, List.nil_append] at N'zq); (try dsimp only); (try k_fold)))
  k_with "M enter" => ((refine' code_def ?k1q18 ?k2q18 ?k3q18 ?k4q18 ?k5q18 ?kAq18 ?kFq18 ?kKq18 ?k6q18 ?k7q18 ?k8q18 ?k9q18 ?kBq18 ?_ ?c2q18 ?c3q18 ?c4q18 ?c5q18; (case kAq18 => exact rfl); (case kFq18 => exact rfl); (case kKq18 => first | exact rfl | assumption); (case k1q18 => k_asm); (case k2q18 => k_asm); (case k3q18 => k_asm); (case k4q18 => k_asm); (case k5q18 => k_asm); (case k6q18 => k_is); (case k7q18 => k_is); (case k8q18 => ktr_room); (case k9q18 => exact BindsTo.of_eq rfl); (case c5q18 => decide); (case kBq18 => exact locs rfl); (case c2q18 => exact rfl); (case c3q18 => exact rfl); (case c4q18 => exact rfl); k_whole; intro g'zq L'zq h'zq FG'zq F'zq N'zq B'zq X'zq T'zq; (try dsimp only); (try k_fold)))
  k_with "M mem" => (first | exact mem_hd | (with_reducible refine mem_tl ?_; k_extra "M mem") | with_reducible assumption | (with_reducible refine mem_apr ?_; k_extra "M mem") | (with_reducible refine mem_apl ?_; k_extra "M mem"))
  k_with "M ne" => ((refine neN ?_; (try dsimp only); first | exact Nat.ne_of_lt (by with_reducible assumption) | exact Nat.ne_of_gt (by with_reducible assumption) | with_reducible assumption | exact Ne.symm (by with_reducible assumption) | omega))
  k_with "M all" => (first | exact List.forall_mem_nil _ | with_reducible assumption | (with_reducible refine' List.forall_mem_cons.mpr ⟨?aq21, ?bq21⟩; (case aq21 => k_extra "M ne"); (case bq21 => k_extra "M all")) | (refine' allLt_ne ?dAq21; (case dAq21 => with_reducible assumption)) | (refine' off1_ne ?dAq21; (case dAq21 => with_reducible assumption)) | (refine' OwnOff.ne ?dAq21 ?dBq21; (case dAq21 => with_reducible assumption); (case dBq21 => k_memK)) | (refine' ne_app ?nAq21 ?nBq21; (case nAq21 => k_extra "M all"); (case nBq21 => k_extra "M all")) | (refine' dis_ne ?dAq21 ?dBq21; (case dAq21 => with_reducible assumption); (case dBq21 => k_extra "M mem")) | (refine' allLt_app ?dAq21; (case dAq21 => with_reducible assumption)) | (refine' allLt_apl ?dAq21; (case dAq21 => with_reducible assumption)) | (refine' allLt_ne_lt ?dAq21 ?dBq21; (case dAq21 => with_reducible assumption); (case dBq21 => with_reducible assumption)))
  k_with "newList" => ((k_here; k_dflt (refine' newList_K ?k1q22 ?k2q22 ?_; (case k1q22 => k_asm); (case k2q22 => k_asm); k_whole); intro l'zq h'zq F'zq N'zq l1zq; (try k_lt l1zq); (try k_sweep); k_extra "M split"))
  k_with "newTuple" => ((k_here; k_dflt (refine' kup_newTuple ?Fq23 ?Nq23 ?_ ?zq23; (case Fq23 => k_asm); (case Nq23 => k_asm); (case zq23 => kmk_size)); intro D'zq h'zq F'zq N'zq l1zq; (try k_lt l1zq); (try k_sweep); k_extra "M split"))
  k_with "call type:list" => ((k_here; (with_reducible show wpAny _ _ (call (Value.type _) [Value.ref _]) _ _ _); k_dflt (first | (refine' list_copyK ?k1q24 ?k2q24 ?k3q24 ?_ ?zq24; (case k1q24 => k_asm); (case k2q24 => k_asm); (case k3q24 => exact News.isList (by k_asm) (by k_extra "M mem")); (case zq24 => first | exact Nat.le_of_ble_eq_true rfl | (rw [List.size_toArray, sizeLine_eq]; omega) | exact kmk_sz (by with_reducible assumption) (by rw [sizeLine_eq]; omega)); k_whole) | (refine' list_copyKT ?k1q24 ?k2q24 ?k3q24 ?_ ?zq24; (case k1q24 => k_asm); (case k2q24 => k_asm); (case k3q24 => exact News.isTup (by k_asm) (by k_extra "M mem")); (case zq24 => exact Nat.le_of_ble_eq_true rfl); k_whole)); intro D'zq c'zq h'zq F'zq N'zq l1zq; (try k_lt l1zq); (try k_sweep); k_extra "M split"))
  k_with "M own" => (first | exact own_nil | (refine own_cons ?oAq25 ?oBq25; (case oAq25 => k_extra "M all"); (case oBq25 => k_extra "M own")))
  k_with "M dis" => (first | exact dis_nil | (refine dis_cons ?dAq26 ?dBq26; (case dAq26 => k_extra "M all"); (case dBq26 => k_extra "M dis")))
  k_with "M split" => (repeat ((with_reducible rename (_ ∧ _) => hc9zq); have hc9azq := hc9zq.1; have hc9bzq := hc9zq.2; clear hc9zq))
  k_with "M eq" => (first | exact eqs0 | exact eqs1 | exact eqs2 | exact eqs3 | exact eqs4 | exact eqs5 | exact eqs6 | exact eqs7 | exact eqs8 | exact eqs9 | exact eqs10 | exact eqs11 | exact eqs12 | exact eqs13 | exact eqs14 | exact eqs15 | exact eqs16)
  k_with "M tails" => ((intro pzq hpzq; (try dsimp only [List.cons_append, List.nil_append] at hpzq ⊢); repeat (first | with_reducible exact hpzq | with_reducible exact mem_apl hpzq | with_reducible refine List.mem_cons_of_mem _ ?_ | with_reducible refine mem_apr ?_)))
  k_with "M at" => (first | exact mem_hd | (refine mem_tl ?_; k_extra "M at"))
  k_with "M same" => ((intro zzq hzzq; (try dsimp only); (repeat (refine Eq.trans (same_if rfl hzzq) ?_)); first | exact same_frm hzzq | rfl))
  k_with "M clear" => (((repeat ((with_reducible rename (@LT.lt Nat _ _ _) => zzzq); clear zzzq)); (repeat ((with_reducible rename (AllLt _ _) => zzzq); clear zzzq))))
  k_with "M use" => (((case c1 => k_asm); (case c2 => k_asm); (case c3 => k_asm); (case c4 => k_asm); (case c5 => k_asm); (case c6 => first | exact rfl | assumption); (case c7 => ktr_room); (case c8 => ktr_units); k_whole))
  k_with "call builtin:list.append" => ((k_here; k_dflt (refine' append_any ?k1q34 ?k2q34 ?k3q34 ?k4q34 ?_; (case k1q34 => k_asm); (case k2q34 => k_asm); (case k3q34 => k_upd); (case k4q34 => with_reducible assumption)); intro h'zq F'zq N'zq))
  k_with "call builtin:len" => ((k_here; (with_reducible show wpAny _ _ (call (Value.builtin "len") [Value.ref _]) _ _ _); k_dflt (refine' kun_lenL ?k1q35 ?k2q35 ?k3q35 ?_; (case k1q35 => exact News.isList (by k_asm) (by k_extra "M mem")); (case k2q35 => with_reducible assumption); (case k3q35 => omega); k_whole)))
  k_with "binaryOp Add ref ref" => ((k_here; (with_reducible show wpAny _ _ (binaryOp _ (Value.ref _) (Value.ref _)) _ _ _); k_dflt (refine' kmk_add_ints ?Fq36 ?Nq36 ?aq36 ?bq36 ?iq36 ?jq36 ?_ ?zq36; (case Fq36 => k_asm); (case Nq36 => k_asm); (case aq36 => exact News.isList (by k_asm) (by k_extra "M mem")); (case bq36 => exact News.isList (by k_asm) (by k_extra "M mem")); (case iq36 => with_reducible assumption); (case jq36 => exact .cons _ _ .nil); (case zq36 => rw [sizeLine_eq, List.length_singleton]; omega)); intro D'zq ws'zq h'zq F'zq N'zq l1zq hI'zq; (try k_lt l1zq); (try k_sweep); k_extra "M split"))
  trivial
theorem datAll_app {ld : Led} {vs ws : List Value} {ds es : List Dat} (h : DatAll ld vs ds) (h' : DatAll ld ws es) : DatAll ld (vs ++ ws) (ds ++ es) := by
  induction ds generalizing vs with
  | nil => cases h; exact h'
  | cons d r ih =>
    cases h with
    | cons h1 h2 => exact .cons h1 (ih h2)
section
variable {h₀ h' : Heap} {L : Addr} {m : Str → Option Value}
theorem new_add {old all pre acc rest : Led} {s₁ : Shared} {tk' : Nat} {I C D : Addr} {oI oC oD : Obj} {K : Value → Led → Prop} {y : Value} (new : Led) (F : Fr h₀ L h' m) (N : News h₀ L h' all) (hnew : ∀ p ∈ new, p ∈ all)
    (hs : ∀ p ∈ (I, oI) :: (C, oC) :: (D, oD) :: (pre ++ (acc ++ rest)), p ∈ all) (hdis : Dis new old) (hK : K y (new ++ acc)) :
    NewEnd h₀ L m old s₁ I oI C oC D oD pre acc rest K y { s₁ with heap := h', toks := tk' } := by
  refine ⟨h', tk', new, rfl, F, news_sub N fun p hp => ?_, hdis, hK⟩
  rcases List.mem_cons.mp hp with rfl | hp
  · exact hs _ (.head _)
  · rcases List.mem_cons.mp hp with rfl | hp
    · exact hs _ (.tail _ (.head _))
    · rcases List.mem_cons.mp hp with rfl | hp
      · exact hs _ (.tail _ (.tail _ (.head _)))
      · rcases List.mem_append.mp hp with hp | hp
        · exact hs _ (.tail _ (.tail _ (.tail _ (List.mem_append.mpr (.inl hp)))))
        · rcases List.mem_append.mp hp with hp | hp
          · rcases List.mem_append.mp hp with hp | hp
            · exact hnew p hp
            · exact hs _ (.tail _ (.tail _ (.tail _ (List.mem_append.mpr (.inr (List.mem_append.mpr (.inl hp)))))))
          · exact hs _ (.tail _ (.tail _ (.tail _ (List.mem_append.mpr (.inr (List.mem_append.mpr (.inr hp)))))))
end
/-- the end of a turn that tells a row -/
theorem row_new {h₀ h' : Heap} {L T lc : Addr} {m : Str → Option Value} {old all pre acc X XR : Led} {s₁ : Shared} {tk' : Nat} {I C D : Addr} {oI oC oD : Obj} {d : StepD} {rows : List StepD} {ys avs : List Value} {mv : Value} {t1 t2 : Tok} {kt kl i : Nat}
    (F : Fr h₀ L h' m) (N : News h₀ L h' all) (hT : (T, tupOf (List.toArray [.str d.op t1, .int d.dst t2, .ref lc, mv]) kt) ∈ all) (hlc : (lc, listOf (List.toArray avs) kl) ∈ all)
    (hs : ∀ p ∈ (I, oI) :: (C, oC) :: (D, oD) :: (pre ++ (acc ++ XR)), p ∈ all) (hdis : ∀ o1 o2 : Obj, Dis [(T, o1), (lc, o2)] old) (hK : DatAll (acc ++ X) ys ((rows.take i).map rowDat)) (hd : rows[i]? = some d) (ha : DatAll X avs d.args) (hmv : DatIn X mv d.more) :
    NewEnd h₀ L m old s₁ I oI C oC D oD pre acc XR (fun y acc' => DatAll (acc' ++ X) (ys ++ [y]) ((rows.take (i + 1)).map rowDat)) (.ref T) { s₁ with heap := h', toks := tk' } := by
  refine new_add [(T, tupOf (List.toArray [.str d.op t1, .int d.dst t2, .ref lc, mv]) kt), (lc, listOf (List.toArray avs) kl)] F N (fun p hp => ?_) hs (hdis _ _) ?_
  · rcases List.mem_cons.mp hp with rfl | hp
    · exact hT
    · rw [List.mem_singleton.mp hp]; exact hlc
  · rw [take_map _ hd]
    have sX : ∀ p ∈ X, p ∈ ([(T, tupOf (List.toArray [.str d.op t1, .int d.dst t2, .ref lc, mv]) kt), (lc, listOf (List.toArray avs) kl)] ++ acc) ++ X := fun p hp => List.mem_append.mpr (.inr hp)
    refine datAll_app (hK.mono fun p hp => ?_) (.cons (.tuple (.head _) (.cons (.str _ _) (.cons (.int _ _) (.cons (.list (.tail _ (.head _)) (ha.mono sX)) (.cons (hmv.mono sX) .nil))))) .nil)
    exact .tail _ (.tail _ hp)
/-- between the turns of _law_told's loop -/
def ToldInv (lf : Addr) (X XR : Led) (bs : List BlockD) (i : Nat) (M : Led) : Prop :=
  ∃ ys k acc, M = (lf, listOf (List.toArray ys) k) :: acc ∧ DatAll (acc ++ X) ys ((bs.take i).map toldDat) ∧ Dis acc XR ∧ OwnOff acc [lf]
def ToldPost (news X : Led) (bs : List BlockD) (r : Value) (news' : Led) : Prop :=
  ∃ tl, news' = tl ++ news ∧ DatIn (tl ++ X) r (.list (bs.map toldDat)) ∧ Dis tl news
theorem told_end {h₀ h' : Heap} {L : Addr} {m' m₀ : Str → Option Value} {stored : List Str} {all acc accr X XR : Led} {s₁ : Shared} {tk' : Nat} {lf I T3 T2 lac lr lg : Addr} {o1 : Obj} {b : BlockD} {bs : List BlockD} {i k k3 k2 ka kr kg : Nat} {t1 t2 t3 : Tok} {ys avs rys gvs : List Value} {num low : Int} {op : Str}
    (F : Fr h₀ L h' m') (N : News h₀ L h' all) (hm : ∀ z, stored.contains z = false → m' z = m₀ z)
    (hlf : (lf, listOf (List.toArray (ys ++ [.ref T3])) (k + 1)) ∈ all) (hT3 : (T3, tupOf (List.toArray [.int num t1, .ref lr, .ref T2]) k3) ∈ all) (hT2 : (T2, tupOf (List.toArray [.str op t2, .ref lac, .int low t3, .ref lg]) k2) ∈ all)
    (hlac : (lac, listOf (List.toArray avs) ka) ∈ all) (hlr : (lr, listOf (List.toArray rys) kr) ∈ all) (hlg : (lg, listOf (List.toArray gvs) kg) ∈ all) (hI : (I, o1) ∈ all) (haX : ∀ p ∈ accr ++ (acc ++ XR), p ∈ all)
    (hb : bs[i]? = some b) (hnum : num = b.num) (hop : op = b.e.op) (hlow : low = b.e.low) (ha : DatAll X avs b.e.args) (hr : DatAll (accr ++ X) rys (b.rows.map rowDat)) (hg : IntsAre gvs b.e.goals)
    (hK : DatAll (acc ++ X) ys ((bs.take i).map toldDat)) (hd : Dis acc XR) (ho : OwnOff acc [lf])
    (hA' : OwnOff (accr ++ (acc ++ XR)) [T3, T2, lac, lr, lg]) (hB : ∀ o1 o2 o3 o4 o5 : Obj, OwnOff [(T3, o1), (T2, o2), (lac, o3), (lr, o4), (lg, o5)] [lf, I]) (hC : Dis accr XR) (hD : OwnOff accr [lf, I]) :
    TurnEndF h₀ L stored m₀ [] ((lf, listOf (List.toArray ys) k) :: acc) XR [(I, o1)] s₁ (fun _ M => ToldInv lf X XR bs (i + 1) M) { s₁ with heap := h', toks := tk' } := by
  subst hnum hop hlow
  have hA : OwnOff XR [T3, T2, lac, lr, lg] := fun p hp => hA' p (List.mem_append.mpr (.inr (List.mem_append.mpr (.inr hp))))
  let new : Led := [(T3, tupOf (List.toArray [.int b.num t1, .ref lr, .ref T2]) k3), (T2, tupOf (List.toArray [.str b.e.op t2, .ref lac, .int b.e.low t3, .ref lg]) k2), (lac, listOf (List.toArray avs) ka), (lr, listOf (List.toArray rys) kr), (lg, listOf (List.toArray gvs) kg)]
  have hB' := hB (tupOf (List.toArray [.int b.num t1, .ref lr, .ref T2]) k3) (tupOf (List.toArray [.str b.e.op t2, .ref lac, .int b.e.low t3, .ref lg]) k2) (listOf (List.toArray avs) ka) (listOf (List.toArray rys) kr) (listOf (List.toArray gvs) kg)
  have hnew : ∀ p ∈ new, p ∈ all := by
    intro p hp
    rcases List.mem_cons.mp hp with rfl | hp
    · exact hT3
    · rcases List.mem_cons.mp hp with rfl | hp
      · exact hT2
      · rcases List.mem_cons.mp hp with rfl | hp
        · exact hlac
        · rcases List.mem_cons.mp hp with rfl | hp
          · exact hlr
          · rw [List.mem_singleton.mp hp]; exact hlg
  have hnX : Dis new XR := by
    intro p hp q hq
    have z := hA q hq
    rcases List.mem_cons.mp hp with rfl | hp
    · exact Ne.symm (z _ (.head _))
    · rcases List.mem_cons.mp hp with rfl | hp
      · exact Ne.symm (z _ (.tail _ (.head _)))
      · rcases List.mem_cons.mp hp with rfl | hp
        · exact Ne.symm (z _ (.tail _ (.tail _ (.head _))))
        · rcases List.mem_cons.mp hp with rfl | hp
          · exact Ne.symm (z _ (.tail _ (.tail _ (.tail _ (.head _)))))
          · rw [List.mem_singleton.mp hp]; exact Ne.symm (z _ (.tail _ (.tail _ (.tail _ (.tail _ (.head _))))))
  refine ⟨h', tk', m', (lf, listOf (List.toArray (ys ++ [.ref T3])) (k + 1)) :: (new ++ (accr ++ acc)), rfl, F, hm, news_sub N fun p hp => ?_, fun p hp => ?_, ys ++ [.ref T3], k + 1, new ++ (accr ++ acc), rfl, ?_, fun p hp q hq => ?_, fun p hp c hc => ?_⟩
  · have hp : p ∈ (I, o1) :: ((lf, listOf (List.toArray (ys ++ [.ref T3])) (k + 1)) :: ((new ++ (accr ++ acc)) ++ XR)) := hp
    rcases List.mem_cons.mp hp with rfl | hp
    · exact hI
    · rcases List.mem_cons.mp hp with rfl | hp
      · exact hlf
      · rcases List.mem_append.mp hp with hp | hp
        · rcases List.mem_append.mp hp with hp | hp
          · exact hnew p hp
          · rcases List.mem_append.mp hp with hp | hp
            · exact haX p (List.mem_append.mpr (.inl hp))
            · exact haX p (List.mem_append.mpr (.inr (List.mem_append.mpr (.inl hp))))
        · exact haX p (List.mem_append.mpr (.inr (List.mem_append.mpr (.inr hp))))
  · rcases List.mem_cons.mp hp with rfl | hp
    · exact .inl ⟨_, .head _, rfl⟩
    · rcases List.mem_append.mp hp with hp | hp
      · refine .inr fun q hq => ?_
        rw [List.mem_singleton.mp hq]; exact hB' p hp _ (.tail _ (.head _))
      · rcases List.mem_append.mp hp with hp | hp
        · refine .inr fun q hq => ?_
          rw [List.mem_singleton.mp hq]; exact hD p hp _ (.tail _ (.head _))
        · exact .inl ⟨p, .tail _ hp, rfl⟩
  · rw [take_map _ hb]
    have sX : ∀ p ∈ X, p ∈ (new ++ (accr ++ acc)) ++ X := fun p hp => List.mem_append.mpr (.inr hp)
    have sn : ∀ p ∈ new, p ∈ (new ++ (accr ++ acc)) ++ X := fun p hp => List.mem_append.mpr (.inl (List.mem_append.mpr (.inl hp)))
    refine datAll_app (hK.mono fun p hp => ?_) (.cons (.tuple (sn _ (.head _)) (.cons (.int _ _) (.cons (.list (sn _ (.tail _ (.tail _ (.tail _ (.head _))))) (hr.mono fun p hp => ?_)) (.cons (.tuple (sn _ (.tail _ (.head _))) (.cons (.str _ _) (.cons (.list (sn _ (.tail _ (.tail _ (.head _)))) (ha.mono sX)) (.cons (.int _ _) (.cons (.list (sn _ (.tail _ (.tail _ (.tail _ (.tail _ (.head _)))))) (datAll_intDats hg)) .nil))))) .nil)))) .nil)
    · rcases List.mem_append.mp hp with hp | hp
      · exact List.mem_append.mpr (.inl (List.mem_append.mpr (.inr (List.mem_append.mpr (.inr hp)))))
      · exact sX p hp
    · rcases List.mem_append.mp hp with hp | hp
      · exact List.mem_append.mpr (.inl (List.mem_append.mpr (.inr (List.mem_append.mpr (.inl hp)))))
      · exact sX p hp
  · rcases List.mem_append.mp hp with hp | hp
    · exact hnX p hp q hq
    · rcases List.mem_append.mp hp with hp | hp
      · exact hC p hp q hq
      · exact hd p hp q hq
  · rw [List.mem_singleton.mp hc]
    rcases List.mem_append.mp hp with hp | hp
    · exact hB' p hp _ (.head _)
    · rcases List.mem_append.mp hp with hp | hp
      · exact hD p hp _ (.head _)
      · exact ho p hp _ (.head _)
theorem told_fin {lf : Addr} {X XR M : Led} {bs : List BlockD} {i : Nat} (hK : ToldInv lf X XR bs i M) (hi : i = bs.length) (ho : OwnOff XR [lf]) : ToldPost XR X bs (.ref lf) (M ++ XR) := by
  obtain ⟨ys, k, acc, rfl, hd, hdx, hol⟩ := hK
  rw [hi, List.take_length] at hd
  refine ⟨(lf, listOf (List.toArray ys) k) :: acc, rfl, .list (.head _) (hd.mono fun p hp => .tail _ hp), fun p hp q hq => ?_⟩
  rcases List.mem_cons.mp hp with rfl | hp
  · exact Ne.symm (ho q hq _ (.head _))
  · exact hdx p hp q hq
end Mine
namespace Mine
theorem told_start {G : Prop} {h₀ h : Heap} {L lf : Addr} {o : Obj} {XR : Led} (N : News h₀ L h ((lf, o) :: XR)) (hlo : OwnOff XR [lf]) (k : ∀ lf', lf' = lf → News h₀ L h ((lf', o) :: XR) → OwnOff XR [lf'] → G) : G := k lf rfl N hlo
theorem rows_all {ld : Led} {rows : List StepD} {ys : List Value} {k : Nat} (h : DatAll ld ys ((rows.take k).map rowDat)) (hk : k = rows.length) : DatAll ld ys (rows.map rowDat) := by
  rw [hk, List.take_length] at h; exact h
theorem step_all {w : World} {X : Led} {svs : List Value} {rows : List StepD} (h : All2 (StepIn w X) svs rows) {i : Nat} {v : Value} (hv : svs[i]? = some v) : ∃ d r, rows[i]? = some d ∧ v = .ref r.x ∧ (r.x, instObj 31 r.dx) ∈ X ∧ (r.dx, stepObj w r) ∈ X ∧ StepIs X r d := by
  obtain ⟨d, hd, r, e, h1, h2, h3⟩ := h.get' hv
  exact ⟨d, r, hd, e, h1, h2, h3⟩
end Mine
namespace Mine
theorem lt_ne {d : Addr} {l : Led} (h : ∀ p ∈ l, p.1 < d) : ∀ p ∈ l, p.1 ≠ d := fun p hp => Nat.ne_of_lt (h p hp)
end Mine
namespace Mine
theorem off1_mk {D : Addr} {l : Led} (h : ∀ p ∈ l, (@Ne Nat p.1 D)) : LCg.Off1 D l := by
  induction l with
  | nil => trivial
  | cons x r ih => exact ⟨h x (.head _), ih fun p hp => h p (.tail _ hp)⟩
/-- what holds behind the law's choice of goals and low -/
def GoalQ (h₀ : Heap) (L : Addr) (back : Led) (R : Str → Option Value) (e : End) (s₁ : Shared) (f : Flow) (s₂ : Shared) : Prop :=
  f = .next ∧ ∃ h' tk' lg gvs n tl, s₂ = { s₁ with heap := h', toks := tk' } ∧ Fr h₀ L h' (fun z => if z = Str.ofString "goals" then some (.ref lg) else if z = Str.ofString "low" then some (.int e.low tl) else R z) ∧ News h₀ L h' ((lg, listOf (List.toArray gvs) n) :: back) ∧ IntsAre gvs e.goals ∧ ∀ p ∈ back, p.1 ≠ lg
theorem goal_join {M : Model} {A : Around} {t : Sem Flow} {Q : Flow → Shared → Prop} {E : Value → Shared → Prop} {s₁ : Shared} {h₀ : Heap} {L : Addr} {back : Led} {R : Str → Option Value} {a b : Option Value} {t1 t2 t3 : Addr × Obj} (e : End)
    (F : Fr h₀ L s₁.heap (fun z => if z = Str.ofString "goals" then a else if z = Str.ofString "low" then b else R z)) (N : News h₀ L s₁.heap (t1 :: t2 :: t3 :: back))
    (h : wpAny M A t (GoalQ h₀ L back R e s₁) E s₁)
    (k : ∀ h' tk' lg gvs n tl, Fr h₀ L h' (fun z => if z = Str.ofString "goals" then some (.ref lg) else if z = Str.ofString "low" then some (.int e.low tl) else R z) → News h₀ L h' ((lg, listOf (List.toArray gvs) n) :: back) → IntsAre gvs e.goals → LCg.Off1 lg back → Q .next { s₁ with heap := h', toks := tk' }) : wpAny M A t Q E s₁ := by
  refine wpAny_mono h ?_ fun _ _ e => e
  rintro f s₂ ⟨rfl, h', tk', lg, gvs, n, tl, rfl, F, N, D, X⟩
  exact k h' tk' lg gvs n tl F N D (off1_mk X)
theorem goal_end {s₁ : Shared} {h₀ h' : Heap} {tk' : Nat} {L lg : Addr} {back all : Led} {m' R : Str → Option Value} {e : End} {gvs : List Value} {n : Nat} {tl : Tok} (F : Fr h₀ L h' m') (N : News h₀ L h' all)
    (hm : ∀ z, m' z = if z = Str.ofString "goals" then some (.ref lg) else if z = Str.ofString "low" then some (.int e.low tl) else R z) (hl : (lg, listOf (List.toArray gvs) n) ∈ all) (hs : ∀ p ∈ back, p ∈ all)
    (hg : IntsAre gvs e.goals) (ho : ∀ p ∈ back, p.1 ≠ lg) : GoalQ h₀ L back R e s₁ .next { s₁ with heap := h', toks := tk' } := by
  have e := funext hm
  subst e
  refine ⟨rfl, h', tk', lg, gvs, n, tl, rfl, F, news_sub N ?_, hg, ho⟩
  intro p hp
  rcases List.mem_cons.mp hp with rfl | hp
  · exact hl
  · exact hs p hp
theorem goal_m1 {c : Prop} [Decidable c] {a a' b : Option Value} : (if c then a else if c then a' else b) = if c then a else b := by split <;> rfl
theorem goal_m2 {z : Str} {a a' b b' r : Option Value} : (if z = Str.ofString "low" then b else if z = Str.ofString "goals" then a else if z = Str.ofString "goals" then a' else if z = Str.ofString "low" then b' else r) = if z = Str.ofString "goals" then a else if z = Str.ofString "low" then b else r := by
  by_cases hc : z = Str.ofString "goals"
  · rw [if_neg (by rw [hc]; decide), if_pos hc, if_pos hc]
  · by_cases hd : z = Str.ofString "low"
    · rw [if_pos hd, if_neg hc, if_pos hd]
    · rw [if_neg hd, if_neg hc, if_neg hc, if_neg hd, if_neg hc, if_neg hd]
end Mine
namespace Mine
section
theorem kset15 : True := by
  k_with_none
  k_with "M gen" => ((fail_if_success (goal_lacks Mine.GoalQ Mine.MidEnd Mine.MoreQ Mine.NewEnd Mine.TurnPostF PyProof.Rows.LCg.CompSrc PyProof.Rows.LCt.CompSrcT)); k_fold)
  k_with "M steps" => (repeat' (first | k_extra "M gen" | (k_unfold; (try dsimp only)) | (k_end; wrow_close) | walk1 | (dsimp only; walk1) | (leave1; walk_say "STEP leave1"; try dsimp only) | fail "no step"))
  k_with "M enterC" => ((refine' code_defC ?k1q17 ?k2q17 ?k3q17 ?k4q17 ?k5q17 ?kAq17 ?kFq17 ?kKq17 ?k6q17 ?k7q17 ?k8q17 ?k9q17 ?kBq17 ?kDq17 ?_ ?c2q17 ?c3q17 ?c4q17; (case kAq17 => exact rfl); (case kFq17 => exact rfl); (case kKq17 => assumption); (case k1q17 => k_asm); (case k2q17 => k_asm); (case k3q17 => k_asm); (case k4q17 => k_asm); (case k5q17 => k_asm); (case k6q17 => k_is); (case k7q17 => k_is); (case k8q17 => ktr_room); (case k9q17 => exact BindsTo.of_eq rfl); (case kBq17 => exact rfl); (case kDq17 => decide +kernel); (case c2q17 => exact rfl); (case c3q17 => exact rfl); (case c4q17 => exact rfl); k_whole; intro g'zq L'zq h'zq tk'zq cells'zq FG'zq F'zq N'zq Y'zq B'zq X'zq T'zq l1zq; k_cells Y'zq; (try simp only [List.cons_append, List.nil_append] at N'zq); (try dsimp only); (try k_fold)))
  k_with "M enter" => ((refine' code_def ?k1q18 ?k2q18 ?k3q18 ?k4q18 ?k5q18 ?kAq18 ?kFq18 ?kKq18 ?k6q18 ?k7q18 ?k8q18 ?k9q18 ?kBq18 ?_ ?c2q18 ?c3q18 ?c4q18 ?c5q18; (case kAq18 => exact rfl); (case kFq18 => exact rfl); (case kKq18 => first | exact rfl | assumption); (case k1q18 => k_asm); (case k2q18 => k_asm); (case k3q18 => k_asm); (case k4q18 => k_asm); (case k5q18 => k_asm); (case k6q18 => k_is); (case k7q18 => k_is); (case k8q18 => ktr_room); (case k9q18 => exact BindsTo.of_eq rfl); (case c5q18 => decide); (case kBq18 => exact locs rfl); (case c2q18 => exact rfl); (case c3q18 => exact rfl); (case c4q18 => exact rfl); k_whole; intro g'zq L'zq h'zq FG'zq F'zq N'zq B'zq X'zq T'zq; (try dsimp only); (try k_fold)))
  k_with "M mem" => (first | exact mem_hd | (with_reducible refine mem_tl ?_; k_extra "M mem") | with_reducible assumption | (with_reducible refine mem_apr ?_; k_extra "M mem") | (with_reducible refine mem_apl ?_; k_extra "M mem"))
  k_with "M ne" => ((refine neN ?_; (try dsimp only); first | exact Nat.ne_of_lt (by with_reducible assumption) | exact Nat.ne_of_gt (by with_reducible assumption) | with_reducible assumption | exact Ne.symm (by with_reducible assumption) | omega))
  k_with "M all" => (first | exact List.forall_mem_nil _ | with_reducible assumption | (with_reducible refine' List.forall_mem_cons.mpr ⟨?aq21, ?bq21⟩; (case aq21 => k_extra "M ne"); (case bq21 => k_extra "M all")) | (refine' allLt_ne ?dAq21; (case dAq21 => with_reducible assumption)) | (refine' off1_ne ?dAq21; (case dAq21 => with_reducible assumption)) | (refine' OwnOff.ne ?dAq21 ?dBq21; (case dAq21 => with_reducible assumption); (case dBq21 => k_memK)) | (refine' ne_app ?nAq21 ?nBq21; (case nAq21 => k_extra "M all"); (case nBq21 => k_extra "M all")) | (refine' dis_ne ?dAq21 ?dBq21; (case dAq21 => with_reducible assumption); (case dBq21 => k_extra "M mem")) | (refine' allLt_app ?dAq21; (case dAq21 => with_reducible assumption)) | (refine' allLt_apl ?dAq21; (case dAq21 => with_reducible assumption)) | (refine' allLt_ne_lt ?dAq21 ?dBq21; (case dAq21 => with_reducible assumption); (case dBq21 => with_reducible assumption)))
  k_with "newList" => ((k_here; k_dflt (refine' newList_K ?k1q22 ?k2q22 ?_; (case k1q22 => k_asm); (case k2q22 => k_asm); k_whole); intro l'zq h'zq F'zq N'zq l1zq; (try k_lt l1zq); (try k_sweep); k_extra "M split"))
  k_with "newTuple" => ((k_here; k_dflt (refine' kup_newTuple ?Fq23 ?Nq23 ?_ ?zq23; (case Fq23 => k_asm); (case Nq23 => k_asm); (case zq23 => kmk_size)); intro D'zq h'zq F'zq N'zq l1zq; (try k_lt l1zq); (try k_sweep); k_extra "M split"))
  k_with "call type:list" => ((k_here; (with_reducible show wpAny _ _ (call (Value.type _) [Value.ref _]) _ _ _); k_dflt (first | (refine' list_copyK ?k1q24 ?k2q24 ?k3q24 ?_ ?zq24; (case k1q24 => k_asm); (case k2q24 => k_asm); (case k3q24 => exact News.isList (by k_asm) (by k_extra "M mem")); (case zq24 => first | exact Nat.le_of_ble_eq_true rfl | (rw [List.size_toArray, sizeLine_eq]; omega) | exact kmk_sz (by with_reducible assumption) (by rw [sizeLine_eq]; omega)); k_whole) | (refine' list_copyKT ?k1q24 ?k2q24 ?k3q24 ?_ ?zq24; (case k1q24 => k_asm); (case k2q24 => k_asm); (case k3q24 => exact News.isTup (by k_asm) (by k_extra "M mem")); (case zq24 => exact Nat.le_of_ble_eq_true rfl); k_whole)); intro D'zq c'zq h'zq F'zq N'zq l1zq; (try k_lt l1zq); (try k_sweep); k_extra "M split"))
  k_with "M own" => (first | exact own_nil | (refine own_cons ?oAq25 ?oBq25; (case oAq25 => k_extra "M all"); (case oBq25 => k_extra "M own")))
  k_with "M dis" => (first | exact dis_nil | (refine dis_cons ?dAq26 ?dBq26; (case dAq26 => k_extra "M all"); (case dBq26 => k_extra "M dis")))
  k_with "M split" => (repeat ((with_reducible rename (_ ∧ _) => hc9zq); have hc9azq := hc9zq.1; have hc9bzq := hc9zq.2; clear hc9zq))
  k_with "M eq" => (first | exact eqs0 | exact eqs1 | exact eqs2 | exact eqs3 | exact eqs4 | exact eqs5 | exact eqs6 | exact eqs7 | exact eqs8 | exact eqs9 | exact eqs10 | exact eqs11 | exact eqs12 | exact eqs13 | exact eqs14 | exact eqs15 | exact eqs16)
  k_with "M tails" => ((intro pzq hpzq; (try dsimp only [List.cons_append, List.nil_append] at hpzq ⊢); repeat (first | with_reducible exact hpzq | with_reducible exact mem_apl hpzq | with_reducible refine List.mem_cons_of_mem _ ?_ | with_reducible refine mem_apr ?_)))
  k_with "M at" => (first | exact mem_hd | (refine mem_tl ?_; k_extra "M at"))
  k_with "M same" => ((intro zzq hzzq; (try dsimp only); (repeat (refine Eq.trans (same_if rfl hzzq) ?_)); first | exact same_frm hzzq | rfl))
  k_with "M clear" => (((repeat ((with_reducible rename (@LT.lt Nat _ _ _) => zzzq); clear zzzq)); (repeat ((with_reducible rename (AllLt _ _) => zzzq); clear zzzq))))
  k_with "M use" => (((case c1 => k_asm); (case c2 => k_asm); (case c3 => k_asm); (case c4 => k_asm); (case c5 => k_asm); (case c6 => first | exact rfl | assumption); (case c7 => ktr_room); (case c8 => ktr_units); k_whole))
  k_with "call builtin:list.append" => ((k_here; k_dflt (refine' append_any ?k1q34 ?k2q34 ?k3q34 ?k4q34 ?_; (case k1q34 => k_asm); (case k2q34 => k_asm); (case k3q34 => k_upd); (case k4q34 => with_reducible assumption)); intro h'zq F'zq N'zq))
  k_with "call builtin:len" => ((k_here; (with_reducible show wpAny _ _ (call (Value.builtin "len") [Value.ref _]) _ _ _); k_dflt (refine' kun_lenL ?k1q35 ?k2q35 ?k3q35 ?_; (case k1q35 => exact News.isList (by k_asm) (by k_extra "M mem")); (case k2q35 => with_reducible assumption); (case k3q35 => omega); k_whole)))
  k_with "binaryOp Add ref ref" => ((k_here; (with_reducible show wpAny _ _ (binaryOp _ (Value.ref _) (Value.ref _)) _ _ _); k_dflt (refine' kmk_add_ints ?Fq36 ?Nq36 ?aq36 ?bq36 ?iq36 ?jq36 ?_ ?zq36; (case Fq36 => k_asm); (case Nq36 => k_asm); (case aq36 => exact News.isList (by k_asm) (by k_extra "M mem")); (case bq36 => exact News.isList (by k_asm) (by k_extra "M mem")); (case iq36 => with_reducible assumption); (case jq36 => exact .cons _ _ .nil); (case zq36 => rw [sizeLine_eq, List.length_singleton]; omega)); intro D'zq ws'zq h'zq F'zq N'zq l1zq hI'zq; (try k_lt l1zq); (try k_sweep); k_extra "M split"))
  k_with "exec For Name Attribute cons nil" => (refine Stop.mk ?_)
  k_with "exec For Name Attribute" => (refine Stop.mk ?_)
  k_with "exec If" => (((with_reducible rename IfMark => ifm9zq); refine Stop.mk ?_))
  k_with "pyIter ref" => (refine Stop.mk ?_)
  k_with "CompSrc" => (refine Stop.mk ?_)
  k_with "eval ListComp" => ((k_here; k_dflt (refine LCg.ListComp_U (F₀ := by k_asm) (by with_unfolding_all rfl) (by decide) (by rfl) (by decide) (by rfl) ?_)))
  trivial
set_option maxRecDepth 100000 in
set_option maxHeartbeats 8000000 in
theorem told_ctr (w : World) (fr : FuncR) (recs : List BlockR) (nb : Nat) (X Y : Led) (bs : List BlockD) (hF : FuncAt w fr recs X Y bs) (sXY : ∀ p ∈ X, p ∈ Y) (hlen : bs.length ≤ 6) (hg : ∀ b ∈ bs, b.e.goals.length ≤ 4) (hrw : ∀ b ∈ bs, b.rows.length ≤ 100 ∧ ∀ d ∈ b.rows, d.args.length ≤ 100) :
    Ctr w 123 6 [.ref fr.x] (funcLed w fr recs nb Y) (ToldPost (funcLed w fr recs nb Y) X bs) := by
  obtain ⟨XR, eXR⟩ : ∃ XR, XR = funcLed w fr recs nb Y := ⟨_, rfl⟩
  have sXR : ∀ p ∈ X, p ∈ XR := fun p hp => eXR ▸ .tail _ (List.mem_append.mpr (.inr (sXY p hp)))
  have mXR : ∀ p ∈ muts w recs, p ∈ XR := fun p hp => eXR ▸ .tail _ (List.mem_append.mpr (.inl hp))
  have hlb : (fr.lb, listOf (List.toArray (refsOf recs)) nb) ∈ XR := eXR ▸ .head _
  rw [← eXR]
  clear eXR
  unfold Ctr
  k_fill
  w_top off
  intro p loose mean mg mb dp un gd cn cs a ccd cl outer A₀ base h₀ L m s Q E BB F X9 N T hk hd hu hret
  have hfi := sXR _ hF.ok.inst
  have hfd := sXR _ hF.ok.dict
  dsimp only [funcObj, ent] at hfd
  have hrl : recs.length = bs.length := hF.blocks.length
  refine wpAny_call ?_
  k_dflt ktr_enter
  k_extra "M steps"
  refine Stop.go ?_
  k_extra "M split"
  rename (News _ _ _ ((_, listOf _ _) :: _)) => Nz
  refine told_start Nz (own_cons (lt_ne (by assumption)) own_nil) ?_
  clear Nz
  intro lf elf N1 hlo
  subst elf
  refine For_turns (by k_asm) ?_
  k_extra "M steps"
  refine Stop.go ?_
  refine iter_listTurns (by rfl) (by k_asm) (by k_asm) (.tail _ hlb) rfl rfl ?_
  intro I hI
  try dsimp only
  refine' items_fr [Str.ofString "block", Str.ofString "op", Str.ofString "more", Str.ofString "goals", Str.ofString "low", Str.ofString "rows"] [] [(lf, listOf (List.toArray []) 0)] XR (fun i _ M => ToldInv lf X XR bs i M) ?hn ?hh0 ?hhk ?hoff ?hstep ?hfin
  case hn => exact rfl
  case hh0 => exact ⟨[], 0, [], rfl, .nil, dis_nil, fun _ h => nomatch h⟩
  case hhk => exact fun M => ⟨mem_apr (mem_apr hlb), trivial⟩
  case hoff =>
    intro p hp q hq
    rw [List.mem_singleton.mp hq]
    exact Nat.ne_of_lt (hI p hp)
  case hstep =>
    rintro i u M a9 v h tk its hx ha ⟨ys, k, acc, rfl, hdy, hdx, hol⟩ ho off F N
    obtain ⟨v9, hv9, rfl⟩ : ∃ v9, (refsOf recs)[i]? = some v9 ∧ a9 = .val v9 := by
      rw [List.getElem?_map] at hx
      obtain ⟨v9, h1, h2⟩ := Option.map_eq_some_iff.mp hx
      exact ⟨v9, h1, h2.symm⟩
    have ha : v = v9 := ha
    subst ha
    obtain ⟨r, hr, rfl⟩ := refs_at hv9
    obtain ⟨o1, rfl⟩ := objs_one ho
    obtain ⟨b, hb, hB⟩ := hF.blocks.get' hr
    have hbm := List.mem_of_getElem? hb
    have hgl := hg _ hbm
    have hrw1 := (hrw _ hbm).1
    have hrw2 := (hrw _ hbm).2
    have z1 := sXR _ hB.inst
    have z2 := sXR _ hB.einst
    have z4 := mXR _ (muts_mem (w := w) hr).1
    have z5 := mXR _ (muts_mem (w := w) hr).2
    obtain ⟨svs, ns, hls, hrows⟩ := hB.steps
    obtain ⟨avs, na, hla, havs⟩ := hB.e.args
    obtain ⟨hop, hmore⟩ := step_inv (hB.e.mono sXR)
    have hnum := hB.num
    have hyl : ys.length ≤ 1000 := by
      have := hdy.length
      rw [List.length_map, List.length_take] at this
      omega
    have hsl : svs.length ≤ 100 := by rw [hrows.length]; exact hrw1
    have havl : avs.length ≤ 100 := by
      rw [havs.length]
      exact Nat.le_trans (args_len b.e) (by decide)
    replace hls := sXR _ hls
    have hla' := sXR _ hla
    obtain ⟨bnum, brows, e⟩ := b
    obtain ⟨bx, bdx, b1, b2, b3, num, ts, ls, ⟨x, dx, k1, k2, k3, k4, k5, k6, op, t1, dst, t2, la, mv, t6⟩⟩ := r
    clear hB hr hx ha hv9
    dsimp only at z1 z2 z4 z5 hls hla' hla hop hmore hnum hrows havs hgl hrw1 hrw2 off N ⊢
    subst hop hnum
    dsimp only [List.cons_append, List.nil_append] at N
    have nI : (@Ne Nat lf I) := off (lf, _) (.head _) _ (.head _)
    have offI : OwnOff (acc ++ XR) [I] := by
      intro p hp c hc
      rw [List.mem_singleton.mp hc]
      exact off p (.tail _ hp) _ (.head _)
    have offl : OwnOff (acc ++ XR) [lf] := by
      intro p hp c hc
      rcases List.mem_append.mp hp with hp | hp
      · exact hol p hp c hc
      · exact hlo p hp c hc
    clear off
    have ifm : IfMark := trivial
    dsimp only [stepObj, blockObj, ent] at z4 z5
    k_extra "M steps"
    refine Stop.go ?_
    (with_reducible rename IfMark => ifm8); clear ifm8
    refine' goal_join e ?jF ?jN ?jwalk ?jk
    case jF => k_asm
    case jN => k_asm
    case jwalk =>
      clear havs
      cases e with
      | jump g =>
        cases hmore
        rename (Fr _ _ _ _) => Fz
        dsimp only [End.op] at Fz z5
        k_extra "M steps"
        refine' goal_end ?aF ?aN ?am ?al ?as ?ag ?ao
        case aF => k_asm
        case aN => k_asm
        case am => exact fun _ => goal_m1
        case al => k_extra "M at"
        case as => k_extra "M tails"
        case ag => exact .cons _ _ .nil
        case ao => k_extra "M all"
      | give v5 =>
        cases hmore
        rename (Fr _ _ _ _) => Fz
        dsimp only [End.op] at Fz z5
        k_extra "M steps"
        refine' goal_end ?bF ?bN ?bm ?bl ?bs ?bg ?bo
        case bF => k_asm
        case bN => k_asm
        case bm => exact fun _ => rfl
        case bl => k_extra "M at"
        case bs => k_extra "M tails"
        case bg => exact .nil
        case bo => k_extra "M all"
      | branch v5 g0 g1 =>
        cases hmore with
        | tuple hm hl =>
        cases hl with
        | cons i1 hl =>
        cases hl with
        | cons i2 hl =>
        cases hl
        cases i1
        cases i2
        rename (Fr _ _ _ _) => Fz
        dsimp only [End.op] at Fz z5
        k_extra "M steps"
        refine' goal_end ?cF ?cN ?cm ?cl ?cs ?cg ?co
        case cF => k_asm
        case cN => k_asm
        case cm => exact fun _ => goal_m1
        case cl => k_extra "M at"
        case cs => k_extra "M tails"
        case cg => exact .cons _ _ (.cons _ _ .nil)
        case co => k_extra "M all"
      | table v5 low gs g =>
        cases hmore with
        | tuple hm hl =>
        cases hl with
        | cons i1 hl =>
        cases hl with
        | cons i2 hl =>
        cases hl with
        | cons i3 hl =>
        cases hl
        cases i1
        cases i3
        cases i2 with
        | list hml hdl =>
        have hgi := ints_of_datAll hdl
        have hgz : gs.length ≤ 4 := by
          have : (gs ++ [g]).length ≤ 4 := hgl
          rw [List.length_append] at this
          omega
        have hgz2 := Nat.le_trans (Nat.le_of_eq hgi.length) hgz
        rename (Fr _ _ _ _) => Fz
        dsimp only [End.op] at Fz z5
        k_extra "M steps"
        k_extra "M split"
        refine' goal_end ?dF ?dN ?dm ?dl ?ds ?dg ?dz
        case dF => k_asm
        case dN => k_asm
        case dm => exact fun _ => goal_m2
        case dl => k_extra "M at"
        case ds => k_extra "M tails"
        case dg => assumption
        case dz => k_extra "M all"
    case jk =>
      clear hmore
      intro h8 tk8 lg gvs n8 tl F8 N8 hgi8 lg8
      simp only [LCg.Off1] at lg8
      k_extra "M split"
      try dsimp only
      try k_fold
      k_extra "M steps"
      refine Stop.go ?_
      refine LCg.CompSrc.ledger (its := svs.toArray) (k := ns) (by rfl) (by k_asm) (by k_asm) (by k_extra "M mem") (by rw [List.size_toArray, sizeLine_eq]; omega) ?_
      intro g9
      refine' comp_new _ (acc ++ XR) (fun j ys9 accr => DatAll (accr ++ X) ys9 ((brows.take j).map rowDat)) ?gnj ?g0j ?gSj ?gstepj ?gfinj
      case gnj => k_extra "M eq"
      case g0j => exact .nil
      case gSj => exact fun M => .inr ⟨_, mem_apr (mem_apr (mem_apr hls)), rfl, _, rfl⟩
      case gstepj =>
        rintro j ys9 accr v9 I9 oI C oC D m₂ h9 tk9 E9 hj hK9 hv9 hC hx9 F N off ne9 hdd
        obtain ⟨d, sr, hd9, rfl, y1, y2, hS⟩ := step_all hrows (i := j) (by simpa using hv9)
        obtain ⟨avs2, na2, hla2, havs2⟩ := hS.args
        have hav2 : avs2.length ≤ 100 := by rw [havs2.length]; exact hrw2 _ (List.mem_of_getElem? hd9)
        have hop2 := hS.op
        have hds2 := hS.dst
        have hmv2 := hS.more
        replace y1 := sXR _ y1
        replace y2 := sXR _ y2
        replace hla2 := sXR _ hla2
        obtain ⟨dop, ddst, dargs, dmore⟩ := d
        obtain ⟨x2, dx2, c1, c2, c3, c4, c5, c6, op2, u1, dst2, u2, la2, mv2, u6⟩ := sr
        dsimp only at y1 y2 hla2 hop2 hds2 hmv2 havs2 ⊢
        subst hop2 hds2
        dsimp only [stepObj, ent] at y2
        dsimp only [List.cons_append, List.nil_append] at N off hdd
        k_extra "M steps"
        k_extra "M split"
        refine' row_new ?sFj ?sNj ?sTj ?slcj ?ssj ?sdisj hK9 hd9 havs2 hmv2
        case sFj => k_asm
        case sNj => k_asm
        case sTj => exact mem_hd
        case slcj => k_extra "M at"
        case ssj => k_extra "M tails"
        case sdisj =>
          intro q1 q2
          dsimp only [List.cons_append, List.nil_append]
          k_extra "M dis"
      intro ys9 accr hK9 hdd
      have hK8 := rows_all hK9 (by rw [List.size_toArray]; exact hrows.length)
      unfold LCg.FinA
      intro D9 h9 tk9 F9 N9 o9
      dsimp only [List.cons_append, List.nil_append] at N9 hdd
      simp only [LCg.Off1, List.cons_append, List.nil_append] at o9
      k_extra "M split"
      dsimp only
      try k_fold
      k_extra "M steps"
      k_extra "M split"
      refine turn_next ?_
      refine' told_end ?eFj ?eNj ?emj ?elfj ?eT3j ?eT2j ?elacj ?elrj ?elgj ?eIj ?eaXj hb rfl rfl ?elowj havs hK8 ?egj hdy hdx hol ?eAj ?eBj ?eCj ?eDj
      case eFj => k_asm
      case eNj => k_asm
      case egj => exact hgi8
      case emj => k_extra "M same"
      case elfj => k_extra "M at"
      case eT3j => k_extra "M at"
      case eT2j => k_extra "M at"
      case elacj => k_extra "M at"
      case elrj => k_extra "M at"
      case elgj => k_extra "M at"
      case eIj => k_extra "M at"
      case eaXj => k_extra "M tails"
      case elowj => rfl
      case eAj => k_extra "M own"
      case eBj => intro q1 q2 q3 q4 q5; k_extra "M own"
      case eCj => exact fun p hp q hq => hdd p hp q (by revert hq; revert q; k_extra "M tails")
      case eDj => k_extra "M own"
  case hfin =>
    intro u M h tk hK F N
    clear hI
    have hK2 := told_fin hK (by rw [List.length_map]; unfold refsOf; rw [List.length_map]; exact hrl) hlo
    have N2 : News _ _ h (M ++ XR) := N
    clear N
    k_extra "M steps"
    exact hret _ _ _ _ (by k_asm) (by k_asm) hK2
end
end Mine
namespace Mine
def wayRow (b : BlockD) : Dat := .tuple [.list (b.rows.map rowDat), .str b.e.op, .list b.e.args, .int b.e.low, .int (b.e.goals.length : Nat)]
def wayFrom (bs : List BlockD) : Nat → List Int → List Dat
  | _, [] => []
  | k, c :: cs =>
    match bs[k]? with
    | none => []
    | some b => wayRow b :: (if b.e.goals = [] then [] else wayFrom bs (b.e.goals.getD (Int.fmod c (b.e.goals.length : Nat)).toNat 0).toNat cs)
theorem kset16 : True := by
  k_with_none
  k_with "M gen" => ((fail_if_success (goal_lacks Mine.GoalQ Mine.MidEnd Mine.MoreQ Mine.NewEnd Mine.TurnPostF PyProof.Rows.LCg.CompSrc PyProof.Rows.LCt.CompSrcT)); k_fold)
  k_with "M steps" => (repeat' (first | k_extra "M gen" | (k_unfold; (try dsimp only)) | (k_end; wrow_close) | walk1 | (dsimp only; walk1) | (leave1; walk_say "STEP leave1"; try dsimp only) | fail "no step"))
  k_with "M enterC" => ((refine' code_defC ?k1q17 ?k2q17 ?k3q17 ?k4q17 ?k5q17 ?kAq17 ?kFq17 ?kKq17 ?k6q17 ?k7q17 ?k8q17 ?k9q17 ?kBq17 ?kDq17 ?_ ?c2q17 ?c3q17 ?c4q17; (case kAq17 => exact rfl); (case kFq17 => exact rfl); (case kKq17 => assumption); (case k1q17 => k_asm); (case k2q17 => k_asm); (case k3q17 => k_asm); (case k4q17 => k_asm); (case k5q17 => k_asm); (case k6q17 => k_is); (case k7q17 => k_is); (case k8q17 => ktr_room); (case k9q17 => exact BindsTo.of_eq rfl); (case kBq17 => exact rfl); (case kDq17 => decide +kernel); (case c2q17 => exact rfl); (case c3q17 => exact rfl); (case c4q17 => exact rfl); k_whole; intro g'zq L'zq h'zq tk'zq cells'zq FG'zq F'zq N'zq Y'zq B'zq X'zq T'zq l1zq; k_cells Y'zq; (try simp only [List.cons_append, List.nil_append] at N'zq); (try dsimp only); (try k_fold)))
  k_with "M enter" => ((refine' code_def ?k1q18 ?k2q18 ?k3q18 ?k4q18 ?k5q18 ?kAq18 ?kFq18 ?kKq18 ?k6q18 ?k7q18 ?k8q18 ?k9q18 ?kBq18 ?_ ?c2q18 ?c3q18 ?c4q18 ?c5q18; (case kAq18 => exact rfl); (case kFq18 => exact rfl); (case kKq18 => first | exact rfl | assumption); (case k1q18 => k_asm); (case k2q18 => k_asm); (case k3q18 => k_asm); (case k4q18 => k_asm); (case k5q18 => k_asm); (case k6q18 => k_is); (case k7q18 => k_is); (case k8q18 => ktr_room); (case k9q18 => exact BindsTo.of_eq rfl); (case c5q18 => decide); (case kBq18 => exact locs rfl); (case c2q18 => exact rfl); (case c3q18 => exact rfl); (case c4q18 => exact rfl); k_whole; intro g'zq L'zq h'zq FG'zq F'zq N'zq B'zq X'zq T'zq; (try dsimp only); (try k_fold)))
  k_with "M mem" => (first | exact mem_hd | (with_reducible refine mem_tl ?_; k_extra "M mem") | with_reducible assumption | (with_reducible refine mem_apr ?_; k_extra "M mem") | (with_reducible refine mem_apl ?_; k_extra "M mem"))
  k_with "M ne" => ((refine neN ?_; (try dsimp only); first | exact Nat.ne_of_lt (by with_reducible assumption) | exact Nat.ne_of_gt (by with_reducible assumption) | with_reducible assumption | exact Ne.symm (by with_reducible assumption) | omega))
  k_with "M all" => (first | exact List.forall_mem_nil _ | with_reducible assumption | (with_reducible refine' List.forall_mem_cons.mpr ⟨?aq21, ?bq21⟩; (case aq21 => k_extra "M ne"); (case bq21 => k_extra "M all")) | (refine' allLt_ne ?dAq21; (case dAq21 => with_reducible assumption)) | (refine' off1_ne ?dAq21; (case dAq21 => with_reducible assumption)) | (refine' OwnOff.ne ?dAq21 ?dBq21; (case dAq21 => with_reducible assumption); (case dBq21 => k_memK)) | (refine' ne_app ?nAq21 ?nBq21; (case nAq21 => k_extra "M all"); (case nBq21 => k_extra "M all")) | (refine' dis_ne ?dAq21 ?dBq21; (case dAq21 => with_reducible assumption); (case dBq21 => k_extra "M mem")) | (refine' allLt_app ?dAq21; (case dAq21 => with_reducible assumption)) | (refine' allLt_apl ?dAq21; (case dAq21 => with_reducible assumption)) | (refine' allLt_ne_lt ?dAq21 ?dBq21; (case dAq21 => with_reducible assumption); (case dBq21 => with_reducible assumption)))
  k_with "newList" => ((k_here; k_dflt (refine' newList_K ?k1q22 ?k2q22 ?_; (case k1q22 => k_asm); (case k2q22 => k_asm); k_whole); intro l'zq h'zq F'zq N'zq l1zq; (try k_lt l1zq); (try k_sweep); k_extra "M split"))
  k_with "newTuple" => ((k_here; k_dflt (refine' kup_newTuple ?Fq23 ?Nq23 ?_ ?zq23; (case Fq23 => k_asm); (case Nq23 => k_asm); (case zq23 => kmk_size)); intro D'zq h'zq F'zq N'zq l1zq; (try k_lt l1zq); (try k_sweep); k_extra "M split"))
  k_with "call type:list" => ((k_here; (with_reducible show wpAny _ _ (call (Value.type _) [Value.ref _]) _ _ _); k_dflt (first | (refine' list_copyK ?k1q24 ?k2q24 ?k3q24 ?_ ?zq24; (case k1q24 => k_asm); (case k2q24 => k_asm); (case k3q24 => exact News.isList (by k_asm) (by k_extra "M mem")); (case zq24 => first | exact Nat.le_of_ble_eq_true rfl | (rw [List.size_toArray, sizeLine_eq]; omega) | exact kmk_sz (by with_reducible assumption) (by rw [sizeLine_eq]; omega)); k_whole) | (refine' list_copyKT ?k1q24 ?k2q24 ?k3q24 ?_ ?zq24; (case k1q24 => k_asm); (case k2q24 => k_asm); (case k3q24 => exact News.isTup (by k_asm) (by k_extra "M mem")); (case zq24 => exact Nat.le_of_ble_eq_true rfl); k_whole)); intro D'zq c'zq h'zq F'zq N'zq l1zq; (try k_lt l1zq); (try k_sweep); k_extra "M split"))
  k_with "M own" => (first | exact own_nil | (refine own_cons ?oAq25 ?oBq25; (case oAq25 => k_extra "M all"); (case oBq25 => k_extra "M own")))
  k_with "M dis" => (first | exact dis_nil | (refine dis_cons ?dAq26 ?dBq26; (case dAq26 => k_extra "M all"); (case dBq26 => k_extra "M dis")))
  k_with "M split" => (repeat ((with_reducible rename (_ ∧ _) => hc9zq); have hc9azq := hc9zq.1; have hc9bzq := hc9zq.2; clear hc9zq))
  k_with "M eq" => (first | exact eqs0 | exact eqs1 | exact eqs2 | exact eqs3 | exact eqs4 | exact eqs5 | exact eqs6 | exact eqs7 | exact eqs8 | exact eqs9 | exact eqs10 | exact eqs11 | exact eqs12 | exact eqs13 | exact eqs14 | exact eqs15 | exact eqs16)
  k_with "M tails" => ((intro pzq hpzq; (try dsimp only [List.cons_append, List.nil_append] at hpzq ⊢); repeat (first | with_reducible exact hpzq | with_reducible exact mem_apl hpzq | with_reducible refine List.mem_cons_of_mem _ ?_ | with_reducible refine mem_apr ?_)))
  k_with "M at" => (first | exact mem_hd | (refine mem_tl ?_; k_extra "M at"))
  k_with "M same" => ((intro zzq hzzq; (try dsimp only); (repeat (refine Eq.trans (same_if rfl hzzq) ?_)); first | exact same_frm hzzq | rfl))
  k_with "M clear" => (((repeat ((with_reducible rename (@LT.lt Nat _ _ _) => zzzq); clear zzzq)); (repeat ((with_reducible rename (AllLt _ _) => zzzq); clear zzzq))))
  k_with "M use" => (((case c1 => k_asm); (case c2 => k_asm); (case c3 => k_asm); (case c4 => k_asm); (case c5 => k_asm); (case c6 => first | exact rfl | assumption); (case c7 => ktr_room); (case c8 => ktr_units); k_whole))
  k_with "call builtin:list.append" => ((k_here; k_dflt (refine' append_any ?k1q34 ?k2q34 ?k3q34 ?k4q34 ?_; (case k1q34 => k_asm); (case k2q34 => k_asm); (case k3q34 => k_upd); (case k4q34 => with_reducible assumption)); intro h'zq F'zq N'zq))
  k_with "call builtin:len" => ((k_here; (with_reducible show wpAny _ _ (call (Value.builtin "len") [Value.ref _]) _ _ _); k_dflt (refine' kun_lenL ?k1q35 ?k2q35 ?k3q35 ?_; (case k1q35 => exact News.isList (by k_asm) (by k_extra "M mem")); (case k2q35 => with_reducible assumption); (case k3q35 => omega); k_whole)))
  k_with "binaryOp Add ref ref" => ((k_here; (with_reducible show wpAny _ _ (binaryOp _ (Value.ref _) (Value.ref _)) _ _ _); k_dflt (refine' kmk_add_ints ?Fq36 ?Nq36 ?aq36 ?bq36 ?iq36 ?jq36 ?_ ?zq36; (case Fq36 => k_asm); (case Nq36 => k_asm); (case aq36 => exact News.isList (by k_asm) (by k_extra "M mem")); (case bq36 => exact News.isList (by k_asm) (by k_extra "M mem")); (case iq36 => with_reducible assumption); (case jq36 => exact .cons _ _ .nil); (case zq36 => rw [sizeLine_eq, List.length_singleton]; omega)); intro D'zq ws'zq h'zq F'zq N'zq l1zq hI'zq; (try k_lt l1zq); (try k_sweep); k_extra "M split"))
  trivial
theorem way_end {bs : List BlockD} {k : Nat} {c : Int} {cs : List Int} {b : BlockD} (hb : bs[k]? = some b) (he : b.e.goals = []) : wayFrom bs k (c :: cs) = [wayRow b] := by
  show (match bs[k]? with
    | none => []
    | some b => wayRow b :: (if b.e.goals = [] then [] else wayFrom bs (b.e.goals.getD (Int.fmod c (b.e.goals.length : Nat)).toNat 0).toNat cs)) = _
  rw [hb]
  show wayRow b :: (if b.e.goals = [] then [] else _) = _
  rw [if_pos he]
theorem way_step {bs : List BlockD} {k : Nat} {c : Int} {cs : List Int} {b : BlockD} (hb : bs[k]? = some b) (he : b.e.goals ≠ []) : wayFrom bs k (c :: cs) = wayRow b :: wayFrom bs (b.e.goals.getD (Int.fmod c (b.e.goals.length : Nat)).toNat 0).toNat cs := by
  show (match bs[k]? with
    | none => []
    | some b => wayRow b :: (if b.e.goals = [] then [] else wayFrom bs (b.e.goals.getD (Int.fmod c (b.e.goals.length : Nat)).toNat 0).toNat cs)) = _
  rw [hb]
  show wayRow b :: (if b.e.goals = [] then [] else _) = _
  rw [if_neg he]
/-- between the turns of _law_way's loop -/
def WayInv (lf : Addr) (XR : Led) (bs : List BlockD) (cs : List Int) (i : Nat) (u : Str → Option Value) (M : Led) : Prop :=
  ∃ ys k acc pl t pre, M = (lf, listOf (List.toArray ys) k) :: acc ∧ DatAll (acc ++ XR) ys pre ∧ Dis acc XR ∧ OwnOff acc [lf] ∧ u (Str.ofString "at") = some (.int ((pl : Nat) : Int) t) ∧ pl < bs.length ∧ pre ++ wayFrom bs pl (cs.drop i) = wayFrom bs 0 cs ∧ pre.length ≤ i
def WayPost (news : Led) (bs : List BlockD) (cs : List Int) (r : Value) (news' : Led) : Prop :=
  ∃ tl, news' = tl ++ news ∧ DatIn (tl ++ news) r (.list (wayFrom bs 0 cs)) ∧ Dis tl news
theorem way_post {lf : Addr} {XR acc : Led} {bs : List BlockD} {cs : List Int} {ys : List Value} {k : Nat} {pre : List Dat} (hd : DatAll (acc ++ XR) ys pre) (hdx : Dis acc XR) (hlo : OwnOff XR [lf]) (he : pre = wayFrom bs 0 cs) : WayPost XR bs cs (.ref lf) (((lf, listOf (List.toArray ys) k) :: acc) ++ XR) := by
  subst he
  refine ⟨(lf, listOf (List.toArray ys) k) :: acc, rfl, .list (.head _) (hd.mono fun p hp => .tail _ hp), fun p hp q hq => ?_⟩
  rcases List.mem_cons.mp hp with rfl | hp
  · exact Ne.symm (hlo q hq _ (.head _))
  · exact hdx p hp q hq
theorem way_fin {lf : Addr} {XR M : Led} {bs : List BlockD} {cs : List Int} {i : Nat} {u : Str → Option Value} (hK : WayInv lf XR bs cs i u M) (hi : i = cs.length) (hlo : OwnOff XR [lf]) : WayPost XR bs cs (.ref lf) (M ++ XR) := by
  obtain ⟨ys, k, acc, pl, t, pre, rfl, hd, hdx, hol, _, _, he, _⟩ := hK
  rw [hi, List.drop_length] at he
  refine way_post hd hdx hlo ?_
  rw [← he]
  show pre = pre ++ []
  rw [List.append_nil]
theorem turn_ret {h₀ : Heap} {L : Addr} {stored : List Str} {m₀ : Str → Option Value} {pre M rest its : Led} {s₁ : Shared} {K : (Str → Option Value) → Led → Prop} {Q : Flow → Shared → Prop} {s₂ : Shared} {v : Value} (h : Q (.ret v) s₂) : TurnPostF h₀ L stored m₀ pre M rest its s₁ K Q (.ret v) s₂ := h
/-- the row that a turn found -/
theorem way_row {T lr la : Addr} {kt : Nat} {acc XR : Led} {b : BlockD} {ys rvs avs : List Value} {t1 t2 t3 : Tok} {kr ka : Nat} {pre : List Dat} {op : Str} {low gl : Int} (hr : (lr, listOf (List.toArray rvs) kr) ∈ XR) (hrd : DatAll XR rvs (b.rows.map rowDat)) (ha : (la, listOf (List.toArray avs) ka) ∈ XR) (had : DatAll XR avs b.e.args)
    (hop : op = b.e.op) (hlow : low = b.e.low) (hgl : gl = ((b.e.goals.length : Nat) : Int)) (hd : DatAll (acc ++ XR) ys pre) :
    DatAll (((T, tupOf (List.toArray [.ref lr, .str op t1, .ref la, .int low t2, .int gl t3]) kt) :: acc) ++ XR) (ys ++ [.ref T]) (pre ++ [wayRow b]) := by
  subst hop hlow hgl
  have sX : ∀ p ∈ XR, p ∈ ((T, tupOf (List.toArray [.ref lr, .str b.e.op t1, .ref la, .int b.e.low t2, .int ((b.e.goals.length : Nat) : Int) t3]) kt) :: acc) ++ XR := fun p hp => List.mem_append.mpr (.inr hp)
  exact datAll_app (hd.mono fun p hp => .tail _ hp) (.cons (.tuple (.head _) (.cons (.list (sX _ hr) (hrd.mono sX)) (.cons (.str _ _) (.cons (.list (sX _ ha) (had.mono sX)) (.cons (.int _ _) (.cons (.int _ _) .nil)))))) .nil)
theorem told_inv {ld : Led} {v : Value} {b : BlockD} (h : DatIn ld v (toldDat b)) : ∃ (T lr T2 la lg : Addr) (t1 t2 t3 : Tok) (k1 k2 k3 k4 k5 : Nat) (rvs avs gvs : List Value), v = .ref T ∧ (T, tupOf (List.toArray [.int b.num t1, .ref lr, .ref T2]) k1) ∈ ld ∧ (lr, listOf (List.toArray rvs) k2) ∈ ld ∧ DatAll ld rvs (b.rows.map rowDat) ∧
    (T2, tupOf (List.toArray [.str b.e.op t2, .ref la, .int b.e.low t3, .ref lg]) k3) ∈ ld ∧ (la, listOf (List.toArray avs) k4) ∈ ld ∧ DatAll ld avs b.e.args ∧ (lg, listOf (List.toArray gvs) k5) ∈ ld ∧ IntsAre gvs b.e.goals := by
  cases h with
  | tuple hm h =>
    cases h with
    | cons h1 h =>
      cases h with
      | cons h2 h =>
        cases h with
        | cons h3 h =>
          cases h
          cases h1
          cases h2 with
          | list m2 d2 =>
            obtain ⟨a, la, lg, t, t2, n1, n2, n3, avs, gvs, rfl, q1, q2, q3, q4, q5⟩ := end_inv h3
            exact ⟨_, _, _, _, _, _, _, _, _, _, _, _, _, _, _, _, rfl, hm, m2, d2, q1, q2, q3, q4, q5⟩
end Mine
namespace Mine
theorem own_of_nil {l : List Addr} : OwnOff [] l := fun _ h => nomatch h
end Mine
namespace Mine
theorem drop_at {cs : List Int} {i : Nat} {c : Int} (h : cs[i]? = some c) : cs.drop i = c :: cs.drop (i + 1) := by
  have hi := (List.getElem?_eq_some_iff.mp h).1
  rw [List.drop_eq_getElem_cons hi]
  congr 1
  have := List.getElem?_eq_getElem hi
  rw [h] at this
  exact (Option.some.inj this).symm
theorem mod_in {c gl : Int} {gs : List Int} (hgl : gl = ((gs.length : Nat) : Int)) (hne : gs ≠ []) : gl ≠ 0 ∧ 0 ≤ Int.fmod c gl ∧ Int.fmod c gl < ((gs.length : Nat) : Int) := by
  have h1 : 0 < gs.length := List.length_pos_iff.mpr hne
  have h2 : 0 < gl := by omega
  have h3 := fmod_lo c h2
  have h4 := fmod_hi c h2
  exact ⟨by omega, by omega, by omega⟩
theorem getD_mem {gs : List Int} {k : Nat} (h : k < gs.length) : gs.getD k 0 ∈ gs := by
  rw [List.getD_eq_getElem?_getD, List.getElem?_eq_getElem h]
  exact List.getElem_mem h
theorem way_stop {lf T lr la : Addr} {kt : Nat} {XR acc : Led} {bs : List BlockD} {b : BlockD} {cs : List Int} {ys rvs avs : List Value} {k kr ka i pl : Nat} {pre : List Dat} {c gl : Int} {t1 t2 t3 : Tok} (hr : (lr, listOf (List.toArray rvs) kr) ∈ XR) (hrd : DatAll XR rvs (b.rows.map rowDat)) (ha : (la, listOf (List.toArray avs) ka) ∈ XR) (had : DatAll XR avs b.e.args)
    (hgl : gl = ((b.e.goals.length : Nat) : Int)) (hd : DatAll (acc ++ XR) ys pre) (hdx : Dis acc XR) (hlo : OwnOff XR [lf]) (hT : ∀ p ∈ XR, p.1 ≠ T) (hb : bs[pl]? = some b) (he : b.e.goals = []) (hci : cs[i]? = some c) (hpre : pre ++ wayFrom bs pl (cs.drop i) = wayFrom bs 0 cs) :
    WayPost XR bs cs (.ref lf) (((lf, listOf (List.toArray (ys ++ [.ref T])) (k + 1)) :: (T, tupOf (List.toArray [.ref lr, .str b.e.op t1, .ref la, .int b.e.low t2, .int gl t3]) kt) :: acc) ++ XR) := by
  rw [drop_at hci, way_end hb he] at hpre
  refine way_post (acc := (T, tupOf (List.toArray [.ref lr, .str b.e.op t1, .ref la, .int b.e.low t2, .int gl t3]) kt) :: acc) (way_row hr hrd ha had rfl rfl hgl hd) (fun p hp q hq => ?_) hlo hpre
  rcases List.mem_cons.mp hp with rfl | hp
  · exact Ne.symm (hT q hq)
  · exact hdx p hp q hq
theorem way_turn {h₀ h' : Heap} {L : Addr} {m' m₀ : Str → Option Value} {stored : List Str} {s₁ : Shared} {tk' : Nat} {o1 : Obj} {all : Led} {lf I T lr la : Addr} {kt : Nat} {XR acc : Led} {bs : List BlockD} {b : BlockD} {cs : List Int} {ys rvs avs : List Value} {k kr ka i pl : Nat} {pre : List Dat} {c gl g : Int} {t1 t2 t3 tq : Tok}
    (F : Fr h₀ L h' m') (hm : ∀ z, stored.contains z = false → m' z = m₀ z) (N : News h₀ L h' all) (hat : m' (Str.ofString "at") = some (.int g tq)) (hgv : g = b.e.goals.getD (Int.fmod c gl).toNat 0)
    (hTm : (T, tupOf (List.toArray [.ref lr, .str b.e.op t1, .ref la, .int b.e.low t2, .int gl t3]) kt) ∈ all) (hlf : (lf, listOf (List.toArray (ys ++ [.ref T])) (k + 1)) ∈ all) (hI : (I, o1) ∈ all) (haX : ∀ p ∈ acc ++ XR, p ∈ all)
    (hr : (lr, listOf (List.toArray rvs) kr) ∈ XR) (hrd : DatAll XR rvs (b.rows.map rowDat)) (ha : (la, listOf (List.toArray avs) ka) ∈ XR) (had : DatAll XR avs b.e.args)
    (hgl : gl = ((b.e.goals.length : Nat) : Int)) (hd : DatAll (acc ++ XR) ys pre) (hdx : Dis acc XR) (hol : OwnOff acc [lf]) (hT : ∀ p ∈ XR, p.1 ≠ T) (hTl : @Ne Nat T lf) (hTI : @Ne Nat T I) (hb : bs[pl]? = some b) (hne : b.e.goals ≠ []) (hgr : ∀ g ∈ b.e.goals, 0 ≤ g ∧ g < (bs.length : Nat)) (hci : cs[i]? = some c)
    (hpre : pre ++ wayFrom bs pl (cs.drop i) = wayFrom bs 0 cs) (hprl : pre.length ≤ i) :
    TurnEndF h₀ L stored m₀ [] ((lf, listOf (List.toArray ys) k) :: acc) XR [(I, o1)] s₁ (fun u M => WayInv lf XR bs cs (i + 1) u M) { s₁ with heap := h', toks := tk' } := by
  obtain ⟨z1, z2, z3⟩ := mod_in (c := c) hgl hne
  have hgm := hgr g (by rw [hgv]; exact getD_mem (by omega))
  rw [drop_at hci, way_step hb hne, ← hgl, ← hgv] at hpre
  refine ⟨h', tk', m', (lf, listOf (List.toArray (ys ++ [.ref T])) (k + 1)) :: (T, tupOf (List.toArray [.ref lr, .str b.e.op t1, .ref la, .int b.e.low t2, .int gl t3]) kt) :: acc, rfl, F, hm, news_sub N fun p hp => ?_, fun p hp => ?_, ys ++ [.ref T], k + 1, _, g.toNat, tq, pre ++ [wayRow b], rfl, way_row hr hrd ha had rfl rfl hgl hd, fun p hp q hq => ?_, fun p hp c hc => ?_, ?_, by omega, ?_, by rw [List.length_append, List.length_singleton]; omega⟩
  · have hp : p ∈ (I, o1) :: (lf, listOf (List.toArray (ys ++ [.ref T])) (k + 1)) :: (T, tupOf (List.toArray [.ref lr, .str b.e.op t1, .ref la, .int b.e.low t2, .int gl t3]) kt) :: (acc ++ XR) := hp
    rcases List.mem_cons.mp hp with rfl | hp
    · exact hI
    · rcases List.mem_cons.mp hp with rfl | hp
      · exact hlf
      · rcases List.mem_cons.mp hp with rfl | hp
        · exact hTm
        · exact haX p hp
  · rcases List.mem_cons.mp hp with rfl | hp
    · exact .inl ⟨_, .head _, rfl⟩
    · rcases List.mem_cons.mp hp with rfl | hp
      · refine .inr fun q hq => ?_
        rw [List.mem_singleton.mp hq]; exact hTI
      · exact .inl ⟨p, .tail _ hp, rfl⟩
  · rcases List.mem_cons.mp hp with rfl | hp
    · exact Ne.symm (hT q hq)
    · exact hdx p hp q hq
  · rcases List.mem_cons.mp hp with rfl | hp
    · rw [List.mem_singleton.mp hc]; exact hTl
    · exact hol p hp c hc
  · rw [hat, Int.toNat_of_nonneg hgm.1]
  · rw [List.append_assoc]; exact hpre
end Mine
namespace Mine
theorem sub_two {x y : Addr × Obj} {all Y : Led} (h : x ∈ all) (h2 : y ∈ all) (hY : ∀ p ∈ Y, p ∈ all) : ∀ p ∈ x :: y :: Y, p ∈ all := sub_one h (sub_one h2 hY)
end Mine
namespace Mine
section
theorem kset17 : True := by
  k_with_none
  k_with "M gen" => ((fail_if_success (goal_lacks Mine.GoalQ Mine.MidEnd Mine.MoreQ Mine.NewEnd Mine.TurnPostF PyProof.Rows.LCg.CompSrc PyProof.Rows.LCt.CompSrcT)); k_fold)
  k_with "M steps" => (repeat' (first | k_extra "M gen" | (k_unfold; (try dsimp only)) | (k_end; wrow_close) | walk1 | (dsimp only; walk1) | (leave1; walk_say "STEP leave1"; try dsimp only) | fail "no step"))
  k_with "M enterC" => ((refine' code_defC ?k1q17 ?k2q17 ?k3q17 ?k4q17 ?k5q17 ?kAq17 ?kFq17 ?kKq17 ?k6q17 ?k7q17 ?k8q17 ?k9q17 ?kBq17 ?kDq17 ?_ ?c2q17 ?c3q17 ?c4q17; (case kAq17 => exact rfl); (case kFq17 => exact rfl); (case kKq17 => assumption); (case k1q17 => k_asm); (case k2q17 => k_asm); (case k3q17 => k_asm); (case k4q17 => k_asm); (case k5q17 => k_asm); (case k6q17 => k_is); (case k7q17 => k_is); (case k8q17 => ktr_room); (case k9q17 => exact BindsTo.of_eq rfl); (case kBq17 => exact rfl); (case kDq17 => decide +kernel); (case c2q17 => exact rfl); (case c3q17 => exact rfl); (case c4q17 => exact rfl); k_whole; intro g'zq L'zq h'zq tk'zq cells'zq FG'zq F'zq N'zq Y'zq B'zq X'zq T'zq l1zq; k_cells Y'zq; (try simp only [List.cons_append, List.nil_append] at N'zq); (try dsimp only); (try k_fold)))
  k_with "M enter" => ((refine' code_def ?k1q18 ?k2q18 ?k3q18 ?k4q18 ?k5q18 ?kAq18 ?kFq18 ?kKq18 ?k6q18 ?k7q18 ?k8q18 ?k9q18 ?kBq18 ?_ ?c2q18 ?c3q18 ?c4q18 ?c5q18; (case kAq18 => exact rfl); (case kFq18 => exact rfl); (case kKq18 => first | exact rfl | assumption); (case k1q18 => k_asm); (case k2q18 => k_asm); (case k3q18 => k_asm); (case k4q18 => k_asm); (case k5q18 => k_asm); (case k6q18 => k_is); (case k7q18 => k_is); (case k8q18 => ktr_room); (case k9q18 => exact BindsTo.of_eq rfl); (case c5q18 => decide); (case kBq18 => exact locs rfl); (case c2q18 => exact rfl); (case c3q18 => exact rfl); (case c4q18 => exact rfl); k_whole; intro g'zq L'zq h'zq FG'zq F'zq N'zq B'zq X'zq T'zq; (try dsimp only); (try k_fold)))
  k_with "M mem" => (first | exact mem_hd | (with_reducible refine mem_tl ?_; k_extra "M mem") | with_reducible assumption | (with_reducible refine mem_apr ?_; k_extra "M mem") | (with_reducible refine mem_apl ?_; k_extra "M mem"))
  k_with "M ne" => ((refine neN ?_; (try dsimp only); first | exact Nat.ne_of_lt (by with_reducible assumption) | exact Nat.ne_of_gt (by with_reducible assumption) | with_reducible assumption | exact Ne.symm (by with_reducible assumption) | omega))
  k_with "M all" => (first | exact List.forall_mem_nil _ | with_reducible assumption | (with_reducible refine' List.forall_mem_cons.mpr ⟨?aq21, ?bq21⟩; (case aq21 => k_extra "M ne"); (case bq21 => k_extra "M all")) | (refine' allLt_ne ?dAq21; (case dAq21 => with_reducible assumption)) | (refine' off1_ne ?dAq21; (case dAq21 => with_reducible assumption)) | (refine' OwnOff.ne ?dAq21 ?dBq21; (case dAq21 => with_reducible assumption); (case dBq21 => k_memK)) | (refine' ne_app ?nAq21 ?nBq21; (case nAq21 => k_extra "M all"); (case nBq21 => k_extra "M all")) | (refine' dis_ne ?dAq21 ?dBq21; (case dAq21 => with_reducible assumption); (case dBq21 => k_extra "M mem")) | (refine' allLt_app ?dAq21; (case dAq21 => with_reducible assumption)) | (refine' allLt_apl ?dAq21; (case dAq21 => with_reducible assumption)) | (refine' allLt_ne_lt ?dAq21 ?dBq21; (case dAq21 => with_reducible assumption); (case dBq21 => with_reducible assumption)))
  k_with "newList" => ((k_here; k_dflt (refine' newList_K ?k1q22 ?k2q22 ?_; (case k1q22 => k_asm); (case k2q22 => k_asm); k_whole); intro l'zq h'zq F'zq N'zq l1zq; (try k_lt l1zq); (try k_sweep); k_extra "M split"))
  k_with "newTuple" => ((k_here; k_dflt (refine' kup_newTuple ?Fq23 ?Nq23 ?_ ?zq23; (case Fq23 => k_asm); (case Nq23 => k_asm); (case zq23 => kmk_size)); intro D'zq h'zq F'zq N'zq l1zq; (try k_lt l1zq); (try k_sweep); k_extra "M split"))
  k_with "call type:list" => ((k_here; (with_reducible show wpAny _ _ (call (Value.type _) [Value.ref _]) _ _ _); k_dflt (first | (refine' list_copyK ?k1q24 ?k2q24 ?k3q24 ?_ ?zq24; (case k1q24 => k_asm); (case k2q24 => k_asm); (case k3q24 => exact News.isList (by k_asm) (by k_extra "M mem")); (case zq24 => first | exact Nat.le_of_ble_eq_true rfl | (rw [List.size_toArray, sizeLine_eq]; omega) | exact kmk_sz (by with_reducible assumption) (by rw [sizeLine_eq]; omega)); k_whole) | (refine' list_copyKT ?k1q24 ?k2q24 ?k3q24 ?_ ?zq24; (case k1q24 => k_asm); (case k2q24 => k_asm); (case k3q24 => exact News.isTup (by k_asm) (by k_extra "M mem")); (case zq24 => exact Nat.le_of_ble_eq_true rfl); k_whole)); intro D'zq c'zq h'zq F'zq N'zq l1zq; (try k_lt l1zq); (try k_sweep); k_extra "M split"))
  k_with "M own" => (first | exact own_nil | (refine own_cons ?oAq25 ?oBq25; (case oAq25 => k_extra "M all"); (case oBq25 => k_extra "M own")))
  k_with "M dis" => (first | exact dis_nil | (refine dis_cons ?dAq26 ?dBq26; (case dAq26 => k_extra "M all"); (case dBq26 => k_extra "M dis")))
  k_with "M split" => (repeat ((with_reducible rename (_ ∧ _) => hc9zq); have hc9azq := hc9zq.1; have hc9bzq := hc9zq.2; clear hc9zq))
  k_with "M eq" => (first | exact eqs0 | exact eqs1 | exact eqs2 | exact eqs3 | exact eqs4 | exact eqs5 | exact eqs6 | exact eqs7 | exact eqs8 | exact eqs9 | exact eqs10 | exact eqs11 | exact eqs12 | exact eqs13 | exact eqs14 | exact eqs15 | exact eqs16)
  k_with "M tails" => ((intro pzq hpzq; (try dsimp only [List.cons_append, List.nil_append] at hpzq ⊢); repeat (first | with_reducible exact hpzq | with_reducible exact mem_apl hpzq | with_reducible refine List.mem_cons_of_mem _ ?_ | with_reducible refine mem_apr ?_)))
  k_with "M at" => (first | exact mem_hd | (refine mem_tl ?_; k_extra "M at"))
  k_with "M same" => ((intro zzq hzzq; (try dsimp only); (repeat (refine Eq.trans (same_if rfl hzzq) ?_)); first | exact same_frm hzzq | rfl))
  k_with "M clear" => (((repeat ((with_reducible rename (@LT.lt Nat _ _ _) => zzzq); clear zzzq)); (repeat ((with_reducible rename (AllLt _ _) => zzzq); clear zzzq))))
  k_with "M use" => (((case c1 => k_asm); (case c2 => k_asm); (case c3 => k_asm); (case c4 => k_asm); (case c5 => k_asm); (case c6 => first | exact rfl | assumption); (case c7 => ktr_room); (case c8 => ktr_units); k_whole))
  k_with "call builtin:list.append" => ((k_here; k_dflt (refine' append_any ?k1q34 ?k2q34 ?k3q34 ?k4q34 ?_; (case k1q34 => k_asm); (case k2q34 => k_asm); (case k3q34 => k_upd); (case k4q34 => with_reducible assumption)); intro h'zq F'zq N'zq))
  k_with "call builtin:len" => ((k_here; (with_reducible show wpAny _ _ (call (Value.builtin "len") [Value.ref _]) _ _ _); k_dflt (refine' kun_lenL ?k1q35 ?k2q35 ?k3q35 ?_; (case k1q35 => exact News.isList (by k_asm) (by k_extra "M mem")); (case k2q35 => with_reducible assumption); (case k3q35 => omega); k_whole)))
  k_with "binaryOp Add ref ref" => ((k_here; (with_reducible show wpAny _ _ (binaryOp _ (Value.ref _) (Value.ref _)) _ _ _); k_dflt (refine' kmk_add_ints ?Fq36 ?Nq36 ?aq36 ?bq36 ?iq36 ?jq36 ?_ ?zq36; (case Fq36 => k_asm); (case Nq36 => k_asm); (case aq36 => exact News.isList (by k_asm) (by k_extra "M mem")); (case bq36 => exact News.isList (by k_asm) (by k_extra "M mem")); (case iq36 => with_reducible assumption); (case jq36 => exact .cons _ _ .nil); (case zq36 => rw [sizeLine_eq, List.length_singleton]; omega)); intro D'zq ws'zq h'zq F'zq N'zq l1zq hI'zq; (try k_lt l1zq); (try k_sweep); k_extra "M split"))
  k_with "M all" => (first | exact List.forall_mem_nil _ | with_reducible assumption | (with_reducible refine' List.forall_mem_cons.mpr ⟨?aq78, ?bq78⟩; (case aq78 => k_extra "M ne"); (case bq78 => k_extra "M all")) | (refine' allLt_ne ?dAq78; (case dAq78 => with_reducible assumption)) | (refine' off1_ne ?dAq78; (case dAq78 => with_reducible assumption)) | (refine' OwnOff.ne ?dAq78 ?dBq78; (case dAq78 => with_reducible assumption); (case dBq78 => k_memK)) | (refine' ne_app ?nAq78 ?nBq78; (case nAq78 => k_extra "M all"); (case nBq78 => k_extra "M all")) | (refine' dis_ne ?dAq78 ?dBq78; (case dAq78 => with_reducible assumption); (case dBq78 => k_extra "M mem")) | (refine' allLt_app ?dAq78; (case dAq78 => with_reducible assumption)) | (refine' allLt_ne_lt ?dAq78 ?dBq78; (case dAq78 => with_reducible assumption); (case dBq78 => with_reducible assumption)))
  k_with "call type:list" => ((k_here; (with_reducible show wpAny _ _ (call (Value.type _) [Value.ref _]) _ _ _); k_dflt (refine' list_copyK ?k1q79 ?k2q79 ?k3q79 ?_ ?zq79; (case k1q79 => k_asm); (case k2q79 => k_asm); (case k3q79 => exact News.isList (by k_asm) (by k_mem)); (case zq79 => first | exact Nat.le_of_ble_eq_true rfl | size_fits); k_whole); intro D'zq c'zq h'zq F'zq N'zq l1zq; (try k_lt l1zq); (try k_sweep); k_extra "M split"))
  k_with "M tails" => ((intro pzq hpzq; (try dsimp only [List.cons_append, List.nil_append] at hpzq); repeat (first | with_reducible exact hpzq | with_reducible refine List.mem_cons_of_mem _ ?_ | with_reducible refine mem_apr ?_)))
  k_with "exec For Name Name cons nil" => (refine Stop.mk ?_)
  k_with "exec For Name Name" => (refine Stop.mk ?_)
  k_with "pyIter ref" => (refine Stop.mk ?_)
  k_with "subscriptTail Name Name ref int" => (refine Stop.mk ?_)
  k_with "compareOp Eq ref ref" => ((k_here; k_dflt (refine' eq_intsK ?k1q85 ?k2q85 ?k3q85 ?k4q85 ?k5q85 ?_; (case k1q85 => exact News.isList (by k_asm) (by k_extra "M mem")); (case k2q85 => with_reducible assumption); (case k3q85 => exact News.isList (by k_asm) mem_hd); (case k4q85 => exact .nil); (case k5q85 => units_room); k_whole)))
  k_with "binaryOp Mod int int" => (refine Stop.mk ?_)
  k_with "subscriptTail Name BinOp ref int" => (refine Stop.mk ?_)
  k_with "M way" => ((dsimp only [List.cons_append]; (refine sub_two ?sw1q88 ?sw2q88 ?sw3q88); (case sw1q88 => k_extra "M at"); (case sw2q88 => k_extra "M at"); (case sw3q88 => k_extra "M tails")))
  trivial
set_option maxRecDepth 100000 in
set_option maxHeartbeats 8000000 in
theorem way_ctr (w : World) (lb lc : Addr) (bvs cvs : List Value) (nb nc : Nat) (bs : List BlockD) (cs : List Int) (XR : Led) (hlb : (lb, listOf (List.toArray bvs) nb) ∈ XR) (hbd : DatAll XR bvs (bs.map toldDat)) (hlc : (lc, listOf (List.toArray cvs) nc) ∈ XR) (hcd : IntsAre cvs cs) (hne : 0 < bs.length) (hlen : bs.length ≤ 6) (hcl : cs.length ≤ 10) (hc : ∀ c ∈ cs, 0 ≤ c ∧ c < 100) (hg : ∀ b ∈ bs, b.e.goals.length ≤ 4 ∧ ∀ g ∈ b.e.goals, 0 ≤ g ∧ g < (bs.length : Nat)) :
    Ctr w 130 12 [.ref lb, .ref lc] XR (WayPost XR bs cs) := by
  unfold Ctr
  k_fill
  w_top off
  intro p loose mean mg mb dp un gd cn cs9 a ccd cl outer A₀ base h₀ L m s Q E BB F X9 N T hk hd hu hret
  refine wpAny_call ?_
  k_dflt ktr_enter
  k_extra "M steps"
  refine Stop.go ?_
  k_extra "M split"
  rename (News _ _ _ ((_, _) :: (_, listOf _ _) :: _)) => Nz
  refine told_start (news_sub Nz fun p hp => .tail _ hp) (own_cons (lt_ne (by assumption)) own_nil) ?_
  clear Nz
  intro lf elf N1 hlo
  subst elf
  refine For_turns (by k_asm) ?_
  k_extra "M steps"
  refine Stop.go ?_
  refine iter_listTurns (by rfl) (by k_asm) (by k_asm) (.tail _ hlc) rfl rfl ?_
  intro I hI
  try dsimp only
  refine' items_fr [Str.ofString "choice", Str.ofString "number", Str.ofString "rows", Str.ofString "end", Str.ofString "op", Str.ofString "args", Str.ofString "low", Str.ofString "goals", Str.ofString "at"] [] [(lf, listOf (List.toArray []) 0)] XR (fun i u M => WayInv lf XR bs cs i u M) ?hn ?hh0 ?hhk ?hoff ?hstep ?hfin
  case hn => exact rfl
  case hh0 => exact ⟨[], 0, [], 0, _, [], rfl, .nil, dis_nil, own_of_nil, rfl, hne, rfl, Nat.le_refl _⟩
  case hhk => exact fun M => ⟨mem_apr (mem_apr hlc), trivial⟩
  case hoff =>
    intro p hp q hq
    rw [List.mem_singleton.mp hq]
    exact Nat.ne_of_lt (hI p hp)
  case hstep =>
    rintro i u M a9 v h tk its hx ha ⟨ys, k, acc, pl, tp, pre, rfl, hdy, hdx, hol, hu1, hpl, hpre, hprl⟩ ho off F N
    obtain ⟨v9, hv9, rfl⟩ : ∃ v9, cvs[i]? = some v9 ∧ a9 = .val v9 := by
      rw [List.getElem?_map] at hx
      obtain ⟨v9, h1, h2⟩ := Option.map_eq_some_iff.mp hx
      exact ⟨v9, h1, h2.symm⟩
    have ha : v = v9 := ha
    subst ha
    obtain ⟨c, tc, rfl, hci⟩ := ints_at hcd hv9
    obtain ⟨o1, rfl⟩ := objs_one ho
    obtain ⟨hc0, hc1⟩ := hc c (List.mem_of_getElem? hci)
    have hil := (List.getElem?_eq_some_iff.mp hci).1
    obtain ⟨b, hb⟩ : ∃ b, bs[pl]? = some b := ⟨_, List.getElem?_eq_getElem hpl⟩
    have hbm := List.mem_of_getElem? hb
    obtain ⟨hgl, hgr⟩ := hg b hbm
    obtain ⟨vb, hvb, hvd⟩ := hbd.get (k := pl) (by rw [List.length_map]; exact hpl)
    have hvd2 : DatIn XR vb (toldDat b) := by
      have e : (bs.map toldDat)[pl]? = some (toldDat b) := by rw [List.getElem?_map, hb]; rfl
      have e2 := List.getElem?_eq_getElem (l := bs.map toldDat) (i := pl) (by rw [List.length_map]; exact hpl)
      rw [e] at e2
      rw [Option.some.inj e2]
      exact hvd
    obtain ⟨Tb, lr, T2, la, lg, t1, t2, t3, q1, q2, q3, q4, q5, rvs, avs, gvs, rfl, m1, m2, m3, m4, m5, m6, m7, m8⟩ := told_inv hvd2
    have hyl : ys.length ≤ 1000 := by
      rw [hdy.length]
      omega
    have hgz := m8.length
    obtain ⟨gl, egl⟩ : ∃ gl : Int, gl = ((b.e.goals.length : Nat) : Int) := ⟨_, rfl⟩
    have hk2 : (((List.toArray gvs).size : Nat) : Int) = gl := by rw [egl, List.size_toArray, hgz]
    have hgl0 : gl ≤ 4 := by omega
    have hpl2 : (pl : Int) < 6 := by omega
    dsimp only [List.cons_append, List.nil_append] at N
    have nI : (@Ne Nat lf I) := off (lf, _) (.head _) _ (.head _)
    have offI : OwnOff (acc ++ XR) [I] := by
      intro p hp c hc
      rw [List.mem_singleton.mp hc]
      exact off p (.tail _ hp) _ (.head _)
    have offl : OwnOff (acc ++ XR) [lf] := by
      intro p hp c hc
      rcases List.mem_append.mp hp with hp | hp
      · exact hol p hp c hc
      · exact hlo p hp c hc
    clear off
    replace F := frm_name F rfl hu1
    k_extra "M steps"
    refine Stop.go ?_
    refine PyProof.Rows.item_list (x := .ref Tb) (News.isList (by k_asm) (by k_extra "M mem")) (by omega) (by omega) (by simpa using hvb) ?_
    k_extra "M steps"
    · rename (decide (b.e.goals = []) = true) => hgn9
      have hgn := of_decide_eq_true hgn9
      k_extra "M split"
      refine turn_ret ?_
      k_extra "M steps"
      refine' hret _ _ _ _ (by k_asm) (news_sub ?N ?sub) (way_stop m2 m3 m5 m6 egl hdy hdx hlo ?hT hb hgn hci hpre)
      case N => k_asm
      case sub => k_extra "M way"
      case hT => k_extra "M all"
    · rename (decide (b.e.goals = []) = false) => hgn9
      have hgn : b.e.goals ≠ [] := of_decide_eq_false hgn9
      obtain ⟨y1, y2, y3⟩ := mod_in (c := c) egl hgn
      refine Stop.go ?_
      refine mod_int' y1 ?_
      k_extra "M steps"
      refine Stop.go ?_
      refine ksa_sub (by k_asm) (by k_extra "M mem") m8 y2 y3 (by omega) ?_ (by with_unfolding_all rfl)
      intro tq
      k_extra "M steps"
      k_extra "M split"
      refine turn_next ?_
      refine' way_turn ?eF ?em ?eN ?eat rfl ?eT ?elf ?eI ?eaX m2 m3 m5 m6 egl hdy hdx hol ?ehT ?eTl ?eTI hb hgn hgr hci hpre hprl
      case eF => k_asm
      case em => k_extra "M same"
      case eN => k_asm
      case eat => rfl
      case eT => k_extra "M at"
      case elf => k_extra "M at"
      case eI => k_extra "M at"
      case eaX => k_extra "M tails"
      case ehT => k_extra "M all"
      case eTl => k_extra "M ne"
      case eTI => k_extra "M ne"
  case hfin =>
    intro u M h tk hK F N
    clear hI
    have hK2 := way_fin hK (by rw [List.length_map]; exact hcd.length) hlo
    have N2 : News _ _ h (M ++ XR) := N
    clear N
    k_extra "M steps"
    exact hret _ _ _ _ (by k_asm) (by k_asm) hK2
end
end Mine
namespace Mine
/-- the rows of a block as the law makes them -/
def RowOk (d : StepD) : Prop := d.op = Str.ofString "const" ∧ d.more = .int 0 ∧ ∃ k : Int, d.args = [.tuple [.str (Str.ofString "k"), .int k]]
def BsOk (bs : List BlockD) : Prop := (∀ b ∈ bs, b.rows.length ≤ 2 ∧ ∀ d ∈ b.rows, RowOk d) ∧ (∀ b ∈ bs, b.e.goals.length ≤ 4 ∧ ∀ g ∈ b.e.goals, 0 ≤ g ∧ g < (bs.length : Nat)) ∧ ∀ (i : Nat) (b : BlockD), bs[i]? = some b → b.num = i
theorem kset18 : True := by
  k_with_none
  k_with "M gen" => ((fail_if_success (goal_lacks Mine.GoalQ Mine.MidEnd Mine.MoreQ Mine.NewEnd Mine.TurnPostF PyProof.Rows.LCg.CompSrc PyProof.Rows.LCt.CompSrcT)); k_fold)
  k_with "M steps" => (repeat' (first | k_extra "M gen" | (k_unfold; (try dsimp only)) | (k_end; wrow_close) | walk1 | (dsimp only; walk1) | (leave1; walk_say "STEP leave1"; try dsimp only) | fail "no step"))
  k_with "M enterC" => ((refine' code_defC ?k1q17 ?k2q17 ?k3q17 ?k4q17 ?k5q17 ?kAq17 ?kFq17 ?kKq17 ?k6q17 ?k7q17 ?k8q17 ?k9q17 ?kBq17 ?kDq17 ?_ ?c2q17 ?c3q17 ?c4q17; (case kAq17 => exact rfl); (case kFq17 => exact rfl); (case kKq17 => assumption); (case k1q17 => k_asm); (case k2q17 => k_asm); (case k3q17 => k_asm); (case k4q17 => k_asm); (case k5q17 => k_asm); (case k6q17 => k_is); (case k7q17 => k_is); (case k8q17 => ktr_room); (case k9q17 => exact BindsTo.of_eq rfl); (case kBq17 => exact rfl); (case kDq17 => decide +kernel); (case c2q17 => exact rfl); (case c3q17 => exact rfl); (case c4q17 => exact rfl); k_whole; intro g'zq L'zq h'zq tk'zq cells'zq FG'zq F'zq N'zq Y'zq B'zq X'zq T'zq l1zq; k_cells Y'zq; (try simp only [List.cons_append, List.nil_append] at N'zq); (try dsimp only); (try k_fold)))
  k_with "M enter" => ((refine' code_def ?k1q18 ?k2q18 ?k3q18 ?k4q18 ?k5q18 ?kAq18 ?kFq18 ?kKq18 ?k6q18 ?k7q18 ?k8q18 ?k9q18 ?kBq18 ?_ ?c2q18 ?c3q18 ?c4q18 ?c5q18; (case kAq18 => exact rfl); (case kFq18 => exact rfl); (case kKq18 => first | exact rfl | assumption); (case k1q18 => k_asm); (case k2q18 => k_asm); (case k3q18 => k_asm); (case k4q18 => k_asm); (case k5q18 => k_asm); (case k6q18 => k_is); (case k7q18 => k_is); (case k8q18 => ktr_room); (case k9q18 => exact BindsTo.of_eq rfl); (case c5q18 => decide); (case kBq18 => exact locs rfl); (case c2q18 => exact rfl); (case c3q18 => exact rfl); (case c4q18 => exact rfl); k_whole; intro g'zq L'zq h'zq FG'zq F'zq N'zq B'zq X'zq T'zq; (try dsimp only); (try k_fold)))
  k_with "M mem" => (first | exact mem_hd | (with_reducible refine mem_tl ?_; k_extra "M mem") | with_reducible assumption | (with_reducible refine mem_apr ?_; k_extra "M mem") | (with_reducible refine mem_apl ?_; k_extra "M mem"))
  k_with "M ne" => ((refine neN ?_; (try dsimp only); first | exact Nat.ne_of_lt (by with_reducible assumption) | exact Nat.ne_of_gt (by with_reducible assumption) | with_reducible assumption | exact Ne.symm (by with_reducible assumption) | omega))
  k_with "M all" => (first | exact List.forall_mem_nil _ | with_reducible assumption | (with_reducible refine' List.forall_mem_cons.mpr ⟨?aq21, ?bq21⟩; (case aq21 => k_extra "M ne"); (case bq21 => k_extra "M all")) | (refine' allLt_ne ?dAq21; (case dAq21 => with_reducible assumption)) | (refine' off1_ne ?dAq21; (case dAq21 => with_reducible assumption)) | (refine' OwnOff.ne ?dAq21 ?dBq21; (case dAq21 => with_reducible assumption); (case dBq21 => k_memK)) | (refine' ne_app ?nAq21 ?nBq21; (case nAq21 => k_extra "M all"); (case nBq21 => k_extra "M all")) | (refine' dis_ne ?dAq21 ?dBq21; (case dAq21 => with_reducible assumption); (case dBq21 => k_extra "M mem")) | (refine' allLt_app ?dAq21; (case dAq21 => with_reducible assumption)) | (refine' allLt_apl ?dAq21; (case dAq21 => with_reducible assumption)) | (refine' allLt_ne_lt ?dAq21 ?dBq21; (case dAq21 => with_reducible assumption); (case dBq21 => with_reducible assumption)))
  k_with "newList" => ((k_here; k_dflt (refine' newList_K ?k1q22 ?k2q22 ?_; (case k1q22 => k_asm); (case k2q22 => k_asm); k_whole); intro l'zq h'zq F'zq N'zq l1zq; (try k_lt l1zq); (try k_sweep); k_extra "M split"))
  k_with "newTuple" => ((k_here; k_dflt (refine' kup_newTuple ?Fq23 ?Nq23 ?_ ?zq23; (case Fq23 => k_asm); (case Nq23 => k_asm); (case zq23 => kmk_size)); intro D'zq h'zq F'zq N'zq l1zq; (try k_lt l1zq); (try k_sweep); k_extra "M split"))
  k_with "call type:list" => ((k_here; (with_reducible show wpAny _ _ (call (Value.type _) [Value.ref _]) _ _ _); k_dflt (first | (refine' list_copyK ?k1q24 ?k2q24 ?k3q24 ?_ ?zq24; (case k1q24 => k_asm); (case k2q24 => k_asm); (case k3q24 => exact News.isList (by k_asm) (by k_extra "M mem")); (case zq24 => first | exact Nat.le_of_ble_eq_true rfl | (rw [List.size_toArray, sizeLine_eq]; omega) | exact kmk_sz (by with_reducible assumption) (by rw [sizeLine_eq]; omega)); k_whole) | (refine' list_copyKT ?k1q24 ?k2q24 ?k3q24 ?_ ?zq24; (case k1q24 => k_asm); (case k2q24 => k_asm); (case k3q24 => exact News.isTup (by k_asm) (by k_extra "M mem")); (case zq24 => exact Nat.le_of_ble_eq_true rfl); k_whole)); intro D'zq c'zq h'zq F'zq N'zq l1zq; (try k_lt l1zq); (try k_sweep); k_extra "M split"))
  k_with "M own" => (first | exact own_nil | (refine own_cons ?oAq25 ?oBq25; (case oAq25 => k_extra "M all"); (case oBq25 => k_extra "M own")))
  k_with "M dis" => (first | exact dis_nil | (refine dis_cons ?dAq26 ?dBq26; (case dAq26 => k_extra "M all"); (case dBq26 => k_extra "M dis")))
  k_with "M split" => (repeat ((with_reducible rename (_ ∧ _) => hc9zq); have hc9azq := hc9zq.1; have hc9bzq := hc9zq.2; clear hc9zq))
  k_with "M eq" => (first | exact eqs0 | exact eqs1 | exact eqs2 | exact eqs3 | exact eqs4 | exact eqs5 | exact eqs6 | exact eqs7 | exact eqs8 | exact eqs9 | exact eqs10 | exact eqs11 | exact eqs12 | exact eqs13 | exact eqs14 | exact eqs15 | exact eqs16)
  k_with "M tails" => ((intro pzq hpzq; (try dsimp only [List.cons_append, List.nil_append] at hpzq ⊢); repeat (first | with_reducible exact hpzq | with_reducible exact mem_apl hpzq | with_reducible refine List.mem_cons_of_mem _ ?_ | with_reducible refine mem_apr ?_)))
  k_with "M at" => (first | exact mem_hd | (refine mem_tl ?_; k_extra "M at"))
  k_with "M same" => ((intro zzq hzzq; (try dsimp only); (repeat (refine Eq.trans (same_if rfl hzzq) ?_)); first | exact same_frm hzzq | rfl))
  k_with "M clear" => (((repeat ((with_reducible rename (@LT.lt Nat _ _ _) => zzzq); clear zzzq)); (repeat ((with_reducible rename (AllLt _ _) => zzzq); clear zzzq))))
  k_with "M use" => (((case c1 => k_asm); (case c2 => k_asm); (case c3 => k_asm); (case c4 => k_asm); (case c5 => k_asm); (case c6 => first | exact rfl | assumption); (case c7 => ktr_room); (case c8 => ktr_units); k_whole))
  k_with "call builtin:list.append" => ((k_here; k_dflt (refine' append_any ?k1q34 ?k2q34 ?k3q34 ?k4q34 ?_; (case k1q34 => k_asm); (case k2q34 => k_asm); (case k3q34 => k_upd); (case k4q34 => with_reducible assumption)); intro h'zq F'zq N'zq))
  k_with "call builtin:len" => ((k_here; (with_reducible show wpAny _ _ (call (Value.builtin "len") [Value.ref _]) _ _ _); k_dflt (refine' kun_lenL ?k1q35 ?k2q35 ?k3q35 ?_; (case k1q35 => exact News.isList (by k_asm) (by k_extra "M mem")); (case k2q35 => with_reducible assumption); (case k3q35 => omega); k_whole)))
  k_with "binaryOp Add ref ref" => ((k_here; (with_reducible show wpAny _ _ (binaryOp _ (Value.ref _) (Value.ref _)) _ _ _); k_dflt (refine' kmk_add_ints ?Fq36 ?Nq36 ?aq36 ?bq36 ?iq36 ?jq36 ?_ ?zq36; (case Fq36 => k_asm); (case Nq36 => k_asm); (case aq36 => exact News.isList (by k_asm) (by k_extra "M mem")); (case bq36 => exact News.isList (by k_asm) (by k_extra "M mem")); (case iq36 => with_reducible assumption); (case jq36 => exact .cons _ _ .nil); (case zq36 => rw [sizeLine_eq, List.length_singleton]; omega)); intro D'zq ws'zq h'zq F'zq N'zq l1zq hI'zq; (try k_lt l1zq); (try k_sweep); k_extra "M split"))
  trivial
theorem blocksFrom_at : ∀ (es : List End) (k i : Nat) (b : BlockD), (blocksFrom k es)[i]? = some b → ∃ e, es[i]? = some e ∧ b = blockAt (k + i) e
  | [], k, i, b, h => by simp [blocksFrom] at h
  | e :: r, k, 0, b, h => by
    have : blockAt k e = b := by simpa [blocksFrom] using h
    exact ⟨e, rfl, this.symm⟩
  | e :: r, k, i + 1, b, h => by
    obtain ⟨e', h1, h2⟩ := blocksFrom_at r (k + 1) i b (by simpa [blocksFrom] using h)
    exact ⟨e', by simpa using h1, by rw [h2, show k + 1 + i = k + (i + 1) by omega]⟩
theorem bsOk_from {es : List End} {many : Int} (hm : many = ((es.length : Nat) : Int)) (he : ∀ e ∈ es, EndOk many e) : BsOk (blocksFrom 0 es) := by
  refine ⟨fun b hb => ?_, fun b hb => ?_, fun i b hb => ?_⟩
  · obtain ⟨i, hi⟩ := List.getElem?_of_mem hb
    obtain ⟨e, h1, rfl⟩ := blocksFrom_at es 0 i b hi
    refine ⟨?_, fun d hd => ?_⟩
    · show ((List.range ((0 + i) % 3)).map (rowAt (0 + i))).length ≤ 2
      rw [List.length_map, List.length_range]
      omega
    · obtain ⟨t, _, rfl⟩ := List.mem_map.mp hd
      exact ⟨rfl, rfl, _, rfl⟩
  · obtain ⟨i, hi⟩ := List.getElem?_of_mem hb
    obtain ⟨e, h1, rfl⟩ := blocksFrom_at es 0 i b hi
    obtain ⟨q1, q2, _⟩ := he e (List.mem_of_getElem? h1)
    refine ⟨q2, fun g hg => ?_⟩
    rw [blocksFrom_length, ← hm]
    exact q1 g hg
  · obtain ⟨e, h1, rfl⟩ := blocksFrom_at es 0 i b hb
    show (((0 + i : Nat)) : Int) = i
    rw [Nat.zero_add]
theorem led_goals (n : Int) (e : End) : (e.led n).goals = e.goals.map (newGoal n) := by
  cases e with
  | jump g => rfl
  | branch v g0 g1 => rfl
  | table v low gs g => show gs.map (newGoal n) ++ [newGoal n g] = (gs ++ [g]).map (newGoal n); rw [List.map_append]; rfl
  | give v => rfl
theorem led_low (n : Int) (e : End) : (e.led n).low = e.low := by cases e <;> rfl
theorem wayRow_led (n : Int) (b : BlockD) (k : Int) : wayRow { num := k, rows := b.rows, e := b.e.led n } = wayRow b := by
  unfold wayRow
  rw [led_op, led_args, led_low, led_goals, List.length_map]
/-- where a block stands behind part_entry -/
def moved (n : Nat) (k : Nat) : Nat := if k = 0 then n else k
theorem part_at {b0 : BlockD} {br : List BlockD} {n : Int} {k : Nat} {b : BlockD} (hn : n = (((b0 :: br).length : Nat) : Int)) (hb : (b0 :: br)[k]? = some b) : ∃ b', (partedBy n b0 br)[moved (b0 :: br).length k]? = some b' ∧ b'.rows = b.rows ∧ b'.e = b.e.led n := by
  unfold partedBy
  cases k with
  | zero =>
    have e : b0 = b := by simpa using hb
    subst e
    refine ⟨ledB n (lastB n b0), ?_, rfl, rfl⟩
    show (firstB n b0 :: (br ++ [lastB n b0]).map (ledB n))[(b0 :: br).length]? = _
    rw [List.length_cons, List.getElem?_cons_succ, List.map_append, List.getElem?_append_right (by rw [List.length_map]; omega), List.length_map, Nat.sub_self]
    rfl
  | succ k =>
    have hb : br[k]? = some b := by simpa using hb
    have hk := (List.getElem?_eq_some_iff.mp hb).1
    refine ⟨ledB n b, ?_, rfl, rfl⟩
    show (firstB n b0 :: (br ++ [lastB n b0]).map (ledB n))[k + 1]? = _
    rw [List.getElem?_cons_succ, List.map_append, List.getElem?_append_left (by rw [List.length_map]; exact hk), List.getElem?_map, hb]
    rfl
theorem way_parted {b0 : BlockD} {br : List BlockD} {n : Int} (hn : n = (((b0 :: br).length : Nat) : Int)) (hg : ∀ b ∈ b0 :: br, ∀ g ∈ b.e.goals, 0 ≤ g ∧ g < ((b0 :: br).length : Nat)) : ∀ (cs : List Int) (k : Nat), k < (b0 :: br).length → wayFrom (partedBy n b0 br) (moved (b0 :: br).length k) cs = wayFrom (b0 :: br) k cs
  | [], _, _ => rfl
  | c :: cs, k, hk => by
    obtain ⟨b, hb⟩ : ∃ b, (b0 :: br)[k]? = some b := ⟨_, List.getElem?_eq_getElem hk⟩
    obtain ⟨b', hb', hr, he⟩ := part_at hn hb
    have hrow : wayRow b' = wayRow b := by
      have := wayRow_led n b b'.num
      rw [← hr, ← he] at this
      exact this
    have hgoals : b'.e.goals = b.e.goals.map (newGoal n) := by rw [he, led_goals]
    by_cases hne : b.e.goals = []
    · rw [way_end hb hne, way_end hb' (by rw [hgoals, hne]; rfl), hrow]
    · rw [way_step hb hne, way_step hb' (by rw [hgoals]; intro h; exact hne (List.map_eq_nil_iff.mp h)), hrow]
      congr 1
      rw [hgoals, List.length_map]
      obtain ⟨y1, y2, y3⟩ := mod_in (c := c) (gs := b.e.goals) rfl hne
      have hlt : (Int.fmod c ((b.e.goals.length : Nat) : Int)).toNat < b.e.goals.length := by omega
      have eg : (b.e.goals.map (newGoal n)).getD (Int.fmod c ((b.e.goals.length : Nat) : Int)).toNat 0 = newGoal n (b.e.goals.getD (Int.fmod c ((b.e.goals.length : Nat) : Int)).toNat 0) := by
        rw [List.getD_eq_getElem?_getD, List.getD_eq_getElem?_getD, List.getElem?_map, List.getElem?_eq_getElem hlt]; rfl
      rw [eg]
      have hgm := hg b (List.mem_of_getElem? hb) _ (getD_mem hlt)
      generalize b.e.goals.getD (Int.fmod c ((b.e.goals.length : Nat) : Int)).toNat 0 = g at hgm
      have em : (newGoal n g).toNat = moved (b0 :: br).length g.toNat := by
        unfold newGoal moved
        by_cases h0 : g = 0
        · rw [if_pos h0, h0, hn]; rfl
        · rw [if_neg h0, if_neg (by omega)]
      rw [em]
      exact way_parted hn hg cs g.toNat (by omega)
theorem way_tail {b0 : BlockD} {br : List BlockD} {n : Int} (hn : n = (((b0 :: br).length : Nat) : Int)) (hg : ∀ b ∈ b0 :: br, ∀ g ∈ b.e.goals, 0 ≤ g ∧ g < ((b0 :: br).length : Nat)) (cs : List Int) : ∃ r, wayFrom (partedBy n b0 br) 0 (0 :: cs) = r :: wayFrom (b0 :: br) 0 cs := by
  have hb : (partedBy n b0 br)[0]? = some (firstB n b0) := rfl
  refine ⟨wayRow (firstB n b0), ?_⟩
  rw [way_step hb (by show ([n] : List Int) ≠ []; exact List.cons_ne_nil _ _)]
  congr 1
  have e : ((firstB n b0).e.goals.getD (Int.fmod 0 (((firstB n b0).e.goals.length : Nat) : Int)).toNat 0).toNat = moved (b0 :: br).length 0 := by
    show n.toNat = _
    rw [hn]; rfl
  rw [e]
  exact way_parted hn hg cs 0 (by rw [List.length_cons]; omega)
theorem parted_len {b0 : BlockD} {br : List BlockD} {n : Int} : (partedBy n b0 br).length = (b0 :: br).length + 1 := by
  unfold partedBy
  rw [List.length_cons, List.length_map, List.length_append, List.length_singleton, List.length_cons]
theorem parted_mem {b0 : BlockD} {br : List BlockD} {n : Int} {b : BlockD} (h : b ∈ partedBy n b0 br) : b = firstB n b0 ∨ ∃ a ∈ br ++ [lastB n b0], b = ledB n a := by
  unfold partedBy at h
  rcases List.mem_cons.mp h with e | h
  · exact .inl e
  · obtain ⟨a, ha, e⟩ := List.mem_map.mp h
    exact .inr ⟨a, ha, e.symm⟩
theorem tlb_from {b0 a : BlockD} {br : List BlockD} {n : Int} (h : a ∈ br ++ [lastB n b0]) : ∃ b ∈ b0 :: br, a.rows = b.rows ∧ a.e = b.e := by
  rcases List.mem_append.mp h with h | h
  · exact ⟨a, .tail _ h, rfl, rfl⟩
  · rw [List.mem_singleton.mp h]; exact ⟨b0, .head _, rfl, rfl⟩
theorem newGoal_ok {n g : Int} {m : Nat} (hn : n = ((m : Nat) : Int)) (hm : 0 < m) (h : 0 ≤ g ∧ g < (m : Nat)) : 0 < newGoal n g ∧ newGoal n g < ((m + 1 : Nat) : Int) := by
  unfold newGoal
  by_cases h0 : g = 0
  · rw [if_pos h0]; omega
  · rw [if_neg h0]; omega
theorem bsOk_parted {b0 : BlockD} {br : List BlockD} {n : Int} (hn : n = (((b0 :: br).length : Nat) : Int)) (h : BsOk (b0 :: br)) : BsOk (partedBy n b0 br) := by
  obtain ⟨h1, h2, h3⟩ := h
  refine ⟨fun b hb => ?_, fun b hb => ?_, fun i b hb => ?_⟩
  · rcases parted_mem hb with rfl | ⟨a, ha, rfl⟩
    · exact ⟨Nat.zero_le _, fun _ h => nomatch h⟩
    · obtain ⟨c, hc, e1, e2⟩ := tlb_from ha
      show a.rows.length ≤ 2 ∧ ∀ d ∈ a.rows, RowOk d
      rw [e1]; exact h1 c hc
  · rw [parted_len]
    rcases parted_mem hb with rfl | ⟨a, ha, rfl⟩
    · refine ⟨(by decide : 1 ≤ 4), fun g hg => ?_⟩
      rw [List.mem_singleton.mp hg]
      omega
    · obtain ⟨c, hc, e1, e2⟩ := tlb_from ha
      have eg : (ledB n a).e.goals = c.e.goals.map (newGoal n) := by show (a.e.led n).goals = _; rw [led_goals, e2]
      rw [eg, List.length_map]
      refine ⟨(h2 c hc).1, fun g hg => ?_⟩
      obtain ⟨g', hg', rfl⟩ := List.mem_map.mp hg
      have q := newGoal_ok hn (by rw [List.length_cons]; omega) ((h2 c hc).2 g' hg')
      exact ⟨Int.le_of_lt q.1, q.2⟩
  · unfold partedBy at hb
    cases i with
    | zero =>
      have e : firstB n b0 = b := by simpa using hb
      rw [← e]
      exact h3 0 b0 rfl
    | succ i =>
      rw [List.getElem?_cons_succ, List.getElem?_map] at hb
      obtain ⟨a, ha, rfl⟩ := Option.map_eq_some_iff.mp hb
      show a.num = _
      by_cases hi : i < br.length
      · rw [List.getElem?_append_left hi] at ha
        exact h3 (i + 1) a (by rw [List.getElem?_cons_succ]; exact ha)
      · rw [List.getElem?_append_right (by omega)] at ha
        have hl := (List.getElem?_eq_some_iff.mp ha).1
        rw [List.length_singleton] at hl
        have ei : i = br.length := by omega
        subst ei
        rw [Nat.sub_self] at ha
        have e : lastB n b0 = a := by simpa using ha
        rw [← e]
        show n = _
        rw [hn, List.length_cons]
theorem noZero_parted {b0 : BlockD} {br : List BlockD} {n : Int} (hn : n = (((b0 :: br).length : Nat) : Int)) (h : BsOk (b0 :: br)) : ∀ b ∈ partedBy n b0 br, hasZero b.e = false := by
  intro b hb
  unfold hasZero
  rw [List.any_eq_false]
  intro g hg
  rcases parted_mem hb with rfl | ⟨a, ha, rfl⟩
  · rw [List.mem_singleton.mp hg, hn, List.length_cons]
    simp; omega
  · obtain ⟨c, hc, e1, e2⟩ := tlb_from ha
    have eg : (ledB n a).e.goals = c.e.goals.map (newGoal n) := by show (a.e.led n).goals = _; rw [led_goals, e2]
    rw [eg] at hg
    obtain ⟨g', hg', rfl⟩ := List.mem_map.mp hg
    have q := newGoal_ok hn (by rw [List.length_cons]; omega) ((h.2.1 c hc).2 g' hg')
    simp; omega
theorem rowDat_ok {d : StepD} (h : RowOk d) (n : Nat) : kqdOk (n + 3) (rowDat d) = true := by
  obtain ⟨h1, h2, k, h3⟩ := h
  unfold rowDat
  rw [h1, h2, h3]
  have e : PyData.strOk (Str.ofString "const") = true := by decide +kernel
  have e2 : PyData.strOk (Str.ofString "k") = true := by decide +kernel
  simp [kqdOk, e, e2]
theorem end_ok (e : End) : PyData.strOk e.op = true ∧ ∀ n, e.args.all (kqdOk (n + 1)) = true := by
  have e2 : PyData.strOk (Str.ofString "r") = true := by decide +kernel
  have o1 : PyData.strOk (Str.ofString "jump") = true := by decide +kernel
  have o2 : PyData.strOk (Str.ofString "branch") = true := by decide +kernel
  have o3 : PyData.strOk (Str.ofString "table") = true := by decide +kernel
  have o4 : PyData.strOk (Str.ofString "give") = true := by decide +kernel
  cases e with
  | jump g => exact ⟨o1, fun n => rfl⟩
  | branch v g0 g1 => exact ⟨o2, fun n => by simp [End.args, rDat, kqdOk, e2]⟩
  | table v low gs g => exact ⟨o3, fun n => by simp [End.args, rDat, kqdOk, e2]⟩
  | give v => exact ⟨o4, fun n => by simp [End.args, rDat, kqdOk, e2]⟩
theorem ints_ok (ns : List Int) (n : Nat) : (intDats ns).all (kqdOk n) = true := by
  rw [List.all_eq_true]
  intro d hd
  obtain ⟨k, _, rfl⟩ := List.mem_map.mp hd
  cases n <;> rfl
theorem endDat_ok (e : End) (n : Nat) : kqdOk (n + 3) (endDat e) = true := by
  obtain ⟨h1, h2⟩ := end_ok e
  unfold endDat
  have h3 := h2 n
  have h4 := ints_ok e.goals (n + 1)
  simp only [kqdOk, List.all_cons, List.all_nil, Bool.and_true, h1, h3, h4, Bool.true_and]
theorem rows_ok {rows : List StepD} (h : ∀ d ∈ rows, RowOk d) (n : Nat) : (rows.map rowDat).all (kqdOk (n + 3)) = true := by
  rw [List.all_eq_true]
  intro d hd
  obtain ⟨r, hr, rfl⟩ := List.mem_map.mp hd
  exact rowDat_ok (h r hr) n
theorem toldDat_ok {b : BlockD} (h : ∀ d ∈ b.rows, RowOk d) : kqdOk 8 (toldDat b) = true := by
  have h1 := rows_ok h 3
  have h2 := endDat_ok b.e 4
  unfold toldDat
  simp only [kqdOk, List.all_cons, List.all_nil, Bool.and_true, Bool.true_and, h1, h2]
theorem wayRow_ok {b : BlockD} (h : ∀ d ∈ b.rows, RowOk d) : kqdOk 8 (wayRow b) = true := by
  have h1 := rows_ok h 3
  obtain ⟨h2, h3⟩ := end_ok b.e
  have h4 := h3 5
  unfold wayRow
  simp only [kqdOk, List.all_cons, List.all_nil, Bool.and_true, Bool.true_and, h1, h2, h4]
theorem way_ok {bs : List BlockD} (h : BsOk bs) : ∀ (cs : List Int) (k : Nat), ∀ d ∈ wayFrom bs k cs, kqdOk 8 d = true
  | [], _, _, hd => nomatch hd
  | c :: cs, k, d, hd => by
    cases hb : bs[k]? with
    | none =>
      have e : wayFrom bs k (c :: cs) = [] := by
        show (match bs[k]? with
          | none => []
          | some b => wayRow b :: (if b.e.goals = [] then [] else wayFrom bs (b.e.goals.getD (Int.fmod c (b.e.goals.length : Nat)).toNat 0).toNat cs)) = []
        rw [hb]
      rw [e] at hd; cases hd
    | some b =>
      have hr := (h.1 b (List.mem_of_getElem? hb)).2
      by_cases hne : b.e.goals = []
      · rw [way_end hb hne, List.mem_singleton] at hd
        rw [hd]; exact wayRow_ok hr
      · rw [way_step hb hne] at hd
        rcases List.mem_cons.mp hd with rfl | hd
        · exact wayRow_ok hr
        · exact way_ok h cs _ d hd
end Mine
namespace Mine
section
variable {prog : Program} {w : World} {A : Around} {E : Value → Shared → Prop} {s : Shared} {h₀ : Heap} {L c1 c2 : Addr} {m : Str → Option Value} {env : Env} {stmt : Stmt} {rest : List Stmt} {Q : Flow → Shared → Prop} {o1 o2 : Obj}
/-- the law's first statement: the well is made -/
def StartQ (h₀ : Heap) (L : Addr) (m : Str → Option Value) (c1 c2 : Addr) (o2 : Obj) (s : Shared) (f : Flow) (s' : Shared) : Prop :=
  f = .next ∧ ∃ h' tk' o1' wl nl W, s' = { s with heap := h', toks := tk' } ∧ Fr h₀ L h' m ∧ News h₀ L h' ((c2, o2) :: (c1, o1') :: W) ∧ o1'.data = .cell (some (.ref wl)) ∧ Well 60 wl nl W ∧ OwnOff W [c1, c2]
theorem cut_start {o1 : Obj} (F0 : Fr h₀ L s.heap m) (N0 : News h₀ L s.heap [(c2, o2), (c1, o1)]) (h1 : wpAny (model prog w) A (exec stmt env) (StartQ h₀ L m c1 c2 o2 s) E s)
    (h2 : ∀ h' tk' o1' wl nl W, Fr h₀ L h' m → News h₀ L h' ((c2, o2) :: (c1, o1') :: (W ++ [])) → o1'.data = .cell (some (.ref wl)) → Well 60 wl nl W → (∀ a b : Obj, OwnOff [(c2, a), (c1, b)] [wl, nl]) → wpAny (model prog w) A (execs rest env) Q E { s with heap := h', toks := tk' }) :
    wpAny (model prog w) A (execs (stmt :: rest) env) Q E s := by
  refine wpAny_execs_cons (wpAny_mono h1 (fun f s' h => ?_) fun _ _ e => e)
  obtain ⟨rfl, h', tk', o1', wl, nl, W, rfl, F, N, d, hW, ho⟩ := h
  refine h2 h' tk' o1' wl nl W F (by rw [List.append_nil]; exact N) d hW fun a b p hp c hc => ?_
  obtain ⟨vs, ns, pl, tp, e1, e2, rfl, _⟩ := hW
  have q1 := ho _ (.head _)
  have q2 := ho _ (.tail _ (.head _))
  rcases List.mem_cons.mp hp with rfl | hp
  · rcases List.mem_cons.mp hc with rfl | hc
    · exact Ne.symm (q1 _ (.tail _ (.head _)))
    · rw [List.mem_singleton.mp hc]; exact Ne.symm (q2 _ (.tail _ (.head _)))
  · rw [List.mem_singleton.mp hp]
    rcases List.mem_cons.mp hc with rfl | hc
    · exact Ne.symm (q1 _ (.head _))
    · rw [List.mem_singleton.mp hc]; exact Ne.symm (q2 _ (.head _))
theorem start_end {h' : Heap} {tk' : Nat} {all : Led} {wl nl : Addr} {ys : List Value} {ns : List Int} {t : Tok} {e1 e2 : Nat} (F : Fr h₀ L h' m) (N : News h₀ L h' all) (hw : (wl, listOf (List.toArray [.ref nl, .int 0 t]) e1) ∈ all) (hn : (nl, listOf (List.toArray ys) e2) ∈ all)
    (hc1 : (c1, o1) ∈ all) (hc2 : (c2, o2) ∈ all) (hd : o1.data = .cell (some (.ref wl))) (hi : IntsAre ys ns) (hb : ∀ n ∈ ns, 0 ≤ n ∧ n < 2147483648) (h0 : 0 < ns.length) (h60 : ns.length ≤ 60) (hne : @Ne Nat wl nl) (own : ∀ a b : Obj, OwnOff [(wl, a), (nl, b)] [c1, c2]) :
    StartQ h₀ L m c1 c2 o2 s .next { s with heap := h', toks := tk' } := by
  refine ⟨rfl, h', tk', o1, wl, nl, _, rfl, F, news_sub N fun p hp => ?_, hd, ⟨ys, ns, 0, t, e1, e2, rfl, hi, hb, h0, h60, Int.le_refl _, by omega, hne⟩, own _ _⟩
  rcases List.mem_cons.mp hp with rfl | hp
  · exact hc2
  · rcases List.mem_cons.mp hp with rfl | hp
    · exact hc1
    · rcases List.mem_cons.mp hp with rfl | hp
      · exact hw
      · rw [List.mem_singleton.mp hp]; exact hn
theorem mod_all {ns : List Int} : ∀ n ∈ (ns.take 60).map (fun k => Int.fmod k 2147483647), 0 ≤ n ∧ n < 2147483648 := by
  intro n hn
  obtain ⟨k, _, rfl⟩ := List.mem_map.mp hn
  have h1 := fmod_lo k (show (0 : Int) < 2147483647 by decide)
  have h2 := fmod_hi k (show (0 : Int) < 2147483647 by decide)
  omega
theorem take60 {ns : List Int} {f : Int → Int} : ((ns.take 60).map f).length ≤ 60 := by
  rw [List.length_map, List.length_take]; omega
end
end Mine
namespace Mine
def LawMark : Prop := True
theorem well_own {B : Nat} {wl nl c1 c2 : Addr} {W : Led} (hW : Well B wl nl W) (h : ∀ a b : Obj, OwnOff [(c2, a), (c1, b)] [wl, nl]) : OwnOff W [c2, c1] := by
  obtain ⟨vs, ns, pl, tp, e1, e2, rfl, _⟩ := hW
  have q := h (listOf #[] 0) (listOf #[] 0)
  intro p hp c hc
  rcases List.mem_cons.mp hc with rfl | hc
  · rcases List.mem_cons.mp hp with rfl | hp
    · exact Ne.symm (q _ (.head _) _ (.head _))
    · rw [List.mem_singleton.mp hp]; exact Ne.symm (q _ (.head _) _ (.tail _ (.head _)))
  · rw [List.mem_singleton.mp hc]
    rcases List.mem_cons.mp hp with rfl | hp
    · exact Ne.symm (q _ (.tail _ (.head _)) _ (.head _))
    · rw [List.mem_singleton.mp hp]; exact Ne.symm (q _ (.tail _ (.head _)) _ (.tail _ (.head _)))
end Mine
namespace Mine
/-- between the turns of the law's comprehension of ends -/
def EndsInv (many : Int) (wl nl : Addr) (i : Nat) (ys : List Value) (M : Led) : Prop :=
  ∃ (W acc : Led) (es : List End), M = W ++ acc ∧ Well (61 + 12 * i) wl nl W ∧ DatAll acc ys (es.map endDat) ∧ es.length = i ∧ (∀ e ∈ es, EndOk many e) ∧ OwnOff acc [wl, nl]
theorem ends_turn {h₀ h' : Heap} {L : Addr} {m : Str → Option Value} {s₁ : Shared} {tk' : Nat} {I C D c1 c2 wl nl : Addr} {oI oC oD o1 o2 : Obj} {W W' acc tl : Led} {B i : Nat} {many : Int} {es : List End} {e : End} {ys : List Value} {r : Value} (F : Fr h₀ L h' m)
    (N : News h₀ L h' (tl ++ (W' ++ ((I, oI) :: (C, oC) :: (D, oD) :: (c2, o2) :: (c1, o1) :: acc)))) (hW : Well B wl nl W) (hW' : Well (61 + 12 * i + 12) wl nl W') (heo : EndOk many e) (hd : DatIn tl r (endDat e)) (hs : Seps wl nl ((I, oI) :: (C, oC) :: (D, oD) :: (c2, o2) :: (c1, o1) :: acc) tl)
    (hdy : DatAll acc ys (es.map endDat)) (hel : es.length = i) (hes : ∀ e ∈ es, EndOk many e) (ho : OwnOff acc [wl, nl]) :
    MidEnd h₀ L m [(c2, o2), (c1, o1)] (W ++ acc) [] s₁ I oI C oC D oD (fun y M' => EndsInv many wl nl (i + 1) (ys ++ [y]) M') r { s₁ with heap := h', toks := tk' } := by
  refine ⟨h', tk', W' ++ (tl ++ acc), rfl, F, news_sub N fun p hp => ?_, fun p hp => ?_, W', tl ++ acc, es ++ [e], rfl, hW'.mono (by omega), ?_, by rw [List.length_append, hel]; rfl, fun x hx => ?_, fun p hp c hc => ?_⟩
  · have hp : p ∈ (I, oI) :: (C, oC) :: (D, oD) :: (c2, o2) :: (c1, o1) :: ((W' ++ (tl ++ acc)) ++ []) := hp
    rw [List.append_nil] at hp
    have up : ∀ p ∈ (I, oI) :: (C, oC) :: (D, oD) :: (c2, o2) :: (c1, o1) :: acc, p ∈ tl ++ (W' ++ ((I, oI) :: (C, oC) :: (D, oD) :: (c2, o2) :: (c1, o1) :: acc)) := fun p hp => mem_apr (mem_apr hp)
    rcases List.mem_cons.mp hp with rfl | hp
    · exact up _ (.head _)
    · rcases List.mem_cons.mp hp with rfl | hp
      · exact up _ (.tail _ (.head _))
      · rcases List.mem_cons.mp hp with rfl | hp
        · exact up _ (.tail _ (.tail _ (.head _)))
        · rcases List.mem_cons.mp hp with rfl | hp
          · exact up _ (.tail _ (.tail _ (.tail _ (.head _))))
          · rcases List.mem_cons.mp hp with rfl | hp
            · exact up _ (.tail _ (.tail _ (.tail _ (.tail _ (.head _)))))
            · rcases List.mem_append.mp hp with hp | hp
              · exact mem_apr (mem_apl hp)
              · rcases List.mem_append.mp hp with hp | hp
                · exact mem_apl hp
                · exact up _ (.tail _ (.tail _ (.tail _ (.tail _ (.tail _ hp)))))
  · rcases List.mem_append.mp hp with hp | hp
    · obtain ⟨q, hq, e⟩ := hW.same hW' p hp
      exact .inl ⟨q, List.mem_append.mpr (.inl hq), e⟩
    · rcases List.mem_append.mp hp with hp | hp
      · obtain ⟨_, _, z⟩ := hs p hp
        exact .inr ⟨z _ (.head _), z _ (.tail _ (.head _)), z _ (.tail _ (.tail _ (.head _)))⟩
      · exact .inl ⟨p, List.mem_append.mpr (.inr hp), rfl⟩
  · rw [List.map_append]
    exact datAll_app (hdy.mono fun p hp => mem_apr hp) (.cons (hd.mono fun p hp => mem_apl hp) .nil)
  · rcases List.mem_append.mp hx with hx | hx
    · exact hes x hx
    · rw [List.mem_singleton.mp hx]; exact heo
  · rcases List.mem_append.mp hp with hp | hp
    · obtain ⟨z1, z2, _⟩ := hs p hp
      rcases List.mem_cons.mp hc with rfl | hc
      · exact z1
      · rw [List.mem_singleton.mp hc]; exact z2
    · exact ho p hp c hc
theorem ends_rest {c1 c2 wl nl I C D : Addr} {o1 o2 oI oC oD : Obj} {acc : Led} (hI : @Ne Nat I wl ∧ @Ne Nat I nl) (hC : @Ne Nat C wl ∧ @Ne Nat C nl) (hD : @Ne Nat D wl ∧ @Ne Nat D nl) (hc : ∀ a b : Obj, OwnOff [(c2, a), (c1, b)] [wl, nl]) (ho : OwnOff acc [wl, nl]) :
    OwnOff ((I, oI) :: (C, oC) :: (D, oD) :: (c2, o2) :: (c1, o1) :: acc) [wl, nl] := by
  refine off2_cons hI.1 hI.2 (off2_cons hC.1 hC.2 (off2_cons hD.1 hD.2 fun p hp c hc' => ?_))
  rcases List.mem_cons.mp hp with rfl | hp
  · exact hc _ o1 _ (.head _) c hc'
  · rcases List.mem_cons.mp hp with rfl | hp
    · exact hc o2 _ _ (.tail _ (.head _)) c hc'
    · exact ho p hp c hc'
end Mine
namespace Mine
theorem many_pack {G : Prop} {h₀ h : Heap} {L c2 : Addr} {o : Obj} {v : Value} {R : Led} (N : News h₀ L h ((c2, o) :: R)) (d : o.data = .cell (some v)) (k : ∀ om : Obj, News h₀ L h ((c2, om) :: R) → om.data = .cell (some v) → G) : G := k o N d
end Mine
namespace Mine
theorem all_pack {G : Prop} {h₀ h : Heap} {L : Addr} {l : Led} (N : News h₀ L h l) (k : ∀ all, all = l → News h₀ L h all → G) : G := k l rfl N
theorem func_more {w : World} {fr : FuncR} {recs : List BlockR} {n : Nat} {X Y tl : Led} {bs : List BlockD} (h : FuncAt w fr recs X Y bs) (hd : Dis tl (funcLed w fr recs n Y)) : FuncAt w fr recs X (tl ++ Y) bs := by
  obtain ⟨h1, h2, h3, h4, h5⟩ := h
  refine ⟨h1, h2, h3, fun p hp q hq => ?_, fun p hp c hc => ?_⟩
  · rcases List.mem_append.mp hq with hq | hq
    · exact Ne.symm (hd q hq p (.tail _ (List.mem_append.mpr (.inl hp))))
    · exact h4 p hp q hq
  · rcases List.mem_append.mp hp with hp | hp
    · exact h5 p (List.mem_append.mpr (.inl hp)) c hc
    · rcases List.mem_append.mp hp with hp | hp
      · rw [List.mem_singleton.mp hc]; exact hd p hp _ (.head _)
      · exact h5 p (List.mem_append.mpr (.inr hp)) c hc
theorem func_sub {w : World} {fr : FuncR} {recs : List BlockR} {n : Nat} {Y tl : Led} : ∀ q ∈ funcLed w fr recs n (tl ++ Y), q ∈ tl ++ funcLed w fr recs n Y := by
  intro q hq
  rcases List.mem_cons.mp hq with rfl | hq
  · exact mem_apr (.head _)
  · rcases List.mem_append.mp hq with hq | hq
    · exact mem_apr (.tail _ (mem_apl hq))
    · rcases List.mem_append.mp hq with hq | hq
      · exact mem_apl hq
      · exact mem_apr (.tail _ (mem_apr hq))
theorem bs_told {bs : List BlockD} (h : BsOk bs) : (∀ b ∈ bs, b.e.goals.length ≤ 4) ∧ ∀ b ∈ bs, b.rows.length ≤ 100 ∧ ∀ d ∈ b.rows, d.args.length ≤ 100 := by
  refine ⟨fun b hb => (h.2.1 b hb).1, fun b hb => ⟨Nat.le_trans (h.1 b hb).1 (by decide), fun d hd => ?_⟩⟩
  obtain ⟨_, _, k, e⟩ := (h.1 b hb).2 d hd
  rw [e]; exact (by decide : 1 ≤ 100)
theorem blocks_cons {es : List End} (h : 0 < es.length) : ∃ b0 br, blocksFrom 0 es = b0 :: br := by
  cases es with
  | nil => cases h
  | cons e r => exact ⟨_, _, rfl⟩
theorem bsOk_any {b0 : BlockD} {br : List BlockD} (h : BsOk (b0 :: br)) : BsOk (parted (b0 :: br)) := by
  cases hz : (b0 :: br).any fun b => hasZero b.e with
  | true =>
    rw [parted_yes (lz := [true]) (by rw [hz]; rfl) rfl rfl]
    exact bsOk_parted rfl h
  | false =>
    rw [parted_no (lz := [false]) (by rw [hz]; rfl) rfl]
    exact h
theorem noZero_any {b0 : BlockD} {br : List BlockD} (h : BsOk (b0 :: br)) : ∀ b ∈ parted (b0 :: br), hasZero b.e = false := by
  cases hz : (b0 :: br).any fun b => hasZero b.e with
  | true =>
    rw [parted_yes (lz := [true]) (by rw [hz]; rfl) rfl rfl]
    exact noZero_parted rfl h
  | false =>
    rw [parted_no (lz := [false]) (by rw [hz]; rfl) rfl]
    intro b hb
    have := List.any_eq_false.mp hz b hb
    simpa using this
theorem parted_small {b0 : BlockD} {br : List BlockD} (h : (b0 :: br).length ≤ 5) : (parted (b0 :: br)).length ≤ 6 := by
  cases hz : (b0 :: br).any fun b => hasZero b.e with
  | true =>
    rw [parted_yes (lz := [true]) (by rw [hz]; rfl) rfl rfl, parted_len]
    omega
  | false =>
    rw [parted_no (lz := [false]) (by rw [hz]; rfl) rfl]
    omega
end Mine
namespace Mine
theorem well_in {B : Nat} {wl nl : Addr} {W : Led} (h : Well B wl nl W) : (∃ o, (wl, o) ∈ W) ∧ ∃ o, (nl, o) ∈ W := by
  obtain ⟨vs, ns, pl, tp, e1, e2, rfl, _⟩ := h
  exact ⟨⟨_, .head _⟩, ⟨_, .tail _ (.head _)⟩⟩
theorem dis_own {B : Nat} {wl nl : Addr} {W a b : Led} (h : Well B wl nl W) (hs : ∀ p ∈ W, p ∈ b) (hd : Dis a b) : OwnOff a [wl, nl] := by
  obtain ⟨⟨o, ho⟩, o2, ho2⟩ := well_in h
  intro p hp c hc
  rcases List.mem_cons.mp hc with rfl | hc
  · exact hd p hp _ (hs _ ho)
  · rw [List.mem_singleton.mp hc]; exact hd p hp _ (hs _ ho2)
theorem own_app {a b : Led} {l : List Addr} (h : OwnOff a l) (h' : OwnOff b l) : OwnOff (a ++ b) l := fun p hp => (List.mem_append.mp hp).elim (h p) (h' p)
theorem law_pack {G : Prop} {w : World} {fr : FuncR} {recs recs2 : List BlockR} {nb nb2 : Nat} {h₀ h : Heap} {L D9 c1 c2 wl nl lb1 lb2 : Addr} {om o1 oD : Obj} {WM acc imm all tl1 tl2 tl3 : Led} {B n1 n2 : Nat} {bvs1 bvs2 : List Value} {bs bs2 : List BlockD}
    (N : News h₀ L h (tl3 ++ funcLed w fr recs2 nb2 (tl2 ++ (tl1 ++ (imm ++ all))))) (eall : all = (D9, oD) :: (c2, om) :: (c1, o1) :: ((WM ++ acc) ++ [])) (hW : Well B wl nl WM) (hacc : OwnOff acc [wl, nl])
    (hd4 : Dis (muts w recs ++ imm) all) (hd5 : Dis tl1 (funcLed w fr recs nb (imm ++ all))) (hd6 : Dis tl2 (tl1 ++ (imm ++ all))) (hd7 : Dis tl3 (funcLed w fr recs2 nb2 (tl2 ++ (tl1 ++ (imm ++ all)))))
    (hl1 : (lb1, listOf (List.toArray bvs1) n1) ∈ tl1 ++ (imm ++ acc)) (hb1 : DatAll (tl1 ++ (imm ++ acc)) bvs1 (bs.map toldDat)) (hl2 : (lb2, listOf (List.toArray bvs2) n2) ∈ tl3 ++ (tl2 ++ (imm ++ acc))) (hb2 : DatAll (tl3 ++ (tl2 ++ (imm ++ acc))) bvs2 (bs2.map toldDat)) (hok : FuncOk w (tl2 ++ (imm ++ acc)) fr)
    (k : ∀ R : Led, News h₀ L h ((c2, om) :: (c1, o1) :: (WM ++ R)) → OwnOff R [wl, nl] → (lb1, listOf (List.toArray bvs1) n1) ∈ R → DatAll R bvs1 (bs.map toldDat) → (lb2, listOf (List.toArray bvs2) n2) ∈ R → DatAll R bvs2 (bs2.map toldDat) → FuncOk w R fr → G) : G := by
  have wall : ∀ p ∈ WM, p ∈ all := fun p hp => eall ▸ .tail _ (.tail _ (.tail _ (mem_apl (mem_apl hp))))
  have s1 : ∀ p ∈ tl1 ++ (imm ++ acc), p ∈ tl3 ++ (tl2 ++ (tl1 ++ (imm ++ acc))) := fun p hp => mem_apr (mem_apr hp)
  have s2 : ∀ p ∈ tl2 ++ (imm ++ acc), p ∈ tl3 ++ (tl2 ++ (tl1 ++ (imm ++ acc))) := fun p hp => (List.mem_append.mp hp).elim (fun h => mem_apr (mem_apl h)) fun h => mem_apr (mem_apr (mem_apr h))
  have s3 : ∀ p ∈ tl3 ++ (tl2 ++ (imm ++ acc)), p ∈ tl3 ++ (tl2 ++ (tl1 ++ (imm ++ acc))) := fun p hp => (List.mem_append.mp hp).elim (fun h => mem_apl h) fun h => s2 p h
  have f1 : ∀ p ∈ imm ++ all, p ∈ funcLed w fr recs nb (imm ++ all) := fun p hp => .tail _ (mem_apr hp)
  have f2 : ∀ p ∈ tl2 ++ (tl1 ++ (imm ++ all)), p ∈ funcLed w fr recs2 nb2 (tl2 ++ (tl1 ++ (imm ++ all))) := fun p hp => .tail _ (mem_apr hp)
  refine k (tl3 ++ (tl2 ++ (tl1 ++ (imm ++ acc)))) (news_sub N fun p hp => ?_) ?_ (s1 _ hl1) (hb1.mono s1) (s3 _ hl2) (hb2.mono s3) (hok.mono s2)
  · have up : ∀ p ∈ all, p ∈ tl3 ++ funcLed w fr recs2 nb2 (tl2 ++ (tl1 ++ (imm ++ all))) := fun p hp => mem_apr (f2 p (mem_apr (mem_apr (mem_apr hp))))
    rcases List.mem_cons.mp hp with rfl | hp
    · exact up _ (eall ▸ .tail _ (.head _))
    · rcases List.mem_cons.mp hp with rfl | hp
      · exact up _ (eall ▸ .tail _ (.tail _ (.head _)))
      · rcases List.mem_append.mp hp with hp | hp
        · exact up p (wall p hp)
        · rcases List.mem_append.mp hp with hp | hp
          · exact mem_apl hp
          · rcases List.mem_append.mp hp with hp | hp
            · exact mem_apr (f2 p (mem_apl hp))
            · rcases List.mem_append.mp hp with hp | hp
              · exact mem_apr (f2 p (mem_apr (mem_apl hp)))
              · rcases List.mem_append.mp hp with hp | hp
                · exact mem_apr (f2 p (mem_apr (mem_apr (mem_apl hp))))
                · exact up p (eall ▸ .tail _ (.tail _ (.tail _ (mem_apl (mem_apr hp)))))
  · refine own_app (dis_own hW (fun p hp => f2 p (mem_apr (mem_apr (mem_apr (wall p hp))))) hd7) (own_app (dis_own hW (fun p hp => mem_apr (mem_apr (wall p hp))) hd6) (own_app (dis_own hW (fun p hp => f1 p (mem_apr (wall p hp))) hd5) (own_app (dis_own hW wall fun p hp q hq => hd4 p (mem_apr hp) q hq) hacc)))
theorem told_at {R : Led} {bvs : List Value} {bs : List BlockD} (h : DatAll R bvs (bs.map toldDat)) {i : Nat} {v : Value} (hv : bvs[i]? = some v) : ∃ b, bs[i]? = some b ∧ DatIn R v (toldDat b) := by
  obtain ⟨d, hd, hdat⟩ := datAll_at h hv
  rw [List.getElem?_map] at hd
  obtain ⟨b, hb, rfl⟩ := Option.map_eq_some_iff.mp hd
  exact ⟨b, hb, hdat⟩
theorem nums_step {bs : List BlockD} {b : BlockD} {i : Nat} {ys : List Value} {v : Int} {t : Tok} (h : IntsAre ys ((bs.take i).map (·.num))) (hb : bs[i]? = some b) (hv : v = b.num) : IntsAre (ys ++ [.int v t]) ((bs.take (i + 1)).map (·.num)) := by
  rw [take_map _ hb, hv]
  exact h.append (.cons _ _ .nil)
end Mine
namespace Mine
section
variable {prog : Program} {w : World} {A : Around} {s : Shared} {h₀ : Heap} {L : Addr} {m : Str → Option Value} {env : Env} {ct elt : Expr} {x : Str} {scope : Scope} {cl : List (Str × Addr)} {S : Led → Prop} {P : Nat → Value → Prop} {Fin : List Value → Led → Prop} {n : Nat} {news : Led}
/-- a filtering turn's end -/
def FltEnd (h₀ : Heap) (L : Addr) (m : Str → Option Value) (s₁ : Shared) (I : Addr) (oI : Obj) (C : Addr) (oC : Obj) (D : Addr) (oD : Obj) (news : Led) (K : Value → Prop) (y : Value) (s₂ : Shared) : Prop :=
  ∃ h' tk', s₂ = { s₁ with heap := h', toks := tk' } ∧ Fr h₀ L h' m ∧ News h₀ L h' ((I, oI) :: (C, oC) :: (D, oD) :: news) ∧ K y
theorem flt_end {h' : Heap} {tk' : Nat} {s₁ : Shared} {I C D : Addr} {oI oC oD : Obj} {all : Led} {K : Value → Prop} {y : Value} (F : Fr h₀ L h' m) (N : News h₀ L h' all) (hs : ∀ p ∈ (I, oI) :: (C, oC) :: (D, oD) :: news, p ∈ all) (hK : K y) :
    FltEnd h₀ L m s₁ I oI C oC D oD news K y { s₁ with heap := h', toks := tk' } := ⟨h', tk', rfl, F, news_sub N hs, hK⟩
open LCg in
theorem comp_flt (K : Nat → List Value → Prop) (h0 : K 0 []) (hS : S news)
    (hstep : ∀ i ys v I oI C oC D m₂ h tk (E' : Value → Shared → Prop), i < n → K i ys → P i v → NsObj oC m₂ → m₂ x = some v → Fr h₀ L h m → News h₀ L h ((I, oI) :: (C, oC) :: (D, lst ys) :: news) →
      OwnOff news [I, C, D] → ((@Ne Nat I C) ∧ (@Ne Nat I D) ∧ (@Ne Nat C D)) →
      wpAny (model prog w) A (isTrue ct (compEnvC scope cl C env) (eval ct (compEnvC scope cl C env))) (fun ok s' => if ok = true then
        wpAny (model prog w) A (eval elt (compEnvC scope cl C env)) (FltEnd h₀ L m { s with heap := h, toks := tk } I oI C oC D (lst ys) news (fun y => K (i + 1) (ys ++ [y]))) E' s'
        else FltEnd h₀ L m { s with heap := h, toks := tk } I oI C oC D (lst ys) news (fun _ => K (i + 1) ys) Value.none s') E' { s with heap := h, toks := tk })
    (hfin : ∀ ys, K n ys → Fin ys news) : LCt.CompRestT prog w A h₀ L m env ct elt x scope cl s S P Fin n 0 [] news := by
  have all : ∀ k i ys, i + k = n → K i ys → LCt.CompRestT prog w A h₀ L m env ct elt x scope cl s S P Fin k i ys news := by
    intro k
    induction k with
    | zero => intro i ys hi hK; exact LCt.CompRestT.zero (hfin ys ((show i = n by omega) ▸ hK))
    | succ k ih =>
      intro i ys hi hK
      refine LCt.CompRestT.succ fun v I oI C oC D m₂ h tk E' hP hC hx F N off ne => ?_
      have off' := off.mem
      refine wpAny_mono (hstep i ys v I oI C oC D m₂ h tk E' (by omega) hK hP hC hx F N (fun p hp b hb => ?_) ne) (fun ok s' hk => ?_) fun _ _ e => e
      · have o := off' p hp
        rcases List.mem_cons.mp hb with rfl | hb
        · exact o.1
        · rcases List.mem_cons.mp hb with rfl | hb
          · exact o.2.1
          · rw [List.mem_singleton.mp hb]; exact o.2.2
      · by_cases e : ok = true
        · rw [if_pos e] at hk ⊢
          refine wpAny_mono hk (fun y s₂ hy => ?_) fun _ _ e => e
          obtain ⟨h', tk', rfl, F', N', hK'⟩ := hy
          exact ⟨h', tk', news, rfl, F', N', off, hS, ih (i + 1) _ (by omega) hK'⟩
        · rw [if_neg e] at hk ⊢
          obtain ⟨h', tk', rfl, F', N', hK'⟩ := hk
          exact ⟨h', tk', news, rfl, F', N', off, hS, ih (i + 1) _ (by omega) hK'⟩
  exact all n 0 [] (by omega) h0
end
def zeros (bs : List BlockD) : List BlockD := bs.filter fun b => hasZero b.e
theorem zeros_yes {R : Led} {bs : List BlockD} {b : BlockD} {i : Nat} {ys : List Value} {v : Value} (h : DatAll R ys ((zeros (bs.take i)).map toldDat)) (hb : bs[i]? = some b) (hz : hasZero b.e = true) (hv : DatIn R v (toldDat b)) : DatAll R (ys ++ [v]) ((zeros (bs.take (i + 1))).map toldDat) := by
  have e : zeros (bs.take (i + 1)) = zeros (bs.take i) ++ [b] := by
    unfold zeros
    rw [List.take_add_one, hb, List.filter_append]
    congr 1
    simp [hz]
  rw [e, List.map_append]
  exact datAll_app h (.cons hv .nil)
theorem zeros_no {R : Led} {bs : List BlockD} {b : BlockD} {i : Nat} {ys : List Value} (h : DatAll R ys ((zeros (bs.take i)).map toldDat)) (hb : bs[i]? = some b) (hz : hasZero b.e = false) : DatAll R ys ((zeros (bs.take (i + 1))).map toldDat) := by
  have e : zeros (bs.take (i + 1)) = zeros (bs.take i) := by
    unfold zeros
    rw [List.take_add_one, hb, List.filter_append]
    simp [hz]
  rw [e]; exact h
theorem zeros_nil {bs : List BlockD} (h : ∀ b ∈ bs, hasZero b.e = false) : zeros bs = [] := by
  unfold zeros
  rw [List.filter_eq_nil_iff]
  intro b hb
  rw [h b hb]; decide
end Mine
namespace Mine
theorem nums_range {bs : List BlockD} (h : BsOk bs) {k : Nat} {l2 : Int} (hk : k = bs.length) (hl : l2 = ((bs.length : Nat) : Int)) : (bs.take k).map (fun b => b.num) = rangeKs 0 (l2 - 0).toNat := by
  rw [hk, List.take_length, hl]
  apply List.ext_getElem?
  intro i
  unfold rangeKs
  rw [List.getElem?_map, List.getElem?_map, show (((bs.length : Nat) : Int) - 0).toNat = bs.length by omega]
  by_cases hi : i < bs.length
  · rw [List.getElem?_eq_getElem hi, List.getElem?_range hi]
    show some _ = some _
    congr 1
    have := h.2.2 i _ (List.getElem?_eq_getElem hi)
    show bs[i].num = 0 + (i : Int)
    omega
  · rw [List.getElem?_eq_none (by omega), List.getElem?_eq_none (by rw [List.length_range]; omega)]
    rfl
end Mine
namespace Mine
theorem func_inv {w : World} {R : Led} {fr : FuncR} (h : FuncOk w R fr) : ∃ (t44 : Addr) (a0 a1 b0 b1 : Tok) (n1 n2 n3 : Nat), (fr.x, instObj 73 fr.dx) ∈ R ∧ (fr.dx, funcObj w fr) ∈ R ∧ (fr.lp, listOf (List.toArray [.int 0 a0, .int 1 a1]) n1) ∈ R ∧ (fr.lsl, listOf (List.toArray [.ref t44]) n2) ∈ R ∧ (t44, tupOf (List.toArray [.int 4 b0, .int 4 b1]) n3) ∈ R := by
  obtain ⟨h1, h2, h3, h4⟩ := h
  generalize hv : Value.ref fr.lp = v at h3
  generalize hw : Value.ref fr.lsl = v2 at h4
  cases h3 with
  | list m3 d3 =>
    cases d3 with
    | cons e1 d3 =>
      cases d3 with
      | cons e2 d3 =>
        cases d3
        cases e1
        cases e2
        cases h4 with
        | list m4 d4 =>
          cases d4 with
          | cons e3 d4 =>
            cases d4
            cases e3 with
            | tuple m5 d5 =>
              cases d5 with
              | cons e4 d5 =>
                cases d5 with
                | cons e5 d5 =>
                  cases d5
                  cases e4
                  cases e5
                  cases hv
                  cases hw
                  exact ⟨_, _, _, _, _, _, _, _, h1, h2, m3, m4, m5⟩
end Mine
namespace Mine
def LawMark2 : Prop := True
theorem zeros_all {bs : List BlockD} {k : Nat} (hk : k = bs.length) : zeros (bs.take k) = zeros bs := by rw [hk, List.take_length]
theorem zeros_ne {bs : List BlockD} (h : (bs.any fun b => hasZero b.e) = true) : (zeros bs).map toldDat ≠ [] := by
  intro e
  have e2 := List.map_eq_nil_iff.mp e
  obtain ⟨b, hb, hz⟩ := List.any_eq_true.mp h
  have : b ∈ zeros bs := List.mem_filter.mpr ⟨hb, hz⟩
  rw [e2] at this; cases this
theorem zeros_none {bs : List BlockD} (h : (bs.any fun b => hasZero b.e) = false) : zeros bs = [] := zeros_nil fun b hb => by simpa using List.any_eq_false.mp h b hb
theorem parted_eq_no {b0 : BlockD} {br : List BlockD} (h : ((b0 :: br).any fun b => hasZero b.e) = false) : parted (b0 :: br) = b0 :: br := parted_no (lz := [false]) (by rw [h]; rfl) rfl
theorem parted_eq_yes {b0 : BlockD} {br : List BlockD} (h : ((b0 :: br).any fun b => hasZero b.e) = true) : parted (b0 :: br) = partedBy (((b0 :: br).length : Nat) : Int) b0 br := parted_yes (lz := [true]) (by rw [h]; rfl) rfl rfl
theorem toldDats_ok {bs : List BlockD} (h : BsOk bs) : ∀ d ∈ bs.map toldDat, kqdOk 8 d = true := by
  intro d hd
  obtain ⟨b, hb, rfl⟩ := List.mem_map.mp hd
  exact toldDat_ok (h.1 b hb).2
theorem zerosDats_ok {bs : List BlockD} (h : BsOk bs) : ∀ d ∈ (zeros bs).map toldDat, kqdOk 8 d = true := by
  intro d hd
  obtain ⟨b, hb, rfl⟩ := List.mem_map.mp hd
  exact toldDat_ok (h.1 b (List.mem_filter.mp hb).1).2
end Mine
namespace Mine
theorem told_get {R : Led} {bvs : List Value} {bs : List BlockD} (h : DatAll R bvs (bs.map toldDat)) {i : Nat} {b : BlockD} (hb : bs[i]? = some b) : ∃ v, bvs[i]? = some v ∧ DatIn R v (toldDat b) := by
  have hi := (List.getElem?_eq_some_iff.mp hb).1
  obtain ⟨v, hv, hd⟩ := h.get (k := i) (by rw [List.length_map]; exact hi)
  refine ⟨v, hv, ?_⟩
  have e : (bs.map toldDat)[i]? = some (toldDat b) := by rw [List.getElem?_map, hb]; rfl
  have e2 := List.getElem?_eq_getElem (l := bs.map toldDat) (i := i) (by rw [List.length_map]; exact hi)
  rw [e] at e2
  rw [Option.some.inj e2]
  exact hd
theorem first_inv {R : Led} {v : Value} {n : Int} {b0 : BlockD} (h : DatIn R v (toldDat (firstB n b0))) : ∃ (T lr T2 la lg : Addr) (t1 t2 t3 : Tok) (k1 k2 k3 k4 : Nat), v = .ref T ∧ (T, tupOf (List.toArray [.int b0.num t1, .ref lr, .ref T2]) k1) ∈ R ∧ (lr, listOf (List.toArray []) k2) ∈ R ∧
    (T2, tupOf (List.toArray [.str (Str.ofString "jump") t2, .ref la, .int 0 t3, .ref lg]) k3) ∈ R ∧ (la, listOf (List.toArray []) k4) ∈ R := by
  obtain ⟨Tb, lr, T2, la, lg, t1, t2, t3, q1, q2, q3, q4, q5, rvs, avs, gvs, rfl, m1, m2, m3, m4, m5, m6, m7, m8⟩ := told_inv h
  cases m3
  cases m6
  exact ⟨Tb, lr, T2, la, lg, t1, t2, t3, q1, q2, q3, q4, rfl, m1, m2, m4, m5⟩
end Mine
namespace Mine
section
variable {prog : Program} {w : World} {A : Around} {E : Value → Shared → Prop} {s : Shared} {h₀ : Heap} {L t sl : Addr} {m : Str → Option Value} {news : Led} {items : Array Value} {vl vu : Value} {lo hi : Option Int} {a b : Int} {c : Nat} {zs : List Value} {Q : Value → Shared → Prop}
theorem part_is {v : Value} {o : Option Int} {Q : Option Int → Shared → Prop} (p : IsPart v o) (h : Q o s) : wpAny (model prog w) A (Builtin.Slice.slicePartIndex v) Q E s := by
  cases p with
  | none => exact slicePart_none h
  | int i u => exact slicePart_int h
theorem applied_lit {n : Int} {Q : Int × Int × Nat → Shared → Prop} (hs : s.heap.IsSliceOf sl vl vu .none) (pl : IsPart vl lo) (pu : IsPart vu hi) (ha : Builtin.Slice.sliceAdjust lo hi 1 n = (a, b)) (hp : Builtin.Slice.slicePlaces a b 1 = c) (h : Q (a, 1, c) s) :
    wpAny (model prog w) A (Builtin.Slice.sliceApplied (.ref sl) (pure n)) Q E s := by
  obtain ⟨os, hos, _, hds⟩ := id hs
  unfold Builtin.Slice.sliceApplied Builtin.Slice.sliceFields
  refine wpAny_bind (wpAny_bind (wpAny_field hos hds (x := vl) rfl (wpAny_bind (wpAny_field hos hds (x := vu) rfl (wpAny_bind (wpAny_field hos hds (x := .none) rfl (wpAny_pure ?_)))))))
  refine wpAny_bind (slicePart_none ?_)
  show wpAny _ _ (if ((1 : Int) == 0) = true then _ else _) _ _ s
  rw [if_neg (by decide)]
  refine wpAny_bind (part_is pl (wpAny_bind (part_is pu (wpAny_bind (wpAny_pure ?_)))))
  show wpAny _ _ (match Builtin.Slice.sliceAdjust lo hi 1 n with | (x, y) => pure (x, (1 : Int), Builtin.Slice.slicePlaces x y 1)) _ _ s
  rw [ha]
  show wpAny _ _ (pure (a, (1 : Int), Builtin.Slice.slicePlaces a b 1)) _ _ s
  rw [hp]
  exact wpAny_pure h
theorem getItem_lit (ht : IsTup s.heap t items) (hs : s.heap.IsSliceOf sl vl vu .none) (pl : IsPart vl lo) (pu : IsPart vu hi) (ha : Builtin.Slice.sliceAdjust lo hi 1 ((items.size : Nat) : Int) = (a, b)) (hp : Builtin.Slice.slicePlaces a b 1 = c) (hno : (a == 0 && (1 : Int) == 1 && c == items.size) = false)
    (hz : ((List.range c).filterMap fun (k : Nat) => items[(a + (k : Int) * 1).toNat]?) = zs) (hsz : zs.length ≤ sizeLine) (h : Q (.ref s.heap.objs.size) { s with heap := s.heap.push { cls := .type "tuple", data := .seq zs.toArray } }) :
    wpAny (model prog w) A (getItem (.ref t) (.ref sl)) Q E s := by
  have hok : sizeOk (.seq zs.toArray) := by
    show zs.toArray.size ≤ sizeLine
    rw [List.size_toArray]; exact hsz
  have hTs : s.TypeIs (.ref sl) "slice" := by obtain ⟨os, hos, hcs, _⟩ := id hs; exact ⟨os, hos, hcs⟩
  unfold getItem
  try with_reducible refine wpAny_holding ?_
  first | refine wpAny_bind (wpAny_pure ?_) | skip
  refine wpAny_bind (wpAny_sequenceKey ht.typeIs (by decide) ?_)
  refine wpAny_bind (wpAny_callSpecial?_slot (name := Str.ofString "__getitem__") ht.typeIs slot_tuple_getitem
    (wpAny_call_entry slot_tuple_getitem ht.typeIs entry_tuple_getitem ?_ (args_tuple_getitem _ _)))
  show wpAny _ _ (Builtin.Tuple.tupleItemsOf (.ref t) >>= _) _ _ s
  refine wpAny_bind (tupleItemsOf_ ht ?_)
  refine wpAny_bind (wpAny_typeOf hTs ?_)
  rw [if_pos (by decide)]
  refine wpAny_bind (applied_lit hs pl pu ha hp ?_)
  show wpAny _ _ (if (a == 0 && (1 : Int) == 1 && c == items.size) = true then _ else _) _ _ s
  rw [if_neg (by rw [hno]; decide), hz]
  first
    | exact wpAny_bind (m := Builtin.Tuple.tupleExact _) (wpAny_newObj_type (wpAny_pure ⟨_, rfl, wpAny_pure h⟩) hok)
    | exact wpAny_bind (m := Builtin.Tuple.tupleExact _) (wpAny_newObj_type (wpAny_bind (wpAny_pure (wpAny_pure ⟨_, rfl, wpAny_pure h⟩))) hok)
    | exact wpAny_bind (wpAny_bind (m := Builtin.Tuple.tupleExact _) (wpAny_newObj_type (wpAny_pure (wpAny_pure ⟨_, rfl, wpAny_pure h⟩)) hok))
    | exact wpAny_bind (wpAny_bind (m := Builtin.Tuple.tupleExact _) (wpAny_newObj_type (wpAny_pure ⟨_, rfl, wpAny_pure h⟩) hok))
/-- a slice of a tuple whose items are seen -/
theorem tup_slice {value slice : Expr} (F : Fr h₀ L s.heap m) (N : News h₀ L s.heap news) (ht : IsTup s.heap t items) (pl : IsPart vl lo) (pu : IsPart vu hi) (ha : Builtin.Slice.sliceAdjust lo hi 1 ((items.size : Nat) : Int) = (a, b)) (hp : Builtin.Slice.slicePlaces a b 1 = c) (hno : (a == 0 && (1 : Int) == 1 && c == items.size) = false)
    (hz : ((List.range c).filterMap fun (k : Nat) => items[(a + (k : Int) * 1).toNat]?) = zs) (hsz : zs.length ≤ sizeLine)
    (h : ∀ D h', Fr h₀ L h' m → News h₀ L h' ((D, { cls := .type "tuple", data := .seq zs.toArray }) :: news) → (∀ p ∈ news, p.1 < D) → Q (.ref D) { s with heap := h' })
    (hs : subscripted slice false (.ref t) (.ref s.heap.objs.size) = operate [.ref s.heap.objs.size, .ref t] (getItem (.ref t) (.ref s.heap.objs.size))) (hg : ∀ r, letTemporaryGo value (.ref t) r = pure ()) :
    wpAny (model prog w) A (subscriptTail value slice (.ref t) (.ref s.heap.objs.size)) Q E { s with heap := s.heap.push { cls := .type "slice", data := .fields #[vl, vu, .none] } } := by
  have ht' : IsTup (s.heap.push { cls := .type "slice", data := .fields #[vl, vu, .none] }) t items := ht.keeps fun _ _ e => Heap.get?_push_of_some _ e
  refine subscriptTail_ops (s := { s with heap := s.heap.push { cls := .type "slice", data := .fields #[vl, vu, .none] } }) ht'.typeIs slot_tuple_getitem.lookup (getItem_lit ht' (Heap.IsSliceOf.new ..) pl pu ha hp hno hz hsz ?_) hs hg
  have Ng : News h₀ L (s.heap.push { cls := .type "slice", data := .fields #[vl, vu, .none] }) news := N.grown fun _ _ e => Heap.get?_push_of_some _ e
  have N1 := News.push (F.push { cls := .type "slice", data := .fields #[vl, vu, .none] }) Ng { cls := .type "tuple", data := .seq zs.toArray }
  exact h _ _ ((F.push _).push _) N1 fun p hp => Heap.lt_size (Ng p hp).1
end
end Mine
namespace Mine
section
variable {prog : Program} {w : World} {A : Around} {E : Value → Shared → Prop} {s : Shared} {env : Env} {h₀ : Heap} {x : Str} {body : List Stmt} {Q : Flow → Shared → Prop} {m₀ : Str → Option Value}
/-- a for over a range by what holds of a middle part of the ledger -/
theorem range_fr {I : Addr} {a : Int} {n : Nat} {news : Led} (stored : List Str) (pre M rest : Led) (K : Nat → Led → Prop) (hn : news = pre ++ (M ++ rest)) (h0 : K 0 M) (hoff : ∀ p ∈ pre ++ (M ++ rest), p.1 ≠ I)
    (hstep : ∀ i u M t h tk it, i < n → K i M → (∀ p ∈ pre ++ (M ++ rest), p.1 ≠ I) → Fr h₀ env.locals h (fun y => if y = x then some (.int (a + (i : Int)) t) else frm stored u m₀ y) → News h₀ env.locals h ((I, it) :: (pre ++ (M ++ rest))) →
      wpAny (model prog w) A (execs body env) (TurnPostF h₀ env.locals stored m₀ pre M rest [(I, it)] { s with heap := h, toks := tk } (fun _ M => K (i + 1) M) Q) E { s with heap := h, toks := tk })
    (hfin : ∀ u M h tk, K n M → Fr h₀ env.locals h (frm stored u m₀) → News h₀ env.locals h (pre ++ (M ++ rest)) → Q .next { s with heap := h, toks := tk }) :
    RangeRest prog w A E h₀ env x body Q s I a n n 0 m₀ news := by
  subst hn
  have all : ∀ k i m M, i + k = n → K i M → (∀ z, stored.contains z = false → m z = m₀ z) → (∀ p ∈ pre ++ (M ++ rest), p.1 ≠ I) → RangeRest prog w A E h₀ env x body Q s I a n k i m (pre ++ (M ++ rest)) := by
    intro k
    induction k with
    | zero =>
      intro i m M hi hK hm off
      refine RangeRest.zero fun h tk F N => ?_
      rw [frm_of hm] at F
      exact hfin m M h tk ((show i = n by omega) ▸ hK) F N
    | succ k ih =>
      intro i m M hi hK hm off
      refine RangeRest.succ fun t h tk F N => ?_
      rw [frm_of hm] at F
      refine wpAny_mono (hstep i m M t h tk _ (by omega) hK off F N) (fun f s₂ p => ?_) fun _ _ e => e
      have fin : TurnEndF h₀ env.locals stored m₀ pre M rest [(I, itR (a + ((i + 1 : Nat) : Int)) ((n : Int) - ((i + 1 : Nat) : Int)))] { s with heap := h, toks := tk } (fun _ M => K (i + 1) M) s₂ →
          UnrEnd h₀ env.locals { s with heap := h, toks := tk } I (itR (a + ((i + 1 : Nat) : Int)) ((n : Int) - ((i + 1 : Nat) : Int))) (RangeRest prog w A E h₀ env x body Q s I a n k (i + 1)) s₂ := by
        rintro ⟨h', tk', m', M', rfl, F', hm', N', hM, hK'⟩
        have off' : ∀ p ∈ pre ++ (M' ++ rest), p.1 ≠ I := by
          intro p hp
          rcases List.mem_append.mp hp with hp | hp
          · exact off p (List.mem_append.mpr (.inl hp))
          · rcases List.mem_append.mp hp with hp | hp
            · rcases hM p hp with ⟨r, hr, e⟩ | hr
              · rw [← e]; exact off r (List.mem_append.mpr (.inr (List.mem_append.mpr (.inl hr))))
              · exact hr _ (.head _)
            · exact off p (List.mem_append.mpr (.inr (List.mem_append.mpr (.inr hp))))
        exact ⟨h', tk', m', pre ++ (M' ++ rest), rfl, F', N', off', ih (i + 1) m' M' (by omega) hK' hm' off'⟩
      cases f with
      | ret v => exact p
      | brk => exact p
      | next => exact fin p
      | cont => exact fin p
  exact all n 0 m₀ M (by omega) h0 (fun _ _ => rfl) hoff
end
end Mine
namespace Mine
def LawMark4 : Prop := True
theorem way_len (bs : List BlockD) : ∀ (cs : List Int) (k : Nat), (wayFrom bs k cs).length ≤ cs.length
  | [], _ => Nat.le_refl _
  | c :: cs, k => by
    cases hb : bs[k]? with
    | none =>
      have e : wayFrom bs k (c :: cs) = [] := by
        show (match bs[k]? with
          | none => []
          | some b => wayRow b :: (if b.e.goals = [] then [] else wayFrom bs (b.e.goals.getD (Int.fmod c (b.e.goals.length : Nat)).toNat 0).toNat cs)) = []
        rw [hb]
      rw [e]; exact Nat.zero_le _
    | some b =>
      by_cases hne : b.e.goals = []
      · rw [way_end hb hne]; exact Nat.succ_le_succ (Nat.zero_le _)
      · rw [way_step hb hne]; exact Nat.succ_le_succ (way_len bs cs _)
theorem sizeLine_small {n : Nat} (h : n ≤ 1000) : n ≤ sizeLine := by rw [sizeLine_eq]; omega
end Mine
namespace Mine
theorem law_good {cl : Str → Option Addr} {mean : ExcName → Option Value} {args : List WData} {s₁ s' : Shared} {L : Addr} {m : Str → Option Value} (F : Fr s₁.heap L s'.heap m) (hg : s'.gens = #[]) (hos : s'.os = s₁.os) :
    GoodW (RowW.claim (OpenRow.toRowW (OpenLaw.row PySem.Challenge.rw_nm0004_01))) cl mean args s₁ (.ok (.ret (.bool true))) s' := by
  w_top off
  refine' goodW_bool F hg (raisesW_false ?xr) ?xp hos
  case xr => wrow_none_raised
  case xp => exact postW_of (by wrow_shape) (by wtm_val) (by w_fin)
end Mine
namespace Mine
section
local macro_rules | `(tactic| wrow_close) => `(tactic| (w_end; refine' law_good ?gF ?gg ?go; (case gF => k_asm); (case gg => assumption); (case go => rfl)))
theorem kset19 : True := by
  k_with_none
  k_with "M gen" => ((fail_if_success (goal_lacks Mine.FltEnd Mine.GoalQ Mine.MidEnd Mine.MoreQ Mine.NewEnd Mine.StartQ Mine.TurnPostF PyProof.Rows.LCg.CompSrc PyProof.Rows.LCt.CompSrcT)); k_fold)
  k_with "M steps" => (repeat' (first | k_extra "M gen" | (k_unfold; (try dsimp only)) | (k_end; wrow_close) | walk1 | (dsimp only; walk1) | (leave1; walk_say "STEP leave1"; try dsimp only) | fail "no step"))
  k_with "M enterC" => ((refine' code_defC ?k1q17 ?k2q17 ?k3q17 ?k4q17 ?k5q17 ?kAq17 ?kFq17 ?kKq17 ?k6q17 ?k7q17 ?k8q17 ?k9q17 ?kBq17 ?kDq17 ?_ ?c2q17 ?c3q17 ?c4q17; (case kAq17 => exact rfl); (case kFq17 => exact rfl); (case kKq17 => assumption); (case k1q17 => k_asm); (case k2q17 => k_asm); (case k3q17 => k_asm); (case k4q17 => k_asm); (case k5q17 => k_asm); (case k6q17 => k_is); (case k7q17 => k_is); (case k8q17 => ktr_room); (case k9q17 => exact BindsTo.of_eq rfl); (case kBq17 => exact rfl); (case kDq17 => decide +kernel); (case c2q17 => exact rfl); (case c3q17 => exact rfl); (case c4q17 => exact rfl); k_whole; intro g'zq L'zq h'zq tk'zq cells'zq FG'zq F'zq N'zq Y'zq B'zq X'zq T'zq l1zq; k_cells Y'zq; (try simp only [List.cons_append, List.nil_append] at N'zq); (try dsimp only); (try k_fold)))
  k_with "M enter" => ((refine' code_def ?k1q18 ?k2q18 ?k3q18 ?k4q18 ?k5q18 ?kAq18 ?kFq18 ?kKq18 ?k6q18 ?k7q18 ?k8q18 ?k9q18 ?kBq18 ?_ ?c2q18 ?c3q18 ?c4q18 ?c5q18; (case kAq18 => exact rfl); (case kFq18 => exact rfl); (case kKq18 => first | exact rfl | assumption); (case k1q18 => k_asm); (case k2q18 => k_asm); (case k3q18 => k_asm); (case k4q18 => k_asm); (case k5q18 => k_asm); (case k6q18 => k_is); (case k7q18 => k_is); (case k8q18 => ktr_room); (case k9q18 => exact BindsTo.of_eq rfl); (case c5q18 => decide); (case kBq18 => exact locs rfl); (case c2q18 => exact rfl); (case c3q18 => exact rfl); (case c4q18 => exact rfl); k_whole; intro g'zq L'zq h'zq FG'zq F'zq N'zq B'zq X'zq T'zq; (try dsimp only); (try k_fold)))
  k_with "M mem" => (first | exact mem_hd | (with_reducible refine mem_tl ?_; k_extra "M mem") | with_reducible assumption | (with_reducible refine mem_apr ?_; k_extra "M mem") | (with_reducible refine mem_apl ?_; k_extra "M mem"))
  k_with "M ne" => ((refine neN ?_; (try dsimp only); first | exact Nat.ne_of_lt (by with_reducible assumption) | exact Nat.ne_of_gt (by with_reducible assumption) | with_reducible assumption | exact Ne.symm (by with_reducible assumption) | omega))
  k_with "M all" => (first | exact List.forall_mem_nil _ | with_reducible assumption | (with_reducible refine' List.forall_mem_cons.mpr ⟨?aq21, ?bq21⟩; (case aq21 => k_extra "M ne"); (case bq21 => k_extra "M all")) | (refine' allLt_ne ?dAq21; (case dAq21 => with_reducible assumption)) | (refine' off1_ne ?dAq21; (case dAq21 => with_reducible assumption)) | (refine' OwnOff.ne ?dAq21 ?dBq21; (case dAq21 => with_reducible assumption); (case dBq21 => k_memK)) | (refine' ne_app ?nAq21 ?nBq21; (case nAq21 => k_extra "M all"); (case nBq21 => k_extra "M all")) | (refine' dis_ne ?dAq21 ?dBq21; (case dAq21 => with_reducible assumption); (case dBq21 => k_extra "M mem")) | (refine' allLt_app ?dAq21; (case dAq21 => with_reducible assumption)) | (refine' allLt_apl ?dAq21; (case dAq21 => with_reducible assumption)) | (refine' allLt_ne_lt ?dAq21 ?dBq21; (case dAq21 => with_reducible assumption); (case dBq21 => with_reducible assumption)))
  k_with "newList" => ((k_here; k_dflt (refine' newList_K ?k1q22 ?k2q22 ?_; (case k1q22 => k_asm); (case k2q22 => k_asm); k_whole); intro l'zq h'zq F'zq N'zq l1zq; (try k_lt l1zq); (try k_sweep); k_extra "M split"))
  k_with "newTuple" => ((k_here; k_dflt (refine' kup_newTuple ?Fq23 ?Nq23 ?_ ?zq23; (case Fq23 => k_asm); (case Nq23 => k_asm); (case zq23 => kmk_size)); intro D'zq h'zq F'zq N'zq l1zq; (try k_lt l1zq); (try k_sweep); k_extra "M split"))
  k_with "call type:list" => ((k_here; (with_reducible show wpAny _ _ (call (Value.type _) [Value.ref _]) _ _ _); k_dflt (first | (refine' list_copyK ?k1q24 ?k2q24 ?k3q24 ?_ ?zq24; (case k1q24 => k_asm); (case k2q24 => k_asm); (case k3q24 => exact News.isList (by k_asm) (by k_extra "M mem")); (case zq24 => first | exact Nat.le_of_ble_eq_true rfl | (rw [List.size_toArray, sizeLine_eq]; omega) | exact kmk_sz (by with_reducible assumption) (by rw [sizeLine_eq]; omega)); k_whole) | (refine' list_copyKT ?k1q24 ?k2q24 ?k3q24 ?_ ?zq24; (case k1q24 => k_asm); (case k2q24 => k_asm); (case k3q24 => exact News.isTup (by k_asm) (by k_extra "M mem")); (case zq24 => exact Nat.le_of_ble_eq_true rfl); k_whole)); intro D'zq c'zq h'zq F'zq N'zq l1zq; (try k_lt l1zq); (try k_sweep); k_extra "M split"))
  k_with "M own" => (first | exact own_nil | (refine own_cons ?oAq25 ?oBq25; (case oAq25 => k_extra "M all"); (case oBq25 => k_extra "M own")))
  k_with "M dis" => (first | exact dis_nil | (refine dis_cons ?dAq26 ?dBq26; (case dAq26 => k_extra "M all"); (case dBq26 => k_extra "M dis")))
  k_with "M split" => (repeat ((with_reducible rename (_ ∧ _) => hc9zq); have hc9azq := hc9zq.1; have hc9bzq := hc9zq.2; clear hc9zq))
  k_with "M eq" => (first | exact eqs0 | exact eqs1 | exact eqs2 | exact eqs3 | exact eqs4 | exact eqs5 | exact eqs6 | exact eqs7 | exact eqs8 | exact eqs9 | exact eqs10 | exact eqs11 | exact eqs12 | exact eqs13 | exact eqs14 | exact eqs15 | exact eqs16)
  k_with "M tails" => ((intro pzq hpzq; (try dsimp only [List.cons_append, List.nil_append] at hpzq ⊢); repeat (first | with_reducible exact hpzq | with_reducible exact mem_apl hpzq | with_reducible refine List.mem_cons_of_mem _ ?_ | with_reducible refine mem_apr ?_)))
  k_with "M at" => (first | exact mem_hd | (refine mem_tl ?_; k_extra "M at"))
  k_with "M same" => ((intro zzq hzzq; (try dsimp only); (repeat (refine Eq.trans (same_if rfl hzzq) ?_)); first | exact same_frm hzzq | rfl))
  k_with "M clear" => (((repeat ((with_reducible rename (@LT.lt Nat _ _ _) => zzzq); clear zzzq)); (repeat ((with_reducible rename (AllLt _ _) => zzzq); clear zzzq))))
  k_with "M use" => (((case c1 => k_asm); (case c2 => k_asm); (case c3 => k_asm); (case c4 => k_asm); (case c5 => k_asm); (case c6 => first | exact rfl | assumption); (case c7 => ktr_room); (case c8 => ktr_units); k_whole))
  k_with "call builtin:list.append" => ((k_here; k_dflt (refine' append_any ?k1q34 ?k2q34 ?k3q34 ?k4q34 ?_; (case k1q34 => k_asm); (case k2q34 => k_asm); (case k3q34 => k_upd); (case k4q34 => with_reducible assumption)); intro h'zq F'zq N'zq))
  k_with "call builtin:len" => ((k_here; (with_reducible show wpAny _ _ (call (Value.builtin "len") [Value.ref _]) _ _ _); k_dflt (refine' kun_lenL ?k1q35 ?k2q35 ?k3q35 ?_; (case k1q35 => exact News.isList (by k_asm) (by k_extra "M mem")); (case k2q35 => with_reducible assumption); (case k3q35 => omega); k_whole)))
  k_with "binaryOp Add ref ref" => ((k_here; (with_reducible show wpAny _ _ (binaryOp _ (Value.ref _) (Value.ref _)) _ _ _); k_dflt (refine' kmk_add_ints ?Fq36 ?Nq36 ?aq36 ?bq36 ?iq36 ?jq36 ?_ ?zq36; (case Fq36 => k_asm); (case Nq36 => k_asm); (case aq36 => exact News.isList (by k_asm) (by k_extra "M mem")); (case bq36 => exact News.isList (by k_asm) (by k_extra "M mem")); (case iq36 => with_reducible assumption); (case jq36 => exact .cons _ _ .nil); (case zq36 => rw [sizeLine_eq, List.length_singleton]; omega)); intro D'zq ws'zq h'zq F'zq N'zq l1zq hI'zq; (try k_lt l1zq); (try k_sweep); k_extra "M split"))
  k_with "M all" => (first | exact List.forall_mem_nil _ | with_reducible assumption | (with_reducible refine' List.forall_mem_cons.mpr ⟨?aq89, ?bq89⟩; (case aq89 => k_extra "M ne"); (case bq89 => k_extra "M all")) | (refine' allLt_ne ?dAq89; (case dAq89 => with_reducible assumption)) | (refine' off1_ne ?dAq89; (case dAq89 => with_reducible assumption)) | (refine' OwnOff.ne ?dAq89 ?dBq89; (case dAq89 => with_reducible assumption); (case dBq89 => k_memK)) | (refine' ne_app ?nAq89 ?nBq89; (case nAq89 => k_extra "M all"); (case nBq89 => k_extra "M all")) | (refine' dis_ne ?dAq89 ?dBq89; (case dAq89 => with_reducible assumption); (case dBq89 => k_extra "M mem")) | (refine' allLt_app ?dAq89; (case dAq89 => with_reducible assumption)) | (refine' allLt_ne_lt ?dAq89 ?dBq89; (case dAq89 => with_reducible assumption); (case dBq89 => with_reducible assumption)))
  k_with "call type:list" => ((k_here; (with_reducible show wpAny _ _ (call (Value.type _) [Value.ref _]) _ _ _); k_dflt (refine' list_copyK ?k1q90 ?k2q90 ?k3q90 ?_ ?zq90; (case k1q90 => k_asm); (case k2q90 => k_asm); (case k3q90 => exact News.isList (by k_asm) (by k_mem)); (case zq90 => first | exact Nat.le_of_ble_eq_true rfl | size_fits); k_whole); intro D'zq c'zq h'zq F'zq N'zq l1zq; (try k_lt l1zq); (try k_sweep); k_extra "M split"))
  k_with "M tails" => ((intro pzq hpzq; (try dsimp only [List.cons_append, List.nil_append] at hpzq); repeat (first | with_reducible exact hpzq | with_reducible refine List.mem_cons_of_mem _ ?_ | with_reducible refine mem_apr ?_)))
  k_with "call ref" => ((k_here; (with_reducible show wpAny _ _ (call (Value.ref _) _) _ _ _); refine Stop.mk ?_))
  k_with "CompSrc" => (((with_reducible rename LawMark => lmkzq); refine Stop.mk ?_))
  k_with "M endsub" => ((intro qzq hqzq; rcases List.mem_append.mp hqzq with hqzq | hqzq; (exact .tail _ (.tail _ (.tail _ (.tail _ (.tail _ (mem_apl (mem_apl hqzq))))))); simp only [List.mem_cons, List.append_nil, List.mem_append] at hqzq ⊢; rcases hqzq with hzq | hzq | hzq | hzq | hzq | hzq <;> simp [hzq]))
  k_with "eval ListComp Name cons" => ((k_here; k_dflt (refine LCt.ListComp_T (F₀ := by k_asm) (by with_unfolding_all rfl) (by decide) (by rfl) (by decide) (by rfl) ?_)))
  k_with "CompSrcT" => (refine Stop.mk ?_)
  k_with "compareOp In int ref" => ((k_here; k_dflt (refine' in_list_ints (News.isList ?N1q97 ?N2q97) ?N3q97 ?_; (case N1q97 => k_asm); (case N2q97 => k_extra "M mem"); (case N3q97 => with_reducible assumption))))
  k_with "compareOp Eq ref ref" => (((with_reducible rename LawMark2 => lmk2zq); refine Stop.mk ?_))
  k_with "subscriptTail Name Constant ref int" => (((with_reducible rename LawMark2 => lmk2zq); refine Stop.mk ?_))
  k_with "subscriptTail Subscript Name Constant Slice ref ref" => ((k_here; k_dflt (refine kba_turn (value' := PySem.Expr.Name (PySem.Str.ofString "_") ⟨0, 0, 0, 0⟩) (fun _ => rfl) ?_)))
  k_with "subscriptTail Subscript Name Constant Constant ref int" => ((k_here; k_dflt (refine kba_turn (value' := PySem.Expr.Name (PySem.Str.ofString "_") ⟨0, 0, 0, 0⟩) (fun _ => rfl) ?_)))
  k_with "subscriptTail Attribute Name Constant ref int" => ((k_here; k_dflt (refine kba_turn (value' := PySem.Expr.Name (PySem.Str.ofString "_") ⟨0, 0, 0, 0⟩) (fun _ => rfl) ?_)))
  k_with "subscriptTail Attribute Name Slice ref ref" => ((k_here; k_dflt (refine kba_turn (value' := PySem.Expr.Name (PySem.Str.ofString "_") ⟨0, 0, 0, 0⟩) (fun _ => rfl) ?_)))
  k_with "subscriptTail Subscript Subscript Constant Slice ref ref" => ((k_here; k_dflt (refine kba_turn (value' := PySem.Expr.Name (PySem.Str.ofString "_") ⟨0, 0, 0, 0⟩) (fun _ => rfl) ?_)))
  k_with "subscriptTail Subscript Subscript Name Constant Constant Slice ref ref" => ((k_here; k_dflt (refine kba_turn (value' := PySem.Expr.Name (PySem.Str.ofString "_") ⟨0, 0, 0, 0⟩) (fun _ => rfl) ?_)))
  k_with "subscriptTail Subscript Subscript Name Constant Slice ref ref" => ((k_here; k_dflt (refine kba_turn (value' := PySem.Expr.Name (PySem.Str.ofString "_") ⟨0, 0, 0, 0⟩) (fun _ => rfl) ?_)))
  k_with "subscriptTail Name Slice ref ref" => (((with_reducible rename LawMark2 => lmk2zq); k_here; k_dflt (refine' tup_slice ?Fq107 ?Nq107 ?lq107 ?pq107 ?qq107 ?haq107 ?hpq107 ?hnoq107 ?hzq107 ?hszq107 ?_ ?sq107 ?tq107; (case Fq107 => k_asm); (case Nq107 => k_asm); (case lq107 => exact News.isTup (by k_asm) (by k_extra "M mem")); (case pq107 => kmk_part); (case qq107 => kmk_part); (case haq107 => exact rfl); (case hpq107 => exact rfl); (case hnoq107 => exact rfl); (case hzq107 => exact rfl); (case hszq107 => exact Nat.le_of_ble_eq_true rfl); (case sq107 => with_unfolding_all rfl); (case tq107 => kmk_pure)); intro D'zq h'zq F'zq N'zq l1zq; (try k_lt l1zq); (try k_sweep); k_extra "M split"))
  k_with "exec For Name Call" => (refine Stop.mk ?_)
  k_with "exec For Name Call cons nil" => (refine Stop.mk ?_)
  k_with "call builtin:len" => (((with_reducible rename LawMark2 => lmk2zq); refine Stop.mk ?_))
  k_with "ite" => (((with_reducible rename Stop LawMark => lmk3zq); refine Stop.mk ?_))
  k_with "pyIter ref" => (refine Stop.mk ?_)
  k_with "subscriptTail Call Name cons nil Slice ref ref" => ((k_here; k_dflt (refine kba_turn (value' := PySem.Expr.Name (PySem.Str.ofString "_") ⟨0, 0, 0, 0⟩) (fun _ => rfl) ?_); refine Stop.mk ?_))
  k_with "compareOp NotEq ref ref" => (((with_reducible rename LawMark4 => lmk4zq); refine Stop.mk ?_))
  trivial
set_option maxRecDepth 100000 in
set_option maxHeartbeats 8000000 in
theorem law_holds : PySem.Challenge.rw_nm0004_01.Holds := by
  w_top off
  refine Mine.hd ?_
  k_go0
  all_goals (try k_fold)
  rename (News _ _ _ [_, _]) => N0
  rename (Fr _ _ _ _) => F0
  refine cut_start F0 N0 ?hS ?hR
  case hS =>
    k_extra "M steps"
    · k_extra "M split"
      refine' start_end ?s1 ?s2 ?s3 ?s4 ?s5 ?s6 ?s7 ?s8 mod_all ?s9 take60 ?sA ?sB
      case s1 => k_asm
      case s2 => k_asm
      case s3 => k_extra "M at"
      case s4 => k_extra "M at"
      case s5 => k_extra "M at"
      case s6 => k_extra "M at"
      case s7 => assumption
      case s8 => assumption
      case s9 => assumption
      case sA => k_extra "M ne"
      case sB => intro a b; k_extra "M own"
    · k_extra "M split"
      refine' start_end (ns := [3]) ?u1 ?u2 ?u3 ?u4 ?u5 ?u6 ?u7 ?u8 ?u9 (by decide) (by decide) ?uA ?uB
      case u1 => k_asm
      case u2 => k_asm
      case u3 => k_extra "M at"
      case u4 => k_extra "M at"
      case u5 => k_extra "M at"
      case u6 => k_extra "M at"
      case u7 => assumption
      case u8 => exact .cons _ _ .nil
      case u9 => intro n hn; rw [List.mem_singleton.mp hn]; decide
      case uA => k_extra "M ne"
      case uB => intro a b; k_extra "M own"
  intro h' tk' o1' wl nl W F1 N1 d1 hW ownc
  rename World => w9
  have lm : LawMark := trivial
  k_extra "M steps"
  refine Stop.go ?_
  refine' Ctr.use (draw_pre _ 60 wl nl [(_, _), (_, _)] W [] 5 _ hW (by decide) (ownc _ _) (fun _ h => nomatch h) (by decide) (by decide)) ?c1 ?c2 ?c3 ?c4 ?c5 ?c6 ?c7 ?c8 (fun q hq => hq) ?_
  k_extra "M use"
  intro r2 n2 h2 tk2 F2 N2 P2
  obtain ⟨W2, k2, tq2, rfl, rfl, hW2, hk0, hk5⟩ := P2
  dsimp only [List.cons_append, List.nil_append] at N2
  have ow2 := well_own hW2 ownc
  k_extra "M steps"
  refine Stop.go ?_
  rename (Obj.data _ = Data.cell (some (Value.int _ _))) => dmz
  rename (News _ _ _ ((_, _) :: (_, _) :: _)) => Nz
  refine many_pack Nz dmz ?_
  clear Nz dmz
  intro om N3z dm
  refine LCg.CompSrc.range (by rfl) (by k_asm) (by k_asm) (by assumption) ?cs1 (rangeSize_nat _ _) ?cs2 ?cs3
  case cs1 => exact small_one (by omega) (by omega) (by omega) (by omega)
  case cs2 => rw [sizeLine_eq]; omega
  intro g9
  refine' comp_mid [(_, om), (_, o1')] W2 [] (fun i ys M => EndsInv (1 + k2) wl nl i ys M) ?en ?e0 ?eS ?estep ?efin
  case en => exact rfl
  case e0 => exact ⟨W2, [], [], (List.append_nil _).symm, hW2, .nil, rfl, (fun _ h => nomatch h), fun _ h => nomatch h⟩
  case eS => intro M; trivial
  case estep =>
    rintro i ys M v I oI C oC D m₂ h tk E' hi ⟨WM, acc, es, rfl, hWM, hdy, hel, hes, hacc⟩ hP hC hx F N off ne
    dsimp only [List.cons_append, List.nil_append] at N
    have q1 := hWM.off (P := fun a => a ≠ I ∧ a ≠ C ∧ a ≠ D) off (by intro p hp; simp [hp])
    have hrest := ends_rest (oI := oI) (oC := oC) (oD := LCg.lst ys) (o1 := o1') (o2 := om) ⟨Ne.symm q1.1.1, Ne.symm q1.2.1⟩ ⟨Ne.symm q1.1.2.1, Ne.symm q1.2.2.1⟩ ⟨Ne.symm q1.1.2.2, Ne.symm q1.2.2.2⟩ ownc hacc
    clear off
    k_extra "M steps"
    refine Stop.go ?_
    refine' Ctr.use (end_ctr w9 (61 + 12 * i) wl nl WM _ (1 + k2) _ hWM (by omega) hrest (by omega) (by omega)) ?c1 ?c2 ?c3 ?c4 ?c5 ?c6 ?c7 ?c8 ?c9 ?_
    k_extra "M use"
    case c9 => k_extra "M endsub"
    intro r3 n3 h3 tk3 F3 N3 P3
    obtain ⟨tl3, W3, e3, rfl, hW3, hok3, hd3, hs3⟩ := P3
    k_extra "M steps"
    exact ends_turn (by k_asm) N3 hWM hW3 hok3 hd3 hs3 hdy hel hes hacc
  rintro ys M ⟨WM, acc, es, rfl, hWM, hdy, hel, hes, hacc⟩
  unfold LCg.FinA
  intro D9 h9 tk9 F9 N9 o9
  dsimp only [List.cons_append, List.nil_append] at N9
  refine all_pack N9 ?_
  clear N9 o9
  intro all eall N9
  have hn5 : es.length ≤ 5 := by omega
  have sacc : ∀ p ∈ acc, p ∈ all := fun p hp => eall ▸ .tail _ (.tail _ (.tail _ (mem_apl (mem_apr hp))))
  have hle : (D9, listOf (List.toArray ys) ys.length) ∈ all := eall ▸ .head _
  have hbs := bsOk_from (many := 1 + k2) (by omega) hes
  obtain ⟨b0, br, ebs⟩ := blocks_cons (es := es) (by omega)
  have hbl : (b0 :: br).length = es.length := by rw [← ebs, blocksFrom_length]
  rw [ebs] at hbs
  obtain ⟨hg1, hr1⟩ := bs_told hbs
  k_extra "M steps"
  refine Stop.go ?_
  refine' Ctr.use (func_ctr w9 D9 ys ys.length es all acc sacc hle hdy hn5 (fun x hx => (hes x hx).2.1)) ?c1 ?c2 ?c3 ?c4 ?c5 ?c6 ?c7 ?c8 (fun q hq => hq) ?_
  k_extra "M use"
  intro r4 n4 h4 tk4 F4 N4 P4
  obtain ⟨fr, recs, imm, nb, rfl, rfl, hFA, hdis4, hown4⟩ := P4
  rw [ebs] at hFA
  try clear N9
  k_extra "M steps"
  refine Stop.go ?_
  refine' Ctr.use (told_ctr w9 fr recs nb (imm ++ acc) (imm ++ all) (b0 :: br) hFA (app_sub sacc) (by omega) hg1 hr1) ?c1 ?c2 ?c3 ?c4 ?c5 ?c6 ?c7 ?c8 (fun q hq => hq) ?_
  k_extra "M use"
  intro r5 n5 h5 tk5 F5 N5 P5
  obtain ⟨tl1, rfl, hdat1, hdis5⟩ := P5
  try clear N4
  have hFA2 := func_more hFA hdis5
  cases hdat1 with
  | @list lb1 bvs1 nb1 _ hlb1 hbd1 =>
  k_extra "M steps"
  refine Stop.go ?_
  refine' Ctr.use (part_ctr w9 fr recs nb (imm ++ acc) (tl1 ++ (imm ++ all)) b0 br hFA2 (fun p hp => mem_apr (app_sub sacc p hp)) (by omega) hg1) ?c1 ?c2 ?c3 ?c4 ?c5 ?c6 ?c7 ?c8 ?c9 ?_
  k_extra "M use"
  case c9 => exact func_sub
  intro r6 n6 h6 tk6 F6 N6 P6
  obtain ⟨recs2, nb2, tl2, rfl, rfl, hFB, hdis6⟩ := P6
  try clear N5
  have hbs2 := bsOk_any hbs
  obtain ⟨hg2, hr2⟩ := bs_told hbs2
  have hl2 := parted_small (b0 := b0) (br := br) (by omega)
  k_extra "M steps"
  refine Stop.go ?_
  refine' Ctr.use (told_ctr w9 fr recs2 nb2 (tl2 ++ (imm ++ acc)) (tl2 ++ (tl1 ++ (imm ++ all))) (parted (b0 :: br)) hFB (app_sub fun p hp => mem_apr (app_sub sacc p hp)) hl2 hg2 hr2) ?c1 ?c2 ?c3 ?c4 ?c5 ?c6 ?c7 ?c8 (fun q hq => hq) ?_
  k_extra "M use"
  intro r7 n7 h7 tk7 F7 N7 P7
  obtain ⟨tl3, rfl, hdat2, hdis7⟩ := P7
  try clear N6
  cases hdat2 with
  | @list lb2 bvs2 nb2' _ hlb2 hbd2 =>
  refine law_pack N7 eall hWM hacc hdis4 hdis5 hdis6 hdis7 hlb1 hbd1 hlb2 hbd2 hFB.ok ?_
  clear N7 hlb1 hbd1 hlb2 hbd2 hFA hFA2 hdis4 hown4 hdis5 hdis6 hdis7 hdy hacc sacc hle eall
  intro R N8 hRo hlb1 hbd1 hlb2 hbd2 hok
  have hFBl := hFB.blocks.length
  clear hFB
  obtain ⟨bs2, ebs2⟩ : ∃ bs2, bs2 = parted (b0 :: br) := ⟨_, rfl⟩
  rw [← ebs2] at hbd2 hbs2 hl2 hg2 hr2 hFBl
  have hb2l : bvs2.length = bs2.length := by rw [hbd2.length, List.length_map]
  have hb1l : bvs1.length = (b0 :: br).length := by rw [hbd1.length, List.length_map]
  have hsz2 : (List.toArray bvs2).size ≤ sizeLine := by rw [List.size_toArray, hb2l, sizeLine_eq]; omega
  obtain ⟨l2, el2⟩ : ∃ l2 : Int, l2 = ((bs2.length : Nat) : Int) := ⟨_, rfl⟩
  have hk2l : (((List.toArray bvs2).size : Nat) : Int) = l2 := by rw [List.size_toArray, hb2l, el2]
  have hl20 : 0 ≤ l2 := by omega
  have hl26 : l2 ≤ 6 := by omega
  k_extra "M steps"
  refine Stop.go ?_
  refine LCg.CompSrc.ledger (its := bvs2.toArray) (k := nb2') (by rfl) (by k_asm) (by k_asm) (by k_extra "M mem") hsz2 ?_
  intro g1
  refine' comp_new _ (WM ++ R) (fun i ys acc => IntsAre ys ((bs2.take i).map (·.num))) ?an ?a0 ?aS ?astep ?afin
  case an => k_extra "M eq"
  case a0 => exact .nil
  case aS => exact fun M => .inr ⟨_, mem_apr (mem_apr (mem_apr hlb2)), rfl, _, rfl⟩
  case astep =>
    rintro i ys acc v I9 oI C oC D m₂ h tk E' hi hK hv hC hx F N off ne hdd
    obtain ⟨b, hb, hvd⟩ := told_at hbd2 (i := i) (by simpa using hv)
    obtain ⟨Tb, lr, T2, la, lg, t1, t2, t3, q1, q2, q3, q4, q5, rvs, avs, gvs, rfl, m1, m2, m3, m4, m5, m6, m7, m8⟩ := told_inv hvd
    dsimp only [List.cons_append, List.nil_append] at N off hdd
    k_extra "M steps"
    refine' new_same ?aF ?aN ?as ?ak
    case aF => k_asm
    case aN => k_asm
    case as => k_extra "M tails"
    case ak => exact nums_step hK hb rfl
  intro ys acc hK hdd
  unfold LCg.FinE
  intro D9 h9 tk9 F9 N9 o9
  dsimp only [List.cons_append, List.nil_append] at N9 hdd
  simp only [LCg.Off1, List.cons_append, List.nil_append] at o9
  k_extra "M split"
  dsimp only
  try k_fold
  have hnr := nums_range hbs2 (k := (List.toArray bvs2).size) (by rw [List.size_toArray, hb2l]) el2
  k_extra "M steps"
  refine Stop.go ?_
  refine LCt.CompSrcT.ledger (its := bvs2.toArray) (k := nb2') (by rfl) (by k_asm) (by k_asm) (by k_extra "M mem") hsz2 ?_
  intro g2
  refine' comp_flt (fun i ys => DatAll R ys ((zeros (bs2.take i)).map toldDat)) ?b0 ?bS ?bstep ?bfin
  case b0 => exact .nil
  case bS => exact .inr ⟨_, (by k_extra "M mem"), rfl, _, rfl⟩
  case bstep =>
    rintro i ys v I oI C oC D m₂ h tk E' hi hK hv hC hx F N off ne
    obtain ⟨b, hb, hvd⟩ := told_at hbd2 (i := i) (by simpa using hv)
    have hvd' := hvd
    obtain ⟨Tb, lr, T2, la, lg, t1, t2, t3, q1, q2, q3, q4, q5, rvs, avs, gvs, rfl, m1, m2, m3, m4, m5, m6, m7, m8⟩ := told_inv hvd
    k_extra "M steps"
    · refine' flt_end ?fF ?fN ?fs (zeros_yes hK hb (by assumption) hvd')
      case fF => k_asm
      case fN => k_asm
      case fs => k_extra "M tails"
    · refine' flt_end ?gF ?gN ?gs (zeros_no hK hb (by assumption))
      case gF => k_asm
      case gN => k_asm
      case gs => k_extra "M tails"
  intro ys2 hK2
  have hnz2 : ∀ b ∈ bs2, hasZero b.e = false := ebs2 ▸ noZero_any hbs
  rw [zeros_nil fun b hb => hnz2 b (List.mem_of_mem_take hb)] at hK2
  cases hK2
  unfold LCg.FinE
  intro D9 h9 tk9 F9 N9 o9
  (try dsimp only [List.cons_append, List.nil_append] at N9)
  simp only [LCg.Off1, List.cons_append, List.nil_append] at o9
  k_extra "M split"
  obtain ⟨t44, a0, a1, b40, b41, n41, n42, n43, u1, u2, u3, u4, u5⟩ := func_inv hok
  dsimp only [funcObj, ent] at u2
  dsimp only
  try k_fold
  k_extra "M steps"
  refine Stop.go ?_
  have hsz1 : (List.toArray bvs1).size ≤ sizeLine := by rw [List.size_toArray, hb1l, sizeLine_eq]; omega
  refine' LCt.CompSrcT.ledger (its := bvs1.toArray) (k := nb1) (news := (_, om) :: (_, o1') :: (WM ++ R)) ?p1 ?p2 (news_sub ?p3 (sub_two ?p4 ?p5 ?p6)) ?p7 hsz1 ?_
  case p1 => rfl
  case p2 => k_asm
  case p3 => k_asm
  case p4 => k_extra "M at"
  case p5 => k_extra "M at"
  case p6 => k_extra "M tails"
  case p7 => k_extra "M mem"
  intro g3
  refine' comp_flt (fun i ys => DatAll R ys ((zeros ((b0 :: br).take i)).map toldDat)) ?hb0 ?hbS ?hbstep ?hbfin
  case hb0 => exact .nil
  case hbS => exact .inr ⟨_, (by k_extra "M mem"), rfl, _, rfl⟩
  case hbstep =>
    rintro i ys v I oI C oC D m₂ h tk E' hi hK hv hC hx F N off ne
    obtain ⟨b, hb, hvd⟩ := told_at hbd1 (i := i) (by simpa using hv)
    have hvd' := hvd
    obtain ⟨Tb, lr, T2, la, lg, t1, t2, t3, q1, q2, q3, q4, q5, rvs, avs, gvs, rfl, m1, m2, m3, m4, m5, m6, m7, m8⟩ := told_inv hvd
    k_extra "M steps"
    · refine' flt_end ?ffF ?ffN ?ffs (zeros_yes hK hb (by assumption) hvd')
      case ffF => k_asm
      case ffN => k_asm
      case ffs => k_extra "M tails"
    · refine' flt_end ?ggF ?ggN ?ggs (zeros_no hK hb (by assumption))
      case ggF => k_asm
      case ggN => k_asm
      case ggs => k_extra "M tails"
  intro ys3 hK3
  rw [zeros_all (by rw [List.size_toArray, hb1l])] at hK3
  unfold LCg.FinE
  intro D9 h9 tk9 F9 N9 o9
  simp only [LCg.Off1, List.cons_append, List.nil_append] at o9
  k_extra "M split"
  have lm2 : LawMark2 := trivial
  dsimp only
  try k_fold
  k_extra "M steps"
  refine Stop.go ?_
  refine' kqd_eq (n₁ := R) (n₂ := []) (xs := ys3) (ys := []) ?k1 ?k2 ?k2c ?k2d hK3 ?k3 ?k4 ?k4c ?k4d .nil ?k5 ?k6 ?k7 ?k8 ?_
  case k1 => k_asm
  case k2 => k_extra "M at"
  case k2c => rfl
  case k2d => rfl
  case k3 => k_extra "M tails"
  case k4 => exact mem_hd
  case k4c => rfl
  case k4d => rfl
  case k5 => exact fun _ h => nomatch h
  case k6 => exact zerosDats_ok hbs
  case k7 => exact fun _ h => nomatch h
  case k8 => units_room
  cases hz : (b0 :: br).any fun b => hasZero b.e with
  | false =>
    have hzz := zeros_none hz
    rw [hzz]
    k_extra "M steps"
    refine Stop.go ?_
    have ee : bs2 = b0 :: br := ebs2.trans (parted_eq_no hz)
    refine' kqd_eq (n₁ := R) (n₂ := R) (xs := bvs2) (ys := bvs1) ?j1 ?j2 ?j2c ?j2d hbd2 ?j3 ?j4 ?j4c ?j4d hbd1 ?j5 ?j6 ?j7 ?j8 ?_
    case j1 => k_asm
    case j2 => k_extra "M mem"
    case j2c => rfl
    case j2d => rfl
    case j3 => k_extra "M tails"
    case j4 => k_extra "M mem"
    case j4c => rfl
    case j4d => rfl
    case j5 => k_extra "M tails"
    case j6 => exact toldDats_ok hbs2
    case j7 => exact toldDats_ok hbs
    case j8 => units_room
    have e9 : ∀ inst : Decidable (bs2.map toldDat = (b0 :: br).map toldDat), @decide _ inst = true := fun inst => decide_eq_true (by rw [ee])
    rw [e9]
    clear hlb1 hlb2 hbd1 hbd2
    k_extra "M clear"
    k_extra "M steps"
  | true =>
    have hzz := zeros_ne hz
    rw [decide_eq_false hzz]
    have ee : bs2 = partedBy (((b0 :: br).length : Nat) : Int) b0 br := ebs2.trans (parted_eq_yes hz)
    obtain ⟨v0, hv0, hd0⟩ := told_get hbd2 (i := 0) (b := firstB (((b0 :: br).length : Nat) : Int) b0) (by rw [ee]; rfl)
    obtain ⟨Tf, lrf, T2f, laf, lgf, tf1, tf2, tf3, kf1, kf2, kf3, kf4, rfl, y1, y2, y3, y4⟩ := first_inv hd0
    have el3 : l2 = 1 + k2 + 1 := by rw [el2, ee, parted_len, hbl]; omega
    subst el3
    k_extra "M steps"
    refine Stop.go ?_
    refine PyProof.Rows.item_list (x := .ref Tf) (News.isList (by k_asm) (by k_extra "M mem")) (by decide) (by decide) (by simpa using hv0) ?_
    have lm2 : LawMark2 := trivial
    k_extra "M steps"
    refine Stop.go ?_
    refine PyProof.Rows.item_list (x := .ref Tf) (News.isList (by k_asm) (by k_extra "M mem")) (by decide) (by decide) (by simpa using hv0) ?_
    have lm2 : LawMark2 := trivial
    k_extra "M steps"
    refine Stop.go ?_
    refine PyProof.Rows.item_tuple (j := 2) (x := .ref T2f) (News.isTup (by k_asm) (by k_extra "M mem")) (by decide) (by decide) rfl rfl ?_
    have lm2 : LawMark2 := trivial
    k_extra "M steps"
    refine Stop.go ?_
    refine kun_lenL (k := 1 + k2 + 1) (News.isList (by k_asm) (by k_extra "M mem")) hk2l (by omega) ?_
    have lm3 : Stop LawMark := trivial
    k_extra "M steps"
    refine Stop.go ?_
    rw [if_neg (by simp)]
    try clear lm3
    k_extra "M steps"
    refine Stop.go ?_
    rw [if_neg (by decide)]
    k_extra "M steps"
    rename (News _ _ _ ((_, _) :: _)) => Nz
    have N9 : News _ _ _ ((_, om) :: (_, o1') :: (WM ++ R)) := news_sub Nz (sub_two (by k_extra "M at") (by k_extra "M at") (by k_extra "M tails"))
    clear Nz
    k_extra "M clear"
    refine Stop.go ?_
    rename (Fr _ _ _ _) => lF
    with_unfolding_all refine' For_invVF lF ?fk1 ?fk2 ?_
    case fk1 => exact rfl
    case fk2 => exact rfl
    k_extra "M steps"
    refine Stop.go ?_
    refine iter_rangeUnr (n := 4) (by rfl) (by assumption) (by decide) (by decide) (by k_asm) (by k_asm) ?_
    intro I hI
    obtain ⟨BW, eBW⟩ : ∃ B : Nat, B = 61 + 12 * Int.toNat (1 + k2 - 0) := ⟨_, rfl⟩
    have hBW : BW ≤ 200 := by omega
    rw [← eBW] at hWM
    clear eBW
    refine' range_fr [Str.ofString "turn", Str.ofString "choices"] [(_, om), (_, o1')] WM R (fun i M => Well (BW + 9 * i) wl nl M) ?rn ?r0 ?roff ?rstep ?rfin
    case rn => exact rfl
    case r0 => exact hWM
    case roff => exact fun p hp => Nat.ne_of_lt (hI p hp)
    case rfin =>
      intro u M h tk hK F N
      k_extra "M steps"
    case rstep =>
      rintro i u M t h tk it hi hMW off F N
      dsimp only [List.cons_append, List.nil_append] at N off
      clear hI
      k_extra "M steps"
      refine Stop.go ?_
      refine LCg.CompSrc.range (n := 9) (by rfl) (by k_asm) (by k_asm) (by assumption) (by decide) (by decide) (by decide) ?_
      intro g9
      have nI : @Ne Nat I wl ∧ @Ne Nat I nl := by
        obtain ⟨⟨ow, how⟩, on, hon⟩ := well_in hMW
        exact ⟨Ne.symm (off _ (.tail _ (.tail _ (mem_apl how)))), Ne.symm (off _ (.tail _ (.tail _ (mem_apl hon))))⟩
      refine' comp_mid [(I, it), (_, om), (_, o1')] M R (fun j ys M' => Well (BW + 9 * i + j) wl nl M' ∧ ∃ ns : List Int, IntsAre ys ns ∧ ns.length = j ∧ ∀ n ∈ ns, 0 ≤ n ∧ n < 60) ?cn ?c0 ?cS ?cstep ?cfin
      case cn => exact rfl
      case c0 => exact ⟨hMW, [], .nil, rfl, fun _ h => nomatch h⟩
      case cS => intro M; trivial
      case cstep =>
        rintro j ys M2 v I2 oI C oC D m₂ h tk E' hj ⟨hM2, ns, hIy, hly, hby⟩ hP hC hx F N off2 ne
        dsimp only [List.cons_append, List.nil_append] at N
        have q1 := hM2.off (P := fun a => a ≠ I2 ∧ a ≠ C ∧ a ≠ D) off2 (by intro p hp; simp [hp])
        have hpre : OwnOff [(I2, oI), (C, oC), (D, LCg.lst ys), (I, it), (_, om), (_, o1')] [wl, nl] := off2_cons (Ne.symm q1.1.1) (Ne.symm q1.2.1) (off2_cons (Ne.symm q1.1.2.1) (Ne.symm q1.2.2.1) (off2_cons (Ne.symm q1.1.2.2) (Ne.symm q1.2.2.2) (off2_cons nI.1 nI.2 (ownc om o1'))))
        clear off2
        k_extra "M steps"
        refine Stop.go ?_
        refine' Ctr.use (draw_pre w9 (BW + 9 * i + j) wl nl [(_, _), (_, _), (_, _), (_, _), (_, _), (_, _)] M2 R 60 _ hM2 (by omega) hpre hRo (by decide) (by decide)) ?c1 ?c2 ?c3 ?c4 ?c5 ?c6 ?c7 ?c8 (fun q hq => hq) ?_
        k_extra "M use"
        intro r3 n3 h3 tk3 F3 N3 P3
        obtain ⟨W3, k3, tq3, rfl, rfl, hW3, hk30, hk31⟩ := P3
        dsimp only [List.cons_append, List.nil_append] at N3
        k_extra "M steps"
        exact ⟨_, _, W3, rfl, by k_asm, N3, fun p hp => .inl (hM2.same hW3 p hp), hW3, ns ++ [_], hIy.append (.cons _ _ .nil), by rw [List.length_append, hly]; rfl, fun n hn => by
          rcases List.mem_append.mp hn with hn | hn
          · exact hby n hn
          · rw [List.mem_singleton.mp hn]; exact ⟨hk30, hk31⟩⟩
      rintro ys M2 ⟨hM2, ns, hIy, hly, hby⟩
      unfold LCg.FinA
      intro D2 h9 tk9 F9 N9 o9
      k_extra "M steps"
      dsimp only [List.cons_append, List.nil_append] at N9 o9
      refine all_pack N9 ?_
      clear N9
      intro XR eXR N9
      have sR : ∀ p ∈ R, p ∈ XR := fun p hp => eXR ▸ .tail _ (.tail _ (.tail _ (.tail _ (mem_apr hp))))
      have hD2 : (D2, listOf (List.toArray ys) ys.length) ∈ XR := eXR ▸ .head _
      refine Stop.go ?_
      refine' Ctr.use (way_ctr w9 lb1 D2 bvs1 ys nb1 ys.length (b0 :: br) ns XR (sR _ hlb1) (hbd1.mono sR) hD2 hIy (Nat.succ_pos _) (by omega) (by omega) (fun c hc => ⟨(hby c hc).1, by have := (hby c hc).2; omega⟩) hbs.2.1) ?c1 ?c2 ?c3 ?c4 ?c5 ?c6 ?c7 ?c8 (fun q hq => hq) ?_
      k_extra "M use"
      intro r4 n4 h4 tk4 F4 N4 P4
      obtain ⟨tlA, rfl, hdA, hdisA⟩ := P4
      cases hdA with
      | @list la vsA nA _ hlA hdA =>
      k_extra "M steps"
      rename (IntsAre _ ([0] ++ _)) => hI2
      rename (News _ _ _ ((_, _) :: (_, _) :: (tlA ++ XR))) => N10
      refine all_pack N10 ?_
      clear N10
      intro XB eXB N10
      have sB : ∀ p ∈ tlA ++ XR, p ∈ XB := fun p hp => eXB ▸ .tail _ (.tail _ hp)
      refine Stop.go ?_
      refine' Ctr.use (way_ctr w9 lb2 _ bvs2 _ nb2' 0 bs2 (0 :: ns) XB (sB _ (mem_apr (sR _ hlb2))) (hbd2.mono fun p hp => sB _ (mem_apr (sR _ hp))) ?wm hI2 (by omega) (by omega) (by rw [List.length_cons]; omega) ?wc hbs2.2.1) ?c1 ?c2 ?c3 ?c4 ?c5 ?c6 ?c7 ?c8 (fun q hq => hq) ?_
      case wm => rw [eXB]; exact .head _
      case wc =>
        intro c hc
        rcases List.mem_cons.mp hc with rfl | hc
        · exact ⟨Int.le_refl _, by decide⟩
        · exact ⟨(hby c hc).1, by have := (hby c hc).2; omega⟩
      k_extra "M use"
      intro r5 n5 h5 tk5 F5 N5 P5
      obtain ⟨tlB, rfl, hdB, hdisB⟩ := P5
      cases hdB with
      | @list lb vsB nB _ hlB hdB =>
      obtain ⟨r0, er0⟩ := way_tail (n := (((b0 :: br).length : Nat) : Int)) rfl (fun b hb => (hbs.2.1 b hb).2) ns
      rw [ee, er0] at hdB
      cases hdB with
      | @cons v0 vsB' _ _ hv0 hdB =>
      have hlenB : (v0 :: vsB').length ≤ 10 := by
        have h1 := (DatAll.cons hv0 hdB).length
        rw [← er0] at h1
        have h2 := way_len (partedBy (((b0 :: br).length : Nat) : Int) b0 br) (0 :: ns) 0
        rw [List.length_cons (as := ns)] at h2
        omega
      k_extra "M steps"
      refine Stop.go ?_
      refine' kmk_slice_lit (zs := vsB') ?zF ?zN ?zl ?zp ?zq ?ze ?_ ?zs ?zt ?zz
      case zF => k_asm
      case zN => k_asm
      case zl => exact News.isList (by k_asm) hlB
      case zp => kmk_part
      case zq => kmk_part
      case ze => exact slice_tail _ _
      case zs => with_unfolding_all rfl
      case zt => kmk_pure
      case zz => rw [List.size_toArray]; exact sizeLine_small (Nat.le_trans hlenB (by decide))
      intro D4 h6 F6 N6 l6
      have lm4 : LawMark4 := trivial
      k_extra "M steps"
      refine Stop.go ?_
      refine' kqd_ne (n₁ := tlA ++ XR) (n₂ := tlB ++ XB) (xs := vsA) (ys := vsB') ?na ?nb ?nc ?nd hdA ?ne ?nf ?ng ?nh hdB ?ni ?nj ?nk ?nl ?_
      case na => k_asm
      case nb => exact .tail _ (mem_apr (sB _ hlA))
      case nc => rfl
      case nd => rfl
      case ne => exact fun p hp => .tail _ (mem_apr (sB _ hp))
      case nf => exact mem_hd
      case ng => rfl
      case nh => rfl
      case ni => exact fun p hp => .tail _ hp
      case nj => exact way_ok hbs ns 0
      case nk => exact way_ok hbs ns 0
      case nl => units_room
      have e9 : ∀ inst : Decidable (wayFrom (b0 :: br) 0 ns = wayFrom (b0 :: br) 0 ns), (!@decide _ inst) = false := fun inst => by rw [decide_eq_true rfl]; rfl
      rw [e9]
      k_extra "M steps"
      refine Stop.go ?_
      rw [if_neg (by decide)]
      k_extra "M steps"
      refine turn_next ?_
      refine ⟨_, _, _, M2, rfl, by k_asm, by k_extra "M same", news_sub (by k_asm) fun p hp => .tail _ (mem_apr (sB _ (mem_apr ?_))), fun p hp => .inl (hMW.same hM2 p hp), hM2.mono (by omega)⟩
      rw [eXR]
      exact .tail _ hp
end
end Mine
end
end
set_option maxRecDepth 100000 in
set_option maxHeartbeats 4000000 in
theorem PySem.Challenge.cw_nm0004_01_holds : PySem.Challenge.rw_nm0004_01.Holds := by
  exact Mine.law_holds
