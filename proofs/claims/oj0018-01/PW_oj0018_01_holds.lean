import PyProof.Rows.All
import Wide.All
import OpenK.AllK
import Wide.FinOn
import PySem.Challenge.RW_oj0018_01
open PySem PySem.W PySem.Calls PyProof.Rows
set_option Elab.async false
set_option maxRecDepth 100000
set_option maxHeartbeats 8000000
namespace Mine
open_top hd for PySem.Challenge.rw_oj0018_01
section
open PySem PySem.W PySem.Calls PyProof.Rows

/-- what the callee may lean on, and what it owes -/
abbrev Claim (d : Nat) (w : World) (mean : ExcName → Option Value) (mg mb : Str → Option Value) (f : Addr) (vs : List Value) (news : List (Addr × Obj)) (ret : Value → List (Addr × Obj) → Prop) : Prop :=
  ∀ (dp un : Nat) (gd : Option (List Code)) (cn : Str) (cs : Scope) (a : Addr) (ccd : Value) (cl : List (Str × Addr)) (outer : List Env) (A₀ : Around) (base h₀ : Heap) (L : Addr) (m : Str → Option Value) (s : Shared) (Q E : Value → Shared → Prop),
    Below A₀ base outer h₀ → Fr h₀ L s.heap m → (hd.heap_39 w.params).In h₀ → News h₀ L s.heap news → Top hd.view_39 (looseW hd.view_39 []) mean mg mb h₀ → cs.kind = .function → dp + d < recursionLimit → un + 8 * d < cLine →
    (∀ (v : Value) (news' : List (Addr × Obj)) (h' : Heap) (tk' : Nat), Fr h₀ L h' m → News h₀ L h' news' → ret v news' → Q v { s with heap := h', toks := tk' }) →
    wpAny (model Challenge.rw_oj0018_01.row.prog w) (ktrTop dp un gd cn cs L a ccd cl outer) (call (.ref f) vs) Q E s

theorem Claim.use {d : Nat} {w : World} {mean : ExcName → Option Value} {mg mb : Str → Option Value} {f : Addr} {vs : List Value} {news : List (Addr × Obj)} {ret : Value → List (Addr × Obj) → Prop}
    {dp un : Nat} {gd : Option (List Code)} {cn : Str} {cs : Scope} {a : Addr} {ccd : Value} {cl : List (Str × Addr)} {outer : List Env} {A₀ : Around} {base h₀ : Heap} {L : Addr} {m : Str → Option Value} {s : Shared} {Q E : Value → Shared → Prop}
    (B : Below A₀ base outer h₀) (F : Fr h₀ L s.heap m) (X : (hd.heap_39 w.params).In h₀) (N : News h₀ L s.heap news) (T : Top hd.view_39 (looseW hd.view_39 []) mean mg mb h₀) (hk : cs.kind = .function)
    (C : Claim d w mean mg mb f vs news ret) (hd : dp + d < recursionLimit) (hu : un + 8 * d < cLine)
    (k : ∀ (v : Value) (news' : List (Addr × Obj)) (h' : Heap) (tk' : Nat), ret v news' → Fr h₀ L h' m → News h₀ L h' news' → Q v { s with heap := h', toks := tk' }) :
    wpAny (model Challenge.rw_oj0018_01.row.prog w) (ktrTop dp un gd cn cs L a ccd cl outer) (call (.ref f) vs) Q E s :=
  C _ _ _ _ _ _ _ _ _ _ _ _ _ _ _ _ _ B F X N T hk hd hu fun v nx h' tk' F' N' r => k v nx h' tk' r F' N'

/-- the same where the ledger comes back as it was -/
theorem Claim.use1 {d : Nat} {w : World} {mean : ExcName → Option Value} {mg mb : Str → Option Value} {f : Addr} {vs : List Value} {news : List (Addr × Obj)} {P : Value → Prop}
    {dp un : Nat} {gd : Option (List Code)} {cn : Str} {cs : Scope} {a : Addr} {ccd : Value} {cl : List (Str × Addr)} {outer : List Env} {A₀ : Around} {base h₀ : Heap} {L : Addr} {m : Str → Option Value} {s : Shared} {Q E : Value → Shared → Prop}
    (B : Below A₀ base outer h₀ := by k_asm) (F : Fr h₀ L s.heap m := by k_asm) (X : (hd.heap_39 w.params).In h₀ := by k_asm) (N : News h₀ L s.heap news := by k_asm) (T : Top hd.view_39 (looseW hd.view_39 []) mean mg mb h₀ := by k_asm) (hk : cs.kind = .function := by first | exact rfl | assumption)
    (C : Claim d w mean mg mb f vs news (fun v nx => nx = news ∧ P v)) (hd : dp + d < recursionLimit := by ktr_room) (hu : un + 8 * d < cLine := by ktr_units)
    (k : ∀ (v : Value) (h' : Heap) (tk' : Nat), P v → Fr h₀ L h' m → News h₀ L h' news → Q v { s with heap := h', toks := tk' }) :
    wpAny (model Challenge.rw_oj0018_01.row.prog w) (ktrTop dp un gd cn cs L a ccd cl outer) (call (.ref f) vs) Q E s :=
  Claim.use B F X N T hk C hd hu fun v nx h' tk' r F' N' => k v h' tk' r.2 F' (r.1 ▸ N')
/-- the same where one new object is told -/
theorem Claim.use2 {d : Nat} {w : World} {mean : ExcName → Option Value} {mg mb : Str → Option Value} {f : Addr} {vs : List Value} {news : List (Addr × Obj)} {P : Obj → Prop}
    {dp un : Nat} {gd : Option (List Code)} {cn : Str} {cs : Scope} {a : Addr} {ccd : Value} {cl : List (Str × Addr)} {outer : List Env} {A₀ : Around} {base h₀ : Heap} {L : Addr} {m : Str → Option Value} {s : Shared} {Q E : Value → Shared → Prop}
    (B : Below A₀ base outer h₀ := by k_asm) (F : Fr h₀ L s.heap m := by k_asm) (X : (hd.heap_39 w.params).In h₀ := by k_asm) (N : News h₀ L s.heap news := by k_asm) (T : Top hd.view_39 (looseW hd.view_39 []) mean mg mb h₀ := by k_asm) (hk : cs.kind = .function := by first | exact rfl | assumption)
    (C : Claim d w mean mg mb f vs news (fun v nx => ∃ q o, v = .ref q ∧ nx = (q, o) :: news ∧ (∀ p ∈ news, p.1 < q) ∧ P o)) (hd : dp + d < recursionLimit := by ktr_room) (hu : un + 8 * d < cLine := by ktr_units)
    (k : ∀ (q : Addr) (o : Obj) (h' : Heap) (tk' : Nat), (∀ p ∈ news, p.1 < q) → P o → Fr h₀ L h' m → News h₀ L h' ((q, o) :: news) → Q (.ref q) { s with heap := h', toks := tk' }) :
    wpAny (model Challenge.rw_oj0018_01.row.prog w) (ktrTop dp un gd cn cs L a ccd cl outer) (call (.ref f) vs) Q E s :=
  Claim.use B F X N T hk C hd hu fun v nx h' tk' r F' N' => by
    obtain ⟨q, o, rfl, rfl, hl, p⟩ := r
    exact k q o h' tk' hl p F' N'

/-- the same where one object of the ledger turns -/
theorem Claim.use3 {d : Nat} {w : World} {mean : ExcName → Option Value} {mg mb : Str → Option Value} {f : Addr} {vs : List Value} {news : List (Addr × Obj)} {x : Addr} {o : Obj} {g : Obj → List (Addr × Obj)} {P : Value → Obj → Prop}
    {dp un : Nat} {gd : Option (List Code)} {cn : Str} {cs : Scope} {a : Addr} {ccd : Value} {cl : List (Str × Addr)} {outer : List Env} {A₀ : Around} {base h₀ : Heap} {L : Addr} {m : Str → Option Value} {s : Shared} {Q E : Value → Shared → Prop}
    (B : Below A₀ base outer h₀ := by k_asm) (F : Fr h₀ L s.heap m := by k_asm) (X : (hd.heap_39 w.params).In h₀ := by k_asm) (N : News h₀ L s.heap news := by k_asm) (T : Top hd.view_39 (looseW hd.view_39 []) mean mg mb h₀ := by k_asm) (hk : cs.kind = .function := by first | exact rfl | assumption)
    (U : UpdF x o news g := by k_updF) (C : ∀ rest, (∀ p ∈ rest, p.1 ≠ x) → Claim d w mean mg mb f vs ((x, o) :: rest) (fun v nx => ∃ o', nx = (x, o') :: rest ∧ P v o')) (hd : dp + d < recursionLimit := by ktr_room) (hu : un + 8 * d < cLine := by ktr_units)
    (k : ∀ (v : Value) (o' : Obj) (h' : Heap) (tk' : Nat), P v o' → Fr h₀ L h' m → News h₀ L h' (g o') → Q v { s with heap := h', toks := tk' }) :
    wpAny (model Challenge.rw_oj0018_01.row.prog w) (ktrTop dp un gd cn cs L a ccd cl outer) (call (.ref f) vs) Q E s := by
  obtain ⟨pre, post, rfl, hg, h1, h2⟩ := U.split
  have h3 : ∀ p ∈ pre ++ post, p.1 ≠ x := fun p hp => (List.mem_append.mp hp).elim (h1 p) (h2 p)
  have N' : News h₀ L s.heap ((x, o) :: (pre ++ post)) := fun p hp => N p (by simp only [List.mem_cons, List.mem_append] at hp ⊢; rcases hp with h | h | h <;> simp [h])
  refine Claim.use B F X N' T hk (C _ h3) hd hu fun v nx h' tk' r F' N₂ => ?_
  obtain ⟨o', rfl, p⟩ := r
  exact k v o' h' tk' p F' (hg o' ▸ fun q hq => N₂ q (by simp only [List.mem_cons, List.mem_append] at hq ⊢; rcases hq with h | h | h <;> simp [h]))

theorem newsMid {h₀ h : Heap} {L : Addr} {x y z : Addr × Obj} {news : List (Addr × Obj)} (N : News h₀ L h (x :: y :: z :: news)) : News h₀ L h (x :: news) := fun p hp => N p (by
  rcases List.mem_cons.mp hp with rfl | hp
  · exact .head _
  · exact .tail _ (.tail _ (.tail _ hp)))
theorem newsLess {h₀ h : Heap} {L : Addr} {x : Addr × Obj} {news : List (Addr × Obj)} (N : News h₀ L h (x :: news)) : News h₀ L h news := fun p hp => N p (.tail _ hp)

/-- the code at a place of a text, -1 outside it -/
def codeAt (codes : List Int) (first p : Int) : Int := if first ≤ p ∧ p < first + codes.length then codes.getD (p - first).toNat 0 else -1

structure ViewIn (news : List (Addr × Obj)) (x : Addr) (codes : List Int) (first : Int) : Prop where
  all : ∃ (dx c : Addr) (h1 h2 : Int) (t1 t2 t3 : Tok) (vs : List Value) (n : Nat),
    (x, instObj 123 dx) ∈ news ∧ (dx, dictOf [⟨h1, .str (Str.ofString "codes") t1, .ref c⟩, ⟨h2, .str (Str.ofString "place") t2, .int first t3⟩] 2) ∈ news ∧ (c, listOf vs.toArray n) ∈ news ∧ IntsAre vs codes
  len : codes.length ≤ 12
  lo : 1 ≤ first
  hi : first ≤ 5
/-- the same out of the ledger, found by the walk -/
theorem ViewIn.mk' {news : List (Addr × Obj)} {x : Addr} {codes : List Int} {first : Int} {dx c : Addr} {h1 h2 : Int} {t1 t2 t3 : Tok} {vs : List Value} {n : Nat}
    (hx : (x, instObj 123 dx) ∈ news := by k_mem) (hdx : (dx, dictOf [⟨h1, .str (Str.ofString "codes") t1, .ref c⟩, ⟨h2, .str (Str.ofString "place") t2, .int first t3⟩] 2) ∈ news := by k_mem)
    (hc : (c, listOf vs.toArray n) ∈ news := by k_mem) (hi : IntsAre vs codes := by assumption) (b1 : codes.length ≤ 12 := by first | omega | decide) (b2 : 1 ≤ first := by omega) (b3 : first ≤ 5 := by omega) : ViewIn news x codes first :=
  ⟨⟨dx, c, h1, h2, t1, t2, t3, vs, n, hx, hdx, hc, hi⟩, b1, b2, b3⟩

/-- the end of a turn: the frame is again of the state's shape, the ledger as it was, the measure less -/
def TurnEnd {σ : Type} (h₀ : Heap) (L : Addr) (s : Shared) (news : List (Addr × Obj)) (mf : σ → Str → Option Value) (P : σ → Prop) (μ : σ → Nat) (c : σ) (s₃ : Shared) : Prop :=
  ∃ (c' : σ) (h' : Heap) (tk : Nat), s₃ = { s with heap := h', toks := tk } ∧ Fr h₀ L h' (mf c') ∧ News h₀ L h' news ∧ P c' ∧ μ c' < μ c
def TurnPost {σ : Type} (h₀ : Heap) (L : Addr) (s : Shared) (news : List (Addr × Obj)) (mf : σ → Str → Option Value) (P : σ → Prop) (μ : σ → Nat) (Q : Flow → Shared → Prop) (c : σ) (f : Flow) (s₃ : Shared) : Prop :=
  match f with
  | .ret v => Q (.ret v) s₃
  | .brk => Q .next s₃
  | _ => TurnEnd h₀ L s news mf P μ c s₃
theorem Fr.like {h₀ h : Heap} {L : Addr} {m m' : Str → Option Value} (F : Fr h₀ L h m) (e : ∀ y, m y = m' y) : Fr h₀ L h m' := by
  have : m = m' := funext e
  exact this ▸ F
theorem TurnEnd.mk' {σ : Type} {h₀ : Heap} {L : Addr} {s : Shared} {news news' : List (Addr × Obj)} {mf : σ → Str → Option Value} {P : σ → Prop} {μ : σ → Nat} {c : σ} {m : Str → Option Value} {h' : Heap} {tk : Nat} (c' : σ)
    (F : Fr h₀ L h' m) (N : News h₀ L h' news') (e : ∀ y, m y = mf c' y) (hn : ∀ p ∈ news, p ∈ news') (hp : P c') (hm : μ c' < μ c) : TurnEnd h₀ L s news mf P μ c { s with heap := h', toks := tk } :=
  ⟨c', h', tk, rfl, Fr.like F e, fun p hq => N p (hn p hq), hp, hm⟩
/-- the same where the ledger turns with the state -/
def LedEnd {σ : Type} (h₀ : Heap) (L : Addr) (s : Shared) (led : σ → List (Addr × Obj)) (mf : σ → Str → Option Value) (P : σ → Prop) (μ : σ → Nat) (c : σ) (s₃ : Shared) : Prop :=
  ∃ (c' : σ) (h' : Heap) (tk : Nat), s₃ = { s with heap := h', toks := tk } ∧ Fr h₀ L h' (mf c') ∧ News h₀ L h' (led c') ∧ P c' ∧ μ c' < μ c
def LedPost {σ : Type} (h₀ : Heap) (L : Addr) (s : Shared) (led : σ → List (Addr × Obj)) (mf : σ → Str → Option Value) (P : σ → Prop) (μ : σ → Nat) (Q : Flow → Shared → Prop) (c : σ) (f : Flow) (s₃ : Shared) : Prop :=
  match f with
  | .ret v => Q (.ret v) s₃
  | .brk => Q .next s₃
  | _ => LedEnd h₀ L s led mf P μ c s₃
theorem LedEnd.mk' {σ : Type} {h₀ : Heap} {L : Addr} {s : Shared} {led : σ → List (Addr × Obj)} {news' : List (Addr × Obj)} {mf : σ → Str → Option Value} {P : σ → Prop} {μ : σ → Nat} {c : σ} {m : Str → Option Value} {h' : Heap} {tk : Nat} (c' : σ)
    (F : Fr h₀ L h' m) (N : News h₀ L h' news') (e : ∀ y, m y = mf c' y) (hn : ∀ p ∈ led c', p ∈ news') (hp : P c') (hm : μ c' < μ c) : LedEnd h₀ L s led mf P μ c { s with heap := h', toks := tk } :=
  ⟨c', h', tk, rfl, Fr.like F e, fun p hq => N p (hn p hq), hp, hm⟩
section
variable {prog : Program} {w : World} {A : Around} {Q : Flow → Shared → Prop} {s : Shared} {env : Env} {h₀ : Heap} {L : Addr}
theorem while_sl {σ : Type} {test : PySem.Expr} {body : List Stmt} {pos : Pos} {m₀ : Str → Option Value} {news : List (Addr × Obj)} {E : Value → Shared → Prop} (mf : (Str → Option Value) → σ → Str → Option Value) (led : σ → List (Addr × Obj)) (P : σ → Prop) (μ : σ → Nat) (c₀ : σ)
    (F : Fr h₀ L s.heap m₀) (N : News h₀ L s.heap news) (h0 : ∀ y, m₀ y = mf m₀ c₀ y) (hn : ∀ p ∈ led c₀, p ∈ news) (hp : P c₀)
    (turn : ∀ (c : σ) h tk, P c → Fr h₀ L h (mf m₀ c) → News h₀ L h (led c) →
      wpAny (model prog w) A (isTrue test env (eval test env)) (fun b s₂ =>
        if b = true then wpAny (model prog w) A (execs body env) (LedPost h₀ L s led (mf m₀) P μ Q c) E s₂ else Q .next s₂) E { s with heap := h, toks := tk })
    (hE : PassesOwn (model prog w) A env E) :
    wpAny (model prog w) A (exec (.While test body [] pos) env) Q E s := by
  refine While_inv2 (fun n m nx => ∃ c : σ, nx = led c ∧ μ c = n ∧ m = mf m₀ c ∧ P c) F (fun p hq => N p (hn p hq)) ⟨c₀, rfl, rfl, funext h0, hp⟩ ?_ hE
  rintro n m₁ nx h tk F₁ N₁ ⟨c, rfl, hsz, rfl, hp'⟩
  rw [← hsz]
  refine wpAny_mono (turn c h tk hp' F₁ N₁) (fun b s₂ p => ?_) fun _ _ x => x
  cases b with
  | false => simpa using p
  | true =>
    simp only [if_true] at p ⊢
    refine wpAny_mono p (fun f s₃ q => ?_) fun _ _ x => x
    have up : LedEnd h₀ L s led (mf m₀) P μ c s₃ → WhileStep2 h₀ L s (fun n m nx' => ∃ c : σ, nx' = led c ∧ μ c = n ∧ m = mf m₀ c ∧ P c) Q (μ c) .next s₃ := by
      rintro ⟨c', h', tk', rfl, F', N', hp9, hm9⟩
      exact ⟨h', tk', _, led c', μ c', rfl, F', N', hm9, c', rfl, rfl, rfl, hp9⟩
    cases f with
    | ret v => exact q
    | brk => exact q
    | next => exact up q
    | cont => exact up q
theorem while_st {σ : Type} {test : PySem.Expr} {body : List Stmt} {pos : Pos} {m₀ : Str → Option Value} {news : List (Addr × Obj)} {E : Value → Shared → Prop} (mf : (Str → Option Value) → σ → Str → Option Value) (P : σ → Prop) (μ : σ → Nat) (c₀ : σ)
    (F : Fr h₀ L s.heap m₀) (N : News h₀ L s.heap news) (h0 : ∀ y, m₀ y = mf m₀ c₀ y) (hp : P c₀)
    (turn : ∀ (c : σ) h tk, P c → Fr h₀ L h (mf m₀ c) → News h₀ L h news →
      wpAny (model prog w) A (isTrue test env (eval test env)) (fun b s₂ =>
        if b = true then wpAny (model prog w) A (execs body env) (TurnPost h₀ L s news (mf m₀) P μ Q c) E s₂ else Q .next s₂) E { s with heap := h, toks := tk })
    (hE : PassesOwn (model prog w) A env E) :
    wpAny (model prog w) A (exec (.While test body [] pos) env) Q E s := by
  refine While_inv2 (fun n m nx => ∃ c : σ, nx = news ∧ μ c = n ∧ m = mf m₀ c ∧ P c) F N ⟨c₀, rfl, rfl, funext h0, hp⟩ ?_ hE
  rintro n m₁ nx h tk F₁ N₁ ⟨c, rfl, hsz, rfl, hp'⟩
  rw [← hsz]
  refine wpAny_mono (turn c h tk hp' F₁ N₁) (fun b s₂ p => ?_) fun _ _ x => x
  cases b with
  | false => simpa using p
  | true =>
    simp only [if_true] at p ⊢
    refine wpAny_mono p (fun f s₃ q => ?_) fun _ _ x => x
    have up : TurnEnd h₀ L s nx (mf m₀) P μ c s₃ → WhileStep2 h₀ L s (fun n m nx' => ∃ c : σ, nx' = nx ∧ μ c = n ∧ m = mf m₀ c ∧ P c) Q (μ c) .next s₃ := by
      rintro ⟨c', h', tk', rfl, F', N', hp9, hm9⟩
      exact ⟨h', tk', _, nx, μ c', rfl, F', N', hm9, c', rfl, rfl, rfl, hp9⟩
    cases f with
    | ret v => exact q
    | brk => exact q
    | next => exact up q
    | cont => exact up q
end
end
section
/-- the beginnings of lines behind place p, the text from p on being cs -/
def st : List Int → Int → List Int
  | [], _ => []
  | c :: cs, p => if c = 10 then (p + 1) :: st cs (p + 1) else st cs (p + 1)
def stAt (codes : List Int) (first p : Int) : List Int := st (codes.drop (p - first).toNat) p

theorem st_append (a b : List Int) : ∀ p, st (a ++ b) p = st a p ++ st b (p + a.length) := by
  induction a with
  | nil => intro p; simp [st]
  | cons c cs ih =>
    intro p
    have e : p + ((c :: cs).length : Int) = p + 1 + cs.length := by simp only [List.length_cons]; omega
    rw [e]
    simp only [List.cons_append, st, ih]
    split <;> rfl

theorem stAt_step {codes : List Int} {first p : Int} (h1 : first ≤ p) (h2 : p < first + codes.length) :
    stAt codes first p = if codeAt codes first p = 10 then (p + 1) :: stAt codes first (p + 1) else stAt codes first (p + 1) := by
  have hi : (p - first).toNat < codes.length := by omega
  have e : codes.drop (p - first).toNat = codeAt codes first p :: codes.drop (p + 1 - first).toNat := by
    have hs : (p + 1 - first).toNat = (p - first).toNat + 1 := by omega
    rw [hs, List.drop_eq_getElem_cons hi, codeAt, if_pos ⟨h1, h2⟩, List.getD_eq_getElem?_getD, List.getElem?_eq_getElem hi]
    rfl
  unfold stAt
  rw [e]
  rfl
theorem stAt_end {codes : List Int} {first p : Int} (h : first + codes.length ≤ p) : stAt codes first p = [] := by
  unfold stAt
  rw [List.drop_eq_nil_of_le (by omega)]
  rfl
theorem stAt_skip {codes : List Int} {first p r : Int} (h1 : first ≤ p) (h2 : p ≤ r) (h3 : r ≤ first + codes.length) (h : ∀ q, p ≤ q → q < r → codeAt codes first q ≠ 10) :
    stAt codes first p = stAt codes first r := by
  obtain ⟨n, hn⟩ : ∃ n : Nat, n = (r - p).toNat := ⟨_, rfl⟩
  induction n generalizing p with
  | zero =>
    have : p = r := by omega
    rw [this]
  | succ n ih =>
    rw [stAt_step h1 (by omega), if_neg (h p (Int.le_refl _) (by omega))]
    exact ih (by omega) (by omega) (fun q a b => h q (by omega) b) (by omega)

/-- what next_start tells -/
def NextIs (codes : List Int) (first p r : Int) : Prop :=
  (stAt codes first p = [] ∧ r = -1) ∨ (stAt codes first p = r :: stAt codes first r ∧ p < r ∧ r ≤ first + codes.length)
theorem next_end {codes : List Int} {first p r : Int} (h1 : first ≤ p) (h2 : p ≤ r) (h3 : r ≤ first + codes.length) (h : ∀ q, p ≤ q → q < r → codeAt codes first q ≠ 10) (h4 : ¬ r < first + codes.length) :
    NextIs codes first p (-1) := .inl ⟨by rw [stAt_skip h1 h2 h3 h, stAt_end (by omega)], rfl⟩
theorem next_some {codes : List Int} {first p r : Int} (h1 : first ≤ p) (h2 : p ≤ r) (h3 : r ≤ first + codes.length) (h : ∀ q, p ≤ q → q < r → codeAt codes first q ≠ 10) (h4 : r < first + codes.length)
    (h5 : r = first + codes.length ∨ codeAt codes first r = 10) : NextIs codes first p (r + 1) :=
  .inr ⟨by rw [stAt_skip h1 h2 h3 h, stAt_step (by omega) h4, if_pos (h5.resolve_left (by omega))], by omega, by omega⟩

/-- where the loop of lines_target stands: R is where it will end -/
structure Going (codes : List Int) (first R a k : Int) : Prop where
  k0 : 0 ≤ k
  lo : first ≤ a
  hi : a ≤ first + codes.length
  fin : k = 0 → a = R
  more : 0 < k → (stAt codes first a).getD (k - 1).toNat (first + codes.length) = R
theorem Going.start {codes : List Int} {first a k : Int} (hk : 0 < k) (lo : first ≤ a) (hi : a ≤ first + codes.length) : Going codes first ((stAt codes first a).getD (k - 1).toNat (first + codes.length)) a k :=
  ⟨by omega, lo, hi, fun h => by omega, fun _ => rfl⟩
theorem Going.step {codes : List Int} {first R a k r : Int} (h1 : 1 ≤ first) (g : Going codes first R a k) (hk : 0 < k) (n : NextIs codes first a r) (hr : ¬ r < 0) : Going codes first R r (k - 1) := by
  rcases n with ⟨_, rfl⟩ | ⟨e, h2, h3⟩
  · exact absurd (by decide) hr
  · have := g.more hk
    rw [e] at this
    refine ⟨by omega, by have := g.lo; omega, h3, fun h => ?_, fun h => ?_⟩
    · rw [h] at this
      simpa using this
    · rw [← this]
      have : (k - 1).toNat = (k - 1 - 1).toNat + 1 := by omega
      rw [this]
      rfl
theorem Going.stop {codes : List Int} {first R a k r : Int} (h1 : 1 ≤ first) (g : Going codes first R a k) (hk : 0 < k) (n : NextIs codes first a r) (hr : r < 0) : R = first + codes.length := by
  rcases n with ⟨e, _⟩ | ⟨_, h2, _⟩
  · have := g.more hk
    rw [e] at this
    simpa using this.symm
  · have := g.lo; omega
theorem minmax_eq (a b p : Int) : (if (if p < b then p else b) > a then (if p < b then p else b) else a) = max a (min b p) := by
  repeat' split
  all_goals omega
theorem first_only {k : Int} (h : (if k - 1 > 0 then k - 1 else 0) = 0) : k ≤ 1 := by
  split at h <;> omega
theorem line_number_end {codes : List Int} {first k r : Int}
    (h : ((if k - 1 > 0 then k - 1 else 0) = 0 ∧ first ≤ r ∧ r ≤ first ∧ (r = first ∨ codeAt codes first (r - 1) = 10) ∧ ∀ q, r ≤ q → q < first → codeAt codes first q ≠ 10) ∨
      (0 < (if k - 1 > 0 then k - 1 else 0) ∧ r = (stAt codes first first).getD ((if k - 1 > 0 then k - 1 else 0) - 1).toNat (first + codes.length))) :
    (k ≤ 1 ∧ r = first) ∨ (1 < k ∧ r = (stAt codes first first).getD (k - 2).toNat (first + codes.length)) := by
  rcases h with ⟨a, b, c, _⟩ | ⟨a, b⟩
  · exact .inl ⟨first_only a, by omega⟩
  · have hk : k - 1 > 0 := by
      split at a <;> omega
    rw [if_pos hk] at b
    exact .inr ⟨by omega, by rw [b]; congr 2; omega⟩
theorem step_end {codes : List Int} {first a r : Int}
    (h : ((1 : Int) = 0 ∧ first ≤ r ∧ r ≤ a ∧ (r = first ∨ codeAt codes first (r - 1) = 10) ∧ ∀ q, r ≤ q → q < a → codeAt codes first q ≠ 10) ∨
      ((0 : Int) < 1 ∧ r = (stAt codes first a).getD ((1 : Int) - 1).toNat (first + codes.length))) :
    r = (stAt codes first a).getD 0 (first + codes.length) := by
  rcases h with ⟨a, _⟩ | ⟨_, b⟩
  · exact absurd a (by decide)
  · exact b
end
local macro_rules | `(tactic| news_mem) => `(tactic| k_dflt k_mem)
theorem begin_ok {w : World} {mean mg mb} {x : Addr} {codes : List Int} {first : Int} {news : List (Addr × Obj)} (hv : ViewIn news x codes first) : Claim 2 w mean mg mb 106 [.ref x] news (fun v nx => nx = news ∧ ∃ t', v = .int first t') := by
  obtain ⟨⟨dx, c, hh1, hh2, t1, t2, t3, vs, n, hx, hdx, hc, hi⟩, hl, hlo, hhi⟩ := id hv
  unfold Claim
  k_fill
  intro dp un gd cn cs a ccd cl outer A₀ base h₀ L m s Q E B F X N T hk hdp hu hret
  refine wpAny_noRaise ?_
  refine wpAny_call ?_
  k_dflt cell_enter
  k_steps
  exact hret _ _ _ _ (by k_asm) (by k_asm) ⟨rfl, _, rfl⟩
theorem end_ok {w : World} {mean mg mb} {x : Addr} {codes : List Int} {first : Int} {news : List (Addr × Obj)} (hv : ViewIn news x codes first) : Claim 2 w mean mg mb 113 [.ref x] news (fun v nx => nx = news ∧ ∃ t', v = .int (first + codes.length) t') := by
  obtain ⟨⟨dx, c, hh1, hh2, t1, t2, t3, vs, n, hx, hdx, hc, hi⟩, hl, hlo, hhi⟩ := id hv
  unfold Claim
  k_fill
  intro dp un gd cn cs a ccd cl outer A₀ base h₀ L m s Q E B F X N T hk hdp hu hret
  refine wpAny_noRaise ?_
  refine wpAny_call ?_
  k_dflt cell_enter
  k_steps
  exact hret _ _ _ _ (by k_asm) (by k_asm) ⟨rfl, _, rfl⟩
theorem code_at_ok {p : Int} {t : Tok} {w : World} {mean mg mb} {x : Addr} {codes : List Int} {first : Int} {news : List (Addr × Obj)} (hv : ViewIn news x codes first) : Claim 2 w mean mg mb 120 [.ref x, .int p t] news (fun v nx => nx = news ∧ ∃ t', v = .int (codeAt codes first p) t') := by
  obtain ⟨⟨dx, c, hh1, hh2, t1, t2, t3, vs, n, hx, hdx, hc, hi⟩, hl, hlo, hhi⟩ := id hv
  unfold Claim
  k_fill
  intro dp un gd cn cs a ccd cl outer A₀ base h₀ L m s Q E B F X N T hk hdp hu hret
  refine wpAny_noRaise ?_
  refine wpAny_call ?_
  k_dflt cell_enter
  k_steps
  · exact hret _ _ _ _ (by k_asm) (by k_asm) ⟨rfl, _, by rw [codeAt, if_pos ⟨by assumption, by assumption⟩]⟩
  · exact hret _ _ _ _ (by k_asm) (by k_asm) ⟨rfl, _, by rw [codeAt, if_neg (fun h => by omega)]⟩
  · exact hret _ _ _ _ (by k_asm) (by k_asm) ⟨rfl, _, by rw [codeAt, if_neg (fun h => by omega)]⟩
local macro_rules | `(tactic| walk_at "call ref") => `(tactic| (k_here; (try dsimp only); (with_reducible show wpAny _ _ (call (Value.ref 106) _) _ _ _); k_dflt (refine' Claim.use1 (C := begin_ok (by assumption)) (k := ?_); k_whole; rintro v9 h9 tk9 ⟨t9, f9⟩; subst f9; intro F9 N9; (try k_sweep); all_goals ((try dsimp only); (try k_fold)))))
local macro_rules | `(tactic| walk_at "call ref") => `(tactic| (k_here; (try dsimp only); (with_reducible show wpAny _ _ (call (Value.ref 113) _) _ _ _); k_dflt (refine' Claim.use1 (C := end_ok (by assumption)) (k := ?_); k_whole; rintro v9 h9 tk9 ⟨t9, f9⟩; subst f9; intro F9 N9; (try k_sweep); all_goals ((try dsimp only); (try k_fold)))))
local macro_rules | `(tactic| walk_at "call ref") => `(tactic| (k_here; (try dsimp only); (with_reducible show wpAny _ _ (call (Value.ref 120) _) _ _ _); k_dflt (refine' Claim.use1 (C := code_at_ok (by assumption)) (k := ?_); k_whole; rintro v9 h9 tk9 ⟨t9, f9⟩; subst f9; intro F9 N9; (try k_sweep); all_goals ((try dsimp only); (try k_fold)))))
local macro_rules | `(tactic| walk_at "exec While BoolOp cons nil") => `(tactic| k_dflt (k_extra "my while"))
local macro_rules | `(tactic| walk_at "exec While Compare cons nil") => `(tactic| k_dflt (k_extra "my while2"))
local macro_rules | `(tactic| walk_at "TurnPost") => `(tactic| (dsimp only [TurnPost]))
theorem line_start_ok {p : Int} {t : Tok} {w : World} {mean mg mb} {x : Addr} {codes : List Int} {first : Int} {news : List (Addr × Obj)} (hv : ViewIn news x codes first) (h1 : first ≤ p) (h2 : p ≤ first + codes.length) : Claim 4 w mean mg mb 21 [.ref x, .int p t] news (fun v nx => nx = news ∧ ∃ r t', v = .int r t' ∧ first ≤ r ∧ r ≤ p ∧ (r = first ∨ codeAt codes first (r - 1) = 10) ∧ ∀ q, r ≤ q → q < p → codeAt codes first q ≠ 10) := by
  obtain ⟨⟨dx, c, hh1, hh2, t1, t2, t3, vs, n, hx, hdx, hc, hi⟩, hl, hlo, hhi⟩ := id hv
  unfold Claim
  k_fill
  intro dp un gd cn cs a ccd cl outer A₀ base h₀ L m s Q E B F X N T hk hdp hu hret
  refine wpAny_noRaise ?_
  refine wpAny_call ?_
  k_dflt cell_enter
  k_with "my while" => ((rename Fr _ _ _ _ => lF'); (rename News _ _ _ _ => lN'); (refine wpAny_noRaise ?_); (refine while_st (fun m₀ (c : Int × Tok) y => if y = Str.ofString "at" then some (.int c.1 c.2) else m₀ y) (fun c => first ≤ c.1 ∧ c.1 ≤ p ∧ ∀ q, c.1 ≤ q → q < p → codeAt codes first q ≠ 10) (fun c => (c.1 - first).toNat) (p, t) lF' lN' ?_ ⟨h1, Int.le_refl _, fun q a b => by omega⟩ ?_ PassesOwn.never); (case refine_1 => (intro y; dsimp only; (repeat' split) <;> simp_all)); (clear lF' lN'; rintro ⟨a9, t9⟩ h9 tk9 P9 F9 N9; (try dsimp only at P9 F9); (try dsimp only); (try k_fold)))
  k_steps
  · (refine TurnEnd.mk' (a9 - 1, ?tt) (by k_asm) (by k_asm) ?te (fun _ h => h) ?tp ?tm; (case te => (intro y9; (try dsimp only); by_cases e90 : y9 = Str.ofString "at"; (subst e90; exact rfl); simp only [if_neg e90])); (case tp => (dsimp only; exact ⟨by omega, by omega, fun q h3 h4 => if h5 : q = a9 - 1 then h5 ▸ by assumption else P9.2.2 q (by omega) h4⟩)); (case tm => (dsimp only; omega)))
  · exact hret _ _ _ _ (by k_asm) (by k_asm) ⟨rfl, _, _, rfl, P9.1, P9.2.1, .inr (by assumption), P9.2.2⟩
  · exact hret _ _ _ _ (by k_asm) (by k_asm) ⟨rfl, _, _, rfl, P9.1, P9.2.1, .inl (by omega), P9.2.2⟩
theorem line_end_ok {p : Int} {t : Tok} {w : World} {mean mg mb} {x : Addr} {codes : List Int} {first : Int} {news : List (Addr × Obj)} (hv : ViewIn news x codes first) (h1 : first ≤ p) (h2 : p ≤ first + codes.length) : Claim 4 w mean mg mb 28 [.ref x, .int p t] news (fun v nx => nx = news ∧ ∃ r t', v = .int r t' ∧ p ≤ r ∧ r ≤ first + codes.length ∧ (r = first + codes.length ∨ codeAt codes first r = 10) ∧ ∀ q, p ≤ q → q < r → codeAt codes first q ≠ 10) := by
  obtain ⟨⟨dx, c, hh1, hh2, t1, t2, t3, vs, n, hx, hdx, hc, hi⟩, hl, hlo, hhi⟩ := id hv
  unfold Claim
  k_fill
  intro dp un gd cn cs a ccd cl outer A₀ base h₀ L m s Q E B F X N T hk hdp hu hret
  refine wpAny_noRaise ?_
  refine wpAny_call ?_
  k_dflt cell_enter
  k_with "my while" => ((rename Fr _ _ _ _ => lF'); (rename News _ _ _ _ => lN'); (refine wpAny_noRaise ?_); (refine while_st (fun m₀ (c : Int × Tok) y => if y = Str.ofString "at" then some (.int c.1 c.2) else m₀ y) (fun c => p ≤ c.1 ∧ c.1 ≤ first + codes.length ∧ ∀ q, p ≤ q → q < c.1 → codeAt codes first q ≠ 10) (fun c => (first + codes.length - c.1).toNat) (p, t) lF' lN' ?_ ⟨Int.le_refl _, h2, fun q a b => by omega⟩ ?_ PassesOwn.never); (case refine_1 => (intro y; dsimp only; (repeat' split) <;> simp_all)); (clear lF' lN'; rintro ⟨a9, t9⟩ h9 tk9 P9 F9 N9; (try dsimp only at P9 F9); (try dsimp only); (try k_fold)))
  k_steps
  · (refine TurnEnd.mk' (a9 + 1, ?tt) (by k_asm) (by k_asm) ?te (fun _ h => h) ?tp ?tm; (case te => (intro y9; (try dsimp only); by_cases e90 : y9 = Str.ofString "at"; (subst e90; exact rfl); simp only [if_neg e90])); (case tp => (dsimp only; exact ⟨by omega, by omega, fun q h3 h4 => if h5 : q = a9 then h5 ▸ by assumption else P9.2.2 q h3 (by omega)⟩)); (case tm => (dsimp only; omega)))
  · exact hret _ _ _ _ (by k_asm) (by k_asm) ⟨rfl, _, _, rfl, P9.1, P9.2.1, .inr (by assumption), P9.2.2⟩
  · exact hret _ _ _ _ (by k_asm) (by k_asm) ⟨rfl, _, _, rfl, P9.1, P9.2.1, .inl (by omega), P9.2.2⟩
local macro_rules | `(tactic| walk_at "call ref") => `(tactic| (k_here; (try dsimp only); (with_reducible show wpAny _ _ (call (Value.ref 21) _) _ _ _); k_dflt (refine' Claim.use1 (C := line_start_ok (by assumption) (by first | assumption | omega) (by first | assumption | omega)) (k := ?_); k_whole; rintro v9 h9 tk9 ⟨r9, t9, f9, p1, p2, p3, p4⟩; subst f9; intro F9 N9; (try k_sweep); all_goals ((try dsimp only); (try k_fold)))))
local macro_rules | `(tactic| walk_at "call ref") => `(tactic| (k_here; (try dsimp only); (with_reducible show wpAny _ _ (call (Value.ref 28) _) _ _ _); k_dflt (refine' Claim.use1 (C := line_end_ok (by assumption) (by first | assumption | omega) (by first | assumption | omega)) (k := ?_); k_whole; rintro v9 h9 tk9 ⟨r9, t9, f9, p1, p2, p3, p4⟩; subst f9; intro F9 N9; (try k_sweep); all_goals ((try dsimp only); (try k_fold)))))
theorem next_start_ok {p : Int} {t : Tok} {w : World} {mean mg mb} {x : Addr} {codes : List Int} {first : Int} {news : List (Addr × Obj)} (hv : ViewIn news x codes first) (h1 : first ≤ p) (h2 : p ≤ first + codes.length) : Claim 6 w mean mg mb 35 [.ref x, .int p t] news (fun v nx => nx = news ∧ ∃ r t', v = .int r t' ∧ NextIs codes first p r) := by
  obtain ⟨⟨dx, c, hh1, hh2, t1, t2, t3, vs, n, hx, hdx, hc, hi⟩, hl, hlo, hhi⟩ := id hv
  unfold Claim
  k_fill
  intro dp un gd cn cs a ccd cl outer A₀ base h₀ L m s Q E B F X N T hk hdp hu hret
  refine wpAny_noRaise ?_
  refine wpAny_call ?_
  k_dflt cell_enter
  k_steps
  · exact hret _ _ _ _ (by k_asm) (by k_asm) ⟨rfl, _, _, rfl, next_some h1 (by assumption) (by assumption) (by assumption) (by assumption) (by assumption)⟩
  · exact hret _ _ _ _ (by k_asm) (by k_asm) ⟨rfl, _, _, rfl, next_end h1 (by assumption) (by assumption) (by assumption) (by assumption)⟩
local macro_rules | `(tactic| walk_at "call ref") => `(tactic| (k_here; (try dsimp only); (with_reducible show wpAny _ _ (call (Value.ref 35) _) _ _ _); k_dflt (refine' Claim.use1 (C := next_start_ok (by assumption) (by first | assumption | omega) (by first | assumption | omega)) (k := ?_); k_whole; rintro v9 h9 tk9 ⟨r9, t9, f9, p1⟩; subst f9; intro F9 N9; (try k_sweep); all_goals ((try dsimp only); (try k_fold)))))
theorem lines_target_ok {p k : Int} {t u : Tok} {w : World} {mean mg mb} {x : Addr} {codes : List Int} {first : Int} {news : List (Addr × Obj)} (hv : ViewIn news x codes first) (h1 : first ≤ p) (h2 : p ≤ first + codes.length) (hk0 : 0 ≤ k) (hk1 : k ≤ 100) : Claim 9 w mean mg mb 42 [.ref x, .int p t, .int k u] news (fun v nx => ∃ q o, v = .ref q ∧ nx = (q, o) :: news ∧ (∀ p ∈ news, p.1 < q) ∧ ∃ r j t' u', o = ⟨.type "tuple", none, .seq #[.int r t', .int j u'] 0, #[]⟩ ∧
    ((k = 0 ∧ first ≤ r ∧ r ≤ p ∧ (r = first ∨ codeAt codes first (r - 1) = 10) ∧ ∀ q, r ≤ q → q < p → codeAt codes first q ≠ 10) ∨ (0 < k ∧ r = (stAt codes first p).getD (k - 1).toNat (first + codes.length)))) := by
  obtain ⟨⟨dx, c, hh1, hh2, t1, t2, t3, vs, n, hx, hdx, hc, hi⟩, hl, hlo, hhi⟩ := id hv
  unfold Claim
  k_fill
  intro dp un gd cn cs a ccd cl outer A₀ base h₀ L m s Q E B F X N T hk hdp hu hret
  refine wpAny_noRaise ?_
  refine wpAny_call ?_
  k_dflt cell_enter
  k_with "my while" => ((rename Fr _ _ _ _ => lF'); (rename News _ _ _ _ => lN'); (refine wpAny_noRaise ?_); (refine while_st (fun m₀ (c : Unit) y => m₀ y) (fun c => True) (fun c => 0) () lF' lN' ?_ trivial ?_ PassesOwn.never); (case refine_1 => (intro y9; exact rfl)); (clear lF' lN'; rintro _ h9 tk9 P9 F9 N9; (try dsimp only at P9 F9); (try dsimp only); (try k_fold)))
  k_with "my while2" => ((rename Fr _ _ _ _ => lF'); (rename News _ _ _ _ => lN'); (refine wpAny_noRaise ?_); (refine while_st (fun m₀ (c : Int × Tok × Int × Tok × Option Value) y => if y = Str.ofString "at" then some (.int c.1 c.2.1) else if y = Str.ofString "many" then some (.int c.2.2.1 c.2.2.2.1) else if y = Str.ofString "following" then c.2.2.2.2 else m₀ y) (fun c => Going codes first ((stAt codes first p).getD (k - 1).toNat (first + codes.length)) c.1 c.2.2.1 ∧ c.2.2.1 ≤ 100) (fun c => c.2.2.1.toNat) (p, t, k, u, none) lF' lN' ?_ ⟨Going.start (by omega) h1 h2, hk1⟩ ?_ PassesOwn.never); (case refine_1 => (intro y9; (try dsimp only); by_cases e90 : y9 = Str.ofString "at"; (subst e90; exact rfl); by_cases e91 : y9 = Str.ofString "many"; (subst e91; exact rfl); by_cases e92 : y9 = Str.ofString "following"; (subst e92; exact rfl); simp only [if_neg e90, if_neg e91, if_neg e92])); (clear lF' lN'; rintro ⟨a9, ta9, k9, tk9, fo9⟩ h9 tk9 P9 F9 N9; (try dsimp only at P9 F9); have P10 := P9.1.lo; have P11 := P9.1.hi; (try dsimp only); (try k_fold)))
  k_steps
  · exact hret _ _ _ _ (by k_asm) (by k_asm) ⟨_, _, rfl, rfl, by assumption, _, _, _, _, rfl, .inl ⟨by omega, by assumption, by assumption, by assumption, by assumption⟩⟩
  · exact hret _ _ _ _ (by k_asm) (by k_asm) ⟨_, _, rfl, rfl, by assumption, _, _, _, _, rfl, .inr ⟨by omega, (Going.stop hlo P9.1 (by assumption) (by assumption) (by assumption)).symm⟩⟩
  · (refine TurnEnd.mk' (?ta, ?tt, k9 - 1, ?tu, ?tv) (by k_asm) (by k_asm) ?te (fun _ h => h) ?tp ?tm; (case te => (intro y9; (try dsimp only); by_cases e90 : y9 = Str.ofString "at"; (subst e90; exact rfl); by_cases e91 : y9 = Str.ofString "many"; (subst e91; exact rfl); by_cases e92 : y9 = Str.ofString "following"; (subst e92; exact rfl); simp only [if_neg e90, if_neg e91, if_neg e92])); (case tp => (dsimp only; exact ⟨Going.step hlo P9.1 (by assumption) (by assumption) (by assumption), by omega⟩)); (case tm => (dsimp only; omega)))
  · exact hret _ _ _ _ (by k_asm) (by k_asm) ⟨_, _, rfl, rfl, by assumption, _, _, _, _, rfl, .inr ⟨by omega, P9.1.fin (by have := P9.1.k0; omega)⟩⟩
local macro_rules | `(tactic| walk_at "call ref") => `(tactic| (k_here; (try dsimp only); (with_reducible show wpAny _ _ (call (Value.ref 42) _) _ _ _); k_dflt (refine' Claim.use2 (C := lines_target_ok (by assumption) (by first | assumption | omega) (by first | assumption | omega) (by first | assumption | omega) (by first | assumption | omega)) (k := ?_); k_whole; rintro q9 o9 h9 tk9 l9 ⟨r9, j9, t9, u9, f9, p1⟩; subst f9; intro F9 N9; (try k_lt l9); (try k_sweep); all_goals ((try dsimp only); (try k_fold)))))
theorem clamped_ok {p : Int} {t : Tok} {w : World} {mean mg mb} {x : Addr} {codes : List Int} {first : Int} {news : List (Addr × Obj)} (hv : ViewIn news x codes first) : Claim 4 w mean mg mb 49 [.ref x, .int p t] news (fun v nx => nx = news ∧ ∃ t', v = .int (max first (min (first + codes.length) (p))) t') := by
  obtain ⟨⟨dx, c, hh1, hh2, t1, t2, t3, vs, n, hx, hdx, hc, hi⟩, hl, hlo, hhi⟩ := id hv
  unfold Claim
  k_fill
  intro dp un gd cn cs a ccd cl outer A₀ base h₀ L m s Q E B F X N T hk hdp hu hret
  refine wpAny_noRaise ?_
  refine wpAny_call ?_
  k_dflt cell_enter
  k_steps
  exact hret _ _ _ _ (by k_asm) (by k_asm) ⟨rfl, _, by rw [minmax_eq]⟩
local macro_rules | `(tactic| walk_at "call ref") => `(tactic| (k_here; (try dsimp only); (with_reducible show wpAny _ _ (call (Value.ref 49) _) _ _ _); k_dflt (refine' Claim.use1 (C := clamped_ok (by assumption)) (k := ?_); k_whole; rintro v9 h9 tk9 ⟨t9, f9⟩; subst f9; intro F9 N9; (try k_sweep); all_goals ((try dsimp only); (try k_fold)))))
theorem chars_target_ok {p k : Int} {t u : Tok} {w : World} {mean mg mb} {x : Addr} {codes : List Int} {first : Int} {news : List (Addr × Obj)} (hv : ViewIn news x codes first) : Claim 6 w mean mg mb 56 [.ref x, .int p t, .int k u] news (fun v nx => ∃ q o, v = .ref q ∧ nx = (q, o) :: news ∧ (∀ p ∈ news, p.1 < q) ∧ ∃ r wd t' u', o = ⟨.type "tuple", none, .seq #[.int r t', .str wd u'] 0, #[]⟩ ∧ r = max first (min (first + codes.length) (p + k)) ∧
    ((wd = Str.ofString "" ∧ r = p + k) ∨ (wd = Str.ofString "end-of-buffer" ∧ r < p + k) ∨ (wd = Str.ofString "beginning-of-buffer" ∧ p + k < r))) := by
  obtain ⟨⟨dx, c, hh1, hh2, t1, t2, t3, vs, n, hx, hdx, hc, hi⟩, hl, hlo, hhi⟩ := id hv
  unfold Claim
  k_fill
  intro dp un gd cn cs a ccd cl outer A₀ base h₀ L m s Q E B F X N T hk hdp hu hret
  refine wpAny_noRaise ?_
  refine wpAny_call ?_
  k_dflt cell_enter
  k_steps
  · exact hret _ _ _ _ (by k_asm) (by k_asm) ⟨_, _, rfl, rfl, by assumption, _, _, _, _, rfl, rfl, .inr (.inl ⟨rfl, by assumption⟩)⟩
  · exact hret _ _ _ _ (by k_asm) (by k_asm) ⟨_, _, rfl, rfl, by assumption, _, _, _, _, rfl, rfl, .inr (.inr ⟨rfl, by assumption⟩)⟩
  · exact hret _ _ _ _ (by k_asm) (by k_asm) ⟨_, _, rfl, rfl, by assumption, _, _, _, _, rfl, rfl, .inl ⟨rfl, by omega⟩⟩
theorem tenths_of_ok {k : Int} {t : Tok} {w : World} {mean mg mb} {x : Addr} {codes : List Int} {first : Int} {news : List (Addr × Obj)} (hv : ViewIn news x codes first) (h1 : 0 ≤ k) (h2 : k ≤ 12) : Claim 4 w mean mg mb 63 [.ref x, .int k t] news (fun v nx => nx = news ∧ ∃ t', v = .int (Int.fdiv (k * codes.length) 10) t') := by
  obtain ⟨⟨dx, c, hh1, hh2, t1, t2, t3, vs, n, hx, hdx, hc, hi⟩, hl, hlo, hhi⟩ := id hv
  unfold Claim
  k_fill
  intro dp un gd cn cs a ccd cl outer A₀ base h₀ L m s Q E B F X N T hk hdp hu hret
  refine wpAny_noRaise ?_
  refine wpAny_call ?_
  k_dflt cell_enter
  k_steps
  exact hret _ _ _ _ (by k_asm) (by k_asm) ⟨rfl, _, by rw [show first + (codes.length : Int) - first = codes.length from by omega]⟩
theorem line_number_ok {k : Int} {t : Tok} {w : World} {mean mg mb} {x : Addr} {codes : List Int} {first : Int} {news : List (Addr × Obj)} (hv : ViewIn news x codes first) (h1 : 0 ≤ k) (h2 : k ≤ 50) : Claim 12 w mean mg mb 84 [.ref x, .int k t] news (fun v nx => nx = news ∧ ∃ r t', v = .int r t' ∧ ((k ≤ 1 ∧ r = first) ∨ (1 < k ∧ r = (stAt codes first first).getD (k - 2).toNat (first + codes.length)))) := by
  obtain ⟨⟨dx, c, hh1, hh2, t1, t2, t3, vs, n, hx, hdx, hc, hi⟩, hl, hlo, hhi⟩ := id hv
  unfold Claim
  k_fill
  intro dp un gd cn cs a ccd cl outer A₀ base h₀ L m s Q E B F X N T hk hdp hu hret
  refine wpAny_noRaise ?_
  refine wpAny_call ?_
  k_dflt cell_enter
  k_steps
  exact hret _ _ _ _ (by k_asm) (newsLess (by k_asm)) ⟨rfl, _, _, rfl, line_number_end (by assumption)⟩
local macro_rules | `(tactic| walk_at "call ref") => `(tactic| (k_here; (try dsimp only); (with_reducible show wpAny _ _ (call (Value.ref 63) _) _ _ _); k_dflt (refine' Claim.use1 (C := tenths_of_ok (by assumption) (by first | assumption | omega) (by first | assumption | omega)) (k := ?_); k_whole; rintro v9 h9 tk9 ⟨t9, f9⟩; subst f9; intro F9 N9; (try k_sweep); all_goals ((try dsimp only); (try k_fold)))))
theorem begin_none_ok {w : World} {mean mg mb} {x : Addr} {codes : List Int} {first : Int} {news : List (Addr × Obj)} (hv : ViewIn news x codes first) : Claim 6 w mean mg mb 70 [.ref x, .none] news (fun v nx => nx = news ∧ ∃ t', v = .int first t') := by
  obtain ⟨⟨dx, c, hh1, hh2, t1, t2, t3, vs, n, hx, hdx, hc, hi⟩, hl, hlo, hhi⟩ := id hv
  unfold Claim
  k_fill
  intro dp un gd cn cs a ccd cl outer A₀ base h₀ L m s Q E B F X N T hk hdp hu hret
  refine wpAny_noRaise ?_
  refine wpAny_call ?_
  k_dflt cell_enter
  k_steps
  exact hret _ _ _ _ (by k_asm) (by k_asm) ⟨rfl, _, rfl⟩
theorem end_none_ok {w : World} {mean mg mb} {x : Addr} {codes : List Int} {first : Int} {news : List (Addr × Obj)} (hv : ViewIn news x codes first) : Claim 6 w mean mg mb 77 [.ref x, .none] news (fun v nx => nx = news ∧ ∃ t', v = .int (first + codes.length) t') := by
  obtain ⟨⟨dx, c, hh1, hh2, t1, t2, t3, vs, n, hx, hdx, hc, hi⟩, hl, hlo, hhi⟩ := id hv
  unfold Claim
  k_fill
  intro dp un gd cn cs a ccd cl outer A₀ base h₀ L m s Q E B F X N T hk hdp hu hret
  refine wpAny_noRaise ?_
  refine wpAny_call ?_
  k_dflt cell_enter
  k_steps
  exact hret _ _ _ _ (by k_asm) (by k_asm) ⟨rfl, _, rfl⟩
theorem begin_target_ok {k : Int} {t : Tok} {w : World} {mean mg mb} {x : Addr} {codes : List Int} {first : Int} {news : List (Addr × Obj)} (hv : ViewIn news x codes first) (h1 : 0 ≤ k) (h2 : k ≤ 12) : Claim 12 w mean mg mb 70 [.ref x, .int k t] news (fun v nx => nx = news ∧ ∃ r t' a, v = .int r t' ∧ first ≤ a ∧ a ≤ first + codes.length ∧ a = max first (min (first + codes.length) (first + Int.fdiv (10 + codes.length * k) 10)) ∧ r = (stAt codes first a).getD 0 (first + codes.length)) := by
  obtain ⟨⟨dx, c, hh1, hh2, t1, t2, t3, vs, n, hx, hdx, hc, hi⟩, hl, hlo, hhi⟩ := id hv
  unfold Claim
  k_fill
  intro dp un gd cn cs a ccd cl outer A₀ base h₀ L m s Q E B F X N T hk hdp hu hret
  refine wpAny_noRaise ?_
  refine wpAny_call ?_
  k_dflt cell_enter
  k_steps
  have p9 := step_end (codes := codes) (first := first) (by assumption)
  rw [show first + (codes.length : Int) - first = codes.length from by omega] at p9
  exact hret _ _ _ _ (by k_asm) (newsLess (by k_asm)) ⟨rfl, _, _, _, rfl, by omega, by omega, rfl, p9⟩
theorem end_target_ok {k : Int} {t : Tok} {w : World} {mean mg mb} {x : Addr} {codes : List Int} {first : Int} {news : List (Addr × Obj)} (hv : ViewIn news x codes first) (h1 : 0 ≤ k) (h2 : k ≤ 12) : Claim 12 w mean mg mb 77 [.ref x, .int k t] news (fun v nx => nx = news ∧ ∃ r t' a, v = .int r t' ∧ first ≤ a ∧ a ≤ first + codes.length ∧ r = (stAt codes first a).getD 0 (first + codes.length)) := by
  obtain ⟨⟨dx, c, hh1, hh2, t1, t2, t3, vs, n, hx, hdx, hc, hi⟩, hl, hlo, hhi⟩ := id hv
  unfold Claim
  k_fill
  intro dp un gd cn cs a ccd cl outer A₀ base h₀ L m s Q E B F X N T hk hdp hu hret
  refine wpAny_noRaise ?_
  refine wpAny_call ?_
  k_dflt cell_enter
  k_steps
  have p9 := step_end (codes := codes) (first := first) (by assumption)
  exact hret _ _ _ _ (by k_asm) (newsLess (by k_asm)) ⟨rfl, _, _, _, rfl, by omega, by omega, p9⟩
section
open PySem PySem.W PySem.Calls PyProof.Rows
/-- the end of a comprehension's element, its ledger of the state's shape -/
def ElEnd {σ : Type} (h₀ : Heap) (L : Addr) (m : Str → Option Value) (s₁ : Shared) (I : Addr) (oI : Obj) (C : Addr) (oC : Obj) (D : Addr) (oD : Obj) (S : List (Addr × Obj) → Prop) (led : σ → List (Addr × Obj)) (Acc : Nat → List Value → σ → Prop) (i : Nat) (ys : List Value) (y : Value) (s₂ : Shared) : Prop :=
  LCg.CompEnd h₀ L m s₁ I oI C oC D oD S (fun y news' => ∃ c' : σ, news' = led c' ∧ Acc (i + 1) (ys ++ [y]) c') y s₂
theorem ElEnd.mk' {σ : Type} {h₀ : Heap} {L : Addr} {m : Str → Option Value} {s₁ : Shared} {I : Addr} {oI : Obj} {C : Addr} {oC : Obj} {D : Addr} {oD : Obj} {S : List (Addr × Obj) → Prop} {led : σ → List (Addr × Obj)} {Acc : Nat → List Value → σ → Prop} {i : Nat} {ys : List Value} {y : Value} {h' : Heap} {tk : Nat} {all : List (Addr × Obj)}
    (F : Fr h₀ L h' m) (N : News h₀ L h' all) (c' : σ) (sub : ∀ p ∈ (I, oI) :: (C, oC) :: (D, oD) :: led c', p ∈ all) (off : LCg.Off3 I C D (led c')) (hS : S (led c')) (r : Acc (i + 1) (ys ++ [y]) c') :
    ElEnd h₀ L m s₁ I oI C oC D oD S led Acc i ys y { s₁ with heap := h', toks := tk } := LCg.CompEnd.intro F N (led c') sub off hS ⟨c', rfl, r⟩
theorem off1_mem {D : Addr} : ∀ {l : List (Addr × Obj)}, LCg.Off1 D l → ∀ p ∈ l, p.1 ≠ D
  | [], _, _, h => nomatch h
  | _ :: _, x, p, h => by
    rcases List.mem_cons.mp h with rfl | h
    · exact x.1
    · exact off1_mem x.2 p h
section
variable {prog : Program} {w : World} {A : Around} {h₀ : Heap} {L : Addr} {m : Str → Option Value} {env : Env} {elt : PySem.Expr} {x : Str} {scope : Scope} {cl : List (Str × Addr)} {s : Shared} {S : List (Addr × Obj) → Prop} {Fin : List Value → List (Addr × Obj) → Prop}
theorem comp_led {σ : Type} {n : Nat} {a : Int} (led : σ → List (Addr × Obj)) (Acc : Nat → List Value → σ → Prop) (c₀ : σ) (h0 : Acc 0 [] c₀)
    (turn : ∀ (i : Nat) (c : σ) k t I oI C oC D m₂ ys h tk (E' : Value → Shared → Prop), i < n → k = a + (i : Int) → Acc i ys c → LCg.NsObj oC m₂ → m₂ x = some (.int k t) → Fr h₀ L h m → News h₀ L h ((I, oI) :: (C, oC) :: (D, LCg.lst ys) :: led c) → LCg.Off3 I C D (led c) → ((@Ne Nat I C) ∧ (@Ne Nat I D) ∧ (@Ne Nat C D)) →
      wpAny (model prog w) A (eval elt (compEnvC scope cl C env)) (ElEnd h₀ L m { s with heap := h, toks := tk } I oI C oC D (LCg.lst ys) S led Acc i ys) E' { s with heap := h, toks := tk })
    (fin : ∀ ys c, Acc n ys c → Fin ys (led c)) : LCg.CompRest prog w A h₀ L m env elt x scope cl s S (fun i v => ∃ t, v = .int (a + (i : Int)) t) Fin n 0 [] (led c₀) := by
  have key : ∀ (j i : Nat) (ys : List Value) (c : σ), i + j = n → Acc i ys c → LCg.CompRest prog w A h₀ L m env elt x scope cl s S (fun i v => ∃ t, v = .int (a + (i : Int)) t) Fin j i ys (led c) := by
    intro j
    induction j with
    | zero =>
      intro i ys c hi hy
      have e : i = n := by omega
      subst e
      exact LCg.CompRest.zero (fin ys c hy)
    | succ j ih =>
      intro i ys c hi hy
      refine LCg.CompRest.succ ?_
      intro v I oI C oC D m₂ h tk E' hv hC hx F N off ne
      obtain ⟨t, hv'⟩ := hv
      rw [hv'] at hx
      refine wpAny_mono (turn i c _ t I oI C oC D m₂ ys h tk E' (by omega) rfl hy hC hx F N off ne) (fun y s₂ hq => ?_) fun _ _ e => e
      obtain ⟨h', tk', nw, e, F', N', off', hS, c', rfl, hA⟩ := hq
      exact ⟨h', tk', led c', e, F', N', off', hS, ih (i + 1) _ c' (by omega) hA⟩
  exact key n 0 [] c₀ (by omega) h0
end
end
section
open PySem PySem.W PySem.Calls PyProof.Rows
/-- the end of a turn of a comprehension with a test: the ledger is as it was -/
def CtEnd (h₀ : Heap) (L : Addr) (m : Str → Option Value) (s₁ : Shared) (I : Addr) (oI : Obj) (C : Addr) (oC : Obj) (D : Addr) (oD : Obj) (S : List (Addr × Obj) → Prop) (news : List (Addr × Obj)) (R : Value → Prop) (y : Value) (s₂ : Shared) : Prop :=
  LCg.CompEnd h₀ L m s₁ I oI C oC D oD S (fun y nx => nx = news ∧ R y) y s₂
theorem CtEnd.mk' {h₀ : Heap} {L : Addr} {m : Str → Option Value} {s₁ : Shared} {I : Addr} {oI : Obj} {C : Addr} {oC : Obj} {D : Addr} {oD : Obj} {S : List (Addr × Obj) → Prop} {news : List (Addr × Obj)} {R : Value → Prop} {y : Value} {h' : Heap} {tk : Nat} {all : List (Addr × Obj)}
    (F : Fr h₀ L h' m) (N : News h₀ L h' all) (sub : ∀ p ∈ (I, oI) :: (C, oC) :: (D, oD) :: news, p ∈ all) (off : LCg.Off3 I C D news) (hS : S news) (r : R y) :
    CtEnd h₀ L m s₁ I oI C oC D oD S news R y { s₁ with heap := h', toks := tk } := LCg.CompEnd.intro F N news sub off hS ⟨rfl, r⟩
section
variable {prog : Program} {w : World} {A : Around} {h₀ : Heap} {L : Addr} {m : Str → Option Value} {env : Env} {ct elt : PySem.Expr} {x : Str} {scope : Scope} {cl : List (Str × Addr)} {s : Shared} {S : List (Addr × Obj) → Prop} {P : Nat → Value → Prop} {Fin : List Value → List (Addr × Obj) → Prop} {news : List (Addr × Obj)}
theorem comp_test {n : Nat} (ks : List Int) (Acc : Nat → List Value → Prop) (hP : ∀ i v, i < n → P i v → ∃ k t, ks[i]? = some k ∧ v = .int k t) (h0 : Acc 0 []) (hS : S news)
    (turn : ∀ (i : Nat) k t I oI C oC D m₂ ys h tk (E' : Value → Shared → Prop), i < n → ks[i]? = some k → Acc i ys → LCg.NsObj oC m₂ → m₂ x = some (.int k t) → Fr h₀ L h m → News h₀ L h ((I, oI) :: (C, oC) :: (D, LCg.lst ys) :: news) → LCg.Off3 I C D news → ((@Ne Nat I C) ∧ (@Ne Nat I D) ∧ (@Ne Nat C D)) →
      wpAny (model prog w) A (isTrue ct (compEnvC scope cl C env) (eval ct (compEnvC scope cl C env))) (fun b s' => if b = true then wpAny (model prog w) A (eval elt (compEnvC scope cl C env)) (CtEnd h₀ L m { s with heap := h, toks := tk } I oI C oC D (LCg.lst ys) S news (fun y => Acc (i + 1) (ys ++ [y]))) E' s'
        else CtEnd h₀ L m { s with heap := h, toks := tk } I oI C oC D (LCg.lst ys) S news (fun _ => Acc (i + 1) ys) Value.none s') E' { s with heap := h, toks := tk })
    (fin : ∀ ys, Acc n ys → Fin ys news) : LCt.CompRestT prog w A h₀ L m env ct elt x scope cl s S P Fin n 0 [] news := by
  have key : ∀ (j i : Nat) (ys : List Value), i + j = n → Acc i ys → LCt.CompRestT prog w A h₀ L m env ct elt x scope cl s S P Fin j i ys news := by
    intro j
    induction j with
    | zero =>
      intro i ys hi hy
      have e : i = n := by omega
      subst e
      exact LCt.CompRestT.zero (fin ys hy)
    | succ j ih =>
      intro i ys hi hy
      refine LCt.CompRestT.succ ?_
      intro v I oI C oC D m₂ h tk E' hv hC hx F N off ne
      obtain ⟨k, t, hk, hv'⟩ := hP i v (by omega) hv
      rw [hv'] at hx
      refine wpAny_mono (turn i k t I oI C oC D m₂ ys h tk E' (by omega) hk hy hC hx F N off ne) (fun b s₂ hq => ?_) fun _ _ e => e
      cases b with
      | true =>
        simp only [if_true] at hq ⊢
        refine wpAny_mono hq (fun y s₃ hr => ?_) fun _ _ e => e
        obtain ⟨h', tk', nw, e, F', N', off', hS', rfl, hr'⟩ := hr
        exact ⟨h', tk', nw, e, F', N', off', hS', ih (i + 1) _ (by omega) hr'⟩
      | false =>
        simp only [Bool.false_eq_true, if_false] at hq ⊢
        obtain ⟨h', tk', nw, e, F', N', off', hS', rfl, hr'⟩ := hq
        exact ⟨h', tk', nw, e, F', N', off', hS', ih (i + 1) _ (by omega) hr'⟩
  exact key n 0 [] (by omega) h0
theorem items_list {vs : List Value} {ns : List Int} (hi : IntsAre vs ns) : ∀ (i : Nat) (v : Value), i < vs.toArray.size → vs.toArray[i]? = some v → ∃ k t, ns[i]? = some k ∧ v = .int k t := by
  intro i v hlt hv
  have hlt' : i < ns.length := by have := hi.length; simp at hlt; omega
  obtain ⟨t, hx⟩ := hi.get i ns[i] (by simp [hlt'])
  have hv' : vs[i]? = some v := by simpa using hv
  rw [hx] at hv'
  exact ⟨ns[i], t, by simp [hlt'], (Option.some.inj hv').symm⟩
theorem items_range (a : Int) (n : Nat) : ∀ (i : Nat) (v : Value), i < n → (∃ t, v = .int (a + (i : Int)) t) → ∃ k t, (rangeKs a n)[i]? = some k ∧ v = .int k t := by
  rintro i v hlt ⟨t, rfl⟩
  exact ⟨_, t, by simp [rangeKs, hlt], rfl⟩
end
end
local macro_rules | `(tactic| walk_at "LedPost") => `(tactic| (dsimp only [LedPost]))
local macro_rules | `(tactic| k_all) => `(tactic| assumption)
/-- the deck: at least one number, none below nought, none too large -/
structure DeckOk (ns : List Int) : Prop where
  one : 1 ≤ ns.length
  most : ns.length ≤ 64
  all : ∀ x ∈ ns, 0 ≤ x ∧ x < 1606938044258990275541962092341162602522202993782792835301376
theorem DeckOk.tail {ns : List Int} (h : DeckOk ns) (h1 : 1 < (ns.length : Int)) : DeckOk ns.tail :=
  ⟨by rw [List.length_tail]; omega, by rw [List.length_tail]; have := h.most; omega, fun x hx => h.all x (List.mem_of_mem_tail hx)⟩
theorem DeckOk.set {ns : List Int} (h : DeckOk ns) {j : Nat} {x : Int} (h0 : 0 ≤ x) (h1 : x < 1606938044258990275541962092341162602522202993782792835301376) : DeckOk (ns.set j x) :=
  ⟨by rw [List.length_set]; exact h.one, by rw [List.length_set]; exact h.most, fun y hy => (List.mem_or_eq_of_mem_set hy).elim (h.all y) fun e => e ▸ ⟨h0, h1⟩⟩
theorem DeckOk.first {ns : List Int} (h : DeckOk ns) : 0 ≤ ns.getD (Int.toNat 0) 0 ∧ ns.getD (Int.toNat 0) 0 < 1606938044258990275541962092341162602522202993782792835301376 := by
  have h1 := h.one
  cases ns with
  | nil => exact absurd h1 (by decide)
  | cons a r => exact h.all a (.head _)
theorem fmod_in {a k : Int} (h : 1 ≤ k) : 0 ≤ Int.fmod a k ∧ Int.fmod a k < k := by
  rw [Int.fmod_eq_emod_of_nonneg _ (by omega)]
  exact ⟨Int.emod_nonneg _ (by omega), Int.emod_lt_of_pos _ (by omega)⟩
theorem fdiv_in {a k B : Int} (h : 1 ≤ k) (h0 : 0 ≤ a) (h1 : a < B) : 0 ≤ Int.fdiv a k ∧ Int.fdiv a k < B := by
  rw [Int.fdiv_eq_ediv_of_nonneg _ (by omega)]
  exact ⟨Int.ediv_nonneg h0 (by omega), Int.lt_of_le_of_lt (Int.ediv_le_self _ h0) h1⟩
theorem pop0_K {prog : Program} {w : World} {A : Around} {E : Value → Shared → Prop} {s : Shared} {h₀ : Heap} {L D : Addr} {m : Str → Option Value} {news news' : List (Addr × Obj)} {vs : List Value} {ns : List Int} {n : Nat} {u : Tok} {Q : Value → Shared → Prop}
    (F : Fr h₀ L s.heap m) (N : News h₀ L s.heap news) (hi : IntsAre vs ns) (h1 : 1 ≤ ns.length) (h2 : ns.length ≤ 64) (U : Upd D (listOf vs.toArray n) (listOf vs.tail.toArray (n + 1)) news news')
    (h : ∀ v h', Fr h₀ L h' m → News h₀ L h' news' → IntsAre vs.tail ns.tail → Q v { s with heap := h' }) : wpAny (model prog w) A (call (.builtin "list.pop") [.ref D, .int 0 u]) Q E s := by
  cases hi with
  | nil => exact absurd h1 (by decide)
  | @cons a t vs ns hi' =>
    have hl := hi'.length
    have hz : ((Value.int a t :: vs).toArray.toList).length ≤ sizeLine := by
      rw [sizeLine_eq]; simp only [List.length_cons] at h2 ⊢; omega
    refine kl_popAt F N (by rfl) (k := 0) ?_ (p := []) (y := .int a t) (by rfl) U hz fun h' F' N' => h _ h' F' N' hi'
    rw [List.size_toArray, List.length_cons]
    unfold seqIndex?
    simp
local macro_rules | `(tactic| walk_at "call builtin:list.pop") => `(tactic| (k_here; k_dflt (refine' pop0_K ?F ?N ?i ?b1 ?b2 ?U ?_; (case F => k_asm); (case N => k_asm); (case i => assumption); (case b1 => omega); (case b2 => omega); (case U => k_upd); k_whole); intro v8 h8 F8 N8 hi8; (try k_sweep)))
theorem draw_ok {w : World} {mean mg mb} {k : Int} {t : Tok} {d : Addr} {vs : List Value} {ns : List Int} {n : Nat} {rest : List (Addr × Obj)} (hi : IntsAre vs ns) (hd : DeckOk ns) (hs : ∀ p ∈ rest, p.1 ≠ d) (h1 : 1 ≤ k) (h2 : k ≤ 100) : Claim 3 w mean mg mb 134 [.ref d, .int k t] ((d, listOf vs.toArray n) :: rest)
    (fun v nx => ∃ o', nx = (d, o') :: rest ∧ ∃ (r : Int) (t' : Tok) (vs' : List Value) (ns' : List Int) (n' : Nat), o' = listOf vs'.toArray n' ∧ v = .int r t' ∧ 0 ≤ r ∧ r < k ∧ IntsAre vs' ns' ∧ DeckOk ns') := by
  unfold Claim
  k_fill
  intro dp un gd cn cs a ccd cl outer A₀ base h₀ L m s Q E B F X N T hk hdp hu hret
  refine wpAny_noRaise ?_
  refine wpAny_call ?_
  k_dflt cell_enter
  k_with "my while" => ((rename Fr _ _ _ _ => lF'); (rename News _ _ _ _ => lN'); (refine wpAny_noRaise ?_); (refine while_sl (fun m₀ (_ : List Value × List Int × Nat) y => m₀ y) (fun c => (d, listOf c.1.toArray c.2.2) :: rest) (fun c => IntsAre c.1 c.2.1 ∧ DeckOk c.2.1) (fun c => c.2.1.length) (vs, ns, n) lF' lN' (fun _ => rfl) (fun _ h => h) ⟨hi, hd⟩ ?_ PassesOwn.never); (clear lF' lN' hi hd; rintro ⟨us9, ms9, n9⟩ h9 tk9 ⟨hi9, hd9⟩ F9 N9; (try dsimp only at hi9 hd9 F9 N9); have hd10 := hd9.one; have hd11 := hd9.most; (try dsimp only); (try k_fold)))
  k_steps
  · refine LedEnd.mk' (_, _, _) (by k_asm) (by k_asm) (fun _ => rfl) (fun _ h => h) ⟨by assumption, hd9.tail (by assumption)⟩ ?_
    show (List.tail ms9).length < ms9.length
    rw [List.length_tail]
    omega
  · have hx := fdiv_in h1 hd9.first.1 hd9.first.2
    have hr := fmod_in (a := ms9.getD (Int.toNat 0) 0) h1
    exact hret _ _ _ _ (by k_asm) (by k_asm) ⟨_, rfl, _, _, _, _, _, rfl, rfl, hr.1, hr.2, by assumption, hd9.set hx.1 hx.2⟩
  · have hx := fmod_in (a := ms9.getD (Int.toNat 0) 0 * 48271 + 11) (k := 2147483647) (by decide)
    have hr := fmod_in (a := ((ms9.set (Int.toNat 0) ((ms9.getD (Int.toNat 0) 0 * 48271 + 11).fmod 2147483647)).getD (Int.toNat 0) 0).fdiv 64) h1
    exact hret _ _ _ _ (by k_asm) (by k_asm) ⟨_, rfl, _, _, _, _, _, rfl, rfl, hr.1, hr.2, by assumption, hd9.set hx.1 (Int.lt_of_lt_of_le hx.2 (by decide))⟩
local macro_rules | `(tactic| walk_at "call ref") => `(tactic| (k_here; (try dsimp only); (with_reducible show wpAny _ _ (call (Value.ref 134) _) _ _ _); k_dflt (refine' Claim.use3 (C := fun _ z9 => draw_ok (by assumption) (by assumption) z9 (by first | assumption | omega) (by first | assumption | omega)) (k := ?_); k_whole; rintro v9 o9 h9 tk9 ⟨r9, t9, vs9, ns9, n9, d9, f9, p1, p2, p3, p4⟩; subst d9; subst f9; intro F9 N9; (try dsimp only at N9); (try k_sweep); all_goals ((try dsimp only); (try k_fold)))))
theorem item_ab {r : Int} (h0 : 0 ≤ r) (h1 : r < ((3 : Nat) : Int)) : Txt.item (Str.ofString "ab\n") r = Str.ofString "a" ∨ Txt.item (Str.ofString "ab\n") r = Str.ofString "b" ∨ Txt.item (Str.ofString "ab\n") r = Str.ofString "\n" := by
  have hr : r = 0 ∨ r = 1 ∨ r = 2 := by omega
  rcases hr with rfl | rfl | rfl <;> decide
theorem one_ok {w : World} {mean mg mb} {t : Tok} {d : Addr} {vs : List Value} {ns : List Int} {n : Nat} {rest : List (Addr × Obj)} (hi : IntsAre vs ns) (hd : DeckOk ns) (hs : ∀ p ∈ rest, p.1 ≠ d) : Claim 5 w mean mg mb 146 [.ref d, .str (Str.ofString "ab\n") t] ((d, listOf vs.toArray n) :: rest)
    (fun v nx => ∃ o', nx = (d, o') :: rest ∧ ∃ (x : Str) (t' : Tok) (vs' : List Value) (ns' : List Int) (n' : Nat), o' = listOf vs'.toArray n' ∧ v = .str x t' ∧ (x = Str.ofString "a" ∨ x = Str.ofString "b" ∨ x = Str.ofString "\n") ∧ IntsAre vs' ns' ∧ DeckOk ns') := by
  unfold Claim
  k_fill
  intro dp un gd cn cs a ccd cl outer A₀ base h₀ L m s Q E B F X N T hk hdp hu hret
  refine wpAny_noRaise ?_
  refine wpAny_call ?_
  k_dflt cell_enter
  k_steps
  exact hret _ _ _ _ (by k_asm) (by k_asm) ⟨_, rfl, _, _, _, _, _, rfl, rfl, item_ab (by assumption) (by assumption), by assumption, by assumption⟩
local macro_rules | `(tactic| walk_at "call ref") => `(tactic| (k_here; (try dsimp only); (with_reducible show wpAny _ _ (call (Value.ref 146) _) _ _ _); k_dflt (refine' Claim.use3 (C := fun _ z9 => one_ok (by assumption) (by assumption) z9) (k := ?_); k_whole; rintro v9 o9 h9 tk9 ⟨x9, t9, vs9, ns9, n9, d9, f9, p1, p3, p4⟩; subst d9; subst f9; intro F9 N9; (try dsimp only at N9); (try k_sweep); (rcases p1 with e1 | e1 | e1 <;> subst e1); all_goals ((try dsimp only); (try k_fold)))))
local macro_rules | `(tactic| walk_at "CompSrc") => `(tactic| k_dflt (k_extra "my comp"))
/-- what stands between the turns of _law_some_codes: the deck and the codes so far -/
def CodesAcc (i : Nat) (ys : List Value) (c : List Value × List Int × Nat) : Prop := IntsAre c.1 c.2.1 ∧ DeckOk c.2.1 ∧ ∃ ms : List Int, IntsAre ys ms ∧ ms.length = i ∧ ∀ x ∈ ms, x = 97 ∨ x = 98 ∨ x = 10
theorem codes_end {h₀ : Heap} {L I C D a1 a2 d : Addr} {m : Str → Option Value} {s₁ : Shared} {oI oC oD o1 o2 : Obj} {i : Nat} {ys us : List Value} {ns ms : List Int} {n : Nat} {rest : List (Addr × Obj)} {h' : Heap} {tk : Nat} {x : Int} {t : Tok}
    (F : Fr h₀ L h' m) (N : News h₀ L h' ((I, oI) :: (C, oC) :: (D, oD) :: (a1, o1) :: (a2, o2) :: (d, listOf us.toArray n) :: rest)) (off : LCg.Off3 I C D ((a1, o1) :: (a2, o2) :: (d, listOf us.toArray n) :: rest)) (hi : IntsAre us ns) (hd : DeckOk ns)
    (h1 : IntsAre ys ms) (h2 : ms.length = i) (h3 : ∀ x ∈ ms, x = 97 ∨ x = 98 ∨ x = 10) (hx : x = 97 ∨ x = 98 ∨ x = 10) :
    ElEnd h₀ L m s₁ I oI C oC D oD (fun _ => True) (fun c : List Value × List Int × Nat => (a1, o1) :: (a2, o2) :: (d, listOf c.1.toArray c.2.2) :: rest) CodesAcc i ys (.int x t) { s₁ with heap := h', toks := tk } :=
  ElEnd.mk' F N (us, ns, n) (fun _ h => h) off trivial ⟨hi, hd, _, IntsAre.append h1 (.cons _ _ .nil), by rw [List.length_append, h2]; rfl, fun y hy => (List.mem_append.mp hy).elim (h3 y) fun h => by rw [List.mem_singleton.mp h]; exact hx⟩
theorem some_codes_ok {w : World} {mean mg mb} {t t2 : Tok} {d : Addr} {vs : List Value} {ns : List Int} {n : Nat} {rest : List (Addr × Obj)} (hi : IntsAre vs ns) (hd : DeckOk ns) (hs : ∀ p ∈ rest, p.1 ≠ d) : Claim 8 w mean mg mb 151 [.ref d, .str (Str.ofString "ab\n") t, .int 12 t2] ((d, listOf vs.toArray n) :: rest)
    (fun v nx => ∃ (q : Addr) (us : List Value) (codes : List Int) (k : Nat) (vs' : List Value) (ns' : List Int) (n' : Nat), v = .ref q ∧ nx = (q, listOf us.toArray k) :: (d, listOf vs'.toArray n') :: rest ∧ (∀ p ∈ rest, p.1 ≠ q) ∧ d ≠ q ∧ IntsAre us codes ∧ codes.length ≤ 12 ∧ (∀ x ∈ codes, x = 97 ∨ x = 98 ∨ x = 10) ∧ IntsAre vs' ns' ∧ DeckOk ns') := by
  unfold Claim
  k_fill
  intro dp un gd cn cs a ccd cl outer A₀ base h₀ L m s Q E B F X N T hk hdp hu hret
  refine wpAny_noRaise ?_
  refine wpAny_call ?_
  k_dflt (refine' code_defC ?k1 ?k2 ?k3 ?k4 ?k5 ?kA ?kF ?kK ?k6 ?k7 ?k8 ?k9 ?kB ?kD ?_ ?c2 ?c3 ?c4; (case kA => exact rfl); (case kF => exact rfl); (case kK => assumption); (case k1 => k_asm); (case k2 => k_asm); (case k3 => k_asm); (case k4 => k_asm); (case k5 => k_asm); (case k6 => k_is); (case k7 => k_is); (case k8 => ktr_room); (case k9 => exact BindsTo.of_eq rfl); (case kB => exact rfl); (case kD => decide +kernel); (case c2 => exact rfl); (case c3 => exact rfl); (case c4 => exact rfl); k_whole; intro g' L' h' tk' cells' FG' F' N' Y' B' X' T' l1; (have l2 := allLt_of l1; simp only [AllLt, and_true] at l2); k_cells Y'; (try simp only [List.cons_append, List.nil_append] at N'); (try dsimp only); (try k_lift B'); (try k_fold))
  k_with "my comp" => ((refine LCg.CompSrc.range (by rfl) (by k_asm) (by k_asm) (by assumption) (small_one (by omega) (by omega) (by omega) (by omega)) (rangeSize_nat _ _) (by rw [PySem.sizeLine_eq]; omega) ?_); intro g9; (refine comp_led (σ := List Value × List Int × Nat) (fun c => (L' + 1 + 1, _) :: (L' + 1, _) :: (d, listOf c.1.toArray c.2.2) :: rest) CodesAcc (_, _, _) ⟨by assumption, by assumption, [], .nil, rfl, fun _ h => nomatch h⟩ ?_ ?_); (rintro i9 ⟨us9, ms9, n9⟩ k9 t9 I9 oI9 C9 oC9 D9 m9 ys9 h9 tk9 E9 hi9 hk9 ⟨hA1, hA2, ls9, hA3, hA4, hA5⟩ hC9 hx9 F9 N9 off9 ne9; (try dsimp only at hA1 hA2 N9 off9); (try simp only [LCg.Off3] at off9); (try k_fold)))
  k_steps
  any_goals (exact codes_end (by k_asm) (by k_asm) (by simp only [LCg.Off3]; exact off9) (by assumption) (by assumption) hA3 hA4 hA5 (by first | exact .inl (by decide) | exact .inr (.inl (by decide)) | exact .inr (.inr (by decide))))
  rename CodesAcc _ _ _ => hB
  rename _ ∧ _ ∧ _ ∧ LCg.Off1 _ _ => hO
  obtain ⟨hB1, hB2, ls, hB3, hB4, hB5⟩ := hB
  obtain ⟨o1, o2, o3, o4⟩ := hO
  exact hret _ _ _ _ (by k_asm) (newsMid (by k_asm)) ⟨_, _, _, _, _, _, _, rfl, rfl, off1_mem o4, o3, hB3, by omega, hB5, hB1, hB2⟩
section
open PySem PySem.W PySem.Calls PyProof.Rows PyProof.V PySem.Spec
section
variable {prog : Program} {w : World} {A : Around} {E : Value → Shared → Prop} {s : Shared} {env : Env} {h₀ : Heap} {x : Str} {body : List Stmt} {Q : Flow → Shared → Prop}
/-- a for loop whose iterable is known: what is left is to walk it -/
def ForGo (prog : Program) (w : World) (A : Around) (h₀ : Heap) (env : Env) (x : Str) (body : List Stmt) (Q : Flow → Shared → Prop) (E : Value → Shared → Prop) (v : Value) (s : Shared) : Prop :=
  wpAny (model prog w) A (pyIter v) (fun it s₂ => LoopAtV prog w A h₀ env x body Q E it s₂) E s
theorem for_enter {m : Str → Option Value} {px pos : Pos} {iter : PySem.Expr} (F : Fr h₀ env.locals s.heap m) (hx : env.kindOf x = some .local)
    (hp : (env.scope.kind == .class || (env.scope.kind == .module && env.locals != env.globals)) = false)
    (h : wpAny (model prog w) A (eval iter env) (fun v s₁ => ForGo prog w A h₀ env x body Q E v s₁) E s)
    (hs : ∀ x, foldedSetIterable iter env x = pure x := by intro _; rfl)
    (hE : PassesOwn (model prog w) A env E := by passes_own) :
    wpAny (model prog w) A (exec (.For (.Name x px) iter body [] pos) env) Q E s := For_invVF F hx hp h hs hE
/-- the end of a turn: the frame and the ledger are again of the state's shape -/
def ForEnd {σ : Type} (h₀ : Heap) (L : Addr) (s : Shared) (x : Str) (own : List (Addr × Obj)) (led : σ → List (Addr × Obj)) (mf : σ → Str → Option Value) (P : σ → Prop) (s₃ : Shared) : Prop :=
  ∃ (c' : σ) (h' : Heap) (tk : Nat) (m' : Str → Option Value) (news' : List (Addr × Obj)), s₃ = { s with heap := h', toks := tk } ∧ Fr h₀ L h' m' ∧ (∀ y, y ≠ x → m' y = mf c' y) ∧ News h₀ L h' news' ∧ (∀ p ∈ led c' ++ own, p ∈ news') ∧ P c'
theorem ForEnd.mk' {σ : Type} {L : Addr} {own news' : List (Addr × Obj)} {led : σ → List (Addr × Obj)} {mf : σ → Str → Option Value} {P : σ → Prop} {m' : Str → Option Value} {h' : Heap} {tk : Nat} (c' : σ)
    (F : Fr h₀ L h' m') (N : News h₀ L h' news') (hn : ∀ p ∈ led c' ++ own, p ∈ news') (e : ∀ y, y ≠ x → m' y = mf c' y) (hp : P c') : ForEnd h₀ L s x own led mf P { s with heap := h', toks := tk } :=
  ⟨c', h', tk, m', news', rfl, F, e, N, hn, hp⟩
def ForPost {σ : Type} (h₀ : Heap) (L : Addr) (s : Shared) (x : Str) (own : List (Addr × Obj)) (led : σ → List (Addr × Obj)) (mf : σ → Str → Option Value) (P : σ → Prop) (Q : Flow → Shared → Prop) (f : Flow) (s₃ : Shared) : Prop :=
  match f with
  | .ret v => Q (.ret v) s₃
  | .brk => Q .next s₃
  | _ => ForEnd h₀ L s x own led mf P s₃
theorem frame_at {h : Heap} {L : Addr} {m₁ m₂ : Str → Option Value} {v : Option Value} (e : ∀ y, y ≠ x → m₁ y = m₂ y) (F : Fr h₀ L h (fun y => if y = x then v else m₁ y)) : Fr h₀ L h (fun y => if y = x then v else m₂ y) := by
  have : (fun y => if y = x then v else m₁ y) = fun y => if y = x then v else m₂ y := by
    funext y
    by_cases hy : y = x
    · simp only [if_pos hy]
    · simp only [if_neg hy]; exact e y hy
  exact this ▸ F
theorem frame_out {h : Heap} {L : Addr} {m₁ m₂ : Str → Option Value} (e : ∀ y, y ≠ x → m₁ y = m₂ y) (F : Fr h₀ L h m₁) : Fr h₀ L h (fun y => if y = x then m₁ x else m₂ y) := by
  have : m₁ = fun y => if y = x then m₁ x else m₂ y := by
    funext y
    by_cases hy : y = x
    · rw [if_pos hy, hy]
    · simp only [if_neg hy]; exact e y hy
  exact this ▸ F
/-- a loop over a list of ints that the call has made -/
theorem for_list {σ : Type} {l : Addr} {vs : List Value} {ns : List Int} {nn : Nat} {m₀ : Str → Option Value} {news : List (Addr × Obj)} (mf : (Str → Option Value) → σ → Str → Option Value) (led : σ → List (Addr × Obj)) (P : Nat → σ → Prop) (c₀ : σ)
    (hh : A.handled = none) (hl : ∀ c, (l, listOf vs.toArray nn) ∈ led c) (hadr : ∀ c, (led c).map (·.1) = (led c₀).map (·.1)) (hi : IntsAre vs ns) (F : Fr h₀ env.locals s.heap m₀) (N : News h₀ env.locals s.heap news) (hn : ∀ p ∈ led c₀, p ∈ news)
    (fa : ∀ y, y ≠ x → m₀ y = mf m₀ c₀ y) (fp : P 0 c₀)
    (fb : ∀ i n t (c : σ) h tk own, ns[i]? = some n → OwnOff own ((led c₀).map (·.1)) → P i c → Fr h₀ env.locals h (fun y => if y = x then some (.int n t) else mf m₀ c y) → News h₀ env.locals h (led c ++ own) →
      wpAny (model prog w) A (execs body env) (ForPost h₀ env.locals { s with heap := h, toks := tk } x own led (mf m₀) (P (i + 1)) Q) E { s with heap := h, toks := tk })
    (fc : ∀ (c : σ) (v : Option Value) h tk, P ns.length c → Fr h₀ env.locals h (fun y => if y = x then v else mf m₀ c y) → News h₀ env.locals h (led c) → Q .next { s with heap := h, toks := tk }) :
    ForGo prog w A h₀ env x body Q E (.ref l) s := by
  refine iter_invNL (news := led c₀) (fun i m nx => ∃ c, nx = led c ∧ (∀ y, y ≠ x → m y = mf m₀ c y) ∧ P i c) hh (hl c₀) hi F (fun p hp => N p (hn p hp)) ⟨c₀, rfl, fa, fp⟩ ?_ ?_
  · rintro i n t m₁ nx h tk own hx _ hoff _ ⟨c, rfl, he, hP⟩ F₁ N₁
    refine wpAny_mono (fb i n t c h tk own hx hoff hP (frame_at he F₁) N₁) (fun f s₂ p => ?_) fun _ _ e => e
    have up : ForEnd h₀ env.locals { s with heap := h, toks := tk } x own led (mf m₀) (P (i + 1)) s₂ → InvEndN h₀ env.locals (fun m' nx => (l, listOf vs.toArray nn) ∈ nx ∧ ∃ c, nx = led c ∧ (∀ y, y ≠ x → m' y = mf m₀ c y) ∧ P (i + 1) c) own ((led c₀).map (·.1)) { s with heap := h, toks := tk } s₂ := by
      rintro ⟨c', h', tk', m', news', e, F', e', N', hn', hp'⟩
      exact ⟨h', tk', m', news', led c', e, F', N', fun p hp => hn' p (List.mem_append.mpr (.inl hp)), fun p hp => hn' p (List.mem_append.mpr (.inr hp)), hadr c', hl c', c', rfl, e', hp'⟩
    cases f with
    | ret v => exact p
    | brk => exact p
    | next => exact up p
    | cont => exact up p
  · rintro m₁ nx h tk _ ⟨c, rfl, he, hP⟩ F₁ N₁
    exact fc c (m₁ x) h tk hP (frame_out he F₁) N₁
/-- a loop over a range by ones -/
theorem for_range {σ : Type} {r : Addr} {a₀ b₀ : Int} {t₀ u₀ v₀ : Tok} {n : Nat} {m₀ : Str → Option Value} {news : List (Addr × Obj)} (mf : (Str → Option Value) → σ → Str → Option Value) (led : σ → List (Addr × Obj)) (P : σ → Prop) (c₀ : σ)
    (hh : A.handled = none) (hr : IsRange s.heap r a₀ b₀ 1 t₀ u₀ v₀) (hsmall : Builtin.Range.small a₀ b₀ 1 = true) (hsz : Builtin.Range.rangeSize a₀ b₀ 1 = (n : Int)) (hadr : ∀ c, (led c).map (·.1) = (led c₀).map (·.1)) (F : Fr h₀ env.locals s.heap m₀) (N : News h₀ env.locals s.heap news) (hn : ∀ p ∈ led c₀, p ∈ news)
    (fa : ∀ y, y ≠ x → m₀ y = mf m₀ c₀ y) (fp : P c₀)
    (fb : ∀ (k : Int) t (c : σ) h tk own, a₀ ≤ k → k < a₀ + (n : Int) → OwnOff own ((led c₀).map (·.1)) → P c → Fr h₀ env.locals h (fun y => if y = x then some (.int k t) else mf m₀ c y) → News h₀ env.locals h (led c ++ own) →
      wpAny (model prog w) A (execs body env) (ForPost h₀ env.locals { s with heap := h, toks := tk } x own led (mf m₀) P Q) E { s with heap := h, toks := tk })
    (fc : ∀ (c : σ) (v : Option Value) h tk, P c → Fr h₀ env.locals h (fun y => if y = x then v else mf m₀ c y) → News h₀ env.locals h (led c) → Q .next { s with heap := h, toks := tk }) :
    ForGo prog w A h₀ env x body Q E (.ref r) s := by
  refine iter_rangeS (news := led c₀) (fun (_ : Unit) m nx => ∃ c, nx = led c ∧ (∀ y, y ≠ x → m y = mf m₀ c y) ∧ P c) (fun u _ => u) () hh hr hsmall hsz F (fun p hp => N p (hn p hp)) ⟨c₀, rfl, fa, fp⟩ ?_ ?_
  · rintro k t _ m₁ nx h tk own hk hoff ⟨c, rfl, he, hP⟩ F₁ N₁
    have hk' := mem_rangeKs hk
    refine wpAny_mono (fb k t c h tk own hk'.1 hk'.2 hoff hP (frame_at he F₁) N₁) (fun f s₂ p => ?_) fun _ _ e => e
    have up : ForEnd h₀ env.locals { s with heap := h, toks := tk } x own led (mf m₀) P s₂ → InvEndN h₀ env.locals (fun m' nx => ∃ c, nx = led c ∧ (∀ y, y ≠ x → m' y = mf m₀ c y) ∧ P c) own ((led c₀).map (·.1)) { s with heap := h, toks := tk } s₂ := by
      rintro ⟨c', h', tk', m', news', e, F', e', N', hn', hp'⟩
      exact ⟨h', tk', m', news', led c', e, F', N', fun p hp => hn' p (List.mem_append.mpr (.inl hp)), fun p hp => hn' p (List.mem_append.mpr (.inr hp)), hadr c', c', rfl, e', hp'⟩
    cases f with
    | ret v => exact p
    | brk => exact p
    | next => exact up p
    | cont => exact up p
  · rintro m₁ nx h tk ⟨c, rfl, he, hP⟩ F₁ N₁
    exact fc c (m₁ x) h tk hP (frame_out he F₁) N₁
end
end
section
open PySem PySem.W PySem.Calls PyProof.Rows
/-- a mark: within a turn of the law -/
inductive InTurn : Prop where
  | mk
/-- a mark: within an if that is cut -/
inductive InIf : Prop where
  | mk
section
variable {prog : Program} {w : World} {A : Around} {E : Value → Shared → Prop} {s : Shared} {env : Env} {h₀ : Heap} {L : Addr} {Q : Flow → Shared → Prop} {m : Str → Option Value} {news : List (Addr × Obj)}
/-- the end of an if that stores nothing: the frame and the ledger are as they were -/
def IfPost (h₀ : Heap) (L : Addr) (s : Shared) (m : Str → Option Value) (news : List (Addr × Obj)) (Q : Flow → Shared → Prop) (f : Flow) (s' : Shared) : Prop :=
  match f with
  | .next => ∃ (h' : Heap) (tk' : Nat), s' = { s with heap := h', toks := tk' } ∧ Fr h₀ L h' m ∧ News h₀ L h' news
  | f => Q f s'
theorem if_cut {test : PySem.Expr} {body orelse : List Stmt} {pos : Pos} (_ : Fr h₀ L s.heap m) (_ : News h₀ L s.heap news)
    (h : InIf → wpAny (model prog w) A (exec (.If test body orelse pos) env) (IfPost h₀ L s m news Q) E s)
    (k : ∀ (h' : Heap) (tk' : Nat), Fr h₀ L h' m → News h₀ L h' news → Q .next { s with heap := h', toks := tk' }) :
    wpAny (model prog w) A (exec (.If test body orelse pos) env) Q E s := by
  refine wpAny_mono (h .mk) (fun f s' p => ?_) fun _ _ e => e
  cases f with
  | next =>
    obtain ⟨h', tk', rfl, F', N'⟩ := p
    exact k h' tk' F' N'
  | ret v => exact p
  | brk => exact p
  | cont => exact p
theorem IfPost.next {h' : Heap} {tk' : Nat} {news' : List (Addr × Obj)} (F : Fr h₀ L h' m) (N : News h₀ L h' news') (hn : ∀ p ∈ news, p ∈ news') :
    IfPost h₀ L s m news Q .next { s with heap := h', toks := tk' } := ⟨h', tk', rfl, F, fun p hp => N p (hn p hp)⟩
end
theorem bne_absT {a : Bool} {P : Prop} [Decidable P] (h : (a != decide P) = true) (ha : a = true) (hp : P) : False := by
  rw [ha, decide_eq_true hp] at h
  exact absurd h (by decide)
theorem bne_absF {a : Bool} {P : Prop} [Decidable P] (h : (a != decide P) = true) (ha : a = false) (hp : ¬ P) : False := by
  rw [ha, decide_eq_false hp] at h
  exact absurd h (by decide)
theorem bne_abs0 {a b : Bool} (h : (a != b) = true) (e : a = b) : False := by
  rw [e] at h
  cases b <;> exact absurd h (by decide)
/-- the cells of a frame: whatever they hold -/
def IsCell (o : Obj) : Prop := ∃ v, o.data = .cell v
end
section
open PySem PySem.W PySem.Calls PyProof.Rows PyProof.V PySem.Spec
theorem CtEnd.mono {h₀ : Heap} {L : Addr} {m : Str → Option Value} {s₁ s₂ : Shared} {I : Addr} {oI : Obj} {C : Addr} {oC : Obj} {D : Addr} {oD : Obj} {S : List (Addr × Obj) → Prop} {news : List (Addr × Obj)} {R R' : Value → Prop} {y : Value}
    (h : CtEnd h₀ L m s₁ I oI C oC D oD S news R y s₂) (f : R y → R' y) : CtEnd h₀ L m s₁ I oI C oC D oD S news R' y s₂ := by
  obtain ⟨h', tk, nx, e, F, N, off, hS, hn, r⟩ := h
  exact ⟨h', tk, nx, e, F, N, off, hS, hn, f r⟩
theorem st_take_succ {codes : List Int} {i : Nat} {p : Int} (h : i < codes.length) : st (codes.take (i + 1)) p = st (codes.take i) p ++ (if codes.getD i 0 = 10 then [p + (i : Int) + 1] else []) := by
  have e : codes.take (i + 1) = codes.take i ++ [codes.getD i 0] := by
    rw [List.getD_eq_getElem?_getD, List.getElem?_eq_getElem h, List.take_add_one, List.getElem?_eq_getElem h]
    rfl
  rw [e, st_append]
  congr 1
  have e2 : ((codes.take i).length : Int) = i := by rw [List.length_take]; omega
  rw [e2]
  simp only [st]
theorem st_length (codes : List Int) : ∀ p, (st codes p).length ≤ codes.length := by
  induction codes with
  | nil => intro p; exact Nat.le_refl _
  | cons c cs ih =>
    intro p
    have := ih (p + 1)
    simp only [st]
    split <;> simp only [List.length_cons] <;> omega
theorem rangeKs_at {n i : Nat} {k : Int} (h : (rangeKs 0 n)[i]? = some k) : k = (i : Int) := by
  unfold rangeKs at h
  rw [List.getElem?_map] at h
  obtain ⟨j, hj, rfl⟩ := Option.map_eq_some_iff.mp h
  by_cases hi : i < n
  · rw [List.getElem?_eq_getElem (by simpa using hi)] at hj
    have := Option.some.inj hj
    rw [List.getElem_range] at this
    omega
  · rw [List.getElem?_eq_none (by simpa using hi)] at hj
    cases hj
/-- the view of a ledger -/
theorem view_of {h₀ h : Heap} {L : Addr} {news : List (Addr × Obj)} {x dx c : Addr} {h1 h2 : Int} {t1 t2 t3 : Tok} {vs : List Value} {n : Nat} {codes : List Int} {first : Int} (_ : News h₀ L h news)
    (a : (x, instObj 123 dx) ∈ news) (b : (dx, dictOf [⟨h1, .str (Str.ofString "codes") t1, .ref c⟩, ⟨h2, .str (Str.ofString "place") t2, .int first t3⟩] 2) ∈ news) (e : (c, listOf vs.toArray n) ∈ news) (i : IntsAre vs codes)
    (l : codes.length ≤ 12) (lo : 1 ≤ first) (hi : first ≤ 5) : ViewIn news x codes first := ⟨⟨dx, c, h1, h2, t1, t2, t3, vs, n, a, b, e, i⟩, l, lo, hi⟩
section
variable {prog : Program} {w : World} {A : Around} {h₀ : Heap} {L : Addr} {m : Str → Option Value} {env : Env} {ct elt : PySem.Expr} {x : Str} {scope : Scope} {cl : List (Str × Addr)} {s : Shared} {S : List (Addr × Obj) → Prop} {Fin : List Value → List (Addr × Obj) → Prop} {news : List (Addr × Obj)}
/-- the comprehension that gathers the beginnings of lines -/
theorem comp_starts {n : Nat} {xv : Addr} {codes : List Int} {first : Int} {nx : List (Addr × Obj)} (_ : ViewIn nx xv codes first) (hn : n = codes.length) (hS : S news)
    (turn : ∀ (k : Int) t I oI C oC D m₂ ys h tk (E' : Value → Shared → Prop), 0 ≤ k → k < (codes.length : Int) → LCg.NsObj oC m₂ → m₂ x = some (.int k t) → Fr h₀ L h m → News h₀ L h ((I, oI) :: (C, oC) :: (D, LCg.lst ys) :: news) → LCg.Off3 I C D news → ((@Ne Nat I C) ∧ (@Ne Nat I D) ∧ (@Ne Nat C D)) →
      wpAny (model prog w) A (isTrue ct (compEnvC scope cl C env) (eval ct (compEnvC scope cl C env))) (fun b s' => if b = true then wpAny (model prog w) A (eval elt (compEnvC scope cl C env)) (CtEnd h₀ L m { s with heap := h, toks := tk } I oI C oC D (LCg.lst ys) S news (fun y => codes.getD k.toNat 0 = 10 ∧ ∃ t', y = .int (first + k + 1) t')) E' s'
        else CtEnd h₀ L m { s with heap := h, toks := tk } I oI C oC D (LCg.lst ys) S news (fun _ => ¬ codes.getD k.toNat 0 = 10) Value.none s') E' { s with heap := h, toks := tk })
    (fin : ∀ ys, IntsAre ys (st codes first) → (st codes first).length ≤ codes.length → Fin ys news) : LCt.CompRestT prog w A h₀ L m env ct elt x scope cl s S (fun i v => ∃ t, v = .int (0 + (i : Int)) t) Fin n 0 [] news := by
  refine comp_test (rangeKs 0 n) (fun i ys => IntsAre ys (st (codes.take i) first)) (items_range 0 n) .nil hS ?_ (fun ys hy => fin ys (by rw [hn, List.take_length] at hy; exact hy) (st_length _ _))
  intro i k t I oI C oC D m₂ ys h tk E' hi hk hy hC hx F N off ne
  have hk' := rangeKs_at hk
  subst hk'
  have hi' : i < codes.length := by omega
  refine wpAny_mono (turn i t I oI C oC D m₂ ys h tk E' (by omega) (by omega) hC hx F N off ne) (fun b s₂ hq => ?_) fun _ _ e => e
  cases b with
  | true =>
    simp only [if_true] at hq ⊢
    refine wpAny_mono hq (fun y s₃ hr => hr.mono ?_) fun _ _ e => e
    rintro ⟨h10, t', rfl⟩
    rw [st_take_succ hi', if_pos (by simpa using h10)]
    exact IntsAre.append hy (.cons _ _ .nil)
  | false =>
    simp only [Bool.false_eq_true, if_false] at hq ⊢
    refine hq.mono fun h10 => ?_
    rw [st_take_succ hi', if_neg (by simpa using h10), List.append_nil]
    exact hy
/-- the comprehension that gathers the numbers up to a bound -/
theorem comp_upto {vs : List Value} {ns : List Int} {p : Int} {t₀ : Tok} {o : Obj} (_ : o.data = .cell (some (.int p t₀))) (hI : IntsAre vs ns) (hS : S news)
    (turn : ∀ (k : Int) t I oI C oC D m₂ ys h tk (E' : Value → Shared → Prop), LCg.NsObj oC m₂ → m₂ x = some (.int k t) → Fr h₀ L h m → News h₀ L h ((I, oI) :: (C, oC) :: (D, LCg.lst ys) :: news) → LCg.Off3 I C D news → ((@Ne Nat I C) ∧ (@Ne Nat I D) ∧ (@Ne Nat C D)) →
      wpAny (model prog w) A (isTrue ct (compEnvC scope cl C env) (eval ct (compEnvC scope cl C env))) (fun b s' => if b = true then wpAny (model prog w) A (eval elt (compEnvC scope cl C env)) (CtEnd h₀ L m { s with heap := h, toks := tk } I oI C oC D (LCg.lst ys) S news (fun y => k ≤ p ∧ ∃ t', y = .int k t')) E' s'
        else CtEnd h₀ L m { s with heap := h, toks := tk } I oI C oC D (LCg.lst ys) S news (fun _ => ¬ k ≤ p) Value.none s') E' { s with heap := h, toks := tk })
    (fin : ∀ ys, IntsAre ys (ns.filter (fun k => decide (k ≤ p))) → (ns.filter (fun k => decide (k ≤ p))).length ≤ ns.length → Fin ys news) : LCt.CompRestT prog w A h₀ L m env ct elt x scope cl s S (fun i v => vs.toArray[i]? = some v) Fin vs.toArray.size 0 [] news := by
  have hl := hI.length
  refine comp_test ns (fun i ys => IntsAre ys ((ns.take i).filter (fun k => decide (k ≤ p)))) (items_list hI) .nil hS ?_ (fun ys hy => fin ys (by rw [List.size_toArray, hl, List.take_length] at hy; exact hy) (List.length_filter_le _ _))
  intro i k t I oI C oC D m₂ ys h tk E' hi hk hy hC hx F N off ne
  have e : ns.take (i + 1) = ns.take i ++ [k] := by rw [List.take_add_one, hk]; rfl
  refine wpAny_mono (turn k t I oI C oC D m₂ ys h tk E' hC hx F N off ne) (fun b s₂ hq => ?_) fun _ _ e => e
  cases b with
  | true =>
    simp only [if_true] at hq ⊢
    refine wpAny_mono hq (fun y s₃ hr => hr.mono ?_) fun _ _ e => e
    rintro ⟨h10, t', rfl⟩
    rw [e, List.filter_append]
    simp only [List.filter_cons, h10, decide_true, if_true, List.filter_nil]
    exact IntsAre.append hy (.cons _ _ .nil)
  | false =>
    simp only [Bool.false_eq_true, if_false] at hq ⊢
    refine hq.mono fun h10 => ?_
    rw [e, List.filter_append]
    simp only [List.filter_cons, h10, decide_false, Bool.false_eq_true, if_false, List.filter_nil, List.append_nil]
    exact hy
end
end
section
open PySem PySem.W PySem.Calls PyProof.Rows PyProof.V PySem.Spec
/-- a mark: within the loop over the numbers -/
inductive InFor : Prop where
  | mk
section
variable {prog : Program} {w : World} {A : Around} {E : Value → Shared → Prop} {s : Shared} {env : Env} {h₀ : Heap} {x : Str} {body : List Stmt} {Q : Flow → Shared → Prop}
/-- a loop over a range by ones that stores nothing but its own name -/
theorem for_plain {r : Addr} {a₀ b₀ : Int} {t₀ u₀ v₀ : Tok} {n : Nat} {m₀ : Str → Option Value} {news : List (Addr × Obj)}
    (hh : A.handled = none) (hr : IsRange s.heap r a₀ b₀ 1 t₀ u₀ v₀) (hsmall : Builtin.Range.small a₀ b₀ 1 = true) (hsz : Builtin.Range.rangeSize a₀ b₀ 1 = (n : Int)) (F : Fr h₀ env.locals s.heap m₀) (N : News h₀ env.locals s.heap news)
    (fb : ∀ (k : Int) t h tk own, InFor → a₀ ≤ k → k < a₀ + (n : Int) → OwnOff own (news.map (·.1)) → Fr h₀ env.locals h (fun y => if y = x then some (.int k t) else m₀ y) → News h₀ env.locals h (news ++ own) →
      wpAny (model prog w) A (execs body env) (ForPost h₀ env.locals { s with heap := h, toks := tk } x own (fun _ : Unit => news) (fun _ => m₀) (fun _ => True) Q) E { s with heap := h, toks := tk })
    (fc : ∀ (v : Option Value) h tk, Fr h₀ env.locals h (fun y => if y = x then v else m₀ y) → News h₀ env.locals h news → Q .next { s with heap := h, toks := tk }) :
    ForGo prog w A h₀ env x body Q E (.ref r) s :=
  for_range (fun m₀ _ => m₀) (fun _ : Unit => news) (fun _ => True) () hh hr hsmall hsz (fun _ => rfl) F N (fun _ h => h) (fun _ _ => rfl) trivial
    (fun k t _ h tk own hl hk ho _ F N => fb k t h tk own .mk hl hk ho F N) (fun _ v h tk _ F N => fc v h tk F N)
end
end
section
theorem stAt_first (codes : List Int) (first : Int) : stAt codes first first = st codes first := by
  unfold stAt
  rw [show (first - first).toNat = 0 by omega, List.drop_zero]
theorem getD_in {l : List Int} {n : Nat} {a b : Int} (h : n < l.length) : l.getD n a = l.getD n b := by
  rw [List.getD_eq_getElem?_getD, List.getD_eq_getElem?_getD, List.getElem?_eq_getElem h]
  rfl
theorem getD_out {l : List Int} {n : Nat} {a : Int} (h : l.length ≤ n) : l.getD n a = a := by
  rw [List.getD_eq_getElem?_getD, List.getElem?_eq_none h]
  rfl
/-- the number of a line leads to its beginning -/
theorem number_get {cs : List Int} {f k r : Int} (p : (k ≤ 1 ∧ r = f) ∨ (1 < k ∧ r = (stAt cs f f).getD (k - 2).toNat (f + cs.length))) (h0 : 1 ≤ k) (h1 : k ≤ 1 + ((st cs f).length : Int))
    (a : r ≠ ([f] ++ st cs f).getD (k - 1).toNat 0) : False := by
  rcases p with ⟨h, rfl⟩ | ⟨h, rfl⟩
  · refine a ?_
    rw [show (k - 1).toNat = 0 by omega]
    rfl
  · refine a ?_
    rw [stAt_first, show (k - 1).toNat = (k - 2).toNat + 1 by omega]
    show _ = (st cs f).getD (k - 2).toNat 0
    exact getD_in (by omega)
/-- a number behind the last leads to the end -/
theorem number_last {cs : List Int} {f k r : Int} (p : (k ≤ 1 ∧ r = f) ∨ (1 < k ∧ r = (stAt cs f f).getD (k - 2).toNat (f + cs.length))) (a : r ≠ f + cs.length) (h : k = 2 + ((st cs f).length : Int)) : False := by
  rcases p with ⟨h', _⟩ | ⟨h', rfl⟩
  · omega
  · refine a ?_
    rw [stAt_first]
    exact getD_out (by omega)
/-- the beginnings behind a place lie behind it, up to the end -/
theorem st_mem {cs : List Int} : ∀ {p x : Int}, x ∈ st cs p → p < x ∧ x ≤ p + cs.length := by
  induction cs with
  | nil => intro p x h; cases h
  | cons c cs ih =>
    intro p x h
    have h2 : x = p + 1 ∨ x ∈ st cs (p + 1) := by
      simp only [st] at h
      split at h
      · exact (List.mem_cons.mp h).imp id id
      · exact .inr h
    simp only [List.length_cons]
    rcases h2 with rfl | h2
    · omega
    · have := ih h2
      omega
theorem st_split {cs : List Int} {f q : Int} (h1 : f ≤ q) (h2 : q ≤ f + cs.length) : st cs f = st (cs.take (q - f).toNat) f ++ stAt cs f q := by
  have e : cs = cs.take (q - f).toNat ++ cs.drop (q - f).toNat := (List.take_append_drop _ _).symm
  unfold stAt
  conv => lhs; rw [e, st_append]
  congr 2
  rw [List.length_take]
  omega
theorem stAt_mem {cs : List Int} {f q x : Int} (h1 : f ≤ q) (h2 : q ≤ f + cs.length) (h : x ∈ stAt cs f q) : x ∈ st cs f ∧ q < x := by
  refine ⟨by rw [st_split h1 h2]; exact List.mem_append_right _ h, ?_⟩
  unfold stAt at h
  exact (st_mem h).1
/-- where a target of the next line stands: at a beginning behind the place, or at the end -/
theorem target_in {cs : List Int} {f q r : Int} (h1 : f ≤ q) (h2 : q ≤ f + cs.length) (h : r = (stAt cs f q).getD 0 (f + cs.length)) : (r ∈ st cs f ∧ q < r) ∨ r = f + cs.length := by
  cases e : stAt cs f q with
  | nil => right; rw [h, e]; rfl
  | cons x l =>
    left
    rw [e] at h
    have hr : r = x := h
    rw [hr]
    exact stAt_mem h1 h2 (by rw [e]; exact .head _)
theorem filter_le_all {l : List Int} {p : Int} (h : ∀ x ∈ l, x ≤ p) : l.filter (fun k => decide (k ≤ p)) = l :=
  List.filter_eq_self.mpr fun x hx => decide_eq_true (h x hx)
theorem filter_le_none {l : List Int} {p : Int} (h : ∀ x ∈ l, p < x) : l.filter (fun k => decide (k ≤ p)) = [] :=
  List.filter_eq_nil_iff.mpr fun x hx => by
    have := h x hx
    simp only [decide_eq_true_eq]
    omega
/-- the last beginning up to a place is that place's line's beginning -/
theorem own_line {cs : List Int} {f p r k b : Int} (q : (k ≤ 1 ∧ r = f) ∨ (1 < k ∧ r = (stAt cs f f).getD (k - 2).toNat (f + cs.length)))
    (b4 : ∀ x, b ≤ x → x < p → codeAt cs f x ≠ 10) (b3 : b = f ∨ codeAt cs f (b - 1) = 10) (b1 : f ≤ b) (b2 : b ≤ p) (h1 : f ≤ p) (h2 : p ≤ f + cs.length)
    (hk : k = (((f :: st cs f).filter (fun k => decide (k ≤ p))).length : Int)) (a : r ≠ b) : False := by
  -- the beginnings: those up to b, and those behind p
  have e1 : stAt cs f b = stAt cs f p := stAt_skip b1 b2 h2 b4
  have e2 : st cs f = st (cs.take (b - f).toNat) f ++ stAt cs f p := by rw [← e1]; exact st_split b1 (by omega)
  have m1 : ∀ x ∈ st (cs.take (b - f).toNat) f, x ≤ p := fun x hx => by
    have := st_mem hx
    rw [List.length_take] at this
    omega
  have m2 : ∀ x ∈ stAt cs f p, p < x := fun x hx => (stAt_mem h1 h2 hx).2
  have hk2 : k = 1 + ((st (cs.take (b - f).toNat) f).length : Int) := by
    have e : (f :: st cs f).filter (fun k => decide (k ≤ p)) = f :: st (cs.take (b - f).toNat) f := by
      rw [show f :: st cs f = [f] ++ st cs f from rfl, e2, List.filter_append, List.filter_append, filter_le_all m1, filter_le_none m2, List.append_nil, filter_le_all (l := [f]) (fun x hx => by rw [List.mem_singleton.mp hx]; exact h1)]
      rfl
    rw [e] at hk
    simp only [List.length_cons] at hk
    omega
  rcases b3 with rfl | b3
  · have hk1 : k = 1 := by
      rw [hk2, show (b - b).toNat = 0 by omega, List.take_zero]
      rfl
    rcases q with ⟨_, h⟩ | ⟨h, _⟩
    · exact a h
    · omega
  · -- the character ahead of b is a newline
    have hb : f ≤ b - 1 ∧ b - 1 < f + cs.length := by
      unfold codeAt at b3
      split at b3
      · assumption
      · exact absurd b3 (by decide)
    have e3 : st (cs.take (b - f).toNat) f = st (cs.take (b - 1 - f).toNat) f ++ [b] := by
      have hi : (b - 1 - f).toNat < cs.length := by omega
      have := st_take_succ (codes := cs) (p := f) hi
      rw [show (b - f).toNat = (b - 1 - f).toNat + 1 by omega, this]
      congr 1
      have h10 : cs.getD (b - 1 - f).toNat 0 = 10 := by
        unfold codeAt at b3
        rw [if_pos hb] at b3
        exact b3
      rw [if_pos h10]
      congr 1
      omega
    have hk3 : k = 2 + ((st (cs.take (b - 1 - f).toNat) f).length : Int) := by
      rw [hk2, e3, List.length_append]
      simp only [List.length_cons, List.length_nil]
      omega
    rcases q with ⟨h, _⟩ | ⟨_, h⟩
    · omega
    · refine a ?_
      rw [h, stAt_first, e2, e3, show (k - 2).toNat = (st (cs.take (b - 1 - f).toNat) f).length by omega, List.append_assoc, List.getD_eq_getElem?_getD, List.getElem?_append_right (Nat.le_refl _), Nat.sub_self]
      rfl
/-- a target is a beginning or the end -/
theorem told_in {cs : List Int} {f a r : Int} (p4 : r = (stAt cs f a).getD 0 (f + cs.length)) (h : (([f] ++ st cs f ++ [f + cs.length]).any fun x => x == r) = false) (p1 : f ≤ a) (p2 : a ≤ f + cs.length) : False := by
  have hm : r ∈ [f] ++ st cs f ++ [f + (cs.length : Int)] := by
    rcases target_in p1 p2 p4 with ⟨h, _⟩ | h
    · exact List.mem_append_left _ (List.mem_append_right _ h)
    · exact List.mem_append_right _ (by rw [h]; exact .head _)
  have := (List.any_eq_false.mp h) r hm
  simp at this
/-- a target lies behind the place, or is the end -/
theorem told_far {cs : List Int} {f a r X : Int} (p4 : r = (stAt cs f a).getD 0 (f + cs.length)) (p3 : a = max f (min (f + cs.length) (f + X)))
    (h1 : r ≤ if f + X < f + cs.length then f + X else f + cs.length) (h2 : (if f + X < f + cs.length then f + X else f + cs.length) < f + cs.length) : False := by
  have := target_in (cs := cs) (f := f) (q := a) (r := r) (by omega) (by omega) p4
  split at h2
  · rw [if_pos (by assumption)] at h1
    omega
  · omega
theorem tenths_abs {a b : Int} (h : Int.fdiv (a * b) 10 ≠ Int.fdiv (b * a) 10) : False := h (by rw [Int.mul_comm])
end
/-- every address but d -/
def AllNe (d : Nat) : List (Addr × Obj) → Prop
  | [] => True
  | p :: r => @Ne Nat p.1 d ∧ AllNe d r
theorem allNe_of {d : Addr} : ∀ {l : List (Addr × Obj)}, (∀ p ∈ l, p.1 ≠ d) → AllNe d l
  | [], _ => trivial
  | p :: _, h => ⟨h p (.head _), allNe_of fun q hq => h q (.tail _ hq)⟩
theorem some_codes_use {w : World} {mean : ExcName → Option Value} {mg mb : Str → Option Value} {t t2 : Tok} {d : Addr} {vs : List Value} {ns : List Int} {n : Nat} {news : List (Addr × Obj)} {g : Obj → List (Addr × Obj)}
    {dp un : Nat} {gd : Option (List Code)} {cn : Str} {cs : Scope} {a : Addr} {ccd : Value} {cl : List (Str × Addr)} {outer : List Env} {A₀ : Around} {base h₀ : Heap} {L : Addr} {m : Str → Option Value} {s : Shared} {Q E : Value → Shared → Prop}
    (B : Below A₀ base outer h₀) (F : Fr h₀ L s.heap m) (X : (hd.heap_39 w.params).In h₀) (N : News h₀ L s.heap news) (T : Top hd.view_39 (looseW hd.view_39 []) mean mg mb h₀) (hk : cs.kind = .function)
    (U : UpdF d (listOf vs.toArray n) news g) (hi : IntsAre vs ns) (hd : DeckOk ns) (hdp : dp + 8 < recursionLimit) (hu : un + 8 * 8 < cLine)
    (k : ∀ (q : Addr) (us : List Value) (codes : List Int) (kk : Nat) (vs' : List Value) (ns' : List Int) (n' : Nat) (h' : Heap) (tk' : Nat), (∀ p ∈ g (listOf vs'.toArray n'), p.1 ≠ q) → IntsAre us codes → codes.length ≤ 12 → (∀ x ∈ codes, x = 97 ∨ x = 98 ∨ x = 10) → IntsAre vs' ns' → DeckOk ns' →
      Fr h₀ L h' m → News h₀ L h' ((q, listOf us.toArray kk) :: g (listOf vs'.toArray n')) → Q (.ref q) { s with heap := h', toks := tk' }) :
    wpAny (model Challenge.rw_oj0018_01.row.prog w) (ktrTop dp un gd cn cs L a ccd cl outer) (call (.ref 151) [.ref d, .str (Str.ofString "ab\n") t, .int 12 t2]) Q E s := by
  obtain ⟨pre, post, rfl, hg, h1, h2⟩ := U.split
  have h3 : ∀ p ∈ pre ++ post, p.1 ≠ d := fun p hp => (List.mem_append.mp hp).elim (h1 p) (h2 p)
  have N' : News h₀ L s.heap ((d, listOf vs.toArray n) :: (pre ++ post)) := fun p hp => N p (by simp only [List.mem_cons, List.mem_append] at hp ⊢; rcases hp with h | h | h <;> simp [h])
  refine Claim.use B F X N' T hk (some_codes_ok hi hd h3) hdp hu fun v nx h' tk' r F' N₂ => ?_
  obtain ⟨q, us, codes, kk, vs', ns', n', rfl, rfl, o1, o2, i1, i2, i3, i4, i5⟩ := r
  refine k q us codes kk vs' ns' n' h' tk' ?_ i1 i2 i3 i4 i5 F' ?_
  · rw [hg]
    intro p hp
    rcases List.mem_append.mp hp with hp | hp
    · exact o1 p (List.mem_append_left _ hp)
    · rcases List.mem_cons.mp hp with rfl | hp
      · exact o2
      · exact o1 p (List.mem_append_right _ hp)
  · rw [hg]
    exact fun p hp => N₂ p (by simp only [List.mem_cons, List.mem_append] at hp ⊢; rcases hp with h | h | h | h <;> simp [h])
/-- what stands between the turns of the law: the deck, the three cells, the names -/
structure LawSt where
  vs : List Value
  ns : List Int
  n : Nat
  o1 : Obj
  o2 : Obj
  o3 : Obj
  m : Str → Option Value
abbrev LawSt.map (q : Addr) (c : LawSt) (y : Str) : Option Value := if y = Str.ofString "_law_deck" then some (.ref q) else c.m y
abbrev LawSt.led (q q1 q2 q3 : Addr) (c : LawSt) : List (Addr × Obj) := [(q, listOf c.vs.toArray c.n), (q1, c.o1), (q2, c.o2), (q3, c.o3)]
structure LawSt.Ok (c : LawSt) : Prop where
  nums : IntsAre c.vs c.ns
  deck : DeckOk c.ns
  c1 : IsCell c.o1
  c2 : IsCell c.o2
  c3 : IsCell c.o3
/-- the end of a turn of the law -/
def LawEnd (h₀ : Heap) (L q q1 q2 q3 : Addr) (own : List (Addr × Obj)) (s : Shared) (Q : Flow → Shared → Prop) (f : Flow) (s₃ : Shared) : Prop :=
  match f with
  | .ret v => Q (.ret v) s₃
  | .brk => Q .next s₃
  | _ => ∃ (c : LawSt) (h' : Heap) (tk : Nat) (news' : List (Addr × Obj)), s₃ = { s with heap := h', toks := tk } ∧ Fr h₀ L h' c.m ∧ c.m (Str.ofString "_law_deck") = some (.ref q) ∧ News h₀ L h' news' ∧ (∀ p ∈ c.led q q1 q2 q3 ++ own, p ∈ news') ∧ c.Ok
theorem LawEnd.mk' {h₀ : Heap} {L q q1 q2 q3 : Addr} {own news' : List (Addr × Obj)} {s : Shared} {Q : Flow → Shared → Prop} {m : Str → Option Value} {h' : Heap} {tk n : Nat} {vs : List Value} {ns : List Int} {x1 x2 x3 : Obj} {w1 w2 w3 : Option Value}
    (F : Fr h₀ L h' m) (hm : m (Str.ofString "_law_deck") = some (.ref q)) (N : News h₀ L h' news') (hq : (q, listOf vs.toArray n) ∈ news') (e1 : (q1, x1) ∈ news') (e2 : (q2, x2) ∈ news') (e3 : (q3, x3) ∈ news') (ho : ∀ p ∈ own, p ∈ news')
    (hi : IntsAre vs ns) (hd : DeckOk ns) (h1 : x1.data = .cell w1) (h2 : x2.data = .cell w2) (h3 : x3.data = .cell w3) : LawEnd h₀ L q q1 q2 q3 own s Q .next { s with heap := h', toks := tk } :=
  ⟨⟨vs, ns, n, x1, x2, x3, m⟩, h', tk, news', rfl, F, hm, N, fun p hp => (List.mem_append.mp hp).elim (fun hp => by
    rcases List.mem_cons.mp hp with rfl | hp
    · exact hq
    rcases List.mem_cons.mp hp with rfl | hp
    · exact e1
    rcases List.mem_cons.mp hp with rfl | hp
    · exact e2
    · rw [List.mem_singleton.mp hp]; exact e3) (ho p), ⟨hi, hd, ⟨_, h1⟩, ⟨_, h2⟩, ⟨_, h3⟩⟩⟩
theorem law_for {prog : Program} {w : World} {A : Around} {E : Value → Shared → Prop} {s : Shared} {env : Env} {h₀ : Heap} {body : List Stmt} {Q : Flow → Shared → Prop} {r q q1 q2 q3 : Addr} {a₀ b₀ : Int} {t₀ u₀ v₀ : Tok} (n : Nat) {us : List Value} {ms : List Int} {k : Nat} {x1 x2 x3 : Obj} {w1 w2 w3 : Option Value} {m₀ : Str → Option Value}
    (hh : A.handled = none) (hr : IsRange s.heap r a₀ b₀ 1 t₀ u₀ v₀) (hsmall : Builtin.Range.small a₀ b₀ 1 = true) (hsz : Builtin.Range.rangeSize a₀ b₀ 1 = (n : Int)) (F : Fr h₀ env.locals s.heap m₀) (N : News h₀ env.locals s.heap [(q, listOf us.toArray k), (q1, x1), (q2, x2), (q3, x3)])
    (hi : IntsAre us ms) (hd : DeckOk ms) (hm : m₀ (Str.ofString "_law_deck") = some (.ref q)) (h1 : x1.data = .cell w1) (h2 : x2.data = .cell w2) (h3 : x3.data = .cell w3)
    (fb : ∀ k t (c : LawSt) h tk own, OwnOff own [q, q1, q2, q3] → c.Ok → Fr h₀ env.locals h (fun y => if y = Str.ofString "_law_turn" then some (.int k t) else c.map q y) → News h₀ env.locals h (c.led q q1 q2 q3 ++ own) →
      wpAny (model prog w) A (execs body env) (LawEnd h₀ env.locals q q1 q2 q3 own { s with heap := h, toks := tk } Q) E { s with heap := h, toks := tk })
    (fc : ∀ (c : LawSt) (v : Option Value) h tk, c.Ok → Fr h₀ env.locals h (fun y => if y = Str.ofString "_law_turn" then v else c.map q y) → News h₀ env.locals h (c.led q q1 q2 q3) → Q .next { s with heap := h, toks := tk }) :
    ForGo prog w A h₀ env (Str.ofString "_law_turn") body Q E (.ref r) s := by
  refine for_range (n := n) (fun _ c => LawSt.map q c) (LawSt.led q q1 q2 q3) (fun c => c.Ok) ⟨us, ms, k, x1, x2, x3, m₀⟩ hh hr hsmall hsz (fun _ => rfl) F N (fun _ h => h) ?_ ⟨hi, hd, ⟨_, h1⟩, ⟨_, h2⟩, ⟨_, h3⟩⟩ ?_ fc
  · intro y _
    show m₀ y = if y = Str.ofString "_law_deck" then some (.ref q) else m₀ y
    by_cases e : y = Str.ofString "_law_deck"
    · rw [if_pos e, e, hm]
    · rw [if_neg e]
  · intro k t c h tk own _ _ ho hc F N
    refine wpAny_mono (fb k t c h tk own ho hc F N) (fun f s₃ p => ?_) fun _ _ e => e
    have up : (∃ (c : LawSt) (h' : Heap) (tk' : Nat) (news' : List (Addr × Obj)), s₃ = { s with heap := h', toks := tk' } ∧ Fr h₀ env.locals h' c.m ∧ c.m (Str.ofString "_law_deck") = some (.ref q) ∧ News h₀ env.locals h' news' ∧ (∀ p ∈ c.led q q1 q2 q3 ++ own, p ∈ news') ∧ c.Ok) →
        ForEnd h₀ env.locals { s with heap := h, toks := tk } (Str.ofString "_law_turn") own (LawSt.led q q1 q2 q3) (fun c => LawSt.map q c) (fun c => c.Ok) s₃ := by
      rintro ⟨c', h', tk', news', rfl, F', hm', N', hn', hc'⟩
      refine ForEnd.mk' (s := { s with heap := h, toks := tk }) c' F' N' hn' (fun y _ => ?_) hc'
      show c'.m y = if y = Str.ofString "_law_deck" then some (.ref q) else c'.m y
      by_cases e : y = Str.ofString "_law_deck"
      · rw [if_pos e, e, hm']
      · rw [if_neg e]
    cases f with
    | ret v => exact p
    | brk => exact p
    | next => exact up p
    | cont => exact up p
local macro_rules | `(tactic| walk_at "ForGo") => `(tactic| k_dflt (k_extra "my for"))
local macro_rules | `(tactic| walk_at "exec For Name Subscript cons nil") => `(tactic| (k_here; (rename Fr _ _ _ _ => lF'); k_dflt (with_unfolding_all refine' for_enter lF' ?k1 ?k2 ?_; (case k1 => exact rfl); (case k2 => exact rfl); k_whole)))
local macro_rules | `(tactic| walk_at "exec For Name Call cons nil") => `(tactic| (k_here; (rename Fr _ _ _ _ => lF'); k_dflt (with_unfolding_all refine' for_enter lF' ?k1 ?k2 ?_; (case k1 => exact rfl); (case k2 => exact rfl); k_whole)))
local macro_rules | `(tactic| walk_at "ForPost") => `(tactic| (dsimp only [ForPost]))
local macro_rules | `(tactic| walk_at "CompSrcT") => `(tactic| k_dflt (k_extra "my compT"))
theorem pow_some {prog : Program} {w : World} {A : Around} {E : Value → Shared → Prop} {s : Shared} {a n : Int} {t u : Tok} {Q : Value → Shared → Prop} (hn : 0 ≤ n) (hn2 : n ≤ 1000000) (ha : a.natAbs < 2 ^ 64) (h0 : 0 < a ^ n.toNat) (h1 : a ^ n.toNat < 1606938044258990275541962092341162602522202993782792835301376)
    (h : ∀ k : Int, 0 < k → k < 1606938044258990275541962092341162602522202993782792835301376 → Q (.int k s.toks) { s with toks := s.toks + 1 }) : wpAny (model prog w) A (binaryOp .Pow (.int a t) (.int n u)) Q E s :=
  pow_int_small hn hn2 ha (h _ h0 h1)
local macro_rules | `(tactic| walk_at "binaryOp Pow int int") => `(tactic| (refine pow_some (by decide) (by decide) (by decide) (by decide) (by decide) ?_; intro k8 hk8 hk9))
local macro_rules | `(tactic| walk_at "eval ListComp") => `(tactic| (k_here; lct_look; k_dflt (refine LCt.ListComp_T (F₀ := by k_asm) (by with_unfolding_all rfl) (by decide) (by rfl) (by decide) (by rfl) ?_)))
local macro_rules | `(tactic| walk_at "binaryOp Add ref ref") => `(tactic| (k_here; (with_reducible show wpAny _ _ (binaryOp _ (Value.ref _) (Value.ref _)) _ _ _); k_dflt (refine' kmk_add_ints ?F ?N ?a ?b ?i ?j ?_ ?z; (case F => k_asm); (case N => k_asm); (case a => kmk_list); (case b => kmk_list); (case i => l_ints); (case j => l_ints); (case z => (rw [PySem.sizeLine_eq]; simp only [List.length_cons, List.length_nil]; omega))); intro D' ws' h' F' N' l1 hI'; (try k_lt l1); (try k_sweep)))
/-- what the comprehension of the deck has gathered -/
def DeckAcc (i : Nat) (ys : List Value) : Prop := ∃ ms : List Int, IntsAre ys ms ∧ ms.length ≤ i ∧ ∀ x ∈ ms, 0 ≤ x ∧ x < 1606938044258990275541962092341162602522202993782792835301376
theorem deck_more {i : Nat} {ys : List Value} {ms : List Int} {a k : Int} {t : Tok} (h1 : IntsAre ys ms) (h2 : ms.length ≤ i) (h3 : ∀ x ∈ ms, 0 ≤ x ∧ x < 1606938044258990275541962092341162602522202993782792835301376)
    (hk : 0 < k) (hk2 : k < 1606938044258990275541962092341162602522202993782792835301376) : DeckAcc (i + 1) (ys ++ [.int (Int.fmod a k) t]) :=
  ⟨_, IntsAre.append h1 (.cons _ _ .nil), by rw [List.length_append]; exact Nat.succ_le_succ h2, fun y hy => (List.mem_append.mp hy).elim (h3 y) fun h => by
    rw [List.mem_singleton.mp h]
    have := fmod_in (a := a) (k := k) (by omega)
    exact ⟨this.1, Int.lt_trans this.2 hk2⟩⟩
theorem deck_made {ms : List Int} {x : Int} (h3 : ∀ x ∈ ms, 0 ≤ x ∧ x < 1606938044258990275541962092341162602522202993782792835301376) (h4 : ms.length ≤ 24) (h0 : 0 ≤ x) (h1 : x ≤ 2147483647) : DeckOk (ms ++ [x]) :=
  ⟨by rw [List.length_append]; exact Nat.le_add_left _ _, by rw [List.length_append]; exact Nat.le_trans (Nat.add_le_add_right h4 1) (by decide), fun y hy => (List.mem_append.mp hy).elim (h3 y) fun h => by
    rw [List.mem_singleton.mp h]
    exact ⟨h0, Int.lt_of_le_of_lt h1 (by decide)⟩⟩
theorem newsSub {h₀ h : Heap} {L : Addr} {l l' : List (Addr × Obj)} (N : News h₀ L h l) (hs : ∀ p ∈ l', p ∈ l) : News h₀ L h l' := fun p hp => N p (hs p hp)
theorem fmod_le (a : Int) : 0 ≤ Int.fmod a 2147483647 ∧ Int.fmod a 2147483647 ≤ 2147483647 := by
  have := fmod_in (a := a) (k := 2147483647) (by decide)
  omega
set_option maxHeartbeats 1500000 in
theorem deck_of_ok {w : World} {mean : ExcName → Option Value} {mg mb : Str → Option Value} {l : Addr} {vs : List Value} {ns : List Int} (hi : IntsAre vs ns) (hn : ns.length ≤ 63) {a1 a2 a3 : Addr} {o1 o2 o3 : Obj}
    (dp un : Nat) (gd : Option (List Code)) (cn : Str) (cs : Scope) (a : Addr) (ccd : Value) (cl : List (Str × Addr)) (outer : List Env) (A₀ : Around) (base h₀ : Heap) (L : Addr) (m : Str → Option Value) (s : Shared) (Q E : Value → Shared → Prop)
    (B : Below A₀ base outer h₀) (F : Fr h₀ L s.heap m) (X : (hd.heap_39 w.params).In h₀) (N : News h₀ L s.heap [(a1, o1), (a2, o2), (a3, o3)]) (T : Top hd.view_39 (looseW hd.view_39 []) mean mg mb h₀) (hk : cs.kind = .function) (hdp : dp + 3 < recursionLimit) (hu : un + 8 * 3 < cLine)
    (hl : base.IsList l vs.toArray) :
    (∀ (q : Addr) (us : List Value) (ms : List Int) (n : Nat) (h' : Heap) (tk' : Nat), @LT.lt Nat _ a1 q ∧ @LT.lt Nat _ a2 q ∧ @LT.lt Nat _ a3 q → IntsAre us ms → DeckOk ms → Fr h₀ L h' m → News h₀ L h' [(q, listOf us.toArray n), (a1, o1), (a2, o2), (a3, o3)] → Q (.ref q) { s with heap := h', toks := tk' }) →
    wpAny (model Challenge.rw_oj0018_01.row.prog w) (ktrTop dp un gd cn cs L a ccd cl outer) (call (.ref 139) [.ref l]) Q E s := by
  revert X
  k_fill
  intro X hret
  refine wpAny_noRaise ?_
  refine wpAny_call ?_
  k_dflt cell_enter
  repeat' (first | (k_unfold; (try dsimp only)) | (k_end; wrow_close) | (dsimp only; walk1) | walk1 | (leave1; walk_say "STEP leave1"; try dsimp only) | fail "no step")
  rename Fr _ _ _ _ => lF'
  rename News _ _ _ _ => lN'
  rename IntsAre _ (List.take 24 ns) => hI24
  refine for_list (fun m₀ (c : Int × Tok) y => if y = Str.ofString "_law_mixed" then some (.int c.1 c.2) else m₀ y) (fun _ => [(_, listOf _ 0), (a1, o1), (a2, o2), (a3, o3)]) (fun _ c => 0 ≤ c.1 ∧ c.1 ≤ 2147483647) (7, ?tz) rfl (fun _ => .head _) (fun _ => rfl) hI24 lF' lN' (fun _ h => h) ?fa ?fp ?fb ?fc
  case fa =>
    intro y9 hy9
    by_cases e90 : y9 = Str.ofString "_law_mixed"
    subst e90
    exact rfl
    simp only [if_neg e90]
  case fp => exact ⟨show (0 : Int) ≤ 7 by decide, show (7 : Int) ≤ 2147483647 by decide⟩
  case fb =>
    rintro i9 n9 t9 ⟨x9, tx9⟩ h9 tk9 own9 hx9 ho9 ⟨hP1, hP2⟩ F9 N9
    clear lF' lN'
    (try dsimp only at hP1 hP2 F9)
    (try k_fold)
    repeat' (first | (k_unfold; (try dsimp only)) | (k_end; wrow_close) | (dsimp only; walk1) | walk1 | (leave1; walk_say "STEP leave1"; try dsimp only) | fail "no step")
    refine ForEnd.mk' (?fx, ?ft) (by k_asm) (by k_asm) (fun _ h => h) ?fe ?fq
    case fe =>
      intro y9 hy9
      by_cases e90 : y9 = Str.ofString "_law_mixed"
      subst e90
      exact rfl
      simp only [if_neg e90, if_neg hy9]
    case fq => exact fmod_le _
  case fc =>
    rintro ⟨x9, tx9⟩ v9 h9 tk9 ⟨hP1, hP2⟩ F9 N9
    clear lF' lN'
    (try dsimp only at hP1 hP2 F9)
    k_with "my compT" => (refine LCt.CompSrcT.ledger (by rfl) (by k_asm) (by k_asm) (by k_mem) (by rw [PySem.sizeLine_eq]; have hl8 := hI24.length; have hl9 := IntsAre.length (by assumption); simp only [List.size_toArray]; omega) ?_; intro g9; (refine comp_test (List.take 24 ns) DeckAcc (items_list (by assumption)) ⟨[], .nil, Nat.le_refl _, fun _ h => nomatch h⟩ (.inr ⟨_, by k_mem, rfl, _, rfl⟩) ?ct1 ?ct2); (case' ct1 => rintro i9 k9 t9 I9 oI9 C9 oC9 D9 m9 ys9 h9 tk9 E9 hi9 hk9 ⟨ms9, hA1, hA2, hA3⟩ hC9 hx9 F9 N9 off9 ne9; (try simp only [LCg.Off3] at off9); (try k_fold)); (case' ct2 => rintro ys9 ⟨ms9, hA1, hA2, hA3⟩; (have hA4 : ms9.length ≤ 24 := by have hl9 := IntsAre.length (ns := List.take 24 ns) (by assumption); simp only [List.size_toArray] at hA2; omega); clear hA2; (try dsimp only); (try k_fold)))
    repeat' (first | (k_unfold; (try dsimp only)) | (k_end; wrow_close) | (dsimp only; walk1) | walk1 | (leave1; walk_say "STEP leave1"; try dsimp only) | fail "no step")
    · rename _ < _ ∧ _ < _ ∧ _ < _ ∧ _ < _ ∧ _ < _ ∧ _ < _ ∧ _ < _ => hlt
      exact hret _ _ _ _ _ _ ⟨hlt.2.2.2.2.1, hlt.2.2.2.2.2.1, hlt.2.2.2.2.2.2⟩ (by assumption) (deck_made hA3 hA4 hP1 hP2) (by k_asm) (newsSub (by k_asm) (by k_allIn))
    · exact CtEnd.mk' (by k_asm) (by k_asm) (fun _ h => h) (by simp only [LCg.Off3]; exact off9) (.inr ⟨_, by k_mem, rfl, _, rfl⟩) (deck_more hA1 hA2 hA3 (by assumption) (by assumption))
    · exact CtEnd.mk' (by k_asm) (by k_asm) (fun _ h => h) (by simp only [LCg.Off3]; exact off9) (.inr ⟨_, by k_mem, rfl, _, rfl⟩) ⟨_, hA1, by omega, hA3⟩
local macro_rules | `(tactic| walk_at "call ref") => `(tactic| (k_here; (try dsimp only); (with_reducible show wpAny _ _ (call (Value.ref 139) _) _ _ _); k_dflt (refine' deck_of_ok ?ki ?kn _ _ _ _ _ _ _ _ _ _ _ _ _ _ _ _ _ ?k1 ?k2 ?k3 ?k4 ?k5 ?k6 ?k7 ?k8 ?k9 ?_; (case k1 => k_asm); (case k2 => k_asm); (case k3 => k_asm); (case k4 => k_asm); (case k5 => k_asm); (case k6 => first | exact rfl | assumption); (case k7 => ktr_room); (case k8 => ktr_units); (case k9 => assumption); (case ki => assumption); (case kn => omega); k_whole; intro q9 us9 ms9 n9 h9 tk9 l9 hI9 hD9 F9 N9; (try k_sweep); (try dsimp only); (try k_fold))))
local macro_rules | `(tactic| walk_at "call ref") => `(tactic| (k_here; (try dsimp only); (with_reducible show wpAny _ _ (call (Value.ref 56) _) _ _ _); k_dflt (refine' Claim.use2 (C := chars_target_ok ViewIn.mk') (k := ?_); k_whole; rintro q9 o9 h9 tk9 l9 ⟨r9, wd9, t9, u9, f9, p1, p2⟩; subst f9; intro F9 N9; (try k_lt l9); (try k_sweep); (try ((rename InIf => zz9); (rcases p2 with ⟨e9, p3⟩ | ⟨e9, p3⟩ | ⟨e9, p3⟩ <;> subst e9))); all_goals ((try dsimp only); (try k_fold)))))
local macro_rules | `(tactic| walk_at "call ref") => `(tactic| (k_here; (try dsimp only); (with_reducible show wpAny _ _ (call (Value.ref 49) _) _ _ _); k_dflt (refine' Claim.use1 (C := clamped_ok ViewIn.mk') (k := ?_); k_whole; rintro v9 h9 tk9 ⟨t9, f9⟩; subst f9; intro F9 N9; (try k_sweep); all_goals ((try dsimp only); (try k_fold)))))
local macro_rules | `(tactic| walk_at "call ref") => `(tactic| (k_here; (try dsimp only); (with_reducible show wpAny _ _ (call (Value.ref 63) _) _ _ _); k_dflt (refine' Claim.use1 (C := tenths_of_ok ViewIn.mk' (by first | assumption | omega | (simp only [List.size_toArray] at *; omega)) (by first | assumption | omega | (simp only [List.size_toArray] at *; omega))) (k := ?_); k_whole; rintro v9 h9 tk9 ⟨t9, f9⟩; subst f9; intro F9 N9; (try k_sweep); all_goals ((try dsimp only); (try k_fold)))))
local macro_rules | `(tactic| walk_at "call ref") => `(tactic| (k_here; (try dsimp only); (with_reducible show wpAny _ _ (call (Value.ref 70) _) _ _ _); k_dflt (refine' Claim.use1 (C := begin_target_ok ViewIn.mk' (by first | assumption | omega | (simp only [List.size_toArray] at *; omega)) (by first | assumption | omega | (simp only [List.size_toArray] at *; omega))) (k := ?_); k_whole; rintro v9 h9 tk9 ⟨r9, t9, a9, f9, p1, p2, p3, p4⟩; subst f9; intro F9 N9; (try k_sweep); all_goals ((try dsimp only); (try k_fold)))))
local macro_rules | `(tactic| walk_at "call ref") => `(tactic| (k_here; (try dsimp only); (with_reducible show wpAny _ _ (call (Value.ref 77) _) _ _ _); k_dflt (refine' Claim.use1 (C := end_target_ok ViewIn.mk' (by first | assumption | omega | (simp only [List.size_toArray] at *; omega)) (by first | assumption | omega | (simp only [List.size_toArray] at *; omega))) (k := ?_); k_whole; rintro v9 h9 tk9 ⟨r9, t9, a9, f9, p1, p2, p3⟩; subst f9; intro F9 N9; (try k_sweep); all_goals ((try dsimp only); (try k_fold)))))
local macro_rules | `(tactic| walk_at "call ref") => `(tactic| (k_here; (try dsimp only); (with_reducible show wpAny _ _ (call (Value.ref 84) _) _ _ _); k_dflt (refine' Claim.use1 (C := line_number_ok ViewIn.mk' (by first | assumption | omega | (simp only [List.size_toArray] at *; omega)) (by first | assumption | omega | (simp only [List.size_toArray] at *; omega))) (k := ?_); k_whole; rintro v9 h9 tk9 ⟨r9, t9, f9, p1⟩; subst f9; intro F9 N9; (try k_sweep); all_goals ((try dsimp only); (try k_fold)))))
local macro_rules | `(tactic| walk_at "call ref") => `(tactic| (k_here; (try dsimp only); (with_reducible show wpAny _ _ (call (Value.ref 21) _) _ _ _); k_dflt (refine' Claim.use1 (C := line_start_ok ViewIn.mk' (by first | assumption | omega | (simp only [List.size_toArray] at *; omega)) (by first | assumption | omega | (simp only [List.size_toArray] at *; omega))) (k := ?_); k_whole; rintro v9 h9 tk9 ⟨r9, t9, f9, p1, p2, p3, p4⟩; subst f9; intro F9 N9; (try k_sweep); all_goals ((try dsimp only); (try k_fold)))))
local macro_rules | `(tactic| walk_at "call ref") => `(tactic| (k_here; (try dsimp only); (with_reducible show wpAny _ _ (call (Value.ref 151) _) _ _ _); k_dflt (refine' some_codes_use ?k1 ?k2 ?k3 ?k4 ?k5 ?k6 ?ku ?ki ?kd ?k7 ?k8 ?_; (case k1 => k_asm); (case k2 => k_asm); (case k3 => k_asm); (case k4 => k_asm); (case k5 => k_asm); (case k6 => first | exact rfl | assumption); (case ku => k_updF); (case ki => assumption); (case kd => assumption); (case k7 => ktr_room); (case k8 => ktr_units); k_whole; intro q9 us9 cs9 k9 vs9 ns9 n9 h9 tk9 l9 p1 p2 p3 p4 p5 F9 N9; (try dsimp only at N9 l9); (replace l9 := allNe_of l9); (simp only [AllNe, and_true] at l9); (try k_sweep); all_goals ((try dsimp only); (try k_fold)))))
local macro_rules | `(tactic| walk_at "IfPost") => `(tactic| (exfalso; k_dflt (first | exact told_in (by assumption) (by assumption) (by omega) (by omega) | exact told_far (by assumption) (by assumption) (by assumption) (by assumption) | exact tenths_abs (by assumption))))
local macro_rules | `(tactic| walk_at "IfPost") => `(tactic| (exfalso; k_dflt (exact own_line (by assumption) (by assumption) (by assumption) (by assumption) (by assumption) (by omega) (by omega) (by exact rfl) (by assumption))))
local macro_rules | `(tactic| walk_at "IfPost") => `(tactic| (exfalso; k_dflt (first | exact number_last (by assumption) (by assumption) (by omega) | exact number_get (by assumption) (by omega) (by omega) (by assumption))))
local macro_rules | `(tactic| walk_at "IfPost") => `(tactic| (exfalso; k_dflt (first | exact bne_absT (by assumption) (by decide) (by omega) | exact bne_absF (by assumption) (by decide) (by omega) | exact bne_abs0 (by assumption) (by decide))))
local macro_rules | `(tactic| walk_at "IfPost") => `(tactic| (exfalso; omega))
local macro_rules | `(tactic| k_allIn) => `(tactic| (intro p9 hp9; k_ownIn))
local macro_rules | `(tactic| walk_at "IfPost") => `(tactic| (k_dflt (exact IfPost.next (by k_asm) (by k_asm) (by k_allIn))))
local macro_rules | `(tactic| walk_at "eval ListComp") => `(tactic| (k_here; k_dflt (refine LCt.ListComp_T (F₀ := by k_asm) (by with_unfolding_all rfl) (by decide) (by rfl) (by decide) (by rfl) ?_)))
local macro_rules | `(tactic| walk_at "CompSrcT") => `(tactic| (k_here; k_dflt ((refine LCt.CompSrcT.range (by rfl) (by k_asm) (by k_asm) (by assumption) (small_one (by omega) (by omega) (by omega) (by omega)) (rangeSize_nat _ _) (by rw [PySem.sizeLine_eq]; omega) ?_); intro g9; (rename News _ _ _ _ => lN'); (have hv9 := view_of lN' (by k_mem) (by k_mem) (by k_mem) (by assumption) (by assumption) (by omega) (by omega)); (refine comp_starts hv9 (by omega) trivial ?_ ?_); rotate_left; (clear hv9; intro ys9 hy9 hl9; (try dsimp only); (try k_fold)); rotate_right; (clear hv9; rintro k9 t9 I9 oI9 C9 oC9 D9 m9 ys9 h9 tk9 E9 hk8 hk9 hC9 hx9 F9 N9 off9 ne9; (try simp only [LCg.Off3] at off9); (try k_fold))); walk_say "COMP 1"))
local macro_rules | `(tactic| walk_at "CompSrcT") => `(tactic| (k_here; (with_reducible rename IntsAre _ (_ ++ _) => hI9); k_dflt ((refine LCt.CompSrcT.ledger (by rfl) (by k_asm) (by k_asm) (by k_mem) (by rw [PySem.sizeLine_eq]; have hl9 := hI9.length; simp only [List.length_append, List.length_cons, List.length_nil] at hl9; simp only [List.size_toArray]; omega) ?_); intro g9; (rename _ = Data.cell (some (Value.int _ _)) => hp9); (refine comp_upto hp9 hI9 (.inr ⟨_, by k_mem, rfl, _, rfl⟩) ?_ ?_); rotate_left; (intro ys9 hy9 hl9; (simp only [List.length_append, List.length_cons, List.length_nil, List.cons_append, List.nil_append] at hl9); (simp only [List.cons_append, List.nil_append] at hy9); (try dsimp only); (try k_fold)); rotate_right; (rintro k9 t9 I9 oI9 C9 oC9 D9 m9 ys9 h9 tk9 E9 hC9 hx9 F9 N9 off9 ne9; (try simp only [LCg.Off3] at off9); (try k_fold))); walk_say "COMP 2"))
local macro_rules | `(tactic| walk_at "binaryOp Add ref ref") => `(tactic| (k_here; (with_reducible show wpAny _ _ (binaryOp _ (Value.ref _) (Value.ref _)) _ _ _); k_dflt (refine' kmk_add_ints ?F ?N ?a ?b ?i ?j ?_ ?z; (case F => k_asm); (case N => k_asm); (case a => kmk_list); (case b => kmk_list); (case i => l_ints); (case j => l_ints); (case z => (rw [PySem.sizeLine_eq]; simp only [List.length_append, List.length_cons, List.length_nil]; omega))); intro D' ws' h' F' N' l1 hI'; (try k_lt l1); (try k_sweep)))
local macro_rules | `(tactic| walk_at "CtEnd") => `(tactic| (k_dflt (exact CtEnd.mk' (by k_asm) (by k_asm) (fun _ h => h) (by simp only [LCg.Off3]; assumption) (by first | exact trivial | exact .inr ⟨_, by k_mem, rfl, _, rfl⟩) (by first | exact ⟨by first | assumption | omega, _, rfl⟩ | assumption | omega))))
local macro_rules | `(tactic| walk_at "ForGo") => `(tactic| (k_here; (with_reducible rename InTurn => zz7); (rename Fr _ _ _ _ => lF'); (rename News _ _ _ _ => lN'); (rename IsRange _ _ _ _ _ _ _ _ => rgX); k_dflt ((refine for_plain rfl rgX (small_one (by omega) (by omega) (by omega) (by omega)) (rangeSize_nat _ _) lF' lN' ?_ ?_); rotate_left; (clear lF' lN' rgX; intro v9 h9 tk9 F9 N9; (try dsimp only at F9); (try dsimp only); (try k_fold)); rotate_right; (clear lF' lN' rgX; intro k9 t9 h9 tk9 own9 mk8 hk8 hk9 ho9 F9 N9; (try dsimp only at F9); (try simp only [List.cons_append] at N9); (try dsimp only); (try k_fold))); walk_say "FOR"))
local macro_rules | `(tactic| walk_at "ForPost") => `(tactic| (exfalso; k_dflt (exact number_get (by assumption) (by omega) (by omega) (by assumption))))
local macro_rules | `(tactic| walk_at "ForEnd") => `(tactic| (k_dflt (exact ForEnd.mk' () (by k_asm) (by k_asm) (fun _ h => h) (fun y hy => if_neg hy) trivial)))
local macro_rules | `(tactic| walk_at "LawEnd") => `(tactic| (k_dflt (exact LawEnd.mk' (by k_asm) (by exact rfl) (by k_asm) (by k_mem) (by k_mem) (by k_mem) (by k_mem) (by intro p9 hp9; k_ownIn) (by assumption) (by assumption) (by assumption) (by assumption) (by assumption))))
local macro_rules | `(tactic| walk_at "exec If") => `(tactic| (k_here; (with_reducible rename InTurn => zz7); (fail_if_success (rename InIf => zz9)); (rename Fr _ _ _ _ => lF'); (rename News _ _ _ _ => lN'); k_dflt (refine if_cut lF' lN' ?_ ?_; rotate_left; (clear lF' lN'; intro h9 tk9 F9 N9; (try k_fold)); rotate_right; (intro mk9; (try k_fold))); walk_say "IF"))
local macro_rules | `(tactic| walk_at "exec If") => `(tactic| (k_here; (with_reducible rename InTurn => zz7); (fail_if_success (rename InIf => zz9)); (with_reducible show wpAny _ _ (exec (Stmt.If (Expr.BoolOp _ (Expr.Compare (Expr.Name (Str.ofString "_law_word") _) _ _ _ :: _) _) _ _ _) _) _ _ _); (rename Fr _ _ _ _ => lF'); (rename News _ _ _ _ => lN'); k_dflt (refine if_cut lF' lN' ?_ ?_; rotate_left; (clear lF' lN'; intro h9 tk9 F9 N9; (try k_fold)); rotate_right; (intro mk9; (rename (_ ∧ _) ∨ (_ ∧ _) ∨ (_ ∧ _) => pw9); (rcases pw9 with ⟨e9, _⟩ | ⟨e9, _⟩ | ⟨e9, _⟩ <;> subst e9); all_goals (try k_fold))); walk_say "IF"))
local macro_rules | `(tactic| walk_at "exec If") => `(tactic| (k_here; (with_reducible rename InTurn => zz7); (fail_if_success (rename InIf => zz9)); (with_reducible show wpAny _ _ (exec (Stmt.If (Expr.BoolOp _ (Expr.Compare (Expr.Compare (Expr.Name (Str.ofString "_law_word") _) _ _ _) _ _ _ :: _) _) _ _ _) _) _ _ _); (rename Fr _ _ _ _ => lF'); (rename News _ _ _ _ => lN'); k_dflt (refine if_cut lF' lN' ?_ ?_; rotate_left; (clear lF' lN'; intro h9 tk9 F9 N9; (try k_fold)); rotate_right; (intro mk9; (rename (_ ∧ _) ∨ (_ ∧ _) ∨ (_ ∧ _) => pw9); (rcases pw9 with ⟨e9, _⟩ | ⟨e9, _⟩ | ⟨e9, _⟩ <;> subst e9); all_goals (try k_fold))); walk_say "IF"))
theorem law_holds : PySem.Challenge.rw_oj0018_01.Holds := hd (by
  k_go0
  all_goals (try k_fold)
  repeat' (first | (k_unfold; (try dsimp only)) | (k_end; wrow_close) | (dsimp only; walk1) | walk1 | (leave1; walk_say "STEP leave1"; try dsimp only) | fail "no step")
  rename Fr _ _ _ _ => lF'
  rename News _ _ _ _ => lN'
  rename IsRange _ _ _ _ _ _ _ _ => rgX
  rename IntsAre _ _ => lI'
  rename DeckOk _ => lD'
  refine law_for 3 rfl rgX (by decide) (by decide) lF' lN' lI' lD' (by exact rfl) (by assumption) (by assumption) (by assumption) ?fb ?fc
  case fb =>
    clear lF' lN' rgX lI' lD'
    rintro k9 t9 ⟨us9, ms9, n9, o19, o29, o39, m9⟩ h9 tk9 own9 ho9 ⟨hP1, hP2, ⟨v19, hc19⟩, ⟨v29, hc29⟩, ⟨v39, hc39⟩⟩ F9 N9
    (try dsimp only [LawSt.map, LawSt.led] at hP1 hP2 hc19 hc29 hc39 F9 N9)
    (try simp only [List.cons_append, List.nil_append] at N9)
    have mkT : InTurn := .mk
    (try k_fold)
    repeat' (first | (k_unfold; (try dsimp only)) | (k_end; wrow_close) | (dsimp only; walk1) | walk1 | (leave1; walk_say "STEP leave1"; try dsimp only) | fail "no step")
  case fc =>
    clear lF' lN' rgX lI' lD'
    rintro ⟨us9, ms9, n9, o19, o29, o39, m9⟩ v9 h9 tk9 ⟨hP1, hP2, ⟨v19, hc19⟩, ⟨v29, hc29⟩, ⟨v39, hc39⟩⟩ F9 N9
    (try dsimp only [LawSt.map, LawSt.led] at hP1 hP2 hc19 hc29 hc39 F9 N9)
    (try k_fold)
    repeat' (first | (k_unfold; (try dsimp only)) | (k_end; wrow_close) | (dsimp only; walk1) | walk1 | (leave1; walk_say "STEP leave1"; try dsimp only) | fail "no step")
  )
end Mine
set_option maxRecDepth 100000 in
theorem PySem.Challenge.cw_oj0018_01_holds : PySem.Challenge.rw_oj0018_01.Holds :=
  Mine.law_holds
