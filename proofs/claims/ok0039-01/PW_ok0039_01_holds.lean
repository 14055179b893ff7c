import PyProof.Rows.All
import Wide.All
import OpenK.AllK
import Wide.FinOn
import Lean
import PySem.Challenge.RW_ok0039_01
open PySem PySem.W PyProof.Rows
set_option Elab.async false
set_option maxRecDepth 100000
set_option maxHeartbeats 8000000
namespace Mine
open_top hd for PySem.Challenge.rw_ok0039_01
section
open PySem.Calls
noncomputable abbrev PP : Program := PySem.Challenge.rw_ok0039_01.row.prog
abbrev Led := List (Addr × Obj)

/-! plain data -/
def Deck (ns : List Int) : Prop := 1 ≤ ns.length ∧ ns.length ≤ 64 ∧ ∀ x ∈ ns, 0 ≤ x ∧ x < 10 ^ 60
theorem Deck.tail {ns : List Int} (h : Deck ns) (h1 : 1 < ns.length) : Deck ns.tail := by
  obtain ⟨a, b, c⟩ := h
  refine ⟨?_, ?_, fun x hx => c x (List.mem_of_mem_tail hx)⟩ <;> simp only [List.length_tail] <;> omega
theorem Deck.head {ns : List Int} (h : Deck ns) : 0 ≤ ns.getD 0 0 ∧ ns.getD 0 0 < 10 ^ 60 := by
  obtain ⟨a, b, c⟩ := h
  cases ns with
  | nil => simp at a
  | cons x r => exact c x (.head _)
theorem Deck.set0 {ns : List Int} {x : Int} (h : Deck ns) (h0 : 0 ≤ x) (h1 : x < 10 ^ 60) : Deck (ns.set 0 x) := by
  obtain ⟨a, b, c⟩ := h
  refine ⟨by simpa using a, by simpa using b, fun y hy => ?_⟩
  rcases List.mem_or_eq_of_mem_set hy with hy | rfl
  · exact c y hy
  · exact ⟨h0, h1⟩
theorem fdiv_le_self {x k : Int} (h0 : 0 ≤ x) (h1 : 1 ≤ k) : 0 ≤ x.fdiv k ∧ x.fdiv k ≤ x := by
  rw [Int.fdiv_eq_ediv_of_nonneg _ (by omega)]
  exact ⟨Int.ediv_nonneg h0 (by omega), Int.ediv_le_self _ h0⟩
theorem fmod_range {x k : Int} (h1 : 1 ≤ k) : 0 ≤ x.fmod k ∧ x.fmod k < k := ⟨Int.fmod_nonneg_of_pos _ (by omega), Int.fmod_lt_of_pos _ (by omega)⟩

def Hold (P : Prop) : Prop := P
theorem hold {P : Prop} (h : Hold P) : P := h

theorem anyInv {M : Model} {A : Around} {m : Sem Flow} {h₀ : Heap} {L : Addr} {J : (Str → Option Value) → List (Addr × Obj) → Prop} {own : List (Addr × Obj)} {s₁ s : Shared} {Q : Flow → Shared → Prop} {E : Value → Shared → Prop}
    (h : ∀ Q', wpAny M A m (InvPostG h₀ L J own s₁ Q') E s) : wpAny M A m (InvPostG h₀ L J own s₁ Q) E s := h Q

/-! the ledger -/
def Off (a b : Led) : Prop := ∀ p ∈ a, ∀ q ∈ b, p.1 ≠ q.1
theorem Off.nil {b : Led} : Off [] b := fun _ h => nomatch h
theorem Off.one {a : Led} {d : Addr} {o : Obj} {b : Led} (h : Off a b) (hm : (d, o) ∈ b) : ∀ p ∈ a, p.1 ≠ d := fun p hp => h p hp _ hm
theorem Off.sub {a a' b b' : Led} (h : Off a b) (ha : ∀ p ∈ a', p ∈ a) (hb : ∀ p ∈ b', ∃ o, (p.1, o) ∈ b) : Off a' b' := fun p hp q hq => by
  obtain ⟨o, ho⟩ := hb q hq
  exact h p (ha p hp) (q.1, o) ho
theorem Off.cons {a b : Led} {d : Addr} {o : Obj} (h : Off a b) (h1 : ∀ q ∈ b, q.1 ≠ d) : Off ((d, o) :: a) b := fun p hp q hq => by
  rcases List.mem_cons.mp hp with rfl | hp
  · exact fun e => h1 q hq e.symm
  · exact h p hp q hq
theorem Off.append {a b c : Led} (h : Off a c) (h1 : Off b c) : Off (a ++ b) c := fun p hp q hq => (List.mem_append.mp hp).elim (fun x => h p x q hq) fun x => h1 p x q hq
theorem ne_of_allLt {d : Addr} {l : Led} (h : AllLt d l) : ∀ p ∈ l, p.1 ≠ d := fun p hp => Nat.ne_of_lt (ktn_ltOf h p hp)
theorem ownOff_append {a b : Led} {adr : List Addr} (h : OwnOff a adr) (h1 : OwnOff b adr) : OwnOff (a ++ b) adr := fun p hp => (List.mem_append.mp hp).elim (h p) (h1 p)
theorem ownOff_of {a b : Led} {adr : List Addr} (h : Off a b) (hm : ∀ d ∈ adr, ∃ o, (d, o) ∈ b) : OwnOff a adr := fun p hp d hd => by
  obtain ⟨o, ho⟩ := hm d hd
  exact h p hp _ ho

theorem ownOff_cons {l : Led} {d : Addr} {ds : List Addr} (h : ∀ p ∈ l, p.1 ≠ d) (h1 : OwnOff l ds) : OwnOff l (d :: ds) := fun p hp b hb => by
  rcases List.mem_cons.mp hb with rfl | hb
  · exact h p hp
  · exact h1 p hp b hb
theorem ownOff_nil {l : Led} : OwnOff l [] := fun _ _ _ h => nomatch h
theorem ap2 {a b : Led} {d : Addr} (h : ∀ p ∈ a, p.1 ≠ d) (h1 : ∀ p ∈ b, p.1 ≠ d) : ∀ p ∈ a ++ b, p.1 ≠ d := fun p hp => (List.mem_append.mp hp).elim (h p) (h1 p)

inductive All2 {α β : Type} (F : α → β → Prop) : List α → List β → Prop
  | nil : All2 F [] []
  | cons {a b l₁ l₂} : F a b → All2 F l₁ l₂ → All2 F (a :: l₁) (b :: l₂)
namespace All2
variable {α β : Type} {F G : α → β → Prop}
theorem length {l₁ : List α} {l₂ : List β} (h : All2 F l₁ l₂) : l₁.length = l₂.length := by
  induction h with
  | nil => rfl
  | cons _ _ ih => simp [ih]
theorem mono {l₁ : List α} {l₂ : List β} (h : All2 F l₁ l₂) (m : ∀ a b, F a b → G a b) : All2 G l₁ l₂ := by
  induction h with
  | nil => exact .nil
  | cons h _ ih => exact .cons (m _ _ h) ih
theorem append {l₁ r₁ : List α} {l₂ r₂ : List β} (h : All2 F l₁ l₂) (k : All2 F r₁ r₂) : All2 F (l₁ ++ r₁) (l₂ ++ r₂) := by
  induction h with
  | nil => exact k
  | cons h _ ih => exact .cons h ih
theorem one {a : α} {b : β} (h : F a b) : All2 F [a] [b] := .cons h .nil
theorem take {l₁ : List α} {l₂ : List β} (h : All2 F l₁ l₂) : ∀ k, All2 F (l₁.take k) (l₂.take k) := by
  induction h with
  | nil => intro k; simp; exact .nil
  | cons h _ ih =>
    intro k
    cases k with
    | zero => exact .nil
    | succ k => exact .cons h (ih k)
theorem drop {l₁ : List α} {l₂ : List β} (h : All2 F l₁ l₂) : ∀ k, All2 F (l₁.drop k) (l₂.drop k) := by
  induction h with
  | nil => intro k; simp; exact .nil
  | cons h t ih =>
    intro k
    cases k with
    | zero => exact .cons h t
    | succ k => exact ih k
theorem get {l₁ : List α} {l₂ : List β} (h : All2 F l₁ l₂) : ∀ (k : Nat) (b : β), l₂[k]? = some b → ∃ a, l₁[k]? = some a ∧ F a b := by
  induction h with
  | nil => intro k b e; simp at e
  | cons h _ ih =>
    intro k b e
    cases k with
    | zero => simp at e; subst e; exact ⟨_, by simp, h⟩
    | succ k => simp at e; obtain ⟨a, x, y⟩ := ih k b e; exact ⟨a, by simpa using x, y⟩
theorem get' {l₁ : List α} {l₂ : List β} (h : All2 F l₁ l₂) : ∀ (k : Nat) (a : α), l₁[k]? = some a → ∃ b, l₂[k]? = some b ∧ F a b := by
  induction h with
  | nil => intro k b e; simp at e
  | cons h _ ih =>
    intro k b e
    cases k with
    | zero => simp at e; subst e; exact ⟨_, by simp, h⟩
    | succ k => simp at e; obtain ⟨a, x, y⟩ := ih k b e; exact ⟨a, by simpa using x, y⟩
theorem set {l₁ : List α} {l₂ : List β} {a : α} {b : β} (h : All2 F l₁ l₂) (q : F a b) : ∀ k, All2 F (l₁.set k a) (l₂.set k b) := by
  induction h with
  | nil => intro k; simp; exact .nil
  | cons h t ih =>
    intro k
    cases k with
    | zero => exact .cons q t
    | succ k => exact .cons h (ih k)
theorem replicate {a : α} {b : β} (q : F a b) : ∀ k, All2 F (List.replicate k a) (List.replicate k b)
  | 0 => .nil
  | k + 1 => .cons q (replicate q k)
theorem mem {l₁ : List α} {l₂ : List β} (h : All2 F l₁ l₂) : ∀ a ∈ l₁, ∃ b ∈ l₂, F a b := by
  induction h with
  | nil => intro a h; simp at h
  | cons h _ ih =>
    intro a ha
    rcases List.mem_cons.mp ha with rfl | ha
    · exact ⟨_, .head _, h⟩
    · obtain ⟨b, x, y⟩ := ih a ha; exact ⟨b, .tail _ x, y⟩
end All2

theorem News.sub {h₀ h : Heap} {L : Addr} {a b : Led} (N : News h₀ L h a) (hs : ∀ p ∈ b, p ∈ a) : News h₀ L h b := fun p hp => N p (hs p hp)

theorem updApp {d : Addr} {o o' : Obj} {l r r' : Led} (h : ∀ p ∈ l, p.1 ≠ d) (u : Upd d o o' r r') : Upd d o o' (l ++ r) (l ++ r') := by
  induction l with
  | nil => exact u
  | cons p l ih => exact Upd.tail (h p (.head _)) (ih fun q hq => h q (.tail _ hq))

/-! cells, rows -/
abbrev tupOf (vs : List Value) (n : Nat) : Obj := { cls := .type "tuple", data := .seq vs.toArray n }
def CellV (news : Led) (v : Value) (c : Int × Int) : Prop := (v = .ref 15 ∧ c = (32, 0)) ∨ ∃ a t u n, v = .ref a ∧ (a, tupOf [.int c.1 t, .int c.2 u] n) ∈ news
theorem CellV.mono {news news' : Led} {v : Value} {c : Int × Int} (h : CellV news v c) (hs : ∀ p ∈ news, p ∈ news') : CellV news' v c := by
  rcases h with h | ⟨a, t, u, n, e, hm⟩
  · exact .inl h
  · exact .inr ⟨a, t, u, n, e, hs _ hm⟩
def RowV (news : Led) (v : Value) (r : List (Int × Int)) : Prop := ∃ a vs n, v = .ref a ∧ (a, W.listOf vs.toArray n) ∈ news ∧ All2 (CellV news) vs r
theorem RowV.mono {news news' : Led} {v : Value} {r : List (Int × Int)} (h : RowV news v r) (hs : ∀ p ∈ news, p ∈ news') : RowV news' v r := by
  obtain ⟨a, vs, n, e, hm, hc⟩ := h
  exact ⟨a, vs, n, e, hs _ hm, hc.mono fun _ _ x => x.mono hs⟩

def TupRowV (news : Led) (v : Value) (r : List (Int × Int)) : Prop := ∃ a vs n, v = .ref a ∧ (a, tupOf vs n) ∈ news ∧ All2 (CellV news) vs r
theorem TupRowV.mono {news news' : Led} {v : Value} {r : List (Int × Int)} (h : TupRowV news v r) (hs : ∀ p ∈ news, p ∈ news') : TupRowV news' v r := by
  obtain ⟨a, vs, n, e, hm, hc⟩ := h
  exact ⟨a, vs, n, e, hs _ hm, hc.mono fun _ _ x => x.mono hs⟩

/-! the screen's dict -/
abbrev scrD (w : World) (a b c d e f : Tok) (wd wr : Int) (rv cv : Value) : Obj :=
  dictOf [⟨PyData.keyHash w.params (Str.ofString "width"), .str (Str.ofString "width") a, .int wd e⟩, ⟨PyData.keyHash w.params (Str.ofString "rows"), .str (Str.ofString "rows") b, rv⟩,
    ⟨PyData.keyHash w.params (Str.ofString "cursor"), .str (Str.ofString "cursor") c, cv⟩, ⟨PyData.keyHash w.params (Str.ofString "written"), .str (Str.ofString "written") d, .int wr f⟩] 4

/-! comprehensions by an invariant -/
section
variable {prog : Program} {w : World} {A : Around} {h₀ : Heap} {L : Addr} {m : Str → Option Value} {env : Env} {elt : Expr} {x : Str} {scope : Scope} {cl : List (Str × Addr)} {s : Shared} {S : Led → Prop} {P : Nat → Value → Prop} {Fin : List Value → Led → Prop}
theorem compEnd_mono {s₁ s₂ : Shared} {I C D : Addr} {oI oC oD : Obj} {rest rest' : Value → Led → Prop} {y : Value} (h : LCg.CompEnd h₀ L m s₁ I oI C oC D oD S rest y s₂) (hr : ∀ nw, rest y nw → rest' y nw) : LCg.CompEnd h₀ L m s₁ I oI C oC D oD S rest' y s₂ := by
  obtain ⟨h', tk, news', e, F, N, o, hS, r⟩ := h
  exact ⟨h', tk, news', e, F, N, o, hS, hr _ r⟩
theorem compRest_inv (n : Nat) (Inv : Nat → List Value → Led → Prop)
    (fin : ∀ ys news, Inv n ys news → Fin ys news)
    (turn : ∀ i ys news v I oI C oC D m₂ h tk (E' : Value → Shared → Prop), i < n → Inv i ys news → P i v → LCg.NsObj oC m₂ → m₂ x = some v → Fr h₀ L h m → News h₀ L h ((I, oI) :: (C, oC) :: (D, LCg.lst ys) :: news) → LCg.Off3 I C D news → ((@Ne Nat I C) ∧ (@Ne Nat I D) ∧ (@Ne Nat C D)) →
      wpAny (model prog w) A (eval elt (compEnvC scope cl C env)) (LCg.CompEnd h₀ L m { s with heap := h, toks := tk } I oI C oC D (LCg.lst ys) S (fun y news' => Inv (i + 1) (ys ++ [y]) news')) E' { s with heap := h, toks := tk }) :
    ∀ k i ys news, i + k = n → Inv i ys news → LCg.CompRest prog w A h₀ L m env elt x scope cl s S P Fin k i ys news
  | 0, i, ys, news, e, hI => by
    obtain rfl : i = n := by omega
    exact LCg.CompRest.zero (fin ys news hI)
  | k + 1, i, ys, news, e, hI => LCg.CompRest.succ fun v I oI C oC D m₂ h tk E' hP hC hx F N off ne =>
      wpAny_mono (turn i ys news v I oI C oC D m₂ h tk E' (by omega) hI hP hC hx F N off ne) (fun y s₂ q => compEnd_mono q fun nw q => compRest_inv n Inv fin turn k (i + 1) _ _ (by omega) q) fun _ _ e => e
end
section
variable {prog : Program} {w : World} {A : Around} {h₀ : Heap} {L : Addr} {m : Str → Option Value} {env : Env} {ct elt : Expr} {x : Str} {scope : Scope} {cl : List (Str × Addr)} {s : Shared} {S : Led → Prop} {P : Nat → Value → Prop} {Fin : List Value → Led → Prop}
theorem compRestT_inv (n : Nat) (Inv : Nat → List Value → Led → Prop)
    (fin : ∀ ys news, Inv n ys news → Fin ys news)
    (turn : ∀ i ys news v I oI C oC D m₂ h tk (E' : Value → Shared → Prop), i < n → Inv i ys news → P i v → LCg.NsObj oC m₂ → m₂ x = some v → Fr h₀ L h m → News h₀ L h ((I, oI) :: (C, oC) :: (D, LCg.lst ys) :: news) → LCg.Off3 I C D news → ((@Ne Nat I C) ∧ (@Ne Nat I D) ∧ (@Ne Nat C D)) →
      wpAny (model prog w) A (isTrue ct (compEnvC scope cl C env) (eval ct (compEnvC scope cl C env))) (fun ok s' => if ok = true then
        wpAny (model prog w) A (eval elt (compEnvC scope cl C env)) (LCg.CompEnd h₀ L m { s with heap := h, toks := tk } I oI C oC D (LCg.lst ys) S (fun y news' => Inv (i + 1) (ys ++ [y]) news')) E' s'
        else LCg.CompEnd h₀ L m { s with heap := h, toks := tk } I oI C oC D (LCg.lst ys) S (fun _ news' => Inv (i + 1) ys news') Value.none s') E' { s with heap := h, toks := tk }) :
    ∀ k i ys news, i + k = n → Inv i ys news → LCt.CompRestT prog w A h₀ L m env ct elt x scope cl s S P Fin k i ys news
  | 0, i, ys, news, e, hI => by
    obtain rfl : i = n := by omega
    exact LCt.CompRestT.zero (fin ys news hI)
  | k + 1, i, ys, news, e, hI => LCt.CompRestT.succ fun v I oI C oC D m₂ h tk E' hP hC hx F N off ne =>
      wpAny_mono (turn i ys news v I oI C oC D m₂ h tk E' (by omega) hI hP hC hx F N off ne) (fun ok s₂ q => by
        cases ok with
        | true =>
          simp only [if_true] at q ⊢
          exact wpAny_mono q (fun y s₃ r => compEnd_mono r fun nw z => compRestT_inv n Inv fin turn k (i + 1) _ _ (by omega) z) fun _ _ e => e
        | false =>
          simp only [Bool.false_eq_true, if_false] at q ⊢
          exact compEnd_mono q fun nw z => compRestT_inv n Inv fin turn k (i + 1) _ _ (by omega) z) fun _ _ e => e
end
theorem intsAre_get {vs : List Value} {ns : List Int} (h : IntsAre vs ns) : ∀ {i : Nat} {v : Value}, vs.toArray[i]? = some v → ∃ n t, v = .int n t := by
  intro i v e
  rw [List.getElem?_toArray] at e
  have hv : v ∈ vs := List.mem_of_getElem? e
  clear e
  induction h with
  | nil => simp at hv
  | cons n t h ih =>
    rcases List.mem_cons.mp hv with rfl | hv
    · exact ⟨_, _, rfl⟩
    · exact ih hv
section
variable {M : Model} {A : Around} {E : Value → Shared → Prop} {s : Shared} {h₀ : Heap} {L C c : Addr} {news : Led} {scope : Scope} {cl : List (Str × Addr)} {env : Env} {x : Str} {pos : Pos} {v : Value} {o : Obj} {Q : Value → Shared → Prop}
theorem ld_cellC (N : News h₀ L s.heap news) (hc : cl.lookup x = some c) (hm : (c, o) ∈ news) (hd : o.data = .cell (some v)) (h : Q v s)
    (hk : (compEnvC scope cl C env).scope.kind = .function := by rfl) (hx : (compEnvC scope cl C env).kindOf x = some .cell := by rfl) (hb : (x == ("__debug__" : Str)) = false := by decide) :
    wpAny M A (eval (.Name x pos) (compEnvC scope cl C env)) Q E s := wpAny_Name (wpAny_loadName_cell hk hx hc ⟨o, N.get hm, hd⟩ h) hb
end

/-! lists of ints -/
section
variable {prog : Program} {w : World} {A : Around} {E : Value → Shared → Prop} {s : Shared} {h₀ : Heap} {L : Addr} {m : Str → Option Value} {news : Led}
theorem len_L {D : Addr} {vs : List Value} {ns : List Int} {c : Nat} {Q : Value → Shared → Prop} (N : News h₀ L s.heap news) (hm : (D, W.listOf vs.toArray c) ∈ news) (hi : IntsAre vs ns) (hf : ns.length < 2 ^ 62) (h : Q (.int (ns.length : Nat) (s.toks + 1)) { s with toks := s.toks + 1 + 1 }) :
    wpAny (model prog w) A (call (.builtin "len") [.ref D]) Q E s := KM.len_K N hm (by rw [List.size_toArray]; exact hi.length) hf h
theorem pop0_L {D : Addr} {vs : List Value} {ns : List Int} {c : Nat} {t : Tok} {news' : Led} {Q : Value → Shared → Prop} (F : Fr h₀ L s.heap m) (N : News h₀ L s.heap news) (hi : IntsAre vs ns) (hf : 1 ≤ ns.length) (hz : ns.length ≤ 64)
    (U : Upd D (W.listOf vs.toArray c) (W.listOf vs.tail.toArray (c + 1)) news news')
    (h : ∀ v h', Fr h₀ L h' m → News h₀ L h' news' → IntsAre vs.tail ns.tail → Q v { s with heap := h' }) :
    wpAny (model prog w) A (call (.builtin "list.pop") [.ref D, .int 0 t]) Q E s := by
  cases hi with
  | nil => simp at hf
  | @cons i t vs ns hi =>
    refine kl_popAt (p := []) (q := _) (k := 0) F N (by decide) ?_ (by rfl) U ?_ ?_
    · simp [seqIndex?]
    · have := hi.length
      simp only [sizeLine_eq, List.length_cons] at *
      omega
    · intro h' F' N'
      exact h _ h' F' N' hi
end

/-! lists of any values -/
theorem flatten_rep1 {α : Type} (v : α) : ∀ k : Nat, (List.replicate k [v]).flatten = List.replicate k v
  | 0 => rfl
  | k + 1 => by rw [List.replicate_succ, List.flatten_cons, flatten_rep1 v k, List.replicate_succ]; rfl
theorem pick_upto (l : List Value) {y : Int} (h : 0 ≤ y) : kms_pick l none (some y) = l.take y.toNat := by
  have e : ¬ y < 0 := by omega
  simp only [kms_pick, kms_lo, kms_hi, if_neg e, List.drop_zero, Nat.sub_zero, kmk_take_min]
theorem pick_from (l : List Value) {x : Int} (h : 0 ≤ x) : kms_pick l (some x) none = l.drop x.toNat := by
  have e : ¬ x < 0 := by omega
  simp only [kms_pick, kms_lo, kms_hi, if_neg e, kmk_drop_min]
  rw [List.take_of_length_le]
  rw [List.length_drop]
  omega
theorem pick_run2 (l : List Value) {x y : Int} (h : 0 ≤ x) (h2 : 0 ≤ y) : kms_pick l (some x) (some y) = (l.drop x.toNat).take (y.toNat - x.toNat) := by
  have e : ¬ x < 0 := by omega
  have e2 : ¬ y < 0 := by omega
  simp only [kms_pick, kms_lo, kms_hi, if_neg e, if_neg e2, kmk_drop_min]
  by_cases hx : x.toNat ≤ l.length
  · by_cases hy : y.toNat ≤ l.length
    · rw [Nat.min_eq_left hx, Nat.min_eq_left hy]
    · rw [Nat.min_eq_left hx, Nat.min_eq_right (by omega), List.take_of_length_le (by rw [List.length_drop]; omega), List.take_of_length_le (by rw [List.length_drop]; omega)]
  · rw [List.drop_of_length_le (by omega), List.take_nil, List.take_nil]
section
variable {prog : Program} {w : World} {A : Around} {E : Value → Shared → Prop} {s : Shared} {h₀ : Heap} {L l b : Addr} {m : Str → Option Value} {news : Led} {vs ws : List Value} {k c : Nat} {x y : Int} {u : Tok} {v : Value} {Q : Value → Shared → Prop}
theorem mul1_L (F : Fr h₀ L s.heap m) (N : News h₀ L s.heap news) (hm : (l, W.listOf [v].toArray k) ∈ news) (h0 : 0 ≤ x) (h1 : x ≤ 200)
    (h : ∀ D h', Fr h₀ L h' m → News h₀ L h' ((D, W.listOf (List.replicate x.toNat v).toArray 0) :: news) → (∀ p ∈ news, p.1 < D) → Q (.ref D) { s with heap := h' }) : wpAny (model prog w) A (binaryOp .Mult (.ref l) (.int x u)) Q E s :=
  KMa.mul F N (News.isList N hm) (by omega) (by omega) (by simp only [List.length_cons, List.length_nil]; omega) (flatten_rep1 v _) h
theorem add_L (F : Fr h₀ L s.heap m) (N : News h₀ L s.heap news) (ha : (l, W.listOf vs.toArray k) ∈ news) (hb : (b, W.listOf ws.toArray c) ∈ news) (hz : vs.length + ws.length ≤ 1000)
    (h : ∀ D h', Fr h₀ L h' m → News h₀ L h' ((D, W.listOf (vs ++ ws).toArray 0) :: news) → (∀ p ∈ news, p.1 < D) → Q (.ref D) { s with heap := h' }) : wpAny (model prog w) A (binaryOp .Add (.ref l) (.ref b)) Q E s :=
  kmk_add_lit F N (News.isList N ha) (News.isList N hb) rfl h (by show vs.length + ws.length ≤ _; rw [sizeLine_eq]; omega)
theorem tupleOf_L (F : Fr h₀ L s.heap m) (N : News h₀ L s.heap news) (ha : (l, W.listOf vs.toArray k) ∈ news) (hz : vs.length ≤ 1000)
    (h : ∀ D h', Fr h₀ L h' m → News h₀ L h' ((D, tupOf vs 0) :: news) → (∀ p ∈ news, p.1 < D) → Q (.ref D) { s with heap := h' }) : wpAny (model prog w) A (call (.type "tuple") [.ref l]) Q E s :=
  kde_tupleOf F N (News.isList N ha) (by show vs.length ≤ _; omega) rfl h
theorem listOf_T (F : Fr h₀ L s.heap m) (N : News h₀ L s.heap news) (ha : (l, tupOf vs k) ∈ news) (hz : vs.length ≤ 1000)
    (h : ∀ D c h', Fr h₀ L h' m → News h₀ L h' ((D, W.listOf vs.toArray c) :: news) → (∀ p ∈ news, p.1 < D) → Q (.ref D) { s with heap := h' }) : wpAny (model prog w) A (call (.type "list") [.ref l]) Q E s :=
  kup_listOfT F N ha rfl h (by show vs.length ≤ _; rw [sizeLine_eq]; omega)
theorem lenTup_L (N : News h₀ L s.heap news) (ha : (l, tupOf vs k) ∈ news) (hz : vs.length ≤ 1000) (h : Q (.int (vs.length : Nat) (s.toks + 1)) { s with toks := s.toks + 1 + 1 }) : wpAny (model prog w) A (call (.builtin "len") [.ref l]) Q E s :=
  len_tuple (News.isTup N ha) (by show ((vs.length : Nat) : Int) < _; omega) h
theorem lenAny_L (N : News h₀ L s.heap news) (ha : (l, W.listOf vs.toArray k) ∈ news) (hz : vs.length ≤ 1000) (h : Q (.int (vs.length : Nat) (s.toks + 1)) { s with toks := s.toks + 1 + 1 }) : wpAny (model prog w) A (call (.builtin "len") [.ref l]) Q E s :=
  KM.len_K N ha rfl (by show vs.length < _; omega) h
section
variable {value slice : PySem.Expr} {vl vu : Value} {lo hi : Option Int}
theorem item_L (N : News h₀ L s.heap news) (ha : (l, W.listOf vs.toArray k) ∈ news) (h0 : 0 ≤ x) (h1 : x ≤ 1000) (hx : vs[x.toNat]? = some v) (h : Q v s)
    (hs : subscripted slice false (.ref l) (.int x u) = operate [.ref l, .int x u] (getItem (.ref l) (.int x u)) := by with_unfolding_all rfl) (hg : ∀ r, letTemporaryGo value (.ref l) r = pure () := by intro _; with_unfolding_all rfl) :
    wpAny (model prog w) A (subscriptTail value slice (.ref l) (.int x u)) Q E s := kim_list N ha rfl rfl h0 (by omega) hx h hs hg
theorem itemT_L (N : News h₀ L s.heap news) (ha : (l, tupOf vs k) ∈ news) (h0 : 0 ≤ x) (h1 : x ≤ 1000) (hx : vs[x.toNat]? = some v) (h : Q v s)
    (hs : subscripted slice false (.ref l) (.int x u) = operate [.ref l, .int x u] (getItem (.ref l) (.int x u)) := by with_unfolding_all rfl) (hg : ∀ r, letTemporaryGo value (.ref l) r = pure () := by intro _; with_unfolding_all rfl) :
    wpAny (model prog w) A (subscriptTail value slice (.ref l) (.int x u)) Q E s := by
  refine kim_tup (j := x.toNat) N ha rfl rfl (by omega) (by omega) ?_ hx h hs hg
  have hl := (List.getElem?_eq_some_iff.mp hx).1
  unfold seqIndex?
  have e : ¬ x < 0 := by omega
  simp only [e, if_false]
  rw [if_pos]
  simp only [Bool.and_eq_true, decide_eq_true_eq]
  omega
theorem slice_upto (F : Fr h₀ L s.heap m) (N : News h₀ L s.heap news) (hm : (l, W.listOf vs.toArray k) ∈ news) (pl : IsPart vl none) (pu : IsPart vu (some y)) (h0 : 0 ≤ y) (hz : vs.length ≤ 1000)
    (h : ∀ D h', Fr h₀ L h' m → News h₀ L h' ((D, W.listOf (vs.take y.toNat).toArray 0) :: news) → (∀ p ∈ news, p.1 < D) → Q (.ref D) { s with heap := h' })
    (hs : subscripted slice false (.ref l) (.ref s.heap.objs.size) = operate [.ref s.heap.objs.size, .ref l] (getItem (.ref l) (.ref s.heap.objs.size))) (ht : ∀ r, letTemporaryGo value (.ref l) r = pure ()) :
    wpAny (model prog w) A (subscriptTail value slice (.ref l) (.ref s.heap.objs.size)) Q E { s with heap := s.heap.push { cls := .type "slice", data := .fields #[vl, vu, .none] } } :=
  kms_slice_lit F N (News.isList N hm) pl pu (pick_upto vs h0) h hs ht (by show vs.length ≤ _; rw [sizeLine_eq]; omega)
theorem slice_from (F : Fr h₀ L s.heap m) (N : News h₀ L s.heap news) (hm : (l, W.listOf vs.toArray k) ∈ news) (pl : IsPart vl (some x)) (pu : IsPart vu none) (h0 : 0 ≤ x) (hz : vs.length ≤ 1000)
    (h : ∀ D h', Fr h₀ L h' m → News h₀ L h' ((D, W.listOf (vs.drop x.toNat).toArray 0) :: news) → (∀ p ∈ news, p.1 < D) → Q (.ref D) { s with heap := h' })
    (hs : subscripted slice false (.ref l) (.ref s.heap.objs.size) = operate [.ref s.heap.objs.size, .ref l] (getItem (.ref l) (.ref s.heap.objs.size))) (ht : ∀ r, letTemporaryGo value (.ref l) r = pure ()) :
    wpAny (model prog w) A (subscriptTail value slice (.ref l) (.ref s.heap.objs.size)) Q E { s with heap := s.heap.push { cls := .type "slice", data := .fields #[vl, vu, .none] } } :=
  kms_slice_lit F N (News.isList N hm) pl pu (pick_from vs h0) h hs ht (by show vs.length ≤ _; rw [sizeLine_eq]; omega)
theorem slice_run (F : Fr h₀ L s.heap m) (N : News h₀ L s.heap news) (hm : (l, W.listOf vs.toArray k) ∈ news) (pl : IsPart vl (some x)) (pu : IsPart vu (some y)) (h0 : 0 ≤ x) (h1 : 0 ≤ y) (hz : vs.length ≤ 1000)
    (h : ∀ D h', Fr h₀ L h' m → News h₀ L h' ((D, W.listOf ((vs.drop x.toNat).take (y.toNat - x.toNat)).toArray 0) :: news) → (∀ p ∈ news, p.1 < D) → Q (.ref D) { s with heap := h' })
    (hs : subscripted slice false (.ref l) (.ref s.heap.objs.size) = operate [.ref s.heap.objs.size, .ref l] (getItem (.ref l) (.ref s.heap.objs.size))) (ht : ∀ r, letTemporaryGo value (.ref l) r = pure ()) :
    wpAny (model prog w) A (subscriptTail value slice (.ref l) (.ref s.heap.objs.size)) Q E { s with heap := s.heap.push { cls := .type "slice", data := .fields #[vl, vu, .none] } } :=
  kms_slice_lit F N (News.isList N hm) pl pu (pick_run2 vs h0 h1) h hs ht (by show vs.length ≤ _; rw [sizeLine_eq]; omega)
end
theorem setL_some {vs : List Value} {k : Nat} {v : Value} (h : k < vs.length) : ki_setL vs k v = some (vs.set k v) := by
  induction vs generalizing k with
  | nil => simp at h
  | cons x r ih =>
    cases k with
    | zero => rfl
    | succ k =>
      unfold ki_setL
      rw [ih (by simpa using h)]
      rfl
theorem set_L {news' : Led} {t : Tok} {Q : Unit → Shared → Prop} (F : Fr h₀ L s.heap m) (N : News h₀ L s.heap news) (h0 : 0 ≤ x) (h1 : x < vs.length) (hz : vs.length ≤ 1000) (U : Upd l (W.listOf vs.toArray k) (W.listOf (vs.set x.toNat v).toArray k) news news')
    (h : ∀ h', Fr h₀ L h' m → News h₀ L h' news' → Q () { s with heap := h' }) : wpAny (model prog w) A (setItem (.ref l) (.int x t) v) Q E s :=
  ki_set F N h0 (by omega) (setL_some (vs := vs) (by omega)) U h
end

/-! bounds of list lengths, without omega's case splits -/
section
variable {α : Type} {a b : List α} {n : Nat}
theorem lb_app (h : a.length ≤ n) (h1 : b.length ≤ 100) : (a ++ b).length ≤ n + 100 := by rw [List.length_append]; exact Nat.add_le_add h h1
theorem lb_add (h : a.length ≤ n) (h1 : b.length ≤ 100) : a.length + b.length ≤ n + 100 := Nat.add_le_add h h1
theorem lb_take {k : Nat} (h : a.length ≤ n) : (a.take k).length ≤ n := Nat.le_trans (by rw [List.length_take]; exact Nat.min_le_right _ _) h
theorem lb_drop {k : Nat} (h : a.length ≤ n) : (a.drop k).length ≤ n := Nat.le_trans (by rw [List.length_drop]; exact Nat.sub_le _ _) h
theorem lb_set {k : Nat} {v : α} (h : a.length ≤ n) : (a.set k v).length ≤ n := by rw [List.length_set]; exact h
theorem lb_six (h : a.length ≤ 6) : a.length ≤ n + 6 := Nat.le_trans h (Nat.le_add_left _ _)
theorem lb_seven (h : a.length ≤ 7) : a.length ≤ n + 7 := Nat.le_trans h (Nat.le_add_left _ _)
end
theorem toNat_sub_sub {b m : Int} {k : Nat} (h0 : 0 ≤ m) : b.toNat - m.toNat - k = (b - m).toNat - k := by
  have e : (b - m).toNat = b.toNat - m.toNat := by omega
  rw [e]
theorem toNat_add_toNat {r m : Int} (h0 : 0 ≤ r) (h1 : 0 ≤ m) : r.toNat + m.toNat = (r + m).toNat := by omega
theorem toNat_add_nat {r : Int} {k : Nat} (h0 : 0 ≤ r) : r.toNat + k = (r + (k : Nat)).toNat := by omega

/-! ranges -/
theorem range_small {a b : Int} (h0 : -1000 ≤ a) (h1 : a ≤ 1000) (h2 : -1000 ≤ b) (h3 : b ≤ 1000) : Builtin.Range.small a b 1 = true := by
  have e : (Builtin.Range.rangeSize a b 1) ≤ 2000 ∧ 0 ≤ Builtin.Range.rangeSize a b 1 := by
    unfold Builtin.Range.rangeSize
    simp only [show (1 : Int) > 0 by decide, if_true, Int.ediv_one]
    split <;> omega
  have f : ∀ x : Int, -5000 ≤ x → x ≤ 5000 → Builtin.Range.rangeFitsLong x = true := by
    intro x hx hy
    unfold Builtin.Range.rangeFitsLong
    simp only [Bool.and_eq_true, decide_eq_true_eq]
    omega
  unfold Builtin.Range.small
  simp only [show (1 : Int) > 0 by decide, if_true]
  rw [f a (by omega) (by omega), f b (by omega) (by omega), f 1 (by omega) (by omega), f _ (by omega) (by omega), f (b + (1 - 1)) (by omega) (by omega)]
  simp
theorem range_size {a b : Int} (h : a ≤ b) : Builtin.Range.rangeSize a b 1 = ((b - a).toNat : Int) := by
  unfold Builtin.Range.rangeSize
  simp only [show (1 : Int) > 0 by decide, if_true, Int.ediv_one]
  split <;> omega
theorem off3_app {I C D : Addr} {a b : Led} (h : LCg.Off3 I C D a) (k : LCg.Off3 I C D b) : LCg.Off3 I C D (a ++ b) := LCg.Off3.of fun p hp => (List.mem_append.mp hp).elim (LCg.Off3.mem h p) (LCg.Off3.mem k p)
theorem off1_ne {D : Addr} : ∀ {l : Led}, LCg.Off1 D l → ∀ p ∈ l, p.1 ≠ D
  | [], _, _, h => nomatch h
  | _ :: _, x, p, h => by
    rcases List.mem_cons.mp h with rfl | h
    · exact x.1
    · exact off1_ne x.2 p h

/-! what the orders do to plain rows -/
abbrev Cell := Int × Int
def putRow (r : List Cell) (c : Nat) (xs : List Cell) : List Cell := r.take c ++ xs ++ r.drop (c + xs.length)
def clearRow (r : List Cell) (c k : Nat) : List Cell := r.take c ++ List.replicate k (32, 0)
def insRows (rows : List (List Cell)) (row many bottom wd : Nat) : List (List Cell) :=
  rows.take row ++ List.replicate many (List.replicate wd (32, 0)) ++ (rows.drop row).take (bottom - many - row) ++ rows.drop bottom
def delRows (rows : List (List Cell)) (row many bottom wd : Nat) : List (List Cell) :=
  rows.take row ++ (rows.drop (row + many)).take (bottom - (row + many)) ++ List.replicate many (List.replicate wd (32, 0)) ++ rows.drop bottom

/-! a loop over a list of ints of the ledger that turns one int name -/
section
variable {prog : Program} {w : World} {A : Around} {E : Value → Shared → Prop} {s : Shared} {env : Env} {h₀ : Heap} {x : Str} {body : List Stmt} {Q : Flow → Shared → Prop}
def OneJ (x y : Str) (m₀ : Str → Option Value) (news : Led) (P : Int → Prop) (m' : Str → Option Value) (nx : Led) : Prop := nx = news ∧ (∃ a t', m' y = some (.int a t') ∧ P a) ∧ ∀ z, z ≠ x → z ≠ y → m' z = m₀ z
theorem iter_one {l : Addr} {vs : List Value} {ns : List Int} {nn : Nat} {m₀ : Str → Option Value} {news : Led} {y : Str} {a₀ : Int} {t₀ : Tok} (P : Int → Prop)
    (hh : A.handled = none) (hl : (l, W.listOf vs.toArray nn) ∈ news) (hi : IntsAre vs ns) (F : Fr h₀ env.locals s.heap m₀) (N : News h₀ env.locals s.heap news) (hy : m₀ y = some (.int a₀ t₀)) (hP : P a₀)
    (turn : ∀ n t a ta h tk own, n ∈ ns → P a → Fr h₀ env.locals h (fun z => if z = x then some (.int n t) else if z = y then some (.int a ta) else m₀ z) → News h₀ env.locals h (news ++ own) →
      wpAny (model prog w) A (execs body env) (InvPostN h₀ env.locals (OneJ x y m₀ news P) own (news.map (·.1)) { s with heap := h, toks := tk } Q) E { s with heap := h, toks := tk })
    (done : ∀ (u : Str → Option Value) a t h tk, P a → Fr h₀ env.locals h (fun z => if z = x then u z else if z = y then some (.int a t) else m₀ z) → News h₀ env.locals h news → Q .next { s with heap := h, toks := tk }) :
    wpAny (model prog w) A (pyIter (.ref l)) (fun it s₂ => LoopAtV prog w A h₀ env x body Q E it s₂) E s := by
  refine iter_invNL (fun _ m nx => OneJ x y m₀ news P m nx) hh hl hi F N ⟨rfl, ⟨a₀, t₀, hy, hP⟩, fun _ _ _ => rfl⟩ ?_ ?_
  · rintro i n t m₁ news₁ h tk own hn _ hoff _ ⟨rfl, ⟨a, ta, hm, hPa⟩, ho⟩ F₁ N₁
    have hmap : (fun z => if z = x then some (Value.int n t) else m₁ z) = fun z => if z = x then some (.int n t) else if z = y then some (.int a ta) else m₀ z := by
      funext z
      by_cases h1 : z = x
      · simp only [h1, if_true]
      · simp only [h1, if_false]
        by_cases h2 : z = y
        · simp only [h2, if_true]; exact hm
        · simp only [h2, if_false]; exact ho z h1 h2
    rw [hmap] at F₁
    refine wpAny_mono (turn n t a ta h tk own (List.mem_of_getElem? hn) hPa F₁ N₁) (fun f s₂ p => ?_) fun _ _ e => e
    have up : InvEndN h₀ env.locals (OneJ x y m₀ news₁ P) own (news₁.map (·.1)) { s with heap := h, toks := tk } s₂ →
        InvEndN h₀ env.locals (fun m' nx => (l, W.listOf vs.toArray nn) ∈ nx ∧ OneJ x y m₀ news₁ P m' nx) own (news₁.map (·.1)) { s with heap := h, toks := tk } s₂ := by
      rintro ⟨h', tk, m', news', nx, e, F', N', hn', ho', ha, hJ⟩
      exact ⟨h', tk, m', news', nx, e, F', N', hn', ho', ha, by rw [hJ.1]; exact hl, hJ⟩
    cases f with
    | ret v => exact p
    | brk => exact p
    | next => exact up p
    | cont => exact up p
  · rintro m₁ news₁ h tk _ ⟨rfl, ⟨a, ta, hm, hPa⟩, ho⟩ F₁ N₁
    refine done m₁ a ta h tk hPa ?_ N₁
    have e : (fun z => if z = x then m₁ z else if z = y then some (Value.int a ta) else m₀ z) = m₁ := by
      funext z
      by_cases h1 : z = x
      · simp only [h1, if_true]
      · simp only [h1, if_false]
        by_cases h2 : z = y
        · simp only [h2, if_true]; exact hm.symm
        · simp only [h2, if_false]; exact (ho z h1 h2).symm
    rw [e]
    exact F₁
end
section
variable {prog : Program} {w : World} {A : Around} {h₀ : Heap} {L : Addr} {m : Str → Option Value} {env : Env} {elt i1 i2 : Expr} {x1 x2 : Str} {p1 p2 : Pos} {scope : Scope} {pos : Pos} {cl : List (Str × Addr)}

abbrev two (elt i1 i2 : Expr) (x1 x2 : Str) (p1 p2 : Pos) (scope : Scope) (pos : Pos) : Expr := .ListComp elt [⟨.Name x1 p1, i1, [], 0⟩, ⟨.Name x2 p2, i2, [], 0⟩] scope pos
theorem turn_in (e : Expr) (it acc : Value) (cenv : Env) :
    compTurn (two e i1 i2 x1 x2 p1 p2 scope pos) 1 it acc cenv = (standAt i2.pos >>= fun _ => pyNext it >>= fun r => match r with
      | none => pure (.done .next)
      | some v => letOwnedTupleGo (.Name x2 p2) it v >>= fun _ => assign (.Name x2 p2) cenv v >>= fun _ =>
        (eval e cenv >>= fun x => call (.builtin "list.append") [acc, x] >>= fun _ => pure ()) >>= fun _ =>
          again (.compLoop (two e i1 i2 x1 x2 p1 p2 scope pos) 1 it acc cenv)) := by rfl
theorem turn_out (e : Expr) (it acc : Value) (cenv : Env) :
    compTurn (two e i1 i2 x1 x2 p1 p2 scope pos) 0 it acc cenv = (standAt i1.pos >>= fun _ => pyNext it >>= fun r => match r with
      | none => pure (.done .next)
      | some v => letOwnedTupleGo (.Name x1 p1) it v >>= fun _ => assign (.Name x1 p1) cenv v >>= fun _ =>
        (eval i2 cenv >>= fun x => standAt i2.pos >>= fun _ => foldedSetIterable i2 cenv x >>= fun x => holding [x] (pyIter x) >>= fun it2 =>
          runOwn (.compStart (two e i1 i2 x1 x2 p1 p2 scope pos) 1 it2 acc cenv) cenv >>= fun _ =>
          again (.compLoop (two e i1 i2 x1 x2 p1 p2 scope pos) 0 it acc cenv))) := by rfl

theorem compStart_two1 {it acc : Value} {cenv : Env} {R : Result → Shared → Prop} {s : Shared}
    (h0 : codeAny (model prog w) A (.compLoop (two elt i1 i2 x1 x2 p1 p2 scope pos) 1 it acc cenv) R s)
    (h : wpAny (model prog w) A (pyIter it) (fun it' s' => codeAny (model prog w) A (.compLoop (two elt i1 i2 x1 x2 p1 p2 scope pos) 1 it' acc cenv) R s')
      (notedBy (model prog w) A cenv fun x s' => R (.error x) s') s) :
    codeAny (model prog w) A (.compStart (two elt i1 i2 x1 x2 p1 p2 scope pos) 1 it acc cenv) R s := by
  refine codeAny_of_tree ?_
  show wpAny _ _ ((compStart (two elt i1 i2 x1 x2 p1 p2 scope pos) 1 it acc cenv).onRaise (fun x => do noteFrame x cenv; standAt theWindowsPlace)) _ _ s
  refine wpAny_notedAt ?_
  unfold compStart
  show wpAny _ _ (ask >>= _) _ _ s
  refine wpAny_bind (wpAny_askSetting (wpAny_ite ?_))
  split
  · first
      | exact wpAny_bind (wpAny_pure (wpAny_pure (And.intro rfl h0)))
      | exact wpAny_pure (And.intro rfl h0)
  · first
      | exact wpAny_bind (wpAny_rule (wpAny_bind (wpAny_standAt (wpAny_bind (wpAny_mono h (fun it' s' h' => wpAny_pure (And.intro rfl h')) fun _ _ x => x)))))
      | (refine wpAny_bind (wpAny_rule ?_); show wpAny _ _ (standAt i2.pos >>= _) _ _ s; exact wpAny_bind (wpAny_standAt (wpAny_bind (wpAny_mono h (fun it' s' h' => wpAny_pure (And.intro rfl h')) fun _ _ x => x))))

theorem inner_loop {J C D : Addr} {n2 : Nat} {v1 : Value} {R : Result → Shared → Prop} {s : Shared} {Inv : Nat → List Value → Led → Prop}
    (hh : A.handled = none) (hkind : scope.kind = .function) (hx2 : scope.names.lookup x2 = some .local) (hx12 : x1 ≠ x2)
    (hJ₀ : h₀.get? J = none) (hC₀ : h₀.get? C = none) (hD₀ : h₀.get? D = none) (hJL : J ≠ L) (hCL : C ≠ L) (hDL : D ≠ L) (hJC : J ≠ C) (hJD : J ≠ D) (hCD : C ≠ D)
    (hlen : ∀ j ys nw, Inv j ys nw → ys.length ≤ sizeLine)
    (turn : ∀ j ys nw oJ oC m₂ h tk t (E' : Value → Shared → Prop), j < n2 → Inv j ys nw → LCg.NsObj oC m₂ → m₂ x1 = some v1 → m₂ x2 = some (.int (j : Nat) t) → Fr h₀ L h m →
      News h₀ L h ((J, oJ) :: (C, oC) :: (D, LCg.lst ys) :: nw) → LCg.Off3 J C D nw →
      wpAny (model prog w) A (eval elt (compEnvC scope cl C env)) (LCg.CompEnd h₀ L m { s with heap := h, toks := tk } J oJ C oC D (LCg.lst ys) (fun _ => True) (fun y nw' => Inv (j + 1) (ys ++ [y]) nw')) E' { s with heap := h, toks := tk })
    (fin : ∀ h tk ys nw m₂, Fr h₀ L h m → News h₀ L h ((D, LCg.lst ys) :: nw) → h.Ns C m₂ → m₂ x1 = some v1 → LCg.Off3 J C D nw → Inv n2 ys nw → R (.ok .next) { s with heap := h, toks := tk })
    {ys : List Value} {nw : Led} {m₂ : Str → Option Value}
    (st : IsRangeIter s.heap J ((0 : Int) + ((0 : Nat) : Int) * 1) (((n2 : Nat) : Int) - ((0 : Nat) : Int)) 1) (F : Fr h₀ L s.heap m) (N : News h₀ L s.heap ((D, LCg.lst ys) :: nw)) (hns : s.heap.Ns C m₂) (hm1 : m₂ x1 = some v1) (off : LCg.Off3 J C D nw) (hI : Inv 0 ys nw) :
    codeAny (model prog w) A (.compLoop (two elt i1 i2 x1 x2 p1 p2 scope pos) 1 (.ref J) (.ref D) (compEnvC scope cl C env)) R s := by
  refine codeAny_loop rfl (fun k s' => ∃ h tk j ys nw m₂, s' = { s with heap := h, toks := tk } ∧ j ≤ n2 ∧ k = n2 + 1 - j ∧ IsRangeIter h J ((0 : Int) + ((j : Nat) : Int) * 1) (((n2 : Nat) : Int) - ((j : Nat) : Int)) 1 ∧ Fr h₀ L h m ∧
    News h₀ L h ((D, LCg.lst ys) :: nw) ∧ h.Ns C m₂ ∧ m₂ x1 = some v1 ∧ LCg.Off3 J C D nw ∧ Inv j ys nw) (fun k s' hK => ?_) (n2 + 1) ⟨s.heap, s.toks, 0, ys, nw, m₂, rfl, Nat.zero_le _, rfl, st, F, N, hns, hm1, off, hI⟩
  show wpAny _ A ((compTurn (two elt i1 i2 x1 x2 p1 p2 scope pos) 1 (.ref J) (.ref D) (compEnvC scope cl C env)).onRaise (fun x => do noteFrame x (compEnvC scope cl C env); theTreesLotGoes x)) _ _ s'
  refine wpAny_noted ?_
  rw [turn_in]
  obtain ⟨h', tk, j, ys, nw, m₂, rfl, hj, rfl, st', F', N', hn', hm1', off', hI'⟩ := hK
  refine wpAny_bind (wpAny_standAt (wpAny_bind ?_))
  have W := LCg.range_walks (prog := prog) (w := w) (A := A) (I := J) hh 0 n2
  have off3 := off'.mem
  by_cases hlt : j < n2
  · refine W.item j _ _ _ hlt st' fun v h₂ tk₂ hPv hst₂ hk₂ => ?_
    obtain ⟨t, rfl⟩ := hPv
    refine wpAny_bind (wpAny_of_eq rfl (wpAny_bind ?_))
    refine wpAny_assign_Name (wpAny_storeName_local (lookup_relabel_local hx2) (hn'.at' fun o e => hk₂ _ o (by simpa using Ne.symm hJC) e) (fun h₃ hn₃ hs₃ => ?_) (by simp [compEnvC, relabel, hkind]))
    have hst₃ : IsRangeIter h₃ J ((0 : Int) + ((j + 1 : Nat) : Int) * 1) (((n2 : Nat) : Int) - ((j + 1 : Nat) : Int)) 1 := W.frame _ _ _ hst₂ fun b hb o e => hs₃.extBut b o (fun q => hJC (by rw [List.mem_singleton.mp hb] at q; exact q)) e
    obtain ⟨oC, heC, hoC⟩ := LCg.ns_obj hn₃
    have F₃ : Fr h₀ L h₃ m := (LCg.fr_but F' hk₂ (Ne.symm hJL) hJ₀).change hs₃ hCL hC₀
    have N₂ : News h₀ L h₂ ((D, LCg.lst ys) :: nw) := LCg.news_but N' hk₂ fun p hp => by
      rcases List.mem_cons.mp hp with rfl | hp
      · exact Ne.symm hJD
      · exact (off3 p hp).1
    have N₃ : News h₀ L h₃ ((J, _) :: (C, oC) :: (D, LCg.lst ys) :: nw) := fun p hp => by
      rcases List.mem_cons.mp hp with rfl | hp
      · exact ⟨hst₃, hJL, hJ₀⟩
      · rcases List.mem_cons.mp hp with rfl | hp
        · exact ⟨heC, hCL, hC₀⟩
        · have z := N₂ p hp
          refine ⟨hs₃.extBut _ _ ?_ z.1, z.2⟩
          rcases List.mem_cons.mp hp with rfl | hp
          · exact Ne.symm hCD
          · exact (off3 p hp).2.1
    refine wpAny_bind (wpAny_bind ?_)
    have hx1' : (if x1 = x2 then some (Value.int (0 + (j : Int)) t) else m₂ x1) = some v1 := by rw [if_neg hx12]; exact hm1'
    refine wpAny_mono (turn j ys nw _ oC _ h₃ _ t _ hlt hI' hoC hx1' (by simp) F₃ N₃ off') (fun y s₄ h₄ => ?_) fun _ _ e => e
    obtain ⟨h₄, tk₄, nw₄, rfl, F₄, N₄, off₄, -, hI₄⟩ := h₄
    have zJ := (N₄ _ List.mem_cons_self).1
    have zC := (N₄ (C, oC) (List.mem_cons_of_mem _ List.mem_cons_self)).1
    have zD := (N₄ (D, LCg.lst ys) (List.mem_cons_of_mem _ (List.mem_cons_of_mem _ List.mem_cons_self))).1
    have N₄' : News h₀ L h₄ nw₄ := fun p hp => N₄ p (List.mem_cons_of_mem _ (List.mem_cons_of_mem _ (List.mem_cons_of_mem _ hp)))
    have off4 := off₄.mem
    refine wpAny_bind (append_at (hsz := by show ys.toArray.size ≤ sizeLine; rw [List.size_toArray]; exact hlen _ _ _ hI') zD fun h₅ hs₅ hD₅ => wpAny_pure (wpAny_pure ⟨rfl, n2 + 1 - (j + 1), by omega, h₅, tk₄, j + 1, ys ++ [y], nw₄, _, rfl, hlt, rfl, ?_, F₄.change hs₅ hDL hD₀, fun p hp => ?_, (hoC.ns zC).sameBut hs₅ hCD, hx1', off₄, hI₄⟩))
    · exact hs₅.extBut _ _ hJD zJ
    · rcases List.mem_cons.mp hp with rfl | hp
      · exact ⟨hD₅.trans (congrArg some (LCg.lst_snoc ys y)), hDL, hD₀⟩
      · exact ⟨hs₅.extBut _ _ (off4 p hp).2.2 (N₄' p hp).1, (N₄' p hp).2⟩
  · have en : j = n2 := Nat.le_antisymm hj (Nat.not_lt.mp hlt)
    refine W.done _ _ _ (en ▸ st') fun h₂ tk₂ hk₂ => wpAny_pure ?_
    exact fin h₂ tk₂ ys nw m₂ (LCg.fr_but F' hk₂ (Ne.symm hJL) hJ₀) (LCg.news_but N' hk₂ fun p hp => by
      rcases List.mem_cons.mp hp with rfl | hp
      · exact Ne.symm hJD
      · exact (off3 p hp).1) (hn'.at' fun o e => hk₂ _ o (by simpa using Ne.symm hJC) e) hm1' off' (en ▸ hI')

def TurnIn (prog : Program) (w : World) (A : Around) (h₀ : Heap) (L : Addr) (m : Str → Option Value) (env : Env) (elt : Expr) (x1 x2 : Str) (scope : Scope) (cl : List (Str × Addr)) (s : Shared) (Inv : Nat → Nat → List Value → Led → Prop) (n1 n2 : Nat) : Prop :=
  ∀ i j ys nw J oJ C oC D I oI m₂ h tk t u (E' : Value → Shared → Prop), i < n1 → j < n2 → Inv i j ys nw → LCg.NsObj oC m₂ → m₂ x1 = some (.int (i : Nat) u) → m₂ x2 = some (.int (j : Nat) t) → Fr h₀ L h m →
      News h₀ L h ((J, oJ) :: (C, oC) :: (D, LCg.lst ys) :: (I, oI) :: nw) → LCg.Off3 J C D ((I, oI) :: nw) → LCg.Off3 I C D nw →
      wpAny (model prog w) A (eval elt (compEnvC scope cl C env)) (LCg.CompEnd h₀ L m { s with heap := h, toks := tk } J oJ C oC D (LCg.lst ys) (fun _ => True) (fun y nw' => ∃ nw'', nw' = (I, oI) :: nw'' ∧ LCg.Off3 I C D nw'' ∧ Inv i (j + 1) (ys ++ [y]) nw'')) E' { s with heap := h, toks := tk }
def RngPost (s : Shared) (h₀ : Heap) (L : Addr) (m : Str → Option Value) (nw : Led) (n2 : Nat) (xv : Value) (s₂ : Shared) : Prop := ∃ h' tk' r t u v, s₂ = { s with heap := h', toks := tk' } ∧ xv = .ref r ∧ Fr h₀ L h' m ∧ News h₀ L h' nw ∧ IsRange h' r 0 (n2 : Nat) 1 t u v
def IterIn (prog : Program) (w : World) (A : Around) (h₀ : Heap) (L : Addr) (m : Str → Option Value) (env : Env) (i2 : Expr) (scope : Scope) (cl : List (Str × Addr)) (s : Shared) (Inv : Nat → Nat → List Value → Led → Prop) (n1 n2 : Nat) : Prop :=
  ∀ i ys nw C oC D I oI h tk (E' : Value → Shared → Prop), i < n1 → Inv i 0 ys nw → Fr h₀ L h m → News h₀ L h ((I, oI) :: (C, oC) :: (D, LCg.lst ys) :: nw) → LCg.Off3 I C D nw →
      wpAny (model prog w) A (eval i2 (compEnvC scope cl C env)) (RngPost s h₀ L m ((I, oI) :: (C, oC) :: (D, LCg.lst ys) :: nw) n2) E' { s with heap := h, toks := tk }

theorem outer_loop {I C D : Addr} {n1 n2 : Nat} {R : Result → Shared → Prop} {s : Shared} {Inv : Nat → Nat → List Value → Led → Prop}
    (hh : A.handled = none) (hkind : scope.kind = .function) (hx1 : scope.names.lookup x1 = some .local) (hx2 : scope.names.lookup x2 = some .local) (hx12 : x1 ≠ x2) (hn2 : n2 < 1000)
    (hI₀ : h₀.get? I = none) (hC₀ : h₀.get? C = none) (hD₀ : h₀.get? D = none) (hIL : I ≠ L) (hCL : C ≠ L) (hDL : D ≠ L) (hIC : I ≠ C) (hID : I ≠ D) (hCD : C ≠ D)
    (hlen : ∀ i j ys nw, Inv i j ys nw → ys.length ≤ sizeLine)
    (hs2 : ∀ cenv x, foldedSetIterable i2 cenv x = pure x)
    (carry : ∀ i ys nw, i < n1 → Inv i n2 ys nw → Inv (i + 1) 0 ys nw)
    (hi2 : IterIn prog w A h₀ L m env i2 scope cl s Inv n1 n2)
    (turn : TurnIn prog w A h₀ L m env elt x1 x2 scope cl s Inv n1 n2)
    (fin : ∀ h tk ys nw m₂, Fr h₀ L h m → News h₀ L h ((D, LCg.lst ys) :: nw) → h.Ns C m₂ → LCg.Off3 I C D nw → Inv n1 0 ys nw → R (.ok .next) { s with heap := h, toks := tk })
    {ys : List Value} {nw : Led} {m₂ : Str → Option Value}
    (st : IsRangeIter s.heap I ((0 : Int) + ((0 : Nat) : Int) * 1) (((n1 : Nat) : Int) - ((0 : Nat) : Int)) 1) (F : Fr h₀ L s.heap m) (N : News h₀ L s.heap ((D, LCg.lst ys) :: nw)) (hns : s.heap.Ns C m₂) (off : LCg.Off3 I C D nw) (hI : Inv 0 0 ys nw) :
    codeAny (model prog w) A (.compLoop (two elt i1 i2 x1 x2 p1 p2 scope pos) 0 (.ref I) (.ref D) (compEnvC scope cl C env)) R s := by
  refine codeAny_loop rfl (fun k s' => ∃ h tk i ys nw m₂, s' = { s with heap := h, toks := tk } ∧ i ≤ n1 ∧ k = n1 + 1 - i ∧ IsRangeIter h I ((0 : Int) + ((i : Nat) : Int) * 1) (((n1 : Nat) : Int) - ((i : Nat) : Int)) 1 ∧ Fr h₀ L h m ∧
    News h₀ L h ((D, LCg.lst ys) :: nw) ∧ h.Ns C m₂ ∧ LCg.Off3 I C D nw ∧ Inv i 0 ys nw) (fun k s' hK => ?_) (n1 + 1) ⟨s.heap, s.toks, 0, ys, nw, m₂, rfl, Nat.zero_le _, rfl, st, F, N, hns, off, hI⟩
  show wpAny _ A ((compTurn (two elt i1 i2 x1 x2 p1 p2 scope pos) 0 (.ref I) (.ref D) (compEnvC scope cl C env)).onRaise (fun x => do noteFrame x (compEnvC scope cl C env); theTreesLotGoes x)) _ _ s'
  refine wpAny_noted ?_
  rw [turn_out]
  obtain ⟨h', tk, i, ys, nw, m₂, rfl, hi, rfl, st', F', N', hn', off', hI'⟩ := hK
  refine wpAny_bind (wpAny_standAt (wpAny_bind ?_))
  have W := LCg.range_walks (prog := prog) (w := w) (A := A) (I := I) hh 0 n1
  have off3 := off'.mem
  by_cases hlt : i < n1
  · refine W.item i _ _ _ hlt st' fun v h₂ tk₂ hPv hst₂ hk₂ => ?_
    obtain ⟨u, rfl⟩ := hPv
    refine wpAny_bind (wpAny_of_eq rfl (wpAny_bind ?_))
    refine wpAny_assign_Name (wpAny_storeName_local (lookup_relabel_local hx1) (hn'.at' fun o e => hk₂ _ o (by simpa using Ne.symm hIC) e) (fun h₃ hn₃ hs₃ => ?_) (by simp [compEnvC, relabel, hkind]))
    have hst₃ : IsRangeIter h₃ I ((0 : Int) + ((i + 1 : Nat) : Int) * 1) (((n1 : Nat) : Int) - ((i + 1 : Nat) : Int)) 1 := W.frame _ _ _ hst₂ fun b hb o e => hs₃.extBut b o (fun q => hIC (by rw [List.mem_singleton.mp hb] at q; exact q)) e
    obtain ⟨oC, heC, hoC⟩ := LCg.ns_obj hn₃
    obtain ⟨oI, eI, hoI⟩ : ∃ o, h₃.get? I = some o ∧ ∀ h : Heap, h.get? I = some o → IsRangeIter h I ((0 : Int) + ((i + 1 : Nat) : Int) * 1) (((n1 : Nat) : Int) - ((i + 1 : Nat) : Int)) 1 := ⟨_, hst₃, fun _ e => e⟩
    have F₃ : Fr h₀ L h₃ m := (LCg.fr_but F' hk₂ (Ne.symm hIL) hI₀).change hs₃ hCL hC₀
    have N₂ : News h₀ L h₂ ((D, LCg.lst ys) :: nw) := LCg.news_but N' hk₂ fun p hp => by
      rcases List.mem_cons.mp hp with rfl | hp
      · exact Ne.symm hID
      · exact (off3 p hp).1
    have N₃ : News h₀ L h₃ ((I, oI) :: (C, oC) :: (D, LCg.lst ys) :: nw) := fun p hp => by
      rcases List.mem_cons.mp hp with rfl | hp
      · exact ⟨eI, hIL, hI₀⟩
      · rcases List.mem_cons.mp hp with rfl | hp
        · exact ⟨heC, hCL, hC₀⟩
        · have z := N₂ p hp
          refine ⟨hs₃.extBut _ _ ?_ z.1, z.2⟩
          rcases List.mem_cons.mp hp with rfl | hp
          · exact Ne.symm hCD
          · exact (off3 p hp).2.1
    refine wpAny_bind ?_
    refine wpAny_mono (hi2 i ys nw C oC D I oI h₃ _ _ hlt hI' F₃ N₃ off') (fun xv s₄ h₄ => ?_) fun _ _ e => e
    obtain ⟨h₄, tk₄, r, t₁, t₂, t₃, rfl, rfl, F₄, N₄, hr⟩ := h₄
    refine wpAny_bind (wpAny_standAt (wpAny_bind (wpAny_of_eq (hs2 _ _) (wpAny_bind (wpAny_holding (wpAny_pyIter_range hr (range_small (by omega) (by omega) (by omega) (by omega)) ?_))))))
    have hsz0 : Builtin.Range.rangeSize 0 ((n2 : Nat) : Int) 1 = ((n2 : Nat) : Int) := by rw [range_size (by omega)]; omega
    rw [hsz0]
    dsimp only
    generalize hJ : h₄.objs.size = J
    generalize hH : h₄.push _ = H
    have up : ∀ b o, h₄.get? b = some o → H.get? b = some o := fun b o e => hH ▸ Heap.get?_push_of_some _ e
    have fresh : ∀ b o, h₄.get? b = some o → b ≠ J := fun b o e => hJ ▸ Nat.ne_of_lt (Heap.lt_size e)
    have zI := (N₄ (I, oI) List.mem_cons_self).1
    have zC := (N₄ (C, oC) (List.mem_cons_of_mem _ List.mem_cons_self)).1
    have zD := (N₄ (D, LCg.lst ys) (List.mem_cons_of_mem _ (List.mem_cons_of_mem _ List.mem_cons_self))).1
    have hJ₀ : h₀.get? J = none := hJ ▸ next_is_new F₄
    have stJ : IsRangeIter H J ((0 : Int) + ((0 : Nat) : Int) * 1) (((n2 : Nat) : Int) - ((0 : Nat) : Int)) 1 := by
      rw [← hH, ← hJ]
      simpa using Heap.get?_push_size h₄ rfl
    have F₅ : Fr h₀ L H m := F₄.keeps up
    have N₅ : News h₀ L H ((D, LCg.lst ys) :: (I, oI) :: nw) := fun p hp => by
      have q : p ∈ (I, oI) :: (C, oC) :: (D, LCg.lst ys) :: nw := by
        rcases List.mem_cons.mp hp with rfl | hp
        · exact .tail _ (.tail _ (.head _))
        · rcases List.mem_cons.mp hp with rfl | hp
          · exact .head _
          · exact .tail _ (.tail _ (.tail _ hp))
      exact ⟨up _ _ (N₄ p q).1, (N₄ p q).2⟩
    have offJ : LCg.Off3 J C D ((I, oI) :: nw) := LCg.Off3.of fun p hp => by
      rcases List.mem_cons.mp hp with rfl | hp
      · exact ⟨fresh _ _ zI, hIC, hID⟩
      · exact ⟨fresh _ _ (N₄ p (.tail _ (.tail _ (.tail _ hp)))).1, (off3 p hp).2⟩
    have hnC : H.Ns C _ := hoC.ns (up _ _ zC)
    refine wpAny_bind (wpAny_onRaise (wpAny_run (codeAny_mono (R := fun r s' => ∃ h tk ys nw m₂, r = .ok .next ∧ s' = { s with heap := h, toks := tk } ∧ Fr h₀ L h m ∧ News h₀ L h ((D, LCg.lst ys) :: (I, oI) :: nw) ∧ h.Ns C m₂ ∧ LCg.Off3 I C D nw ∧ Inv i n2 ys nw) ?_ fun r s' hr => ?_)))
    · have lp : codeAny (model prog w) A (.compLoop (two elt i1 i2 x1 x2 p1 p2 scope pos) 1 (.ref J) (.ref D) (compEnvC scope cl C env)) _ { s with heap := H, toks := tk₄ } :=
        inner_loop (R := fun r s' => ∃ h tk ys nw m₂, r = .ok .next ∧ s' = { s with heap := h, toks := tk } ∧ Fr h₀ L h m ∧ News h₀ L h ((D, LCg.lst ys) :: (I, oI) :: nw) ∧ h.Ns C m₂ ∧ LCg.Off3 I C D nw ∧ Inv i n2 ys nw)
          (Inv := fun j ys nw' => ∃ nw'', nw' = (I, oI) :: nw'' ∧ LCg.Off3 I C D nw'' ∧ Inv i j ys nw'') hh hkind hx2 hx12 hJ₀ hC₀ hD₀ (by rw [← hJ]; exact Ne.symm (Nat.ne_of_lt F₄.ns.lt)) hCL hDL (Ne.symm (fresh _ _ zC)) (Ne.symm (fresh _ _ zD)) hCD
          (fun j ys nw ⟨_, _, _, q⟩ => hlen _ _ _ _ q)
          (fun j ys nw' oJ oC m₂ h tk t E' hj ⟨nw'', e, o3, q⟩ hC9 h1 h2 F9 N9 off9 => by subst e; exact turn i j ys nw'' J oJ C oC D I oI m₂ h tk t u E' hlt hj q hC9 h1 h2 F9 N9 off9 o3)
          (fun h tk ys nw' m₂ F9 N9 hn9 h1 off9 ⟨nw'', e, o3, q⟩ => by subst e; exact ⟨h, tk, ys, nw'', m₂, rfl, rfl, F9, N9, hn9, o3, q⟩)
          (v1 := .int (i : Nat) u) stJ F₅ N₅ hnC (by simp) offJ ⟨nw, rfl, off', hI'⟩
      exact compStart_two1 lp ((LCg.range_walks (prog := prog) (w := w) (A := A) (I := J) hh 0 n2).self 0 _ _ _ stJ lp)
    · obtain ⟨h₆, tk₆, ys₆, nw₆, m₆, rfl, rfl, F₆, N₆, hn₆, o₆, q₆⟩ := hr
      refine wpAny_pure ⟨rfl, n1 + 1 - (i + 1), by omega, h₆, tk₆, i + 1, ys₆, nw₆, m₆, rfl, hlt, rfl, hoI _ (N₆ (I, oI) (.tail _ (.head _))).1, F₆, fun p hp => N₆ p ?_, hn₆, o₆, carry _ _ _ hlt q₆⟩
      rcases List.mem_cons.mp hp with rfl | hp
      · exact .head _
      · exact .tail _ (.tail _ hp)
  · have en : i = n1 := Nat.le_antisymm hi (Nat.not_lt.mp hlt)
    refine W.done _ _ _ (en ▸ st') fun h₂ tk₂ hk₂ => wpAny_pure ?_
    exact fin h₂ tk₂ ys nw m₂ (LCg.fr_but F' hk₂ (Ne.symm hIL) hI₀) (LCg.news_but N' hk₂ fun p hp => by
      rcases List.mem_cons.mp hp with rfl | hp
      · exact Ne.symm hID
      · exact (off3 p hp).1) (hn'.at' fun o e => hk₂ _ o (by simpa using Ne.symm hIC) e) off' (en ▸ hI')

def Src2 (prog : Program) (w : World) (A : Around) (h₀ : Heap) (L : Addr) (m : Str → Option Value) (env : Env) (elt i2 : Expr) (x1 x2 : Str) (scope : Scope) (cl : List (Str × Addr)) (Q : Value → Shared → Prop) (xv : Value) (s₁ : Shared) : Prop :=
  ∃ (r : Addr) (n1 n2 : Nat) (t u v : Tok) (news : Led) (Inv : Nat → Nat → List Value → Led → Prop), xv = .ref r ∧ A.handled = none ∧ Fr h₀ L s₁.heap m ∧ News h₀ L s₁.heap news ∧ IsRange s₁.heap r 0 (n1 : Nat) 1 t u v ∧ n1 < 1000 ∧ n2 < 1000 ∧
    (∀ i j ys nw, Inv i j ys nw → ys.length ≤ sizeLine) ∧ (∀ i ys nw, i < n1 → Inv i n2 ys nw → Inv (i + 1) 0 ys nw) ∧ Inv 0 0 [] news ∧
    ∀ g, IterIn prog w A h₀ L m env i2 scope cl { s₁ with heap := g } Inv n1 n2 ∧ TurnIn prog w A h₀ L m env elt x1 x2 scope cl { s₁ with heap := g } Inv n1 n2 ∧ ∀ ys nw, Inv n1 0 ys nw → LCg.FinE h₀ L m { s₁ with heap := g } Q ys nw
theorem Src2.intro {Q : Value → Shared → Prop} {s₁ : Shared} {r : Addr} {b : Int} {t u v : Tok} {news : Led} (n1 n2 : Nat) (Inv : Nat → Nat → List Value → Led → Prop) (hr : IsRange s₁.heap r 0 b 1 t u v) (hb : b = (n1 : Nat)) (hh : A.handled = none)
    (F : Fr h₀ L s₁.heap m) (N : News h₀ L s₁.heap news) (hn1 : n1 < 1000) (hn2 : n2 < 1000) (hlen : ∀ i j ys nw, Inv i j ys nw → ys.length ≤ sizeLine) (carry : ∀ i ys nw, i < n1 → Inv i n2 ys nw → Inv (i + 1) 0 ys nw) (hI : Inv 0 0 [] news)
    (it : ∀ g, IterIn prog w A h₀ L m env i2 scope cl { s₁ with heap := g } Inv n1 n2) (tn : ∀ g, TurnIn prog w A h₀ L m env elt x1 x2 scope cl { s₁ with heap := g } Inv n1 n2) (fin : ∀ g ys nw, Inv n1 0 ys nw → LCg.FinE h₀ L m { s₁ with heap := g } Q ys nw) :
    Src2 prog w A h₀ L m env elt i2 x1 x2 scope cl Q (.ref r) s₁ := ⟨r, n1, n2, t, u, v, news, Inv, rfl, hh, F, N, hb ▸ hr, hn1, hn2, hlen, carry, hI, fun g => ⟨it g, tn g, fin g⟩⟩
theorem RngPost.intro {s : Shared} {h' : Heap} {tk' : Nat} {r : Addr} {b : Int} {t u v : Tok} {nw : Led} {n2 : Nat} (hr : IsRange h' r 0 b 1 t u v) (hb : b = (n2 : Nat)) (F : Fr h₀ L h' m) (N : News h₀ L h' nw) : RngPost s h₀ L m nw n2 (.ref r) { s with heap := h', toks := tk' } :=
  ⟨h', tk', r, t, u, v, rfl, rfl, F, N, hb ▸ hr⟩
theorem iterIn_toks {s₂ : Shared} {Inv : Nat → Nat → List Value → Led → Prop} {n1 n2 : Nat} (h : IterIn prog w A h₀ L m env i2 scope cl s₂ Inv n1 n2) (g : Heap) (k : Nat) : IterIn prog w A h₀ L m env i2 scope cl { s₂ with heap := g, toks := k } Inv n1 n2 := h
theorem turnIn_toks {s₂ : Shared} {Inv : Nat → Nat → List Value → Led → Prop} {n1 n2 : Nat} (h : TurnIn prog w A h₀ L m env elt x1 x2 scope cl s₂ Inv n1 n2) (g : Heap) (k : Nat) : TurnIn prog w A h₀ L m env elt x1 x2 scope cl { s₂ with heap := g, toks := k } Inv n1 n2 := h

theorem ListComp_two {s : Shared} {E : Value → Shared → Prop} {Q : Value → Shared → Prop} (F₀ : Fr h₀ L s.heap m)
    (hclos : closureFor scope env = pure cl) (hcell : ∀ y ∈ scope.names, y.2 ≠ .cell) (hkind : scope.kind = .function)
    (hnames : ∀ y ∈ scope.names, y.2 = .local → scope.names.lookup y.1 = some .local) (hx1 : scope.names.lookup x1 = some .local) (hx2 : scope.names.lookup x2 = some .local) (hx12 : x1 ≠ x2)
    (hs2 : ∀ cenv x, foldedSetIterable i2 cenv x = pure x)
    (h : wpAny (model prog w) A (eval i1 env) (Src2 prog w A h₀ L m env elt i2 x1 x2 scope cl Q) E s)
    (hs : ∀ x, foldedSetIterable i1 env x = pure x := by intro _; rfl) :
    wpAny (model prog w) A (eval (two elt i1 i2 x1 x2 p1 p2 scope pos) env) Q E s := by
  rw [eval_ListComp]
  refine wpAny_comprehension_free (use := none) rfl hs hclos hkind hnames (wpAny_mono h (fun xv s₁ h₁ => ?_) fun _ _ e => e)
  obtain ⟨r, n1, n2, t, u, v, news, Inv, rfl, hh, F, N, hr, hn1, hn2, hlen, carry, hI, R⟩ := h₁
  refine wpAny_pyIter_range hr (range_small (by omega) (by omega) (by omega) (by omega)) ?_
  have hsz0 : Builtin.Range.rangeSize 0 ((n1 : Nat) : Int) 1 = ((n1 : Nat) : Int) := by rw [range_size (by omega)]; omega
  rw [hsz0]
  generalize hIa : s₁.heap.objs.size = I
  generalize hH0 : s₁.heap.push _ = H0
  have up : ∀ b o, s₁.heap.get? b = some o → H0.get? b = some o := fun b o e => hH0 ▸ Heap.get?_push_of_some _ e
  have stI : IsRangeIter H0 I ((0 : Int) + ((0 : Nat) : Int) * 1) (((n1 : Nat) : Int) - ((0 : Nat) : Int)) 1 := by
    rw [← hH0, ← hIa]
    simpa using Heap.get?_push_size s₁.heap rfl
  have F1 : Fr h₀ L H0 m := F.keeps up
  have N1 : News h₀ L H0 news := N.grown up
  have hIL : I ≠ L := hIa ▸ Ne.symm (Nat.ne_of_lt F.ns.lt)
  have hI₀ : h₀.get? I = none := hIa ▸ next_is_new F
  have offI : ∀ p ∈ news, p.1 ≠ I := fun p hp => hIa ▸ Nat.ne_of_lt (Heap.lt_size (N p hp).1)
  obtain ⟨R2, RT, RF⟩ := R H0
  refine wpAny_newObj_type (wpAny_newFunctionEnv hcell (by intro y hy; simp at hy) (fun h₁ hns₁ hsb₁ => ?_) hkind)
  dsimp only at hns₁ hsb₁ ⊢
  generalize hH2 : H0.push { cls := .type "list", dict := none, data := .seq ([] : List Value).toArray } = H2 at hns₁ hsb₁ ⊢
  have hC : H2.objs.size = H0.objs.size + 1 := by rw [← hH2, Heap.size_push]
  have hDC : H0.objs.size ≠ H2.objs.size := by rw [hC]; exact Nat.ne_of_lt (Nat.lt_succ_self _)
  have below : ∀ b, b < H0.objs.size → b ≠ H2.objs.size ∧ b ≠ H0.objs.size := fun b hb => ⟨by rw [hC]; exact Nat.ne_of_lt (Nat.lt_succ_of_lt hb), Nat.ne_of_lt hb⟩
  have hIlt : I < H0.objs.size := Heap.lt_size stI
  have old : ∀ b o, H0.get? b = some o → h₁.get? b = some o := fun b o e => hsb₁.extBut b o (below b (Heap.lt_size e)).1 (Heap.get?_push_of_some _ (hH2 ▸ Heap.get?_push_of_some _ e))
  have hacc : h₁.get? H0.objs.size = some (LCg.lst []) := hsb₁.extBut _ _ hDC (Heap.get?_push_of_some _ (hH2 ▸ Heap.get?_push_size _ rfl))
  have fresh : ∀ a, H0.objs.size ≤ a → H0.get? a = none := fun a ha => by
    cases e : H0.get? a with
    | none => rfl
    | some o' => exact absurd (Heap.lt_size e) (Nat.not_lt.mpr ha)
  have fresh₀ : ∀ a, H0.objs.size ≤ a → h₀.get? a = none := fun a ha => by
    cases e : h₀.get? a with
    | none => rfl
    | some o' => have := F1.keep a o' e; rw [fresh a ha] at this; cases this
  have hD₀ : h₀.get? H0.objs.size = none := fresh₀ _ (Nat.le_refl _)
  have hC₀ : h₀.get? H2.objs.size = none := fresh₀ _ (by rw [hC]; exact Nat.le_succ _)
  have hLlt : L < H0.objs.size := F1.ns.lt
  have hDL : H0.objs.size ≠ L := Ne.symm (below L hLlt).2
  have hCL : H2.objs.size ≠ L := Ne.symm (below L hLlt).1
  have hCI : I ≠ H2.objs.size := (below I hIlt).1
  have hDI : I ≠ H0.objs.size := (below I hIlt).2
  have off₀ : LCg.Off3 I H2.objs.size H0.objs.size news := LCg.Off3.of fun p hp => ⟨offI p hp, (below _ (Heap.lt_size (N1 p hp).1)).1, (below _ (Heap.lt_size (N1 p hp).1)).2⟩
  have hst₁ : IsRangeIter h₁ I ((0 : Int) + ((0 : Nat) : Int) * 1) (((n1 : Nat) : Int) - ((0 : Nat) : Int)) 1 := old _ _ stI
  have lp := outer_loop (prog := prog) (w := w) (A := A) (elt := elt) (i1 := i1) (i2 := i2) (p1 := p1) (p2 := p2) (pos := pos) (I := I) (C := H2.objs.size) (D := H0.objs.size) (R := compPost (model prog w) A E none Q (.ref H0.objs.size) H2.objs.size)
      (s := { s₁ with heap := h₁, toks := s₁.toks + ([] : List (Str × Value)).length })
      hh hkind hx1 hx2 hx12 hn2 hI₀ hC₀ hD₀ hIL hCL hDL hCI hDI (Ne.symm hDC) hlen hs2 carry (iterIn_toks R2 h₁ _) (turnIn_toks RT h₁ _) (by
        intro h tk ys nw m₂ F9 N9 hn9 off9 q
        refine ⟨m₂, hn9, fun h'' hs'' => RF ys nw q H0.objs.size h'' tk (F9.change hs'' hCL hC₀) (fun p hp => ?_) off9.one⟩
        refine ⟨hs''.extBut _ _ ?_ (N9 p hp).1, (N9 p hp).2⟩
        rcases List.mem_cons.mp hp with rfl | hp
        · exact hDC
        · exact (off9.mem p hp).2.1)
      hst₁ (F1.keeps old) (fun p hp => by
        rcases List.mem_cons.mp hp with rfl | hp
        · exact ⟨hacc, hDL, hD₀⟩
        · exact ⟨old _ _ (N1 p hp).1, (N1 p hp).2⟩) hns₁ off₀ hI
  exact codeAny_compStart_list lp ((LCg.range_walks (prog := prog) (w := w) (A := A) (I := I) hh 0 n1).self 0 _ _ _ hst₁ lp)
end
theorem entry_loop : entryFor table "dict.update.loop" = some Builtin.«dict.update.loop» := entryFor_of_tree (by kernel_rfl)
theorem miss_keys : typeLookup (.type "list") "keys" = pure none := am_miss_of_fast (by decide +kernel)
section
variable {prog : Program} {w : World} {A : Around} {E : Value → Shared → Prop} {s : Shared}
theorem getAttrQ_miss_list {a : Addr} {o : Obj} {xs : Array Value} {k : Nat} {name : Str} {Q : Option Value → Shared → Prop}
    (hx : s.heap.get? a = some o) (hc : o.cls = .type "list") (hdat : o.data = .seq xs k) (hd : o.dict = none) (hmiss : typeLookup (.type "list") name = pure none) (hname : (["__module__", "__name__", "__qualname__", "__doc__", "__annotations__"] : List Str).contains name = false) (hA : A.handled = none)
    (h : ∀ h' tk, (∀ b ob, s.heap.get? b = some ob → h'.get? b = some ob) → Q none { s with heap := h', toks := tk }) (hsz : name.length + 100 ≤ sizeLine := by size_fits) :
    wpAny (model prog w) A (getAttr? (.ref a) name) Q E s := by
  obtain ⟨c, dct, dat, sl⟩ := o
  simp only at hc hdat hd
  subst hc hdat hd
  obtain ⟨hp, g, d, tk, os⟩ := s
  have hT : ∀ tk', (⟨hp, g, d, tk', os⟩ : Shared).TypeIs (.ref a) "list" := fun _ => ⟨_, hx, rfl⟩
  have f1 := sub_AttributeError
  have f3 := PySem.F.slot_list_getattribute.lookup
  have f4 := PySem.F.slot_list_getattribute.bind (.ref a)
  have f5 := am_list_getattr_none
  unfold getAttr? getAttrBy? getAttrBy
  repeat (any_goals (first | assumption | exact hT _ | ((with_reducible show wpAny _ _ (call (Value.builtin "list.__getattribute__") _ _) _ _ _); refine call_meets PySem.F.slot_list_getattribute (hT _) am_entry_list_getattribute (PySem.F.args_list_getattribute_2 _ _) (meets_getattribute_miss_list a xs k sl name _ hmiss hname hsz) ⟨hx, hA, fun h' tk' e hx' => ?_⟩) | wp_step))
  obtain ⟨t', u', he⟩ := hx'.there
  have hk := hx'.keeps
  show wpAny _ _ (getattributeRaised _ _ _ _ _ _ _) _ _ _
  unfold getattributeRaised
  repeat (any_goals (first | assumption | wp_step))
  exact h _ _ hk

/-- the pairs of a list: what stands at a place of the list -/
def PairAt {K : Type} [DecidableEq K] (knd : HeapKind prog w K) (h : Heap) (y : Value) (x : K × Addr × Value) : Prop :=
  ∃ pa o n, y = .ref pa ∧ h.get? pa = some o ∧ o.cls = .type "tuple" ∧ o.data = .seq #[.ref x.2.1, x.2.2] n ∧ knd.is h x.1 x.2.1

theorem nodup_app {K : Type} {a b : List K} {x : K} (h : (a ++ x :: b).Nodup) : x ∉ a := by
  intro hx
  rw [List.nodup_append] at h
  exact h.2.2 x hx x (.head _) rfl

theorem update_loop {K : Type} [DecidableEq K] {knd : HeapKind prog w K} {R : Result → Shared → Prop} {d I o : Addr} {its : Array Value} {xs : List (K × Addr × Value)} {h₁ : Heap}
    (hh : A.handled = none) (hu : knd.room A.in1) (hdI : d ≠ I) (hod : o ≠ d) (hoI : o ≠ I) (hsz : xs.length ≤ sizeLine) (hn : (xs.map (·.1)).Nodup) (hlen : its.size = xs.length)
    (hist : ∀ (i : Nat) (v : Value), its[i]? = some v → ∃ x, xs[i]? = some x ∧ ∃ pa ob n, v = .ref pa ∧ h₁.get? pa = some ob ∧ ob.cls = .type "tuple" ∧ ob.data = .seq #[.ref x.2.1, x.2.2] n ∧ pa ≠ d ∧ pa ≠ I)
    (hkey : ∀ (h : Heap), (∀ b ob, b ≠ d → b ≠ I → h₁.get? b = some ob → h.get? b = some ob) → ∀ x ∈ xs, knd.is h x.1 x.2.1)
    (hQ : ∀ h' tk, h'.DictOfH knd d xs → (∀ b ob, b ≠ d → b ≠ I → h₁.get? b = some ob → h'.get? b = some ob) → R (.ok (.ret .none)) { s with heap := h', toks := tk }) :
    ∀ (k i : Nat) (h : Heap) (tk : Nat), i + k = xs.length → h.DictOfH knd d (xs.take i) → (h.IsListIter I o i ∧ h.IsList o its) → (∀ b ob, b ≠ d → b ≠ I → h₁.get? b = some ob → h.get? b = some ob) →
      codeAny (model prog w) A (.builtin "dict.update.loop" ⟨[.ref d, .ref I, rawInt (i : Int), .none], []⟩) R { s with heap := h, toks := tk }
  | 0, i, h, tk, e, hd, hit, keep => by
    obtain rfl : i = xs.length := by omega
    rw [List.take_length] at hd
    refine codeAny_builtin entry_loop ?_
    unfold Builtin.«dict.update.loop»
    have W := Walks.list (prog := prog) (w := w) (A := A.in1) hh I o hoI its
    rw [Around.under_plain rfl rfl]
    refine wpAny_bind (W.done _ _ _ (by rw [hlen]; exact hit) fun h' tk' hk => ?_)
    show wpAny _ _ (Builtin.Dict.addKeywords d [] >>= _) _ _ _
    refine wpAny_bind (wpAny_pure (wpAny_pure (hQ h' tk' ?_ fun b ob h1 h2 e => hk b ob (by simpa using h2) (keep b ob h1 h2 e))))
    obtain ⟨od, es, ep, ho, hc, hdt, he, his, hnd⟩ := hd
    refine ⟨od, es, ep, hk _ _ (by simpa using hdI) ho, hc, hdt, he, fun x hx => ?_, hnd⟩
    exact hkey h' (fun b ob h1 h2 e => hk b ob (by simpa using h2) (keep b ob h1 h2 e)) x hx
  | k + 1, i, h, tk, e, hd, hit, keep => by
    refine codeAny_builtin entry_loop ?_
    unfold Builtin.«dict.update.loop»
    have W := Walks.list (prog := prog) (w := w) (A := A.in1) hh I o hoI its
    rw [Around.under_plain rfl rfl]
    have hlt : i < its.size := by omega
    refine wpAny_bind (W.item i _ _ _ hlt hit fun v h' tk' hv hit' hk => ?_)
    obtain ⟨x, hx, pa, ob, n, rfl, hpa, hcl, hdat, hpd, hpI⟩ := hist i v hv
    have keep' : ∀ b ob, b ≠ d → b ≠ I → h₁.get? b = some ob → h'.get? b = some ob := fun b ob h1 h2 e => hk b ob (by simpa using h2) (keep b ob h1 h2 e)
    have hd' : h'.DictOfH knd d (xs.take i) := by
      obtain ⟨od, es, ep, ho, hc, hdt, he, his, hnd⟩ := hd
      exact ⟨od, es, ep, hk _ _ (by simpa using hdI) ho, hc, hdt, he, fun x hx => hkey h' keep' x (List.mem_of_mem_take hx), hnd⟩
    have hpa' := keep' pa ob hpd hpI hpa
    have hT : ({ s with heap := h', toks := tk' } : Shared).TypeIs (.ref pa) "tuple" := ⟨ob, hpa', hcl⟩
    refine wpAny_bind (wpAny_holding (wpAny_bind (wpAny_tryCatch ?_)))
    unfold Builtin.Dict.pairItems
    refine wpAny_bind (wpAny_typeOf hT ?_)
    rw [if_pos (by decide)]
    refine wpAny_bind (wpAny_seqItems hpa' hdat (wpAny_pure ?_))
    dsimp only [Option.getD]
    have hxm : x ∈ xs := List.mem_of_getElem? hx
    have hfresh : atKey (xs.take i) x.1 = none := by
      refine atKey_none_of_get fun j p hj => ?_
      rw [List.getElem?_take] at hj
      split at hj
      · have h1 : (xs.map (·.1))[j]? = some x.1 := by rw [List.getElem?_map, hj]; rfl
        have h2 : (xs.map (·.1))[i]? = some x.1 := by rw [List.getElem?_map, hx]; rfl
        have h3 := (List.getElem?_inj (List.getElem?_eq_some_iff.mp h1).1 hn).mp (h1.trans h2.symm)
        omega
      · cases hj
    refine wpAny_holding (wpAny_dictSet_heap (knd := knd) (k := x.1) (hsz := by rw [List.length_take]; omega) hu (hkey h' keep' x hxm) hd' fun h'' hd'' hs => ?_)
    rw [storedH_new hfresh] at hd''
    refine wpAny_pure ⟨Code.quiet_builtin _ (by decide +kernel), ?_⟩
    refine update_loop hh hu hdI hod hoI hsz hn hlen hist hkey hQ k (i + 1) h'' _ (by omega) ?_ ⟨hit'.1.at fun o e => hs.extBut _ _ (Ne.symm hdI) e, hit'.2.at fun o e => hs.extBut _ _ hod e⟩ fun b ob h1 h2 e => hs.extBut _ _ h1 (keep' b ob h1 h2 e)
    rw [List.take_add_one, hx]
    exact hd''

theorem dict_pairs_h {K : Type} [DecidableEq K] {knd : HeapKind prog w K} {o : Addr} {ob : Obj} {its : Array Value} {n : Nat} {xs : List (K × Addr × Value)} {Q : Value → Shared → Prop}
    (hh : A.handled = none) (hu : ∀ B : Around, B.units ≤ A.units + 8 → knd.room B) (ho : s.heap.get? o = some ob) (hoc : ob.cls = .type "list") (hod : ob.dict = none) (hos : ob.data = .seq its n)
    (hsz : xs.length ≤ sizeLine) (hn : (xs.map (·.1)).Nodup) (hlen : its.size = xs.length)
    (hist : ∀ (i : Nat) (v : Value), its[i]? = some v → ∃ x, xs[i]? = some x ∧ ∃ pa ob n, v = .ref pa ∧ s.heap.get? pa = some ob ∧ ob.cls = .type "tuple" ∧ ob.data = .seq #[.ref x.2.1, x.2.2] n)
    (hkey : ∀ (h : Heap), (∀ b ob, s.heap.get? b = some ob → h.get? b = some ob) → ∀ x ∈ xs, knd.is h x.1 x.2.1)
    (hQ : ∀ h' tk, h'.DictOfH knd s.heap.objs.size xs → (∀ b ob, s.heap.get? b = some ob → h'.get? b = some ob) → Q (.ref s.heap.objs.size) { s with heap := h', toks := tk }) :
    wpAny (model prog w) A (call (.type "dict") [.ref o]) Q E s := by
  refine callType_codes (Q₁ := fun obj s₁ => obj = .ref s.heap.objs.size ∧ s₁ = { s with heap := s.heap.push { cls := .type "dict", data := .dict #[] } }) PySem.F.kt_called_dict (PySem.F.kt_typeCall_dict_1 _) PySem.F.entry_dict_init (kt_code_dict_new _ ⟨rfl, rfl⟩) ?_
  rintro obj s₁ ⟨rfl, rfl⟩
  have hnew : (s.heap.push { cls := .type "dict", data := .dict #[] }).DictOfH knd s.heap.objs.size [] := Heap.DictOfH.new s.heap
  refine ⟨hnew.typeIs, PySem.F.args_dict_init_2 _ _, ?_⟩
  have up : ∀ b ob, s.heap.get? b = some ob → (s.heap.push { cls := .type "dict", data := .dict #[] }).get? b = some ob := fun b ob e => Heap.get?_push_of_some _ e
  have ho' := up _ _ ho
  unfold Builtin.«dict.__init__»
  refine wpAny_bind ?_
  unfold Builtin.Dict.selfAndRest
  refine wpAny_bind (wpAny_notOrdered_dict hnew.typeIs ?_)
  show wpAny _ _ (pure (s.heap.objs.size, [Value.ref o])) _ _ _
  refine wpAny_pure ?_
  show wpAny _ _ (Builtin.Dict.updateFrom "dict.__init__" s.heap.objs.size (.ref o) [] .none) _ _ _
  unfold Builtin.Dict.updateFrom
  refine wpAny_bind (wpAny_typeOf (T := "list") ⟨ob, ho', hoc⟩ ?_)
  rw [if_pos (by decide)]
  refine wpAny_bind (getAttrQ_miss_list ho' hoc hos hod miss_keys (by decide) hh fun h₁ tk₁ hk₁ => ?_)
  rw [if_pos (by rfl)]
  have hl₁ : h₁.IsList o its := ⟨ob, hk₁ _ _ ho', hoc, n, hos⟩
  refine wpAny_bind (wpAny_rule (wpAny_bind (wpAny_pyIter_list hl₁ ?_)))
  dsimp only
  generalize hI : h₁.objs.size = I
  generalize hH : h₁.push _ = H
  have up₂ : ∀ b ob, h₁.get? b = some ob → H.get? b = some ob := fun b ob e => hH ▸ Heap.get?_push_of_some _ e
  have hdlt : s.heap.objs.size < h₁.objs.size := Heap.lt_size (hk₁ _ _ (Heap.get?_push_size _ rfl))
  have hdI : s.heap.objs.size ≠ I := hI ▸ Nat.ne_of_lt hdlt
  have olt : ∀ b ob, s.heap.get? b = some ob → b ≠ s.heap.objs.size ∧ b ≠ I := fun b ob e => ⟨Nat.ne_of_lt (Heap.lt_size e), hI ▸ Nat.ne_of_lt (Nat.lt_trans (Heap.lt_size e) hdlt)⟩
  have base : ∀ b ob, s.heap.get? b = some ob → H.get? b = some ob := fun b ob e => up₂ _ _ (hk₁ _ _ (up _ _ e))
  have hdH : H.DictOfH knd s.heap.objs.size (xs.take 0) := by
    obtain ⟨od, es, ep, h1, h2, h3, h4, h5, h6⟩ := hnew
    exact ⟨od, es, ep, up₂ _ _ (hk₁ _ _ h1), h2, h3, h4, fun _ hx => by simp at hx, List.nodup_nil⟩
  have hit : H.IsListIter I o 0 ∧ H.IsList o its := by
    refine ⟨?_, ?_⟩
    · rw [← hH, ← hI]
      exact ⟨_, Heap.get?_push_size _ rfl, rfl, rfl⟩
    · exact hl₁.at fun o e => up₂ _ _ e
  refine wpAny_pure ⟨Code.quiet_builtin _ (by decide +kernel), ?_⟩
  refine update_loop (knd := knd) (d := s.heap.objs.size) (I := I) (o := o) (its := its) (xs := xs) (h₁ := H) (s := s) (A := A.in1) hh (hu _ (by simp)) hdI (olt _ _ ho).1 (olt _ _ ho).2 hsz hn hlen
    (fun i v hv => ?_) (fun h hk x hx => hkey h (fun b ob e => hk b ob (olt _ _ e).1 (olt _ _ e).2 (base _ _ e)) x hx) (fun h' tk hd hk => ⟨rfl, hQ h' tk hd fun b ob e => hk b ob (olt _ _ e).1 (olt _ _ e).2 (base _ _ e)⟩)
    xs.length 0 H tk₁ (Nat.zero_add _) hdH hit (fun _ _ _ _ e => e)
  obtain ⟨x, hx, pa, ob', n', rfl, h1, h2, h3⟩ := hist i v hv
  exact ⟨x, hx, pa, ob', n', rfl, base _ _ h1, h2, h3, (olt _ _ h1).1, (olt _ _ h1).2⟩
end
section
variable {prog : Program} {w : World} {K : Type} [DecidableEq K] {knd : HeapKind prog w K} {A : Around} {E : Value → Shared → Prop} {s : Shared}
theorem setHashed_h {d a : Addr} {xs : List (K × Addr × Value)} {k : K} {v : Value} {Q : Unit → Shared → Prop} (hu : knd.room A) (hkey : knd.is s.heap k a) (hm : s.heap.DictOfH knd d xs)
    (hQ : ∀ h', h'.DictOfH knd d (storedH xs k a v) → Heap.SameBut d s.heap h' → Q () { s with heap := h' })
    (hsz : xs.length ≤ sizeLine) :
    wpAny (model prog w) A (dictSetHashed d (.ref a) (knd.hash k) v) Q E s := by
  obtain ⟨o, es, ep, ho, hc, hd, he, his, hn⟩ := hm
  unfold dictSetHashed
  try with_reducible refine wpAny_holding ?_
  refine wpAny_bind (wpAny_dictFind_heap hu hkey ho hd he his hn ?_ ?_)
  · intro hno
    have hnot : k ∉ xs.map (·.1) := not_mem_keys_of_get hno
    refine wpAny_bind (wpAny_rule (wpAny_updateDictKeys (hz := by have e := size_of_entries he; omega) ho hd (hQ _ ⟨_, _, ep + 1, Heap.get?_update_self _ ho (Obj.isFreed_of_dict (Obj.data_mapDictKeys hd _)),
      hc.mapDictKeys _, Obj.data_mapDictKeys hd _, ?_, ?_, ?_⟩ (Heap.SameBut.update ..))))
    · rw [storedH_new (atKey_none_of_get hno)]
      simp [he, entryOfKey]
    · rw [storedH_new (atKey_none_of_get hno)]
      intro x hx
      rcases List.mem_append.mp hx with hx | hx
      · exact knd.keeps (his x hx) ho hd (Heap.SameBut.update ..)
      · simp only [List.mem_singleton] at hx
        subst hx
        exact knd.keeps hkey ho hd (Heap.SameBut.update ..)
    · rw [storedH_new (atKey_none_of_get hno)]
      rw [List.map_append, List.nodup_append]
      refine ⟨hn, by simp, ?_⟩
      intro x hx y hy
      simp only [List.map_cons, List.map_nil, List.mem_singleton] at hy
      subst hy
      exact fun e => hnot (e ▸ hx)
  · intro j p hj
    refine wpAny_bind (wpAny_rule (wpAny_bind (wpAny_updateDict ho hd (wpAny_point (hQ _ ⟨_, _, ep, Heap.get?_update_self _ ho (Obj.isFreed_of_dict (Obj.data_mapDict hd _)),
      hc.mapDict _, Obj.data_mapDict hd _, ?_, ?_, ?_⟩ (Heap.SameBut.update ..))))))
    · rw [storedH_old (atKey_of_get hn hj)]
      have := modify_map_putAt (entryOfKey knd) (fun e : DictEntry => { e with val := v }) k v (fun _ _ => rfl) hn hj
      rw [← he] at this
      obtain ⟨l⟩ := es
      simpa using this
    · rw [storedH_old (atKey_of_get hn hj)]
      intro x hx
      obtain ⟨y, hy, rfl⟩ := List.mem_map.mp hx
      unfold putAt
      split <;> exact knd.keeps (his y hy) ho hd (Heap.SameBut.update ..)
    · rw [storedH_old (atKey_of_get hn hj)]
      rw [keys_map_putAt]; exact hn

def mergedH (xs ys : List (K × Addr × Value)) : List (K × Addr × Value) := ys.foldl (fun acc y => storedH acc y.1 y.2.1 y.2.2) xs
theorem mergedH_take {xs ys : List (K × Addr × Value)} {i : Nat} {y : K × Addr × Value} (h : ys[i]? = some y) : mergedH xs (ys.take (i + 1)) = storedH (mergedH xs (ys.take i)) y.1 y.2.1 y.2.2 := by
  simp [mergedH, List.take_add_one, h, List.foldl_append]
theorem storedH_length (xs : List (K × Addr × Value)) (k : K) (a : Addr) (v : Value) : (storedH xs k a v).length ≤ xs.length + 1 := by
  unfold storedH; split <;> simp
theorem mergedH_length (xs ys : List (K × Addr × Value)) : (mergedH xs ys).length ≤ xs.length + ys.length := by
  induction ys generalizing xs with
  | nil => simp [mergedH]
  | cons y r ih =>
    have e1 := ih (storedH xs y.1 y.2.1 y.2.2)
    have e2 := storedH_length xs y.1 y.2.1 y.2.2
    simp only [mergedH, List.foldl_cons, List.length_cons] at e1 ⊢
    omega

theorem merge_h {nm : String} {d o : Addr} {xs ys : List (K × Addr × Value)} {Q : Unit → Shared → Prop} (hu : knd.room A) (hdo : d ≠ o) (hoS : (o == sysModules) = false)
    (hd : s.heap.DictOfH knd d xs) (ho : s.heap.DictOfH knd o ys) (hne : 1 ≤ xs.length)
    (hQ : ∀ h', h'.DictOfH knd d (mergedH xs ys) → Heap.SameBut d s.heap h' → Q () { s with heap := h' })
    (hsz : xs.length + ys.length ≤ sizeLine) :
    wpAny (model prog w) A (Builtin.Dict.mergeDict nm d o) Q E s := by
  obtain ⟨od, esd, epd, hod, hcd, hdd, hed, hisd, hnd⟩ := id hd
  obtain ⟨oo, eso, epo, hoo, hco, hdo', heo, hiso, hno⟩ := id ho
  unfold Builtin.Dict.mergeDict
  rw [if_neg (by simpa using hdo)]
  unfold Builtin.Dict.showsAll
  rw [if_neg (by rw [hoS]; exact Bool.false_ne_true)]
  refine wpAny_bind (wpAny_pure ?_)
  refine wpAny_bind (wpAny_dictEntries hoo hdo' ?_)
  have hlen : ys.length = eso.size := (size_of_entries heo).symm
  have loop : wpAny (model prog w) A (do
      let epoch ← dictEpoch o
      let l ← dictEntries o
      forIn [:l.size] PUnit.unit fun i (_ : PUnit) => (do
          let l' ← dictEntries o
          match l'[i]? with
            | some e => do
              holding [e.key, e.val] (dictSetHashed d e.key e.hash e.val)
              let ep' ← dictEpoch o
              if (ep' != epoch) = true then do
                  (unsupported (toString nm ++ toString ":source-changed-during-callback") : Sem PUnit)
                  pure (ForInStep.yield PUnit.unit)
                else pure (ForInStep.yield PUnit.unit)
            | _ => do
              (unsupported "internal:dict-merge" : Sem PUnit)
              pure (ForInStep.yield PUnit.unit) : Sem (ForInStep PUnit))
      pure ()) Q E s := by
    refine wpAny_bind (wpAny_dictEpoch hoo hdo' ?_)
    refine wpAny_bind (wpAny_dictEntries hoo hdo' ?_)
    refine wpAny_bind ?_
    rw [Std.Legacy.Range.forIn_eq_forIn_range']
    simp only [Std.Legacy.Range.size, Nat.sub_zero, Nat.add_sub_cancel, Nat.div_one]
    refine wpAny_forIn_list _
      (fun rest _ s' => ∃ h' i, s' = { s with heap := h' } ∧ rest = List.range' i (eso.size - i) ∧ i ≤ eso.size ∧ h'.DictOfH knd d (mergedH xs (ys.take i)) ∧ h'.get? o = some oo ∧ (∀ y ∈ ys, knd.is h' y.1 y.2.1) ∧ Heap.SameBut d s.heap h')
      _ ?_ ?_ _ _ ⟨s.heap, 0, rfl, by simp, Nat.zero_le _, by simpa [mergedH] using hd, hoo, hiso, Heap.SameBut.refl _ _⟩
    · rintro x rest b s' ⟨h', i, rfl, hr, hi, hd', hoo', his', hs'⟩
      have hlt : i < eso.size := by
        rcases Nat.lt_or_ge i eso.size with h | h
        · exact h
        · rw [Nat.sub_eq_zero_of_le h] at hr; simp at hr
      obtain ⟨rfl, hrest⟩ : x = i ∧ rest = List.range' (i + 1) (eso.size - (i + 1)) := by
        have e : eso.size - i = (eso.size - (i + 1)) + 1 := by omega
        rw [e, List.range'_succ] at hr
        injection hr with h1 h2
        exact ⟨h1, h2⟩
      refine wpAny_bind (wpAny_dictEntries hoo' hdo' ?_)
      obtain ⟨y, hy⟩ : ∃ y, ys[x]? = some y := ⟨ys[x]'(by rw [hlen]; exact hlt), List.getElem?_eq_getElem _⟩
      rw [entry_at heo x, hy]
      have hmx : (mergedH xs (ys.take x)).length ≤ sizeLine := by
        have e1 := mergedH_length xs (ys.take x)
        have e2 : (ys.take x).length ≤ ys.length := by rw [List.length_take]; omega
        omega
      have hym := List.mem_of_getElem? hy
      show wpAny _ _ (holding [.ref y.2.1, y.2.2] (dictSetHashed d (.ref y.2.1) (knd.hash y.1) y.2.2) >>= _) _ _ _
      refine wpAny_bind (wpAny_holding (setHashed_h (hsz := hmx) hu (his' y hym) hd' fun h'' hd'' hs'' => ?_))
      have hoo'' : h''.get? o = some oo := (hs''.2 o (Ne.symm hdo)).trans hoo'
      refine wpAny_bind (wpAny_dictEpoch hoo'' hdo' ?_)
      rw [if_neg (by simp)]
      refine wpAny_pure ⟨h'', x + 1, rfl, hrest, hlt, by rw [mergedH_take hy]; exact hd'', hoo'', fun z hz => ?_, hs'.trans hs''⟩
      obtain ⟨o₁, _, _, ho₁, _, hd₁, _⟩ := hd'
      exact knd.keeps (his' z hz) ho₁ hd₁ hs''
    · rintro b s' ⟨h', i, rfl, hr, hi, hd', hoo', his', hs'⟩
      have hin : i = eso.size := by
        rcases Nat.lt_or_ge i eso.size with h | h
        · have e : eso.size - i = (eso.size - (i + 1)) + 1 := by omega
          rw [e, List.range'_succ] at hr; exact nomatch hr
        · exact Nat.le_antisymm hi h
      refine wpAny_pure (hQ h' ?_ hs')
      rw [hin, ← hlen, List.take_length] at hd'; exact hd'
  dsimp only
  split
  · refine wpAny_bind (wpAny_dictEntries hod hdd ?_)
    split
    · rename_i hemp
      have h0 : esd = #[] := Array.isEmpty_iff.mp hemp
      have := size_of_entries hed
      rw [h0] at this
      simp at this
      omega
    · exact loop
  · exact loop

theorem update_meets_h (knd : HeapKind prog w K) (d o : Addr) (hdo : d ≠ o) (hoS : (o == sysModules) = false) :
    MeetsIn prog w (Builtin.«dict.update» ⟨[.ref d, .ref o], []⟩) (fun A R s => knd.room A.in1 ∧ ∃ xs ys, s.heap.DictOfH knd d xs ∧ s.heap.DictOfH knd o ys ∧ 1 ≤ xs.length ∧ xs.length + ys.length ≤ sizeLine ∧
      ∀ h', h'.DictOfH knd d (mergedH xs ys) → Heap.SameBut d s.heap h' → R (.ok (.ret .none)) { s with heap := h' }) :=
  .of_wp fun A R s ⟨hu, xs, ys, hd, ho, hne, hsz, h⟩ => by
    unfold Builtin.«dict.update»
    refine wpAny_bind ?_
    unfold Builtin.Dict.selfAndRest
    refine wpAny_bind (wpAny_notOrdered_dict hd.typeIs ?_)
    show wpAny _ _ (pure (d, [Value.ref o])) _ _ s
    refine wpAny_pure ?_
    show wpAny _ _ (Builtin.Dict.updateFrom "dict.update" d (.ref o) [] .none) _ _ s
    unfold Builtin.Dict.updateFrom
    refine wpAny_bind (wpAny_typeOf ho.typeIs ?_)
    rw [if_neg (by decide)]
    refine wpAny_bind ?_
    unfold Builtin.Dict.merge
    refine wpAny_bind ?_
    · unfold Builtin.Dict.readDirectly
      refine wpAny_bind (wpAny_isInstance ho.typeIs isSubtype_dict_dict ?_)
      simp only [Bool.not_true, Bool.false_eq_true, if_false]
      refine wpAny_bind (wpAny_specialOf ho.typeIs PySem.F.slot_dict_iter.lookup (wpAny_pure ?_))
      simp only [beq_self_eq_true, if_true]
      refine wpAny_bind (wpAny_pure ?_)
      refine merge_h (hsz := hsz) hu hdo hoS hd ho hne fun h' hd' hs' => ?_
      show wpAny _ _ (Builtin.Dict.addKeywords d [] >>= _) _ _ _
      exact wpAny_bind (wpAny_pure (wpAny_pure ⟨.none, rfl, h h' hd' hs'⟩))
end
section
variable {w : World}
noncomputable abbrev KI (w : World) : HeapKind PP w (List Int) := tupleKind (intKind PP w)
abbrev GX := List (List Int × Addr × Value)
def upd1 (f : List Int → Int × Int) (k : List Int) (c : Int × Int) : List Int → Int × Int := fun z => if z = k then c else f z
def XsV (w : World) (rest : Led) (ks : List (List Int)) (f : List Int → Int × Int) (xs : GX) : Prop :=
  xs.map (·.1) = ks ∧ ∀ x ∈ xs, (∃ ok, (x.2.1, ok) ∈ rest ∧ TupKeyObj (intKind PP w) x.1 ok) ∧ CellV rest x.2.2 (f x.1)
theorem XsV.mono {rest rest' : Led} {ks : List (List Int)} {f : List Int → Int × Int} {xs : GX} (h : XsV w rest ks f xs) (hs : ∀ p ∈ rest, p ∈ rest') : XsV w rest' ks f xs :=
  ⟨h.1, fun x hx => let ⟨⟨ok, a, b⟩, c⟩ := h.2 x hx; ⟨⟨ok, hs _ a, b⟩, c.mono hs⟩⟩
theorem atKey_none {xs : GX} {k : List Int} (h : k ∉ xs.map (·.1)) : atKey xs k = none := by
  refine atKey_none_of_get fun j p hj => h ?_
  exact List.mem_map.mpr ⟨_, List.mem_of_getElem? hj, rfl⟩
theorem atKey_some {xs : GX} {k : List Int} (h : k ∈ xs.map (·.1)) : ∃ p, atKey xs k = some p ∧ (k, p) ∈ xs := by
  induction xs with
  | nil => simp at h
  | cons x r ih =>
    by_cases e : x.1 = k
    · subst e; exact ⟨x.2, by simp [atKey], .head _⟩
    · rw [List.map_cons, List.mem_cons] at h
      rcases h with h | h
      · exact absurd h.symm e
      · obtain ⟨p, h1, h2⟩ := ih h
        exact ⟨p, by simpa [atKey, List.find?_cons, e] using h1, .tail _ h2⟩
theorem XsV.stored {rest : Led} {ks : List (List Int)} {f : List Int → Int × Int} {xs : GX} {k : List Int} {a : Addr} {v : Value} {c : Int × Int} (h : XsV w rest ks f xs) (hk : ∃ ok, (a, ok) ∈ rest ∧ TupKeyObj (intKind PP w) k ok) (hv : CellV rest v c) :
    XsV w rest (if k ∈ ks then ks else ks ++ [k]) (upd1 f k c) (storedH xs k a v) := by
  by_cases hm : k ∈ ks
  · obtain ⟨p, hp, _⟩ := atKey_some (h.1 ▸ hm)
    rw [if_pos hm, storedH_old hp]
    refine ⟨by rw [keys_map_putAt]; exact h.1, fun x hx => ?_⟩
    obtain ⟨y, hy, rfl⟩ := List.mem_map.mp hx
    obtain ⟨h1, h2⟩ := h.2 y hy
    unfold putAt upd1
    by_cases e : y.1 = k
    · simp only [e, if_true]; rw [e] at h1; exact ⟨h1, hv⟩
    · simp only [e, if_false]; exact ⟨h1, h2⟩
  · rw [if_neg hm, storedH_new (atKey_none (h.1 ▸ hm))]
    refine ⟨by rw [List.map_append, h.1]; rfl, fun x hx => ?_⟩
    rcases List.mem_append.mp hx with hx | hx
    · obtain ⟨h1, h2⟩ := h.2 x hx
      refine ⟨h1, ?_⟩
      have e : x.1 ≠ k := fun e => hm (by rw [← h.1, ← e]; exact List.mem_map.mpr ⟨x, hx, rfl⟩)
      unfold upd1; rw [if_neg e]; exact h2
    · simp only [List.mem_singleton] at hx
      subst hx
      exact ⟨hk, by unfold upd1; simp; exact hv⟩
theorem XsV.merged {rest : Led} {ks : List (List Int)} {f2 : List Int → Int × Int} : ∀ {ys : GX} {xs : GX} {f : List Int → Int × Int}, XsV w rest ks f xs →
    (∀ y ∈ ys, y.1 ∈ ks ∧ (∃ ok, (y.2.1, ok) ∈ rest ∧ TupKeyObj (intKind PP w) y.1 ok) ∧ CellV rest y.2.2 (f2 y.1)) →
    XsV w rest ks (fun k => if k ∈ ys.map (·.1) then f2 k else f k) (mergedH xs ys)
  | [], xs, f, h, _ => by simpa [mergedH] using h
  | y :: ys, xs, f, h, hy => by
    have h0 := hy y (.head _)
    have h1 := h.stored h0.2.1 h0.2.2
    rw [if_pos h0.1] at h1
    have h2 := XsV.merged (f2 := f2) (ys := ys) h1 fun z hz => hy z (.tail _ hz)
    have e : (fun k => if k ∈ ys.map (·.1) then f2 k else upd1 f y.1 (f2 y.1) k) = fun k => if k ∈ (y :: ys).map (·.1) then f2 k else f k := by
      funext k
      unfold upd1
      simp only [List.map_cons, List.mem_cons]
      by_cases e1 : k ∈ ys.map (·.1)
      · simp only [e1, or_true, if_true]
      · by_cases e2 : k = y.1
        · simp [e2]
        · simp only [e1, e2, or_self, if_false]
    rw [e] at h2
    exact h2

def GridV (w : World) (o : Obj) (ks : List (List Int)) (f : List Int → Int × Int) (rest : Led) : Prop :=
  ∃ es ep xs, o.ExactDict ∧ o.data = .dict es ep ∧ es.toList = xs.map (entryOfKey (KI w)) ∧ ks.Nodup ∧ XsV w rest ks f xs
theorem GridV.mono {o : Obj} {rest rest' : Led} {ks : List (List Int)} {f : List Int → Int × Int} (h : GridV w o ks f rest) (hs : ∀ p ∈ rest, p ∈ rest') : GridV w o ks f rest' :=
  let ⟨es, ep, xs, a, b, c, d, e⟩ := h; ⟨es, ep, xs, a, b, c, d, e.mono hs⟩
theorem GridV.dict {o : Obj} {d : Addr} {rest news : Led} {ks : List (List Int)} {f : List Int → Int × Int} {h₀ h : Heap} {L : Addr} (V : GridV w o ks f rest) (N : News h₀ L h news) (hm : (d, o) ∈ news) (hs : ∀ p ∈ rest, p ∈ news) :
    ∃ xs, h.DictOfH (KI w) d xs ∧ XsV w rest ks f xs ∧ ks.Nodup := by
  obtain ⟨es, ep, xs, a, b, c, d, e⟩ := V
  exact ⟨xs, ⟨o, es, ep, N.get hm, a, b, c, fun x hx => let ⟨⟨_, hmk, t⟩, _⟩ := e.2 x hx; t.key (N.get (hs _ hmk)), by rw [e.1]; exact d⟩, e, d⟩
theorem GridV.of {o : Obj} {d : Addr} {rest : Led} {ks : List (List Int)} {f : List Int → Int × Int} {h : Heap} {xs : GX} (hd : h.DictOfH (KI w) d xs) (hx : XsV w rest ks f xs) (ho : h.get? d = some o) : GridV w o ks f rest := by
  obtain ⟨o', es, ep, ho', hc, hdt, he, _, hn⟩ := hd
  obtain rfl : o' = o := Option.some.inj (ho'.symm.trans ho)
  exact ⟨es, ep, xs, hc, hdt, he, by rw [← hx.1]; exact hn, hx⟩
theorem key_of (r c : Int) (t u : Tok) (n : Nat) : TupKeyObj (intKind PP w) [r, c] (tupOf [.int r t, .int c u] n) :=
  ⟨rfl, _, n, rfl, .cons (by simp [intKind, Value.isInt]) (.cons (by simp [intKind, Value.isInt]) .nil)⟩

variable {A : Around} {E : Value → Shared → Prop} {s : Shared} {h₀ : Heap} {L dG dM a : Addr} {m : Str → Option Value} {news rest rest2 : Led} {o oM ok : Obj} {ks ks2 : List (List Int)} {f f2 : List Int → Int × Int} {k : List Int}
theorem grid_item {value slice : Expr} {Q : Value → Shared → Prop} (hu : A.units + 1 < cLine) (N : News h₀ L s.heap news) (V : GridV w o ks f rest) (hm : (dG, o) ∈ news) (hs : ∀ p ∈ rest, p ∈ news)
    (hka : (a, ok) ∈ news) (tk : TupKeyObj (intKind PP w) k ok) (hk : k ∈ ks) (h : ∀ v, CellV rest v (f k) → Q v { s with toks := s.toks + (k.length + 1) })
    (hss : subscripted slice false (.ref dG) (.ref a) = operate [.ref dG, .ref a] (getItem (.ref dG) (.ref a)) := by with_unfolding_all rfl) (hg : ∀ r, letTemporaryGo value (.ref dG) r = pure () := by intro _; with_unfolding_all rfl) :
    wpAny (model PP w) A (subscriptTail value slice (.ref dG) (.ref a)) Q E s := by
  obtain ⟨xs, hd, hx, _⟩ := V.dict N hm hs
  obtain ⟨p, hp, hpm⟩ := atKey_some (xs := xs) (hx.1 ▸ hk)
  exact subscriptTail_builtin hd.typeIs PySem.slot_dict_getitem.lookup (wpAny_getItem_heap (knd := KI w) (tupleKind_room_in1 hu) (tk.key (N.get hka)) hd hp (h _ (hx.2 _ hpm).2)) hss hg
theorem grid_method {pl : Sem Bool} {Q : Value × List Value → Shared → Prop} (N : News h₀ L s.heap news) (V : GridV w o ks f rest) (hm : (dG, o) ∈ news) (hs : ∀ p ∈ rest, p ∈ news) (h : Q (.builtin "dict.update", [.ref dG]) s) :
    wpAny (model PP w) A (getMethod (.ref dG) (Str.ofString "update") pl) Q E s := by
  obtain ⟨xs, hd, _, _⟩ := V.dict N hm hs
  exact getMethod_builtin hd.typeIs PySem.F.plainAttrs_dict PySem.F.slot_dict_update PySem.F.type_dict_update (dictOfH_noDict hd) h
theorem grid_set {v : Value} {c : Int × Int} {Q : Unit → Shared → Prop} (hu : A.units + 1 < cLine) (F : Fr h₀ L s.heap m) (N : News h₀ L s.heap ((dG, o) :: news)) (hoff : ∀ p ∈ news, p.1 ≠ dG) (V : GridV w o ks f rest) (hrs : ∀ p ∈ rest, p ∈ news)
    (hka : (a, ok) ∈ rest) (tk : TupKeyObj (intKind PP w) k ok) (hv : CellV rest v c) (hsz : ks.length ≤ 1000)
    (h : ∀ o' h', Fr h₀ L h' m → News h₀ L h' ((dG, o') :: news) → GridV w o' (if k ∈ ks then ks else ks ++ [k]) (upd1 f k c) rest → Q () { s with heap := h', toks := s.toks + (k.length + 1) }) :
    wpAny (model PP w) A (setItem (.ref dG) (.ref a) v) Q E s := by
  obtain ⟨xs, hd, hx, _⟩ := V.dict N (.head _) (fun p hp => .tail _ (hrs p hp))
  have hl : xs.length = ks.length := by rw [← hx.1, List.length_map]
  refine wpAny_setItem_heap (hsz := by rw [hl, sizeLine_eq]; omega) (knd := KI w) (tupleKind_room_in1 hu) (tk.key (N.get (.tail _ (hrs _ hka)))) hd fun h' hm' hs => ?_
  obtain ⟨o', _, _, ho', _⟩ := id hm'
  exact h o' h' (F.change hs (N _ (.head _)).2.1 (N.fresh (.head _))) (N.setHead hoff hs ho') (GridV.of hm' (hx.stored ⟨ok, hka, tk⟩ hv) ho')
theorem grid_update {Q : Value → Shared → Prop} (hu : A.units + 2 < cLine) (F : Fr h₀ L s.heap m) (hbig : dM ≠ sysModules) (N : News h₀ L s.heap ((dG, o) :: (dM, oM) :: news)) (hoff : ∀ p ∈ (dM, oM) :: news, p.1 ≠ dG) (V : GridV w o ks f rest) (hrs : ∀ p ∈ rest, p ∈ news)
    (V2 : GridV w oM ks2 f2 rest) (hsub : ∀ k ∈ ks2, k ∈ ks) (hne : 1 ≤ ks.length) (hsz : ks.length ≤ 1000) (hsz2 : ks2.length ≤ 1000)
    (h : ∀ o' h', Fr h₀ L h' m → News h₀ L h' ((dG, o') :: (dM, oM) :: news) → GridV w o' ks (fun k => if k ∈ ks2 then f2 k else f k) rest → Q .none { s with heap := h' }) :
    wpAny (model PP w) A (call (.builtin "dict.update") [.ref dG, .ref dM]) Q E s := by
  obtain ⟨xs, hd, hx, _⟩ := V.dict N (.head _) (fun p hp => .tail _ (.tail _ (hrs p hp)))
  obtain ⟨ys, hd2, hx2, _⟩ := V2.dict (d := dM) N (.tail _ (.head _)) (fun p hp => .tail _ (.tail _ (hrs p hp)))
  have hl : xs.length = ks.length := by rw [← hx.1, List.length_map]
  have hl2 : ys.length = ks2.length := by rw [← hx2.1, List.length_map]
  have hMo : (dM == sysModules) = false := beq_eq_false_iff_ne.mpr hbig
  refine call_meetsIn PySem.F.slot_dict_update hd.typeIs PySem.F.entry_dict_update (PySem.F.args_dict_update_2 _ _) (update_meets_h (KI w) dG dM (Ne.symm (hoff _ (.head _))) hMo) ⟨?_, xs, ys, hd, hd2, by omega, by rw [hl, hl2, sizeLine_eq]; omega, fun h' hd' hs => ?_⟩
  · show A.units + 1 < cLine
    omega
  · obtain ⟨o', _, _, ho', _⟩ := id hd'
    have e := hx.merged (f2 := f2) (ys := ys) fun y hy => ⟨hsub _ (hx2.1 ▸ List.mem_map.mpr ⟨y, hy, rfl⟩), hx2.2 y hy⟩
    rw [hx2.1] at e
    exact (h o' h' (F.change hs (N _ (.head _)).2.1 (N.fresh (.head _))) (N.setHead hoff hs ho') (GridV.of hd' e ho'))

def PairV (rest : Led) (y : Value) (x : List Int × Addr × Value) : Prop := ∃ pa n, y = .ref pa ∧ (pa, tupOf [.ref x.2.1, x.2.2] n) ∈ rest
theorem PairV.mono {rest rest' : Led} {y : Value} {x : List Int × Addr × Value} (h : PairV rest y x) (hs : ∀ p ∈ rest, p ∈ rest') : PairV rest' y x := let ⟨pa, n, a, b⟩ := h; ⟨pa, n, a, hs _ b⟩
theorem dict_pairs_L {D : Addr} {ys : List Value} {n : Nat} {xs : GX} {Q : Value → Shared → Prop} (hh : A.handled = none) (hu : A.units + 20 < cLine) (F : Fr h₀ L s.heap m) (N : News h₀ L s.heap news) (hm : (D, W.listOf ys.toArray n) ∈ news)
    (ha : All2 (PairV rest) ys xs) (hx : XsV w rest ks f xs) (hs : ∀ p ∈ rest, p ∈ news) (hn : ks.Nodup) (hsz : ks.length ≤ 1000)
    (h : ∀ d o' h' tk, Fr h₀ L h' m → News h₀ L h' ((d, o') :: news) → (∀ p ∈ news, p.1 ≠ d) → GridV w o' ks f rest → Q (.ref d) { s with heap := h', toks := tk }) :
    wpAny (model PP w) A (call (.type "dict") [.ref D]) Q E s := by
  have hl : xs.length = ks.length := by rw [← hx.1, List.length_map]
  have hl2 : ys.length = xs.length := ha.length
  refine dict_pairs_h (knd := KI w) (xs := xs) hh (fun B hB => ?_) (N.get hm) rfl rfl rfl (by rw [hl, sizeLine_eq]; omega) (by rw [hx.1]; exact hn) (by rw [List.size_toArray]; exact hl2) (fun i v hv => ?_) (fun h' hk x hxm => ?_) (fun h' tk hd hk => ?_)
  · show B.units < cLine
    omega
  · rw [List.getElem?_toArray] at hv
    obtain ⟨x, h1, pa, n', e, h2⟩ := ha.get' i v hv
    exact ⟨x, h1, pa, _, n', e, N.get (hs _ h2), rfl, rfl⟩
  · obtain ⟨⟨_, hmk, t⟩, _⟩ := hx.2 x hxm
    exact t.key (hk _ _ (N.get (hs _ hmk)))
  · obtain ⟨o', _, _, ho', _⟩ := id hd
    refine h _ o' h' tk (F.keeps hk) (fun p hp => ?_) N.apart (GridV.of hd hx ho')
    rcases List.mem_cons.mp hp with rfl | hp
    · exact ⟨ho', Ne.symm (Nat.ne_of_lt F.ns.lt), next_is_new F⟩
    · exact ⟨hk _ _ (N p hp).1, (N p hp).2⟩
end
section
variable {prog : Program} {w : World} {A : Around} {E : Value → Shared → Prop} {s : Shared} {h₀ : Heap} {env : Env} {x : Str} {body : List Stmt} {Q : Flow → Shared → Prop}
def RngJ (x : Str) (stored : List Str) (m₀ : Str → Option Value) (P : Nat → (Str → Option Value) → Led → Prop) (i : Nat) (m' : Str → Option Value) (nx : Led) : Prop := P i m' nx ∧ ∀ z, z ≠ x → stored.contains z = false → m' z = m₀ z
theorem rngJ_fr {stored : List Str} {m₀ m₁ : Str → Option Value} (ho : ∀ z, z ≠ x → stored.contains z = false → m₁ z = m₀ z) (v : Option Value) : (fun y => if y = x then v else m₁ y) = fun y => if y = x then v else if stored.contains y then m₁ y else m₀ y := by
  funext y
  by_cases h1 : y = x
  · simp only [h1, if_true]
  · simp only [h1, if_false]
    cases h2 : stored.contains y with
    | true => simp
    | false => simp [ho y h1 h2]
theorem rngJ_out {stored : List Str} {m₀ m₁ : Str → Option Value} (ho : ∀ z, z ≠ x → stored.contains z = false → m₁ z = m₀ z) : m₁ = fun y => if y = x then m₁ y else if stored.contains y then m₁ y else m₀ y := by
  funext y
  by_cases h1 : y = x
  · simp only [h1, if_true]
  · simp only [h1, if_false]
    cases h2 : stored.contains y with
    | true => simp
    | false => simp [ho y h1 h2]
theorem iter_range {r : Addr} {a₀ b₀ : Int} {t₀ u₀ v₀ : Tok} {n : Nat} {m₀ : Str → Option Value} {news : Led} (stored : List Str) (P : Nat → (Str → Option Value) → Led → Prop)
    (hh : A.handled = none) (hr : IsRange s.heap r a₀ b₀ 1 t₀ u₀ v₀) (hsmall : Builtin.Range.small a₀ b₀ 1 = true) (hsz : Builtin.Range.rangeSize a₀ b₀ 1 = (n : Int)) (F : Fr h₀ env.locals s.heap m₀) (N : News h₀ env.locals s.heap news) (hp : P 0 m₀ news)
    (turn : ∀ i t u nx h tk own, i < n → OwnOff own (nx.map (·.1)) → P i u nx → Fr h₀ env.locals h (fun y => if y = x then some (.int (a₀ + (i : Nat)) t) else if stored.contains y then u y else m₀ y) → News h₀ env.locals h (nx ++ own) →
      wpAny (model prog w) A (execs body env) (InvPostG h₀ env.locals (RngJ x stored m₀ P (i + 1)) own { s with heap := h, toks := tk } Q) E { s with heap := h, toks := tk })
    (done : ∀ u nx h tk, P n u nx → Fr h₀ env.locals h (fun y => if y = x then u y else if stored.contains y then u y else m₀ y) → News h₀ env.locals h nx → Q .next { s with heap := h, toks := tk }) :
    wpAny (model prog w) A (pyIter (.ref r)) (fun it s₂ => LoopAtV prog w A h₀ env x body Q E it s₂) E s := by
  refine wpAny_pyIter_range hr hsmall ?_
  have W : Walks prog w A s.heap.objs.size [s.heap.objs.size] [s.heap.objs.size] n (fun i v => i < n ∧ ∃ t, v = .int (a₀ + i * 1) t)
      (fun i h => IsRangeIter h s.heap.objs.size (a₀ + (i : Nat) * 1) ((n : Int) - (i : Nat)) 1) := (Walks.range hh _ a₀ 1 n).bound
  refine kdr_loop (RngJ x stored m₀ P) W (fun _ h => h) (fun _ h => h) ?_ ?_ ?_ ?_ (by show IsRangeIter _ _ _ _ _; rw [hsz]; simpa using Heap.get?_push_size _ rfl) (F.push _) (fun p hp => ⟨Heap.get?_push_of_some _ (N p hp).1, (N p hp).2⟩) ⟨hp, fun _ _ _ => rfl⟩ ?_ ?_
  · intro i h hi b hb
    rw [List.mem_singleton.mp hb]
    exact ⟨_, hi⟩
  · intro hm
    exact absurd F.ns.lt ((List.mem_singleton.mp hm) ▸ Nat.lt_irrefl _)
  · intro b hb
    rw [List.mem_singleton.mp hb]
    exact next_is_new F
  · intro p hp hI
    exact absurd (Heap.lt_size (N p hp).1) ((List.mem_singleton.mp hI) ▸ Nat.lt_irrefl _)
  · rintro i v m₁ nx h tk own hi ⟨_, t, rfl⟩ hoff ⟨hP, ho⟩ F₁ N₁
    have e1 : a₀ + (i : Int) * 1 = a₀ + (i : Int) := by omega
    rw [e1, rngJ_fr ho] at F₁
    exact turn i t m₁ nx h tk own hi hoff hP F₁ N₁
  · rintro m₁ nx h tk ⟨hP, ho⟩ F₁ N₁
    rw [rngJ_out ho] at F₁
    exact done m₁ nx h tk hP F₁ N₁

def Junk (own : Led) : Prop := ∀ p ∈ own, p.2.cls = .type "range_iterator"
theorem iter_rangeJ {r : Addr} {a₀ b₀ : Int} {t₀ u₀ v₀ : Tok} {n : Nat} {m₀ : Str → Option Value} {news : Led} (stored : List Str) (P : Nat → (Str → Option Value) → Led → Prop)
    (hh : A.handled = none) (hr : IsRange s.heap r a₀ b₀ 1 t₀ u₀ v₀) (hsmall : Builtin.Range.small a₀ b₀ 1 = true) (hsz : Builtin.Range.rangeSize a₀ b₀ 1 = (n : Int)) (F : Fr h₀ env.locals s.heap m₀) (N : News h₀ env.locals s.heap news) (hp : P 0 m₀ news)
    (turn : ∀ i t u nx h tk own, i < n → OwnOff own (nx.map (·.1)) → Junk own → P i u nx → Fr h₀ env.locals h (fun y => if y = x then some (.int (a₀ + (i : Nat)) t) else if stored.contains y then u y else m₀ y) → News h₀ env.locals h (nx ++ own) →
      wpAny (model prog w) A (execs body env) (InvPostG h₀ env.locals (RngJ x stored m₀ P (i + 1)) own { s with heap := h, toks := tk } Q) E { s with heap := h, toks := tk })
    (done : ∀ u nx h tk, P n u nx → Fr h₀ env.locals h (fun y => if y = x then u y else if stored.contains y then u y else m₀ y) → News h₀ env.locals h nx → Q .next { s with heap := h, toks := tk }) :
    wpAny (model prog w) A (pyIter (.ref r)) (fun it s₂ => LoopAtV prog w A h₀ env x body Q E it s₂) E s := by
  refine wpAny_pyIter_range hr hsmall ?_
  generalize hI : s.heap.objs.size = I
  have W : Walks prog w A I [I] [I] n (fun i v => i < n ∧ ∃ t, v = .int (a₀ + i * 1) t)
      (fun i h => IsRangeIter h I (a₀ + (i : Nat) * 1) ((n : Int) - (i : Nat)) 1) := (Walks.range hh _ a₀ 1 n).bound
  refine ⟨I, [I], [I], n, _, _, m₀, news, RngJ x stored m₀ P, rfl, W, ?_, ?_, ?_, (by show IsRangeIter _ _ _ _ _; rw [hsz, ← hI]; simpa using Heap.get?_push_size _ rfl), (F.push _), (fun p hp => ⟨Heap.get?_push_of_some _ (N p hp).1, (N p hp).2⟩), ⟨hp, fun _ _ _ => rfl⟩, ?_, ?_⟩
  · intro hm
    exact absurd F.ns.lt ((List.mem_singleton.mp hm) ▸ hI ▸ Nat.lt_irrefl _)
  · intro b hb
    rw [List.mem_singleton.mp hb, ← hI]
    exact next_is_new F
  · intro p hp hIm
    have h9 : p.1 < s.heap.objs.size := Heap.lt_size (N p hp).1
    have h8 : p.1 = I := List.mem_singleton.mp hIm
    rw [h8, hI] at h9
    exact absurd h9 (Nat.lt_irrefl _)
  · rintro i v m₁ news₁ s₁ own ⟨hh', tk', rfl⟩ hin ⟨_, t, rfl⟩ hJ hoff hown hgets hmem hst' F₁ N₁
    obtain ⟨hP, ho⟩ := hJ
    have hsep : OwnOff own (news₁.map (·.1)) := by
      intro p hp b hb e
      obtain ⟨q, hq, rfl⟩ := List.mem_map.mp hb
      exact hoff q hq (e ▸ hown p hp)
    obtain ⟨oI, hI2, hIc⟩ : ∃ o, hh'.get? I = some o ∧ o.cls = .type "range_iterator" := ⟨_, hst', rfl⟩
    have hjk : Junk own := fun p hp => by
      have h1 : hh'.get? p.1 = some p.2 := hgets p hp
      rw [List.mem_singleton.mp (hown p hp)] at h1
      rw [Option.some.inj (h1.symm.trans hI2)]
      exact hIc
    have N₂ : News h₀ env.locals hh' (news₁ ++ own) := fun p hp => N₁ p ((List.mem_append.mp hp).elim (fun h => List.mem_append.mpr (.inr h)) fun h => List.mem_append.mpr (.inl h))
    have e1 : a₀ + (i : Int) * 1 = a₀ + (i : Int) := by omega
    rw [e1, rngJ_fr ho] at F₁
    refine wpAny_mono (turn i t m₁ news₁ hh' tk' own hin hsep hjk hP F₁ N₂) (fun f s₂ p => ?_) fun _ _ e => e
    have fin : InvEndG h₀ env.locals (RngJ x stored m₀ P (i + 1)) own { s with heap := hh', toks := tk' } s₂ → LoopStepU h₀ env.locals [I] own (RngJ x stored m₀ P (i + 1)) { s with heap := hh', toks := tk' } .next s₂ := by
      rintro ⟨h', tk, m', news', nx, e, F', N', hn, ho, ha, hm⟩
      refine ⟨rfl, h', tk, m', nx, e, F', fun p hp => N' p ((List.mem_append.mp hp).elim (ho p) (hn p)), fun p hp hq => ?_, hm⟩
      exact ha _ (hmem _ hq (by rw [List.mem_singleton.mp hq, ← hI]; exact next_is_new F) oI (by rw [List.mem_singleton.mp hq]; exact hI2)) p.1 (List.mem_map.mpr ⟨p, hp, rfl⟩) rfl
    cases f with
    | ret v => exact .ret p
    | brk => exact .brk p
    | next => exact .next (fin p)
    | cont => exact .cont (fin p)
  · rintro h' tk m' news' F' N' _ ⟨hP, ho⟩
    rw [rngJ_out ho] at F'
    exact done m' news' h' tk hP F' N'
theorem CellV.drop {l l' : Led} {v : Value} {c : Int × Int} (h : CellV l v c) (hs : ∀ p ∈ l, p.2.cls ≠ .type "range_iterator" → p ∈ l') : CellV l' v c := by
  rcases h with h | ⟨a, t, u, n, e, hm⟩
  · exact .inl h
  · exact .inr ⟨a, t, u, n, e, hs _ hm (by simp)⟩
theorem RowV.drop {l l' : Led} {v : Value} {r : List (Int × Int)} (h : RowV l v r) (hs : ∀ p ∈ l, p.2.cls ≠ .type "range_iterator" → p ∈ l') : RowV l' v r := by
  obtain ⟨a, vs, n, e, hm, hc⟩ := h
  exact ⟨a, vs, n, e, hs _ hm (by simp [W.listOf]), hc.mono fun _ _ x => x.drop hs⟩
theorem GridV.drop {w : World} {o : Obj} {l l' : Led} {ks : List (List Int)} {f : List Int → Int × Int} (h : GridV w o ks f l) (hs : ∀ p ∈ l, p.2.cls ≠ .type "range_iterator" → p ∈ l') : GridV w o ks f l' := by
  obtain ⟨es, ep, xs, a, b, c, d, e⟩ := h
  refine ⟨es, ep, xs, a, b, c, d, e.1, fun x hx => ?_⟩
  obtain ⟨⟨ok, h1, h2⟩, h3⟩ := e.2 x hx
  exact ⟨⟨ok, hs _ h1 (by rw [h2.1]; simp), h2⟩, h3.drop hs⟩
theorem CellV.tups {l l' : Led} {v : Value} {c : Int × Int} (h : CellV l v c) (hs : ∀ p ∈ l, p.2.cls = .type "tuple" → p ∈ l') : CellV l' v c := by
  rcases h with h | ⟨a, t, u, n, e, hm⟩
  · exact .inl h
  · exact .inr ⟨a, t, u, n, e, hs _ hm rfl⟩
theorem GridV.tups {w : World} {o : Obj} {l l' : Led} {ks : List (List Int)} {f : List Int → Int × Int} (h : GridV w o ks f l) (hs : ∀ p ∈ l, p.2.cls = .type "tuple" → p ∈ l') : GridV w o ks f l' := by
  obtain ⟨es, ep, xs, a, b, c, d, e⟩ := h
  refine ⟨es, ep, xs, a, b, c, d, e.1, fun x hx => ?_⟩
  obtain ⟨⟨ok, h1, h2⟩, h3⟩ := e.2 x hx
  exact ⟨⟨ok, hs _ h1 h2.1, h2⟩, h3.tups hs⟩
theorem GridV.cls {w : World} {o : Obj} {l : Led} {ks : List (List Int)} {f : List Int → Int × Int} (h : GridV w o ks f l) : o.cls = .type "dict" := let ⟨_, _, _, a, _⟩ := h; a.1
theorem isT {o : Obj} {T : String} {P : Prop} (h : o.cls = .type T) (h2 : o.cls = .type "tuple") (h3 : (T == "tuple") = false := by decide) : P := by
  rw [h] at h2
  injection h2 with h2
  subst h2
  simp at h3
end
def Same (wd ht : Nat) (rows : List (List Cell)) (f : List Int → Int × Int) : Prop := rows.length = ht ∧ (∀ r ∈ rows, r.length = wd) ∧ ∀ r c : Nat, r < ht → c < wd → (rows[r]?).bind (fun l => l[c]?) = some (f [(r : Int), (c : Int)])
inductive LawP (w : World) (ks : List (List Int)) (dd sdx dG : Addr) (wd ht : Int) (T : Led) (m : Str → Option Value) (nx : Led) : Prop
  | mk (vs : List Value) (ms : List Int) (nn : Nat) (ua ub uc ud ue uf : Tok) (wr : Int) (dR : Addr) (n2 : Nat) (cv : Value) (rs : List Value) (oG : Obj) (rows : List (List Cell)) (f : List Int → Int × Int) (new : Led) (cvL : Value) (tL : Tok) (cur : Int × Int)
    (h0 : nx = (dd, W.listOf vs.toArray nn) :: (sdx, scrD w ua ub uc ud ue uf wd wr (.ref dR) cv) :: (dR, W.listOf rs.toArray n2) :: (dG, oG) :: (new ++ T)) (h1 : IntsAre vs ms) (h2 : Deck ms) (h3 : OwnOff (new ++ T) [dd, sdx, dR, dG]) (h4 : @Ne Nat dR dd ∧ @Ne Nat dR sdx ∧ @Ne Nat dR dG)
    (h5 : All2 (RowV (new ++ T)) rs rows) (h6 : GridV w oG ks f (new ++ T)) (h7 : Same wd.toNat ht.toNat rows f) (h8 : CellV (new ++ T) cv cur) (h9 : m (Str.ofString "_law_cursor") = some cvL) (h10 : CellV (new ++ T) cvL cur) (h11 : m (Str.ofString "_law_written") = some (.int wr tL)) (h12 : Off new T) : LawP w ks dd sdx dG wd ht T m nx
theorem fr_two {x c1 c2 : Str} {v : Option Value} {v1 v2 : Value} {u m₀ : Str → Option Value} {stored : List Str} (h1 : u c1 = some v1) (h2 : u c2 = some v2) (s1 : stored.contains c1 = true) (s2 : stored.contains c2 = true) :
    (fun y => if y = x then v else if stored.contains y then u y else m₀ y) = fun y => if y = x then v else if y = c1 then some v1 else if y = c2 then some v2 else if stored.contains y then u y else m₀ y := by
  funext y
  by_cases hx : y = x
  · simp only [hx, if_true]
  · simp only [hx, if_false]
    by_cases e1 : y = c1
    · subst e1; simp only [s1, if_true, h1]
    · simp only [e1, if_false]
      by_cases e2 : y = c2
      · subst e2; simp only [s2, if_true, h2]
      · simp only [e2, if_false]
theorem same_start {wd ht : Nat} : Same wd ht (List.replicate ht (List.replicate wd (32, 0))) (fun _ => (32, 0)) := by
  refine ⟨by simp, fun r hr => ?_, fun r c hr hc => ?_⟩
  · rw [(List.mem_replicate.mp hr).2]; simp
  · simp [List.getElem?_replicate, hr, hc]
theorem fr_mid {c1 c2 : Str} {m' mT : Str → Option Value} {v1 v2 : Value} {stored : List Str} (h1 : m' c1 = some v1) (h2 : m' c2 = some v2) (ho : ∀ z, stored.contains z = false → m' z = mT z) :
    m' = fun y => if y = c1 then some v1 else if y = c2 then some v2 else if stored.contains y then m' y else mT y := by
  funext y
  by_cases e1 : y = c1
  · subst e1; simp only [if_true, h1]
  · simp only [e1, if_false]
    by_cases e2 : y = c2
    · subst e2; simp only [if_true, h2]
    · simp only [e2, if_false]
      cases h3 : stored.contains y with
      | true => simp
      | false => simp [ho y h3]
def MidP (w : World) (ks : List (List Int)) (dd sdx dG : Addr) (wd ht : Int) (R : Led) (h₀ : Heap) (L : Addr) (mT : Str → Option Value) (stored : List Str) (s : Shared) (f : Flow) (s' : Shared) : Prop :=
  f = .next ∧ ∃ h' tk' m' nx, s' = { s with heap := h', toks := tk' } ∧ Fr h₀ L h' m' ∧ News h₀ L h' nx ∧ LawP w ks dd sdx dG wd ht R m' nx ∧ ∀ z, stored.contains z = false → m' z = mT z
theorem to_mid {M : Model} {A : Around} {α : Type} {m : Sem α} {E : Value → Shared → Prop} {s : Shared} {Q : α → Shared → Prop} {P : Shared → α → Shared → Prop} (h1 : wpAny M A m (P s) E s) (h2 : ∀ f s', P s f s' → Q f s') : wpAny M A m Q E s := wpAny_mono h1 h2 fun _ _ e => e
theorem cons4 {l : Led} {D : Addr} {o : Obj} {a b c d : Addr} (h1 : a < D) (h2 : b < D) (h3 : c < D) (h4 : d < D) (h : OwnOff l [a, b, c, d]) : OwnOff ((D, o) :: l) [a, b, c, d] := by
  refine List.forall_mem_cons.mpr ⟨?_, h⟩
  intro x hx
  simp only [List.mem_cons, List.not_mem_nil, or_false] at hx
  rcases hx with rfl | rfl | rfl | rfl
  · exact Nat.ne_of_gt h1
  · exact Nat.ne_of_gt h2
  · exact Nat.ne_of_gt h3
  · exact Nat.ne_of_gt h4
theorem offc {l R : Led} {D : Addr} {o : Obj} (h : AllLt D R) (h' : Off l R) : Off ((D, o) :: l) R := Off.cons h' (ne_of_allLt h)
theorem ownOff_offs {l b : Led} {a1 a2 a3 a4 : Addr} (h : Off l b) (h1 : ∃ o, (a1, o) ∈ b) (h2 : ∃ o, (a2, o) ∈ b) (h3 : ∃ o, (a3, o) ∈ b) (h4 : ∃ o, (a4, o) ∈ b) : OwnOff l [a1, a2, a3, a4] := by
  refine ownOff_of h fun d hd => ?_
  simp only [List.mem_cons, List.not_mem_nil, or_false] at hd
  rcases hd with rfl | rfl | rfl | rfl <;> assumption
theorem ownOff4 {l : Led} {a b c d : Addr} (h1 : ∀ p ∈ l, p.1 ≠ a) (h2 : ∀ p ∈ l, p.1 ≠ b) (h3 : ∀ p ∈ l, p.1 ≠ c) (h4 : ∀ p ∈ l, p.1 ≠ d) : OwnOff l [a, b, c, d] := ownOff_cons h1 (ownOff_cons h2 (ownOff_cons h3 (ownOff_cons h4 ownOff_nil)))
theorem ownOff_map {own l : Led} (h : ∀ p ∈ own, ∀ q ∈ l, p.1 ≠ q.1) : OwnOff own (l.map (·.1)) := fun p hp a ha => by
  obtain ⟨q, hq, e⟩ := List.mem_map.mp ha
  exact e ▸ h p hp q hq
theorem ownOff_unmap {own l : Led} (h : OwnOff own (l.map (·.1))) : ∀ p ∈ own, ∀ q ∈ l, p.1 ≠ q.1 := fun p hp q hq => h p hp q.1 (List.mem_map.mpr ⟨q, hq, rfl⟩)
theorem off_gen {P Q : Addr × Obj} {D G b c : Addr} {oD oG : Obj} {l l' : Led} (h : OwnOff l [D, b, c, G]) (h1 : P ∈ l) (h2 : Q ∈ l) (h3 : ∀ p ∈ l', p ∈ l) (a1 : @Ne Nat D b) (a2 : @Ne Nat D c) (a3 : @Ne Nat G b) (a4 : @Ne Nat G c) : OwnOff (P :: Q :: (D, oD) :: (G, oG) :: l') [b, c] :=
  ownOff_cons (List.forall_mem_cons.mpr ⟨h _ h1 _ (.tail _ (.head _)), List.forall_mem_cons.mpr ⟨h _ h2 _ (.tail _ (.head _)), List.forall_mem_cons.mpr ⟨a1, List.forall_mem_cons.mpr ⟨a3, fun p hp => h p (h3 p hp) _ (.tail _ (.head _))⟩⟩⟩⟩)
    (ownOff_cons (List.forall_mem_cons.mpr ⟨h _ h1 _ (.tail _ (.tail _ (.head _))), List.forall_mem_cons.mpr ⟨h _ h2 _ (.tail _ (.tail _ (.head _))), List.forall_mem_cons.mpr ⟨a2, List.forall_mem_cons.mpr ⟨a4, fun p hp => h p (h3 p hp) _ (.tail _ (.tail _ (.head _)))⟩⟩⟩⟩) ownOff_nil)
theorem LawP.drop {w : World} {ks : List (List Int)} {dd sdx dG : Addr} {wd ht : Int} {T new own : Led} {m : Str → Option Value} {nx : Led} (h : LawP w ks dd sdx dG wd ht (new ++ T ++ own) m nx) (hj : Junk own) (hO : Off new T) (hoff : OwnOff own ((new ++ T).map (·.1))) :
    ∃ nx', LawP w ks dd sdx dG wd ht T m nx' ∧ (∀ p ∈ nx', p ∈ nx) ∧ (∀ p ∈ own, p ∈ nx) ∧ OwnOff own (nx'.map (·.1)) := by
  obtain ⟨vs, ms, nn, xa, xb, xc, xd, xe, xf, wr, dR, n2, cv, rs, oG, rows, f, new', cvL, tL, cur, rfl, h1, h2, h3, h4, h5, h6, h7, h8, h9, h10, h11, h12⟩ := h
  have hs : ∀ p ∈ new' ++ (new ++ T ++ own), p.2.cls ≠ .type "range_iterator" → p ∈ (new' ++ new) ++ T := fun p hp hc => by
    rcases List.mem_append.mp hp with hp | hp
    · exact List.mem_append_left _ (List.mem_append_left _ hp)
    · rcases List.mem_append.mp hp with hp | hp
      · rcases List.mem_append.mp hp with hp | hp
        · exact List.mem_append_left _ (List.mem_append_right _ hp)
        · exact List.mem_append_right _ hp
      · exact absurd (hj p hp) hc
  have hb : ∀ p ∈ (new' ++ new) ++ T, p ∈ new' ++ (new ++ T ++ own) := fun p hp => by
    rcases List.mem_append.mp hp with hp | hp
    · rcases List.mem_append.mp hp with hp | hp
      · exact List.mem_append_left _ hp
      · exact List.mem_append_right _ (List.mem_append_left _ (List.mem_append_left _ hp))
    · exact List.mem_append_right _ (List.mem_append_left _ (List.mem_append_right _ hp))
  refine ⟨_, ⟨vs, ms, nn, xa, xb, xc, xd, xe, xf, wr, dR, n2, cv, rs, oG, rows, f, new' ++ new, cvL, tL, cur, rfl, h1, h2, fun p hp => h3 p (hb p hp), h4, h5.mono fun _ _ x => x.drop hs, h6.drop hs, h7, h8.drop hs, h9, h10.drop hs, h11, ?_⟩, ?_, fun p hp => ?_, ?_⟩
  · refine Off.append (h12.sub (fun _ h => h) fun p hp => ⟨p.2, List.mem_append_left _ (List.mem_append_right _ hp)⟩) hO
  · intro p hp
    rcases List.mem_cons.mp hp with rfl | hp
    · exact .head _
    · rcases List.mem_cons.mp hp with rfl | hp
      · exact .tail _ (.head _)
      · rcases List.mem_cons.mp hp with rfl | hp
        · exact .tail _ (.tail _ (.head _))
        · rcases List.mem_cons.mp hp with rfl | hp
          · exact .tail _ (.tail _ (.tail _ (.head _)))
          · exact .tail _ (.tail _ (.tail _ (.tail _ (hb p hp))))
  · exact .tail _ (.tail _ (.tail _ (.tail _ (List.mem_append_right _ (List.mem_append_right _ hp)))))
  · refine ownOff_map fun p hp => ?_
    have hpR : p ∈ new' ++ (new ++ T ++ own) := List.mem_append_right _ (List.mem_append_right _ hp)
    refine List.forall_mem_cons.mpr ⟨h3 p hpR _ (.head _), List.forall_mem_cons.mpr ⟨h3 p hpR _ (.tail _ (.head _)), List.forall_mem_cons.mpr ⟨h3 p hpR _ (.tail _ (.tail _ (.head _))), List.forall_mem_cons.mpr ⟨h3 p hpR _ (.tail _ (.tail _ (.tail _ (.head _)))), fun q hq => ?_⟩⟩⟩⟩
    rcases List.mem_append.mp hq with hq | hq
    · rcases List.mem_append.mp hq with hq | hq
      · exact Ne.symm (h12 q hq p (List.mem_append_right _ hp))
      · exact ownOff_unmap hoff p hp q (List.mem_append_left _ hq)
    · exact ownOff_unmap hoff p hp q (List.mem_append_right _ hq)
theorem app_lt {α : Type} {a b : List α} {n r : Nat} (e : a.length = n) (h : r < n) : (a ++ b)[r]? = a[r]? := List.getElem?_append_left (e ▸ h)
theorem app_ge {α : Type} {a b : List α} {n r : Nat} (e : a.length = n) (h : n ≤ r) : (a ++ b)[r]? = b[r - n]? := by subst e; exact List.getElem?_append_right h
theorem rep_get {α : Type} {v : α} {n r : Nat} (h : r < n) : (List.replicate n v)[r]? = some v := by rw [List.getElem?_replicate, if_pos h]
theorem run_len {α : Type} {l : List α} {a k : Nat} (h : a + k ≤ l.length) : ((l.drop a).take k).length = k := List.length_take_of_le (by rw [List.length_drop]; omega)
theorem run_get {α : Type} {l : List α} {a k r : Nat} (h : r < k) : ((l.drop a).take k)[r]? = l[a + r]? := by rw [List.getElem?_take_of_lt h, List.getElem?_drop]
theorem ins_get {rows : List (List Cell)} {row many bottom wd : Nat} (h1 : row + many ≤ bottom) (h2 : bottom ≤ rows.length) (r : Nat) :
    (insRows rows row many bottom wd)[r]? = if r < row then rows[r]? else if r < row + many then some (List.replicate wd (32, 0)) else if r < bottom then rows[r - many]? else rows[r]? := by
  unfold insRows
  have e1 : (rows.take row).length = row := List.length_take_of_le (by omega)
  have eR : (List.replicate many (List.replicate wd ((32, 0) : Cell))).length = many := List.length_replicate
  have e2 : ((rows.drop row).take (bottom - many - row)).length = bottom - many - row := run_len (by omega)
  rw [List.append_assoc, List.append_assoc]
  split
  · rename_i h; rw [app_lt e1 h, List.getElem?_take_of_lt h]
  · rename_i h
    rw [app_ge e1 (Nat.not_lt.mp h)]
    split
    · rw [app_lt eR (by omega), rep_get (by omega)]
    · rw [app_ge eR (by omega)]
      split
      · rw [app_lt e2 (by omega), run_get (by omega)]
        congr 1; omega
      · rw [app_ge e2 (by omega), List.getElem?_drop]
        congr 1; omega
theorem del_get {rows : List (List Cell)} {row many bottom wd : Nat} (h1 : row + many ≤ bottom) (h2 : bottom ≤ rows.length) (r : Nat) :
    (delRows rows row many bottom wd)[r]? = if r < row then rows[r]? else if r < bottom - many then rows[r + many]? else if r < bottom then some (List.replicate wd (32, 0)) else rows[r]? := by
  unfold delRows
  have e1 : (rows.take row).length = row := List.length_take_of_le (by omega)
  have eR : (List.replicate many (List.replicate wd ((32, 0) : Cell))).length = many := List.length_replicate
  have e2 : ((rows.drop (row + many)).take (bottom - (row + many))).length = bottom - (row + many) := run_len (by omega)
  rw [List.append_assoc, List.append_assoc]
  split
  · rename_i h; rw [app_lt e1 h, List.getElem?_take_of_lt h]
  · rename_i h
    rw [app_ge e1 (Nat.not_lt.mp h)]
    split
    · rw [app_lt e2 (by omega), run_get (by omega)]
      congr 1; omega
    · rw [app_ge e2 (by omega)]
      split
      · rw [app_lt eR (by omega), rep_get (by omega)]
      · rw [app_ge eR (by omega), List.getElem?_drop]
        congr 1; omega
theorem put_get {r xs : List Cell} {c j : Nat} (h : c + xs.length ≤ r.length) : (putRow r c xs)[j]? = if c ≤ j ∧ j < c + xs.length then xs[j - c]? else r[j]? := by
  unfold putRow
  have e1 : (r.take c).length = c := List.length_take_of_le (by omega)
  rw [List.append_assoc]
  by_cases h1 : j < c
  · rw [if_neg fun q => absurd q.1 (Nat.not_le.mpr h1), app_lt e1 h1, List.getElem?_take_of_lt h1]
  · rw [app_ge e1 (Nat.not_lt.mp h1)]
    by_cases h2 : j < c + xs.length
    · rw [if_pos ⟨Nat.not_lt.mp h1, h2⟩, app_lt rfl (by omega)]
    · rw [if_neg fun q => h2 q.2, app_ge rfl (by omega), List.getElem?_drop]
      congr 1; omega
theorem clear_get {r : List Cell} {c k j : Nat} (h : c + k = r.length) : (clearRow r c k)[j]? = if c ≤ j ∧ j < c + k then some (32, 0) else r[j]? := by
  unfold clearRow
  have e1 : (r.take c).length = c := List.length_take_of_le (by omega)
  by_cases h1 : j < c
  · rw [if_neg fun q => absurd q.1 (Nat.not_le.mpr h1), app_lt e1 h1, List.getElem?_take_of_lt h1]
  · rw [app_ge e1 (Nat.not_lt.mp h1)]
    by_cases h2 : j < c + k
    · rw [if_pos ⟨Nat.not_lt.mp h1, h2⟩, rep_get (by omega)]
    · rw [if_neg fun q => h2 q.2, List.getElem?_replicate, if_neg (by omega), List.getElem?_eq_none (by omega)]
section
open PySem.Spec
def dcCell (c : Int × Int) : PyData := .tuple [.int c.1, .int c.2]
def dcRow (r : List Cell) : PyData := .tuple (r.map dcCell)
def dcAll (rows : List (List Cell)) : PyData := .tuple (rows.map dcRow)
theorem dc_cell_lay (c : Int × Int) : (dcCell c).canLay0 = true ∧ (dcCell c).depth = 1 := by
  simp [dcCell, PyData.canLay0, PyData.canLayAll0, PyData.depth, PyData.depthAll]
theorem dc_map_lay {α : Type} {f : α → PyData} {n : Nat} (h : ∀ x, (f x).canLay0 = true ∧ (f x).depth ≤ n) : ∀ l : List α, PyData.canLayAll0 (l.map f) = true ∧ PyData.depthAll (l.map f) ≤ n
  | [] => by simp [PyData.canLayAll0, PyData.depthAll]
  | x :: l => by
    have h1 := h x
    have h2 := dc_map_lay h l
    simp only [List.map_cons, PyData.canLayAll0, PyData.depthAll, h1.1, h2.1, Bool.and_self, true_and]
    omega
theorem dc_row_lay (r : List Cell) : (dcRow r).canLay0 = true ∧ (dcRow r).depth ≤ 2 := by
  have h := dc_map_lay (f := dcCell) (n := 1) (fun c => ⟨(dc_cell_lay c).1, Nat.le_of_eq (dc_cell_lay c).2⟩) r
  unfold dcRow
  simp only [PyData.canLay0, PyData.depth, h.1, true_and]
  omega
theorem dc_all_lay (rows : List (List Cell)) : (dcAll rows).canLay0 = true ∧ (dcAll rows).depth ≤ 3 := by
  have h := dc_map_lay (f := dcRow) (n := 2) dc_row_lay rows
  unfold dcAll
  simp only [PyData.canLay0, PyData.depth, h.1, true_and]
  omega
theorem dc_all_shaped (rows : List (List Cell)) : SeqAt.shaped (dcAll rows) = true := by
  have h := dc_all_lay rows
  unfold SeqAt.shaped
  rw [h.1, Bool.true_and]
  exact decide_eq_true (by omega)
theorem dc_cell_shaped (c : Int × Int) : SeqAt.shaped (dcCell c) = true := by
  have h := dc_cell_lay c
  unfold SeqAt.shaped
  rw [h.1, Bool.true_and]
  exact decide_eq_true (by omega)
theorem dc_cell_eqv (c : Int × Int) : PyData.eqv (dcCell c) (dcCell c) = true := by simp [dcCell, PyData.eqv, PyData.eqvAll]
theorem dc_map_eqv {α : Type} {f : α → PyData} (h : ∀ x, PyData.eqv (f x) (f x) = true) : ∀ l : List α, PyData.eqvAll (l.map f) (l.map f) = true
  | [] => by simp [PyData.eqvAll]
  | x :: l => by simp only [List.map_cons, PyData.eqvAll, h x, dc_map_eqv h l, Bool.and_self]
theorem dc_row_eqv (r : List Cell) : PyData.eqv (dcRow r) (dcRow r) = true := by
  unfold dcRow; simp only [PyData.eqv]; exact dc_map_eqv dc_cell_eqv r
theorem dc_all_eqv (rows : List (List Cell)) : PyData.eqv (dcAll rows) (dcAll rows) = true := by
  unfold dcAll; simp only [PyData.eqv]; exact dc_map_eqv dc_row_eqv rows
section
variable {w : World} {h₀ h : Heap} {L : Addr} {m : Str → Option Value} {news rest : Led}
theorem dc_cell {v : Value} {c : Int × Int} (F : Fr h₀ L h m) (X : (hd.heap_39 w.params).In h₀) (N : News h₀ L h news) (hv : CellV rest v c) (hs : ∀ p ∈ rest, p ∈ news) : ∃ as, Reads h v (dcCell c) as := by
  rcases hv with ⟨rfl, rfl⟩ | ⟨a, t, u, n, rfl, hm⟩
  · exact ⟨_, reads_tuple_at (F.keep _ _ (X 15 _ rfl)) rfl rfl (ReadsAll.cons (Reads.int _ _) (ReadsAll.cons (Reads.int _ _) ReadsAll.nil))⟩
  · exact ⟨_, reads_tuple_at (N.get (hs _ hm)) rfl rfl (ReadsAll.cons (Reads.int _ _) (ReadsAll.cons (Reads.int _ _) ReadsAll.nil))⟩
theorem dc_list {α : Type} {P : Value → α → Prop} {f : α → PyData} (hP : ∀ v x, P v x → ∃ as, Reads h v (f x) as) {vs : List Value} {xs : List α} (ha : All2 P vs xs) : ∃ as, ReadsAll h vs (xs.map f) as := by
  induction ha with
  | nil => exact ⟨_, ReadsAll.nil⟩
  | cons h1 _ ih =>
    obtain ⟨as, a⟩ := hP _ _ h1
    obtain ⟨bs, b⟩ := ih
    exact ⟨_, ReadsAll.cons a b⟩
theorem dc_row {v : Value} {r : List Cell} (F : Fr h₀ L h m) (X : (hd.heap_39 w.params).In h₀) (N : News h₀ L h news) (hv : TupRowV rest v r) (hs : ∀ p ∈ rest, p ∈ news) : ∃ as, Reads h v (dcRow r) as := by
  obtain ⟨a, vs, n, rfl, hm, hc⟩ := hv
  obtain ⟨as, ra⟩ := dc_list (fun _ _ x => dc_cell F X N x hs) hc
  exact ⟨_, reads_tuple_at (N.get (hs _ hm)) rfl rfl ra⟩
theorem dc_all {a : Addr} {vs : List Value} {n : Nat} {rows : List (List Cell)} (F : Fr h₀ L h m) (X : (hd.heap_39 w.params).In h₀) (N : News h₀ L h news) (hm : (a, tupOf vs n) ∈ news) (hv : All2 (TupRowV rest) vs rows) (hs : ∀ p ∈ rest, p ∈ news) : ∃ as, Reads h (.ref a) (dcAll rows) as := by
  obtain ⟨as, ra⟩ := dc_list (fun _ _ x => dc_row F X N x hs) hv
  exact ⟨_, reads_tuple_at (N.get hm) rfl rfl ra⟩
variable {A : Around} {E : Value → Shared → Prop} {s : Shared} {Q : Value → Shared → Prop}
theorem ne_all {a b : Addr} {vs ws : List Value} {n k : Nat} {rows : List (List Cell)} {r1 r2 : Led} (hu : A.units + 64 < cLine) (F : Fr h₀ L s.heap m) (X : (hd.heap_39 w.params).In h₀) (N : News h₀ L s.heap news)
    (ha : (a, tupOf vs n) ∈ news) (hv : All2 (TupRowV r1) vs rows) (h1 : ∀ p ∈ r1, p ∈ news) (hb : (b, tupOf ws k) ∈ news) (hw : All2 (TupRowV r2) ws rows) (h2 : ∀ p ∈ r2, p ∈ news) (hq : Q (.bool false) s) :
    wpAny (model PP w) A (compareOp .NotEq (.ref a) (.ref b)) Q E s := by
  obtain ⟨as, ra⟩ := dc_all F X N ha hv h1
  obtain ⟨bs, rb⟩ := dc_all F X N hb hw h2
  refine ne_dataH ra rb (dc_all_shaped _) (dc_all_shaped _) hu ?_
  rw [dc_all_eqv]
  exact hq
theorem ne_cell {v u : Value} {c : Int × Int} {r1 r2 : Led} (hu : A.units + 64 < cLine) (F : Fr h₀ L s.heap m) (X : (hd.heap_39 w.params).In h₀) (N : News h₀ L s.heap news)
    (hv : CellV r1 v c) (h1 : ∀ p ∈ r1, p ∈ news) (hw : CellV r2 u c) (h2 : ∀ p ∈ r2, p ∈ news) (hq : Q (.bool false) s) :
    wpAny (model PP w) A (compareOp .NotEq v u) Q E s := by
  obtain ⟨as, ra⟩ := dc_cell F X N hv h1
  obtain ⟨bs, rb⟩ := dc_cell F X N hw h2
  refine ne_dataH ra rb (dc_cell_shaped _) (dc_cell_shaped _) hu ?_
  rw [dc_cell_eqv]
  exact hq
theorem cell_item0 {v : Value} {c : Int × Int} {r1 : Led} {value slice : PySem.Expr} {u : Tok} (F : Fr h₀ L s.heap m) (X : (hd.heap_39 w.params).In h₀) (N : News h₀ L s.heap news) (hv : CellV r1 v c) (h1 : ∀ p ∈ r1, p ∈ news)
    (hq : ∀ t, Q (.int c.1 t) s) (hs : ∀ a, subscripted slice false (.ref a) (.int 0 u) = operate [.ref a, .int 0 u] (getItem (.ref a) (.int 0 u)) := by intro _; with_unfolding_all rfl) :
    wpAny (model PP w) A (subscriptTail value slice v (.int 0 u)) Q E s := by
  rcases hv with ⟨rfl, rfl⟩ | ⟨a, t, u', n, rfl, hm⟩
  · have ht : IsTup s.heap 15 #[.int 32 187, .int 0 189] := ⟨_, F.keep _ _ (X 15 _ rfl), rfl, _, rfl⟩
    exact subscriptTail_builtinR ht.typeIs slot_tuple_getitem.lookup (getItem_tuple (Q := fun r s' => r = .int 32 187 ∧ Q r s') ht (by decide) (by decide) (j := 0) rfl rfl ⟨rfl, hq _⟩) (hs _)
  · have ht : IsTup s.heap a #[.int c.1 t, .int c.2 u'] := ⟨_, N.get (h1 _ hm), rfl, _, rfl⟩
    exact subscriptTail_builtinR ht.typeIs slot_tuple_getitem.lookup (getItem_tuple (Q := fun r s' => r = .int c.1 t ∧ Q r s') ht (by decide) (by decide) (j := 0) rfl rfl ⟨rfl, hq _⟩) (hs _)
end
end
abbrev cellNone : Obj := { cls := .type "cell", data := .cell none }
abbrev nsNew : Obj := { cls := .type "dict", data := .dict #[] }
theorem newEnv_cell {M : Model} {A : Around} {E : Value → Shared → Prop} {s : Shared} {scope : Scope} {globals : Addr} {cl : List (Str × Addr)} {qual : Str} {env : Env} {Q : Env → Shared → Prop} {x : Str}
    (hcs : ∀ n, cellsFrom n scope.names cl = (x, n) :: cl) (hpc : ∀ h, pushCells h scope.names = h.push cellNone)
    (h : Q { scope := scope, locals := s.heap.objs.size, globals := globals, cells := (x, s.heap.objs.size + 1) :: cl, qual := qual, func := none, code := env.code, frame := env.frame, builtins := env.builtins } { s with heap := (s.heap.push nsNew).push cellNone }) :
    wpAny M A (newFunctionEnv scope globals cl [] qual none .none (some env)) Q E s := by
  simp only [newFunctionEnv, Option.isSome_some, if_true]
  refine wpAny_bind (wpAny_alloc ?_)
  refine wpAny_bind (wpAny_layCells _ (fun name kind cells => by cases hkc : kind == NameKind.cell <;> simp [hkc]) _ _ _ _ ?_)
  rw [hcs, hpc]
  simp only [List.forIn_nil]
  refine wpAny_bind (wpAny_pure (wpAny_pure ?_))
  rw [show ({ s with heap := s.heap.push nsNew } : Shared).heap.objs.size = s.heap.objs.size + 1 from Heap.size_push ..]
  exact h
section
variable {prog : Program} {w : World} {A : Around} {h₀ : Heap} {L : Addr} {m : Str → Option Value} {env : Env} {elt iter : Expr} {x : Str} {px : Pos} {scope : Scope} {pos : Pos} {cl : List (Str × Addr)}
def TurnC (prog : Program) (w : World) (A : Around) (h₀ : Heap) (L : Addr) (m : Str → Option Value) (env : Env) (elt : Expr) (x : Str) (scope : Scope) (cl : List (Str × Addr)) (s : Shared) (Inv : Nat → List Value → Led → Prop) (n : Nat) : Prop :=
  ∀ i ys nw I oI C oC D c oc h tk t (E' : Value → Shared → Prop), i < n → Inv i ys nw → oc.data = .cell (some (.int (0 + (i : Nat)) t)) → Fr h₀ L h m → News h₀ L h ((I, oI) :: (C, oC) :: (D, LCg.lst ys) :: (c, oc) :: nw) → LCg.Off3 I C D ((c, oc) :: nw) → (∀ p ∈ nw, p.1 ≠ c) →
    wpAny (model prog w) A (eval elt (compEnvC scope ((x, c) :: cl) C env)) (LCg.CompEnd h₀ L m { s with heap := h, toks := tk } I oI C oC D (LCg.lst ys) (fun _ => True) (fun y nw' => ∃ nw'', nw' = (c, oc) :: nw'' ∧ (∀ p ∈ nw'', p.1 ≠ c) ∧ Inv (i + 1) (ys ++ [y]) nw'')) E' { s with heap := h, toks := tk }
def SrcC (prog : Program) (w : World) (A : Around) (h₀ : Heap) (L : Addr) (m : Str → Option Value) (env : Env) (elt : Expr) (x : Str) (scope : Scope) (cl : List (Str × Addr)) (Q : Value → Shared → Prop) (xv : Value) (s₁ : Shared) : Prop :=
  ∃ (r : Addr) (n : Nat) (t u v : Tok) (news : Led) (Inv : Nat → List Value → Led → Prop), xv = .ref r ∧ A.handled = none ∧ Fr h₀ L s₁.heap m ∧ News h₀ L s₁.heap news ∧ IsRange s₁.heap r 0 (n : Nat) 1 t u v ∧ n < 1000 ∧
    (∀ i ys nw, Inv i ys nw → ys.length ≤ sizeLine) ∧ Inv 0 [] news ∧ ∀ g, TurnC prog w A h₀ L m env elt x scope cl { s₁ with heap := g } Inv n ∧ ∀ ys nw, Inv n ys nw → LCg.FinE h₀ L m { s₁ with heap := g } Q ys nw
theorem SrcC.intro {Q : Value → Shared → Prop} {s₁ : Shared} {r : Addr} {b : Int} {t u v : Tok} {news : Led} (n : Nat) (Inv : Nat → List Value → Led → Prop) (hr : IsRange s₁.heap r 0 b 1 t u v) (hb : b = (n : Nat)) (hh : A.handled = none)
    (F : Fr h₀ L s₁.heap m) (N : News h₀ L s₁.heap news) (hn : n < 1000) (hlen : ∀ i ys nw, Inv i ys nw → ys.length ≤ sizeLine) (hI : Inv 0 [] news)
    (tn : ∀ g, TurnC prog w A h₀ L m env elt x scope cl { s₁ with heap := g } Inv n) (fin : ∀ g ys nw, Inv n ys nw → LCg.FinE h₀ L m { s₁ with heap := g } Q ys nw) :
    SrcC prog w A h₀ L m env elt x scope cl Q (.ref r) s₁ := ⟨r, n, t, u, v, news, Inv, rfl, hh, F, N, hb ▸ hr, hn, hlen, hI, fun g => ⟨tn g, fin g⟩⟩
theorem turnC_toks {s₂ : Shared} {Inv : Nat → List Value → Led → Prop} {n : Nat} (h : TurnC prog w A h₀ L m env elt x scope cl s₂ Inv n) (g : Heap) (k : Nat) : TurnC prog w A h₀ L m env elt x scope cl { s₂ with heap := g, toks := k } Inv n := h

theorem cell_loop {I C D c : Addr} {n : Nat} {oC : Obj} {R : Result → Shared → Prop} {s : Shared} {Inv : Nat → List Value → Led → Prop}
    (hh : A.handled = none) (hkind : scope.kind = .function) (hx : ∀ c C, (compEnvC scope ((x, c) :: cl) C env).kindOf x = some .cell)
    (hI₀ : h₀.get? I = none) (hC₀ : h₀.get? C = none) (hD₀ : h₀.get? D = none) (hc₀ : h₀.get? c = none) (hIL : I ≠ L) (hCL : C ≠ L) (hDL : D ≠ L) (hcL : c ≠ L) (hIC : I ≠ C) (hID : I ≠ D) (hCD : C ≠ D) (hcI : c ≠ I) (hcC : c ≠ C) (hcD : c ≠ D)
    (hlen : ∀ i ys nw, Inv i ys nw → ys.length ≤ sizeLine)
    (turn : TurnC prog w A h₀ L m env elt x scope cl s Inv n)
    (fin : ∀ h tk ys nw, Fr h₀ L h m → News h₀ L h ((D, LCg.lst ys) :: nw) → h.get? C = some oC → LCg.Off3 I C D nw → Inv n ys nw → R (.ok .next) { s with heap := h, toks := tk })
    {nw : Led} {v₀ : Option Value}
    (st : IsRangeIter s.heap I ((0 : Int) + ((0 : Nat) : Int) * 1) (((n : Nat) : Int) - ((0 : Nat) : Int)) 1) (F : Fr h₀ L s.heap m) (N : News h₀ L s.heap ((D, LCg.lst []) :: nw)) (hC : s.heap.get? C = some oC) (hc : s.heap.IsCell c v₀) (off : LCg.Off3 I C D nw) (offc : ∀ p ∈ nw, p.1 ≠ c) (hI : Inv 0 [] nw) :
    codeAny (model prog w) A (.compLoop (.ListComp elt [⟨.Name x px, iter, [], 0⟩] scope pos) 0 (.ref I) (.ref D) (compEnvC scope ((x, c) :: cl) C env)) R s := by
  have W := LCg.range_walks (prog := prog) (w := w) (A := A) (I := I) hh 0 n
  refine codeAny_compLoop_tests
    (fun k s' => ∃ h tk i ys nw v₀, s' = { s with heap := h, toks := tk } ∧ i ≤ n ∧ k = n + 1 - i ∧ IsRangeIter h I ((0 : Int) + ((i : Nat) : Int) * 1) (((n : Nat) : Int) - ((i : Nat) : Int)) 1 ∧ Fr h₀ L h m ∧
      News h₀ L h ((D, LCg.lst ys) :: nw) ∧ h.get? C = some oC ∧ h.IsCell c v₀ ∧ LCg.Off3 I C D nw ∧ (∀ p ∈ nw, p.1 ≠ c) ∧ Inv i ys nw) ?_ (n + 1)
    ⟨s.heap, s.toks, 0, [], nw, v₀, rfl, Nat.zero_le _, rfl, st, F, N, hC, hc, off, offc, hI⟩
  rintro k s' ⟨h', tk, i, ys, nw, v₀, rfl, hi, rfl, st', F', N', hC', hc', off', offc', hI'⟩
  have off3 := off'.mem
  by_cases hlt : i < n
  · refine W.item i _ _ _ hlt st' fun v h₂ tk₂ hPv hst₂ hk₂ => ?_
    obtain ⟨t, rfl⟩ := hPv
    have hc₂ : h₂.IsCell c v₀ := by
      obtain ⟨o, ho, hd⟩ := hc'
      exact ⟨o, hk₂ _ o (by simpa using hcI) ho, hd⟩
    refine wpAny_assign_Name (wpAny_storeName_cell (c := c) (by simp [compEnvC, relabel, hkind]) (hx c C) (by simp [compEnvC]) hc₂ fun h₃ hc₃ hs₃ => ?_)
    refine wpAny_tests_nil ?_
    simp only [if_true]
    obtain ⟨oc, hec, hoc⟩ := hc₃
    have hst₃ : IsRangeIter h₃ I ((0 : Int) + ((i + 1 : Nat) : Int) * 1) (((n : Nat) : Int) - ((i + 1 : Nat) : Int)) 1 := W.frame _ _ _ hst₂ fun b hb o e => hs₃.extBut b o (fun q => hcI (by rw [List.mem_singleton.mp hb] at q; exact q.symm)) e
    obtain ⟨oI, eI, hoI⟩ : ∃ o, h₃.get? I = some o ∧ ∀ h : Heap, h.get? I = some o → IsRangeIter h I ((0 : Int) + ((i + 1 : Nat) : Int) * 1) (((n : Nat) : Int) - ((i + 1 : Nat) : Int)) 1 := ⟨_, hst₃, fun _ e => e⟩
    have eC : h₃.get? C = some oC := hs₃.extBut _ _ (Ne.symm hcC) (hk₂ _ _ (by simpa using Ne.symm hIC) hC')
    have F₃ : Fr h₀ L h₃ m := (LCg.fr_but F' hk₂ (Ne.symm hIL) hI₀).change hs₃ hcL hc₀
    have N₂ : News h₀ L h₂ ((D, LCg.lst ys) :: nw) := LCg.news_but N' hk₂ fun p hp => by
      rcases List.mem_cons.mp hp with rfl | hp
      · exact Ne.symm hID
      · exact (off3 p hp).1
    have N₃ : News h₀ L h₃ ((I, oI) :: (C, oC) :: (D, LCg.lst ys) :: (c, oc) :: nw) := fun p hp => by
      rcases List.mem_cons.mp hp with rfl | hp
      · exact ⟨eI, hIL, hI₀⟩
      · rcases List.mem_cons.mp hp with rfl | hp
        · exact ⟨eC, hCL, hC₀⟩
        · rcases List.mem_cons.mp hp with rfl | hp
          · have z := N₂ _ (.head _)
            exact ⟨hs₃.extBut _ _ (Ne.symm hcD) z.1, z.2⟩
          · rcases List.mem_cons.mp hp with rfl | hp
            · exact ⟨hec, hcL, hc₀⟩
            · have z := N₂ p (.tail _ hp)
              exact ⟨hs₃.extBut _ _ (offc' p hp) z.1, z.2⟩
    refine wpAny_mono (turn i ys nw I oI C oC D c oc h₃ _ t _ hlt hI' hoc F₃ N₃ ⟨⟨hcI, hcC, hcD⟩, off'⟩ offc') (fun y s₄ h₄ => ?_) fun _ _ e => e
    obtain ⟨h₄, tk₄, news₄, rfl, F₄, N₄, off₄, -, nw₄, rfl, offc₄, hI₄⟩ := h₄
    have zI := (N₄ (I, oI) (.head _)).1
    have zC := (N₄ (C, oC) (.tail _ (.head _))).1
    have zD := (N₄ (D, LCg.lst ys) (.tail _ (.tail _ (.head _)))).1
    have zc := (N₄ (c, oc) (.tail _ (.tail _ (.tail _ (.head _))))).1
    have off4 := off₄.2.mem
    refine append_at (hsz := by show ys.toArray.size ≤ sizeLine; rw [List.size_toArray]; exact hlen _ _ _ hI') zD fun h₅ hs₅ hD₅ => ?_
    refine ⟨n + 1 - (i + 1), by omega, h₅, tk₄, i + 1, ys ++ [y], nw₄, some _, rfl, hlt, rfl, hoI _ (hs₅.extBut _ _ hID zI), F₄.change hs₅ hDL hD₀, fun p hp => ?_, hs₅.extBut _ _ hCD zC, ⟨oc, hs₅.extBut _ _ hcD zc, hoc⟩, off₄.2, offc₄, hI₄⟩
    rcases List.mem_cons.mp hp with rfl | hp
    · exact ⟨hD₅.trans (congrArg some (LCg.lst_snoc ys y)), hDL, hD₀⟩
    · have z := N₄ p (.tail _ (.tail _ (.tail _ (.tail _ hp))))
      exact ⟨hs₅.extBut _ _ (off4 p hp).2.2 z.1, z.2⟩
  · have en : i = n := Nat.le_antisymm hi (Nat.not_lt.mp hlt)
    refine W.done _ _ _ (en ▸ st') fun h₂ tk₂ hk₂ => ?_
    exact fin h₂ tk₂ ys nw (LCg.fr_but F' hk₂ (Ne.symm hIL) hI₀) (LCg.news_but N' hk₂ fun p hp => by
      rcases List.mem_cons.mp hp with rfl | hp
      · exact Ne.symm hID
      · exact (off3 p hp).1) (hk₂ _ _ (by simpa using Ne.symm hIC) hC') off' (en ▸ hI')

theorem ListComp_cell {s : Shared} {E : Value → Shared → Prop} {Q : Value → Shared → Prop} (F₀ : Fr h₀ L s.heap m)
    (hclos : closureFor scope env = pure cl) (hcs : ∀ n, cellsFrom n scope.names cl = (x, n) :: cl) (hpc : ∀ h, pushCells h scope.names = h.push cellNone) (hkind : scope.kind = .function)
    (hnames : ∀ y ∈ scope.names, y.2 = .local → scope.names.lookup y.1 = some .local) (hx : ∀ c C, (compEnvC scope ((x, c) :: cl) C env).kindOf x = some .cell)
    (h : wpAny (model prog w) A (eval iter env) (SrcC prog w A h₀ L m env elt x scope cl Q) E s)
    (hs : ∀ x, foldedSetIterable iter env x = pure x := by intro _; rfl) :
    wpAny (model prog w) A (eval (.ListComp elt [⟨.Name x px, iter, [], 0⟩] scope pos) env) Q E s := by
  rw [eval_ListComp]
  refine wpAny_comprehension_free (use := none) rfl hs hclos hkind hnames (wpAny_mono h (fun xv s₁ h₁ => ?_) fun _ _ e => e)
  obtain ⟨r, n, t, u, v, news, Inv, rfl, hh, F, N, hr, hn, hlen, hI, R⟩ := h₁
  refine wpAny_pyIter_range hr (range_small (by omega) (by omega) (by omega) (by omega)) ?_
  have hsz0 : Builtin.Range.rangeSize 0 ((n : Nat) : Int) 1 = ((n : Nat) : Int) := by rw [range_size (by omega)]; omega
  rw [hsz0]
  generalize hIa : s₁.heap.objs.size = I
  generalize hH0 : s₁.heap.push _ = H0
  have up : ∀ b o, s₁.heap.get? b = some o → H0.get? b = some o := fun b o e => hH0 ▸ Heap.get?_push_of_some _ e
  have stI : IsRangeIter H0 I ((0 : Int) + ((0 : Nat) : Int) * 1) (((n : Nat) : Int) - ((0 : Nat) : Int)) 1 := by
    rw [← hH0, ← hIa]
    simpa using Heap.get?_push_size s₁.heap rfl
  have F1 : Fr h₀ L H0 m := F.keeps up
  have N1 : News h₀ L H0 news := N.grown up
  have hIL : I ≠ L := hIa ▸ Ne.symm (Nat.ne_of_lt F.ns.lt)
  have hI₀ : h₀.get? I = none := hIa ▸ next_is_new F
  have offI : ∀ p ∈ news, p.1 ≠ I := fun p hp => hIa ▸ Nat.ne_of_lt (Heap.lt_size (N p hp).1)
  obtain ⟨RT, RF⟩ := R H0
  refine wpAny_newObj_type (newEnv_cell hcs hpc ?_)
  dsimp only
  generalize hH1 : H0.push { cls := .type "list", dict := none, data := .seq ([] : List Value).toArray } = H1
  have z1 : H1.objs.size = H0.objs.size + 1 := by rw [← hH1, Heap.size_push]
  generalize hH2 : H1.push nsNew = H2
  have z2 : H2.objs.size = H0.objs.size + 2 := by rw [← hH2, Heap.size_push, z1]
  have hIlt : I < H0.objs.size := Heap.lt_size stI
  have hLlt : L < H0.objs.size := F1.ns.lt
  generalize hD : H0.objs.size = D at *
  have e1 : ∀ b o, H0.get? b = some o → H1.get? b = some o := fun b o e => hH1 ▸ Heap.get?_push_of_some _ e
  have e2 : ∀ b o, H1.get? b = some o → H2.get? b = some o := fun b o e => hH2 ▸ Heap.get?_push_of_some _ e
  have e3 : ∀ b o, H2.get? b = some o → (H2.push cellNone).get? b = some o := fun b o e => Heap.get?_push_of_some _ e
  have old : ∀ b o, H0.get? b = some o → (H2.push cellNone).get? b = some o := fun b o e => e3 _ _ (e2 _ _ (e1 _ _ e))
  have gD : (H2.push cellNone).get? D = some (LCg.lst []) := e3 _ _ (e2 _ _ (by rw [← hH1, ← hD]; exact Heap.get?_push_size _ rfl))
  have gC : (H2.push cellNone).get? H1.objs.size = some nsNew := e3 _ _ (by rw [← hH2]; exact Heap.get?_push_size _ rfl)
  have gc : (H2.push cellNone).get? (H1.objs.size + 1) = some cellNone := by
    have : H1.objs.size + 1 = H2.objs.size := by rw [z1, z2]
    rw [this]; exact Heap.get?_push_size _ rfl
  have fresh : ∀ a, D ≤ a → H0.get? a = none := fun a ha => by
    cases e : H0.get? a with
    | none => rfl
    | some o' => exact absurd (Heap.lt_size e) (Nat.not_lt.mpr (hD.symm ▸ ha))
  have fresh₀ : ∀ a, D ≤ a → h₀.get? a = none := fun a ha => by
    cases e : h₀.get? a with
    | none => rfl
    | some o' => have := F1.keep a o' e; rw [fresh a ha] at this; cases this
  have nlt : ∀ p ∈ news, p.1 < D := fun p hp => hD ▸ Heap.lt_size (N1 p hp).1
  rw [z1] at gC gc ⊢
  have off₀ : LCg.Off3 I (D + 1) D news := LCg.Off3.of fun p hp => ⟨offI p hp, Nat.ne_of_lt (Nat.lt_succ_of_lt (nlt p hp)), Nat.ne_of_lt (nlt p hp)⟩
  have lp := cell_loop (prog := prog) (w := w) (A := A) (elt := elt) (iter := iter) (px := px) (pos := pos) (I := I) (C := D + 1) (D := D) (c := D + 1 + 1) (oC := nsNew) (R := compPost (model prog w) A E none Q (.ref D) (D + 1))
      (s := { s₁ with heap := H2.push cellNone }) (v₀ := none)
      hh hkind hx hI₀ (fresh₀ _ (Nat.le_succ _)) (fresh₀ _ (Nat.le_refl _)) (fresh₀ _ (Nat.le_succ_of_le (Nat.le_succ _))) hIL (Nat.ne_of_gt (Nat.lt_succ_of_lt hLlt)) (Nat.ne_of_gt hLlt) (Nat.ne_of_gt (Nat.lt_succ_of_lt (Nat.lt_succ_of_lt hLlt)))
      (Nat.ne_of_lt (Nat.lt_succ_of_lt hIlt)) (Nat.ne_of_lt hIlt) (Nat.ne_of_gt (Nat.lt_succ_self _)) (Nat.ne_of_gt (Nat.lt_succ_of_lt (Nat.lt_succ_of_lt hIlt))) (Nat.ne_of_gt (Nat.lt_succ_self _)) (Nat.ne_of_gt (Nat.lt_succ_of_lt (Nat.lt_succ_self _)))
      hlen (turnC_toks RT _ _) (by
        intro h tk ys nw F9 N9 hC9 off9 q
        refine ⟨fun _ => none, ⟨nsNew, #[], 0, hC9, rfl, fun _ he => by simp at he, fun _ => rfl⟩, fun h'' hs'' => RF ys nw q D h'' tk (F9.change hs'' (Nat.ne_of_gt (Nat.lt_succ_of_lt hLlt)) (fresh₀ _ (Nat.le_succ _))) (fun p hp => ?_) off9.one⟩
        refine ⟨hs''.extBut _ _ ?_ (N9 p hp).1, (N9 p hp).2⟩
        rcases List.mem_cons.mp hp with rfl | hp
        · exact Nat.ne_of_lt (Nat.lt_succ_self _)
        · exact (off9.mem p hp).2.1)
      (old _ _ stI) (F1.keeps old) (fun p hp => by
        rcases List.mem_cons.mp hp with rfl | hp
        · exact ⟨gD, Nat.ne_of_gt hLlt, fresh₀ _ (Nat.le_refl _)⟩
        · exact ⟨old _ _ (N1 p hp).1, (N1 p hp).2⟩) gC ⟨_, gc, rfl⟩ off₀ (fun p hp => Nat.ne_of_lt (Nat.lt_succ_of_lt (Nat.lt_succ_of_lt (nlt p hp)))) hI
  exact codeAny_compStart_list lp ((LCg.range_walks (prog := prog) (w := w) (A := A) (I := I) hh 0 n).self 0 _ _ _ (old _ _ stI) lp)
end
section
variable {prog : Program} {w : World} {A : Around} {E : Value → Shared → Prop} {s : Shared} {h₀ : Heap} {L : Addr} {m : Str → Option Value} {env : Env}
def SrcTup (prog : Program) (w : World) (A : Around) (h₀ : Heap) (L : Addr) (m : Str → Option Value) (env : Env) (elt : Expr) (x : Str) (scope : Scope) (cl : List (Str × Addr)) (Q : Value → Shared → Prop) (xv : Value) (s₁ : Shared) : Prop :=
  ∃ (ax : Addr) (vs : List Value) (k : Nat) (news : Led), xv = .ref ax ∧ A.handled = none ∧ Fr h₀ L s₁.heap m ∧ News h₀ L s₁.heap news ∧ (ax, tupOf vs k) ∈ news ∧ vs.length ≤ sizeLine ∧
    ∀ g, LCg.CompRest prog w A h₀ L m env elt x scope cl { s₁ with heap := g } (fun nw => (ax, tupOf vs k) ∈ nw) (fun i v => vs.toArray[i]? = some v) (LCg.FinE h₀ L m { s₁ with heap := g } Q) vs.length 0 [] news
theorem SrcTup.intro {elt : Expr} {x : Str} {scope : Scope} {cl : List (Str × Addr)} {Q : Value → Shared → Prop} {ax : Addr} {vs : List Value} {k : Nat} {news : Led} {s₁ : Shared} (hh : A.handled = none) (F : Fr h₀ L s₁.heap m) (N : News h₀ L s₁.heap news) (hm : (ax, tupOf vs k) ∈ news) (hl : vs.length ≤ sizeLine)
    (h : ∀ g, LCg.CompRest prog w A h₀ L m env elt x scope cl { s₁ with heap := g } (fun nw => (ax, tupOf vs k) ∈ nw) (fun i v => vs.toArray[i]? = some v) (LCg.FinE h₀ L m { s₁ with heap := g } Q) vs.length 0 [] news) :
    SrcTup prog w A h₀ L m env elt x scope cl Q (.ref ax) s₁ := ⟨ax, vs, k, news, rfl, hh, F, N, hm, hl, h⟩
theorem ListComp_tup {elt iter : Expr} {x : Str} {px : Pos} {scope : Scope} {cl : List (Str × Addr)} {pos : Pos} {Q : Value → Shared → Prop} (F₀ : Fr h₀ L s.heap m)
    (hclos : closureFor scope env = pure cl) (hcell : ∀ y ∈ scope.names, y.2 ≠ .cell) (hkind : scope.kind = .function)
    (hnames : ∀ y ∈ scope.names, y.2 = .local → scope.names.lookup y.1 = some .local) (hx : scope.names.lookup x = some .local)
    (h : wpAny (model prog w) A (eval iter env) (SrcTup prog w A h₀ L m env elt x scope cl Q) E s)
    (hs : ∀ x, foldedSetIterable iter env x = pure x := by intro _; rfl) :
    wpAny (model prog w) A (eval (.ListComp elt [⟨.Name x px, iter, [], 0⟩] scope pos) env) Q E s := by
  rw [eval_ListComp]
  refine wpAny_comprehension_free (use := none) rfl hs hclos hkind hnames (wpAny_mono h (fun xv s₁ h₁ => ?_) fun _ _ e => e)
  obtain ⟨ax, vs, k, news, rfl, hh, F, N, S, hsz, R⟩ := h₁
  have hl : s₁.heap.IsTuple ax vs.toArray := ⟨_, N.get S, rfl, _, rfl⟩
  have hlt : ax < s₁.heap.objs.size := Heap.lt_size (N.get S)
  refine wpAny_pyIter_tuple hl ?_
  have up : ∀ b o, s₁.heap.get? b = some o → (s₁.heap.push { cls := .type "tuple_iterator", data := .fields #[.ref ax, .int 0 0] }).get? b = some o := fun b o e => Heap.get?_push_of_some _ e
  refine LCg.block_U (n := vs.length) (S := fun nw => (ax, tupOf vs k) ∈ nw) (Walks.tuple hh s₁.heap.objs.size ax (Nat.ne_of_lt hlt) vs.toArray) hsz (fun i h st => by obtain ⟨o, e, _⟩ := st.1; exact ⟨o, e⟩)
    (fun i h h' o nw st e e' _ N' S' => ⟨by obtain ⟨o', q, r⟩ := st.1; rw [e] at q; cases q; exact ⟨o, e', r⟩, ⟨_, (N' _ S').1, rfl, _, rfl⟩⟩) hcell hkind hx ⟨⟨_, Heap.get?_push_size _ rfl, rfl, rfl⟩, ⟨_, up _ _ (N.get S), rfl, _, rfl⟩⟩ (fun b hb => ?_)
    (F.keeps up) (N.grown up) (Nat.ne_of_lt F.ns.lt) (next_is_new F) (fun p hp => Nat.ne_of_lt (Heap.lt_size (N p hp).1)) S (R _) ?_
  · show b < (s₁.heap.push _).objs.size
    rw [Heap.size_push]
    rcases List.mem_cons.mp hb with rfl | hb
    · exact Nat.lt_succ_self _
    · rw [List.mem_singleton.mp hb]; exact Nat.lt_succ_of_lt hlt
  · intro D C h tk m' ys news' F' N' o1 hn hC₀ hD₀ hCL hDL hCD offC fin
    refine ⟨m', hn, fun h'' hs'' => fin D h'' tk (F'.change hs'' hCL hC₀) (fun p hp => ?_) o1⟩
    refine ⟨hs''.extBut _ _ ?_ (N' p hp).1, (N' p hp).2⟩
    rcases List.mem_cons.mp hp with rfl | hp
    · exact Ne.symm hCD
    · exact offC p hp
end
theorem regJ : (fun (_ : OpenLaw) (_ : Params → Frag) => True) PySem.Challenge.rw_ok0039_01 hd.heap_39 := by
  k_fill
  trivial
local macro_rules | `(tactic| kqd_in) => `(tactic| (intro D' h' F' N' l1; (try dsimp only at *); (try k_lt l1); (try k_sweep)))
local macro_rules | `(tactic| kqd_sub) => `(tactic| first | assumption | (with_reducible (first | refine lb_app ?_ ?_ | refine lb_add ?_ ?_ | refine lb_take ?_ | refine lb_drop ?_ | refine lb_set ?_ | exact lb_six (by assumption) | exact lb_seven (by assumption)) <;> kqd_sub) | omega | ((try simp only [List.length_append, List.length_take, List.length_drop, List.length_replicate, List.length_set, List.length_cons, List.length_nil, List.length_map, List.size_toArray]); omega))
local macro_rules | `(tactic| walk_at "call builtin:len") => `(tactic| (k_here; (with_reducible show wpAny _ _ (call (Value.builtin "len") [Value.ref _]) _ _ _); (refine len_L (by k_asm) (by k_dflt k_mem) (by with_reducible assumption) (by first | assumption | omega) ?_)))
local macro_rules | `(tactic| walk_at "call builtin:list.pop") => `(tactic| (k_here; (with_reducible show wpAny _ _ (call (Value.builtin _) [Value.ref _, Value.int _ _]) _ _ _); (refine' pop0_L ?F ?N ?i ?f ?z ?U ?_; (case F => k_asm); (case N => k_asm); (case i => with_reducible assumption); (case f => omega); (case z => omega); (case U => k_upd)); intro v' h' F' N' hi'))
local macro_rules | `(tactic| walk_at "CompSrc") => `(tactic| refine hold ?_)
local macro_rules | `(tactic| k_mem) => `(tactic| first | exact List.mem_cons_self | (refine' List.mem_cons_of_mem _ ?_; k_mem) | (refine' List.mem_append_left _ ?_; k_mem) | (refine' List.mem_append_right _ ?_; k_mem) | assumption)
local macro_rules | `(tactic| walk_at "binaryOp Mult ref int") => `(tactic| (k_here; (with_reducible show wpAny _ _ (binaryOp Operator.Mult (Value.ref _) (Value.int _ _)) _ _ _); k_dflt (refine' mul1_L (by k_asm) (by k_asm) (by k_mem) (by kqd_sub) (by kqd_sub) ?_); kqd_in))
local macro_rules | `(tactic| walk_at "binaryOp Add ref ref") => `(tactic| (k_here; (with_reducible show wpAny _ _ (binaryOp _ (Value.ref _) (Value.ref _)) _ _ _); k_dflt (refine' add_L (by k_asm) (by k_asm) (by k_mem) (by k_mem) (by kqd_sub) ?_); kqd_in))
local macro_rules | `(tactic| walk_at "call type:tuple") => `(tactic| (k_here; (with_reducible show wpAny _ _ (call (Value.type _) [Value.ref _]) _ _ _); k_dflt (refine' tupleOf_L (by k_asm) (by k_asm) (by k_mem) (by kqd_sub) ?_); kqd_in))
local macro_rules | `(tactic| walk_at "call type:list") => `(tactic| (k_here; (with_reducible show wpAny _ _ (call (Value.type _) [Value.ref _]) _ _ _); k_dflt (refine' listOf_T (by k_asm) (by k_asm) (by k_mem) (by kqd_sub) ?_); intro D' c' h' F' N' l1; (try dsimp only at *); (try k_lt l1); (try k_sweep)))
local macro_rules | `(tactic| walk_at "subscriptTail Name Slice ref ref") => `(tactic| (k_here; (with_reducible show wpAny _ _ (subscriptTail _ (PySem.Expr.Slice none (some _) none _) (Value.ref _) (Value.ref _)) _ _ _); k_dflt (refine' slice_upto (by k_asm) (by k_asm) (by k_mem) (by kmk_part) (by kmk_part) (by kqd_sub) (by kqd_sub) ?_ (by with_unfolding_all rfl) (by kmk_pure)); kqd_in))
local macro_rules | `(tactic| walk_at "subscriptTail Name Slice ref ref") => `(tactic| (k_here; (with_reducible show wpAny _ _ (subscriptTail _ (PySem.Expr.Slice (some _) none none _) (Value.ref _) (Value.ref _)) _ _ _); k_dflt (refine' slice_from (by k_asm) (by k_asm) (by k_mem) (by kmk_part) (by kmk_part) (by kqd_sub) (by kqd_sub) ?_ (by with_unfolding_all rfl) (by kmk_pure)); kqd_in))
local macro_rules | `(tactic| walk_at "subscriptTail Name Slice ref ref") => `(tactic| (k_here; (with_reducible show wpAny _ _ (subscriptTail _ (PySem.Expr.Slice (some _) (some _) none _) (Value.ref _) (Value.ref _)) _ _ _); k_dflt (refine' slice_run (by k_asm) (by k_asm) (by k_mem) (by kmk_part) (by kmk_part) (by kqd_sub) (by kqd_sub) (by kqd_sub) ?_ (by with_unfolding_all rfl) (by kmk_pure)); kqd_in))
local macro_rules | `(tactic| walk_at "call builtin:len") => `(tactic| (k_here; (with_reducible show wpAny _ _ (call (Value.builtin "len") [Value.ref _]) _ _ _); k_dflt (first | (refine' lenTup_L (by k_asm) (by k_mem) (by kqd_sub) ?_) | (refine' lenAny_L ?N ?a ?z ?_; (case N => k_asm); (case a => k_mem); (case z => kqd_sub)))))
local macro_rules | `(tactic| walk_at "setItem ref int ref") => `(tactic| (k_here; (with_reducible show wpAny _ _ (setItem (Value.ref _) (Value.int _ _) (Value.ref _)) _ _ _); k_dflt (refine' set_L ?F ?N ?a ?b ?z ?U ?_; (case F => k_asm); (case N => k_asm); (case U => k_upd); (case a => kqd_sub); (case b => kqd_sub); (case z => kqd_sub)); intro h' F' N'; (try dsimp only at *); (try k_sweep)))
local macro_rules | `(tactic| walk_at "subscriptTail Name Name ref int") => `(tactic| (k_here; (with_reducible show wpAny _ _ (subscriptTail _ _ (Value.ref _) (Value.int _ _)) _ _ _); k_dflt (refine' item_L (by k_asm) (by k_mem) (by kqd_sub) (by kqd_sub) (by assumption) ?_ (by with_unfolding_all rfl) (by kmk_pure))))
local macro_rules | `(tactic| walk_at "call ref") => `(tactic| ((with_reducible show wpAny _ _ (call (Value.ref _) _) _ _ _); refine hold ?_))
local macro_rules | `(tactic| k_upd) => `(tactic| (refine' updApp ?a ?b; (case a => k_all); (case b => k_upd)))
local macro_rules | `(tactic| walk_at "subscriptTail Name Constant ref int") => `(tactic| (k_here; (with_reducible show wpAny _ _ (subscriptTail _ _ (Value.ref _) (Value.int _ _)) _ _ _); k_dflt (refine' itemT_L (by k_asm) (by k_mem) (by decide) (by decide) (by rfl) ?_ (by with_unfolding_all rfl) (by kmk_pure))))
local macro_rules | `(tactic| walk_at "pyIter ref") => `(tactic| ((with_reducible show wpAny _ _ (pyIter (Value.ref _)) (fun it s₂ => LoopAtV _ _ _ _ _ _ _ _ _ it s₂) _ _); refine hold ?_))
local macro_rules | `(tactic| walk_at "exec For Name Subscript cons nil") => `(tactic| refine hold ?_)
local macro_rules | `(tactic| walk_at "exec For Name Call cons nil") => `(tactic| refine hold ?_)
local macro_rules | `(tactic| walk_at "InvPostN") => `(tactic| refine hold ?_)
local macro_rules | `(tactic| walk_at "InvEndN") => `(tactic| refine hold ?_)
local macro_rules | `(tactic| walk_at "InvPostG") => `(tactic| refine hold ?_)
local macro_rules | `(tactic| walk_at "InvEndG") => `(tactic| refine hold ?_)
theorem draw_spec {w : World} {p : Program} {loose : List Str} {mean : ExcName → Option Value} {mg mb : Str → Option Value}
  {dp un : Nat} {gd : Option (List Code)} {cn : Str} {cs : Scope} {a : Addr} {ccd : Value} {cl : List (Str × Addr)} {outer : List Env} {A₀ : Around} {base h₀ : Heap} {L : Addr} {m : Str → Option Value} {s : Shared} {Q E : Value → Shared → Prop}
  {rest : Led} {d : Addr} {vs : List Value} {ns : List Int} {n : Nat} {k : Int} {t : Tok}
  (B : Below A₀ base outer h₀) (F : Fr h₀ L s.heap m) (X : (hd.heap_39 w.params).In h₀) (T : Top p loose mean mg mb h₀) (hk : cs.kind = .function) (N : News h₀ L s.heap ((d, W.listOf vs.toArray n) :: rest))
  (off : OwnOff rest [d]) (hi : IntsAre vs ns) (good : Deck ns) (h1 : 1 ≤ k) (h2 : k ≤ 64) (hdp : dp + 1 < recursionLimit)
  (ret : ∀ r t' vs' ns' n' h' tk', Fr h₀ L h' m → News h₀ L h' ((d, W.listOf vs'.toArray n') :: rest) → IntsAre vs' ns' → Deck ns' → 0 ≤ r → r < k → Q (.int r t') { s with heap := h', toks := tk' }) :
  wpAny (model PP w) (ktrTop dp un gd cn cs L a ccd cl outer) (call (.ref 86) [.ref d, .int k t]) Q E s := by
  w_top off
  refine wpAny_call ?_
  k_dflt ktr_enter
  rename_i g L' h' FG F' N' B' X' T'
  refine wpAny_execs_cons ?_
  refine While_inv (fun n m₁ nx => ∃ us ms c, m₁ = _ ∧ nx = (d, W.listOf us.toArray c) :: rest ∧ IntsAre us ms ∧ Deck ms ∧ ms.length = n) F' N' ⟨vs, ns, n, rfl, rfl, hi, good, rfl⟩ ?_
  rintro n' m₁ nx h₁ tk₁ F₁ N₁ ⟨us, ms, c, rfl, rfl, hi', good', rfl⟩
  clear F' N'
  have g1 := good'.1
  have g2 := good'.2.1
  have g3 := good'.head
  k_steps
  · exact WhileStep.intro (by assumption) (by assumption) (n' := ms.tail.length) (by simp only [List.length_tail]; omega) ⟨_, _, _, rfl, rfl, by assumption, good'.tail (by omega), rfl⟩
  · have q := fdiv_le_self g3.1 h1
    exact ret _ _ _ _ _ _ _ (by assumption) (by assumption) (by assumption) (good'.set0 q.1 (Int.lt_of_le_of_lt q.2 g3.2)) (fmod_range h1).1 (fmod_range h1).2
  · have q := fmod_range (x := ms.getD 0 0 * 48271 + 11) (k := 2147483647) (by decide)
    exact ret _ _ _ _ _ _ _ (by assumption) (by assumption) (by assumption) (good'.set0 q.1 (by omega)) (fmod_range h1).1 (fmod_range h1).2
theorem blank_spec {w : World} {p : Program} {loose : List Str} {mean : ExcName → Option Value} {mg mb : Str → Option Value}
  {dp un : Nat} {gd : Option (List Code)} {cn : Str} {cs : Scope} {a : Addr} {ccd : Value} {cl : List (Str × Addr)} {outer : List Env} {A₀ : Around} {base h₀ : Heap} {L : Addr} {m : Str → Option Value} {s : Shared} {Q E : Value → Shared → Prop} {news : Led} {sx sdx : Addr} {ta tb tc td te tf : Tok} {wd wr many : Int} {rv cv : Value} {u : Tok}
  (B : Below A₀ base outer h₀) (F : Fr h₀ L s.heap m) (X : (hd.heap_39 w.params).In h₀) (T : Top p loose mean mg mb h₀) (hk : cs.kind = .function) (N : News h₀ L s.heap news) (hS : (sx, instObj 75 sdx) ∈ news) (hD : (sdx, scrD w ta tb tc td te tf wd wr rv cv) ∈ news)
  (hW0 : 0 ≤ wd) (hW1 : wd ≤ 7) (hm0 : 0 ≤ many) (hm1 : many ≤ 6) (hdp : dp + 1 < recursionLimit)
  (ret : ∀ dB bs n' new h' tk', Fr h₀ L h' m → News h₀ L h' ((dB, W.listOf bs.toArray n') :: (new ++ news)) → Off ((dB, W.listOf bs.toArray n') :: new) news → (∀ p ∈ new, p.1 ≠ dB) →
    All2 (RowV new) bs (List.replicate many.toNat (List.replicate wd.toNat (32, 0))) → Q (.ref dB) { s with heap := h', toks := tk' }) :
  wpAny (model PP w) (ktrTop dp un gd cn cs L a ccd cl outer) (call (.ref 37) [.ref sx, .int many u]) Q E s := by
  w_top off
  refine wpAny_call ?_
  k_dflt (refine' code_defC ?k1 ?k2 ?k3 ?k4 ?k5 ?kA ?kF ?kK ?k6 ?k7 ?k8 ?k9 ?kB ?kD ?_ ?c2 ?c3 ?c4; (case kA => exact rfl); (case kF => exact rfl); (case kK => assumption); (case k1 => k_asm); (case k2 => k_asm); (case k3 => k_asm); (case k4 => k_asm); (case k5 => k_asm); (case k6 => k_is); (case k7 => k_is); (case k8 => ktr_room); (case k9 => exact BindsTo.of_eq rfl); (case kB => exact rfl); (case kD => decide +kernel); (case c2 => exact rfl); (case c3 => exact rfl); (case c4 => exact rfl); k_whole; intro g' L' h' tk' cells' FG' F' N' Y' B' X' T' l1; k_cells Y'; (try simp only [List.cons_append, List.nil_append] at N'); (try dsimp only); (try k_lift B'); (try k_fold))
  rename_i o' d1'
  refine wpAny_execs_cons ?_
  refine PySem.wpAny_Return_some ?_
  k_dflt (refine LCg.ListComp_U (F₀ := by k_asm) (by rfl) (by decide) (by rfl) (by decide) (by rfl) ?_)
  k_steps
  unfold Hold
  refine LCg.CompSrc.range (n := (many - 0).toNat) (by rfl) (by k_asm) (by k_asm) (by assumption) (range_small (by omega) (by omega) (by omega) (by omega)) (range_size (by omega)) (by rw [sizeLine_eq]; omega) ?_
  intro g₁
  rw [show (many - 0).toNat = many.toNat by omega]
  refine compRest_inv many.toNat (fun i ys nw => ∃ new, nw = new ++ (L' + 1, o') :: news ∧ Off new ((L' + 1, o') :: news) ∧ All2 (RowV new) ys (List.replicate i (List.replicate wd.toNat (32, 0)))) ?_ ?_ _ 0 [] _ (by omega) ⟨[], rfl, Off.nil, .nil⟩
  · rintro ys nw ⟨new, rfl, ho, ha⟩
    unfold LCg.FinE
    intro D h₂ tk₂ F₂ N₂ o1
    dsimp only
    k_steps
    have q1 := off1_ne o1
    refine ret D ys ys.length new h₂ tk₂ (by assumption) (News.sub (by assumption) (by repeat' (first | exact List.forall_mem_nil _ | exact fun _ h => h | (refine List.forall_mem_cons.mpr ⟨?_, ?_⟩; focus (k_mem)) | (refine List.forall_mem_append.mpr ⟨?_, ?_⟩) | (intro p9 h9; k_mem)))) ?_ (fun p hp => q1 p (List.mem_append_left _ hp)) ha
    exact Off.cons (Off.sub ho (fun _ h => h) fun p hp => ⟨p.2, List.mem_cons_of_mem _ hp⟩) fun q hq => q1 q (List.mem_append_right _ (List.mem_cons_of_mem _ hq))
  · rintro i ys nw v I oI C oC D m₂ h₂ tk₂ E' hi ⟨new, rfl, ho, ha⟩ ⟨t9, rfl⟩ hC hx F₂ N₂ off₂ ne₂
    k_steps
    rename_i D3 h3 l1 D4 h4 F4 N4 l4
    have q4 := ktn_ltOf l4.2.2.2.2
    refine LCg.CompEnd.intro F4 N4 (((D4, W.listOf (List.replicate wd.toNat (.ref 15)).toArray 0) :: new) ++ (L' + 1, o') :: news) (by repeat' (first | exact List.forall_mem_nil _ | exact fun _ h => h | (refine List.forall_mem_cons.mpr ⟨?_, ?_⟩; focus (k_mem)) | (refine List.forall_mem_append.mpr ⟨?_, ?_⟩) | (intro p9 h9; k_mem))) ?_ trivial ⟨_, rfl, ?_, ?_⟩
    · exact ⟨⟨Nat.ne_of_gt l4.2.1, Nat.ne_of_gt l4.2.2.1, Nat.ne_of_gt l4.2.2.2.1⟩, off₂⟩
    · exact Off.cons ho fun q hq => Nat.ne_of_lt (q4 q (List.mem_append_right _ hq))
    · rw [List.replicate_succ']
      refine All2.append (ha.mono fun _ _ x => x.mono fun _ h => List.mem_cons_of_mem _ h) (.one ⟨D4, _, _, rfl, .head _, All2.replicate ?_ _⟩)
      exact .inl ⟨rfl, rfl⟩
theorem told_spec {w : World} {p : Program} {loose : List Str} {mean : ExcName → Option Value} {mg mb : Str → Option Value}
  {dp un : Nat} {gd : Option (List Code)} {cn : Str} {cs : Scope} {a : Addr} {ccd : Value} {cl : List (Str × Addr)} {outer : List Env} {A₀ : Around} {base h₀ : Heap} {L : Addr} {m : Str → Option Value} {s : Shared} {Q E : Value → Shared → Prop} {news : Led} {sx sdx dR : Addr} {ta tb tc td te tf : Tok} {wd wr : Int} {cv : Value} {n2 : Nat} {rs : List Value} {rows : List (List (Int × Int))}
  (B : Below A₀ base outer h₀) (F : Fr h₀ L s.heap m) (X : (hd.heap_39 w.params).In h₀) (T : Top p loose mean mg mb h₀) (hk : cs.kind = .function) (N : News h₀ L s.heap news) (hS : (sx, instObj 75 sdx) ∈ news) (hD : (sdx, scrD w ta tb tc td te tf wd wr (.ref dR) cv) ∈ news) (hR : (dR, W.listOf rs.toArray n2) ∈ news)
  (hrows : All2 (RowV news) rs rows) (hlen : rows.length ≤ 6) (hrl : ∀ r ∈ rows, r.length ≤ 7) (hdp : dp + 1 < recursionLimit)
  (ret : ∀ dT ts new h' tk', Fr h₀ L h' m → News h₀ L h' ((dT, tupOf ts 0) :: (new ++ news)) → Off ((dT, tupOf ts 0) :: new) news →
    All2 (TupRowV (new ++ news)) ts rows → Q (.ref dT) { s with heap := h', toks := tk' }) :
  wpAny (model PP w) (ktrTop dp un gd cn cs L a ccd cl outer) (call (.ref 32) [.ref sx]) Q E s := by
  w_top off
  refine wpAny_call ?_
  k_dflt ktr_enter
  rename_i g' L' h' FG' F' N' B' X' T'
  have hrs := hrows.length
  k_steps
  unfold Hold
  refine LCg.CompSrc.ledger (its := rs.toArray) (k := n2) (by rfl) (by k_asm) (by k_asm) (by k_mem) (by rw [sizeLine_eq, List.size_toArray]; omega) ?_
  intro g₁
  rw [show rs.toArray.size = rows.length by rw [List.size_toArray]; exact hrs]
  refine compRest_inv rows.length (fun i ys nw => ∃ new, nw = new ++ news ∧ Off new news ∧ All2 (TupRowV (new ++ news)) ys (rows.take i)) ?_ ?_ _ 0 [] _ (by omega) ⟨[], rfl, Off.nil, .nil⟩
  · rintro ys nw ⟨new, rfl, ho, ha⟩
    unfold LCg.FinE
    intro D h₂ tk₂ F₂ N₂ o1
    dsimp only
    have hy := ha.length
    rw [List.take_length] at hy ha
    k_steps
    rename_i D' h' F' N' l1 kF kN Tc kX
    have q1 := ktn_ltOf l1.2
    refine ret D' ys new h' tk₂ (by assumption) (News.sub kN (by repeat' (first | exact List.forall_mem_nil _ | exact fun _ h => h | (refine List.forall_mem_cons.mpr ⟨?_, ?_⟩; focus (k_mem)) | (refine List.forall_mem_append.mpr ⟨?_, ?_⟩) | (intro p9 h9; k_mem)))) ?_ ha
    exact Off.cons ho fun q hq => Nat.ne_of_lt (q1 q (List.mem_append_right _ hq))
  · rintro i ys nw v I oI C oC D m₂ h₂ tk₂ E' hi ⟨new, rfl, ho, ha⟩ hv hC hx F₂ N₂ off₂ ne₂
    obtain ⟨r, hr, ra, vs, rn, rfl, hrm, hcs⟩ := hrows.get' i v (by simpa using hv)
    have hvl := hcs.length
    have hrl' := hrl r (List.mem_of_getElem? hr)
    k_steps
    rename_i D' h' F' N' l1
    have q1 := ktn_ltOf l1.2.2.2
    refine LCg.CompEnd.intro F' N' (((D', tupOf vs 0) :: new) ++ news) (by repeat' (first | exact List.forall_mem_nil _ | exact fun _ h => h | (refine List.forall_mem_cons.mpr ⟨?_, ?_⟩; focus (k_mem)) | (refine List.forall_mem_append.mpr ⟨?_, ?_⟩) | (intro p9 h9; k_mem))) ⟨⟨Nat.ne_of_gt l1.1, Nat.ne_of_gt l1.2.1, Nat.ne_of_gt l1.2.2.1⟩, off₂⟩ (.inr ⟨_, by k_mem, rfl, _, rfl⟩) ⟨_, rfl, ?_, ?_⟩
    · exact Off.cons ho fun q hq => Nat.ne_of_lt (q1 q (List.mem_append_right _ hq))
    · rw [List.take_add_one, hr]
      refine All2.append (ha.mono fun _ _ x => x.mono fun _ h => List.mem_cons_of_mem _ h) (.one ⟨D', _, _, rfl, .head _, hcs.mono fun _ _ x => x.mono fun _ h => List.mem_cons_of_mem _ (List.mem_append_right _ h)⟩)
theorem write_spec {w : World} {p : Program} {loose : List Str} {mean : ExcName → Option Value} {mg mb : Str → Option Value}
  {dp un : Nat} {gd : Option (List Code)} {cn : Str} {cs : Scope} {a : Addr} {ccd : Value} {cl : List (Str × Addr)} {outer : List Env} {A₀ : Around} {base h₀ : Heap} {L : Addr} {m : Str → Option Value} {s : Shared} {Q E : Value → Shared → Prop} {rest rr : Led} {sx sdx dR tA : Addr} {ta tb tc td te tf : Tok} {wd wr row col : Int} {cv : Value} {n2 nc : Nat} {u1 u2 : Tok} {rs cells : List Value} {rows : List (List Cell)} {r xs : List Cell}
  (B : Below A₀ base outer h₀) (F : Fr h₀ L s.heap m) (X : (hd.heap_39 w.params).In h₀) (T : Top p loose mean mg mb h₀) (hk : cs.kind = .function) (N : News h₀ L s.heap ((sdx, scrD w ta tb tc td te tf wd wr (.ref dR) cv) :: (dR, W.listOf rs.toArray n2) :: rest)) (hS : (sx, instObj 75 sdx) ∈ rest) (off : OwnOff rest [sdx, dR]) (hne : @Ne Nat sdx dR)
  (hc : (tA, tupOf cells nc) ∈ rest) (hcs : All2 (CellV rr) cells xs)
  (hrows : All2 (RowV rr) rs rows) (hsub9 : ∀ p ∈ rr, p ∈ rest) (hlen : rows.length ≤ 6) (hr : rows[row.toNat]? = some r) (h0 : 0 ≤ row) (hc0 : 0 ≤ col) (hc1 : col ≤ 7) (hx : xs.length ≤ 7) (hrl : r.length ≤ 7) (hdp : dp + 1 < recursionLimit)
  (ret : ∀ rs' ua ub uc ud ue uf n2' new h' tk', Fr h₀ L h' m → News h₀ L h' ((sdx, scrD w ua ub uc ud ue uf wd (wr + (xs.length : Nat)) (.ref dR) cv) :: (dR, W.listOf rs'.toArray n2') :: (new ++ rest)) →
    Off new ((sdx, scrD w ta tb tc td te tf wd wr (.ref dR) cv) :: (dR, W.listOf rs.toArray n2) :: rest) →
    All2 (RowV (new ++ rr)) rs' (rows.set row.toNat (putRow r col.toNat xs)) → Q .none { s with heap := h', toks := tk' }) :
  wpAny (model PP w) (ktrTop dp un gd cn cs L a ccd cl outer) (call (.ref 44) [.ref sx, .int row u1, .int col u2, .ref tA]) Q E s := by
  w_top off
  obtain ⟨rv, hrv, ra, vs, rn, rfl, hrm0, hvs⟩ := hrows.get _ _ hr
  have hrm := hsub9 _ hrm0
  clear hrm0
  have hrs := hrows.length
  have hvl := hvs.length
  have hcl := hcs.length
  have hv7 : vs.length ≤ 7 := hvl ▸ hrl
  have hc7 : cells.length ≤ 7 := hcl ▸ hx
  have hrow : row.toNat < rs.length := (List.getElem?_eq_some_iff.mp hrv).1
  have hri : row < rs.length := by omega
  refine wpAny_call ?_
  k_dflt ktr_enter
  rename_i g' L' h' FG' F' N' B' X' T'
  k_steps
  rename_i D5 h5 l5 h6 tk1 h7 F7 N7 kF kN Tc kX
  have q5 := ktn_ltOf l5.2.2.2.2.2.2
  rw [hcl] at kN
  refine' ret (rs.set row.toNat (.ref D5)) _ _ _ _ _ _ n2 [(D5, W.listOf (vs.take col.toNat ++ cells ++ vs.drop (col + (xs.length : Nat)).toNat).toArray 0)] h7 tk kF (News.sub kN ?sub) ?off ?rows
  case sub => repeat' (first | exact List.forall_mem_nil _ | exact fun _ h => h | (refine List.forall_mem_cons.mpr ⟨?_, ?_⟩; focus (k_mem)) | (refine List.forall_mem_append.mpr ⟨?_, ?_⟩) | (intro p9 h9; k_mem))
  case off =>
    intro p hp q hq
    rw [List.mem_singleton.mp hp]
    rcases List.mem_cons.mp hq with rfl | hq
    · exact Nat.ne_of_gt l5.2.2.2.2.1
    · rcases List.mem_cons.mp hq with rfl | hq
      · exact Nat.ne_of_gt l5.2.2.2.2.2.1
      · exact Nat.ne_of_gt (q5 q hq)
  case rows =>
    refine All2.set (hrows.mono fun _ _ x => x.mono fun _ h => List.mem_cons_of_mem _ h) ?_ _
    refine ⟨D5, _, _, rfl, .head _, ?_⟩
    unfold putRow
    rw [toNat_add_nat hc0]
    exact (((hvs.take _).append hcs).append (hvs.drop _)).mono fun _ _ x => x.mono fun _ h => List.mem_cons_of_mem _ h
theorem clear_spec {w : World} {p : Program} {loose : List Str} {mean : ExcName → Option Value} {mg mb : Str → Option Value}
  {dp un : Nat} {gd : Option (List Code)} {cn : Str} {cs : Scope} {a : Addr} {ccd : Value} {cl : List (Str × Addr)} {outer : List Env} {A₀ : Around} {base h₀ : Heap} {L : Addr} {m : Str → Option Value} {s : Shared} {Q E : Value → Shared → Prop} {rest rr : Led} {sx sdx dR : Addr} {ta tb tc td te tf : Tok} {wd wr row col : Int} {cv : Value} {n2 : Nat} {u1 u2 : Tok} {rs : List Value} {rows : List (List Cell)} {r : List Cell}
  (B : Below A₀ base outer h₀) (F : Fr h₀ L s.heap m) (X : (hd.heap_39 w.params).In h₀) (T : Top p loose mean mg mb h₀) (hk : cs.kind = .function) (N : News h₀ L s.heap ((sdx, scrD w ta tb tc td te tf wd wr (.ref dR) cv) :: (dR, W.listOf rs.toArray n2) :: rest)) (hS : (sx, instObj 75 sdx) ∈ rest) (off : OwnOff rest [sdx, dR]) (hne : @Ne Nat sdx dR)
  (hrows : All2 (RowV rr) rs rows) (hsub9 : ∀ p ∈ rr, p ∈ rest) (hlen : rows.length ≤ 6) (hr : rows[row.toNat]? = some r) (h0 : 0 ≤ row) (hc0 : 0 ≤ col) (hc1 : col ≤ wd) (hw : wd ≤ 7) (hrl : r.length ≤ 7) (hdp : dp + 1 < recursionLimit)
  (ret : ∀ rs' n2' new h' tk', Fr h₀ L h' m → News h₀ L h' ((sdx, scrD w ta tb tc td te tf wd wr (.ref dR) cv) :: (dR, W.listOf rs'.toArray n2') :: (new ++ rest)) →
    Off new ((sdx, scrD w ta tb tc td te tf wd wr (.ref dR) cv) :: (dR, W.listOf rs.toArray n2) :: rest) →
    All2 (RowV (new ++ rr)) rs' (rows.set row.toNat (clearRow r col.toNat (wd - col).toNat)) → Q .none { s with heap := h', toks := tk' }) :
  wpAny (model PP w) (ktrTop dp un gd cn cs L a ccd cl outer) (call (.ref 51) [.ref sx, .int row u1, .int col u2]) Q E s := by
  w_top off
  obtain ⟨rv, hrv, ra, vs, rn, rfl, hrm0, hvs⟩ := hrows.get _ _ hr
  have hrm := hsub9 _ hrm0
  clear hrm0
  have hrs := hrows.length
  have hvl := hvs.length
  have hv7 : vs.length ≤ 7 := hvl ▸ hrl
  have hrow : row.toNat < rs.length := (List.getElem?_eq_some_iff.mp hrv).1
  have hri : row < rs.length := by omega
  have hd0 : 0 ≤ wd - col := by omega
  have hd1 : wd - col ≤ 7 := by omega
  have hd2 : (wd - col).toNat ≤ 7 := by omega
  refine wpAny_call ?_
  k_dflt ktr_enter
  rename_i g' L' h' FG' F' N' B' X' T'
  k_steps
  rename_i D5 h5 l5 h6 F6 N6 kF kN Tc kX
  have q5 := ktn_ltOf l5.2.2.2.2.2
  refine' ret (rs.set row.toNat (Value.ref D5)) n2 [(D5, W.listOf (vs.take col.toNat ++ List.replicate (wd - col).toNat (Value.ref 15)).toArray 0)] h6 tk kF (News.sub kN ?sub) ?off ?rows
  case sub => repeat' (first | exact List.forall_mem_nil _ | exact fun _ h => h | (refine List.forall_mem_cons.mpr ⟨?_, ?_⟩; focus (k_mem)) | (refine List.forall_mem_append.mpr ⟨?_, ?_⟩) | (intro p9 h9; k_mem))
  case off =>
    intro p hp q hq
    rw [List.mem_singleton.mp hp]
    rcases List.mem_cons.mp hq with rfl | hq
    · exact Nat.ne_of_gt l5.2.2.2.1
    · rcases List.mem_cons.mp hq with rfl | hq
      · exact Nat.ne_of_gt l5.2.2.2.2.1
      · exact Nat.ne_of_gt (q5 q hq)
  case rows =>
    refine All2.set (hrows.mono fun _ _ x => x.mono fun _ h => List.mem_cons_of_mem _ h) ?_ _
    refine ⟨D5, _, _, rfl, .head _, ?_⟩
    unfold clearRow
    exact ((hvs.take _).append (All2.replicate (.inl ⟨rfl, rfl⟩) _)).mono fun _ _ x => x.mono fun _ h => List.mem_cons_of_mem _ h
theorem insert_spec {w : World} {p : Program} {loose : List Str} {mean : ExcName → Option Value} {mg mb : Str → Option Value}
  {dp un : Nat} {gd : Option (List Code)} {cn : Str} {cs : Scope} {a : Addr} {ccd : Value} {cl : List (Str × Addr)} {outer : List Env} {A₀ : Around} {base h₀ : Heap} {L : Addr} {m : Str → Option Value} {s : Shared} {Q E : Value → Shared → Prop} {rest rr : Led} {sx sdx dR : Addr} {ta tb tc td te tf : Tok} {wd wr row many bottom : Int} {cv : Value} {n2 : Nat} {u1 u2 u3 : Tok} {rs : List Value} {rows : List (List Cell)}
  (B : Below A₀ base outer h₀) (F : Fr h₀ L s.heap m) (X : (hd.heap_39 w.params).In h₀) (T : Top p loose mean mg mb h₀) (hk : cs.kind = .function) (N : News h₀ L s.heap ((sdx, scrD w ta tb tc td te tf wd wr (.ref dR) cv) :: (dR, W.listOf rs.toArray n2) :: rest)) (hS : (sx, instObj 75 sdx) ∈ rest) (off : OwnOff rest [sdx, dR]) (hne : @Ne Nat sdx dR)
  (hrows : All2 (RowV rr) rs rows) (hsub9 : ∀ p ∈ rr, p ∈ rest) (hlen : rows.length ≤ 6) (h0 : 0 ≤ row) (hm0 : 0 ≤ many) (hm1 : many ≤ bottom - row) (hb : bottom ≤ rows.length) (hw0 : 0 ≤ wd) (hw : wd ≤ 7) (hdp : dp + 2 < recursionLimit)
  (ret : ∀ dR' rs' ua ub uc ud ue uf n2' new h' tk', Fr h₀ L h' m → News h₀ L h' ((sdx, scrD w ua ub uc ud ue uf wd wr (.ref dR') cv) :: (dR', W.listOf rs'.toArray n2') :: (new ++ rest)) →
    Off ((dR', W.listOf rs'.toArray n2') :: new) ((sdx, scrD w ta tb tc td te tf wd wr (.ref dR) cv) :: (dR, W.listOf rs.toArray n2) :: rest) → (∀ p ∈ new, p.1 ≠ dR') →
    All2 (RowV (new ++ rr)) rs' (insRows rows row.toNat many.toNat bottom.toNat wd.toNat) → Q .none { s with heap := h', toks := tk' }) :
  wpAny (model PP w) (ktrTop dp un gd cn cs L a ccd cl outer) (call (.ref 58) [.ref sx, .int row u1, .int many u2, .int bottom u3]) Q E s := by
  w_top off
  have hrs := hrows.length
  have hrs6 : rs.length ≤ 6 := hrs ▸ hlen
  refine wpAny_call ?_
  k_dflt ktr_enter
  rename_i g' L' h' FG' F' N' B' X' T'
  k_steps
  rename_i tk0 D1 h1 l1 h2 D2 h2b F2 N2 l2
  unfold Hold
  refine' blank_spec ?B ?F ?X ?T ?hk ?N ?hS ?hD hw0 hw hm0 (by omega) ?hdp ?ret
  case B => k_asm
  case F => k_asm
  case X => k_asm
  case T => k_asm
  case hk => rfl
  case N => k_asm
  case hS => k_mem
  case hD => k_mem
  case hdp => ktr_room
  case ret =>
    intro dB bs nB newB h₃ tk₃ F₃ N₃ oB oB2 hbs
    have hbl := hbs.length
    rw [List.length_replicate] at hbl
    have hbl2 : bs.length ≤ 6 := by omega
    have eB1 : @Ne Nat dB sdx := oB _ (.head _) _ (List.mem_cons_of_mem _ (List.mem_cons_of_mem _ (.head _)))
    have eB2 : @Ne Nat dB dR := oB _ (.head _) _ (List.mem_cons_of_mem _ (List.mem_cons_of_mem _ (List.mem_cons_of_mem _ (.head _))))
    have oN : OwnOff newB [sdx, dR] := ownOff_cons (fun p hp => oB p (.tail _ hp) (sdx, scrD w ta tb tc td te tf wd wr (Value.ref dR) cv) (by k_mem)) (ownOff_cons (fun p hp => oB p (.tail _ hp) (dR, W.listOf rs.toArray n2) (by k_mem)) ownOff_nil)
    have oA : OwnOff (newB ++ rest) [sdx, dR] := ownOff_append oN off
    have N₄ : News g' L' h₃ ((dB, W.listOf bs.toArray nB) :: (D2, W.listOf (rs.take row.toNat).toArray 0) :: (D1, W.listOf ((rs.drop row.toNat).take ((bottom - many).toNat - row.toNat)).toArray 0) ::
      (sdx, scrD w ta tb tc td te tf wd wr (.ref dR) cv) :: (dR, W.listOf rs.toArray n2) :: (newB ++ rest)) := News.sub N₃ (by repeat' (first | exact List.forall_mem_nil _ | exact fun _ h => h | (refine List.forall_mem_cons.mpr ⟨?_, ?_⟩; focus (k_mem)) | (refine List.forall_mem_append.mpr ⟨?_, ?_⟩) | (intro p9 h9; k_mem)))
    clear N₃ N2
    dsimp only
    k_steps
    rename_i D9 h9 l9 h10 F10 N10 kF kN Tc kX
    have q9 := ktn_ltOf l9.2.2.2.2.2.2.2.2
    refine' ret D9 (rs.take row.toNat ++ bs ++ (rs.drop row.toNat).take ((bottom - many).toNat - row.toNat) ++ rs.drop bottom.toNat) _ _ _ _ _ _ 0 newB h10 tk kF (News.sub kN ?sub) ?off ?off2 ?rows
    case sub => repeat' (first | exact List.forall_mem_nil _ | exact fun _ h => h | (refine List.forall_mem_cons.mpr ⟨?_, ?_⟩; focus (k_mem)) | (refine List.forall_mem_append.mpr ⟨?_, ?_⟩) | (intro p9 h9; k_mem))
    case off =>
      refine Off.cons (fun p hp q hq => oB p (.tail _ hp) q (List.mem_cons_of_mem _ (List.mem_cons_of_mem _ hq))) fun q hq => ?_
      rcases List.mem_cons.mp hq with rfl | hq
      · exact Nat.ne_of_lt l9.2.2.2.2.2.2.1
      · rcases List.mem_cons.mp hq with rfl | hq
        · exact Nat.ne_of_lt l9.2.2.2.2.2.2.2.1
        · exact Nat.ne_of_lt (q9 q (List.mem_append_right _ hq))
    case off2 => exact fun p hp => Nat.ne_of_lt (q9 p (List.mem_append_left _ hp))
    case rows =>
      unfold insRows
      rw [toNat_sub_sub hm0]
      have hr2 : All2 (RowV (newB ++ rr)) rs rows := hrows.mono fun _ _ x => x.mono fun _ h => List.mem_append_right _ h
      have hb2 := hbs.mono (G := RowV (newB ++ rr)) fun _ _ x => x.mono fun _ h => List.mem_append_left _ h
      exact (((hr2.take _).append hb2).append ((hr2.drop _).take _)).append (hr2.drop _)
theorem delete_spec {w : World} {p : Program} {loose : List Str} {mean : ExcName → Option Value} {mg mb : Str → Option Value}
  {dp un : Nat} {gd : Option (List Code)} {cn : Str} {cs : Scope} {a : Addr} {ccd : Value} {cl : List (Str × Addr)} {outer : List Env} {A₀ : Around} {base h₀ : Heap} {L : Addr} {m : Str → Option Value} {s : Shared} {Q E : Value → Shared → Prop} {rest rr : Led} {sx sdx dR : Addr} {ta tb tc td te tf : Tok} {wd wr row many bottom : Int} {cv : Value} {n2 : Nat} {u1 u2 u3 : Tok} {rs : List Value} {rows : List (List Cell)}
  (B : Below A₀ base outer h₀) (F : Fr h₀ L s.heap m) (X : (hd.heap_39 w.params).In h₀) (T : Top p loose mean mg mb h₀) (hk : cs.kind = .function) (N : News h₀ L s.heap ((sdx, scrD w ta tb tc td te tf wd wr (.ref dR) cv) :: (dR, W.listOf rs.toArray n2) :: rest)) (hS : (sx, instObj 75 sdx) ∈ rest) (off : OwnOff rest [sdx, dR]) (hne : @Ne Nat sdx dR)
  (hrows : All2 (RowV rr) rs rows) (hsub9 : ∀ p ∈ rr, p ∈ rest) (hlen : rows.length ≤ 6) (h0 : 0 ≤ row) (hm0 : 0 ≤ many) (hm1 : many ≤ bottom - row) (hb : bottom ≤ rows.length) (hw0 : 0 ≤ wd) (hw : wd ≤ 7) (hdp : dp + 2 < recursionLimit)
  (ret : ∀ dR' rs' ua ub uc ud ue uf n2' new h' tk', Fr h₀ L h' m → News h₀ L h' ((sdx, scrD w ua ub uc ud ue uf wd wr (.ref dR') cv) :: (dR', W.listOf rs'.toArray n2') :: (new ++ rest)) →
    Off ((dR', W.listOf rs'.toArray n2') :: new) ((sdx, scrD w ta tb tc td te tf wd wr (.ref dR) cv) :: (dR, W.listOf rs.toArray n2) :: rest) → (∀ p ∈ new, p.1 ≠ dR') →
    All2 (RowV (new ++ rr)) rs' (delRows rows row.toNat many.toNat bottom.toNat wd.toNat) → Q .none { s with heap := h', toks := tk' }) :
  wpAny (model PP w) (ktrTop dp un gd cn cs L a ccd cl outer) (call (.ref 65) [.ref sx, .int row u1, .int many u2, .int bottom u3]) Q E s := by
  w_top off
  have hrs := hrows.length
  have hrs6 : rs.length ≤ 6 := hrs ▸ hlen
  refine wpAny_call ?_
  k_dflt ktr_enter
  rename_i g' L' h' FG' F' N' B' X' T'
  k_steps
  rename_i tk0 D1 h1 l1 h2 D2 h2b l2 D3 h3b F2 N2 l3
  unfold Hold
  refine' blank_spec ?B ?F ?X ?T ?hk ?N ?hS ?hD hw0 hw hm0 (by omega) ?hdp ?ret
  case B => k_asm
  case F => k_asm
  case X => k_asm
  case T => k_asm
  case hk => rfl
  case N => k_asm
  case hS => k_mem
  case hD => k_mem
  case hdp => ktr_room
  case ret =>
    intro dB bs nB newB h₃ tk₃ F₃ N₃ oB oB2 hbs
    have hbl := hbs.length
    rw [List.length_replicate] at hbl
    have hbl2 : bs.length ≤ 6 := by omega
    have eB1 : @Ne Nat dB sdx := oB _ (.head _) (sdx, scrD w ta tb tc td te tf wd wr (Value.ref dR) cv) (by k_mem)
    have eB2 : @Ne Nat dB dR := oB _ (.head _) (dR, W.listOf rs.toArray n2) (by k_mem)
    have oN : OwnOff newB [sdx, dR] := fun p hp d hd => by
      rcases List.mem_cons.mp hd with e | hd
      · rw [e]
        exact oB p (.tail _ hp) (sdx, scrD w ta tb tc td te tf wd wr (Value.ref dR) cv) (by k_mem)
      · rw [List.mem_singleton.mp hd]
        exact oB p (.tail _ hp) (dR, W.listOf rs.toArray n2) (by k_mem)
    have oA : OwnOff (newB ++ rest) [sdx, dR] := ownOff_append oN off
    have N₄ : News g' L' h₃ ((dB, W.listOf bs.toArray nB) :: (D3, W.listOf (rs.take row.toNat ++ (rs.drop (row + many).toNat).take (bottom.toNat - (row + many).toNat)).toArray 0) ::
      (sdx, scrD w ta tb tc td te tf wd wr (.ref dR) cv) :: (dR, W.listOf rs.toArray n2) :: (newB ++ rest)) := News.sub N₃ (by repeat' (first | exact List.forall_mem_nil _ | exact fun _ h => h | (refine List.forall_mem_cons.mpr ⟨?_, ?_⟩; focus (k_mem)) | (refine List.forall_mem_append.mpr ⟨?_, ?_⟩) | (intro p9 h9; k_mem)))
    clear N₃ N2
    dsimp only
    k_steps
    rename_i D9 h9 l9 h10 F10 N10 kF kN Tc kX
    have q9 := ktn_ltOf l9.2.2.2.2.2.2
    refine' ret D9 (rs.take row.toNat ++ (rs.drop (row + many).toNat).take (bottom.toNat - (row + many).toNat) ++ bs ++ rs.drop bottom.toNat) _ _ _ _ _ _ 0 newB h10 tk kF (News.sub kN ?sub) ?off ?off2 ?rows
    case sub => repeat' (first | exact List.forall_mem_nil _ | exact fun _ h => h | (refine List.forall_mem_cons.mpr ⟨?_, ?_⟩; focus (k_mem)) | (refine List.forall_mem_append.mpr ⟨?_, ?_⟩) | (intro p9 h9; k_mem))
    case off =>
      refine Off.cons (fun p hp q hq => oB p (.tail _ hp) q (List.mem_cons_of_mem _ (List.mem_cons_of_mem _ (List.mem_cons_of_mem _ hq)))) fun q hq => ?_
      rcases List.mem_cons.mp hq with rfl | hq
      · exact Nat.ne_of_lt l9.2.2.2.2.1
      · rcases List.mem_cons.mp hq with rfl | hq
        · exact Nat.ne_of_lt l9.2.2.2.2.2.1
        · exact Nat.ne_of_lt (q9 q (List.mem_append_right _ hq))
    case off2 => exact fun p hp => Nat.ne_of_lt (q9 p (List.mem_append_left _ hp))
    case rows =>
      unfold delRows
      rw [toNat_add_toNat h0 hm0]
      have hr2 : All2 (RowV (newB ++ rr)) rs rows := hrows.mono fun _ _ x => x.mono fun _ h => List.mem_append_right _ h
      have hb2 := hbs.mono (G := RowV (newB ++ rr)) fun _ _ x => x.mono fun _ h => List.mem_append_left _ h
      exact (((hr2.take _).append ((hr2.drop _).take _)).append hb2).append (hr2.drop _)
theorem screen_spec {w : World} {p : Program} {loose : List Str} {mean : ExcName → Option Value} {mg mb : Str → Option Value}
  {dp un : Nat} {gd : Option (List Code)} {cn : Str} {cs : Scope} {a : Addr} {ccd : Value} {cl : List (Str × Addr)} {outer : List Env} {A₀ : Around} {base h₀ : Heap} {L : Addr} {m : Str → Option Value} {s : Shared} {Q E : Value → Shared → Prop} {news : Led} {wd ht : Int} {u1 u2 : Tok}
  (B : Below A₀ base outer h₀) (F : Fr h₀ L s.heap m) (X : (hd.heap_39 w.params).In h₀) (T : Top p loose mean mg mb h₀) (hk : cs.kind = .function) (N : News h₀ L s.heap news) (hw0 : 0 ≤ wd) (hw : wd ≤ 7) (ht0 : 0 ≤ ht) (ht1 : ht ≤ 6) (hdp : dp + 3 < recursionLimit)
  (ret : ∀ sx sdx dR rs cv ua ub uc ud ue uf n2' new h' tk', Fr h₀ L h' m → News h₀ L h' ((sdx, scrD w ua ub uc ud ue uf wd 0 (.ref dR) cv) :: (dR, W.listOf rs.toArray n2') :: (new ++ news)) →
    Off ((sdx, scrD w ua ub uc ud ue uf wd 0 (.ref dR) cv) :: (dR, W.listOf rs.toArray n2') :: new) news → (sx, instObj 75 sdx) ∈ new → OwnOff new [sdx, dR] → @Ne Nat sdx dR → CellV new cv (0, 0) →
    All2 (RowV new) rs (List.replicate ht.toNat (List.replicate wd.toNat (32, 0))) → Q (.ref sx) { s with heap := h', toks := tk' }) :
  wpAny (model PP w) (ktrTop dp un gd cn cs L a ccd cl outer) (call (.ref 75) [.int wd u1, .int ht u2]) Q E s := by
  w_top off
  k_dflt (refine' call_cls ?k1 ?k2 ?k3 ?k4 ?k5 ?k6 ?_; (case k1 => k_asm); (case k2 => k_asm); (case k3 => k_asm); (case k4 => k_is); (case k5 => k_is); (case k6 => k_is); k_whole; intro sx sdx h1 F1 N1 lA lB)
  k_dflt (refine' code_defC ?k1 ?k2 ?k3 ?k4 ?k5 ?kA ?kF ?kK ?k6 ?k7 ?k8 ?k9 ?kB ?kD ?_ ?c2 ?c3 ?c4; (case kA => exact rfl); (case kF => exact rfl); (case kK => assumption); (case k1 => k_asm); (case k2 => k_asm); (case k3 => k_asm); (case k4 => k_asm); (case k5 => k_asm); (case k6 => k_is); (case k7 => k_is); (case k8 => ktr_room); (case k9 => exact BindsTo.of_eq rfl); (case kB => exact rfl); (case kD => decide +kernel); (case c2 => exact rfl); (case c3 => exact rfl); (case c4 => exact rfl); k_whole; intro g' L' h' tk' cells' FG' F' N' Y' B' X' T' l1; k_cells Y'; (try simp only [List.cons_append, List.nil_append] at N'); (try dsimp only); (try k_lift B'); (try k_fold))
  rename_i o' d1'
  have e1 : @LT.lt Nat _ sx L' := l1 _ (.head _)
  have e2 : @LT.lt Nat _ sdx L' := l1 _ (.tail _ (.head _))
  have e3 : @LT.lt Nat _ sdx sx := lB
  have oN : OwnOff news [sdx] := fun p hp d hd => by rw [List.mem_singleton.mp hd]; exact Nat.ne_of_lt (lA p hp)
  k_steps
  dsimp only at *
  unfold Hold
  rename_i h2 F2 N2 h3 tk3 t3 u3 v3 R3 F3 N3 K3
  clear F2 N2
  obtain ⟨oD, hoD⟩ : ∃ oD, oD = (_ : Obj) ∧ News g' L' h3 ((L' + 1, o') :: (sx, instObj 75 sdx) :: (sdx, oD) :: news) := ⟨_, rfl, N3⟩
  obtain ⟨hoD, N4⟩ := hoD
  obtain ⟨old, hold⟩ : ∃ old : Led, old = (L' + 1, o') :: (sx, instObj 75 sdx) :: (sdx, oD) :: news := ⟨_, rfl⟩
  rw [← hold] at N4
  have m1 : (L' + 1, o') ∈ old := by rw [hold]; exact .head _
  have m2 : (sx, instObj 75 sdx) ∈ old := by rw [hold]; exact .tail _ (.head _)
  clear N3
  refine LCg.CompSrc.range (n := (ht - 0).toNat) (by rfl) (by k_asm) N4 (by assumption) (range_small (by omega) (by omega) (by omega) (by omega)) (range_size (by omega)) (by rw [sizeLine_eq]; omega) ?_
  intro g₁
  rw [show (ht - 0).toNat = ht.toNat by omega]
  refine compRest_inv ht.toNat (fun i ys nw => ∃ new, nw = new ++ old ∧ Off new old ∧ All2 (RowV new) ys (List.replicate i (List.replicate wd.toNat (32, 0)))) ?_ ?_ _ 0 [] _ (by omega) ⟨[], rfl, Off.nil, .nil⟩
  · rintro ys nw ⟨new, rfl, ho, ha⟩
    unfold LCg.FinE
    intro D h₂ tk₂ F₂ N₂ o1
    have q1 := off1_ne o1
    dsimp only
    have f1 : @Ne Nat D (L' + 1) := fun e => q1 _ (List.mem_append_right _ m1) e.symm
    have f2 : @Ne Nat D sx := fun e => q1 _ (List.mem_append_right _ m2) e.symm
    have f3 : @Ne Nat D sdx := fun e => q1 (sdx, oD) (List.mem_append_right _ (by rw [hold]; exact .tail _ (.tail _ (.head _)))) e.symm
    have oA : OwnOff (new ++ news) [sdx, D] := by
      refine ownOff_append (fun p hp d hd => ?_) fun p hp d hd => ?_
      · rcases List.mem_cons.mp hd with e | hd
        · rw [e]
          exact ho p hp (sdx, oD) (by rw [hold]; exact .tail _ (.tail _ (.head _)))
        · rw [List.mem_singleton.mp hd]
          exact q1 p (List.mem_append_left _ hp)
      · rcases List.mem_cons.mp hd with e | hd
        · exact oN p hp d (by rw [e]; exact .head _)
        · rw [List.mem_singleton.mp hd]
          exact q1 p (List.mem_append_right _ (by rw [hold]; exact .tail _ (.tail _ (.tail _ hp))))
    have N₄ : News g' L' h₂ ((D, LCg.lst ys) :: (L' + 1, o') :: (sx, instObj 75 sdx) :: (sdx, oD) :: (new ++ news)) := News.sub N₂ (by rw [hold]; repeat' (first | exact List.forall_mem_nil _ | exact fun _ h => h | (refine List.forall_mem_cons.mpr ⟨?_, ?_⟩; focus (k_mem)) | (refine List.forall_mem_append.mpr ⟨?_, ?_⟩) | (intro p9 h9; k_mem)))
    clear N₂ N4
    subst hoD
    k_steps
    rename_i ha3 tka T hT lT hb hc Fc Nc kF kN Tc kX
    have qT := ktn_ltOf lT.2.2.2.2
    have inO : ∀ p ∈ news, p ∈ old := fun p hp => by rw [hold]; exact .tail _ (.tail _ (.tail _ hp))
    refine' ret sx sdx D ys (Value.ref T) _ _ _ _ _ _ ys.length ((T, tupOf [Value.int 0 _, Value.int 0 _] 0) :: (sx, instObj 75 sdx) :: new) hc _ kF (News.sub kN ?sub) ?off ?inst ?own f3.symm ?cell ?rows
    case sub => repeat' (first | exact List.forall_mem_nil _ | exact fun _ h => h | (refine List.forall_mem_cons.mpr ⟨?_, ?_⟩; focus (k_mem)) | (refine List.forall_mem_append.mpr ⟨?_, ?_⟩) | (intro p9 h9; k_mem))
    case off =>
      refine Off.cons (Off.cons (Off.cons (Off.cons (fun p hp q hq => ho p hp q (inO q hq)) ?_) ?_) ?_) ?_
      · exact fun q hq => Nat.ne_of_lt (Nat.lt_trans (lA q hq) lB)
      · exact fun q hq => Nat.ne_of_lt (qT q (List.mem_append_right _ hq))
      · exact fun q hq => q1 q (List.mem_append_right _ (inO q hq))
      · exact fun q hq => Nat.ne_of_lt (lA q hq)
    case inst => exact .tail _ (.head _)
    case own => exact ownOff_cons (List.forall_mem_cons.mpr ⟨Nat.ne_of_gt lT.2.2.2.1, List.forall_mem_cons.mpr ⟨Nat.ne_of_gt e3, fun p hp => oA p (List.mem_append_left _ hp) _ (.head _)⟩⟩) (ownOff_cons (List.forall_mem_cons.mpr ⟨Nat.ne_of_gt lT.1, List.forall_mem_cons.mpr ⟨f2.symm, fun p hp => oA p (List.mem_append_left _ hp) _ (.tail _ (.head _))⟩⟩) ownOff_nil)
    case cell => exact .inr ⟨T, _, _, _, rfl, .head _⟩
    case rows => exact ha.mono fun _ _ x => x.mono fun _ h => .tail _ (.tail _ h)
  · rintro i ys nw v I oI C oC D m₂ h₂ tk₂ E' hi ⟨new, rfl, ho, ha⟩ ⟨t9, rfl⟩ hC hx F₂ N₂ off₂ ne₂
    clear N4
    k_steps
    rename_i D3 h3 l1 D4 h4 F4 N4 l4
    have q4 := ktn_ltOf l4.2.2.2.2
    refine LCg.CompEnd.intro F4 N4 (((D4, W.listOf (List.replicate wd.toNat (.ref 15)).toArray 0) :: new) ++ old) (by repeat' (first | exact List.forall_mem_nil _ | exact fun _ h => h | (refine List.forall_mem_cons.mpr ⟨?_, ?_⟩; focus (k_mem)) | (refine List.forall_mem_append.mpr ⟨?_, ?_⟩) | (intro p9 h9; k_mem))) ?_ trivial ⟨_, rfl, ?_, ?_⟩
    · exact ⟨⟨Nat.ne_of_gt l4.2.1, Nat.ne_of_gt l4.2.2.1, Nat.ne_of_gt l4.2.2.2.1⟩, off₂⟩
    · exact Off.cons ho fun q hq => Nat.ne_of_lt (q4 q (List.mem_append_right _ hq))
    · rw [List.replicate_succ']
      refine All2.append (ha.mono fun _ _ x => x.mono fun _ h => List.mem_cons_of_mem _ h) (.one ⟨D4, _, _, rfl, .head _, All2.replicate ?_ _⟩)
      exact .inl ⟨rfl, rfl⟩
theorem carry_write {w : World} {p : Program} {loose : List Str} {mean : ExcName → Option Value} {mg mb : Str → Option Value}
  {dp un : Nat} {gd : Option (List Code)} {cn : Str} {cs : Scope} {a : Addr} {ccd : Value} {cl : List (Str × Addr)} {outer : List Env} {A₀ : Around} {base h₀ : Heap} {L : Addr} {m : Str → Option Value} {s : Shared} {Q E : Value → Shared → Prop} {rest rr : Led} {sx sdx dR tA tO : Addr} {ta tb tc td te tf : Tok} {wd wr row col : Int} {cv : Value} {n2 nc nO : Nat} {u0 u1 u2 : Tok} {rs cells : List Value} {rows : List (List Cell)} {r xs : List Cell}
  (B : Below A₀ base outer h₀) (F : Fr h₀ L s.heap m) (X : (hd.heap_39 w.params).In h₀) (T : Top p loose mean mg mb h₀) (hk : cs.kind = .function) (N : News h₀ L s.heap ((sdx, scrD w ta tb tc td te tf wd wr (.ref dR) cv) :: (dR, W.listOf rs.toArray n2) :: rest)) (hS : (sx, instObj 75 sdx) ∈ rest) (off : OwnOff rest [sdx, dR]) (hne : @Ne Nat sdx dR)
  (hO : (tO, tupOf [.str (Str.ofString "write") u0, .int row u1, .int col u2, .ref tA] nO) ∈ rest)
  (hc : (tA, tupOf cells nc) ∈ rest) (hcs : All2 (CellV rr) cells xs)
  (hrows : All2 (RowV rr) rs rows) (hsub9 : ∀ p ∈ rr, p ∈ rest) (hlen : rows.length ≤ 6) (hr : rows[row.toNat]? = some r) (h0 : 0 ≤ row) (hc0 : 0 ≤ col) (hc1 : col ≤ 7) (hx : xs.length ≤ 7) (hrl : r.length ≤ 7) (hdp : dp + 2 < recursionLimit)
  (ret : ∀ rs' ua ub uc ud ue uf n2' new h' tk', Fr h₀ L h' m → News h₀ L h' ((sdx, scrD w ua ub uc ud ue uf wd (wr + (xs.length : Nat)) (.ref dR) cv) :: (dR, W.listOf rs'.toArray n2') :: (new ++ rest)) →
    Off new ((sdx, scrD w ta tb tc td te tf wd wr (.ref dR) cv) :: (dR, W.listOf rs.toArray n2) :: rest) →
    All2 (RowV (new ++ rr)) rs' (rows.set row.toNat (putRow r col.toNat xs)) → Q .none { s with heap := h', toks := tk' }) :
  wpAny (model PP w) (ktrTop dp un gd cn cs L a ccd cl outer) (call (.ref 72) [.ref sx, .ref tO]) Q E s := by
  w_top off
  refine wpAny_call ?_
  k_dflt ktr_enter
  rename_i g' L' h' FG' F' N' B' X' T'
  k_steps
  unfold Hold
  refine' write_spec (cells := cells) (xs := xs) ?B ?F ?X ?T ?hk ?N hS off hne hc hcs hrows hsub9 hlen hr h0 hc0 hc1 hx hrl ?hdp ?ret
  case B => k_asm
  case F => k_asm
  case X => k_asm
  case T => k_asm
  case hk => rfl
  case N => k_asm
  case hdp => ktr_room
  case ret =>
    intro rs' ua ub uc ud ue uf n2' new h₃ tk₃ F₃ N₃ oB hrs'
    dsimp only
    k_steps
    exact ret rs' ua ub uc ud ue uf n2' new _ _ (by assumption) (by assumption) oB hrs'
theorem carry_clear {w : World} {p : Program} {loose : List Str} {mean : ExcName → Option Value} {mg mb : Str → Option Value}
  {dp un : Nat} {gd : Option (List Code)} {cn : Str} {cs : Scope} {a : Addr} {ccd : Value} {cl : List (Str × Addr)} {outer : List Env} {A₀ : Around} {base h₀ : Heap} {L : Addr} {m : Str → Option Value} {s : Shared} {Q E : Value → Shared → Prop} {rest rr : Led} {sx sdx dR tO : Addr} {ta tb tc td te tf : Tok} {wd wr row col : Int} {cv : Value} {n2 nO : Nat} {u0 u1 u2 : Tok} {rs : List Value} {rows : List (List Cell)} {r : List Cell}
  (B : Below A₀ base outer h₀) (F : Fr h₀ L s.heap m) (X : (hd.heap_39 w.params).In h₀) (T : Top p loose mean mg mb h₀) (hk : cs.kind = .function) (N : News h₀ L s.heap ((sdx, scrD w ta tb tc td te tf wd wr (.ref dR) cv) :: (dR, W.listOf rs.toArray n2) :: rest)) (hS : (sx, instObj 75 sdx) ∈ rest) (off : OwnOff rest [sdx, dR]) (hne : @Ne Nat sdx dR)
  (hO : (tO, tupOf [.str (Str.ofString "clear") u0, .int row u1, .int col u2] nO) ∈ rest)
  (hrows : All2 (RowV rr) rs rows) (hsub9 : ∀ p ∈ rr, p ∈ rest) (hlen : rows.length ≤ 6) (hr : rows[row.toNat]? = some r) (h0 : 0 ≤ row) (hc0 : 0 ≤ col) (hc1 : col ≤ wd) (hw : wd ≤ 7) (hrl : r.length ≤ 7) (hdp : dp + 2 < recursionLimit)
  (ret : ∀ rs' n2' new h' tk', Fr h₀ L h' m → News h₀ L h' ((sdx, scrD w ta tb tc td te tf wd wr (.ref dR) cv) :: (dR, W.listOf rs'.toArray n2') :: (new ++ rest)) →
    Off new ((sdx, scrD w ta tb tc td te tf wd wr (.ref dR) cv) :: (dR, W.listOf rs.toArray n2) :: rest) →
    All2 (RowV (new ++ rr)) rs' (rows.set row.toNat (clearRow r col.toNat (wd - col).toNat)) → Q .none { s with heap := h', toks := tk' }) :
  wpAny (model PP w) (ktrTop dp un gd cn cs L a ccd cl outer) (call (.ref 72) [.ref sx, .ref tO]) Q E s := by
  w_top off
  refine wpAny_call ?_
  k_dflt ktr_enter
  rename_i g' L' h' FG' F' N' B' X' T'
  k_steps
  unfold Hold
  refine' clear_spec ?B ?F ?X ?T ?hk ?N hS off hne hrows hsub9 hlen hr h0 hc0 hc1 hw hrl ?hdp ?ret
  case B => k_asm
  case F => k_asm
  case X => k_asm
  case T => k_asm
  case hk => rfl
  case N => k_asm
  case hdp => ktr_room
  case ret =>
    intro rs' n2' new h₃ tk₃ F₃ N₃ oB hrs'
    dsimp only
    k_steps
    exact ret rs' n2' new _ _ (by assumption) (by assumption) oB hrs'
theorem carry_insert {w : World} {p : Program} {loose : List Str} {mean : ExcName → Option Value} {mg mb : Str → Option Value}
  {dp un : Nat} {gd : Option (List Code)} {cn : Str} {cs : Scope} {a : Addr} {ccd : Value} {cl : List (Str × Addr)} {outer : List Env} {A₀ : Around} {base h₀ : Heap} {L : Addr} {m : Str → Option Value} {s : Shared} {Q E : Value → Shared → Prop} {rest rr : Led} {sx sdx dR tO : Addr} {ta tb tc td te tf : Tok} {wd wr row many bottom : Int} {cv : Value} {n2 nO : Nat} {u0 u1 u2 u3 : Tok} {rs : List Value} {rows : List (List Cell)}
  (B : Below A₀ base outer h₀) (F : Fr h₀ L s.heap m) (X : (hd.heap_39 w.params).In h₀) (T : Top p loose mean mg mb h₀) (hk : cs.kind = .function) (N : News h₀ L s.heap ((sdx, scrD w ta tb tc td te tf wd wr (.ref dR) cv) :: (dR, W.listOf rs.toArray n2) :: rest)) (hS : (sx, instObj 75 sdx) ∈ rest) (off : OwnOff rest [sdx, dR]) (hne : @Ne Nat sdx dR)
  (hO : (tO, tupOf [.str (Str.ofString "insert") u0, .int row u1, .int many u2, .int bottom u3] nO) ∈ rest)
  (hrows : All2 (RowV rr) rs rows) (hsub9 : ∀ p ∈ rr, p ∈ rest) (hlen : rows.length ≤ 6) (h0 : 0 ≤ row) (hm0 : 0 ≤ many) (hm1 : many ≤ bottom - row) (hb : bottom ≤ rows.length) (hw0 : 0 ≤ wd) (hw : wd ≤ 7) (hdp : dp + 3 < recursionLimit)
  (ret : ∀ dR' rs' ua ub uc ud ue uf n2' new h' tk', Fr h₀ L h' m → News h₀ L h' ((sdx, scrD w ua ub uc ud ue uf wd wr (.ref dR') cv) :: (dR', W.listOf rs'.toArray n2') :: (new ++ rest)) →
    Off ((dR', W.listOf rs'.toArray n2') :: new) ((sdx, scrD w ta tb tc td te tf wd wr (.ref dR) cv) :: (dR, W.listOf rs.toArray n2) :: rest) → (∀ p ∈ new, p.1 ≠ dR') →
    All2 (RowV (new ++ rr)) rs' (insRows rows row.toNat many.toNat bottom.toNat wd.toNat) → Q .none { s with heap := h', toks := tk' }) :
  wpAny (model PP w) (ktrTop dp un gd cn cs L a ccd cl outer) (call (.ref 72) [.ref sx, .ref tO]) Q E s := by
  w_top off
  refine wpAny_call ?_
  k_dflt ktr_enter
  rename_i g' L' h' FG' F' N' B' X' T'
  k_steps
  unfold Hold
  refine' insert_spec ?B ?F ?X ?T ?hk ?N hS off hne hrows hsub9 hlen h0 hm0 hm1 hb hw0 hw ?hdp ?ret
  case B => k_asm
  case F => k_asm
  case X => k_asm
  case T => k_asm
  case hk => rfl
  case N => k_asm
  case hdp => ktr_room
  case ret =>
    intro dR' rs' ua ub uc ud ue uf n2' new h₃ tk₃ F₃ N₃ oB oB2 hrs'
    dsimp only
    k_steps
    exact ret dR' rs' ua ub uc ud ue uf n2' new _ _ (by assumption) (by assumption) oB oB2 hrs'
theorem carry_delete {w : World} {p : Program} {loose : List Str} {mean : ExcName → Option Value} {mg mb : Str → Option Value}
  {dp un : Nat} {gd : Option (List Code)} {cn : Str} {cs : Scope} {a : Addr} {ccd : Value} {cl : List (Str × Addr)} {outer : List Env} {A₀ : Around} {base h₀ : Heap} {L : Addr} {m : Str → Option Value} {s : Shared} {Q E : Value → Shared → Prop} {rest rr : Led} {sx sdx dR tO : Addr} {ta tb tc td te tf : Tok} {wd wr row many bottom : Int} {cv : Value} {n2 nO : Nat} {u0 u1 u2 u3 : Tok} {rs : List Value} {rows : List (List Cell)}
  (B : Below A₀ base outer h₀) (F : Fr h₀ L s.heap m) (X : (hd.heap_39 w.params).In h₀) (T : Top p loose mean mg mb h₀) (hk : cs.kind = .function) (N : News h₀ L s.heap ((sdx, scrD w ta tb tc td te tf wd wr (.ref dR) cv) :: (dR, W.listOf rs.toArray n2) :: rest)) (hS : (sx, instObj 75 sdx) ∈ rest) (off : OwnOff rest [sdx, dR]) (hne : @Ne Nat sdx dR)
  (hO : (tO, tupOf [.str (Str.ofString "delete") u0, .int row u1, .int many u2, .int bottom u3] nO) ∈ rest)
  (hrows : All2 (RowV rr) rs rows) (hsub9 : ∀ p ∈ rr, p ∈ rest) (hlen : rows.length ≤ 6) (h0 : 0 ≤ row) (hm0 : 0 ≤ many) (hm1 : many ≤ bottom - row) (hb : bottom ≤ rows.length) (hw0 : 0 ≤ wd) (hw : wd ≤ 7) (hdp : dp + 3 < recursionLimit)
  (ret : ∀ dR' rs' ua ub uc ud ue uf n2' new h' tk', Fr h₀ L h' m → News h₀ L h' ((sdx, scrD w ua ub uc ud ue uf wd wr (.ref dR') cv) :: (dR', W.listOf rs'.toArray n2') :: (new ++ rest)) →
    Off ((dR', W.listOf rs'.toArray n2') :: new) ((sdx, scrD w ta tb tc td te tf wd wr (.ref dR) cv) :: (dR, W.listOf rs.toArray n2) :: rest) → (∀ p ∈ new, p.1 ≠ dR') →
    All2 (RowV (new ++ rr)) rs' (delRows rows row.toNat many.toNat bottom.toNat wd.toNat) → Q .none { s with heap := h', toks := tk' }) :
  wpAny (model PP w) (ktrTop dp un gd cn cs L a ccd cl outer) (call (.ref 72) [.ref sx, .ref tO]) Q E s := by
  w_top off
  refine wpAny_call ?_
  k_dflt ktr_enter
  rename_i g' L' h' FG' F' N' B' X' T'
  k_steps
  unfold Hold
  refine' delete_spec ?B ?F ?X ?T ?hk ?N hS off hne hrows hsub9 hlen h0 hm0 hm1 hb hw0 hw ?hdp ?ret
  case B => k_asm
  case F => k_asm
  case X => k_asm
  case T => k_asm
  case hk => rfl
  case N => k_asm
  case hdp => ktr_room
  case ret =>
    intro dR' rs' ua ub uc ud ue uf n2' new h₃ tk₃ F₃ N₃ oB oB2 hrs'
    dsimp only
    k_steps
    exact ret dR' rs' ua ub uc ud ue uf n2' new _ _ (by assumption) (by assumption) oB oB2 hrs'
theorem carry_cursor {w : World} {p : Program} {loose : List Str} {mean : ExcName → Option Value} {mg mb : Str → Option Value}
  {dp un : Nat} {gd : Option (List Code)} {cn : Str} {cs : Scope} {a : Addr} {ccd : Value} {cl : List (Str × Addr)} {outer : List Env} {A₀ : Around} {base h₀ : Heap} {L : Addr} {m : Str → Option Value} {s : Shared} {Q E : Value → Shared → Prop} {rest : Led} {sx sdx dR tO : Addr} {ta tb tc td te tf : Tok} {wd wr row col : Int} {cv : Value} {n2 nO : Nat} {u0 u1 u2 : Tok} {rs : List Value}
  (B : Below A₀ base outer h₀) (F : Fr h₀ L s.heap m) (X : (hd.heap_39 w.params).In h₀) (T : Top p loose mean mg mb h₀) (hk : cs.kind = .function) (N : News h₀ L s.heap ((sdx, scrD w ta tb tc td te tf wd wr (.ref dR) cv) :: (dR, W.listOf rs.toArray n2) :: rest)) (hS : (sx, instObj 75 sdx) ∈ rest) (off : OwnOff rest [sdx, dR]) (hne : @Ne Nat sdx dR)
  (hO : (tO, tupOf [.str (Str.ofString "cursor") u0, .int row u1, .int col u2] nO) ∈ rest) (hdp : dp + 2 < recursionLimit)
  (ret : ∀ cv' ua ub uc ud ue uf new h' tk', Fr h₀ L h' m → News h₀ L h' ((sdx, scrD w ua ub uc ud ue uf wd wr (.ref dR) cv') :: (dR, W.listOf rs.toArray n2) :: (new ++ rest)) →
    Off new ((sdx, scrD w ta tb tc td te tf wd wr (.ref dR) cv) :: (dR, W.listOf rs.toArray n2) :: rest) → CellV new cv' (row, col) → Q .none { s with heap := h', toks := tk' }) :
  wpAny (model PP w) (ktrTop dp un gd cn cs L a ccd cl outer) (call (.ref 72) [.ref sx, .ref tO]) Q E s := by
  w_top off
  refine wpAny_call ?_
  k_dflt ktr_enter
  rename_i g' L' h' FG' F' N' B' X' T'
  k_steps
  rename_i D5 h5 l5 h6 F6 N6 kF kN Tc kX
  have q5 := ktn_ltOf l5.2.2
  refine' ret (Value.ref D5) _ _ _ _ _ _ [(D5, tupOf [Value.int row u1, Value.int col u2] 0)] h6 tk kF (News.sub kN ?sub) ?off ?cell
  case sub => repeat' (first | exact List.forall_mem_nil _ | exact fun _ h => h | (refine List.forall_mem_cons.mpr ⟨?_, ?_⟩; focus (k_mem)) | (refine List.forall_mem_append.mpr ⟨?_, ?_⟩) | (intro p9 h9; k_mem))
  case off =>
    intro p hp q hq
    rw [List.mem_singleton.mp hp]
    rcases List.mem_cons.mp hq with rfl | hq
    · exact Nat.ne_of_gt l5.1
    · rcases List.mem_cons.mp hq with rfl | hq
      · exact Nat.ne_of_gt l5.2.1
      · exact Nat.ne_of_gt (q5 q hq)
  case cell => exact .inr ⟨D5, _, _, _, rfl, .head _⟩
local macro_rules | `(tactic| walk_at "eval ListComp") => `(tactic| refine hold ?_)
local macro_rules | `(tactic| walk_at "CompSrcT") => `(tactic| refine hold ?_)
local macro_rules | `(tactic| walk_at "CompEnd") => `(tactic| refine hold ?_)
theorem deck_spec {w : World} {p : Program} {loose : List Str} {mean : ExcName → Option Value} {mg mb : Str → Option Value}
  {dp un : Nat} {gd : Option (List Code)} {cn : Str} {cs : Scope} {a : Addr} {ccd : Value} {cl : List (Str × Addr)} {outer : List Env} {A₀ : Around} {base h₀ : Heap} {L : Addr} {m : Str → Option Value} {s : Shared} {Q E : Value → Shared → Prop} {news : Led} {l : Addr} {svs : List Value} {ns : List Int}
  (B : Below A₀ base outer h₀) (F : Fr h₀ L s.heap m) (X : (hd.heap_39 w.params).In h₀) (T : Top p loose mean mg mb h₀) (hk : cs.kind = .function) (N : News h₀ L s.heap news) (hl : base.IsList l svs.toArray) (hi : IntsAre svs ns) (hns : ns.length ≤ 63) (hdp : dp + 1 < recursionLimit)
  (ret : ∀ d vs ms n h' tk', Fr h₀ L h' m → News h₀ L h' ((d, W.listOf vs.toArray n) :: news) → (∀ p ∈ news, p.1 ≠ d) → IntsAre vs ms → Deck ms → Q (.ref d) { s with heap := h', toks := tk' }) :
  wpAny (model PP w) (ktrTop dp un gd cn cs L a ccd cl outer) (call (.ref 91) [.ref l]) Q E s := by
  w_top off
  refine wpAny_call ?_
  k_dflt ktr_enter
  rename_i g' L' h' FG' F' N' B' X' T'
  have hl' : g'.IsList l svs.toArray := stays_list B'.stays hl
  k_steps
  dsimp only at *
  unfold Hold
  rename_i h1 F1 N1
  refine For_invVF F1 rfl rfl ?_
  k_steps
  unfold Hold
  dsimp only at *
  rename_i D1 ws1 h2 F2 N2 l2 hI2 hC2 hL2
  refine iter_one (l := D1) (y := Str.ofString "_law_mixed") (fun x => 0 ≤ x ∧ x < 2147483647) rfl (by k_mem) hI2 F2 N2 rfl (by decide) ?_ ?_
  · intro n t a ta h tk own hn hP F3 N3
    repeat' (first | (k_unfold; (try dsimp only)) | ((try dsimp only); walk1) | (leave1; (try dsimp only)))
    unfold Hold
    dsimp only [InvPostN]
    refine InvEndN.intro (by assumption) (by assumption) (nx := (D1, W.listOf ws1.toArray 0) :: news) ⟨rfl, ⟨_, _, if_pos rfl, fmod_range (by decide)⟩, ?_⟩ rfl (by repeat' (first | exact List.forall_mem_nil _ | exact fun _ h => h | (refine List.forall_mem_cons.mpr ⟨?_, ?_⟩; focus (k_mem)) | (refine List.forall_mem_append.mpr ⟨?_, ?_⟩) | (intro p9 h9; k_mem))) (by repeat' (first | exact List.forall_mem_nil _ | exact fun _ h => h | (refine List.forall_mem_cons.mpr ⟨?_, ?_⟩; focus (k_mem)) | (refine List.forall_mem_append.mpr ⟨?_, ?_⟩) | (intro p9 h9; k_mem)))
    intro z h1 h2
    simp only [h1, h2, if_false]
  · intro u a t h tk hP F3 N3
    k_steps
    unfold Hold
    k_dflt (refine LCt.ListComp_T (F₀ := by k_asm) (by with_unfolding_all rfl) (by decide) (by rfl) (by decide) (by rfl) ?_)
    k_steps
    unfold Hold
    rename_i D2 ws2 h3 F4 N4 hI4 hC4 hL4 l4
    refine LCt.CompSrcT.ledger (its := ws2.toArray) (k := 0) (by rfl) F4 N4 (by k_mem) (by rw [List.size_toArray, hI4.length, sizeLine_eq]; omega) ?_
    intro g₁
    refine compRestT_inv (Inv := fun i ys nw => nw = (D2, W.listOf ws2.toArray 0) :: (D1, W.listOf ws1.toArray 0) :: news ∧ ∃ ms, IntsAre ys ms ∧ ms.length ≤ i ∧ ∀ x ∈ ms, 0 ≤ x ∧ x < (10 : Int) ^ 60) _ ?_ ?_ _ 0 [] _ (Nat.zero_add _) ⟨rfl, [], .nil, Nat.le_refl _, fun _ h => nomatch h⟩
    · rintro ys news' ⟨rfl, ms, hms, hml, hmr⟩
      unfold LCg.FinE
      intro D h tk F5 N5 o5
      k_steps
      rename_i D6 h6 F6 N6 l6
      have e9 := hms.length
      have e8 := hI4.length
      dsimp only
      refine add_L (l := D) (vs := ys) (k := ys.length) (ws := [.int a t]) F6 N6 (by k_mem) (by k_mem) (by rw [List.size_toArray] at hml; simp only [List.length_cons, List.length_nil]; omega) ?_
      intro D7 h7 F7 N7 l7
      dsimp only
      k_lt l7
      k_steps
      refine ret D7 _ (ms ++ [a]) 0 _ _ (by k_asm) (News.sub (by assumption) (by repeat' (first | exact List.forall_mem_nil _ | exact fun _ h => h | (refine List.forall_mem_cons.mpr ⟨?_, ?_⟩; focus (k_mem)) | (refine List.forall_mem_append.mpr ⟨?_, ?_⟩) | (intro p9 h9; k_mem)))) ?_ (hms.append (.cons _ t .nil)) ?_
      · exact fun p hp => Nat.ne_of_lt (ktn_ltOf l7.2.2.2.2 p hp)
      · refine ⟨by simp, by rw [List.size_toArray] at hml; simp; omega, fun x hx9 => ?_⟩
        rcases List.mem_append.mp hx9 with hx9 | hx9
        · exact hmr x hx9
        · rw [List.mem_singleton.mp hx9]
          omega
    · rintro i ys news' v I oI C oC D m₂ h tk E' hi9 ⟨rfl, ms, hms, hml, hmr⟩ hP9 hC hx F5 N5 off ne
      obtain ⟨n, t, rfl⟩ := intsAre_get hI4 hP9
      have off2 := off
      simp only [LCg.Off3, and_true] at off2
      k_steps
      · unfold Hold
        dsimp only
        refine LCg.CompEnd.intro (by assumption) (by assumption) ((D2, W.listOf ws2.toArray 0) :: (D1, W.listOf ws1.toArray 0) :: news) (by repeat' (first | exact List.forall_mem_nil _ | exact fun _ h => h | (refine List.forall_mem_cons.mpr ⟨?_, ?_⟩; focus (k_mem)) | (refine List.forall_mem_append.mpr ⟨?_, ?_⟩) | (intro p9 h9; k_mem))) off (.inr ⟨_, .head _, rfl, _, rfl⟩) ⟨rfl, ms ++ [_], hms.append (.cons _ _ .nil), by simp; omega, ?_⟩
        intro x hx9
        rcases List.mem_append.mp hx9 with hx9 | hx9
        · exact hmr x hx9
        · rw [List.mem_singleton.mp hx9]
          exact fmod_range (by decide)
      · unfold Hold
        dsimp only
        exact LCg.CompEnd.intro (by assumption) (by assumption) ((D2, W.listOf ws2.toArray 0) :: (D1, W.listOf ws1.toArray 0) :: news) (by repeat' (first | exact List.forall_mem_nil _ | exact fun _ h => h | (refine List.forall_mem_cons.mpr ⟨?_, ?_⟩; focus (k_mem)) | (refine List.forall_mem_append.mpr ⟨?_, ?_⟩) | (intro p9 h9; k_mem))) off (.inr ⟨_, .head _, rfl, _, rfl⟩) ⟨rfl, ms, hms, by omega, hmr⟩
def rowK (i wd : Nat) : List (List Int) := (List.range wd).map fun (c : Nat) => [(i : Int), (c : Int)]
def keysTo (wd i j : Nat) : List (List Int) := (List.range i).flatMap (fun r => rowK r wd) ++ rowK i j
theorem keysTo_carry (wd i : Nat) : keysTo wd i wd = keysTo wd (i + 1) 0 := by
  unfold keysTo rowK
  rw [List.range_succ, List.flatMap_append]
  simp
theorem keysTo_snoc (wd i j : Nat) : keysTo wd i (j + 1) = keysTo wd i j ++ [[(i : Int), (j : Int)]] := by
  unfold keysTo rowK
  rw [List.range_succ, List.map_append, ← List.append_assoc]
  rfl
theorem keysTo_mem {wd i j : Nat} {r c : Int} : [r, c] ∈ keysTo wd i j ↔ (0 ≤ r ∧ r < i ∧ 0 ≤ c ∧ c < wd) ∨ (r = i ∧ 0 ≤ c ∧ c < j) := by
  unfold keysTo rowK
  simp only [List.mem_append, List.mem_flatMap, List.mem_range, List.mem_map, List.cons.injEq, and_true]
  constructor
  · rintro (⟨a, h1, b, h2, h3, h4⟩ | ⟨b, h2, h3, h4⟩)
    · left; omega
    · right; omega
  · rintro (⟨h1, h2, h3, h4⟩ | ⟨h1, h2, h3⟩)
    · exact .inl ⟨r.toNat, by omega, c.toNat, by omega, by omega, by omega⟩
    · exact .inr ⟨c.toNat, by omega, by omega, by omega⟩
theorem keysTo_in {wd ht : Nat} {r c : Int} (h0 : 0 ≤ r) (h1 : r < ht) (h2 : 0 ≤ c) (h3 : c < wd) : [r, c] ∈ keysTo wd ht 0 := keysTo_mem.mpr (.inl ⟨h0, h1, h2, h3⟩)
theorem keysTo_len (wd i j : Nat) : (keysTo wd i j).length = i * wd + j := by
  unfold keysTo rowK
  rw [List.length_append, List.length_map, List.length_range, List.length_flatMap]
  simp only [List.length_map, List.length_range, List.map_const', List.sum_replicate_nat]
theorem keysTo_nodup (wd : Nat) : ∀ i j, j ≤ wd → (keysTo wd i j).Nodup
  | 0, 0, _ => by simp [keysTo, rowK]
  | i + 1, 0, _ => by rw [← keysTo_carry]; exact keysTo_nodup wd i wd (Nat.le_refl _)
  | i, j + 1, h => by
    rw [keysTo_snoc, List.nodup_append]
    refine ⟨keysTo_nodup wd i j (by omega), by simp, ?_⟩
    intro a ha b hb e
    rw [List.mem_singleton] at hb
    subst hb; subst e
    rw [keysTo_mem] at ha
    omega
termination_by i j => (i, j)
local macro_rules | `(tactic| walk_at "eval ListComp") => `(tactic| refine hold ?_)
local macro_rules | `(tactic| walk_at "CompEnd") => `(tactic| refine hold ?_)
local macro_rules | `(tactic| walk_at "Src2") => `(tactic| refine hold ?_)
theorem grid_spec {w : World} {p : Program} {loose : List Str} {mean : ExcName → Option Value} {mg mb : Str → Option Value}
  {dp un : Nat} {gd : Option (List Code)} {cn : Str} {cs : Scope} {a : Addr} {ccd : Value} {cl : List (Str × Addr)} {outer : List Env} {A₀ : Around} {base h₀ : Heap} {L : Addr} {m : Str → Option Value} {s : Shared} {Q E : Value → Shared → Prop} {news : Led} {wd ht : Int} {t1 t2 : Tok}
  (B : Below A₀ base outer h₀) (F : Fr h₀ L s.heap m) (X : (hd.heap_39 w.params).In h₀) (T : Top p loose mean mg mb h₀) (hk : cs.kind = .function) (N : News h₀ L s.heap news) (hw0 : 1 ≤ wd) (hw1 : wd ≤ 20) (hh0 : 1 ≤ ht) (hh1 : ht ≤ 20) (hdp : dp + 1 < recursionLimit) (hun : un + 40 < cLine)
  (ret : ∀ d o new h' tk', Fr h₀ L h' m → News h₀ L h' ((d, o) :: (new ++ news)) → Off ((d, o) :: new) news → (∀ p ∈ new, p.1 ≠ d) → GridV w o (keysTo wd.toNat ht.toNat 0) (fun _ => (32, 0)) new → Q (.ref d) { s with heap := h', toks := tk' }) :
  wpAny (model PP w) (ktrTop dp un gd cn cs L a ccd cl outer) (call (.ref 108) [.int wd t1, .int ht t2]) Q E s := by
  w_top off
  refine wpAny_call ?_
  k_dflt (refine' code_defC ?k1 ?k2 ?k3 ?k4 ?k5 ?kA ?kF ?kK ?k6 ?k7 ?k8 ?k9 ?kB ?kD ?_ ?c2 ?c3 ?c4; (case kA => exact rfl); (case kF => exact rfl); (case kK => assumption); (case k1 => k_asm); (case k2 => k_asm); (case k3 => k_asm); (case k4 => k_asm); (case k5 => k_asm); (case k6 => k_is); (case k7 => k_is); (case k8 => ktr_room); (case k9 => exact BindsTo.of_eq rfl); (case kB => exact rfl); (case kD => decide +kernel); (case c2 => exact rfl); (case c3 => exact rfl); (case c4 => exact rfl); k_whole; intro g' L' h' tk' cells' FG' F' N' Y' B' X' T' l1; k_cells Y'; (try simp only [List.cons_append, List.nil_append] at N'); (try dsimp only); (try k_lift B'); (try k_fold))
  rename_i o' d1'
  k_steps
  unfold Hold
  k_dflt (refine ListComp_two (F₀ := by k_asm) (by rfl) (by decide) (by rfl) (by decide) (by rfl) (by rfl) (by decide) (fun _ _ => rfl) ?_)
  k_steps
  unfold Hold
  dsimp only
  refine' Src2.intro (news := (L' + 1, o') :: news) ht.toNat wd.toNat (fun i j ys nw => j ≤ wd.toNat ∧ i ≤ ht.toNat ∧ ∃ new xs, nw = new ++ (L' + 1, o') :: news ∧ Off new ((L' + 1, o') :: news) ∧ All2 (PairV new) ys xs ∧ XsV w new (keysTo wd.toNat i j) (fun _ => (32, 0)) xs)
    ?a1 ?a2 ?a3 ?a4 ?a5 ?a6 ?a7 ?_ ?_ ?_ (fun g₁ => ?_) (fun g₁ => ?_) (fun g₁ => ?_)
  case a1 => assumption
  case a2 => omega
  case a3 => rfl
  case a4 => k_asm
  case a5 => k_asm
  case a6 => omega
  case a7 => omega
  · rintro i j ys nw ⟨hj, hi, new, xs, rfl, ho, ha, hx⟩
    have e1 := ha.length
    have e2 : xs.length = i * wd.toNat + j := by rw [← keysTo_len, ← hx.1, List.length_map]
    have e3 : i * wd.toNat ≤ 20 * 20 := Nat.mul_le_mul (by omega) (by omega)
    rw [sizeLine_eq]; omega
  · rintro i ys nw hi8 ⟨hj, hi, new, xs, rfl, ho, ha, hx⟩
    exact ⟨Nat.zero_le _, hi8, new, xs, rfl, ho, ha, keysTo_carry _ _ ▸ hx⟩
  · exact ⟨Nat.zero_le _, Nat.zero_le _, [], [], rfl, Off.nil, .nil, rfl, fun _ h => nomatch h⟩
  · rintro i ys nw C oC D I oI h tk E' hi ⟨hj, hi9, new, xs, rfl, ho, ha, hx⟩ F2 N2 off2
    dsimp only
    walk1
    refine LCgL.ld_built F2 (by k_asm) (by k_asm) (by k_is) (by boot_by_name) (by decide) ?_
    k_steps
    dsimp only
    exact RngPost.intro (by assumption) (by omega) (by k_asm) (by k_asm)
  · rintro i j ys nw J oJ C oC D I oI m₂ h tk t u E' hi hj ⟨hj9, hi9, new, xs, rfl, ho, ha, hx⟩ hC h1 h2 F2 N2 off1 off2
    dsimp only
    k_steps
    rename_i D1 q1 l1 D2 q2 l2 D3 q3 F3 N3 l3
    unfold Hold
    dsimp only
    have m1 := ktn_ltOf l1.2.2.2.2
    have m2 := ktn_ltOf l2.2.2.2.2.2
    have m3 := ktn_ltOf l3.2.2.2.2.2.2
    refine LCg.CompEnd.intro F3 N3 ((I, oI) :: ((D3, tupOf [.ref D1, .ref D2] 0) :: (D2, tupOf [.int 32 tk, .int 0 (tk + 1)] 0) :: (D1, tupOf [.int (i : Nat) u, .int (j : Nat) t] 0) :: new) ++ (L' + 1, o') :: news) (by repeat' (first | exact List.forall_mem_nil _ | exact fun _ h => h | (refine List.forall_mem_cons.mpr ⟨?_, ?_⟩; focus (k_mem)) | (refine List.forall_mem_append.mpr ⟨?_, ?_⟩) | (intro p9 h9; k_mem))) ?_ trivial
      ⟨((D3, tupOf [.ref D1, .ref D2] 0) :: (D2, tupOf [.int 32 tk, .int 0 (tk + 1)] 0) :: (D1, tupOf [.int (i : Nat) u, .int (j : Nat) t] 0) :: new) ++ (L' + 1, o') :: news, rfl, ?_, hj, hi9, _, xs ++ [([(i : Int), (j : Int)], D1, .ref D2)], rfl, ?_, ?_, ?_⟩
    · exact ⟨off1.1, ⟨Nat.ne_of_gt l3.2.2.1, Nat.ne_of_gt l3.2.2.2.1, Nat.ne_of_gt l3.2.2.2.2.1⟩, ⟨Nat.ne_of_gt l2.2.1, Nat.ne_of_gt l2.2.2.1, Nat.ne_of_gt l2.2.2.2.1⟩, ⟨Nat.ne_of_gt l1.1, Nat.ne_of_gt l1.2.1, Nat.ne_of_gt l1.2.2.1⟩, off1.2⟩
    · exact ⟨⟨Nat.ne_of_gt l3.2.2.2.2.2.1, Nat.ne_of_gt l3.2.2.2.1, Nat.ne_of_gt l3.2.2.2.2.1⟩, ⟨Nat.ne_of_gt l2.2.2.2.2.1, Nat.ne_of_gt l2.2.2.1, Nat.ne_of_gt l2.2.2.2.1⟩, ⟨Nat.ne_of_gt l1.2.2.2.1, Nat.ne_of_gt l1.2.1, Nat.ne_of_gt l1.2.2.1⟩, off2⟩
    · exact Off.cons (Off.cons (Off.cons ho fun q hq => Nat.ne_of_lt (m1 q (List.mem_append_right _ hq))) fun q hq => Nat.ne_of_lt (m2 q (List.mem_append_right _ hq))) fun q hq => Nat.ne_of_lt (m3 q (List.mem_append_right _ hq))
    · exact (ha.mono fun _ _ x => x.mono (by repeat' (first | exact List.forall_mem_nil _ | exact fun _ h => h | (refine List.forall_mem_cons.mpr ⟨?_, ?_⟩; focus (k_mem)) | (refine List.forall_mem_append.mpr ⟨?_, ?_⟩) | (intro p9 h9; k_mem)))).append (.one ⟨D3, 0, rfl, .head _⟩)
    · rw [keysTo_snoc]
      refine ⟨by rw [List.map_append, hx.1]; rfl, fun x hx9 => ?_⟩
      rcases List.mem_append.mp hx9 with hx9 | hx9
      · exact (hx.mono (by repeat' (first | exact List.forall_mem_nil _ | exact fun _ h => h | (refine List.forall_mem_cons.mpr ⟨?_, ?_⟩; focus (k_mem)) | (refine List.forall_mem_append.mpr ⟨?_, ?_⟩) | (intro p9 h9; k_mem)))).2 x hx9
      · rw [List.mem_singleton.mp hx9]
        exact ⟨⟨_, .tail _ (.tail _ (.head _)), key_of _ _ _ _ _⟩, .inr ⟨D2, _, _, _, rfl, .tail _ (.head _)⟩⟩
  · rintro ys nw ⟨hj9, hi9, new, xs, rfl, ho, ha, hx⟩
    unfold LCg.FinE
    intro D h tk F2 N2 o2
    k_steps
    have hk9 := keysTo_len wd.toNat ht.toNat 0
    have hk8 : ht.toNat * wd.toNat ≤ 20 * 20 := Nat.mul_le_mul (by omega) (by omega)
    refine dict_pairs_L (D := D) (ys := ys) (n := ys.length) rfl (by show un + 3 + 20 < cLine; omega) F2 N2 (by k_mem) ha hx (by repeat' (first | exact List.forall_mem_nil _ | exact fun _ h => h | (refine List.forall_mem_cons.mpr ⟨?_, ?_⟩; focus (k_mem)) | (refine List.forall_mem_append.mpr ⟨?_, ?_⟩) | (intro p9 h9; k_mem))) (keysTo_nodup _ _ _ (by omega)) (by omega) ?_
    intro d od h9 tk9 F9 N9 hne V
    dsimp only
    k_steps
    refine ret d od new _ _ (by k_asm) (News.sub (by assumption) (by repeat' (first | exact List.forall_mem_nil _ | exact fun _ h => h | (refine List.forall_mem_cons.mpr ⟨?_, ?_⟩; focus (k_mem)) | (refine List.forall_mem_append.mpr ⟨?_, ?_⟩) | (intro p9 h9; k_mem)))) ?_ (fun p hp => hne p (by k_mem)) V
    exact Off.cons (ho.sub (fun _ h => h) fun p hp => ⟨p.2, .tail _ hp⟩) fun q hq => hne q (by k_mem)
def Filled (r : Int) (wd i j : Nat) (tgt : Int → Int → Int × Int) (ks : List (List Int)) (f : List Int → Int × Int) : Prop :=
  ks.length ≤ i * wd + j ∧ (∀ k ∈ ks, ∃ x y, k = [x, y]) ∧ (∀ x y, [x, y] ∈ ks ↔ (r ≤ x ∧ x < r + i ∧ 0 ≤ y ∧ y < wd) ∨ (x = r + i ∧ 0 ≤ y ∧ y < j)) ∧ ∀ x y, [x, y] ∈ ks → f [x, y] = tgt x y
theorem GridV.empty {w : World} {o : Obj} {rest : Led} {f : List Int → Int × Int} (h : Obj.IsDictOf (intKind PP w) o []) : GridV w o [] f rest := by
  obtain ⟨es, ep, hc, hdat, _, hp, _⟩ := h
  exact ⟨es, ep, [], hc, hdat, List.length_eq_zero_iff.mp hp.length, List.nodup_nil, rfl, fun _ hx => nomatch hx⟩
inductive MovP (w : World) (dM : Addr) (T news : Led) (r : Int) (wd i j : Nat) (tgt : Int → Int → Int × Int) (nx : Led) : Prop
  | mk (oM : Obj) (ks : List (List Int)) (f2 : List Int → Int × Int) (new : Led) (h0 : nx = (dM, oM) :: (new ++ T)) (h1 : GridV w oM ks f2 (new ++ news)) (h2 : Filled r wd i j tgt ks f2) (h3 : Off new T) (h4 : ∀ p ∈ new ++ T, p.1 ≠ dM) : MovP w dM T news r wd i j tgt nx
theorem fill_carry {r x y : Int} {wd i : Nat} : (r ≤ x ∧ x < r + i ∧ 0 ≤ y ∧ y < wd) ∨ (x = r + i ∧ 0 ≤ y ∧ y < wd) ↔ (r ≤ x ∧ x < r + (i + 1 : Nat) ∧ 0 ≤ y ∧ y < wd) ∨ (x = r + (i + 1 : Nat) ∧ 0 ≤ y ∧ y < (0 : Nat)) := by
  constructor
  · rintro (⟨h1, h2, h3, h4⟩ | ⟨h1, h3, h4⟩)
    · exact .inl ⟨h1, by omega, h3, h4⟩
    · exact .inl ⟨by omega, by omega, h3, h4⟩
  · rintro (⟨h1, h2, h3, h4⟩ | ⟨h1, h3, h4⟩)
    · by_cases e : x = r + i
      · exact .inr ⟨e, h3, h4⟩
      · exact .inl ⟨h1, by omega, h3, h4⟩
    · exact absurd (Int.lt_of_le_of_lt h3 h4) (Int.lt_irrefl _)
theorem fill_step {r x y : Int} {wd i j : Nat} (hj : j < wd) : ((r ≤ x ∧ x < r + i ∧ 0 ≤ y ∧ y < wd) ∨ (x = r + i ∧ 0 ≤ y ∧ y < j)) ∨ (x = r + i ∧ y = 0 + j) ↔ (r ≤ x ∧ x < r + i ∧ 0 ≤ y ∧ y < wd) ∨ (x = r + i ∧ 0 ≤ y ∧ y < (j + 1 : Nat)) := by
  constructor
  · rintro ((h | ⟨h1, h2, h3⟩) | ⟨h1, h2⟩)
    · exact .inl h
    · exact .inr ⟨h1, h2, by omega⟩
    · exact .inr ⟨h1, by omega, by omega⟩
  · rintro (h | ⟨h1, h2, h3⟩)
    · exact .inl (.inl h)
    · by_cases e : y = 0 + j
      · exact .inr ⟨h1, e⟩
      · exact .inl (.inr ⟨h1, h2, by omega⟩)
theorem Filled.carry {r : Int} {wd i : Nat} {tgt : Int → Int → Int × Int} {ks : List (List Int)} {f : List Int → Int × Int} (h : Filled r wd i wd tgt ks f) : Filled r wd (i + 1) 0 tgt ks f := by
  obtain ⟨h1, h2, h3, h4⟩ := h
  refine ⟨by rw [Nat.add_mul, Nat.one_mul]; exact h1, h2, fun x y => ?_, h4⟩
  rw [h3]
  exact fill_carry
theorem Filled.zero {r : Int} {wd : Nat} {tgt : Int → Int → Int × Int} {f : List Int → Int × Int} : Filled r wd 0 0 tgt [] f := by
  refine ⟨Nat.zero_le _, by simp, fun x y => ?_, by simp⟩
  simp only [List.not_mem_nil, false_iff]
  omega
theorem Filled.step {r : Int} {wd i j : Nat} {tgt : Int → Int → Int × Int} {ks : List (List Int)} {f : List Int → Int × Int} (h : Filled r wd i j tgt ks f) (hj : j < wd) {c : Int × Int} (hc : c = tgt (r + (i : Nat)) (0 + (j : Nat))) :
    [r + (i : Nat), 0 + (j : Nat)] ∉ ks ∧ Filled r wd i (j + 1) tgt (ks ++ [[r + (i : Nat), 0 + (j : Nat)]]) (upd1 f [r + (i : Nat), 0 + (j : Nat)] c) := by
  obtain ⟨h1, h2, h3, h4⟩ := h
  have hn : [r + (i : Nat), 0 + (j : Nat)] ∉ ks := by rw [h3]; omega
  refine ⟨hn, by rw [List.length_append, List.length_singleton]; omega, fun k hk => ?_, fun x y => ?_, fun x y hm => ?_⟩
  · rcases List.mem_append.mp hk with hk | hk
    · exact h2 k hk
    · exact ⟨_, _, List.mem_singleton.mp hk⟩
  · rw [List.mem_append, h3, List.mem_singleton]
    simp only [List.cons.injEq, and_true]
    exact fill_step hj
  · unfold upd1
    by_cases e : [x, y] = [r + (i : Nat), 0 + (j : Nat)]
    · rw [if_pos e, hc]
      simp only [List.cons.injEq, and_true] at e
      rw [e.1, e.2]
    · rw [if_neg e]
      rcases List.mem_append.mp hm with hm | hm
      · exact h4 x y hm
      · exact absurd (List.mem_singleton.mp hm) e
local macro_rules | `(tactic| walk_at "setItem ref ref ref") => `(tactic| refine hold ?_)
local macro_rules | `(tactic| walk_at "subscriptTail Name Tuple ref ref") => `(tactic| refine hold ?_)
theorem moved_spec {w : World} {p : Program} {loose : List Str} {mean : ExcName → Option Value} {mg mb : Str → Option Value}
  {dp un : Nat} {gd : Option (List Code)} {cn : Str} {cs : Scope} {a : Addr} {ccd : Value} {cl : List (Str × Addr)} {outer : List Env} {A₀ : Around} {base h₀ : Heap} {L : Addr} {m : Str → Option Value} {s : Shared} {Q E : Value → Shared → Prop} {news : Led} {dG : Addr} {oG : Obj} {wd ht r b by' : Int} {t1 t2 t3 t4 : Tok} {f : List Int → Int × Int}
  (B : Below A₀ base outer h₀) (F : Fr h₀ L s.heap m) (X : (hd.heap_39 w.params).In h₀) (T : Top p loose mean mg mb h₀) (hk : cs.kind = .function) (N : News h₀ L s.heap news) (hG : (dG, oG) ∈ news) (V : GridV w oG (keysTo wd.toNat ht.toNat 0) f news) (hw0 : 1 ≤ wd) (hw1 : wd ≤ 20) (hh0 : 1 ≤ ht) (hh1 : ht ≤ 20) (hr0 : 0 ≤ r) (hr1 : r ≤ b) (hb : b ≤ ht) (hdp : dp + 1 < recursionLimit) (hun : un + 40 < cLine)
  (ret : ∀ d o ks2 f2 new h' tk', Fr h₀ L h' m → News h₀ L h' ((d, o) :: (new ++ news)) → Off ((d, o) :: new) news → (∀ p ∈ new, p.1 ≠ d) → d ≠ sysModules → GridV w o ks2 f2 (new ++ news) →
    Filled r wd.toNat (b - r).toNat 0 (fun x y => if r ≤ x - by' ∧ x - by' < b then f [x - by', y] else (32, 0)) ks2 f2 → Q (.ref d) { s with heap := h', toks := tk' }) :
  wpAny (model PP w) (ktrTop dp un gd cn cs L a ccd cl outer) (call (.ref 115) [.ref dG, .int wd t1, .int r t2, .int b t3, .int by' t4]) Q E s := by
  w_top off
  refine wpAny_call ?_
  k_dflt ktr_enter
  rename_i g' L' h' FG' F' N' B' X' T'
  k_steps
  rename_i d1 h0' o1 l1 lo1 hs1 fs1 hi1 fi1 h1 F1 N1
  have VE : GridV w o1 [] (fun _ => (0, 0)) news := GridV.empty hi1
  clear hs1 fs1 hi1 fi1
  unfold Hold
  refine For_invVF F1 rfl rfl ?_
  k_steps
  unfold Hold
  dsimp only at *
  refine iter_range (news := (d1, o1) :: news) (n := (b - r).toNat) ["_law_column", "_law_source"] (fun i _ nx => MovP w d1 news news r wd.toNat i 0 (fun x y => if r ≤ x - by' ∧ x - by' < b then f [x - by', y] else (32, 0)) nx) rfl (by assumption) (range_small (by omega) (by omega) (by omega) (by omega)) (range_size (by omega)) (by k_asm) (by k_asm)
    ⟨o1, [], fun _ => (0, 0), [], rfl, VE, Filled.zero, Off.nil, fun p hp => Nat.ne_of_lt (l1 p hp)⟩ ?_ ?_
  · rintro i t u nx h tk own hi hown ⟨oM, ks, f2, new, rfl, VM, hF, hO, hne⟩ F3 N3
    k_steps
    unfold Hold
    refine For_invVF F3 rfl rfl ?_
    k_steps
    unfold Hold
    dsimp only at *
    have hO9 : Off new (news ++ own) := fun p hp q hq => (List.mem_append.mp hq).elim (hO p hp q) fun z => Ne.symm (hown q z p.1 (List.mem_map.mpr ⟨p, .tail _ (List.mem_append_left _ hp), rfl⟩))
    have hne9 : ∀ p ∈ new ++ (news ++ own), p.1 ≠ d1 := fun p hp => by
      rcases List.mem_append.mp hp with hp | hp
      · exact hne p (List.mem_append_left _ hp)
      · rcases List.mem_append.mp hp with hp | hp
        · exact hne p (List.mem_append_right _ hp)
        · exact hown p hp d1 (List.mem_map.mpr ⟨_, .head _, rfl⟩)
    refine iter_range (news := (d1, oM) :: (new ++ (news ++ own))) (n := (wd - 0).toNat) ["_law_source"] (fun j _ nx => MovP w d1 (news ++ own) news r wd.toNat i j (fun x y => if r ≤ x - by' ∧ x - by' < b then f [x - by', y] else (32, 0)) nx) rfl (by assumption) (range_small (by omega) (by omega) (by omega) (by omega)) (range_size (by omega)) (by k_asm) (News.sub (by k_asm) (by repeat' (first | exact List.forall_mem_nil _ | exact fun _ h => h | (refine List.forall_mem_cons.mpr ⟨?_, ?_⟩; focus (k_mem)) | (refine List.forall_mem_append.mpr ⟨?_, ?_⟩) | (intro p9 h9; k_mem))))
      ⟨oM, ks, f2, new, rfl, VM, hF, hO9, hne9⟩ ?_ ?_
    · clear hO9 hne9 VM hF hO hne
      rintro j tj uj nx hj tkj own2 hjw hown2 ⟨oM, ks, f2, new, rfl, VM, hF, hO, hne⟩ F4 N4
      simp only [List.cons_append] at N4
      k_steps
      · unfold Hold
        rename_i hc1 hc2 D1 q1 F5 N5 l1'
        refine grid_item (o := oG) (k := [r + (i : Nat) - by', 0 + (j : Nat)]) (rest := news) (ok := tupOf [.int (r + (i : Nat) - by') tkj, .int (0 + (j : Nat)) tj] 0) (by show un + 3 + 1 < cLine; omega) N5 V (by k_mem) (by repeat' (first | exact List.forall_mem_nil _ | exact fun _ h => h | (refine List.forall_mem_cons.mpr ⟨?_, ?_⟩; focus (k_mem)) | (refine List.forall_mem_append.mpr ⟨?_, ?_⟩) | (intro p9 h9; k_mem))) (by k_mem) (key_of _ _ _ _ _) (keysTo_in (by omega) (by omega) (by omega) (by omega)) ?_
        intro v hv
        dsimp only
        k_steps
        rename_i D2 q2 F6 N6 l2'
        dsimp only
        have m1 := ktn_ltOf l1'.2
        have m2 := ktn_ltOf l2'.2.2
        have hd1 : ∀ p ∈ ((D2, tupOf [.int (r + (i : Nat)) t, .int (0 + (j : Nat)) tj] 0) :: (D1, tupOf [.int (r + (i : Nat) - by') tkj, .int (0 + (j : Nat)) tj] 0) :: new) ++ (news ++ own), p.1 ≠ d1 := List.forall_mem_cons.mpr ⟨Nat.ne_of_gt l2'.2.1, List.forall_mem_cons.mpr ⟨Nat.ne_of_gt l1'.1, hne⟩⟩
        have hd2 : ∀ p ∈ ((D2, tupOf [.int (r + (i : Nat)) t, .int (0 + (j : Nat)) tj] 0) :: (D1, tupOf [.int (r + (i : Nat) - by') tkj, .int (0 + (j : Nat)) tj] 0) :: new) ++ (news ++ own) ++ own2, p.1 ≠ d1 := fun p hp => (List.mem_append.mp hp).elim (hd1 p) fun z => hown2 p z d1 (List.mem_map.mpr ⟨_, .head _, rfl⟩)
        have hw2 : OwnOff own2 (((d1, oM) :: (((D2, tupOf [.int (r + (i : Nat)) t, .int (0 + (j : Nat)) tj] 0) :: (D1, tupOf [.int (r + (i : Nat) - by') tkj, .int (0 + (j : Nat)) tj] 0) :: new) ++ (news ++ own))).map (·.1)) := ownOff_map fun p hp => List.forall_mem_cons.mpr ⟨ownOff_unmap hown2 p hp _ (.head _), List.forall_mem_cons.mpr ⟨Nat.ne_of_lt (m2 p (List.mem_append_right _ hp)), List.forall_mem_cons.mpr ⟨Nat.ne_of_lt (m1 p (List.mem_append_right _ hp)), fun q hq => ownOff_unmap hown2 p hp q (.tail _ hq)⟩⟩⟩
        have hst := hF.step (c := f [r + (i : Nat) - by', 0 + (j : Nat)]) (by omega) (by rw [if_pos ⟨hc1, hc2⟩])
        refine grid_set (o := oM) (k := [r + (i : Nat), 0 + (j : Nat)]) (c := f [r + (i : Nat) - by', 0 + (j : Nat)]) (v := v) (rest := ((D2, tupOf [.int (r + (i : Nat)) t, .int (0 + (j : Nat)) tj] 0) :: (D1, tupOf [.int (r + (i : Nat) - by') tkj, .int (0 + (j : Nat)) tj] 0) :: new) ++ news) (news := ((D2, tupOf [.int (r + (i : Nat)) t, .int (0 + (j : Nat)) tj] 0) :: (D1, tupOf [.int (r + (i : Nat) - by') tkj, .int (0 + (j : Nat)) tj] 0) :: new) ++ (news ++ own) ++ own2) (by show un + 3 + 1 < cLine; omega) (by assumption) (News.sub (by assumption) (by repeat' (first | exact List.forall_mem_nil _ | exact fun _ h => h | (refine List.forall_mem_cons.mpr ⟨?_, ?_⟩; focus (k_mem)) | (refine List.forall_mem_append.mpr ⟨?_, ?_⟩) | (intro p9 h9; k_mem)))) ?_ (VM.mono (by repeat' (first | exact List.forall_mem_nil _ | exact fun _ h => h | (refine List.forall_mem_cons.mpr ⟨?_, ?_⟩; focus (k_mem)) | (refine List.forall_mem_append.mpr ⟨?_, ?_⟩) | (intro p9 h9; k_mem)))) (by repeat' (first | exact List.forall_mem_nil _ | exact fun _ h => h | (refine List.forall_mem_cons.mpr ⟨?_, ?_⟩; focus (k_mem)) | (refine List.forall_mem_append.mpr ⟨?_, ?_⟩) | (intro p9 h9; k_mem))) (.head _) (key_of _ _ _ _ _) (hv.mono (by repeat' (first | exact List.forall_mem_nil _ | exact fun _ h => h | (refine List.forall_mem_cons.mpr ⟨?_, ?_⟩; focus (k_mem)) | (refine List.forall_mem_append.mpr ⟨?_, ?_⟩) | (intro p9 h9; k_mem)))) ?_ ?_
        · exact hd2
        · have := hF.1
          have e3 : i * wd.toNat ≤ 20 * 20 := Nat.mul_le_mul (by omega) (by omega)
          omega
        · intro o9 h9 F9 N9 V9
          rw [if_neg hst.1] at V9
          dsimp only
          k_steps
          unfold Hold
          dsimp only [InvPostG]
          refine InvEndG.intro (by assumption) (by assumption) (nx := (d1, o9) :: (((D2, tupOf [.int (r + (i : Nat)) t, .int (0 + (j : Nat)) tj] 0) :: (D1, tupOf [.int (r + (i : Nat) - by') tkj, .int (0 + (j : Nat)) tj] 0) :: new) ++ (news ++ own))) ⟨⟨o9, _, _, ((D2, tupOf [.int (r + (i : Nat)) t, .int (0 + (j : Nat)) tj] 0) :: (D1, tupOf [.int (r + (i : Nat) - by') tkj, .int (0 + (j : Nat)) tj] 0) :: new), rfl, V9, hst.2, Off.cons (Off.cons hO fun q hq => Nat.ne_of_lt (m1 q (List.mem_append_left _ (List.mem_append_right _ hq)))) fun q hq => Nat.ne_of_lt (m2 q (List.mem_append_left _ (List.mem_append_right _ hq))), hd1⟩, ?_⟩ hw2 (by repeat' (first | exact List.forall_mem_nil _ | exact fun _ h => h | (refine List.forall_mem_cons.mpr ⟨?_, ?_⟩; focus (k_mem)) | (refine List.forall_mem_append.mpr ⟨?_, ?_⟩) | (intro p9 h9; k_mem))) (by repeat' (first | exact List.forall_mem_nil _ | exact fun _ h => h | (refine List.forall_mem_cons.mpr ⟨?_, ?_⟩; focus (k_mem)) | (refine List.forall_mem_append.mpr ⟨?_, ?_⟩) | (intro p9 h9; k_mem)))
          intro z h1 h2
          have h3 : z ≠ Str.ofString "_law_source" := fun e => by subst e; simp at h2
          simp only [h1, h2, h3, if_false, Bool.false_eq_true]
      · unfold Hold
        rename_i hc1 hc2 D1 q1 l1' D2 q2 F6 N6 l2'
        dsimp only
        have m1 := ktn_ltOf l1'.2
        have m2 := ktn_ltOf l2'.2.2
        have hd1 : ∀ p ∈ ((D2, tupOf [.int (r + (i : Nat)) t, .int (0 + (j : Nat)) tj] 0) :: (D1, tupOf [.int 32 (tkj + 1 + 1), .int 0 (tkj + 1 + 1 + 1)] 0) :: new) ++ (news ++ own), p.1 ≠ d1 := List.forall_mem_cons.mpr ⟨Nat.ne_of_gt l2'.2.1, List.forall_mem_cons.mpr ⟨Nat.ne_of_gt l1'.1, hne⟩⟩
        have hd2 : ∀ p ∈ ((D2, tupOf [.int (r + (i : Nat)) t, .int (0 + (j : Nat)) tj] 0) :: (D1, tupOf [.int 32 (tkj + 1 + 1), .int 0 (tkj + 1 + 1 + 1)] 0) :: new) ++ (news ++ own) ++ own2, p.1 ≠ d1 := fun p hp => (List.mem_append.mp hp).elim (hd1 p) fun z => hown2 p z d1 (List.mem_map.mpr ⟨_, .head _, rfl⟩)
        have hw2 : OwnOff own2 (((d1, oM) :: (((D2, tupOf [.int (r + (i : Nat)) t, .int (0 + (j : Nat)) tj] 0) :: (D1, tupOf [.int 32 (tkj + 1 + 1), .int 0 (tkj + 1 + 1 + 1)] 0) :: new) ++ (news ++ own))).map (·.1)) := ownOff_map fun p hp => List.forall_mem_cons.mpr ⟨ownOff_unmap hown2 p hp _ (.head _), List.forall_mem_cons.mpr ⟨Nat.ne_of_lt (m2 p (List.mem_append_right _ hp)), List.forall_mem_cons.mpr ⟨Nat.ne_of_lt (m1 p (List.mem_append_right _ hp)), fun q hq => ownOff_unmap hown2 p hp q (.tail _ hq)⟩⟩⟩
        have hst := hF.step (c := (32, 0)) (by omega) (by rw [if_neg fun q => hc2 q.2])
        refine grid_set (o := oM) (k := [r + (i : Nat), 0 + (j : Nat)]) (c := (32, 0)) (v := .ref D1) (rest := ((D2, tupOf [.int (r + (i : Nat)) t, .int (0 + (j : Nat)) tj] 0) :: (D1, tupOf [.int 32 (tkj + 1 + 1), .int 0 (tkj + 1 + 1 + 1)] 0) :: new) ++ news) (news := ((D2, tupOf [.int (r + (i : Nat)) t, .int (0 + (j : Nat)) tj] 0) :: (D1, tupOf [.int 32 (tkj + 1 + 1), .int 0 (tkj + 1 + 1 + 1)] 0) :: new) ++ (news ++ own) ++ own2) (by show un + 3 + 1 < cLine; omega) (by assumption) (News.sub (by assumption) (by repeat' (first | exact List.forall_mem_nil _ | exact fun _ h => h | (refine List.forall_mem_cons.mpr ⟨?_, ?_⟩; focus (k_mem)) | (refine List.forall_mem_append.mpr ⟨?_, ?_⟩) | (intro p9 h9; k_mem)))) ?_ (VM.mono (by repeat' (first | exact List.forall_mem_nil _ | exact fun _ h => h | (refine List.forall_mem_cons.mpr ⟨?_, ?_⟩; focus (k_mem)) | (refine List.forall_mem_append.mpr ⟨?_, ?_⟩) | (intro p9 h9; k_mem)))) (by repeat' (first | exact List.forall_mem_nil _ | exact fun _ h => h | (refine List.forall_mem_cons.mpr ⟨?_, ?_⟩; focus (k_mem)) | (refine List.forall_mem_append.mpr ⟨?_, ?_⟩) | (intro p9 h9; k_mem))) (.head _) (key_of _ _ _ _ _) (.inr ⟨D1, _, _, _, rfl, .tail _ (.head _)⟩) ?_ ?_
        · exact hd2
        · have := hF.1
          have e3 : i * wd.toNat ≤ 20 * 20 := Nat.mul_le_mul (by omega) (by omega)
          omega
        · intro o9 h9 F9 N9 V9
          rw [if_neg hst.1] at V9
          dsimp only
          k_steps
          unfold Hold
          dsimp only [InvPostG]
          refine InvEndG.intro (by assumption) (by assumption) (nx := (d1, o9) :: (((D2, tupOf [.int (r + (i : Nat)) t, .int (0 + (j : Nat)) tj] 0) :: (D1, tupOf [.int 32 (tkj + 1 + 1), .int 0 (tkj + 1 + 1 + 1)] 0) :: new) ++ (news ++ own))) ⟨⟨o9, _, _, ((D2, tupOf [.int (r + (i : Nat)) t, .int (0 + (j : Nat)) tj] 0) :: (D1, tupOf [.int 32 (tkj + 1 + 1), .int 0 (tkj + 1 + 1 + 1)] 0) :: new), rfl, V9, hst.2, Off.cons (Off.cons hO fun q hq => Nat.ne_of_lt (m1 q (List.mem_append_left _ (List.mem_append_right _ hq)))) fun q hq => Nat.ne_of_lt (m2 q (List.mem_append_left _ (List.mem_append_right _ hq))), hd1⟩, ?_⟩ hw2 (by repeat' (first | exact List.forall_mem_nil _ | exact fun _ h => h | (refine List.forall_mem_cons.mpr ⟨?_, ?_⟩; focus (k_mem)) | (refine List.forall_mem_append.mpr ⟨?_, ?_⟩) | (intro p9 h9; k_mem))) (by repeat' (first | exact List.forall_mem_nil _ | exact fun _ h => h | (refine List.forall_mem_cons.mpr ⟨?_, ?_⟩; focus (k_mem)) | (refine List.forall_mem_append.mpr ⟨?_, ?_⟩) | (intro p9 h9; k_mem)))
          intro z h1 h2
          have h3 : z ≠ Str.ofString "_law_source" := fun e => by subst e; simp at h2
          simp only [h1, h2, h3, if_false, Bool.false_eq_true]
      · unfold Hold
        rename_i hc1 D1 q1 l1' D2 q2 F6 N6 l2'
        dsimp only
        have m1 := ktn_ltOf l1'.2
        have m2 := ktn_ltOf l2'.2.2
        have hd1 : ∀ p ∈ ((D2, tupOf [.int (r + (i : Nat)) t, .int (0 + (j : Nat)) tj] 0) :: (D1, tupOf [.int 32 (tkj + 1 + 1), .int 0 (tkj + 1 + 1 + 1)] 0) :: new) ++ (news ++ own), p.1 ≠ d1 := List.forall_mem_cons.mpr ⟨Nat.ne_of_gt l2'.2.1, List.forall_mem_cons.mpr ⟨Nat.ne_of_gt l1'.1, hne⟩⟩
        have hd2 : ∀ p ∈ ((D2, tupOf [.int (r + (i : Nat)) t, .int (0 + (j : Nat)) tj] 0) :: (D1, tupOf [.int 32 (tkj + 1 + 1), .int 0 (tkj + 1 + 1 + 1)] 0) :: new) ++ (news ++ own) ++ own2, p.1 ≠ d1 := fun p hp => (List.mem_append.mp hp).elim (hd1 p) fun z => hown2 p z d1 (List.mem_map.mpr ⟨_, .head _, rfl⟩)
        have hw2 : OwnOff own2 (((d1, oM) :: (((D2, tupOf [.int (r + (i : Nat)) t, .int (0 + (j : Nat)) tj] 0) :: (D1, tupOf [.int 32 (tkj + 1 + 1), .int 0 (tkj + 1 + 1 + 1)] 0) :: new) ++ (news ++ own))).map (·.1)) := ownOff_map fun p hp => List.forall_mem_cons.mpr ⟨ownOff_unmap hown2 p hp _ (.head _), List.forall_mem_cons.mpr ⟨Nat.ne_of_lt (m2 p (List.mem_append_right _ hp)), List.forall_mem_cons.mpr ⟨Nat.ne_of_lt (m1 p (List.mem_append_right _ hp)), fun q hq => ownOff_unmap hown2 p hp q (.tail _ hq)⟩⟩⟩
        have hst := hF.step (c := (32, 0)) (by omega) (by rw [if_neg fun q => hc1 q.1])
        refine grid_set (o := oM) (k := [r + (i : Nat), 0 + (j : Nat)]) (c := (32, 0)) (v := .ref D1) (rest := ((D2, tupOf [.int (r + (i : Nat)) t, .int (0 + (j : Nat)) tj] 0) :: (D1, tupOf [.int 32 (tkj + 1 + 1), .int 0 (tkj + 1 + 1 + 1)] 0) :: new) ++ news) (news := ((D2, tupOf [.int (r + (i : Nat)) t, .int (0 + (j : Nat)) tj] 0) :: (D1, tupOf [.int 32 (tkj + 1 + 1), .int 0 (tkj + 1 + 1 + 1)] 0) :: new) ++ (news ++ own) ++ own2) (by show un + 3 + 1 < cLine; omega) (by assumption) (News.sub (by assumption) (by repeat' (first | exact List.forall_mem_nil _ | exact fun _ h => h | (refine List.forall_mem_cons.mpr ⟨?_, ?_⟩; focus (k_mem)) | (refine List.forall_mem_append.mpr ⟨?_, ?_⟩) | (intro p9 h9; k_mem)))) ?_ (VM.mono (by repeat' (first | exact List.forall_mem_nil _ | exact fun _ h => h | (refine List.forall_mem_cons.mpr ⟨?_, ?_⟩; focus (k_mem)) | (refine List.forall_mem_append.mpr ⟨?_, ?_⟩) | (intro p9 h9; k_mem)))) (by repeat' (first | exact List.forall_mem_nil _ | exact fun _ h => h | (refine List.forall_mem_cons.mpr ⟨?_, ?_⟩; focus (k_mem)) | (refine List.forall_mem_append.mpr ⟨?_, ?_⟩) | (intro p9 h9; k_mem))) (.head _) (key_of _ _ _ _ _) (.inr ⟨D1, _, _, _, rfl, .tail _ (.head _)⟩) ?_ ?_
        · exact hd2
        · have := hF.1
          have e3 : i * wd.toNat ≤ 20 * 20 := Nat.mul_le_mul (by omega) (by omega)
          omega
        · intro o9 h9 F9 N9 V9
          rw [if_neg hst.1] at V9
          dsimp only
          k_steps
          unfold Hold
          dsimp only [InvPostG]
          refine InvEndG.intro (by assumption) (by assumption) (nx := (d1, o9) :: (((D2, tupOf [.int (r + (i : Nat)) t, .int (0 + (j : Nat)) tj] 0) :: (D1, tupOf [.int 32 (tkj + 1 + 1), .int 0 (tkj + 1 + 1 + 1)] 0) :: new) ++ (news ++ own))) ⟨⟨o9, _, _, ((D2, tupOf [.int (r + (i : Nat)) t, .int (0 + (j : Nat)) tj] 0) :: (D1, tupOf [.int 32 (tkj + 1 + 1), .int 0 (tkj + 1 + 1 + 1)] 0) :: new), rfl, V9, hst.2, Off.cons (Off.cons hO fun q hq => Nat.ne_of_lt (m1 q (List.mem_append_left _ (List.mem_append_right _ hq)))) fun q hq => Nat.ne_of_lt (m2 q (List.mem_append_left _ (List.mem_append_right _ hq))), hd1⟩, ?_⟩ hw2 (by repeat' (first | exact List.forall_mem_nil _ | exact fun _ h => h | (refine List.forall_mem_cons.mpr ⟨?_, ?_⟩; focus (k_mem)) | (refine List.forall_mem_append.mpr ⟨?_, ?_⟩) | (intro p9 h9; k_mem))) (by repeat' (first | exact List.forall_mem_nil _ | exact fun _ h => h | (refine List.forall_mem_cons.mpr ⟨?_, ?_⟩; focus (k_mem)) | (refine List.forall_mem_append.mpr ⟨?_, ?_⟩) | (intro p9 h9; k_mem)))
          intro z h1 h2
          have h3 : z ≠ Str.ofString "_law_source" := fun e => by subst e; simp at h2
          simp only [h1, h2, h3, if_false, Bool.false_eq_true]
    · rintro u nx h tk ⟨oM, ks, f2, new, rfl, VM, hF, hO, hne⟩ F4 N4
      k_steps
      unfold Hold
      dsimp only [InvPostG]
      have ew : (wd - 0).toNat = wd.toNat := by omega
      rw [ew] at hF
      refine InvEndG.intro (by assumption) (by assumption) (nx := (d1, oM) :: (new ++ news)) ⟨⟨oM, ks, f2, new, rfl, VM, hF.carry, hO.sub (fun _ h => h) fun p hp => ⟨p.2, List.mem_append_left _ hp⟩, fun p hp => hne p (by
        rcases List.mem_append.mp hp with hp | hp
        · exact List.mem_append_left _ hp
        · exact List.mem_append_right _ (List.mem_append_left _ hp))⟩, ?_⟩ ?_ (by repeat' (first | exact List.forall_mem_nil _ | exact fun _ h => h | (refine List.forall_mem_cons.mpr ⟨?_, ?_⟩; focus (k_mem)) | (refine List.forall_mem_append.mpr ⟨?_, ?_⟩) | (intro p9 h9; k_mem))) (by repeat' (first | exact List.forall_mem_nil _ | exact fun _ h => h | (refine List.forall_mem_cons.mpr ⟨?_, ?_⟩; focus (k_mem)) | (refine List.forall_mem_append.mpr ⟨?_, ?_⟩) | (intro p9 h9; k_mem)))
      · intro z h1 h2
        have h3 : z ≠ Str.ofString "_law_source" := fun e => by subst e; simp at h2
        have h4 : z ≠ Str.ofString "_law_column" := fun e => by subst e; simp at h2
        simp only [h1, h4, if_false]
        rw [h2]
        simp [h3]
      · refine ownOff_map fun p hp => List.forall_mem_cons.mpr ⟨hne p (List.mem_append_right _ (List.mem_append_right _ hp)), fun q hq => ?_⟩
        rcases List.mem_append.mp hq with hq | hq
        · exact Ne.symm (hO q hq p (List.mem_append_right _ hp))
        · exact ownOff_unmap hown p hp q (.tail _ (List.mem_append_right _ hq))
  · rintro u nx h tk ⟨oM, ks, f2, new, rfl, VM, hF, hO, hne⟩ F3 N3
    k_steps
    exact ret d1 oM ks f2 new _ _ (by k_asm) (by assumption) (hO.cons fun q hq => hne q (List.mem_append_right _ hq)) (fun p hp => hne p (List.mem_append_left _ hp)) (by simpa using lo1) VM hF
theorem same_get {wd ht : Nat} {rows : List (List Cell)} {f : List Int → Int × Int} (h : Same wd ht rows f) {r c : Nat} (hr : r < ht) (hc : c < wd) : (rows[r]?).bind (fun l => l[c]?) = some (f [(r : Int), (c : Int)]) := h.2.2 r c hr hc
theorem same_ins {wd ht row many bottom : Nat} {rows : List (List Cell)} {f f2 : List Int → Int × Int} {ks2 : List (List Int)} (hS : Same wd ht rows f) (h1 : row + many ≤ bottom) (h2 : bottom ≤ ht)
    (hF : Filled (row : Int) wd (bottom - row) 0 (fun x y => if (row : Int) ≤ x - (many : Int) ∧ x - (many : Int) < (bottom : Int) then f [x - (many : Int), y] else (32, 0)) ks2 f2) :
    Same wd ht (insRows rows row many bottom wd) (fun k => if k ∈ ks2 then f2 k else f k) := by
  obtain ⟨e1, e2, e3⟩ := hS
  refine ⟨?_, ?_, fun r c hr hc => ?_⟩
  · unfold insRows; simp only [List.length_append, List.length_take, List.length_drop, List.length_replicate]; omega
  · intro l hl
    obtain ⟨r, hr⟩ := List.getElem?_of_mem hl
    rw [ins_get h1 (by omega)] at hr
    split at hr
    · exact e2 l (List.mem_of_getElem? hr)
    · split at hr
      · cases hr; simp
      · split at hr <;> exact e2 l (List.mem_of_getElem? hr)
  · rw [ins_get h1 (by omega)]
    have hm := hF.2.2.1 (r : Int) (c : Int)
    dsimp only
    split
    · rw [if_neg (by rw [hm]; omega)]; exact e3 r c hr hc
    · split
      · have hk : [(r : Int), (c : Int)] ∈ ks2 := by rw [hm]; omega
        rw [if_pos hk, hF.2.2.2 _ _ hk]; dsimp only; rw [if_neg (by omega)]
        simp [List.getElem?_replicate, hc]
      · split
        · have hk : [(r : Int), (c : Int)] ∈ ks2 := by rw [hm]; omega
          rw [if_pos hk, hF.2.2.2 _ _ hk]; dsimp only; rw [if_pos (by omega), e3 (r - many) c (by omega) hc]
          congr 3; omega
        · rw [if_neg (by rw [hm]; omega)]; exact e3 r c hr hc
theorem same_del {wd ht row many bottom : Nat} {rows : List (List Cell)} {f f2 : List Int → Int × Int} {ks2 : List (List Int)} (hS : Same wd ht rows f) (h1 : row + many ≤ bottom) (h2 : bottom ≤ ht)
    (hF : Filled (row : Int) wd (bottom - row) 0 (fun x y => if (row : Int) ≤ x - (0 - (many : Int)) ∧ x - (0 - (many : Int)) < (bottom : Int) then f [x - (0 - (many : Int)), y] else (32, 0)) ks2 f2) :
    Same wd ht (delRows rows row many bottom wd) (fun k => if k ∈ ks2 then f2 k else f k) := by
  obtain ⟨e1, e2, e3⟩ := hS
  refine ⟨?_, ?_, fun r c hr hc => ?_⟩
  · unfold delRows; simp only [List.length_append, List.length_take, List.length_drop, List.length_replicate]; omega
  · intro l hl
    obtain ⟨r, hr⟩ := List.getElem?_of_mem hl
    rw [del_get h1 (by omega)] at hr
    split at hr
    · exact e2 l (List.mem_of_getElem? hr)
    · split at hr
      · exact e2 l (List.mem_of_getElem? hr)
      · split at hr
        · cases hr; simp
        · exact e2 l (List.mem_of_getElem? hr)
  · rw [del_get h1 (by omega)]
    have hm := hF.2.2.1 (r : Int) (c : Int)
    dsimp only
    split
    · rw [if_neg (by rw [hm]; omega)]; exact e3 r c hr hc
    · split
      · have hk : [(r : Int), (c : Int)] ∈ ks2 := by rw [hm]; omega
        rw [if_pos hk, hF.2.2.2 _ _ hk]; dsimp only; rw [if_pos (by omega), e3 (r + many) c (by omega) hc]
        congr 3; omega
      · split
        · have hk : [(r : Int), (c : Int)] ∈ ks2 := by rw [hm]; omega
          rw [if_pos hk, hF.2.2.2 _ _ hk]; dsimp only; rw [if_neg (by omega)]
          simp [List.getElem?_replicate, hc]
        · rw [if_neg (by rw [hm]; omega)]; exact e3 r c hr hc
theorem same_row {wd ht row : Nat} {rows : List (List Cell)} {f g : List Int → Int × Int} {l : List Cell} (hS : Same wd ht rows f) (hr0 : row < ht) (hl : l.length = wd)
    (hg : ∀ c : Nat, c < wd → l[c]? = some (g [(row : Int), (c : Int)])) (ho : ∀ r c : Nat, r ≠ row → g [(r : Int), (c : Int)] = f [(r : Int), (c : Int)]) : Same wd ht (rows.set row l) g := by
  obtain ⟨e1, e2, e3⟩ := hS
  refine ⟨by rw [List.length_set]; exact e1, fun x hx => ?_, fun r c hr hc => ?_⟩
  · rcases List.mem_or_eq_of_mem_set hx with hx | rfl
    · exact e2 x hx
    · exact hl
  · by_cases e : r = row
    · subst e
      rw [List.getElem?_set_self (by omega)]
      exact hg c hc
    · rw [List.getElem?_set_ne (fun q => e q.symm), ho r c e]
      exact e3 r c hr hc
def Run (row col : Int) (tgt : Int → Int × Int) (f : List Int → Int × Int) (j : Nat) (f2 : List Int → Int × Int) : Prop := ∀ x y, f2 [x, y] = if x = row ∧ col ≤ y ∧ y < col + j then tgt y else f [x, y]
theorem Run.zero {row col : Int} {tgt : Int → Int × Int} {f : List Int → Int × Int} : Run row col tgt f 0 f := fun x y => by rw [if_neg (by omega)]
theorem Run.step {row col : Int} {tgt : Int → Int × Int} {f f2 : List Int → Int × Int} {j : Nat} {c : Int × Int} (h : Run row col tgt f j f2) (hc : c = tgt (col + (j : Nat))) : Run row col tgt f (j + 1) (upd1 f2 [row, col + (j : Nat)] c) := fun x y => by
  unfold upd1
  by_cases e : [x, y] = [row, col + (j : Nat)]
  · rw [if_pos e, hc]
    simp only [List.cons.injEq, and_true] at e
    rw [if_pos (by omega), e.2]
  · rw [if_neg e, h x y]
    simp only [List.cons.injEq, and_true] at e
    by_cases e1 : x = row ∧ col ≤ y ∧ y < col + j
    · rw [if_pos e1, if_pos (by omega)]
    · rw [if_neg e1, if_neg (by omega)]
inductive StepP (w : World) (dG : Addr) (base Rb : Led) (ks : List (List Int)) (row col : Int) (tgt : Int → Int × Int) (f : List Int → Int × Int) (j : Nat) (nx : Led) : Prop
  | mk (o : Obj) (f2 : List Int → Int × Int) (new : Led) (h0 : nx = (dG, o) :: (new ++ base)) (h1 : GridV w o ks f2 (new ++ Rb)) (h2 : Run row col tgt f j f2) (h3 : Off new base) (h4 : ∀ p ∈ new, p.1 ≠ dG) : StepP w dG base Rb ks row col tgt f j nx
theorem same_clear {wd ht : Nat} {row col : Int} {k : Nat} {rows : List (List Cell)} {r : List Cell} {f g : List Int → Int × Int} (hS : Same wd ht rows f) (h0 : 0 ≤ row) (h1 : row < ht) (h2 : 0 ≤ col) (h3 : col.toNat + k = wd) (hr : rows[row.toNat]? = some r)
    (hR : Run row col (fun _ => (32, 0)) f k g) : Same wd ht (rows.set row.toNat (clearRow r col.toNat k)) g := by
  have hl : r.length = wd := hS.2.1 r (List.mem_of_getElem? hr)
  refine same_row hS (by omega) ?_ (fun c hc => ?_) fun r' c hne => ?_
  · unfold clearRow; rw [List.length_append, List.length_take, List.length_replicate]; omega
  · rw [clear_get (by omega), hR]
    by_cases e : col.toNat ≤ c ∧ c < col.toNat + k
    · rw [if_pos e, if_pos (by omega)]
    · rw [if_neg e, if_neg (by omega)]
      have := hS.2.2 row.toNat c (by omega) hc
      rw [hr] at this
      exact this
  · rw [hR, if_neg (by omega)]
theorem same_put {wd ht : Nat} {row col : Int} {rows : List (List Cell)} {r xs : List Cell} {f g : List Int → Int × Int} {tgt : Int → Int × Int} (hS : Same wd ht rows f) (h0 : 0 ≤ row) (h1 : row < ht) (h2 : 0 ≤ col) (h3 : col.toNat + xs.length ≤ wd) (hr : rows[row.toNat]? = some r)
    (ht2 : ∀ j : Nat, j < xs.length → xs[j]? = some (tgt (col + (j : Nat)))) (hR : Run row col tgt f xs.length g) : Same wd ht (rows.set row.toNat (putRow r col.toNat xs)) g := by
  have hl : r.length = wd := hS.2.1 r (List.mem_of_getElem? hr)
  refine same_row hS (by omega) ?_ (fun c hc => ?_) fun r' c hne => ?_
  · unfold putRow; simp only [List.length_append, List.length_take, List.length_drop]; omega
  · rw [put_get (by omega), hR]
    by_cases e : col.toNat ≤ c ∧ c < col.toNat + xs.length
    · rw [if_pos e, if_pos (by omega), ht2 _ (by omega)]
      congr 2; omega
    · rw [if_neg e, if_neg (by omega)]
      have := hS.2.2 row.toNat c (by omega) hc
      rw [hr] at this
      exact this
  · rw [hR, if_neg (by omega)]
theorem same_at {wd ht : Nat} {row : Int} {rows : List (List Cell)} {f : List Int → Int × Int} (hS : Same wd ht rows f) (h0 : 0 ≤ row) (h1 : row < ht) : ∃ r, rows[row.toNat]? = some r ∧ r.length = wd := by
  have : row.toNat < rows.length := by rw [hS.1]; omega
  exact ⟨rows[row.toNat], List.getElem?_eq_getElem this, hS.2.1 _ (List.getElem_mem this)⟩
theorem mem5 {α : Type} {p a b c d g : α} {l R : List α} (h : p ∈ ([a, b] ++ c :: l) ++ R) : p ∈ a :: b :: d :: g :: c :: (l ++ R) := by
  simp only [List.cons_append, List.nil_append, List.mem_cons, List.mem_append] at h ⊢
  rcases h with h | h | h | h | h <;> simp [h]
theorem mem5r {α : Type} {p a b c : α} {l R : List α} (h : p ∈ c :: (l ++ R)) : p ∈ ([a, b] ++ c :: l) ++ R := by
  simp only [List.cons_append, List.nil_append, List.mem_cons, List.mem_append] at h ⊢
  rcases h with h | h | h <;> simp [h]
theorem CellV.ref {l : Led} {v : Value} {c : Int × Int} (h : CellV l v c) : ∃ a, v = .ref a := by
  rcases h with ⟨h, _⟩ | ⟨a, _, _, _, h, _⟩
  · exact ⟨_, h⟩
  · exact ⟨a, h⟩
section
variable {α : Type} {a b c r x l nc : List α} {y s d o q e g t : α}
theorem mmA : ∀ p ∈ a ++ (b ++ r), p ∈ (a ++ (x ++ y :: (c ++ b))) ++ r := fun p h => by
  simp only [List.mem_append, List.mem_cons] at h ⊢
  rcases h with h | h | h <;> simp [h]
theorem mmB : ∀ p ∈ c ++ (b ++ r), p ∈ (a ++ (x ++ y :: (c ++ b))) ++ r := fun p h => by
  simp only [List.mem_append, List.mem_cons] at h ⊢
  rcases h with h | h | h <;> simp [h]
theorem mmR : ∀ p ∈ r, p ∈ a ++ r := fun _ h => List.mem_append_right _ h
theorem mmN : ∀ p ∈ e :: s :: d :: g :: ((nc ++ ([o, q] ++ t :: l)) ++ r), p ∈ s :: d :: (nc ++ (o :: q :: e :: g :: t :: (l ++ r))) := fun p h => by
  simp only [List.cons_append, List.nil_append, List.mem_append, List.mem_cons] at h ⊢
  rcases h with h | h | h | h | (h | h | h | h | h) | h <;> simp [h]
theorem mmM : ∀ p ∈ nc ++ r, p ∈ (nc ++ ([o, q] ++ t :: l)) ++ r := fun p h => by
  simp only [List.mem_append] at h ⊢
  rcases h with h | h <;> simp [h]
theorem mmV : ∀ p ∈ l ++ q :: r, p ∈ (nc ++ ([o, q] ++ t :: l)) ++ r := fun p h => by
  simp only [List.cons_append, List.nil_append, List.mem_append, List.mem_cons] at h ⊢
  rcases h with h | h | h <;> simp [h]
end
def handRow (i k : Nat) : List Cell := [if k < i then (65 + (k : Int), 0) else (32, 0)]
def handRows (i : Nat) : List (List Cell) := [handRow i 0, handRow i 1, handRow i 2, handRow i 3]
inductive HandP (w : World) (sx sdx dR : Addr) (i : Nat) (nx : Led) : Prop
  | mk (ua ub uc ud ue uf : Tok) (wr : Int) (cv : Value) (rs : List Value) (n : Nat) (new : Led) (h0 : nx = (sdx, scrD w ua ub uc ud ue uf 1 wr (.ref dR) cv) :: (dR, W.listOf rs.toArray n) :: new) (h1 : (sx, instObj 75 sdx) ∈ new) (h2 : OwnOff new [sdx, dR]) (h3 : All2 (RowV new) rs (handRows i)) : HandP w sx sdx dR i nx
theorem hand_get {i : Nat} (h : i < 4) : (handRows i)[((0 : Int) + (i : Int)).toNat]? = some (handRow i i) := by
  have : i = 0 ∨ i = 1 ∨ i = 2 ∨ i = 3 := by omega
  rcases this with rfl | rfl | rfl | rfl <;> rfl
theorem hand_set {i : Nat} (h : i < 4) : (handRows i).set ((0 : Int) + (i : Int)).toNat (putRow (handRow i i) (0 : Int).toNat [(65 + (0 + (i : Int)), 0)]) = handRows (i + 1) := by
  have : i = 0 ∨ i = 1 ∨ i = 2 ∨ i = 3 := by omega
  rcases this with rfl | rfl | rfl | rfl <;> rfl
local macro_rules | `(tactic| walk_at "exec Assign cons ListComp") => `(tactic| refine hold ?_)
local macro_rules | `(tactic| walk_at "setItem ref ref ref") => `(tactic| refine hold ?_)
local macro_rules | `(tactic| walk_at "subscriptTail Name Tuple ref ref") => `(tactic| refine hold ?_)
local macro_rules | `(tactic| walk_at "call builtin:dict.update") => `(tactic| refine hold ?_)
local macro_rules | `(tactic| walk_at "eval ListComp") => `(tactic| refine hold ?_)
local macro_rules | `(tactic| walk_at "MidP") => `(tactic| refine hold ?_)
local macro_rules | `(tactic| walk_at "CompEnd") => `(tactic| refine hold ?_)
local macro_rules | `(tactic| walk_at "SrcC") => `(tactic| refine hold ?_)
local macro_rules | `(tactic| walk_at "compareOp NotEq ref ref") => `(tactic| refine hold ?_)
local macro_rules | `(tactic| walk_at "SrcTup") => `(tactic| refine hold ?_)
local macro_rules | `(tactic| walk_at "subscriptTail Subscript Name Constant Constant ref int") => `(tactic| refine hold ?_)
local macro_rules | `(tactic| walk_at "getMethod ref") => `(tactic| ((with_reducible show wpAny _ _ (getMethod (Value.ref _) (Str.ofString "update") _) _ _ _); refine hold ?_))
set_option maxHeartbeats 400000000 in
theorem law_holds : PySem.Challenge.rw_ok0039_01.Holds := by
  refine hd ?_
  k_go0
  generalize hGP : GoodW _ _ _ _ _ = GP
  k_steps
  unfold Hold
  rename_i w s₀ s₁ mg mb G0 Y0 fa fo pm doc ho hg KX X9 V9 GL9 T B9 TE TW w12 w11 M9 w10 w9 hcd ns hs9 hlay0 hL9 hr9 hl29 w7 w6 sl svs w3 hl ra w1 r0 hi hr8 hns hc9 K0 hD h₁ tk₁ F o3 o2 o1 d3 d2 d1 N0 X0
  have K : Below callerA s₁.heap [] s₁.heap := K0
  clear K0
  have hr1 : (callerA.depth : Nat) + 20 < recursionLimit := by decide
  have hr2 : (callerA.units : Nat) + 300 < cLine := by decide
  generalize hLa : s₁.heap.objs.size = La at *
  refine' deck_spec (base := s₁.heap) (h₀ := s₁.heap) (news := [(La + 1 + 1 + 1, o3), (La + 1 + 1, o2), (La + 1, o1)]) K F KX T rfl N0 hl hi (by omega) (by decide) ?_
  intro dd vs ms nn h2 tk2 F2 N2 hne2 hI2 hD2
  clear F N0
  generalize hm0 : bindL _ _ _ = m0 at *
  clear hm0
  dsimp only
  k_steps
  rename_i h3 o1' F3 N3 e1
  unfold Hold
  have q3 : @Ne Nat (La + 1 + 1 + 1) dd := hne2 _ (.head _)
  have q2 : @Ne Nat (La + 1 + 1) dd := hne2 _ (.tail _ (.head _))
  have q1 : @Ne Nat (La + 1) dd := hne2 _ (.tail _ (.tail _ (.head _)))
  have q3' : @Ne Nat dd (La + 1 + 1 + 1) := Ne.symm q3
  have q2' : @Ne Nat dd (La + 1 + 1) := Ne.symm q2
  have q1' : @Ne Nat dd (La + 1) := Ne.symm q1
  have hof : ∀ a b c : Obj, OwnOff [(La + 1 + 1 + 1, a), (La + 1 + 1, b), (La + 1, c)] [dd] := fun a b c => List.forall_mem_cons.mpr ⟨fun d hd => by rw [List.mem_singleton.mp hd]; exact q3, List.forall_mem_cons.mpr ⟨fun d hd => by rw [List.mem_singleton.mp hd]; exact q2, List.forall_mem_cons.mpr ⟨fun d hd => by rw [List.mem_singleton.mp hd]; exact q1, List.forall_mem_nil _⟩⟩⟩
  refine' draw_spec (base := s₁.heap) (h₀ := s₁.heap) (rest := [(La + 1 + 1 + 1, o3), (La + 1 + 1, o2), (La + 1, o1')]) K F3 KX T rfl (News.sub N3 (by repeat' (first | exact List.forall_mem_nil _ | exact fun _ h => h | (refine List.forall_mem_cons.mpr ⟨?_, ?_⟩; focus (k_mem)) | (refine List.forall_mem_append.mpr ⟨?_, ?_⟩) | (intro p9 h9; k_mem)))) (hof _ _ _) hI2 hD2 (by omega) (by omega) (by decide) ?_
  intro wd0 tw vs4 ms4 n4 h4 tk4 F4 N4 hI4 hD4 hw0 hw1
  clear F3 N3 hI2 hD2
  dsimp only
  k_steps

  unfold Hold
  refine' draw_spec (base := s₁.heap) (h₀ := s₁.heap) (rest := [(La + 1 + 1 + 1, o3), (La + 1 + 1, o2), (La + 1, o1')]) K F4 KX T rfl N4 (hof _ _ _) hI4 hD4 (by omega) (by omega) (by decide) ?_
  intro ht0 th vs6 ms6 n6 h6 tk6 F6 N6 hI6 hD6 hh0 hh1
  clear F4 N4 hI4 hD4
  dsimp only
  k_steps
  rename_i D1 z1 l1 z2 z3 o2' e2 z4 F7 N7
  unfold Hold
  refine' screen_spec (base := s₁.heap) (h₀ := s₁.heap) (news := [(dd, W.listOf vs6.toArray n6), (La + 1 + 1 + 1, o3), (La + 1 + 1, o2'), (La + 1, o1')]) K F7 KX T rfl (News.sub N7 (by repeat' (first | exact List.forall_mem_nil _ | exact fun _ h => h | (refine List.forall_mem_cons.mpr ⟨?_, ?_⟩; focus (k_mem)) | (refine List.forall_mem_append.mpr ⟨?_, ?_⟩) | (intro p9 h9; k_mem)))) (by omega) (by omega) (by omega) (by omega) (by decide) ?_
  intro sx sdx dR rs cv ua ub uc ud ue uf n8 newS h8 tk8 F8 N8 hOS hsx hoS hne8 hcv8 hrows8
  clear F7 N7
  dsimp only
  k_steps
  unfold Hold
  refine' grid_spec (base := s₁.heap) (h₀ := s₁.heap) (news := (sdx, scrD w ua ub uc ud ue uf (1 + wd0) 0 (.ref dR) cv) :: (dR, W.listOf rs.toArray n8) :: (newS ++ [(dd, W.listOf vs6.toArray n6), (La + 1 + 1 + 1, o3), (La + 1 + 1, o2'), (La + 1, o1')])) K F8 KX T rfl N8 (by omega) (by omega) (by omega) (by omega) (by decide) (by decide) ?_
  intro dG oG newG h9 tk9 F9 N9 hOG hoG VG
  clear F8 N8
  have gd : ∀ p ∈ newG, p.1 ≠ dd := fun p hp => hOG p (.tail _ hp) (dd, W.listOf vs6.toArray n6) (by k_mem)
  have gs : ∀ p ∈ newG, p.1 ≠ sdx := fun p hp => hOG p (.tail _ hp) _ (.head _)
  have gr : ∀ p ∈ newG, p.1 ≠ dR := fun p hp => hOG p (.tail _ hp) _ (.tail _ (.head _))
  have g3 : ∀ p ∈ newG, p.1 ≠ La + 1 + 1 + 1 := fun p hp => hOG p (.tail _ hp) (La + 1 + 1 + 1, o3) (by k_mem)
  have g2 : ∀ p ∈ newG, p.1 ≠ La + 1 + 1 := fun p hp => hOG p (.tail _ hp) (La + 1 + 1, o2') (by k_mem)
  have g1 : ∀ p ∈ newG, p.1 ≠ La + 1 := fun p hp => hOG p (.tail _ hp) (La + 1, o1') (by k_mem)
  have sd : ∀ p ∈ newS, p.1 ≠ dd := fun p hp => hOS p (.tail _ (.tail _ hp)) _ (.head _)
  have s3 : ∀ p ∈ newS, p.1 ≠ La + 1 + 1 + 1 := fun p hp => hOS p (.tail _ (.tail _ hp)) _ (.tail _ (.head _))
  have s2 : ∀ p ∈ newS, p.1 ≠ La + 1 + 1 := fun p hp => hOS p (.tail _ (.tail _ hp)) _ (.tail _ (.tail _ (.head _)))
  have s1 : ∀ p ∈ newS, p.1 ≠ La + 1 := fun p hp => hOS p (.tail _ (.tail _ hp)) _ (.tail _ (.tail _ (.tail _ (.head _))))
  have sG : ∀ p ∈ newS, p.1 ≠ dG := fun p hp => Ne.symm (hOG _ (.head _) p (by k_mem))
  have ssd : ∀ p ∈ newS, p.1 ≠ sdx := fun p hp => hoS p hp _ (.head _)
  have srd : ∀ p ∈ newS, p.1 ≠ dR := fun p hp => hoS p hp _ (.tail _ (.head _))
  have e12 : @Ne Nat sdx dd := hOS _ (.head _) _ (.head _)
  have e13 : @Ne Nat dR dd := hOS _ (.tail _ (.head _)) _ (.head _)
  have e14 : @Ne Nat dG dd := hOG _ (.head _) (dd, W.listOf vs6.toArray n6) (by k_mem)
  have e23 : @Ne Nat dG sdx := hOG _ (.head _) _ (.head _)
  have e24 : @Ne Nat dG dR := hOG _ (.head _) _ (.tail _ (.head _))
  have c31 : @Ne Nat sdx (La + 1 + 1 + 1) := hOS _ (.head _) _ (.tail _ (.head _))
  have c21 : @Ne Nat sdx (La + 1 + 1) := hOS _ (.head _) _ (.tail _ (.tail _ (.head _)))
  have c11 : @Ne Nat sdx (La + 1) := hOS _ (.head _) _ (.tail _ (.tail _ (.tail _ (.head _))))
  have c32 : @Ne Nat dR (La + 1 + 1 + 1) := hOS _ (.tail _ (.head _)) _ (.tail _ (.head _))
  have c22 : @Ne Nat dR (La + 1 + 1) := hOS _ (.tail _ (.head _)) _ (.tail _ (.tail _ (.head _)))
  have c12 : @Ne Nat dR (La + 1) := hOS _ (.tail _ (.head _)) _ (.tail _ (.tail _ (.tail _ (.head _))))
  have c33 : @Ne Nat dG (La + 1 + 1 + 1) := hOG _ (.head _) (La + 1 + 1 + 1, o3) (by k_mem)
  have c23 : @Ne Nat dG (La + 1 + 1) := hOG _ (.head _) (La + 1 + 1, o2') (by k_mem)
  have c13 : @Ne Nat dG (La + 1) := hOG _ (.head _) (La + 1, o1') (by k_mem)
  have oT : OwnOff (newG ++ newS) [dd, sdx, dR, dG, La + 1 + 1 + 1, La + 1 + 1, La + 1] := ownOff_cons (ap2 gd sd) (ownOff_cons (ap2 gs ssd) (ownOff_cons (ap2 gr srd) (ownOff_cons (ap2 hoG sG) (ownOff_cons (ap2 g3 s3) (ownOff_cons (ap2 g2 s2) (ownOff_cons (ap2 g1 s1) ownOff_nil))))))
  have N9' : News s₁.heap La h9 ((dd, W.listOf vs6.toArray n6) :: (sdx, scrD w ua ub uc ud ue uf (1 + wd0) 0 (.ref dR) cv) :: (dR, W.listOf rs.toArray n8) :: (dG, oG) :: (La + 1 + 1 + 1, o3) :: (La + 1 + 1, o2') :: (La + 1, o1') :: (newG ++ newS)) := News.sub N9 (by repeat' (first | exact List.forall_mem_nil _ | exact fun _ h => h | (refine List.forall_mem_cons.mpr ⟨?_, ?_⟩; focus (k_mem)) | (refine List.forall_mem_append.mpr ⟨?_, ?_⟩) | (intro p9 h9; k_mem)))
  clear N9 hOG hOS gd gs gr g3 g2 g1 sd s3 s2 s1 sG ssd srd hof
  dsimp only
  k_steps
  rename_i D2 z5 l2 D3 z6 l3 z7 z8 z9 o3' e3 z10 z11 FA NA
  unfold Hold
  obtain ⟨T', hT⟩ : ∃ T', T' = (D3, tupOf [Value.ref sx, Value.ref dG, Value.ref D2, Value.int 0 (tk9 + 1 + 1)] 0) :: (D2, tupOf [Value.int 0 tk9, Value.int 0 (tk9 + 1)] 0) :: (La + 1 + 1 + 1, o3') :: (La + 1 + 1, o2') :: (La + 1, o1') :: (newG ++ newS) := ⟨_, rfl⟩
  have NB : News s₁.heap La z11 ((dd, W.listOf vs6.toArray n6) :: (sdx, scrD w ua ub uc ud ue uf (1 + wd0) 0 (.ref dR) cv) :: (dR, W.listOf rs.toArray n8) :: (dG, oG) :: T') := by rw [hT]; exact News.sub NA (by repeat' (first | exact List.forall_mem_nil _ | exact fun _ h => h | (refine List.forall_mem_cons.mpr ⟨?_, ?_⟩; focus (k_mem)) | (refine List.forall_mem_append.mpr ⟨?_, ?_⟩) | (intro p9 h9; k_mem)))
  have m3 := l3.2
  have oT' : OwnOff T' [dd, sdx, dR, dG] := by
    rw [hT]
    refine List.forall_mem_cons.mpr ⟨?_, List.forall_mem_cons.mpr ⟨?_, List.forall_mem_cons.mpr ⟨?_, List.forall_mem_cons.mpr ⟨?_, List.forall_mem_cons.mpr ⟨?_, fun p hp a ha => oT p hp a ?_⟩⟩⟩⟩⟩
    · simp only [List.forall_mem_cons, List.forall_mem_nil, and_true]
      exact ⟨Nat.ne_of_gt l3.2.1, Nat.ne_of_gt l3.2.2.1, Nat.ne_of_gt l3.2.2.2.1, Nat.ne_of_gt l3.2.2.2.2.1, fun _ h => nomatch h⟩
    · simp only [List.forall_mem_cons, List.forall_mem_nil, and_true]
      exact ⟨Nat.ne_of_gt l2.1, Nat.ne_of_gt l2.2.1, Nat.ne_of_gt l2.2.2.1, Nat.ne_of_gt l2.2.2.2.1, fun _ h => nomatch h⟩
    · simp only [List.forall_mem_cons, List.forall_mem_nil, and_true]
      exact ⟨q3, Ne.symm c31, Ne.symm c32, Ne.symm c33, fun _ h => nomatch h⟩
    · simp only [List.forall_mem_cons, List.forall_mem_nil, and_true]
      exact ⟨q2, Ne.symm c21, Ne.symm c22, Ne.symm c23, fun _ h => nomatch h⟩
    · simp only [List.forall_mem_cons, List.forall_mem_nil, and_true]
      exact ⟨q1, Ne.symm c11, Ne.symm c12, Ne.symm c13, fun _ h => nomatch h⟩
    · simp only [List.mem_cons, List.not_mem_nil, or_false] at ha ⊢
      rcases ha with h | h | h | h <;> simp [h]
  have t1 : (La + 1, o1') ∈ T' := by rw [hT]; k_mem
  have t2 : (La + 1 + 1, o2') ∈ T' := by rw [hT]; k_mem
  have t3 : (La + 1 + 1 + 1, o3') ∈ T' := by rw [hT]; k_mem
  have tsx : (sx, instObj 75 sdx) ∈ T' := by rw [hT]; k_mem
  have tS : ∀ p ∈ newS, p ∈ T' := by rw [hT]; repeat' (first | exact List.forall_mem_nil _ | exact fun _ h => h | (refine List.forall_mem_cons.mpr ⟨?_, ?_⟩; focus (k_mem)) | (refine List.forall_mem_append.mpr ⟨?_, ?_⟩) | (intro p9 h9; k_mem))
  have tG : ∀ p ∈ newG, p ∈ T' := by rw [hT]; repeat' (first | exact List.forall_mem_nil _ | exact fun _ h => h | (refine List.forall_mem_cons.mpr ⟨?_, ?_⟩; focus (k_mem)) | (refine List.forall_mem_append.mpr ⟨?_, ?_⟩) | (intro p9 h9; k_mem))
  have tC : CellV T' (.ref D2) (0, 0) := by rw [hT]; exact .inr ⟨D2, _, _, _, rfl, .tail _ (.head _)⟩
  have VT := VG.mono tG
  have rT := hrows8.mono fun _ _ x => x.mono tS
  have cT := hcv8.mono tS
  clear hT VG hrows8 hcv8 tS tG l1 l2 l3 m3 oT NA
  refine For_invVF FA rfl rfl ?_
  k_steps
  unfold Hold
  have oD : OwnOff ((sdx, scrD w ua ub uc ud ue uf (1 + wd0) 0 (.ref dR) cv) :: (dR, W.listOf rs.toArray n8) :: (dG, oG) :: T') [dd] := by
    refine List.forall_mem_cons.mpr ⟨?_, List.forall_mem_cons.mpr ⟨?_, List.forall_mem_cons.mpr ⟨?_, fun p hp a ha => oT' p hp a ?_⟩⟩⟩
    · intro d hd; rw [List.mem_singleton.mp hd]; exact e12
    · intro d hd; rw [List.mem_singleton.mp hd]; exact e13
    · intro d hd; rw [List.mem_singleton.mp hd]; exact e14
    · rw [List.mem_singleton.mp ha]; exact .head _
  refine' draw_spec (base := s₁.heap) (h₀ := s₁.heap) (rest := (sdx, scrD w ua ub uc ud ue uf (1 + wd0) 0 (.ref dR) cv) :: (dR, W.listOf rs.toArray n8) :: (dG, oG) :: T') K FA KX T rfl NB oD hI6 hD6 (by omega) (by omega) (by decide) ?_
  intro tn ttn vsB msB nB hB tkB FB NC hIB hDB htn0 htn1
  clear FA NB oD hI6 hD6
  dsimp only
  have hS0 : Same (1 + wd0).toNat (1 + ht0).toNat (List.replicate (1 + ht0).toNat (List.replicate (1 + wd0).toNat (32, 0))) (fun _ => (32, 0)) := same_start
  generalize hwd : 1 + wd0 = wd at *
  generalize hht : 1 + ht0 = ht at *
  have bw0 : 1 ≤ wd := by omega
  have bw1 : wd ≤ 7 := by omega
  have bh0 : 1 ≤ ht := by omega
  have bh1 : ht ≤ 6 := by omega
  clear hwd hht hw0 hw1 hh0 hh1
  k_steps

  unfold Hold
  dsimp only at *
  refine iter_rangeJ (n := (2 + tn - 0).toNat) (news := (dd, W.listOf vsB.toArray nB) :: (sdx, scrD w ua ub uc ud ue uf wd 0 (.ref dR) cv) :: (dR, W.listOf rs.toArray n8) :: (dG, oG) :: T') [Str.ofString "_law_way", Str.ofString "_law_row", Str.ofString "_law_column", Str.ofString "_law_cells", Str.ofString "_law_step", Str.ofString "_law_written", Str.ofString "_law_cursor", Str.ofString "_law_bottom", Str.ofString "_law_many", Str.ofString "_law_due"]
    (fun _ => LawP w (keysTo wd.toNat ht.toNat 0) dd sdx dG wd ht T') rfl (by assumption) (range_small (by omega) (by omega) (by omega) (by omega)) (range_size (by omega)) (by k_asm) (by k_asm)
    ⟨vsB, msB, nB, _, _, _, _, _, _, 0, dR, n8, cv, rs, oG, _, _, [], .ref D2, _, (0, 0), rfl, hIB, hDB, oT', ⟨e13, Ne.symm hne8, Ne.symm e24⟩, rT, VT, hS0, cT, rfl, tC, rfl, Off.nil⟩ ?_ ?_
  · clear oT' tC VT rT cT hS0 e24 e13 hIB hDB
    intro iT tT uT nxT hT0 tkT own hi9 hown hjk hP FT NT
    w_top off
    refine anyInv ?_
    intro Q0
    obtain ⟨vsA, msA, nA, xa, xb, xc, xd, xe, xf, wr, dS, nS, cvS, rsS, oH, rows, f, new, cvL, tL, cur, rfl, hIA, hDA, oA, ⟨f1, f2, f3⟩, hrowsA, VA, hSame, hcvS, hcvL, hcl, hwl, hONT⟩ := hP
    rw [fr_two hcvL hwl (by decide) (by decide)] at FT
    simp only [List.cons_append] at NT
    clear hcvL hwl d3 d2 d1 X0 hne2 c31 c21 c11 c32 c22 c12 c33 c23 c13 hoG hsx hoS hne8 hi hl ra r0 hns hL9 hs9 hr8 w1
    obtain ⟨mT, hmT, FT⟩ : ∃ mT, mT = _ ∧ Fr s₁.heap La hT0 mT := ⟨_, rfl, FT⟩
    have FT0 := FT
    rw [hmT] at FT0
    clear FT
    have FT := FT0
    obtain ⟨R, hR⟩ : ∃ R, R = new ++ T' ++ own := ⟨_, rfl⟩
    have oR : OwnOff R [dd, sdx, dS, dG] := by
      rw [hR]
      refine ownOff_append oA fun p hp a ha => hown p hp a ?_
      simp only [List.map_cons, List.mem_cons, List.not_mem_nil, or_false] at ha ⊢
      rcases ha with h | h | h | h <;> simp [h]
    have hwd7 : wd.toNat ≤ 7 := by omega
    have hht6 : ht.toNat ≤ 6 := by omega
    have hrows6 : rows.length ≤ 6 := hSame.1 ▸ hht6
    have sR : ∀ p ∈ new ++ T', p ∈ R := by rw [hR]; repeat' (first | exact List.forall_mem_nil _ | exact fun _ h => h | (refine List.forall_mem_cons.mpr ⟨?_, ?_⟩; focus (k_mem)) | (refine List.forall_mem_append.mpr ⟨?_, ?_⟩) | (intro p9 h9; k_mem))
    have hrowsR := hrowsA.mono fun _ _ x => x.mono sR
    have VR := VA.mono sR
    have hcR := hcvS.mono sR
    have hcL := hcl.mono sR
    have t1R := sR _ (List.mem_append_right _ t1)
    have t2R := sR _ (List.mem_append_right _ t2)
    have t3R := sR _ (List.mem_append_right _ t3)
    have tsR := sR _ (List.mem_append_right _ tsx)
    have hownR : ∀ p ∈ own, p ∈ R := by rw [hR]; repeat' (first | exact List.forall_mem_nil _ | exact fun _ h => h | (refine List.forall_mem_cons.mpr ⟨?_, ?_⟩; focus (k_mem)) | (refine List.forall_mem_append.mpr ⟨?_, ?_⟩) | (intro p9 h9; k_mem))
    rw [← hR] at NT
    have oD : ∀ sO rO gO, OwnOff ((sdx, sO) :: (dS, rO) :: (dG, gO) :: R) [dd] := fun sO rO gO => List.forall_mem_cons.mpr ⟨fun d hd => by rw [List.mem_singleton.mp hd]; exact e12, List.forall_mem_cons.mpr ⟨fun d hd => by rw [List.mem_singleton.mp hd]; exact f1, List.forall_mem_cons.mpr ⟨fun d hd => by rw [List.mem_singleton.mp hd]; exact e14, fun p hp a ha => oR p hp a (by rw [List.mem_singleton.mp ha]; exact .head _)⟩⟩⟩
    k_steps
    unfold Hold
    refine' draw_spec (base := s₁.heap) (h₀ := s₁.heap) K FT KX T rfl NT (oD _ _ _) hIA hDA (by omega) (by omega) (by decide) ?_
    clear FT NT hIA hDA
    intro way tway vs1 ms1 n1 hp1 tk1 F1 N1 hI1 hD1 way0 way1
    dsimp only
    k_steps
    unfold Hold
    refine' draw_spec (base := s₁.heap) (h₀ := s₁.heap) K F1 KX T rfl N1 (oD _ _ _) hI1 hD1 (by omega) (by omega) (by decide) ?_
    clear F1 N1 hI1 hD1
    intro row trow vs2 ms2 n2 hp2 tk3 F2 N2 hI2 hD2 row0 row1
    dsimp only
    k_steps
    unfold Hold
    refine' draw_spec (base := s₁.heap) (h₀ := s₁.heap) K F2 KX T rfl N2 (oD _ _ _) hI2 hD2 (by omega) (by omega) (by decide) ?_
    clear F2 N2 hI2 hD2
    intro col tcol vs3 ms3 n3 hp3 tk5 F3 N3 hI3 hD3 col0 col1
    dsimp only
    repeat' ((fail_if_success (with_reducible show wpAny _ _ (exec (Stmt.If _ _ _ _) _) _ _ _)); (first | (k_unfold; (try dsimp only)) | ((try dsimp only); walk1) | (leave1; (try dsimp only))))
    have row1' : row < (ht.toNat : Int) := by omega
    have col1' : col < (wd.toNat : Int) := by omega
    rename_i DQ zq1 lQ zq2 zq3 zq4 zq5 FQ NQ
    refine to_mid (P := MidP w (keysTo wd.toNat ht.toNat 0) dd sdx dG wd ht R s₁.heap La mT [Str.ofString "_law_way", Str.ofString "_law_row", Str.ofString "_law_column", Str.ofString "_law_cells", Str.ofString "_law_step", Str.ofString "_law_written", Str.ofString "_law_cursor", Str.ofString "_law_bottom", Str.ofString "_law_many"]) ?_ ?_
    · w_top off
      k_steps
      · w_top off
        unfold Hold
        have oX : ∀ sO rO gO, OwnOff ((DQ, tupOf [.int way tway, .int row trow, .int col tcol] 0) :: (sdx, sO) :: (dS, rO) :: (dG, gO) :: R) [dd] := fun sO rO gO => List.forall_mem_cons.mpr ⟨fun d hd => by rw [List.mem_singleton.mp hd]; exact Nat.ne_of_gt lQ.1, oD sO rO gO⟩
        obtain ⟨r0, hr0, hr1'⟩ := same_at hSame row0 row1'
        k_dflt (refine LCg.Assign_ListComp_U (F₀ := by k_asm) (by rfl) (by with_unfolding_all rfl) (by rfl) (by decide) (by rfl) (by decide) (by rfl) (by rfl) (by rfl) ?_)
        k_steps
        unfold Hold
        refine' draw_spec (base := s₁.heap) (h₀ := s₁.heap) K FQ KX T rfl (News.sub (b := (dd, W.listOf vs3.toArray n3) :: (DQ, tupOf [.int way tway, .int row trow, .int col tcol] 0) :: (sdx, scrD w xa xb xc xd xe xf wd wr (.ref dS) cvS) :: (dS, W.listOf rsS.toArray nS) :: (dG, oH) :: R) NQ (by repeat' (first | exact List.forall_mem_nil _ | exact fun _ h => h | (refine List.forall_mem_cons.mpr ⟨?_, ?_⟩; focus (k_mem)) | (refine List.forall_mem_append.mpr ⟨?_, ?_⟩) | (intro p9 h9; k_mem)))) (oX _ _ _) hI3 hD3 (by omega) (by omega) (by decide) ?_
        intro cn tcn vs5 ms5 n5 hp5 tk7 F5 N5 hI5 hD5 cn0 cn1
        clear FQ NQ hI3 hD3
        dsimp only
        k_steps
        unfold Hold
        rename_i y1 tk8 y2 y3 y4 y5 F1 N1 I1
        dsimp only at y5 I1
        have ob : ∀ p ∈ (DQ, tupOf [.int way tway, .int row trow, .int col tcol] 0) :: (sdx, scrD w xa xb xc xd xe xf wd wr (.ref dS) cvS) :: (dS, W.listOf rsS.toArray nS) :: (dG, oH) :: R, p.1 ≠ dd := fun p hp => oX _ _ _ p hp dd (.head _)
        refine LCg.CompSrc.range (n := cn.toNat) (by rfl) F1 N1 (by assumption) (range_small (by omega) (by omega) (by omega) (by omega)) (by rw [range_size (by omega), Int.sub_zero]) (by rw [sizeLine_eq]; omega) ?_
        intro g₁
        refine compRest_inv cn.toNat (fun i ys nw => ∃ vs ms n xs new, nw = (dd, W.listOf vs.toArray n) :: (new ++ ((DQ, tupOf [.int way tway, .int row trow, .int col tcol] 0) :: (sdx, scrD w xa xb xc xd xe xf wd wr (.ref dS) cvS) :: (dS, W.listOf rsS.toArray nS) :: (dG, oH) :: R)) ∧ IntsAre vs ms ∧ Deck ms ∧ All2 (CellV new) ys xs ∧ Off new ((DQ, tupOf [.int way tway, .int row trow, .int col tcol] 0) :: (sdx, scrD w xa xb xc xd xe xf wd wr (.ref dS) cvS) :: (dS, W.listOf rsS.toArray nS) :: (dG, oH) :: R) ∧ (∀ p ∈ new, p.1 ≠ dd) ∧ ys.length = i) ?_ ?_ _ 0 [] _ (by omega) ⟨vs5, ms5, n5, [], [], rfl, hI5, hD5, .nil, Off.nil, List.forall_mem_nil _, rfl⟩
        · rintro ys nw ⟨vs8, ms8, n8, xs, new8, rfl, hI8, hD8, ha, ho, hd, hl⟩
          unfold LCg.FinA
          intro D h tk F2 N2 o2
          dsimp only
          k_steps
          unfold Hold
          refine For_invVF F2 rfl rfl ?_
          k_steps
          unfold Hold
          rename_i y6 tk9 y7 y8 y9 y10 F3 N3 I3
          dsimp only at *
          have hbX : ∀ p ∈ (DQ, tupOf [.int way tway, .int row trow, .int col tcol] 0) :: (sdx, scrD w xa xb xc xd xe xf wd wr (.ref dS) cvS) :: (dS, W.listOf rsS.toArray nS) :: (dG, oH) :: R, ∀ q ∈ new8, q.1 ≠ p.1 := fun p hp q hq => ho q hq p hp
          have o3 := off1_ne o2
          have hb2 : ∀ p ∈ (D, LCg.lst ys) :: (dd, W.listOf vs8.toArray n8) :: (new8 ++ ((DQ, tupOf [.int way tway, .int row trow, .int col tcol] 0) :: (sdx, scrD w xa xb xc xd xe xf wd wr (.ref dS) cvS) :: (dS, W.listOf rsS.toArray nS) :: R)), p.1 ≠ dG := List.forall_mem_cons.mpr ⟨Ne.symm (o3 (dG, oH) (by k_mem)), List.forall_mem_cons.mpr ⟨Ne.symm e14, ap2 (fun q hq => ho q hq (dG, oH) (by k_mem)) (List.forall_mem_cons.mpr ⟨Nat.ne_of_gt lQ.2.2.2.1, List.forall_mem_cons.mpr ⟨Ne.symm e23, List.forall_mem_cons.mpr ⟨f3, fun p hp => oR p hp dG (by simp)⟩⟩⟩)⟩⟩
          have hxl := ha.length
          refine iter_range (news := (dG, oH) :: ([] ++ ((D, LCg.lst ys) :: (dd, W.listOf vs8.toArray n8) :: (new8 ++ ((DQ, tupOf [.int way tway, .int row trow, .int col tcol] 0) :: (sdx, scrD w xa xb xc xd xe xf wd wr (.ref dS) cvS) :: (dS, W.listOf rsS.toArray nS) :: R))))) (n := ys.length) []
            (fun j _ nx => StepP w dG ((D, LCg.lst ys) :: (dd, W.listOf vs8.toArray n8) :: (new8 ++ ((DQ, tupOf [.int way tway, .int row trow, .int col tcol] 0) :: (sdx, scrD w xa xb xc xd xe xf wd wr (.ref dS) cvS) :: (dS, W.listOf rsS.toArray nS) :: R))) (new8 ++ R) (keysTo wd.toNat ht.toNat 0) row col (fun y => xs.getD (y - col).toNat (32, 0)) f j nx)
            rfl (by assumption) (range_small (by omega) (by omega) (by omega) (by omega)) (by rw [range_size (by omega)]; omega) (by k_asm) (News.sub (by k_asm) (by repeat' (first | exact List.forall_mem_nil _ | exact fun _ h => h | (refine List.forall_mem_cons.mpr ⟨?_, ?_⟩; focus (k_mem)) | (refine List.forall_mem_append.mpr ⟨?_, ?_⟩) | (intro p9 h9; k_mem)))) ⟨oH, f, [], rfl, VR.mono (by repeat' (first | exact List.forall_mem_nil _ | exact fun _ h => h | (refine List.forall_mem_cons.mpr ⟨?_, ?_⟩; focus (k_mem)) | (refine List.forall_mem_append.mpr ⟨?_, ?_⟩) | (intro p9 h9; k_mem))), Run.zero, Off.nil, List.forall_mem_nil _⟩ ?_ ?_
          · rintro j tj uj nx hj tkj own2 hjw hown2 ⟨o, f2', new2, rfl, VM, hRun, hO, hne⟩ F4 N4
            refine anyInv ?_
            intro Q1
            simp only [List.cons_append] at N4
            obtain ⟨v, hv⟩ : ∃ v, ys[(0 + (j : Int)).toNat]? = some v := ⟨_, List.getElem?_eq_getElem (by omega)⟩
            obtain ⟨c, hc, hcv⟩ := ha.get' _ _ hv
            obtain ⟨av, rfl⟩ := hcv.ref
            have ez : col + (0 + (j : Int)) = col + (j : Int) := by omega
            k_steps
            unfold Hold
            rename_i D1 q1 F6 N6 l1'
            have m1 := ktn_ltOf l1'.2
            have hn1 : ∀ p ∈ (D1, tupOf [.int row trow, .int (col + (0 + (j : Int))) tkj] 0) :: new2, p.1 ≠ dG := List.forall_mem_cons.mpr ⟨Nat.ne_of_gt l1'.1, hne⟩
            have hd2 : ∀ p ∈ ((D1, tupOf [.int row trow, .int (col + (0 + (j : Int))) tkj] 0) :: new2) ++ ((D, LCg.lst ys) :: (dd, W.listOf vs8.toArray n8) :: (new8 ++ ((DQ, tupOf [.int way tway, .int row trow, .int col tcol] 0) :: (sdx, scrD w xa xb xc xd xe xf wd wr (.ref dS) cvS) :: (dS, W.listOf rsS.toArray nS) :: R))) ++ own2, p.1 ≠ dG := fun p hp => (List.mem_append.mp hp).elim (ap2 hn1 hb2 p) fun z => hown2 p z dG (List.mem_map.mpr ⟨_, .head _, rfl⟩)
            have hw2 : OwnOff own2 (((dG, o) :: (((D1, tupOf [.int row trow, .int (col + (0 + (j : Int))) tkj] 0) :: new2) ++ ((D, LCg.lst ys) :: (dd, W.listOf vs8.toArray n8) :: (new8 ++ ((DQ, tupOf [.int way tway, .int row trow, .int col tcol] 0) :: (sdx, scrD w xa xb xc xd xe xf wd wr (.ref dS) cvS) :: (dS, W.listOf rsS.toArray nS) :: R))))).map (·.1)) := ownOff_map fun p hp => List.forall_mem_cons.mpr ⟨ownOff_unmap hown2 p hp _ (.head _), List.forall_mem_cons.mpr ⟨Nat.ne_of_lt (m1 p (List.mem_append_right _ hp)), fun q hq => ownOff_unmap hown2 p hp q (.tail _ hq)⟩⟩
            refine grid_set (o := o) (k := [row, col + (j : Int)]) (c := c) (v := .ref av) (rest := ((D1, tupOf [.int row trow, .int (col + (0 + (j : Int))) tkj] 0) :: new2) ++ (new8 ++ R)) (news := ((D1, tupOf [.int row trow, .int (col + (0 + (j : Int))) tkj] 0) :: new2) ++ ((D, LCg.lst ys) :: (dd, W.listOf vs8.toArray n8) :: (new8 ++ ((DQ, tupOf [.int way tway, .int row trow, .int col tcol] 0) :: (sdx, scrD w xa xb xc xd xe xf wd wr (.ref dS) cvS) :: (dS, W.listOf rsS.toArray nS) :: R))) ++ own2) (by show callerA.units + 3 + 1 < cLine; decide) (by assumption) (News.sub (by assumption) (by repeat' (first | exact List.forall_mem_nil _ | exact fun _ h => h | (refine List.forall_mem_cons.mpr ⟨?_, ?_⟩; focus (k_mem)) | (refine List.forall_mem_append.mpr ⟨?_, ?_⟩) | (intro p9 h9; k_mem)))) hd2 (VM.mono (by repeat' (first | exact List.forall_mem_nil _ | exact fun _ h => h | (refine List.forall_mem_cons.mpr ⟨?_, ?_⟩; focus (k_mem)) | (refine List.forall_mem_append.mpr ⟨?_, ?_⟩) | (intro p9 h9; k_mem)))) (by repeat' (first | exact List.forall_mem_nil _ | exact fun _ h => h | (refine List.forall_mem_cons.mpr ⟨?_, ?_⟩; focus (k_mem)) | (refine List.forall_mem_append.mpr ⟨?_, ?_⟩) | (intro p9 h9; k_mem))) (.head _) (by rw [← ez]; exact key_of _ _ _ _ _) (hcv.mono (by repeat' (first | exact List.forall_mem_nil _ | exact fun _ h => h | (refine List.forall_mem_cons.mpr ⟨?_, ?_⟩; focus (k_mem)) | (refine List.forall_mem_append.mpr ⟨?_, ?_⟩) | (intro p9 h9; k_mem)))) ?_ ?_
            · rw [keysTo_len]
              have : ht.toNat * wd.toNat ≤ 6 * 7 := Nat.mul_le_mul hht6 hwd7
              omega
            · intro o9 h9 F9 N9 V9
              rw [if_pos (keysTo_in row0 row1' (by omega) (by omega))] at V9
              dsimp only
              k_steps
              unfold Hold
              dsimp only [InvPostG]
              refine InvEndG.intro (by assumption) (by assumption) (nx := (dG, o9) :: (((D1, tupOf [.int row trow, .int (col + (0 + (j : Int))) tkj] 0) :: new2) ++ ((D, LCg.lst ys) :: (dd, W.listOf vs8.toArray n8) :: (new8 ++ ((DQ, tupOf [.int way tway, .int row trow, .int col tcol] 0) :: (sdx, scrD w xa xb xc xd xe xf wd wr (.ref dS) cvS) :: (dS, W.listOf rsS.toArray nS) :: R))))) ⟨⟨o9, _, (D1, tupOf [.int row trow, .int (col + (0 + (j : Int))) tkj] 0) :: new2, rfl, V9, hRun.step ?cc, Off.cons hO fun q hq => Nat.ne_of_lt (m1 q (List.mem_append_left _ (List.mem_append_right _ hq))), hn1⟩, ?_⟩ hw2 (by repeat' (first | exact List.forall_mem_nil _ | exact fun _ h => h | (refine List.forall_mem_cons.mpr ⟨?_, ?_⟩; focus (k_mem)) | (refine List.forall_mem_append.mpr ⟨?_, ?_⟩) | (intro p9 h9; k_mem))) (by repeat' (first | exact List.forall_mem_nil _ | exact fun _ h => h | (refine List.forall_mem_cons.mpr ⟨?_, ?_⟩; focus (k_mem)) | (refine List.forall_mem_append.mpr ⟨?_, ?_⟩) | (intro p9 h9; k_mem)))
              case cc =>
                rw [show (col + (j : Int) - col).toNat = (0 + (j : Int)).toNat by omega, List.getD_eq_getElem?_getD, hc]
                rfl
              intro z h1 h2
              simp only [h1, if_false]
              rfl
          · rintro u nx h tk10 ⟨o, f2', new2, rfl, VM, hRun, hO, hne⟩ F4 N4
            k_steps
            unfold Hold
            rename_i y20 TA y21 lA DO y22 FO NO lO
            have mO := ktn_ltOf lO.2.2
            have mA := ktn_ltOf lA.2
            have hd8 : OwnOff new8 [dd, sdx, dS, dG] := ownOff4 hd (fun p hp => ho p hp (_, scrD w xa xb xc xd xe xf wd wr (.ref dS) cvS) (by k_mem)) (fun p hp => ho p hp (_, W.listOf rsS.toArray nS) (by k_mem)) (fun p hp => ho p hp (_, oH) (by k_mem))
            have hn2 : OwnOff new2 [dd, sdx, dS, dG] := ownOff4 (fun p hp => hO p hp (_, W.listOf vs8.toArray n8) (by k_mem)) (fun p hp => hO p hp (_, scrD w xa xb xc xd xe xf wd wr (.ref dS) cvS) (by k_mem)) (fun p hp => hO p hp (_, W.listOf rsS.toArray nS) (by k_mem)) hne
            have hxQ : OwnOff [(DO, tupOf [.str (Str.ofString "write") tk, .int row trow, .int col tcol, .ref TA] 0), (DQ, tupOf [.int way tway, .int row trow, .int col tcol] 0)] [dd, sdx, dS, dG] :=
              cons4 (mO (dd, W.listOf vs8.toArray n8) (by k_mem)) (mO (sdx, scrD w xa xb xc xd xe xf wd wr (.ref dS) cvS) (by k_mem)) (mO (dS, W.listOf rsS.toArray nS) (by k_mem)) lO.2.1 (cons4 lQ.1 lQ.2.1 lQ.2.2.1 lQ.2.2.2.1 fun _ h => nomatch h)
            have hxA : OwnOff ((TA, tupOf ys 0) :: (new2 ++ new8)) [dd, sdx, dS, dG] :=
              cons4 (mA (dd, W.listOf vs8.toArray n8) (by k_mem)) (mA (sdx, scrD w xa xb xc xd xe xf wd wr (.ref dS) cvS) (by k_mem)) (mA (dS, W.listOf rsS.toArray nS) (by k_mem)) lA.1 (ownOff_append hn2 hd8)
            have hall : OwnOff (([(DO, tupOf [.str (Str.ofString "write") tk, .int row trow, .int col tcol, .ref TA] 0), (DQ, tupOf [.int way tway, .int row trow, .int col tcol] 0)] ++ (TA, tupOf ys 0) :: (new2 ++ new8)) ++ R) [dd, sdx, dS, dG] := ownOff_append (ownOff_append hxQ hxA) oR
            have hOR : Off ([(DO, tupOf [.str (Str.ofString "write") tk, .int row trow, .int col tcol, .ref TA] 0), (DQ, tupOf [.int way tway, .int row trow, .int col tcol] 0)] ++ (TA, tupOf ys 0) :: (new2 ++ new8)) R := Off.append (Off.cons (offc lQ.2.2.2.2 Off.nil) fun q hq => Nat.ne_of_lt (mO q (by k_mem))) (Off.cons (Off.append (hO.sub (fun _ h => h) fun p hp => ⟨p.2, by k_mem⟩) (ho.sub (fun _ h => h) fun p hp => ⟨p.2, by k_mem⟩)) fun q hq => Nat.ne_of_lt (mA q (by k_mem)))
            refine' carry_write (base := s₁.heap) (h₀ := s₁.heap) (tO := DO) (nO := 0) (tA := TA) (nc := 0) (cells := ys) (xs := xs) (rr := new8 ++ R) (rest := (DO, tupOf [.str (Str.ofString "write") tk, .int row trow, .int col tcol, .ref TA] 0) :: (DQ, tupOf [.int way tway, .int row trow, .int col tcol] 0) :: (dd, W.listOf vs8.toArray n8) :: (dG, o) :: (TA, tupOf ys 0) :: ((new2 ++ new8) ++ R)) K FO KX T rfl (News.sub NO (by repeat' (first | exact List.forall_mem_nil _ | exact fun _ h => h | (refine List.forall_mem_cons.mpr ⟨?_, ?_⟩; focus (k_mem)) | (refine List.forall_mem_append.mpr ⟨?_, ?_⟩) | (intro p9 h9; k_mem)))) (by k_mem) ?off (Ne.symm f2) (by k_mem) (by k_mem) (ha.mono fun _ _ x => x.mono (by repeat' (first | exact List.forall_mem_nil _ | exact fun _ h => h | (refine List.forall_mem_cons.mpr ⟨?_, ?_⟩; focus (k_mem)) | (refine List.forall_mem_append.mpr ⟨?_, ?_⟩) | (intro p9 h9; k_mem)))) (hrowsR.mono fun _ _ x => x.mono (by repeat' (first | exact List.forall_mem_nil _ | exact fun _ h => h | (refine List.forall_mem_cons.mpr ⟨?_, ?_⟩; focus (k_mem)) | (refine List.forall_mem_append.mpr ⟨?_, ?_⟩) | (intro p9 h9; k_mem)))) (by repeat' (first | exact List.forall_mem_nil _ | exact fun _ h => h | (refine List.forall_mem_cons.mpr ⟨?_, ?_⟩; focus (k_mem)) | (refine List.forall_mem_append.mpr ⟨?_, ?_⟩) | (intro p9 h9; k_mem))) hrows6 hr0 row0 col0 (by omega) (by omega) (hr1' ▸ hwd7) (by decide) ?_
            case off => exact off_gen hall (by k_mem) (by k_mem) (fun p hp => mem5r hp) (Ne.symm e12) (Ne.symm f1) e23 (Ne.symm f3)
            intro rs' ua ub uc ud ue uf n2' newC hC tkC FC NC hOC hrowsC
            dsimp only
            k_steps
            unfold Hold
            have hcc : OwnOff newC [dd, sdx, dS, dG] := ownOff_offs hOC ⟨_, by k_mem⟩ ⟨_, .head _⟩ ⟨_, .tail _ (.head _)⟩ ⟨_, by k_mem⟩
            refine ⟨rfl, hC, tkC, _, (dd, W.listOf vs8.toArray n8) :: (sdx, scrD w ua ub uc ud ue uf wd (wr + (xs.length : Nat)) (.ref dS) cvS) :: (dS, W.listOf rs'.toArray n2') :: (dG, o) :: ((newC ++ ([(DO, tupOf [.str (Str.ofString "write") tk, .int row trow, .int col tcol, .ref TA] 0), (DQ, tupOf [.int way tway, .int row trow, .int col tcol] 0)] ++ (TA, tupOf ys 0) :: (new2 ++ new8))) ++ R), rfl, FC, News.sub NC mmN,
              ⟨vs8, ms8, n8, _, _, _, _, _, _, wr + (xs.length : Nat), dS, n2', cvS, rs', o, _, f2', _, cvL, tk10 + 1 + 1, cur, rfl, hI8, hD8, ownOff_append (ownOff_append hcc fun p hp => hall p (List.mem_append_left _ hp)) oR, ⟨f1, f2, f3⟩, hrowsC.mono fun _ _ x => x.mono mmA, VM.mono mmB, ?sm, hcR.mono mmR, rfl, hcL.mono mmR, ?wv, ?_⟩, ?_⟩
            case sm =>
              refine same_put hSame row0 row1' col0 (by omega) hr0 (fun j hj => ?_) (hxl ▸ hRun)
              rw [show (col + (j : Int) - col).toNat = j by omega, List.getD_eq_getElem?_getD, List.getElem?_eq_getElem hj]
              rfl
            case wv => rw [← hxl]; rfl
            · exact Off.append (hOC.sub (fun _ h => h) fun p hp => ⟨p.2, by k_mem⟩) hOR
            · intro z hz
              rw [hmT]
              have z1 : z ≠ Str.ofString "_law_way" := fun e => by subst e; simp at hz
              have z2 : z ≠ Str.ofString "_law_row" := fun e => by subst e; simp at hz
              have z3 : z ≠ Str.ofString "_law_column" := fun e => by subst e; simp at hz
              have z4 : z ≠ Str.ofString "_law_cells" := fun e => by subst e; simp at hz
              have z5 : z ≠ Str.ofString "_law_step" := fun e => by subst e; simp at hz
              have z6 : z ≠ Str.ofString "_law_written" := fun e => by subst e; simp at hz
              simp only [z1, z2, z3, z4, z5, z6, if_false]
              rfl
        · rintro i ys nw v I oI C oC D m₂ h tk E' hi ⟨vs8, ms8, n8, xs, new8, rfl, hI8, hD8, ha, ho, hd, hl⟩ ⟨t9, rfl⟩ hC hx F2 N2 off2 ne2
          have oY : OwnOff ((I, oI) :: (C, oC) :: (D, LCg.lst ys) :: (new8 ++ ((DQ, tupOf [.int way tway, .int row trow, .int col tcol] 0) :: (sdx, scrD w xa xb xc xd xe xf wd wr (.ref dS) cvS) :: (dS, W.listOf rsS.toArray nS) :: (dG, oH) :: R))) [dd] := ownOff_cons (List.forall_mem_cons.mpr ⟨Ne.symm off2.1.1, List.forall_mem_cons.mpr ⟨Ne.symm off2.1.2.1, List.forall_mem_cons.mpr ⟨Ne.symm off2.1.2.2, ap2 hd ob⟩⟩⟩) ownOff_nil
          k_steps
          unfold Hold
          refine' draw_spec (base := s₁.heap) (h₀ := s₁.heap) (rest := (I, oI) :: (C, oC) :: (D, LCg.lst ys) :: (new8 ++ ((DQ, tupOf [.int way tway, .int row trow, .int col tcol] 0) :: (sdx, scrD w xa xb xc xd xe xf wd wr (.ref dS) cvS) :: (dS, W.listOf rsS.toArray nS) :: (dG, oH) :: R))) K F2 KX T rfl (News.sub N2 (by repeat' (first | exact List.forall_mem_nil _ | exact fun _ h => h | (refine List.forall_mem_cons.mpr ⟨?_, ?_⟩; focus (k_mem)) | (refine List.forall_mem_append.mpr ⟨?_, ?_⟩) | (intro p9 h9; k_mem)))) oY hI8 hD8 (by omega) (by omega) (by decide) ?_
          intro c1 tc1 vs9 ms9 n9 hp9 tk9 F3 N3 hI9 hD9 c10 c11
          dsimp only
          k_steps
          unfold Hold
          refine' draw_spec (base := s₁.heap) (h₀ := s₁.heap) (rest := (I, oI) :: (C, oC) :: (D, LCg.lst ys) :: (new8 ++ ((DQ, tupOf [.int way tway, .int row trow, .int col tcol] 0) :: (sdx, scrD w xa xb xc xd xe xf wd wr (.ref dS) cvS) :: (dS, W.listOf rsS.toArray nS) :: (dG, oH) :: R))) K F3 KX T rfl N3 oY hI9 hD9 (by omega) (by omega) (by decide) ?_
          intro c2 tc2 vs10 ms10 n10 hp10 tk10 F4 N4 hI10 hD10 c20 c21
          dsimp only
          k_steps
          unfold Hold
          rename_i D1 q1 F5 N5 l1
          have m1 := ktn_ltOf l1.2.2.2.2
          refine LCg.CompEnd.intro F5 N5 ((dd, W.listOf vs10.toArray n10) :: (((D1, tupOf [.int (65 + c1) tk9, .int c2 tc2] 0) :: new8) ++ ((DQ, tupOf [.int way tway, .int row trow, .int col tcol] 0) :: (sdx, scrD w xa xb xc xd xe xf wd wr (.ref dS) cvS) :: (dS, W.listOf rsS.toArray nS) :: (dG, oH) :: R))) (by repeat' (first | exact List.forall_mem_nil _ | exact fun _ h => h | (refine List.forall_mem_cons.mpr ⟨?_, ?_⟩; focus (k_mem)) | (refine List.forall_mem_append.mpr ⟨?_, ?_⟩) | (intro p9 h9; k_mem))) ⟨off2.1, ⟨Nat.ne_of_gt l1.2.1, Nat.ne_of_gt l1.2.2.1, Nat.ne_of_gt l1.2.2.2.1⟩, off2.2⟩ trivial
            ⟨vs10, ms10, n10, xs ++ [(65 + c1, c2)], (D1, tupOf [.int (65 + c1) tk9, .int c2 tc2] 0) :: new8, rfl, hI10, hD10, (ha.mono fun _ _ x => x.mono (by repeat' (first | exact List.forall_mem_nil _ | exact fun _ h => h | (refine List.forall_mem_cons.mpr ⟨?_, ?_⟩; focus (k_mem)) | (refine List.forall_mem_append.mpr ⟨?_, ?_⟩) | (intro p9 h9; k_mem)))).append (.one (.inr ⟨D1, _, _, _, rfl, .head _⟩)), Off.cons ho fun q hq => Nat.ne_of_lt (m1 q (List.mem_append_right _ hq)), List.forall_mem_cons.mpr ⟨Nat.ne_of_gt l1.1, hd⟩, by simp [hl]⟩
      · w_top off
        unfold Hold
        have f2' := f2
        clear f2
        obtain ⟨r0, hr0, hr1'⟩ := same_at hSame row0 row1'
        have hb : ∀ p ∈ (DQ, tupOf [.int way tway, .int row trow, .int col tcol] 0) :: (dd, W.listOf vs3.toArray n3) :: (sdx, scrD w xa xb xc xd xe xf wd wr (.ref dS) cvS) :: (dS, W.listOf rsS.toArray nS) :: R, p.1 ≠ dG := List.forall_mem_cons.mpr ⟨Nat.ne_of_gt lQ.2.2.2.1, List.forall_mem_cons.mpr ⟨Ne.symm e14, List.forall_mem_cons.mpr ⟨Ne.symm e23, List.forall_mem_cons.mpr ⟨f3, fun p hp => oR p hp dG (by simp)⟩⟩⟩⟩
        refine For_invVF FQ rfl rfl ?_
        k_steps
        unfold Hold
        rename_i y1 tk8 y2 y3 y4 y5 F1 N1 I1
        dsimp only at *
        refine iter_range (news := (dG, oH) :: ([] ++ ((DQ, tupOf [.int way tway, .int row trow, .int col tcol] 0) :: (dd, W.listOf vs3.toArray n3) :: (sdx, scrD w xa xb xc xd xe xf wd wr (.ref dS) cvS) :: (dS, W.listOf rsS.toArray nS) :: R))) (n := (wd - col).toNat) []
          (fun j _ nx => StepP w dG ((DQ, tupOf [.int way tway, .int row trow, .int col tcol] 0) :: (dd, W.listOf vs3.toArray n3) :: (sdx, scrD w xa xb xc xd xe xf wd wr (.ref dS) cvS) :: (dS, W.listOf rsS.toArray nS) :: R) R (keysTo wd.toNat ht.toNat 0) row col (fun _ => (32, 0)) f j nx)
          rfl (by assumption) (range_small (by omega) (by omega) (by omega) (by omega)) (range_size (by omega)) (by k_asm) (News.sub (by k_asm) (by repeat' (first | exact List.forall_mem_nil _ | exact fun _ h => h | (refine List.forall_mem_cons.mpr ⟨?_, ?_⟩; focus (k_mem)) | (refine List.forall_mem_append.mpr ⟨?_, ?_⟩) | (intro p9 h9; k_mem)))) ⟨oH, f, [], rfl, VR, Run.zero, Off.nil, fun _ h => nomatch h⟩ ?_ ?_
        · rintro j tj uj nx hj tkj own2 hjw hown2 ⟨o, f2, new2, rfl, VM, hRun, hO, hne⟩ F4 N4
          simp only [List.cons_append] at N4
          refine anyInv ?_
          intro Q1
          k_steps
          unfold Hold
          rename_i D1 q1 l1' D2 q2 F6 N6 l2'
          dsimp only
          have m1 := ktn_ltOf l1'.2
          have m2 := ktn_ltOf l2'.2.2
          have hn1 : ∀ p ∈ (D2, tupOf [.int row trow, .int (col + (j : Nat)) tj] 0) :: (D1, tupOf [.int 32 tkj, .int 0 (tkj + 1)] 0) :: new2, p.1 ≠ dG := List.forall_mem_cons.mpr ⟨Nat.ne_of_gt l2'.2.1, List.forall_mem_cons.mpr ⟨Nat.ne_of_gt l1'.1, hne⟩⟩
          have hd2 : ∀ p ∈ ((D2, tupOf [.int row trow, .int (col + (j : Nat)) tj] 0) :: (D1, tupOf [.int 32 tkj, .int 0 (tkj + 1)] 0) :: new2) ++ ((DQ, tupOf [.int way tway, .int row trow, .int col tcol] 0) :: (dd, W.listOf vs3.toArray n3) :: (sdx, scrD w xa xb xc xd xe xf wd wr (.ref dS) cvS) :: (dS, W.listOf rsS.toArray nS) :: R) ++ own2, p.1 ≠ dG := fun p hp => (List.mem_append.mp hp).elim (ap2 hn1 hb p) fun z => hown2 p z dG (List.mem_map.mpr ⟨_, .head _, rfl⟩)
          have hw2 : OwnOff own2 (((dG, o) :: (((D2, tupOf [.int row trow, .int (col + (j : Nat)) tj] 0) :: (D1, tupOf [.int 32 tkj, .int 0 (tkj + 1)] 0) :: new2) ++ ((DQ, tupOf [.int way tway, .int row trow, .int col tcol] 0) :: (dd, W.listOf vs3.toArray n3) :: (sdx, scrD w xa xb xc xd xe xf wd wr (.ref dS) cvS) :: (dS, W.listOf rsS.toArray nS) :: R))).map (·.1)) := ownOff_map fun p hp => List.forall_mem_cons.mpr ⟨ownOff_unmap hown2 p hp _ (.head _), List.forall_mem_cons.mpr ⟨Nat.ne_of_lt (m2 p (List.mem_append_right _ hp)), List.forall_mem_cons.mpr ⟨Nat.ne_of_lt (m1 p (List.mem_append_right _ hp)), fun q hq => ownOff_unmap hown2 p hp q (.tail _ hq)⟩⟩⟩
          refine grid_set (o := o) (k := [row, col + (j : Nat)]) (c := (32, 0)) (v := .ref D1) (rest := ((D2, tupOf [.int row trow, .int (col + (j : Nat)) tj] 0) :: (D1, tupOf [.int 32 tkj, .int 0 (tkj + 1)] 0) :: new2) ++ R) (news := ((D2, tupOf [.int row trow, .int (col + (j : Nat)) tj] 0) :: (D1, tupOf [.int 32 tkj, .int 0 (tkj + 1)] 0) :: new2) ++ ((DQ, tupOf [.int way tway, .int row trow, .int col tcol] 0) :: (dd, W.listOf vs3.toArray n3) :: (sdx, scrD w xa xb xc xd xe xf wd wr (.ref dS) cvS) :: (dS, W.listOf rsS.toArray nS) :: R) ++ own2) (by show callerA.units + 3 + 1 < cLine; decide) (by assumption) (News.sub (by assumption) (by repeat' (first | exact List.forall_mem_nil _ | exact fun _ h => h | (refine List.forall_mem_cons.mpr ⟨?_, ?_⟩; focus (k_mem)) | (refine List.forall_mem_append.mpr ⟨?_, ?_⟩) | (intro p9 h9; k_mem)))) hd2 (VM.mono (by repeat' (first | exact List.forall_mem_nil _ | exact fun _ h => h | (refine List.forall_mem_cons.mpr ⟨?_, ?_⟩; focus (k_mem)) | (refine List.forall_mem_append.mpr ⟨?_, ?_⟩) | (intro p9 h9; k_mem)))) (by repeat' (first | exact List.forall_mem_nil _ | exact fun _ h => h | (refine List.forall_mem_cons.mpr ⟨?_, ?_⟩; focus (k_mem)) | (refine List.forall_mem_append.mpr ⟨?_, ?_⟩) | (intro p9 h9; k_mem))) (.head _) (key_of _ _ _ _ _) (.inr ⟨D1, _, _, _, rfl, .tail _ (.head _)⟩) ?_ ?_
          · rw [keysTo_len]
            have : ht.toNat * wd.toNat ≤ 6 * 7 := Nat.mul_le_mul hht6 hwd7
            omega
          · intro o9 h9 F9 N9 V9
            rw [if_pos (keysTo_in row0 row1' (by omega) (by omega))] at V9
            dsimp only
            k_steps
            unfold Hold
            dsimp only [InvPostG]
            refine InvEndG.intro (by assumption) (by assumption) (nx := (dG, o9) :: (((D2, tupOf [.int row trow, .int (col + (j : Nat)) tj] 0) :: (D1, tupOf [.int 32 tkj, .int 0 (tkj + 1)] 0) :: new2) ++ ((DQ, tupOf [.int way tway, .int row trow, .int col tcol] 0) :: (dd, W.listOf vs3.toArray n3) :: (sdx, scrD w xa xb xc xd xe xf wd wr (.ref dS) cvS) :: (dS, W.listOf rsS.toArray nS) :: R))) ⟨⟨o9, _, (D2, tupOf [.int row trow, .int (col + (j : Nat)) tj] 0) :: (D1, tupOf [.int 32 tkj, .int 0 (tkj + 1)] 0) :: new2, rfl, V9, hRun.step rfl, Off.cons (Off.cons hO fun q hq => Nat.ne_of_lt (m1 q (List.mem_append_left _ (List.mem_append_right _ hq)))) fun q hq => Nat.ne_of_lt (m2 q (List.mem_append_left _ (List.mem_append_right _ hq))), hn1⟩, ?_⟩ hw2 (by repeat' (first | exact List.forall_mem_nil _ | exact fun _ h => h | (refine List.forall_mem_cons.mpr ⟨?_, ?_⟩; focus (k_mem)) | (refine List.forall_mem_append.mpr ⟨?_, ?_⟩) | (intro p9 h9; k_mem))) (by repeat' (first | exact List.forall_mem_nil _ | exact fun _ h => h | (refine List.forall_mem_cons.mpr ⟨?_, ?_⟩; focus (k_mem)) | (refine List.forall_mem_append.mpr ⟨?_, ?_⟩) | (intro p9 h9; k_mem)))
            intro z h1 h2
            simp only [h1, if_false]
            rfl
        · rintro u nx h tk9 ⟨o, f2, new2, rfl, VM, hRun, hO, hne⟩ F4 N4
          k_steps
          unfold Hold
          rename_i DO y9 FO NO lO
          have mO := ktn_ltOf lO.2
          have hxQ : OwnOff [(DO, tupOf [.str (Str.ofString "clear") tk9, .int row trow, .int col tcol] 0), (DQ, tupOf [.int way tway, .int row trow, .int col tcol] 0)] [dd, sdx, dS, dG] :=
            cons4 (mO (dd, W.listOf vs3.toArray n3) (by k_mem)) (mO (sdx, scrD w xa xb xc xd xe xf wd wr (.ref dS) cvS) (by k_mem)) (mO (dS, W.listOf rsS.toArray nS) (by k_mem)) lO.1 (cons4 lQ.1 lQ.2.1 lQ.2.2.1 lQ.2.2.2.1 fun _ h => nomatch h)
          have hn2 : OwnOff new2 [dd, sdx, dS, dG] := ownOff4 (fun p hp => hO p hp (_, W.listOf vs3.toArray n3) (by k_mem)) (fun p hp => hO p hp (_, scrD w xa xb xc xd xe xf wd wr (.ref dS) cvS) (by k_mem)) (fun p hp => hO p hp (_, W.listOf rsS.toArray nS) (by k_mem)) hne
          have hall : OwnOff (([(DO, tupOf [.str (Str.ofString "clear") tk9, .int row trow, .int col tcol] 0), (DQ, tupOf [.int way tway, .int row trow, .int col tcol] 0)] ++ new2) ++ R) [dd, sdx, dS, dG] := ownOff_append (ownOff_append hxQ hn2) oR
          have hOR : Off ([(DO, tupOf [.str (Str.ofString "clear") tk9, .int row trow, .int col tcol] 0), (DQ, tupOf [.int way tway, .int row trow, .int col tcol] 0)] ++ new2) R := Off.append (Off.cons (offc lQ.2.2.2.2 Off.nil) fun q hq => Nat.ne_of_lt (mO q (by k_mem))) (hO.sub (fun _ h => h) fun p hp => ⟨p.2, by k_mem⟩)
          refine' carry_clear (base := s₁.heap) (h₀ := s₁.heap) (tO := DO) (nO := 0) (rest := (DO, tupOf [.str (Str.ofString "clear") tk9, .int row trow, .int col tcol] 0) :: (DQ, tupOf [.int way tway, .int row trow, .int col tcol] 0) :: (dd, W.listOf vs3.toArray n3) :: (dG, o) :: (new2 ++ R)) K FO KX T rfl (News.sub NO (by repeat' (first | exact List.forall_mem_nil _ | exact fun _ h => h | (refine List.forall_mem_cons.mpr ⟨?_, ?_⟩; focus (k_mem)) | (refine List.forall_mem_append.mpr ⟨?_, ?_⟩) | (intro p9 h9; k_mem)))) (by k_mem) ?off (Ne.symm f2') (by k_mem) hrowsR (by repeat' (first | exact List.forall_mem_nil _ | exact fun _ h => h | (refine List.forall_mem_cons.mpr ⟨?_, ?_⟩; focus (k_mem)) | (refine List.forall_mem_append.mpr ⟨?_, ?_⟩) | (intro p9 h9; k_mem))) hrows6 hr0 row0 col0 (Int.le_of_lt col1) bw1 (hr1' ▸ hwd7) (by decide) ?_
          case off => exact off_gen hall (by k_mem) (by k_mem) (by repeat' (first | exact List.forall_mem_nil _ | exact fun _ h => h | (refine List.forall_mem_cons.mpr ⟨?_, ?_⟩; focus (k_mem)) | (refine List.forall_mem_append.mpr ⟨?_, ?_⟩) | (intro p9 h9; k_mem))) (Ne.symm e12) (Ne.symm f1) e23 (Ne.symm f3)
          intro rs' n2' newC hC tkC FC NC hOC hrowsC
          dsimp only
          k_steps
          unfold Hold
          have hcc : OwnOff newC [dd, sdx, dS, dG] := ownOff_offs hOC ⟨_, by k_mem⟩ ⟨_, .head _⟩ ⟨_, .tail _ (.head _)⟩ ⟨_, by k_mem⟩
          refine ⟨rfl, hC, tkC, _, (dd, W.listOf vs3.toArray n3) :: (sdx, scrD w xa xb xc xd xe xf wd wr (.ref dS) cvS) :: (dS, W.listOf rs'.toArray n2') :: (dG, o) :: ((newC ++ ([(DO, tupOf [.str (Str.ofString "clear") tk9, .int row trow, .int col tcol] 0), (DQ, tupOf [.int way tway, .int row trow, .int col tcol] 0)] ++ new2)) ++ R), rfl, FC, News.sub NC (by repeat' (first | exact List.forall_mem_nil _ | exact fun _ h => h | (refine List.forall_mem_cons.mpr ⟨?_, ?_⟩; focus (k_mem)) | (refine List.forall_mem_append.mpr ⟨?_, ?_⟩) | (intro p9 h9; k_mem))),
            ⟨vs3, ms3, n3, _, _, _, _, _, _, wr, dS, n2', cvS, rs', o, _, f2, _, cvL, tL, cur, rfl, hI3, hD3, ownOff_append (ownOff_append hcc fun p hp => hall p (List.mem_append_left _ hp)) oR, ⟨f1, f2', f3⟩, hrowsC.mono fun _ _ x => x.mono (by repeat' (first | exact List.forall_mem_nil _ | exact fun _ h => h | (refine List.forall_mem_cons.mpr ⟨?_, ?_⟩; focus (k_mem)) | (refine List.forall_mem_append.mpr ⟨?_, ?_⟩) | (intro p9 h9; k_mem))), VM.mono (by repeat' (first | exact List.forall_mem_nil _ | exact fun _ h => h | (refine List.forall_mem_cons.mpr ⟨?_, ?_⟩; focus (k_mem)) | (refine List.forall_mem_append.mpr ⟨?_, ?_⟩) | (intro p9 h9; k_mem))), ?sm, hcR.mono (by repeat' (first | exact List.forall_mem_nil _ | exact fun _ h => h | (refine List.forall_mem_cons.mpr ⟨?_, ?_⟩; focus (k_mem)) | (refine List.forall_mem_append.mpr ⟨?_, ?_⟩) | (intro p9 h9; k_mem))), rfl, hcL.mono (by repeat' (first | exact List.forall_mem_nil _ | exact fun _ h => h | (refine List.forall_mem_cons.mpr ⟨?_, ?_⟩; focus (k_mem)) | (refine List.forall_mem_append.mpr ⟨?_, ?_⟩) | (intro p9 h9; k_mem))), rfl, ?_⟩, ?_⟩
          case sm => exact same_clear hSame row0 row1' col0 (by omega) hr0 hRun
          · exact Off.append (hOC.sub (fun _ h => h) fun p hp => ⟨p.2, by k_mem⟩) hOR
          · intro z hz
            rw [hmT]
            have z1 : z ≠ Str.ofString "_law_way" := fun e => by subst e; simp at hz
            have z2 : z ≠ Str.ofString "_law_row" := fun e => by subst e; simp at hz
            have z3 : z ≠ Str.ofString "_law_column" := fun e => by subst e; simp at hz
            have z4 : z ≠ Str.ofString "_law_step" := fun e => by subst e; simp at hz
            simp only [z1, z2, z3, z4, if_false]
            rfl
      · rename_i wy0 tq1 wy1 tq2 wy4 tq3 DB y1 lB y2 DO y3 FO NO lO
        w_top off
        clear hht6 hwd7 hrows6 row1' col1'
        unfold Hold
        refine' carry_cursor (base := s₁.heap) (h₀ := s₁.heap) (tO := DO) (nO := 0) (rest := (DO, tupOf [.str (Str.ofString "cursor") tk, .int row trow, .int col tcol] 0) :: (DB, tupOf [.int row trow, .int col tcol] 0) :: (DQ, tupOf [.int way tway, .int row trow, .int col tcol] 0) :: (dd, W.listOf vs3.toArray n3) :: (dG, oH) :: R) K FO KX T rfl (News.sub NO (by repeat' (first | exact List.forall_mem_nil _ | exact fun _ h => h | (refine List.forall_mem_cons.mpr ⟨?_, ?_⟩; focus (k_mem)) | (refine List.forall_mem_append.mpr ⟨?_, ?_⟩) | (intro p9 h9; k_mem)))) (by k_mem) ?off (Ne.symm f2) (by k_mem) (by decide) ?_
        case off =>
          have hx : OwnOff [(DO, tupOf [.str (Str.ofString "cursor") tk, .int row trow, .int col tcol] 0), (DB, tupOf [.int row trow, .int col tcol] 0), (DQ, tupOf [.int way tway, .int row trow, .int col tcol] 0)] [dd, sdx, dS, dG] :=
            cons4 lO.2.2.1 lO.2.2.2.1 lO.2.2.2.2.1 lO.2.2.2.2.2.1 (cons4 lB.2.1 lB.2.2.1 lB.2.2.2.1 lB.2.2.2.2.1 (cons4 lQ.1 lQ.2.1 lQ.2.2.1 lQ.2.2.2.1 fun _ h => nomatch h))
          refine ownOff_append (a := [(DO, _), (DB, _), (DQ, _)]) (fun p hp a ha => hx p hp a (by simp only [List.mem_cons, List.not_mem_nil, or_false] at ha ⊢; rcases ha with h | h <;> simp [h])) (List.forall_mem_cons.mpr ⟨?_, List.forall_mem_cons.mpr ⟨?_, fun p hp a ha => oR p hp a (by simp only [List.mem_cons, List.not_mem_nil, or_false] at ha ⊢; rcases ha with h | h <;> simp [h])⟩⟩)
          · exact fun a ha => (List.mem_cons.mp ha).elim (fun e => e ▸ Ne.symm e12) fun ha => List.mem_singleton.mp ha ▸ Ne.symm f1
          · exact fun a ha => (List.mem_cons.mp ha).elim (fun e => e ▸ e23) fun ha => List.mem_singleton.mp ha ▸ Ne.symm f3
        intro cv' ua ub uc ud ue uf newC hC tkC FC NC hOC hcvC
        dsimp only
        k_steps
        unfold Hold
        have hx : OwnOff [(DO, tupOf [.str (Str.ofString "cursor") tk, .int row trow, .int col tcol] 0), (DB, tupOf [.int row trow, .int col tcol] 0), (DQ, tupOf [.int way tway, .int row trow, .int col tcol] 0)] [dd, sdx, dS, dG] :=
          cons4 lO.2.2.1 lO.2.2.2.1 lO.2.2.2.2.1 lO.2.2.2.2.2.1 (cons4 lB.2.1 lB.2.2.1 lB.2.2.2.1 lB.2.2.2.2.1 (cons4 lQ.1 lQ.2.1 lQ.2.2.1 lQ.2.2.2.1 fun _ h => nomatch h))
        have hcc : OwnOff newC [dd, sdx, dS, dG] := ownOff_offs hOC ⟨_, by k_mem⟩ ⟨_, .head _⟩ ⟨_, .tail _ (.head _)⟩ ⟨_, by k_mem⟩
        refine ⟨rfl, hC, tkC, _, (dd, W.listOf vs3.toArray n3) :: (sdx, scrD w ua ub uc ud ue uf wd wr (.ref dS) cv') :: (dS, W.listOf rsS.toArray nS) :: (dG, oH) :: ((newC ++ [(DO, tupOf [.str (Str.ofString "cursor") tk, .int row trow, .int col tcol] 0), (DB, tupOf [.int row trow, .int col tcol] 0), (DQ, tupOf [.int way tway, .int row trow, .int col tcol] 0)]) ++ R), rfl, FC, News.sub NC (by repeat' (first | exact List.forall_mem_nil _ | exact fun _ h => h | (refine List.forall_mem_cons.mpr ⟨?_, ?_⟩; focus (k_mem)) | (refine List.forall_mem_append.mpr ⟨?_, ?_⟩) | (intro p9 h9; k_mem))),
          ⟨vs3, ms3, n3, _, _, _, _, _, _, wr, dS, nS, cv', rsS, oH, rows, f, _, .ref DB, tL, (row, col), rfl, hI3, hD3, ownOff_append (ownOff_append hcc hx) oR, ⟨f1, f2, f3⟩, hrowsR.mono fun _ _ x => x.mono (by repeat' (first | exact List.forall_mem_nil _ | exact fun _ h => h | (refine List.forall_mem_cons.mpr ⟨?_, ?_⟩; focus (k_mem)) | (refine List.forall_mem_append.mpr ⟨?_, ?_⟩) | (intro p9 h9; k_mem))), VR.mono (by repeat' (first | exact List.forall_mem_nil _ | exact fun _ h => h | (refine List.forall_mem_cons.mpr ⟨?_, ?_⟩; focus (k_mem)) | (refine List.forall_mem_append.mpr ⟨?_, ?_⟩) | (intro p9 h9; k_mem))), hSame, hcvC.mono (by repeat' (first | exact List.forall_mem_nil _ | exact fun _ h => h | (refine List.forall_mem_cons.mpr ⟨?_, ?_⟩; focus (k_mem)) | (refine List.forall_mem_append.mpr ⟨?_, ?_⟩) | (intro p9 h9; k_mem))), rfl, .inr ⟨DB, _, _, _, rfl, by k_mem⟩, rfl, ?_⟩, ?_⟩
        · refine Off.append (hOC.sub (fun _ h => h) fun p hp => ⟨p.2, by k_mem⟩) (offc lO.2.2.2.2.2.2 (offc lB.2.2.2.2.2 (offc lQ.2.2.2.2 Off.nil)))
        · intro z hz
          rw [hmT]
          have z1 : z ≠ Str.ofString "_law_way" := fun e => by subst e; simp at hz
          have z2 : z ≠ Str.ofString "_law_row" := fun e => by subst e; simp at hz
          have z3 : z ≠ Str.ofString "_law_column" := fun e => by subst e; simp at hz
          have z4 : z ≠ Str.ofString "_law_cursor" := fun e => by subst e; simp at hz
          simp only [z1, z2, z3, z4, if_false]
      · w_top off
        have hmul : ht.toNat * wd.toNat ≤ 6 * 7 := Nat.mul_le_mul hht6 hwd7
        clear hht6 hwd7 row1' col1'
        unfold Hold
        have oDQ : ∀ sO rO gO, OwnOff ((DQ, tupOf [.int way tway, .int row trow, .int col tcol] 0) :: (sdx, sO) :: (dS, rO) :: (dG, gO) :: R) [dd] := fun sO rO gO => List.forall_mem_cons.mpr ⟨fun d hd => by rw [List.mem_singleton.mp hd]; exact Nat.ne_of_gt lQ.1, oD sO rO gO⟩
        refine' draw_spec (base := s₁.heap) (h₀ := s₁.heap) K FQ KX T rfl (News.sub (b := (dd, W.listOf vs3.toArray n3) :: (DQ, tupOf [.int way tway, .int row trow, .int col tcol] 0) :: (sdx, scrD w xa xb xc xd xe xf wd wr (.ref dS) cvS) :: (dS, W.listOf rsS.toArray nS) :: (dG, oH) :: R) NQ (by repeat' (first | exact List.forall_mem_nil _ | exact fun _ h => h | (refine List.forall_mem_cons.mpr ⟨?_, ?_⟩; focus (k_mem)) | (refine List.forall_mem_append.mpr ⟨?_, ?_⟩) | (intro p9 h9; k_mem)))) (oDQ _ _ _) hI3 hD3 (by omega) (by omega) (by decide) ?_
        intro bt tbt vs5 ms5 n5 hp5 tk7 F5 N5 hI5 hD5 bt0 bt1
        clear FQ NQ hI3 hD3
        dsimp only
        k_steps
        unfold Hold
        rename_i y1 F6 N6
        refine' draw_spec (base := s₁.heap) (h₀ := s₁.heap) K F6 KX T rfl N6 (oDQ _ _ _) hI5 hD5 (by omega) (by omega) (by decide) ?_
        intro many tmn vs7 ms7 n7 hp7 tk9 F7 N7 hI7 hD7 mn0 mn1
        clear F6 N6 hI5 hD5
        dsimp only
        k_steps
        unfold Hold
        rename_i y2 F8 N8
        refine grid_method N8 VR (by k_mem) (by repeat' (first | exact List.forall_mem_nil _ | exact fun _ h => h | (refine List.forall_mem_cons.mpr ⟨?_, ?_⟩; focus (k_mem)) | (refine List.forall_mem_append.mpr ⟨?_, ?_⟩) | (intro p9 h9; k_mem))) ?_
        dsimp only
        k_steps
        · unfold Hold
          rename_i hw2
          refine' moved_spec (base := s₁.heap) (h₀ := s₁.heap) (oG := oH) (f := f) (ht := ht) (news := (dd, W.listOf vs7.toArray n7) :: (DQ, tupOf [.int way tway, .int row trow, .int col tcol] 0) :: (sdx, scrD w xa xb xc xd xe xf wd wr (.ref dS) cvS) :: (dS, W.listOf rsS.toArray nS) :: (dG, oH) :: R) K F8 KX T rfl N8 (by k_mem) (VR.mono (by repeat' (first | exact List.forall_mem_nil _ | exact fun _ h => h | (refine List.forall_mem_cons.mpr ⟨?_, ?_⟩; focus (k_mem)) | (refine List.forall_mem_append.mpr ⟨?_, ?_⟩) | (intro p9 h9; k_mem)))) bw0 (by omega) bh0 (by omega) row0 (by omega) (by omega) (by decide) (by decide) ?_
          intro dM oM ks2 f2' newM hM tkM FM NM hOM hoM hdM VM hFl
          clear F8 N8
          dsimp only
          k_steps
          unfold Hold
          have VM' : GridV w oM ks2 f2' (newM ++ (DQ, tupOf [.int way tway, .int row trow, .int col tcol] 0) :: R) := VM.tups fun p hp hc => by
            rcases List.mem_append.mp hp with hp | hp
            · exact List.mem_append_left _ hp
            · rcases List.mem_cons.mp hp with rfl | hp
              · exact isT rfl hc
              · rcases List.mem_cons.mp hp with rfl | hp
                · exact List.mem_append_right _ (.head _)
                · rcases List.mem_cons.mp hp with rfl | hp
                  · exact isT rfl hc
                  · rcases List.mem_cons.mp hp with rfl | hp
                    · exact isT rfl hc
                    · rcases List.mem_cons.mp hp with rfl | hp
                      · exact isT VR.cls hc
                      · exact List.mem_append_right _ (.tail _ hp)
          have hmG : ∀ p ∈ (dM, oM) :: newM, p.1 ≠ dG := fun p hp => hOM p hp (dG, oH) (by k_mem)
          refine grid_update (ks := keysTo wd.toNat ht.toNat 0) (ks2 := ks2) (f := f) (f2 := f2') (oM := oM) (o := oH) (rest := newM ++ (DQ, tupOf [.int way tway, .int row trow, .int col tcol] 0) :: R) (news := newM ++ ((dd, W.listOf vs7.toArray n7) :: (sdx, scrD w xa xb xc xd xe xf wd wr (.ref dS) cvS) :: (dS, W.listOf rsS.toArray nS) :: (DQ, tupOf [.int way tway, .int row trow, .int col tcol] 0) :: R)) (by show callerA.units + 3 + 2 < cLine; decide) FM hdM (News.sub NM (by repeat' (first | exact List.forall_mem_nil _ | exact fun _ h => h | (refine List.forall_mem_cons.mpr ⟨?_, ?_⟩; focus (k_mem)) | (refine List.forall_mem_append.mpr ⟨?_, ?_⟩) | (intro p9 h9; k_mem)))) ?gO (VR.mono (by repeat' (first | exact List.forall_mem_nil _ | exact fun _ h => h | (refine List.forall_mem_cons.mpr ⟨?_, ?_⟩; focus (k_mem)) | (refine List.forall_mem_append.mpr ⟨?_, ?_⟩) | (intro p9 h9; k_mem)))) (by repeat' (first | exact List.forall_mem_nil _ | exact fun _ h => h | (refine List.forall_mem_cons.mpr ⟨?_, ?_⟩; focus (k_mem)) | (refine List.forall_mem_append.mpr ⟨?_, ?_⟩) | (intro p9 h9; k_mem))) VM' ?gS ?gN ?gL ?gM ?_
          case gO =>
            refine List.forall_mem_cons.mpr ⟨hmG _ (.head _), List.forall_mem_append.mpr ⟨fun p hp => hmG p (.tail _ hp), List.forall_mem_cons.mpr ⟨Ne.symm e14, List.forall_mem_cons.mpr ⟨Ne.symm e23, List.forall_mem_cons.mpr ⟨f3, List.forall_mem_cons.mpr ⟨Nat.ne_of_gt lQ.2.2.2.1, fun p hp => oR p hp dG (by simp)⟩⟩⟩⟩⟩⟩
          case gS =>
            intro k hk
            obtain ⟨x, y, rfl⟩ := hFl.2.1 k hk
            rcases (hFl.2.2.1 x y).mp hk with h | h
            · exact keysTo_in (by omega) (by omega) h.2.2.1 h.2.2.2
            · exact absurd (Int.lt_of_le_of_lt h.2.1 h.2.2) (Int.lt_irrefl _)
          case gN => 
            rw [keysTo_len]
            have : 1 * 1 ≤ ht.toNat * wd.toNat := Nat.mul_le_mul (by omega) (by omega)
            omega
          case gL =>
            rw [keysTo_len]
            have := hmul
            omega
          case gM =>
            have h1 := hFl.1
            have : (row + 1 + bt - row).toNat * wd.toNat ≤ 6 * 7 := Nat.mul_le_mul (by omega) (by omega)
            omega
          intro oG' hG9 FG NG VG
          clear FM NM
          dsimp only
          k_steps
          rename_i hw3 DO y3 FO NO lO
          unfold Hold
          have mO := ktn_ltOf lO.2.2
          have hMs : OwnOff ((dM, oM) :: newM) [dd, sdx, dS, dG] := ownOff_offs hOM ⟨_, .head _⟩ ⟨_, by k_mem⟩ ⟨_, by k_mem⟩ ⟨_, by k_mem⟩
          have hxQ : OwnOff [(DO, tupOf [.str (Str.ofString "insert") (tkM + 1), .int row trow, .int many tmn, .int (row + 1 + bt) tk7] 0), (DQ, tupOf [.int way tway, .int row trow, .int col tcol] 0)] [dd, sdx, dS, dG] :=
            cons4 (mO (dd, W.listOf vs7.toArray n7) (by k_mem)) (mO (sdx, scrD w xa xb xc xd xe xf wd wr (.ref dS) cvS) (by k_mem)) (mO (dS, W.listOf rsS.toArray nS) (by k_mem)) lO.1 (cons4 lQ.1 lQ.2.1 lQ.2.2.1 lQ.2.2.2.1 fun _ h => nomatch h)
          have hall : OwnOff (([(DO, tupOf [.str (Str.ofString "insert") (tkM + 1), .int row trow, .int many tmn, .int (row + 1 + bt) tk7] 0), (DQ, tupOf [.int way tway, .int row trow, .int col tcol] 0)] ++ (dM, oM) :: newM) ++ R) [dd, sdx, dS, dG] := ownOff_append (ownOff_append hxQ hMs) oR
          have hOR : Off ([(DO, tupOf [.str (Str.ofString "insert") (tkM + 1), .int row trow, .int many tmn, .int (row + 1 + bt) tk7] 0), (DQ, tupOf [.int way tway, .int row trow, .int col tcol] 0)] ++ (dM, oM) :: newM) R :=
            Off.append (Off.cons (offc lQ.2.2.2.2 Off.nil) fun q hq => Nat.ne_of_lt (mO q (by k_mem))) (hOM.sub (fun _ h => h) fun p hp => ⟨p.2, by k_mem⟩)
          refine' carry_insert (base := s₁.heap) (h₀ := s₁.heap) (tO := DO) (nO := 0) (rest := (DO, tupOf [.str (Str.ofString "insert") (tkM + 1), .int row trow, .int many tmn, .int (row + 1 + bt) tk7] 0) :: (DQ, tupOf [.int way tway, .int row trow, .int col tcol] 0) :: (dd, W.listOf vs7.toArray n7) :: (dG, oG') :: (dM, oM) :: (newM ++ R)) K FO KX T rfl (News.sub NO (by repeat' (first | exact List.forall_mem_nil _ | exact fun _ h => h | (refine List.forall_mem_cons.mpr ⟨?_, ?_⟩; focus (k_mem)) | (refine List.forall_mem_append.mpr ⟨?_, ?_⟩) | (intro p9 h9; k_mem)))) (by k_mem) ?off (Ne.symm f2) (by k_mem) hrowsR (by repeat' (first | exact List.forall_mem_nil _ | exact fun _ h => h | (refine List.forall_mem_cons.mpr ⟨?_, ?_⟩; focus (k_mem)) | (refine List.forall_mem_append.mpr ⟨?_, ?_⟩) | (intro p9 h9; k_mem))) hrows6 row0 mn0 (by omega) (by have := hSame.1; omega) (by omega) bw1 (by decide) ?_
          case off => exact off_gen hall (by k_mem) (by k_mem) (fun p hp => mem5r hp) (Ne.symm e12) (Ne.symm f1) e23 (Ne.symm f3)
          intro dR' rs' ua ub uc ud ue uf n2' newC hC tkC FC NC hOC hoC hrowsC
          dsimp only
          k_steps
          · unfold Hold
            have hcc : OwnOff newC [dd, sdx, dR', dG] := ownOff4 (fun p hp => hOC p (.tail _ hp) (_, W.listOf vs7.toArray n7) (by k_mem)) (fun p hp => hOC p (.tail _ hp) _ (.head _)) hoC (fun p hp => hOC p (.tail _ hp) (_, oG') (by k_mem))
            have hXX : OwnOff (([(DO, tupOf [.str (Str.ofString "insert") (tkM + 1), .int row trow, .int many tmn, .int (row + 1 + bt) tk7] 0), (DQ, tupOf [.int way tway, .int row trow, .int col tcol] 0)] ++ (dM, oM) :: newM) ++ R) [dd, sdx, dR', dG] := ownOff4 (fun p hp => hall p hp _ (.head _)) (fun p hp => hall p hp _ (.tail _ (.head _))) (fun p hp => Ne.symm (hOC _ (.head _) p (.tail _ (.tail _ (mem5 hp))))) (fun p hp => hall p hp _ (.tail _ (.tail _ (.tail _ (.head _)))))
            refine ⟨rfl, hC, tkC, _, (dd, W.listOf vs7.toArray n7) :: (sdx, scrD w ua ub uc ud ue uf wd wr (.ref dR') cvS) :: (dR', W.listOf rs'.toArray n2') :: (dG, oG') :: ((newC ++ ([(DO, tupOf [.str (Str.ofString "insert") (tkM + 1), .int row trow, .int many tmn, .int (row + 1 + bt) tk7] 0), (DQ, tupOf [.int way tway, .int row trow, .int col tcol] 0)] ++ (dM, oM) :: newM)) ++ R), rfl, FC, News.sub NC mmN,
              ⟨vs7, ms7, n7, _, _, _, _, _, _, wr, dR', n2', cvS, rs', oG', _, _, _, cvL, tL, cur, rfl, hI7, hD7, ownOff_append (ownOff_append hcc fun p hp => hXX p (List.mem_append_left _ hp)) (fun p hp => hXX p (List.mem_append_right _ hp)), ⟨hOC _ (.head _) (_, W.listOf vs7.toArray n7) (by k_mem), hOC _ (.head _) _ (.head _), hOC _ (.head _) (_, oG') (by k_mem)⟩, hrowsC.mono fun _ _ x => x.mono mmM, VG.mono mmV, ?sm, hcR.mono mmR, rfl, hcL.mono mmR, rfl, ?_⟩, ?_⟩
            case sm =>
              have e1 : (row.toNat : Int) = row := by omega
              have e2 : (many.toNat : Int) = many := by omega
              have e3 : ((row + 1 + bt).toNat : Int) = row + 1 + bt := by omega
              refine same_ins (ks2 := ks2) hSame (by omega) (by omega) ?_
              rw [e1, e2, e3, show (row + 1 + bt).toNat - row.toNat = (row + 1 + bt - row).toNat by omega]
              exact hFl
            · exact Off.append (hOC.sub (fun p h => .tail _ h) fun p hp => ⟨p.2, by k_mem⟩) hOR
            · intro z hz
              rw [hmT]
              have z1 : z ≠ Str.ofString "_law_way" := fun e => by subst e; simp at hz
              have z2 : z ≠ Str.ofString "_law_row" := fun e => by subst e; simp at hz
              have z3 : z ≠ Str.ofString "_law_column" := fun e => by subst e; simp at hz
              have z4 : z ≠ Str.ofString "_law_bottom" := fun e => by subst e; simp at hz
              have z5 : z ≠ Str.ofString "_law_many" := fun e => by subst e; simp at hz
              simp only [z1, z2, z3, z4, z5, if_false]
          exact absurd hw2 (by assumption)
        · unfold Hold
          rename_i hw2
          refine' moved_spec (base := s₁.heap) (h₀ := s₁.heap) (oG := oH) (f := f) (ht := ht) (news := (dd, W.listOf vs7.toArray n7) :: (DQ, tupOf [.int way tway, .int row trow, .int col tcol] 0) :: (sdx, scrD w xa xb xc xd xe xf wd wr (.ref dS) cvS) :: (dS, W.listOf rsS.toArray nS) :: (dG, oH) :: R) K F8 KX T rfl N8 (by k_mem) (VR.mono (by repeat' (first | exact List.forall_mem_nil _ | exact fun _ h => h | (refine List.forall_mem_cons.mpr ⟨?_, ?_⟩; focus (k_mem)) | (refine List.forall_mem_append.mpr ⟨?_, ?_⟩) | (intro p9 h9; k_mem)))) bw0 (by omega) bh0 (by omega) row0 (by omega) (by omega) (by decide) (by decide) ?_
          intro dM oM ks2 f2' newM hM tkM FM NM hOM hoM hdM VM hFl
          clear F8 N8
          dsimp only
          k_steps
          unfold Hold
          have VM' : GridV w oM ks2 f2' (newM ++ (DQ, tupOf [.int way tway, .int row trow, .int col tcol] 0) :: R) := VM.tups fun p hp hc => by
            rcases List.mem_append.mp hp with hp | hp
            · exact List.mem_append_left _ hp
            · rcases List.mem_cons.mp hp with rfl | hp
              · exact isT rfl hc
              · rcases List.mem_cons.mp hp with rfl | hp
                · exact List.mem_append_right _ (.head _)
                · rcases List.mem_cons.mp hp with rfl | hp
                  · exact isT rfl hc
                  · rcases List.mem_cons.mp hp with rfl | hp
                    · exact isT rfl hc
                    · rcases List.mem_cons.mp hp with rfl | hp
                      · exact isT VR.cls hc
                      · exact List.mem_append_right _ (.tail _ hp)
          have hmG : ∀ p ∈ (dM, oM) :: newM, p.1 ≠ dG := fun p hp => hOM p hp (dG, oH) (by k_mem)
          refine grid_update (ks := keysTo wd.toNat ht.toNat 0) (ks2 := ks2) (f := f) (f2 := f2') (oM := oM) (o := oH) (rest := newM ++ (DQ, tupOf [.int way tway, .int row trow, .int col tcol] 0) :: R) (news := newM ++ ((dd, W.listOf vs7.toArray n7) :: (sdx, scrD w xa xb xc xd xe xf wd wr (.ref dS) cvS) :: (dS, W.listOf rsS.toArray nS) :: (DQ, tupOf [.int way tway, .int row trow, .int col tcol] 0) :: R)) (by show callerA.units + 3 + 2 < cLine; decide) FM hdM (News.sub NM (by repeat' (first | exact List.forall_mem_nil _ | exact fun _ h => h | (refine List.forall_mem_cons.mpr ⟨?_, ?_⟩; focus (k_mem)) | (refine List.forall_mem_append.mpr ⟨?_, ?_⟩) | (intro p9 h9; k_mem)))) ?gO (VR.mono (by repeat' (first | exact List.forall_mem_nil _ | exact fun _ h => h | (refine List.forall_mem_cons.mpr ⟨?_, ?_⟩; focus (k_mem)) | (refine List.forall_mem_append.mpr ⟨?_, ?_⟩) | (intro p9 h9; k_mem)))) (by repeat' (first | exact List.forall_mem_nil _ | exact fun _ h => h | (refine List.forall_mem_cons.mpr ⟨?_, ?_⟩; focus (k_mem)) | (refine List.forall_mem_append.mpr ⟨?_, ?_⟩) | (intro p9 h9; k_mem))) VM' ?gS ?gN ?gL ?gM ?_
          case gO =>
            refine List.forall_mem_cons.mpr ⟨hmG _ (.head _), List.forall_mem_append.mpr ⟨fun p hp => hmG p (.tail _ hp), List.forall_mem_cons.mpr ⟨Ne.symm e14, List.forall_mem_cons.mpr ⟨Ne.symm e23, List.forall_mem_cons.mpr ⟨f3, List.forall_mem_cons.mpr ⟨Nat.ne_of_gt lQ.2.2.2.1, fun p hp => oR p hp dG (by simp)⟩⟩⟩⟩⟩⟩
          case gS =>
            intro k hk
            obtain ⟨x, y, rfl⟩ := hFl.2.1 k hk
            rcases (hFl.2.2.1 x y).mp hk with h | h
            · exact keysTo_in (by omega) (by omega) h.2.2.1 h.2.2.2
            · exact absurd (Int.lt_of_le_of_lt h.2.1 h.2.2) (Int.lt_irrefl _)
          case gN => 
            rw [keysTo_len]
            have : 1 * 1 ≤ ht.toNat * wd.toNat := Nat.mul_le_mul (by omega) (by omega)
            omega
          case gL =>
            rw [keysTo_len]
            have := hmul
            omega
          case gM =>
            have h1 := hFl.1
            have : (row + 1 + bt - row).toNat * wd.toNat ≤ 6 * 7 := Nat.mul_le_mul (by omega) (by omega)
            omega
          intro oG' hG9 FG NG VG
          clear FM NM
          dsimp only
          k_steps
          · exact absurd (by assumption) hw2
          rename_i hw3 DO y3 FO NO lO
          unfold Hold
          have mO := ktn_ltOf lO.2.2
          have hMs : OwnOff ((dM, oM) :: newM) [dd, sdx, dS, dG] := ownOff_offs hOM ⟨_, .head _⟩ ⟨_, by k_mem⟩ ⟨_, by k_mem⟩ ⟨_, by k_mem⟩
          have hxQ : OwnOff [(DO, tupOf [.str (Str.ofString "delete") (tkM + 1), .int row trow, .int many tmn, .int (row + 1 + bt) tk7] 0), (DQ, tupOf [.int way tway, .int row trow, .int col tcol] 0)] [dd, sdx, dS, dG] :=
            cons4 (mO (dd, W.listOf vs7.toArray n7) (by k_mem)) (mO (sdx, scrD w xa xb xc xd xe xf wd wr (.ref dS) cvS) (by k_mem)) (mO (dS, W.listOf rsS.toArray nS) (by k_mem)) lO.1 (cons4 lQ.1 lQ.2.1 lQ.2.2.1 lQ.2.2.2.1 fun _ h => nomatch h)
          have hall : OwnOff (([(DO, tupOf [.str (Str.ofString "delete") (tkM + 1), .int row trow, .int many tmn, .int (row + 1 + bt) tk7] 0), (DQ, tupOf [.int way tway, .int row trow, .int col tcol] 0)] ++ (dM, oM) :: newM) ++ R) [dd, sdx, dS, dG] := ownOff_append (ownOff_append hxQ hMs) oR
          have hOR : Off ([(DO, tupOf [.str (Str.ofString "delete") (tkM + 1), .int row trow, .int many tmn, .int (row + 1 + bt) tk7] 0), (DQ, tupOf [.int way tway, .int row trow, .int col tcol] 0)] ++ (dM, oM) :: newM) R :=
            Off.append (Off.cons (offc lQ.2.2.2.2 Off.nil) fun q hq => Nat.ne_of_lt (mO q (by k_mem))) (hOM.sub (fun _ h => h) fun p hp => ⟨p.2, by k_mem⟩)
          refine' carry_delete (base := s₁.heap) (h₀ := s₁.heap) (tO := DO) (nO := 0) (rest := (DO, tupOf [.str (Str.ofString "delete") (tkM + 1), .int row trow, .int many tmn, .int (row + 1 + bt) tk7] 0) :: (DQ, tupOf [.int way tway, .int row trow, .int col tcol] 0) :: (dd, W.listOf vs7.toArray n7) :: (dG, oG') :: (dM, oM) :: (newM ++ R)) K FO KX T rfl (News.sub NO (by repeat' (first | exact List.forall_mem_nil _ | exact fun _ h => h | (refine List.forall_mem_cons.mpr ⟨?_, ?_⟩; focus (k_mem)) | (refine List.forall_mem_append.mpr ⟨?_, ?_⟩) | (intro p9 h9; k_mem)))) (by k_mem) ?off (Ne.symm f2) (by k_mem) hrowsR (by repeat' (first | exact List.forall_mem_nil _ | exact fun _ h => h | (refine List.forall_mem_cons.mpr ⟨?_, ?_⟩; focus (k_mem)) | (refine List.forall_mem_append.mpr ⟨?_, ?_⟩) | (intro p9 h9; k_mem))) hrows6 row0 mn0 (by omega) (by have := hSame.1; omega) (by omega) bw1 (by decide) ?_
          case off => exact off_gen hall (by k_mem) (by k_mem) (fun p hp => mem5r hp) (Ne.symm e12) (Ne.symm f1) e23 (Ne.symm f3)
          intro dR' rs' ua ub uc ud ue uf n2' newC hC tkC FC NC hOC hoC hrowsC
          dsimp only
          k_steps
          · unfold Hold
            have hcc : OwnOff newC [dd, sdx, dR', dG] := ownOff4 (fun p hp => hOC p (.tail _ hp) (_, W.listOf vs7.toArray n7) (by k_mem)) (fun p hp => hOC p (.tail _ hp) _ (.head _)) hoC (fun p hp => hOC p (.tail _ hp) (_, oG') (by k_mem))
            have hXX : OwnOff (([(DO, tupOf [.str (Str.ofString "delete") (tkM + 1), .int row trow, .int many tmn, .int (row + 1 + bt) tk7] 0), (DQ, tupOf [.int way tway, .int row trow, .int col tcol] 0)] ++ (dM, oM) :: newM) ++ R) [dd, sdx, dR', dG] := ownOff4 (fun p hp => hall p hp _ (.head _)) (fun p hp => hall p hp _ (.tail _ (.head _))) (fun p hp => Ne.symm (hOC _ (.head _) p (.tail _ (.tail _ (mem5 hp))))) (fun p hp => hall p hp _ (.tail _ (.tail _ (.tail _ (.head _)))))
            refine ⟨rfl, hC, tkC, _, (dd, W.listOf vs7.toArray n7) :: (sdx, scrD w ua ub uc ud ue uf wd wr (.ref dR') cvS) :: (dR', W.listOf rs'.toArray n2') :: (dG, oG') :: ((newC ++ ([(DO, tupOf [.str (Str.ofString "delete") (tkM + 1), .int row trow, .int many tmn, .int (row + 1 + bt) tk7] 0), (DQ, tupOf [.int way tway, .int row trow, .int col tcol] 0)] ++ (dM, oM) :: newM)) ++ R), rfl, FC, News.sub NC mmN,
              ⟨vs7, ms7, n7, _, _, _, _, _, _, wr, dR', n2', cvS, rs', oG', _, _, _, cvL, tL, cur, rfl, hI7, hD7, ownOff_append (ownOff_append hcc fun p hp => hXX p (List.mem_append_left _ hp)) (fun p hp => hXX p (List.mem_append_right _ hp)), ⟨hOC _ (.head _) (_, W.listOf vs7.toArray n7) (by k_mem), hOC _ (.head _) _ (.head _), hOC _ (.head _) (_, oG') (by k_mem)⟩, hrowsC.mono fun _ _ x => x.mono mmM, VG.mono mmV, ?sm, hcR.mono mmR, rfl, hcL.mono mmR, rfl, ?_⟩, ?_⟩
            case sm =>
              have e1 : (row.toNat : Int) = row := by omega
              have e2 : (many.toNat : Int) = many := by omega
              have e3 : ((row + 1 + bt).toNat : Int) = row + 1 + bt := by omega
              refine same_del (ks2 := ks2) hSame (by omega) (by omega) ?_
              rw [e1, e2, e3, show (row + 1 + bt).toNat - row.toNat = (row + 1 + bt - row).toNat by omega]
              exact hFl
            · exact Off.append (hOC.sub (fun p h => .tail _ h) fun p hp => ⟨p.2, by k_mem⟩) hOR
            · intro z hz
              rw [hmT]
              have z1 : z ≠ Str.ofString "_law_way" := fun e => by subst e; simp at hz
              have z2 : z ≠ Str.ofString "_law_row" := fun e => by subst e; simp at hz
              have z3 : z ≠ Str.ofString "_law_column" := fun e => by subst e; simp at hz
              have z4 : z ≠ Str.ofString "_law_bottom" := fun e => by subst e; simp at hz
              have z5 : z ≠ Str.ofString "_law_many" := fun e => by subst e; simp at hz
              simp only [z1, z2, z3, z4, z5, if_false]
    · intro fM sM hM
      w_top off
      clear row1' col1'
      obtain ⟨rfl, hM1, tkM, mM, nxM, rfl, FM, NM, hP, hmM⟩ := hM
      clear FQ NQ hI3 hD3 FT VR hrowsR hcR hcL oA hrowsA VA hcvS hcl hSame
      obtain ⟨vsC, msC, nC, xa', xb', xc', xd', xe', xf', wrC, dR', nR, cvC, rsC, oC, rowsC, fC, newC, cvLC, tLC, curC, rfl, hIC, hDC, oCC, ⟨g1, g2, g3⟩, hrowsC, VC, hSame, hcvC, hmc, hcc, hmw, hOC⟩ := hP
      obtain ⟨ac, rfl⟩ := hcvC.ref
      obtain ⟨al, rfl⟩ := hcc.ref
      rw [fr_mid hmc hmw hmM] at FM
      rw [hmT] at FM
      have hdrop : ∀ m' : Str → Option Value, m' (Str.ofString "_law_cursor") = some (.ref al) → m' (Str.ofString "_law_written") = some (.int wrC tLC) → ∃ nx', LawP w (keysTo wd.toNat ht.toNat 0) dd sdx dG wd ht T' m' nx' ∧ (∀ p ∈ nx', p ∈ (dd, W.listOf vsC.toArray nC) :: (sdx, scrD w xa' xb' xc' xd' xe' xf' wd wrC (.ref dR') (.ref ac)) :: (dR', W.listOf rsC.toArray nR) :: (dG, oC) :: (newC ++ R)) ∧ (∀ p ∈ own, p ∈ (dd, W.listOf vsC.toArray nC) :: (sdx, scrD w xa' xb' xc' xd' xe' xf' wd wrC (.ref dR') (.ref ac)) :: (dR', W.listOf rsC.toArray nR) :: (dG, oC) :: (newC ++ R)) ∧ OwnOff own (nx'.map (·.1)) := fun m' a1 a2 =>
        LawP.drop (new := new) (own := own) (hR ▸ ⟨vsC, msC, nC, _, _, _, _, _, _, wrC, dR', nR, _, rsC, oC, rowsC, fC, newC, _, tLC, curC, rfl, hIC, hDC, oCC, ⟨g1, g2, g3⟩, hrowsC, VC, hSame, hcvC, a1, hcc, a2, hOC⟩) hjk hONT fun p hp a ha => hown p hp a (by simp only [List.map_cons, List.mem_cons]; exact .inr (.inr (.inr (.inr ha))))
      dsimp only
      k_steps
      unfold Hold
      k_dflt (refine ListComp_cell (x := Str.ofString "_law_own") (F₀ := by k_asm) (by with_unfolding_all rfl) (fun _ => rfl) (fun _ => rfl) (by rfl) (by decide) (fun _ _ => rfl) ?_)
      k_steps
      unfold Hold
      rename_i y1 tk8 y2 y3 y4 y5 F1 N1 I1
      dsimp only at *
      refine' SrcC.intro (news := (dd, W.listOf vsC.toArray nC) :: (sdx, scrD w xa' xb' xc' xd' xe' xf' wd wrC (.ref dR') (.ref ac)) :: (dR', W.listOf rsC.toArray nR) :: (dG, oC) :: (newC ++ R)) ht.toNat
        (fun i ys nw => ∃ new, nw = new ++ ((dd, W.listOf vsC.toArray nC) :: (sdx, scrD w xa' xb' xc' xd' xe' xf' wd wrC (.ref dR') (.ref ac)) :: (dR', W.listOf rsC.toArray nR) :: (dG, oC) :: (newC ++ R)) ∧ Off new ((dd, W.listOf vsC.toArray nC) :: (sdx, scrD w xa' xb' xc' xd' xe' xf' wd wrC (.ref dR') (.ref ac)) :: (dR', W.listOf rsC.toArray nR) :: (dG, oC) :: (newC ++ R)) ∧ All2 (TupRowV (new ++ (newC ++ R))) ys (rowsC.take i) ∧ i ≤ ht.toNat)
        y5 (by omega) rfl F1 N1 (by omega) ?_ ⟨[], rfl, Off.nil, .nil, Nat.zero_le _⟩ (fun g₁ => ?_) (fun g₁ => ?_)
      · rintro i ys nw ⟨new, rfl, ho, ha, hi⟩
        have e1 := ha.length
        rw [List.length_take] at e1
        rw [sizeLine_eq]; omega
      · rintro i ys nw I oI C oc9 D c oc h tk t E' hi ⟨new, rfl, ho, ha, hi9⟩ hoc F2 N2 off2 offc
        k_steps
        unfold Hold
        k_dflt (refine LCg.ListComp_U (F₀ := by k_asm) (by with_unfolding_all rfl) (by decide) (by rfl) (by decide) (by rfl) ?_)
        k_steps
        unfold Hold
        rename_i z1' tk9' z2' z3' z4' z5' F3 N3 I3
        obtain ⟨r, hr, hrl⟩ := same_at (row := (i : Int)) hSame (by omega) (by omega)
        rw [show ((i : Int)).toNat = i by omega] at hr
        refine LCg.CompSrc.range (n := wd.toNat) (by rfl) F3 N3 z5' (range_small (by omega) (by omega) (by omega) (by omega)) (by rw [range_size (by omega), Int.sub_zero]) (by rw [sizeLine_eq]; omega) ?_
        intro g₂
        refine compRest_inv wd.toNat (fun j zs nw => nw = ((I, oI) :: (C, oc9) :: (D, LCg.lst ys) :: (c, oc) :: (new ++ ((dd, W.listOf vsC.toArray nC) :: (sdx, scrD w xa' xb' xc' xd' xe' xf' wd wrC (.ref dR') (.ref ac)) :: (dR', W.listOf rsC.toArray nR) :: (dG, oC) :: (newC ++ R)))) ∧ All2 (CellV (newC ++ R)) zs (r.take j)) ?_ ?_ _ 0 [] _ (by omega) ⟨rfl, .nil⟩
        · rintro zs nw ⟨rfl, hz⟩
          rw [List.take_of_length_le (by omega)] at hz
          have hzl := hz.length
          have hzl2 : zs.length ≤ 1000 := by omega
          unfold LCg.FinE
          intro D2 h4 tk4 F4 N4 o4
          k_steps
          unfold Hold
          rename_i T2 q5 F5 N5 l5
          have m5 := ktn_ltOf l5.2.2.2.2.2
          refine LCg.CompEnd.intro F5 N5 ((c, oc) :: (((T2, tupOf zs 0) :: new) ++ ((dd, W.listOf vsC.toArray nC) :: (sdx, scrD w xa' xb' xc' xd' xe' xf' wd wrC (.ref dR') (.ref ac)) :: (dR', W.listOf rsC.toArray nR) :: (dG, oC) :: (newC ++ R)))) (by repeat' (first | exact List.forall_mem_nil _ | exact fun _ h => h | (refine List.forall_mem_cons.mpr ⟨?_, ?_⟩; focus (k_mem)) | (refine List.forall_mem_append.mpr ⟨?_, ?_⟩) | (intro p9 h9; k_mem))) ⟨off2.1, ⟨Nat.ne_of_gt l5.2.1, Nat.ne_of_gt l5.2.2.1, Nat.ne_of_gt l5.2.2.2.1⟩, off2.2⟩ trivial
            ⟨_, rfl, List.forall_mem_cons.mpr ⟨Nat.ne_of_gt l5.2.2.2.2.1, offc⟩, (T2, tupOf zs 0) :: new, rfl, Off.cons ho fun q hq => Nat.ne_of_lt (m5 q (by k_mem)), ?_, hi⟩
          rw [List.take_succ, hr]
          exact (ha.mono fun _ _ x => x.mono (by repeat' (first | exact List.forall_mem_nil _ | exact fun _ h => h | (refine List.forall_mem_cons.mpr ⟨?_, ?_⟩; focus (k_mem)) | (refine List.forall_mem_append.mpr ⟨?_, ?_⟩) | (intro p9 h9; k_mem)))).append (.one ⟨T2, _, _, rfl, .head _, hz.mono fun _ _ x => x.mono (by repeat' (first | exact List.forall_mem_nil _ | exact fun _ h => h | (refine List.forall_mem_cons.mpr ⟨?_, ?_⟩; focus (k_mem)) | (refine List.forall_mem_append.mpr ⟨?_, ?_⟩) | (intro p9 h9; k_mem)))⟩)
        · rintro j zs nw v I2 oI2 C2 oC2 D2 m₂ h4 tk4 E4 hj ⟨rfl, hz⟩ ⟨t9, rfl⟩ hC2 hx2 F4 N4 off4 ne4
          dsimp only
          k_steps
          unfold Hold
          rename_i K1 q6 F6 N6 l6
          have hrj := hSame.2.2 i j (by omega) hj
          rw [hr] at hrj
          have hrj' : r[j]? = some (fC [(i : Int), (j : Int)]) := hrj
          refine grid_item (o := oC) (k := [0 + (i : Int), 0 + (j : Int)]) (rest := newC ++ R) (ok := tupOf [.int (0 + (i : Int)) t, .int (0 + (j : Int)) t9] 0) (by show callerA.units + 3 + 1 < cLine; decide) N6 VC (by k_mem) (by repeat' (first | exact List.forall_mem_nil _ | exact fun _ h => h | (refine List.forall_mem_cons.mpr ⟨?_, ?_⟩; focus (k_mem)) | (refine List.forall_mem_append.mpr ⟨?_, ?_⟩) | (intro p9 h9; k_mem))) (by k_mem) (key_of _ _ _ _ _) (keysTo_in (by omega) (by omega) (by omega) (by omega)) ?_
          intro v hv
          rw [Int.zero_add, Int.zero_add] at hv
          refine LCg.CompEnd.intro F6 N6 ((I, oI) :: (C, oc9) :: (D, LCg.lst ys) :: (c, oc) :: (new ++ ((dd, W.listOf vsC.toArray nC) :: (sdx, scrD w xa' xb' xc' xd' xe' xf' wd wrC (.ref dR') (.ref ac)) :: (dR', W.listOf rsC.toArray nR) :: (dG, oC) :: (newC ++ R)))) (by repeat' (first | exact List.forall_mem_nil _ | exact fun _ h => h | (refine List.forall_mem_cons.mpr ⟨?_, ?_⟩; focus (k_mem)) | (refine List.forall_mem_append.mpr ⟨?_, ?_⟩) | (intro p9 h9; k_mem))) off4 trivial ⟨rfl, ?_⟩
          rw [List.take_succ, hrj']
          exact hz.append (.one hv)
      · rintro ys nw ⟨new, rfl, ho, ha, hi9⟩
        unfold LCg.FinE
        intro D h tk F2 N2 o2
        have hyl : ys.length ≤ 1000 := by
          have e1 := ha.length
          rw [List.length_take] at e1
          omega
        (try dsimp only)
        k_steps
        unfold Hold
        rename_i TD y6 lD y7 F3 N3
        show wpAny _ _ (call (.ref 32) [.ref sx]) _ _ _
        rw [List.take_of_length_le (Nat.le_of_eq hSame.1)] at ha
        refine' told_spec (base := s₁.heap) (h₀ := s₁.heap) (rows := rowsC) (rs := rsC) (news := (TD, tupOf ys 0) :: (new ++ ((dd, W.listOf vsC.toArray nC) :: (sdx, scrD w xa' xb' xc' xd' xe' xf' wd wrC (.ref dR') (.ref ac)) :: (dR', W.listOf rsC.toArray nR) :: (dG, oC) :: (newC ++ R)))) K F3 KX T rfl (News.sub N3 (by repeat' (first | exact List.forall_mem_nil _ | exact fun _ h => h | (refine List.forall_mem_cons.mpr ⟨?_, ?_⟩; focus (k_mem)) | (refine List.forall_mem_append.mpr ⟨?_, ?_⟩) | (intro p9 h9; k_mem)))) (by k_mem) (by k_mem) (by k_mem) (hrowsC.mono fun _ _ x => x.mono (by repeat' (first | exact List.forall_mem_nil _ | exact fun _ h => h | (refine List.forall_mem_cons.mpr ⟨?_, ?_⟩; focus (k_mem)) | (refine List.forall_mem_append.mpr ⟨?_, ?_⟩) | (intro p9 h9; k_mem)))) (hSame.1 ▸ hht6) (fun r hr => hSame.2.1 r hr ▸ hwd7) (by decide) ?_
        intro dT ts newT hT2 tkT2 F4 N4 hOT hts
        dsimp only
        k_steps
        unfold Hold
        refine ne_all (rows := rowsC) (r1 := newT ++ ((TD, tupOf ys 0) :: (new ++ ((dd, W.listOf vsC.toArray nC) :: (sdx, scrD w xa' xb' xc' xd' xe' xf' wd wrC (.ref dR') (.ref ac)) :: (dR', W.listOf rsC.toArray nR) :: (dG, oC) :: (newC ++ R))))) (r2 := new ++ (newC ++ R)) (by show callerA.units + 3 + 64 < cLine; decide) F4 KX N4 (.head _) hts (by repeat' (first | exact List.forall_mem_nil _ | exact fun _ h => h | (refine List.forall_mem_cons.mpr ⟨?_, ?_⟩; focus (k_mem)) | (refine List.forall_mem_append.mpr ⟨?_, ?_⟩) | (intro p9 h9; k_mem))) (by k_mem) ha (by repeat' (first | exact List.forall_mem_nil _ | exact fun _ h => h | (refine List.forall_mem_cons.mpr ⟨?_, ?_⟩; focus (k_mem)) | (refine List.forall_mem_append.mpr ⟨?_, ?_⟩) | (intro p9 h9; k_mem))) ?_
        k_steps
        unfold Hold
        refine ne_cell (r1 := newC ++ R) (r2 := newC ++ R) (c := curC) (by show callerA.units + 3 + 64 < cLine; decide) F4 KX N4 hcvC (by repeat' (first | exact List.forall_mem_nil _ | exact fun _ h => h | (refine List.forall_mem_cons.mpr ⟨?_, ?_⟩; focus (k_mem)) | (refine List.forall_mem_append.mpr ⟨?_, ?_⟩) | (intro p9 h9; k_mem))) hcc (by repeat' (first | exact List.forall_mem_nil _ | exact fun _ h => h | (refine List.forall_mem_cons.mpr ⟨?_, ?_⟩; focus (k_mem)) | (refine List.forall_mem_append.mpr ⟨?_, ?_⟩) | (intro p9 h9; k_mem))) ?_
        k_steps
        · rename_i hne9; exact absurd rfl hne9
        unfold Hold
        dsimp only [InvPostG]
        obtain ⟨mE, hmE, FE⟩ : ∃ mE, mE = _ ∧ Fr s₁.heap La hT2 mE := ⟨_, rfl, F4⟩
        obtain ⟨nx', hL, hs1, hs2, hs3⟩ := hdrop mE (by rw [hmE]; rfl) (by rw [hmE]; rfl)
        refine InvEndG.intro FE N4 (nx := nx') ⟨hL, ?_⟩ hs3 (fun p hp => List.mem_cons_of_mem _ (List.mem_append_right _ (List.mem_cons_of_mem _ (List.mem_append_right _ (hs1 p hp))))) (fun p hp => List.mem_cons_of_mem _ (List.mem_append_right _ (List.mem_cons_of_mem _ (List.mem_append_right _ (hs2 p hp)))))
        intro z h1 h2
        have z1 : z ≠ Str.ofString "_law_way" := fun e => by subst e; simp at h2
        have z2 : z ≠ Str.ofString "_law_row" := fun e => by subst e; simp at h2
        have z3 : z ≠ Str.ofString "_law_column" := fun e => by subst e; simp at h2
        have z4 : z ≠ Str.ofString "_law_cells" := fun e => by subst e; simp at h2
        have z5 : z ≠ Str.ofString "_law_step" := fun e => by subst e; simp at h2
        have z6 : z ≠ Str.ofString "_law_written" := fun e => by subst e; simp at h2
        have z7 : z ≠ Str.ofString "_law_cursor" := fun e => by subst e; simp at h2
        have z8 : z ≠ Str.ofString "_law_bottom" := fun e => by subst e; simp at h2
        have z9 : z ≠ Str.ofString "_law_many" := fun e => by subst e; simp at h2
        have z10 : z ≠ Str.ofString "_law_due" := fun e => by subst e; simp at h2
        have hn9 : [Str.ofString "_law_way", Str.ofString "_law_row", Str.ofString "_law_column", Str.ofString "_law_cells", Str.ofString "_law_step", Str.ofString "_law_written", Str.ofString "_law_cursor", Str.ofString "_law_bottom", Str.ofString "_law_many"].contains z = false := by
          simp [z1, z2, z3, z4, z5, z6, z7, z8, z9]
        rw [hmE]
        dsimp only
        simp only [h1, z6, z7, z10, h2, hn9, if_false, Bool.false_eq_true]
  · clear oT' tC VT rT cT hS0 e24 e13 hIB hDB
    intro uT nxT hT0 tkT hP FT NT
    w_top off
    subst hGP
    clear hP NT
    k_steps
    unfold Hold
    refine' screen_spec (base := s₁.heap) (h₀ := s₁.heap) (news := []) K FT KX T rfl (List.forall_mem_nil _) (by omega) (by omega) (by omega) (by omega) (by decide) ?_
    intro sx2 sdx2 dR2 rs2 cv2 ua ub uc ud ue uf n2 newS h2 tk2 F2 N2 hOS hsx2 hoS hne2 hcv2 hrows2
    clear FT hOS
    rw [List.append_nil] at N2
    dsimp only
    k_steps
    unfold Hold
    rename_i y0 F3 N3
    refine For_invVF F3 rfl rfl ?_
    k_steps
    unfold Hold
    rename_i y1 tk8 y2 y3 y4 y5 F4 N4 I4
    dsimp only at y5 I4
    refine iter_range (news := (sdx2, scrD w ua ub uc ud ue uf 1 0 (.ref dR2) cv2) :: (dR2, W.listOf rs2.toArray n2) :: newS) (n := 4) [] (fun i _ nx => HandP w sx2 sdx2 dR2 i nx) rfl y5 (range_small (by omega) (by omega) (by omega) (by omega)) (range_size (by omega)) F4 N4 ⟨_, _, _, _, _, _, _, _, _, _, _, rfl, hsx2, hoS, hrows2⟩ ?_ ?_
    · rintro i t u nx h tk own hi hown ⟨va, vb, vc, vd, ve, vf, wr, cv, rs, n, new, rfl, hsx, hoff, hrows⟩ F5 N5
      simp only [List.cons_append] at N5
      refine anyInv ?_
      intro Q1
      k_steps
      unfold Hold
      rename_i D1 q1 l1 D2 q2 l2 DO q3 F6 N6 l3
      have m1 := ktn_ltOf l1.2.2
      have m2 := ktn_ltOf l2.2.2.2
      have m3 := ktn_ltOf l3.2.2.2.2
      have hx3 : OwnOff ((DO, tupOf [.str (Str.ofString "write") tk, .int (0 + (i : Int)) t, .int 0 (tk + 1), .ref D2] 0) :: (D2, tupOf [.ref D1] 0) :: (D1, tupOf [.int (65 + (0 + (i : Int))) (tk + 1 + 1 + 1), .int 0 (tk + 1 + 1 + 1 + 1)] 0) :: new) [sdx2, dR2] := ownOff_cons (List.forall_mem_cons.mpr ⟨Nat.ne_of_gt l3.2.2.1, List.forall_mem_cons.mpr ⟨Nat.ne_of_gt l2.2.1, List.forall_mem_cons.mpr ⟨Nat.ne_of_gt l1.1, fun p hp => hoff p hp _ (.head _)⟩⟩⟩) (ownOff_cons (List.forall_mem_cons.mpr ⟨Nat.ne_of_gt l3.2.2.2.1, List.forall_mem_cons.mpr ⟨Nat.ne_of_gt l2.2.2.1, List.forall_mem_cons.mpr ⟨Nat.ne_of_gt l1.2.1, fun p hp => hoff p hp _ (.tail _ (.head _))⟩⟩⟩) ownOff_nil)
      have hw3 : ∀ p ∈ own, ∀ q ∈ (DO, tupOf [.str (Str.ofString "write") tk, .int (0 + (i : Int)) t, .int 0 (tk + 1), .ref D2] 0) :: (D2, tupOf [.ref D1] 0) :: (D1, tupOf [.int (65 + (0 + (i : Int))) (tk + 1 + 1 + 1), .int 0 (tk + 1 + 1 + 1 + 1)] 0) :: new, p.1 ≠ q.1 := fun p hp => List.forall_mem_cons.mpr ⟨Nat.ne_of_lt (m3 p (List.mem_append_right _ hp)), List.forall_mem_cons.mpr ⟨Nat.ne_of_lt (m2 p (List.mem_append_right _ hp)), List.forall_mem_cons.mpr ⟨Nat.ne_of_lt (m1 p (List.mem_append_right _ hp)), fun q hq => ownOff_unmap hown p hp q (.tail _ (.tail _ hq))⟩⟩⟩
      refine' carry_write (base := s₁.heap) (h₀ := s₁.heap) (tO := DO) (nO := 0) (tA := D2) (nc := 0) (cells := [.ref D1]) (xs := [(65 + (0 + (i : Int)), 0)]) (rr := (D1, tupOf [.int (65 + (0 + (i : Int))) (tk + 1 + 1 + 1), .int 0 (tk + 1 + 1 + 1 + 1)] 0) :: new) (rest := ((DO, tupOf [.str (Str.ofString "write") tk, .int (0 + (i : Int)) t, .int 0 (tk + 1), .ref D2] 0) :: (D2, tupOf [.ref D1] 0) :: (D1, tupOf [.int (65 + (0 + (i : Int))) (tk + 1 + 1 + 1), .int 0 (tk + 1 + 1 + 1 + 1)] 0) :: new) ++ own) K F6 KX T rfl (News.sub N6 (by repeat' (first | exact List.forall_mem_nil _ | exact fun _ h => h | (refine List.forall_mem_cons.mpr ⟨?_, ?_⟩; focus (k_mem)) | (refine List.forall_mem_append.mpr ⟨?_, ?_⟩) | (intro p9 h9; k_mem)))) (by k_mem) (ownOff_append hx3 fun p hp a ha => hown p hp a (by simp only [List.map_cons, List.mem_cons, List.not_mem_nil, or_false] at ha ⊢; rcases ha with h | h <;> simp [h])) hne2 (by k_mem) (by k_mem) (.one (.inr ⟨D1, _, _, _, rfl, .head _⟩)) (hrows.mono fun _ _ x => x.mono (by repeat' (first | exact List.forall_mem_nil _ | exact fun _ h => h | (refine List.forall_mem_cons.mpr ⟨?_, ?_⟩; focus (k_mem)) | (refine List.forall_mem_append.mpr ⟨?_, ?_⟩) | (intro p9 h9; k_mem)))) (by repeat' (first | exact List.forall_mem_nil _ | exact fun _ h => h | (refine List.forall_mem_cons.mpr ⟨?_, ?_⟩; focus (k_mem)) | (refine List.forall_mem_append.mpr ⟨?_, ?_⟩) | (intro p9 h9; k_mem))) (Nat.le_of_ble_eq_true rfl) (hand_get hi) (by omega) (by omega) (by omega) (Nat.le_of_ble_eq_true rfl) (Nat.le_of_ble_eq_true rfl) (by decide) ?_
      intro rs' ua ub uc ud ue uf n2' newC hC tkC FC NC hOC hrowsC
      dsimp only
      k_steps
      unfold Hold
      dsimp only [InvPostG]
      rw [hand_set hi] at hrowsC
      refine InvEndG.intro (by assumption) (by assumption) (nx := (sdx2, scrD w ua ub uc ud ue uf 1 (wr + (([(65 + (0 + (i : Int)), 0)] : List Cell).length : Nat)) (.ref dR2) cv) :: (dR2, W.listOf rs'.toArray n2') :: (newC ++ ((DO, tupOf [.str (Str.ofString "write") tk, .int (0 + (i : Int)) t, .int 0 (tk + 1), .ref D2] 0) :: (D2, tupOf [.ref D1] 0) :: (D1, tupOf [.int (65 + (0 + (i : Int))) (tk + 1 + 1 + 1), .int 0 (tk + 1 + 1 + 1 + 1)] 0) :: new)))
        ⟨⟨_, _, _, _, _, _, _, _, _, _, _, rfl, by k_mem, ownOff_append (ownOff_cons (fun p hp => hOC p hp (sdx2, scrD w va vb vc vd ve vf 1 wr (.ref dR2) cv) (by k_mem)) (ownOff_cons (fun p hp => hOC p hp (dR2, W.listOf rs.toArray n) (by k_mem)) ownOff_nil)) hx3, hrowsC.mono fun _ _ x => x.mono (by repeat' (first | exact List.forall_mem_nil _ | exact fun _ h => h | (refine List.forall_mem_cons.mpr ⟨?_, ?_⟩; focus (k_mem)) | (refine List.forall_mem_append.mpr ⟨?_, ?_⟩) | (intro p9 h9; k_mem)))⟩, ?_⟩ ?_ (by repeat' (first | exact List.forall_mem_nil _ | exact fun _ h => h | (refine List.forall_mem_cons.mpr ⟨?_, ?_⟩; focus (k_mem)) | (refine List.forall_mem_append.mpr ⟨?_, ?_⟩) | (intro p9 h9; k_mem))) (by repeat' (first | exact List.forall_mem_nil _ | exact fun _ h => h | (refine List.forall_mem_cons.mpr ⟨?_, ?_⟩; focus (k_mem)) | (refine List.forall_mem_append.mpr ⟨?_, ?_⟩) | (intro p9 h9; k_mem)))
      · intro z h1 h2
        simp only [h1, if_false]
        rfl
      · exact ownOff_map fun p hp => List.forall_mem_cons.mpr ⟨ownOff_unmap hown p hp (sdx2, scrD w va vb vc vd ve vf 1 wr (.ref dR2) cv) (.head _), List.forall_mem_cons.mpr ⟨ownOff_unmap hown p hp (dR2, W.listOf rs.toArray n) (.tail _ (.head _)), fun q hq => (List.mem_append.mp hq).elim (fun hq => Ne.symm (hOC q hq p (by k_mem))) (hw3 p hp q)⟩⟩
    · rintro u nx h tk ⟨va, vb, vc, vd, ve, vf, wr, cv, rs, n, new, rfl, hsx, hoff, hrows⟩ F5 N5
      k_steps
      unfold Hold
      rename_i DO q3 F6 N6 l3
      refine' carry_insert (base := s₁.heap) (h₀ := s₁.heap) (tO := DO) (nO := 0) (rr := new) (rest := (DO, tupOf [.str (Str.ofString "insert") tk, .int 0 (tk + 1), .int 1 (tk + 1 + 1), .int 3 (tk + 1 + 1 + 1)] 0) :: new) K F6 KX T rfl (News.sub N6 (by repeat' (first | exact List.forall_mem_nil _ | exact fun _ h => h | (refine List.forall_mem_cons.mpr ⟨?_, ?_⟩; focus (k_mem)) | (refine List.forall_mem_append.mpr ⟨?_, ?_⟩) | (intro p9 h9; k_mem)))) (by k_mem) (ownOff_cons (List.forall_mem_cons.mpr ⟨Nat.ne_of_gt l3.1, fun p hp => hoff p hp _ (.head _)⟩) (ownOff_cons (List.forall_mem_cons.mpr ⟨Nat.ne_of_gt l3.2.1, fun p hp => hoff p hp _ (.tail _ (.head _))⟩) ownOff_nil)) hne2 (.head _) hrows (by repeat' (first | exact List.forall_mem_nil _ | exact fun _ h => h | (refine List.forall_mem_cons.mpr ⟨?_, ?_⟩; focus (k_mem)) | (refine List.forall_mem_append.mpr ⟨?_, ?_⟩) | (intro p9 h9; k_mem))) (Nat.le_of_ble_eq_true rfl) (by omega) (by omega) (by omega) (by decide) (by omega) (by omega) (by decide) ?_
      intro dR3 rs3 ua ub uc ud ue uf n3' newC hC tkC FC NC hOC hoC hrowsC
      dsimp only
      k_steps
      unfold Hold
      k_dflt (refine ListComp_tup (F₀ := by k_asm) (by with_unfolding_all rfl) (by decide) (by rfl) (by decide) (by rfl) ?_)
      k_steps
      unfold Hold
      have hI : insRows (handRows 4) (0 : Int).toNat (1 : Int).toNat (3 : Int).toNat (1 : Int).toNat = ([[(32, 0)], [(65, 0)], [(66, 0)], [(68, 0)]] : List (List Cell)) := rfl
      rw [hI] at hrowsC
      show wpAny _ _ (call (.ref 32) [.ref sx2]) _ _ _
      refine' told_spec (base := s₁.heap) (h₀ := s₁.heap) (rows := ([[(32, 0)], [(65, 0)], [(66, 0)], [(68, 0)]] : List (List Cell))) (rs := rs3) (news := (sdx2, scrD w ua ub uc ud ue uf 1 wr (.ref dR3) cv) :: (dR3, W.listOf rs3.toArray n3') :: (newC ++ ((DO, tupOf [.str (Str.ofString "insert") tk, .int 0 (tk + 1), .int 1 (tk + 1 + 1), .int 3 (tk + 1 + 1 + 1)] 0) :: new))) K FC KX T rfl NC (by k_mem) (by k_mem) (by k_mem) (hrowsC.mono fun _ _ x => x.mono (by repeat' (first | exact List.forall_mem_nil _ | exact fun _ h => h | (refine List.forall_mem_cons.mpr ⟨?_, ?_⟩; focus (k_mem)) | (refine List.forall_mem_append.mpr ⟨?_, ?_⟩) | (intro p9 h9; k_mem)))) (by decide) (by decide) (by decide) ?_
      intro dT ts newT hT3 tkT3 F8 N8 hOT hts
      dsimp only
      have htl := hts.length
      have htl4 : ts.length = 4 := htl
      refine SrcTup.intro (k := 0) rfl F8 N8 (.head _) (by rw [sizeLine_eq]; omega) ?_
      intro g₁
      refine compRest_inv ts.length (fun i ys nw => nw = ((dT, tupOf ts 0) :: (newT ++ ((sdx2, scrD w ua ub uc ud ue uf 1 wr (.ref dR3) cv) :: (dR3, W.listOf rs3.toArray n3') :: (newC ++ ((DO, tupOf [.str (Str.ofString "insert") tk, .int 0 (tk + 1), .int 1 (tk + 1 + 1), .int 3 (tk + 1 + 1 + 1)] 0) :: new))))) ∧ IntsAre ys ((([[(32, 0)], [(65, 0)], [(66, 0)], [(68, 0)]] : List (List Cell)).take i).map (fun r => (r.getD 0 (0, 0)).1))) ?_ ?_ _ 0 [] _ (Nat.zero_add _) ⟨rfl, .nil⟩
      · rintro ys nw ⟨rfl, hy⟩
        rw [htl4] at hy
        have hy' : IntsAre ys [32, 65, 66, 68] := hy
        unfold LCg.FinE
        intro D h5 tk5 F9 N9 o9
        k_steps
      · rintro i ys nw v I oI C oC D m₂ h5 tk5 E' hi ⟨rfl, hy⟩ hv hC hx F9 N9 off9 ne9
        rw [List.getElem?_toArray] at hv
        obtain ⟨row, hrow, ra, vs, n5, rfl, hm, hcs⟩ := hts.get' i v hv
        obtain ⟨c, rfl⟩ : ∃ c, row = [c] := by
          have := List.mem_of_getElem? hrow
          simp only [List.mem_cons, List.not_mem_nil, or_false] at this
          rcases this with h | h | h | h <;> exact ⟨_, h⟩
        obtain ⟨x, rfl, hc⟩ : ∃ x, vs = [x] ∧ CellV (newT ++ ((sdx2, scrD w ua ub uc ud ue uf 1 wr (.ref dR3) cv) :: (dR3, W.listOf rs3.toArray n3') :: (newC ++ ((DO, tupOf [.str (Str.ofString "insert") tk, .int 0 (tk + 1), .int 1 (tk + 1 + 1), .int 3 (tk + 1 + 1 + 1)] 0) :: new)))) x c := by
          cases hcs with
          | cons hc h0 => cases h0; exact ⟨_, rfl, hc⟩
        obtain ⟨xa, rfl⟩ := hc.ref
        dsimp only
        k_steps
        unfold Hold
        refine cell_item0 F9 KX N9 hc (by repeat' (first | exact List.forall_mem_nil _ | exact fun _ h => h | (refine List.forall_mem_cons.mpr ⟨?_, ?_⟩; focus (k_mem)) | (refine List.forall_mem_append.mpr ⟨?_, ?_⟩) | (intro p9 h9; k_mem))) ?_
        intro t8
        refine LCg.CompEnd.intro F9 N9 ((dT, tupOf ts 0) :: (newT ++ ((sdx2, scrD w ua ub uc ud ue uf 1 wr (.ref dR3) cv) :: (dR3, W.listOf rs3.toArray n3') :: (newC ++ ((DO, tupOf [.str (Str.ofString "insert") tk, .int 0 (tk + 1), .int 1 (tk + 1 + 1), .int 3 (tk + 1 + 1 + 1)] 0) :: new))))) (by repeat' (first | exact List.forall_mem_nil _ | exact fun _ h => h | (refine List.forall_mem_cons.mpr ⟨?_, ?_⟩; focus (k_mem)) | (refine List.forall_mem_append.mpr ⟨?_, ?_⟩) | (intro p9 h9; k_mem))) off9 (.head _) ⟨rfl, ?_⟩
        rw [List.take_succ, hrow, List.map_append]
        exact hy.append (.cons _ t8 .nil)
end
end Mine
theorem PySem.Challenge.cw_ok0039_01_holds : PySem.Challenge.rw_ok0039_01.Holds := by
  exact Mine.law_holds
