import PyProof.Rows.All
import Wide.All
import OpenK.AllK
import Wide.FinOn
import Open.SpecLaws
import KE.OsGo
import HandS.ForSpec
import HandS.TryMany
import PyProof.EqAt
import PyProof.EqKinds
import PyProof.TupleCall
import HandS.Comp
import HandS.Dict
import HandS.Iter
import HandS.Text
import HandS.Lambda
import HandS.Nested
import KE.GoesEnum
import HandS.ExcInit
import HandS.ExcField
import HandS.TupSets
import HandS.SortKw
import KE.SortKeyHeap
import KE.SortData
import HandS.ListItems
import HandS.TryOnly
import HandS.Deep
import HandS.Walk
import HandS.WordsExc
import PyProof.NeKinds
import HandS.CallLocal
import HandS.ExcOwn
import HandS.EndTab
import HandS.Spec
import KE.KNest
import PySem.Challenge.RW_readyanswers_s01_answers
set_option Elab.async false
set_option linter.all false
set_option maxRecDepth 100000
set_option maxHeartbeats 4000000
/-! Fw1: what stays and what is told: extension of heaps, things told by their heap, weakest wishes of expressions, tests, statements. -/
namespace G5
open PySem PySem.Spec PyProof.Rows L2

abbrev NTab := NdefX.NTab
abbrev Tb (T : List NTab) (H : Hp) : Prop := NdefX.TabsN T H
def NT (o : HO) : Prop := ∀ ps, o ≠ .tbl ps
/-- H' knows all that H knows (a table of code objects may have grown) -/
structure Xt (T : List NTab) (H H' : Hp) : Prop where
  ex : ∀ a o, H a = some o → NT o → H' a = some o
  tb : Tb T H → Tb T H'
  fr : ∀ a, H' a = none → H a = none
theorem nt_lst {xs : List V} : NT (.lst xs) := fun _ z => nomatch z
theorem nt_tup {xs : List V} : NT (.tup xs) := fun _ z => nomatch z
theorem nt_frz {o : Obj} {u : HO} : NT (.frz o u) := fun _ z => nomatch z
theorem nt_ins {C dx : Addr} {fs : List (Str × V)} : NT (.ins C dx fs) := fun _ z => nomatch z
theorem nt_dK {kvs : List (Key × V)} : NT (.dK kvs) := fun _ z => nomatch z
theorem nt_own {a : Addr} : NT (.own a) := fun _ z => nomatch z
theorem nt_xd {fs : List (Str × V)} : NT (.xd fs) := fun _ z => nomatch z
variable {T : List NTab}
theorem Xt.refl (H : Hp) : Xt T H H := ⟨fun _ _ h _ => h, fun h => h, fun _ h => h⟩
theorem Xt.trans {H H1 H2 : Hp} (a : Xt T H H1) (b : Xt T H1 H2) : Xt T H H2 :=
  ⟨fun p o h n => b.ex p o (a.ex p o h n) n, fun h => b.tb (a.tb h), fun p h => a.fr p (b.fr p h)⟩
theorem tb_upd {H : Hp} {p : Addr} {o : HO} (h : ∀ u, H p = some u → ∃ xs C dx fs kvs x, u = .lst xs ∨ u = .ins C dx fs ∨ u = .dK kvs ∨ u = .own x) (t : Tb T H) : Tb T (upd H p o) := by
  intro q hq
  obtain ⟨ps, h1, h2, h3⟩ := t q hq
  have key : ∀ {a : Addr} {u : HO}, H a = some u → (∀ xs C dx fs kvs x, u ≠ .lst xs ∧ u ≠ .ins C dx fs ∧ u ≠ .dK kvs ∧ u ≠ .own x) → upd H p o a = some u := fun {a u} e n => by
    rw [upd_ne]
    · exact e
    · rintro rfl
      obtain ⟨xs, C, dx, fs, kvs, x, z⟩ := h _ e
      obtain ⟨n1, n2, n3, n4⟩ := n xs C dx fs kvs x
      rcases z with z | z | z | z
      · exact n1 z
      · exact n2 z
      · exact n3 z
      · exact n4 z
  refine ⟨ps, key h1 fun xs C dx fs kvs x => ⟨(fun z => nomatch z), (fun z => nomatch z), (fun z => nomatch z), (fun z => nomatch z)⟩, h2, fun pos cv hc => ?_⟩
  obtain ⟨c, e1, e2⟩ := h3 pos cv hc
  refine ⟨c, e1, key e2 fun xs C dx fs kvs x => ⟨fun z => ?_, fun z => ?_, fun z => ?_, fun z => ?_⟩⟩ <;> (unfold LamX.CodeO at z; exact nomatch z)
/-- a new object -/
theorem Xt.new {H : Hp} {p : Addr} {o : HO} (h : H p = none) : Xt T H (upd H p o) :=
  ⟨fun a u e _ => by rw [upd_ne (ne_of_none e h)]; exact e, tb_upd (fun u e => by rw [h] at e; cases e), fun a e => by
    by_cases hb : a = p
    · subst hb; exact h
    · rw [upd_ne hb] at e; exact e⟩
/-- an object that B does not know changes -/
theorem Xt.mut {B H : Hp} {p : Addr} {o u : HO} (x : Xt T B H) (h : B p = none) (hp : H p = some u) (hu : ∃ xs C dx fs kvs x, u = .lst xs ∨ u = .ins C dx fs ∨ u = .dK kvs ∨ u = .own x) : Xt T B (upd H p o) :=
  ⟨fun a v e n => by rw [upd_ne (ne_of_none e h)]; exact x.ex a v e n, fun t => tb_upd (fun v e => by rw [hp] at e; cases e; exact hu) (x.tb t), fun a e => by
    by_cases hb : a = p
    · subst hb; exact h
    · rw [upd_ne hb] at e; exact x.fr a e⟩
theorem Xt.mutL {B H : Hp} {p : Addr} {o : HO} {xs : List V} (x : Xt T B H) (h : B p = none) (hp : H p = some (.lst xs)) : Xt T B (upd H p o) := x.mut h hp ⟨xs, 0, 0, [], [], 0, .inl rfl⟩
theorem Xt.mutI {B H : Hp} {p C dx : Addr} {o : HO} {fs : List (Str × V)} (x : Xt T B H) (h : B p = none) (hp : H p = some (.ins C dx fs)) : Xt T B (upd H p o) := x.mut h hp ⟨[], C, dx, fs, [], 0, .inr (.inl rfl)⟩
theorem Xt.mutD {B H : Hp} {p : Addr} {o : HO} {kvs : List (Key × V)} (x : Xt T B H) (h : B p = none) (hp : H p = some (.dK kvs)) : Xt T B (upd H p o) := x.mut h hp ⟨[], 0, 0, [], kvs, 0, .inr (.inr (.inl rfl))⟩
theorem Xt.same {H H' : Hp} (h : Same H H') : Xt T H H' := ⟨fun a o e _ => h a o e, fun t p hp => (t p hp).ext h, fun a e => Same.free h e⟩
theorem Xt.seqL {K : PySem.W.Frag} {H H' : Hp} {a : Addr} {xs : List V} (x : Xt T H H') (h : SqL K H a xs) : SqL K H' a xs := by
  rcases h with (h | ⟨o, h⟩) | h
  · exact .inl (.inl (x.ex _ _ h nt_lst))
  · exact .inl (.inr ⟨o, x.ex _ _ h nt_frz⟩)
  · exact .inr h
theorem Xt.seqT {K : PySem.W.Frag} {H H' : Hp} {a : Addr} {xs : List V} (x : Xt T H H') (h : SqT K H a xs) : SqT K H' a xs := by
  rcases h with (h | ⟨o, h⟩) | h
  · exact .inl (.inl (x.ex _ _ h nt_tup))
  · exact .inl (.inr ⟨o, x.ex _ _ h nt_frz⟩)
  · exact .inr h

/-! ### what a value tells in a heap -/
abbrev Rp (α : Type) := Hp → V → α → Prop
/-- what is told stays told -/
class Mono (T : List NTab) {α : Type} (R : Rp α) : Prop where
  mono : ∀ {H H' : Hp} {v : V} {x : α}, Xt T H H' → R H v x → R H' v x
def RI : Rp Int := fun _ v i => v = .int i
def RN : Rp Nat := fun _ v n => v = .int (n : Int)
def RB : Rp Bool := fun _ v b => v = .bl b
def RS : Rp Str := fun _ v x => v = .str x
def RV : Rp V := fun _ v x => v = x
/-- two lists told place by place -/
inductive All2 {α β : Type} (R : α → β → Prop) : List α → List β → Prop
  | nil : All2 R [] []
  | cons {a : α} {b : β} {l : List α} {m : List β} : R a b → All2 R l m → All2 R (a :: l) (b :: m)
/-- a list that may be read -/
def RL {α : Type} (K : PySem.W.Frag) (R : Rp α) : Rp (List α) := fun H v xs => ∃ a vs, v = .ref a ∧ SqL K H a vs ∧ All2 (R H) vs xs
/-- a tuple of alike things -/
def RTs {α : Type} (K : PySem.W.Frag) (R : Rp α) : Rp (List α) := fun H v xs => ∃ a vs, v = .ref a ∧ SqT K H a vs ∧ All2 (R H) vs xs
/-- a pair -/
def RP {α β : Type} (K : PySem.W.Frag) (R : Rp α) (S : Rp β) : Rp (α × β) := fun H v x => ∃ a v1 v2, v = .ref a ∧ SqT K H a [v1, v2] ∧ R H v1 x.1 ∧ S H v2 x.2
/-- a list of ours: tracked as a list -/
def RM {α : Type} (R : Rp α) : Rp (List α) := fun H v xs => ∃ a vs, v = .ref a ∧ H a = some (.lst vs) ∧ All2 (R H) vs xs
theorem RM.rl {α : Type} {K : PySem.W.Frag} {R : Rp α} {H : Hp} {v : V} {xs : List α} (h : RM R H v xs) : RL K R H v xs := by
  obtain ⟨a, vs, e, h1, h2⟩ := h
  exact ⟨a, vs, e, SqL.of h1, h2⟩
section
variable {α β : Type} {R : α → β → Prop}
theorem All2.imp {S : α → β → Prop} (f : ∀ a b, R a b → S a b) : ∀ {l : List α} {m : List β}, All2 R l m → All2 S l m
  | _, _, .nil => .nil
  | _, _, .cons h t => .cons (f _ _ h) (t.imp f)
theorem All2.length : ∀ {l : List α} {m : List β}, All2 R l m → l.length = m.length
  | _, _, .nil => rfl
  | _, _, .cons _ t => congrArg (· + 1) t.length
theorem All2.get : ∀ {l : List α} {m : List β} {i : Nat} {b : β}, All2 R l m → m[i]? = some b → ∃ a, l[i]? = some a ∧ R a b
  | _, _, _, _, .nil, e => by simp at e
  | _, _, 0, _, .cons h _, e => by simp at e; subst e; exact ⟨_, rfl, h⟩
  | _, _, i + 1, b, .cons _ t, e => by
    obtain ⟨a, h1, h2⟩ := t.get (i := i) (b := b) (by simpa using e)
    exact ⟨a, by simpa using h1, h2⟩
theorem All2.getL : ∀ {l : List α} {m : List β} {i : Nat} {a : α}, All2 R l m → l[i]? = some a → ∃ b, m[i]? = some b ∧ R a b
  | _, _, _, _, .nil, e => by simp at e
  | _, _, 0, _, .cons h _, e => by simp at e; subst e; exact ⟨_, rfl, h⟩
  | _, _, i + 1, a, .cons _ t, e => by
    obtain ⟨b, h1, h2⟩ := t.getL (i := i) (a := a) (by simpa using e)
    exact ⟨b, by simpa using h1, h2⟩
theorem All2.append : ∀ {l l' : List α} {m m' : List β}, All2 R l m → All2 R l' m' → All2 R (l ++ l') (m ++ m')
  | _, _, _, _, .nil, s => s
  | _, _, _, _, .cons h t, s => .cons h (t.append s)
theorem All2.take : ∀ {l : List α} {m : List β} (n : Nat), All2 R l m → All2 R (l.take n) (m.take n)
  | _, _, 0, _ => .nil
  | _, _, _ + 1, .nil => .nil
  | _, _, n + 1, .cons h t => .cons h (t.take n)
theorem All2.drop : ∀ {l : List α} {m : List β} (n : Nat), All2 R l m → All2 R (l.drop n) (m.drop n)
  | _, _, 0, h => h
  | _, _, _ + 1, .nil => .nil
  | _, _, n + 1, .cons _ t => t.drop n
theorem All2.snoc {l : List α} {m : List β} {a : α} {b : β} (h : All2 R l m) (r : R a b) : All2 R (l ++ [a]) (m ++ [b]) := h.append (.cons r .nil)
theorem All2.set : ∀ {l : List α} {m : List β} {a : α} {b : β} (i : Nat), All2 R l m → R a b → All2 R (l.set i a) (m.set i b)
  | _, _, _, _, _, .nil, _ => .nil
  | _, _, _, _, 0, .cons _ t, r => .cons r t
  | _, _, _, _, i + 1, .cons h t, r => .cons h (t.set i r)
theorem All2.eraseIdx : ∀ {l : List α} {m : List β} (i : Nat), All2 R l m → All2 R (l.eraseIdx i) (m.eraseIdx i)
  | _, _, _, .nil => .nil
  | _, _, 0, .cons _ t => t
  | _, _, i + 1, .cons h t => .cons h (t.eraseIdx i)
end
theorem all2_map {α β : Type} {f : β → α} {R : α → β → Prop} (h : ∀ b, R (f b) b) : ∀ l : List β, All2 R (l.map f) l
  | [] => .nil
  | b :: l => .cons (h b) (all2_map h l)
theorem all2_ints {H : Hp} {vs : List V} {xs : List Int} (h : All2 (RI H) vs xs) : vs = xs.map V.int := by
  induction h with
  | nil => rfl
  | cons h _ ih => rw [ih, List.map_cons, show _ = V.int _ from h]
theorem all2_nats {H : Hp} {vs : List V} {xs : List Nat} (h : All2 (RN H) vs xs) : vs = xs.map fun (n : Nat) => V.int (n : Int) := by
  induction h with
  | nil => rfl
  | cons h _ ih => rw [ih, List.map_cons, show _ = V.int _ from h]
theorem ints_all2 {H : Hp} (xs : List Int) : All2 (RI H) (xs.map V.int) xs := all2_map (f := V.int) (fun _ => rfl) xs
theorem nats_all2 {H : Hp} (xs : List Nat) : All2 (RN H) (xs.map fun (n : Nat) => V.int (n : Int)) xs := all2_map (f := fun (n : Nat) => V.int (n : Int)) (fun _ => rfl) xs
instance : Mono T RI := ⟨fun _ h => h⟩
instance : Mono T RN := ⟨fun _ h => h⟩
instance : Mono T RB := ⟨fun _ h => h⟩
instance : Mono T RS := ⟨fun _ h => h⟩
instance : Mono T RV := ⟨fun _ h => h⟩
section
variable {α β : Type} {K : PySem.W.Frag} {R : Rp α} {S : Rp β}
theorem All2.mono [Mono T R] {H H' : Hp} {vs : List V} {xs : List α} (x : Xt T H H') (h : All2 (R H) vs xs) : All2 (R H') vs xs := h.imp fun _ _ r => Mono.mono x r
instance [Mono T R] : Mono T (RL K R) := ⟨fun x ⟨a, vs, e, h1, h2⟩ => ⟨a, vs, e, x.seqL h1, h2.mono x⟩⟩
instance [Mono T R] : Mono T (RM R) := ⟨fun x ⟨a, vs, e, h1, h2⟩ => ⟨a, vs, e, x.ex _ _ h1 nt_lst, h2.mono x⟩⟩
instance [Mono T R] : Mono T (RTs K R) := ⟨fun x ⟨a, vs, e, h1, h2⟩ => ⟨a, vs, e, x.seqT h1, h2.mono x⟩⟩
instance [Mono T R] [Mono T S] : Mono T (RP K R S) := ⟨fun x ⟨a, v1, v2, e, h1, h2, h3⟩ => ⟨a, v1, v2, e, x.seqT h1, Mono.mono x h2, Mono.mono x h3⟩⟩
end

/-! ### the weakest wish of an expression, a test, arguments, statements, a target -/
def We (X : Cx) (e : Expr) : TE := fun σ H Q => ∀ (pins : List (Addr × Obj)) (s : Shared), Inv X pins σ H s → wpAny (model X.prog X.w) X.A (eval e X.env) (EP X pins σ Q) X.xe s
def Wt (X : Cx) (e : Expr) : TT := fun σ H Q => ∀ (pins : List (Addr × Obj)) (s : Shared), Inv X pins σ H s → wpAny (model X.prog X.w) X.A (isTrue e X.env (eval e X.env)) (TP X pins σ Q) X.xe s
def Wa (X : Cx) (es : List Expr) : TA := fun σ H Q => ∀ (pos : Pos) (pins : List (Addr × Obj)) (s : Shared), Inv X pins σ H s → wpAny (model X.prog X.w) X.A (spliced (backTo pos (starEach es X.env))) (AP X pins σ Q) X.xe s
def Ws (X : Cx) (st : Stmt) : TS := fun D σ H => ∀ (pins : List (Addr × Obj)) (s : Shared), Inv X pins σ H s → wpAny (model X.prog X.w) X.A (exec st X.env) (SP X pins D) X.xe s
def Wb (X : Cx) (st : List Stmt) : TS := fun D σ H => ∀ (pins : List (Addr × Obj)) (s : Shared), Inv X pins σ H s → wpAny (model X.prog X.w) X.A (execs st X.env) (SP X pins D) X.xe s
section
variable {X : Cx} {e : Expr} {es : List Expr} {st : Stmt} {sts : List Stmt} {σ : L2.St} {H : Hp}
theorem we : PE X e (We X e) := ⟨fun pins s _ _ _ I h => h pins s I⟩
theorem wt : PT X e (Wt X e) := ⟨fun pins s _ _ _ I h => h pins s I⟩
theorem wa : PA X es (Wa X es) := ⟨fun pos pins s _ _ _ I h => h pos pins s I⟩
theorem ws : PS X st (Ws X st) := ⟨fun pins s _ _ _ I h => h pins s I⟩
theorem wb : PSs X sts (Wb X sts) := ⟨fun pins s _ _ _ I h => h pins s I⟩
theorem We.of {t : TE} {Q : VK} (h : PE X e t) (q : t σ H Q) : We X e σ H Q := fun pins s I => h.run pins s σ H Q I q
theorem Wt.of {t : TT} {Q : Bool → Hp → Prop} (h : PT X e t) (q : t σ H Q) : Wt X e σ H Q := fun pins s I => h.run pins s σ H Q I q
theorem Wa.of {t : TA} {Q : List V → Hp → Prop} (h : PA X es t) (q : t σ H Q) : Wa X es σ H Q := fun pos pins s I => h.run pos pins s σ H Q I q
theorem Ws.of {t : TS} {D : Ends} (h : PS X st t) (q : t D σ H) : Ws X st D σ H := fun pins s I => h.run pins s σ H D I q
theorem Wb.of {t : TS} {D : Ends} (h : PSs X sts t) (q : t D σ H) : Wb X sts D σ H := fun pins s I => h.run pins s σ H D I q
theorem We.imp {Q Q' : VK} (h : We X e σ H Q) (f : ∀ v H', Q v H' → Q' v H') : We X e σ H Q' := fun pins s I => thn (h pins s I) fun u s1 ⟨v, H1, I1, r, q⟩ => ⟨v, H1, I1, r, f v H1 q⟩
theorem wb_nil {D : Ends} (h : D.nx σ H) : Wb X [] D σ H := Wb.of pss_nil h
theorem wb_cons {D : Ends} (h : Ws X st { D with nx := fun σ' H' => Wb X sts D σ' H' } σ H) : Wb X (st :: sts) D σ H := Wb.of (pss_cons ws wb) h
end

/-! ### what an expression comes to, whatever else is made -/
def Ev (T : List NTab) {α : Type} (X : Cx) (R : Rp α) (e : Expr) (σ : L2.St) (H : Hp) (x : α) : Prop :=
  ∀ H1, Xt T H H1 → ∀ Q : VK, (∀ v H2, Xt T H1 H2 → R H2 v x → Q v H2) → We X e σ H1 Q
def EvT (T : List NTab) (X : Cx) (e : Expr) (σ : L2.St) (H : Hp) (b : Bool) : Prop :=
  ∀ H1, Xt T H H1 → ∀ Q : Bool → Hp → Prop, (∀ H2, Xt T H1 H2 → Q b H2) → Wt X e σ H1 Q
section
variable {X : Cx} {e a b c : Expr} {es : List Expr} {σ : L2.St} {H H' : Hp} {α β γ : Type} {R : Rp α} {S : Rp β} {x : α} {y : β}
theorem Ev.now (h : Ev T X R e σ H x) {Q : VK} (q : ∀ v H2, Xt T H H2 → R H2 v x → Q v H2) : We X e σ H Q := h H (Xt.refl H) Q q
theorem EvT.now {k : Bool} (h : EvT T X e σ H k) {Q : Bool → Hp → Prop} (q : ∀ H2, Xt T H H2 → Q k H2) : Wt X e σ H Q := h H (Xt.refl H) Q q
theorem Ev.up (h : Ev T X R e σ H x) (u : Xt T H H') : Ev T X R e σ H' x := fun H1 e1 Q q => h H1 (u.trans e1) Q q
theorem EvT.up {k : Bool} (h : EvT T X e σ H k) (u : Xt T H H') : EvT T X e σ H' k := fun H1 e1 Q q => h H1 (u.trans e1) Q q
theorem Ev.is {z : α} (h : Ev T X R e σ H x) (q : x = z) : Ev T X R e σ H z := q ▸ h
theorem EvT.is {k k' : Bool} (h : EvT T X e σ H k) (q : k = k') : EvT T X e σ H k' := q ▸ h
theorem Ev.to (h : Ev T X R e σ H x) (f : ∀ H2 v, Xt T H H2 → R H2 v x → S H2 v y) : Ev T X S e σ H y := fun H1 e1 Q q => h H1 e1 Q fun v H2 e2 r => q v H2 e2 (f H2 v (e1.trans e2) r)
/-- one operand, two operands, told by the rule of the operation -/
theorem ev_1 {r : V → Hp → VK → Prop} {t : TE} (hp : PE X e t) (ht : ∀ H1 Q, (We X a σ H1 fun v H2 => r v H2 Q) → t σ H1 Q) (ha : Ev T X R a σ H x)
    (hr : ∀ H1 v, Xt T H H1 → R H1 v x → ∀ Q : VK, (∀ v' H2, Xt T H1 H2 → S H2 v' y → Q v' H2) → r v H1 Q) : Ev T X S e σ H y := fun H1 e1 Q q =>
  We.of hp (ht H1 Q (ha H1 e1 _ fun v H2 e2 r2 => hr H2 v (e1.trans e2) r2 Q fun v' H3 e3 r3 => q v' H3 (e2.trans e3) r3))
end
end G5
/-! Fw2: what each expression comes to. -/
namespace G5
open PySem PySem.Spec PyProof.Rows L2
variable {T : List NTab}
section
variable {X : Cx} {e a b c : Expr} {es : List Expr} {σ : L2.St} {H H' : Hp} {α β γ δ : Type} {R : Rp α} {S : Rp β} {U : Rp γ} {x : α} {y : β} {z : γ} {pos p : Pos} {K : PySem.W.Frag}
/-! ### names, constants -/
theorem ev_var {i : Nat} {n : Str} {v : V} [Mono T R] (hs : σ[i]? = some (some v)) (hr : R H v x) (hN : X.N[i]? = some n := by rfl) (hv : Vis X.env.scope n := by first | exact Or.inl rfl | exact Or.inr (Or.inl rfl) | exact Or.inr (Or.inr rfl))
    (hd : (n == ("__debug__" : Str)) = false := by decide) (hcd : (n == ("__classdict__" : Str)) = false := by decide) : Ev T X R (.Name n pos) σ H x := fun H1 e1 Q q =>
  We.of (pe_var hN hv hd hcd) ⟨v, hs, q v H1 (Xt.refl _) (Mono.mono e1 hr)⟩
theorem vr (i : Nat) {n : Str} {v : V} [Mono T R] (hr : R H v x) (hs : σ[i]? = some (some v) := by rfl) (hN : X.N[i]? = some n := by rfl) (hv : Vis X.env.scope n := by first | exact Or.inl rfl | exact Or.inr (Or.inl rfl) | exact Or.inr (Or.inr rfl))
    (hd : (n == ("__debug__" : Str)) = false := by decide) (hcd : (n == ("__classdict__" : Str)) = false := by decide) : Ev T X R (.Name n pos) σ H x := ev_var hs hr hN hv hd hcd
theorem ev_int {i : Int} {j : Nat} : Ev T X RI (.Constant (.int i) j pos) σ H i := fun H1 _ Q q => We.of pe_int (q _ H1 (Xt.refl _) rfl)
theorem ev_str {s : Str} {j : Nat} : Ev T X RS (.Constant (.str s) j pos) σ H s := fun H1 _ Q q => We.of pe_str (q _ H1 (Xt.refl _) rfl)
theorem ev_bl {s : Bool} {j : Nat} : Ev T X RB (.Constant (.bool s) j pos) σ H s := fun H1 _ Q q => We.of pe_bl (q _ H1 (Xt.refl _) rfl)
theorem ev_non {j : Nat} : Ev T X RV (.Constant .none j pos) σ H .non := fun H1 _ Q q => We.of pe_non (q _ H1 (Xt.refl _) rfl)
theorem ev_glob {n : Str} {v : V} {u : Value} (hm : X.mg n = some u) (r : RelV v u) (hr : ∀ H1, Xt T H H1 → R H1 v x) (hg : Gl X n := by rfl) (hd : (n == ("__debug__" : Str)) = false := by decide) : Ev T X R (.Name n pos) σ H x := fun H1 e1 Q q =>
  We.of (pe_glob hg hm r hd) (q v H1 (Xt.refl _) (hr H1 e1))
theorem ev_gi {n : Str} {i : Int} (hm : ∃ t, X.mg n = some (.int i t)) (hg : Gl X n := by rfl) (hd : (n == ("__debug__" : Str)) = false := by decide) : Ev T X RI (.Name n pos) σ H i :=
  let ⟨t, hm⟩ := hm
  ev_glob (v := .int i) hm ⟨t, rfl⟩ (fun _ _ => rfl) hg hd
theorem ev_gs {n : Str} {i : Str} (hm : ∃ t, X.mg n = some (.str i t)) (hg : Gl X n := by rfl) (hd : (n == ("__debug__" : Str)) = false := by decide) : Ev T X RS (.Name n pos) σ H i :=
  let ⟨t, hm⟩ := hm
  ev_glob (v := .str i) hm ⟨t, rfl⟩ (fun _ _ => rfl) hg hd
theorem ev_gr {n : Str} {v : V} {t : Addr} (hm : X.mg n = some (.ref t)) (hr : ∀ H1, Xt T H H1 → R H1 (.ref t) x) (hg : Gl X n := by rfl) (hd : (n == ("__debug__" : Str)) = false := by decide) : Ev T X R (.Name n pos) σ H x :=
  ev_glob (v := .ref t) hm rfl hr hg hd
/-! ### operators on whole numbers -/
theorem ev_opI {op : Operator} {g : Int → Int → Int} {i j : Int} (ho : OpR X (binaryOp op) (rI0 fun i j => .int (g i j))) (ha : Ev T X RI a σ H i) (hb : Ev T X RI b σ H j) : Ev T X RI (.BinOp a op b pos) σ H (g i j) := fun H1 e1 Q q =>
  We.of (pe_op ho we we) (ha H1 e1 _ fun v H2 e2 r => hb H2 (e1.trans e2) _ fun v' H3 e3 r' => ⟨i, j, r, r', q _ H3 (e2.trans e3) rfl⟩)
theorem ev_opC {op : Operator} {C : Int → Int → Prop} {g : Int → Int → Int} {i j : Int} (ho : OpR X (binaryOp op) (rI C fun i j => .int (g i j))) (hc : C i j) (ha : Ev T X RI a σ H i) (hb : Ev T X RI b σ H j) : Ev T X RI (.BinOp a op b pos) σ H (g i j) := fun H1 e1 Q q =>
  We.of (pe_op ho we we) (ha H1 e1 _ fun v H2 e2 r => hb H2 (e1.trans e2) _ fun v' H3 e3 r' => ⟨i, j, r, r', hc, q _ H3 (e2.trans e3) rfl⟩)
theorem ev_add {i j : Int} (ha : Ev T X RI a σ H i) (hb : Ev T X RI b σ H j) : Ev T X RI (.BinOp a .Add b pos) σ H (i + j) := ev_opI op_add ha hb
theorem ev_sub {i j : Int} (ha : Ev T X RI a σ H i) (hb : Ev T X RI b σ H j) : Ev T X RI (.BinOp a .Sub b pos) σ H (i - j) := ev_opI op_sub ha hb
theorem ev_and {i j : Int} (ha : Ev T X RI a σ H i) (hb : Ev T X RI b σ H j) : Ev T X RI (.BinOp a .BitAnd b pos) σ H (Builtin.bitAnd i j) := ev_opI op_and ha hb
theorem ev_mul {i j : Int} (hc : CMul i j) (ha : Ev T X RI a σ H i) (hb : Ev T X RI b σ H j) : Ev T X RI (.BinOp a .Mult b pos) σ H (i * j) := ev_opC op_mul hc ha hb
theorem ev_shl {i j : Int} (hc : CPow i j) (ha : Ev T X RI a σ H i) (hb : Ev T X RI b σ H j) : Ev T X RI (.BinOp a .LShift b pos) σ H (i * 2 ^ j.toNat) := ev_opC (g := fun i j => i * 2 ^ j.toNat) op_shl hc ha hb
theorem ev_shr {i j : Int} (hc : 0 ≤ j) (ha : Ev T X RI a σ H i) (hb : Ev T X RI b σ H j) : Ev T X RI (.BinOp a .RShift b pos) σ H (i / 2 ^ j.toNat) := ev_opC (g := fun i j => i / 2 ^ j.toNat) op_shr hc ha hb
theorem ev_neg {i : Int} (ha : Ev T X RI a σ H i) : Ev T X RI (.UnaryOp .USub a pos) σ H (-i) := fun H1 e1 Q q => We.of (pe_un un_neg we) (ha H1 e1 _ fun v H2 e2 r => ⟨i, r, q _ H2 e2 rfl⟩)
/-! ### comparisons: one rule for the value and the test -/
/-- a comparison by its rule: of what the two sides tell, the answer -/
def Cmp (T : List NTab) {α β : Type} (X : Cx) (op : CmpOp) (R : Rp α) (S : Rp β) (H : Hp) (x : α) (y : β) (k : Bool) : Prop :=
  ∃ r : R2, OpR X (compareOp op) r ∧ ∀ H1, Xt T H H1 → ∀ v u, R H1 v x → S H1 u y → ∀ Q : VK, Q (.bl k) H1 → r v u H1 Q
theorem ev_cmp {op : CmpOp} {k : Bool} [Mono T R] (h : Cmp T X op R S H x y k) (ha : Ev T X R a σ H x) (hb : Ev T X S b σ H y) (hm : behindInMarks op b = false := by first | exact nobehind _ (by decide) (by decide) | with_unfolding_all rfl) : Ev T X RB (.Compare a [op] [b] pos) σ H k := fun H1 e1 Q q => by
  obtain ⟨r, ho, hr⟩ := h
  exact We.of (pe_cmpR ho we we hm) (ha H1 e1 _ fun v H2 e2 rv => hb H2 (e1.trans e2) _ fun u H3 e3 ru => hr H3 ((e1.trans e2).trans e3) v u (Mono.mono e3 rv) ru _ (q _ H3 (e2.trans e3) rfl))
theorem et_cmp {op : CmpOp} {k : Bool} [Mono T R] (h : Cmp T X op R S H x y k) (ha : Ev T X R a σ H x) (hb : Ev T X S b σ H y) (hm : behindInMarks op b = false := by first | exact nobehind _ (by decide) (by decide) | with_unfolding_all rfl) : EvT T X (.Compare a [op] [b] pos) σ H k := fun H1 e1 Q q => by
  obtain ⟨r, ho, hr⟩ := h
  exact Wt.of (pt_cmpR ho we we hm) (ha H1 e1 _ fun v H2 e2 rv => hb H2 (e1.trans e2) _ fun u H3 e3 ru => hr H3 ((e1.trans e2).trans e3) v u (Mono.mono e3 rv) ru _ ⟨k, rfl, q H3 (e2.trans e3)⟩)
theorem cmp_lt {i j : Int} : Cmp T X .Lt RI RI H i j (decide (i < j)) := ⟨_, op_lt, fun _ _ _ _ r r' _ q => ⟨i, j, r, r', q⟩⟩
theorem cmp_le {i j : Int} : Cmp T X .LtE RI RI H i j (decide (i ≤ j)) := ⟨_, op_le, fun _ _ _ _ r r' _ q => ⟨i, j, r, r', q⟩⟩
theorem cmp_gt {i j : Int} : Cmp T X .Gt RI RI H i j (decide (j < i)) := ⟨_, op_gt, fun _ _ _ _ r r' _ q => ⟨i, j, r, r', q⟩⟩
theorem cmp_ge {i j : Int} : Cmp T X .GtE RI RI H i j (decide (j ≤ i)) := ⟨_, op_ge, fun _ _ _ _ r r' _ q => ⟨i, j, r, r', q⟩⟩
theorem cmp_eq {i j : Int} : Cmp T X .Eq RI RI H i j (decide (i = j)) := ⟨_, op_eq, fun _ _ _ _ r r' _ q => by
  cases r
  cases r'
  refine ⟨rfl, ?_⟩
  rw [show decide (V.int i = V.int j) = decide (i = j) by rw [dec_int] <;> rw [Bool.beq_eq_decide_eq]]
  exact q⟩
theorem cmp_ne {i j : Int} : Cmp T X .NotEq RI RI H i j (!decide (i = j)) := ⟨_, op_ne, fun _ _ _ _ r r' _ q => by
  cases r
  cases r'
  refine ⟨rfl, ?_⟩
  rw [show decide (V.int i = V.int j) = decide (i = j) by rw [dec_int] <;> rw [Bool.beq_eq_decide_eq]]
  exact q⟩
theorem cmp_eqS {i j : Str} : Cmp T X .Eq RS RS H i j (decide (i = j)) := ⟨_, op_eq, fun _ _ _ _ r r' _ q => by
  cases r
  cases r'
  refine ⟨rfl, ?_⟩
  rw [show decide (V.str i = V.str j) = decide (i = j) from decide_eq_decide.mpr ⟨fun z => V.str.inj z, fun z => by rw [z]⟩]
  exact q⟩
/-- a op1 b op2 c of whole numbers -/
theorem ev_chain {op op' : CmpOp} {f g : Int → Int → Bool} {i j k : Int} (ho : OpR X (compareOp op) (rI0 fun i j => .bl (f i j))) (ho' : OpR X (compareOp op') (rI0 fun i j => .bl (g i j))) (ha : Ev T X RI a σ H i) (hb : Ev T X RI b σ H j) (hc : Ev T X RI c σ H k)
    (hm : lastMarks [op, op'] [b, c] = false := by with_unfolding_all rfl) : Ev T X RB (.Compare a [op, op'] [b, c] pos) σ H (f i j && g j k) := fun H1 e1 Q q =>
  We.of (pe_chain ho ho' we we we hm) (ha H1 e1 _ fun v H2 e2 r => hb H2 (e1.trans e2) _ fun v' H3 e3 r' => ⟨i, j, r, r', f i j, rfl, by
    cases hf : f i j with
    | false =>
      rw [hf] at q
      exact q _ H3 (e2.trans e3) rfl
    | true =>
      rw [hf] at q
      exact hc H3 ((e1.trans e2).trans e3) _ fun u H4 e4 r4 => ⟨j, k, r', r4, q _ H4 ((e2.trans e3).trans e4) rfl⟩⟩)
theorem et_chain {op op' : CmpOp} {f g : Int → Int → Bool} {i j k : Int} (ho : OpR X (compareOp op) (rI0 fun i j => .bl (f i j))) (ho' : OpR X (compareOp op') (rI0 fun i j => .bl (g i j))) (ha : Ev T X RI a σ H i) (hb : Ev T X RI b σ H j) (hc : Ev T X RI c σ H k)
    (hm : lastMarks [op, op'] [b, c] = false := by with_unfolding_all rfl) : EvT T X (.Compare a [op, op'] [b, c] pos) σ H (f i j && g j k) := fun H1 e1 Q q =>
  Wt.of (pt_chain ho ho' we we we hm) (ha H1 e1 _ fun v H2 e2 r => hb H2 (e1.trans e2) _ fun v' H3 e3 r' => ⟨i, j, r, r', f i j, rfl, by
    cases hf : f i j with
    | false =>
      rw [hf] at q
      exact ⟨_, rfl, q H3 (e2.trans e3)⟩
    | true =>
      rw [hf] at q
      exact hc H3 ((e1.trans e2).trans e3) _ fun u H4 e4 r4 => ⟨j, k, r', r4, _, rfl, q H4 ((e2.trans e3).trans e4)⟩⟩)
theorem op_leI : OpR X (compareOp .LtE) (rI0 fun i j => .bl (decide (i ≤ j))) := op_le
theorem op_ltI : OpR X (compareOp .Lt) (rI0 fun i j => .bl (decide (i < j))) := op_lt
/-! ### truth -/
theorem et_val {k : Bool} (h : Ev T X RB e σ H k) (he : ∀ whole, isTrue e X.env whole = (do let v ← whole; standAt e.pos; holding [v] (truthy v)) := by intro _; rfl) : EvT T X e σ H k := fun H1 e1 Q q =>
  Wt.of (pt_val we he) (h H1 e1 _ fun v H2 e2 r => ⟨k, r, q H2 e2⟩)
theorem et_not {k : Bool} (h : EvT T X e σ H k) : EvT T X (.UnaryOp .Not e pos) σ H (!k) := fun H1 e1 Q q => Wt.of (pt_not wt) (h H1 e1 _ fun H2 e2 => q H2 e2)
theorem et_and {k m : Bool} (h : EvT T X a σ H k) (h' : k = true → EvT T X b σ H m) : EvT T X (.BoolOp .And [a, b] pos) σ H (k && m) := fun H1 e1 Q q =>
  Wt.of (PW.pt (pw_and wt (pw_and1 wt))) (h H1 e1 _ fun H2 e2 => by
    cases k with
    | false => exact q H2 e2
    | true => exact h' rfl H2 (e1.trans e2) _ fun H3 e3 => q H3 (e2.trans e3))
theorem et_or {k m : Bool} (h : EvT T X a σ H k) (h' : k = false → EvT T X b σ H m) : EvT T X (.BoolOp .Or [a, b] pos) σ H (k || m) := fun H1 e1 Q q =>
  Wt.of (PW.pt (pw_or wt (pw_or1 wt))) (h H1 e1 _ fun H2 e2 => by
    cases k with
    | true => exact q H2 e2
    | false => exact h' rfl H2 (e1.trans e2) _ fun H3 e3 => q H3 (e2.trans e3))
theorem ev_andB {k m : Bool} (h : Ev T X RB a σ H k) (h' : k = true → Ev T X RB b σ H m) : Ev T X RB (.BoolOp .And [a, b] pos) σ H (k && m) := fun H1 e1 Q q =>
  We.of (pe_and we (pe_one we)) (h H1 e1 _ fun v H2 e2 r => ⟨k, r, by
    cases k with
    | false => exact q _ H2 e2 rfl
    | true => exact h' rfl H2 (e1.trans e2) _ fun u H3 e3 r3 => q u H3 (e2.trans e3) r3⟩)
theorem ev_orB {k m : Bool} (h : Ev T X RB a σ H k) (h' : k = false → Ev T X RB b σ H m) : Ev T X RB (.BoolOp .Or [a, b] pos) σ H (k || m) := fun H1 e1 Q q =>
  We.of (pe_or we (pe_one we)) (h H1 e1 _ fun v H2 e2 r => ⟨k, r, by
    cases k with
    | true => exact q _ H2 e2 rfl
    | false => exact h' rfl H2 (e1.trans e2) _ fun u H3 e3 r3 => q u H3 (e2.trans e3) r3⟩)
theorem ev_if {k : Bool} (h : EvT T X c σ H k) (h1 : k = true → Ev T X R a σ H x) (h2 : k = false → Ev T X R b σ H x) : Ev T X R (.IfExp c a b pos) σ H x := fun H1 e1 Q q =>
  We.of (pe_ifExp wt we we) (h H1 e1 _ fun H2 e2 => by
    cases k with
    | true => exact h1 rfl H2 (e1.trans e2) _ fun v H3 e3 r => q v H3 (e2.trans e3) r
    | false => exact h2 rfl H2 (e1.trans e2) _ fun v H3 e3 r => q v H3 (e2.trans e3) r)
theorem ev_isNotN {v : V} (h : Ev T X RV a σ H v) {j : Nat} {pos' : Pos} : Ev T X RB (.Compare a [.IsNot] [.Constant .none j pos'] pos) σ H (!decide (v = .non)) := fun H1 e1 Q q =>
  We.of (pe_cmp (pc_notN we) rfl) (h H1 e1 _ fun u H2 e2 r => by cases r; exact q _ H2 e2 rfl)
/-! ### attributes -/
/-- an attribute of the object at a value -/
def Has (K : PySem.W.Frag) (f : Str) (H : Hp) (v : V) (y : V) : Prop := ∃ p C dx fs, v = .ref p ∧ H p = some (.ins C dx fs) ∧ Cls K C ∧ NoAttr K C f ∧ fs.lookup f = some y
theorem Has.up {f : Str} {v y : V} (u : Xt T H H') (h : Has K f H v y) : Has K f H' v y :=
  let ⟨p, C, dx, fs, h1, h2, h3, h4, h5⟩ := h
  ⟨p, C, dx, fs, h1, u.ex _ _ h2 nt_ins, h3, h4, h5⟩
theorem ev_fld {f : Str} [Mono T R] (ha : Ev T X S a σ H y) (hf : ∀ H1 v, Xt T H H1 → S H1 v y → ∃ u, Has X.K f H1 v u ∧ R H1 u x) (hb : attributeBase a f X.env (eval a X.env) = eval a X.env := by rfl) : Ev T X R (.Attribute a f pos) σ H x := fun H1 e1 Q q =>
  We.of (pe_fld we hb) (ha H1 e1 _ fun v H2 e2 r => by
    obtain ⟨u, ⟨p, C, dx, fs, h1, h2, h3, h4, h5⟩, hr⟩ := hf H2 v (e1.trans e2) r
    exact ⟨p, C, dx, fs, u, h1, h2, h3, h4, h5, q u H2 e2 hr⟩)
/-! ### items -/
theorem ev_item {i : Nat} [Mono T R] {l : List α} (ha : Ev T X (RL X.K R) a σ H l) (hb : Ev T X RI b σ H (i : Int)) (hx : l[i]? = some x) (hs : PlainIx b := by exact fun _ _ => rfl) : Ev T X R (.Subscript a b pos) σ H x := fun H1 e1 Q q =>
  We.of (pe_ix ix_list we we hs) (ha H1 e1 _ fun v H2 e2 ⟨p, vs, hv, hl, r⟩ => hb H2 (e1.trans e2) _ fun u H3 e3 ru => by
    obtain ⟨w, hw, rw'⟩ := r.get hx
    exact ⟨p, vs, (i : Int), w, hv, ru, e3.seqL hl, atI_nat hw, q w H3 (e2.trans e3) (Mono.mono e3 rw')⟩)
theorem ev_itemT {i : Nat} [Mono T R] {l : List α} (ha : Ev T X (RTs X.K R) a σ H l) (hb : Ev T X RI b σ H (i : Int)) (hx : l[i]? = some x) (hs : PlainIx b := by exact fun _ _ => rfl) : Ev T X R (.Subscript a b pos) σ H x := fun H1 e1 Q q =>
  We.of (pe_ix ix_tup we we hs) (ha H1 e1 _ fun v H2 e2 ⟨p, vs, hv, hl, r⟩ => hb H2 (e1.trans e2) _ fun u H3 e3 ru => by
    obtain ⟨w, hw, rw'⟩ := r.get hx
    exact ⟨p, vs, (i : Int), w, hv, ru, e3.seqT hl, atI_nat hw, q w H3 (e2.trans e3) (Mono.mono e3 rw')⟩)
theorem ev_fst {pr : α × β} [Mono T R] (ha : Ev T X (RP X.K R S) a σ H pr) (hb : Ev T X RI b σ H 0) (hs : PlainIx b := by exact fun _ _ => rfl) : Ev T X R (.Subscript a b pos) σ H pr.1 := fun H1 e1 Q q =>
  We.of (pe_ix ix_tup we we hs) (ha H1 e1 _ fun v H2 e2 ⟨p, v1, v2, hv, hl, r1, r2⟩ => hb H2 (e1.trans e2) _ fun u H3 e3 ru =>
    ⟨p, [v1, v2], 0, v1, hv, ru, e3.seqT hl, atI_nat (j := 0) rfl, q v1 H3 (e2.trans e3) (Mono.mono e3 r1)⟩)
/-! ### displays -/
def EvA (T : List NTab) (X : Cx) (es : List Expr) (σ : L2.St) (H : Hp) (P : Hp → List V → Prop) : Prop :=
  ∀ H1, Xt T H H1 → ∀ Q : List V → Hp → Prop, (∀ vs H2, Xt T H1 H2 → P H2 vs → Q vs H2) → Wa X es σ H1 Q
theorem ea_nil : EvA T X [] σ H fun _ vs => vs = [] := fun H1 _ Q q => Wa.of pa_nil (q [] H1 (Xt.refl _) rfl)
theorem ea_cons [Mono T R] {P : Hp → List V → Prop} (ha : Ev T X R a σ H x) (hr : EvA T X es σ H P) (hs : starEach (a :: es) X.env = (false, eval a X.env) :: starEach es X.env := by rfl) : EvA T X (a :: es) σ H fun H' vs => ∃ v r, vs = v :: r ∧ R H' v x ∧ P H' r := fun H1 e1 Q q =>
  Wa.of (pa_cons we wa hs) (ha H1 e1 _ fun v H2 e2 rv => hr H2 (e1.trans e2) _ fun vs H3 e3 hp => q _ H3 (e2.trans e3) ⟨v, vs, rfl, Mono.mono e3 rv, hp⟩)
/-- a list display of alike things -/
def EvAs (T : List NTab) {α : Type} (X : Cx) (R : Rp α) (es : List Expr) (σ : L2.St) (H : Hp) (xs : List α) : Prop := EvA T X es σ H fun H' vs => All2 (R H') vs xs
theorem es_nil : EvAs T X R [] σ H [] := fun H1 _ Q q => Wa.of pa_nil (q [] H1 (Xt.refl _) .nil)
theorem es_cons [Mono T R] {xs : List α} (ha : Ev T X R a σ H x) (hr : EvAs T X R es σ H xs) (hs : starEach (a :: es) X.env = (false, eval a X.env) :: starEach es X.env := by rfl) : EvAs T X R (a :: es) σ H (x :: xs) := fun H1 e1 Q q =>
  Wa.of (pa_cons we wa hs) (ha H1 e1 _ fun v H2 e2 rv => hr H2 (e1.trans e2) _ fun vs H3 e3 hp => q _ H3 (e2.trans e3) (.cons (Mono.mono e3 rv) hp))
theorem ev_list [Mono T R] {xs : List α} (h : EvAs T X R es σ H xs) (hl : xs.length ≤ 1000 := by first | decide | (simp; done)) : Ev T X (RM R) (.List es pos) σ H xs := fun H1 e1 Q q =>
  We.of (pe_lst wa) (h H1 e1 _ fun vs H2 e2 r => ⟨by rw [r.length]; exact Nat.le_of_lt (small1000 hl), fun p hp => q _ _ (e2.trans (Xt.new hp)) ⟨p, vs, rfl, upd_same, r.mono (Xt.new (T := T) hp)⟩⟩)
theorem ev_pair [Mono T R] [Mono T S] (ha : Ev T X R a σ H x) (hb : Ev T X S b σ H y) {k : Nat} (hs : starEach (a :: [b]) X.env = (false, eval a X.env) :: starEach [b] X.env := by rfl) (hs2 : starEach (b :: []) X.env = (false, eval b X.env) :: starEach [] X.env := by rfl) : Ev T X (RP X.K R S) (.Tuple [a, b] k pos) σ H (x, y) := fun H1 e1 Q q =>
  We.of (pe_tup wa) (ea_cons ha (ea_cons hb ea_nil hs2) hs H1 e1 _ fun vs H2 e2 ⟨v, r, h1, h2, u, r', h3, h4, h5⟩ => by
    subst h1 h3 h5
    exact ⟨by show 2 ≤ sizeLine; decide, fun p hp => q _ _ (e2.trans (Xt.new hp)) ⟨p, v, u, rfl, SqT.of upd_same, Mono.mono (Xt.new (T := T) hp) h2, Mono.mono (Xt.new (T := T) hp) h4⟩⟩)
/-! ### + and * of lists, slices -/
theorem ev_cat [Mono T R] {xs ys : List α} (ha : Ev T X (RM R) a σ H xs) (hb : Ev T X (RM R) b σ H ys) (hl : xs.length + ys.length ≤ 1000000) : Ev T X (RM R) (.BinOp a .Add b pos) σ H (xs ++ ys) := fun H1 e1 Q q =>
  We.of (pe_op op_cat we we) (ha H1 e1 _ fun v H2 e2 ⟨p, vs, h1, h2, h3⟩ => hb H2 (e1.trans e2) _ fun u H3 e3 ⟨p', us, h4, h5, h6⟩ =>
    ⟨p, p', vs, us, h1, h4, e3.ex _ _ h2 nt_lst, h5, by rw [h3.length, h6.length]; exact Nat.le_trans hl (by decide), fun q' hq => q _ _ ((e2.trans e3).trans (Xt.new hq)) ⟨q', _, rfl, upd_same, ((h3.mono e3).append h6).mono (Xt.new (T := T) hq)⟩⟩)
def cut {α : Type} (xs : List α) (lo hi : Option Int) : List α := (xs.drop (HT.sIx xs.length 0 lo)).take (HT.sIx xs.length xs.length hi - HT.sIx xs.length 0 lo)
theorem cut_all2 {xs : List α} {vs : List V} {lo hi : Option Int} (h : All2 (R H) vs xs) : All2 (R H) (cutV vs lo hi) (cut xs lo hi) := by
  unfold cutV cut
  rw [h.length]
  exact (h.drop _).take _
/-- a part of a slice -/
def EvO (T : List NTab) (X : Cx) (e : Option Expr) (σ : L2.St) (H : Hp) (o : Option Int) : Prop :=
  ∃ t, PO X e t ∧ ∀ H1, Xt T H H1 → ∀ Q : Option Int → Hp → Prop, (∀ H2, Xt T H1 H2 → Q o H2) → t σ H1 Q
theorem eo_none : EvO T X none σ H none := ⟨_, po_none, fun H1 _ _ q => q H1 (Xt.refl _)⟩
theorem eo_some {i : Int} (h : Ev T X RI e σ H i) : EvO T X (some e) σ H (some i) := ⟨_, po_some we, fun H1 e1 Q q => h H1 e1 _ fun v H2 e2 r => ⟨i, r, q H2 e2⟩⟩
theorem ev_slice [Mono T R] {xs : List α} {lo hi : Option Expr} {l u : Option Int} {p2 : Pos} (ha : Ev T X (RL X.K R) a σ H xs) (h1 : EvO T X lo σ H l) (h2 : EvO T X hi σ H u) : Ev T X (RM R) (.Subscript a (.Slice lo hi none p2) pos) σ H (cut xs l u) := fun H1 e1 Q q => by
  obtain ⟨t1, p1, k1⟩ := h1
  obtain ⟨t2, p2', k2⟩ := h2
  exact We.of (pe_slice sl_list we p1 p2') (ha H1 e1 _ fun v H2 e2 ⟨p, vs, g1, g2, g3⟩ => k1 H2 (e1.trans e2) _ fun H3 e3 => k2 H3 ((e1.trans e2).trans e3) _ fun H4 e4 =>
    ⟨p, vs, g1, (e3.trans e4).seqL g2, fun q' hq => q _ _ (((e2.trans e3).trans e4).trans (Xt.new hq)) ⟨q', _, rfl, upd_same, cut_all2 ((g3.mono (e3.trans e4)).mono (Xt.new (T := T) hq))⟩⟩)
/-! ### calls of built-ins by one argument -/
theorem ev_b1 {id : String} {n : Str} {r : List V → Hp → VK → Prop} (hc : CallR X (.builtin id) r) (hm : X.mg n = none) (hv : bootBuiltins n = some (.builtin id)) (ha : Ev T X R a σ H x)
    (hr : ∀ H1 v, Xt T H H1 → R H1 v x → ∀ Q : VK, (∀ v' H2, Xt T H1 H2 → S H2 v' y → Q v' H2) → r [v] H1 Q) (hg : Gl X n := by rfl) (hn : n ≠ "__name__" := by decide) (hdb : (n == ("__debug__" : Str)) = false := by decide)
    (he : starEach (a :: []) X.env = (false, eval a X.env) :: starEach [] X.env := by rfl) (hpl : (backTo pos (starEach [] X.env)).any (·.1) = false := by rfl) : Ev T X S (.Call (.Name n p) [a] [] pos) σ H y := fun H1 e1 Q q =>
  We.of (pe_callB hc hg hm hv (pa_cons we pa_nil he) hn hdb he hpl) (ha H1 e1 _ fun v H2 e2 rv => hr H2 v (e1.trans e2) rv Q fun v' H3 e3 r3 => q v' H3 (e2.trans e3) r3)
theorem ev_t1 {id : String} {n : Str} {r : List V → Hp → VK → Prop} (hc : CallR X (.type id) r) (hm : X.mg n = none) (hv : bootBuiltins n = some (.type id)) (ha : Ev T X R a σ H x)
    (hr : ∀ H1 v, Xt T H H1 → R H1 v x → ∀ Q : VK, (∀ v' H2, Xt T H1 H2 → S H2 v' y → Q v' H2) → r [v] H1 Q) (hg : Gl X n := by rfl) (hn : n ≠ "__name__" := by decide) (hdb : (n == ("__debug__" : Str)) = false := by decide)
    (he : starEach (a :: []) X.env = (false, eval a X.env) :: starEach [] X.env := by rfl) (hpl : (backTo pos (starEach [] X.env)).any (·.1) = false := by rfl) : Ev T X S (.Call (.Name n p) [a] [] pos) σ H y := fun H1 e1 Q q =>
  We.of (pe_callTy hc hg hm hv (pa_cons we pa_nil he) hn hdb he hpl) (ha H1 e1 _ fun v H2 e2 rv => hr H2 v (e1.trans e2) rv Q fun v' H3 e3 r3 => q v' H3 (e2.trans e3) r3)
theorem ev_len {xs : List α} (hm : X.mg "len" = none) (ha : Ev T X (RL X.K R) a σ H xs) (hg : Gl X "len" := by rfl) (he : starEach (a :: []) X.env = (false, eval a X.env) :: starEach [] X.env := by rfl) (hpl : (backTo pos (starEach [] X.env)).any (·.1) = false := by rfl) : Ev T X RI (.Call (.Name "len" p) [a] [] pos) σ H (xs.length : Int) :=
  ev_b1 call_len_seq hm PySem.boot_len ha (fun H1 v _ ⟨p, vs, h1, h2, h3⟩ Q q => ⟨p, vs, by rw [h1], .inl h2, q _ H1 (Xt.refl _) (by rw [h3.length]; rfl)⟩) hg (by decide) (by decide) he hpl
theorem ev_lenT {xs : List α} (hm : X.mg "len" = none) (ha : Ev T X (RTs X.K R) a σ H xs) (hg : Gl X "len" := by rfl) (he : starEach (a :: []) X.env = (false, eval a X.env) :: starEach [] X.env := by rfl) (hpl : (backTo pos (starEach [] X.env)).any (·.1) = false := by rfl) : Ev T X RI (.Call (.Name "len" p) [a] [] pos) σ H (xs.length : Int) :=
  ev_b1 call_len_seq hm PySem.boot_len ha (fun H1 v _ ⟨p, vs, h1, h2, h3⟩ Q q => ⟨p, vs, by rw [h1], .inr h2, q _ H1 (Xt.refl _) (by rw [h3.length]; rfl)⟩) hg (by decide) (by decide) he hpl
theorem ev_sum {xs : List Int} (hcm : X.calm = true) (hm : X.mg "sum" = none) (hv : bootBuiltins "sum" = some (.builtin "sum")) (ha : Ev T X (RL X.K RI) a σ H xs) (hg : Gl X "sum" := by rfl) (he : starEach (a :: []) X.env = (false, eval a X.env) :: starEach [] X.env := by rfl) (hpl : (backTo pos (starEach [] X.env)).any (·.1) = false := by rfl) : Ev T X RI (.Call (.Name "sum" p) [a] [] pos) σ H xs.sum :=
  ev_b1 (cr_sum hcm) hm hv ha (fun H1 v _ ⟨p, vs, h1, h2, h3⟩ Q q => ⟨p, xs, by rw [h1], by rw [← all2_ints h3]; exact h2, q _ H1 (Xt.refl _) rfl⟩) hg (by decide) (by decide) he hpl
theorem ev_tupleL [Mono T R] {xs : List α} (hm : X.mg "tuple" = none) (hv : bootBuiltins "tuple" = some (.type "tuple")) (ha : Ev T X (RL X.K R) a σ H xs) (hg : Gl X "tuple" := by rfl) (he : starEach (a :: []) X.env = (false, eval a X.env) :: starEach [] X.env := by rfl) (hpl : (backTo pos (starEach [] X.env)).any (·.1) = false := by rfl) : Ev T X (RTs X.K R) (.Call (.Name "tuple" p) [a] [] pos) σ H xs :=
  ev_t1 call_tuple_of hm hv ha (fun H1 v _ ⟨p, vs, h1, h2, h3⟩ Q q => ⟨p, vs, by rw [h1], .inl ⟨h2, fun l hl => q _ _ (Xt.new hl) ⟨l, vs, rfl, SqT.of upd_same, h3.mono (Xt.new (T := T) hl)⟩⟩⟩) hg (by decide) (by decide) he hpl
end
end G5
/-! Fw3: promises of defs, calls, statements, loops, comprehensions. -/
namespace G5
open PySem PySem.Spec PyProof.Rows L2
variable {T : List NTab}
/-! ### a def that may be called by its name -/
structure Df (P : Program) (w : World) (K : PySem.W.Frag) (mg : Str → Option Value) (base : Heap) (CX : CXT) (k : Nat) (n : Str) (ps : List Str) (sp : Sp) : Prop where
  ex : ∃ f fd, mg n = some (.ref f) ∧ PySem.W.keepIn K (.ref f) = true ∧ Binds K fd ps [] ∧ FnOk P w K mg base CX k f fd ps sp
section
variable {α β γ δ ε : Type}
def Sp1 (T : List NTab) (R1 : Rp α) (R : Rp β) (pre : α → Prop) (f : α → β) : Sp := fun vs H Q _ => Tb T H ∧ ∃ v1 x1, vs = [v1] ∧ R1 H v1 x1 ∧ pre x1 ∧ ∀ v H', Xt T H H' → R H' v (f x1) → Q v H'
def Sp2 (T : List NTab) (R1 : Rp α) (R2 : Rp β) (R : Rp γ) (pre : α → β → Prop) (f : α → β → γ) : Sp := fun vs H Q _ => Tb T H ∧ ∃ v1 v2 x1 x2, vs = [v1, v2] ∧ R1 H v1 x1 ∧ R2 H v2 x2 ∧ pre x1 x2 ∧ ∀ v H', Xt T H H' → R H' v (f x1 x2) → Q v H'
def Sp3 (T : List NTab) (R1 : Rp α) (R2 : Rp β) (R3 : Rp γ) (R : Rp δ) (pre : α → β → γ → Prop) (f : α → β → γ → δ) : Sp := fun vs H Q _ => Tb T H ∧ ∃ v1 v2 v3 x1 x2 x3, vs = [v1, v2, v3] ∧ R1 H v1 x1 ∧ R2 H v2 x2 ∧ R3 H v3 x3 ∧ pre x1 x2 x3 ∧ ∀ v H', Xt T H H' → R H' v (f x1 x2 x3) → Q v H'
def Sp4 (T : List NTab) (R1 : Rp α) (R2 : Rp β) (R3 : Rp γ) (R4 : Rp δ) (R : Rp ε) (pre : α → β → γ → δ → Prop) (f : α → β → γ → δ → ε) : Sp := fun vs H Q _ => Tb T H ∧ ∃ v1 v2 v3 v4 x1 x2 x3 x4, vs = [v1, v2, v3, v4] ∧ R1 H v1 x1 ∧ R2 H v2 x2 ∧ R3 H v3 x3 ∧ R4 H v4 x4 ∧ pre x1 x2 x3 x4 ∧ ∀ v H', Xt T H H' → R H' v (f x1 x2 x3 x4) → Q v H'
variable {P : Program} {w : World} {K : PySem.W.Frag} {mg : Str → Option Value} {base : Heap} {k : Nat} {n q : Str} {st : Stmt} {f : Addr} {fd : FuncData} {N : List Str} {p1 p2 p3 p4 : Str}
variable {R1 : Rp α} {R2 : Rp β} {R3 : Rp γ} {R4 : Rp δ}
/-- the state of a body at its entry, of a def that lets nothing out -/
abbrev C0 (P : Program) (w : World) (K : PySem.W.Frag) (mg : Str → Option Value) (base : Heap) (N : List Str) (q : Str) (st : Stmt) (f : Addr) (cdv : Value) (A : Around) (outer : List Env) (s : Shared) (H : Hp) (E : XK) : Cx := (cxOf CX0 P w K mg base N q (defScope st) f cdv A outer s H E).nox
theorem ok1 {R : Rp β} {pre : α → Prop} {g : α → β} (F : Fun K n q st f fd) (hm : mg n = some (.ref f)) (b : Binds K fd [p1] []) (S : FnScope N [p1] (defScope st))
    (body : ∀ (cdv : Value) (A : Around) (outer : List Env) (s : Shared) (H : Hp) (E : XK) (Q : VK) (v1 : V) (x1 : α), Room k (A.deeper (envOfC q (defScope st) s.heap.objs.size f cdv)) → Tb T H → R1 H v1 x1 → pre x1 → (∀ v H', Xt T H H' → R H' v (g x1) → Q v H') →
      Wb (C0 P w K mg base N q st f cdv A outer s H E) (defBody st) { nx := fun _ H' => Q .non H', rt := Q } (start N [v1]) H) : Df P w K mg base CX0 (k + 1) n [p1] (Sp1 T R1 R pre g) := by
  refine ⟨f, fd, hm, F.kp, b, F.ok S (fun vs H Q E h => ?_) fun cdv A outer s H vs Q E hr h => ?_⟩
  · obtain ⟨_, v1, x1, rfl, _⟩ := h
    rfl
  · obtain ⟨ht, v1, x1, rfl, h1, hp, hq⟩ := h
    exact ⟨_, wb, body cdv A outer s H E Q v1 x1 hr ht h1 hp hq⟩
theorem ok2 {R : Rp γ} {pre : α → β → Prop} {g : α → β → γ} (F : Fun K n q st f fd) (hm : mg n = some (.ref f)) (b : Binds K fd [p1, p2] []) (S : FnScope N [p1, p2] (defScope st))
    (body : ∀ (cdv : Value) (A : Around) (outer : List Env) (s : Shared) (H : Hp) (E : XK) (Q : VK) (v1 v2 : V) (x1 : α) (x2 : β), Room k (A.deeper (envOfC q (defScope st) s.heap.objs.size f cdv)) → Tb T H → R1 H v1 x1 → R2 H v2 x2 → pre x1 x2 → (∀ v H', Xt T H H' → R H' v (g x1 x2) → Q v H') →
      Wb (C0 P w K mg base N q st f cdv A outer s H E) (defBody st) { nx := fun _ H' => Q .non H', rt := Q } (start N [v1, v2]) H) : Df P w K mg base CX0 (k + 1) n [p1, p2] (Sp2 T R1 R2 R pre g) := by
  refine ⟨f, fd, hm, F.kp, b, F.ok S (fun vs H Q E h => ?_) fun cdv A outer s H vs Q E hr h => ?_⟩
  · obtain ⟨_, v1, v2, x1, x2, rfl, _⟩ := h
    rfl
  · obtain ⟨ht, v1, v2, x1, x2, rfl, h1, h2, hp, hq⟩ := h
    exact ⟨_, wb, body cdv A outer s H E Q v1 v2 x1 x2 hr ht h1 h2 hp hq⟩
theorem ok3 {R : Rp δ} {pre : α → β → γ → Prop} {g : α → β → γ → δ} (F : Fun K n q st f fd) (hm : mg n = some (.ref f)) (b : Binds K fd [p1, p2, p3] []) (S : FnScope N [p1, p2, p3] (defScope st))
    (body : ∀ (cdv : Value) (A : Around) (outer : List Env) (s : Shared) (H : Hp) (E : XK) (Q : VK) (v1 v2 v3 : V) (x1 : α) (x2 : β) (x3 : γ), Room k (A.deeper (envOfC q (defScope st) s.heap.objs.size f cdv)) → Tb T H → R1 H v1 x1 → R2 H v2 x2 → R3 H v3 x3 → pre x1 x2 x3 → (∀ v H', Xt T H H' → R H' v (g x1 x2 x3) → Q v H') →
      Wb (C0 P w K mg base N q st f cdv A outer s H E) (defBody st) { nx := fun _ H' => Q .non H', rt := Q } (start N [v1, v2, v3]) H) : Df P w K mg base CX0 (k + 1) n [p1, p2, p3] (Sp3 T R1 R2 R3 R pre g) := by
  refine ⟨f, fd, hm, F.kp, b, F.ok S (fun vs H Q E h => ?_) fun cdv A outer s H vs Q E hr h => ?_⟩
  · obtain ⟨_, v1, v2, v3, x1, x2, x3, rfl, _⟩ := h
    rfl
  · obtain ⟨ht, v1, v2, v3, x1, x2, x3, rfl, h1, h2, h3, hp, hq⟩ := h
    exact ⟨_, wb, body cdv A outer s H E Q v1 v2 v3 x1 x2 x3 hr ht h1 h2 h3 hp hq⟩
theorem ok4 {R : Rp ε} {pre : α → β → γ → δ → Prop} {g : α → β → γ → δ → ε} (F : Fun K n q st f fd) (hm : mg n = some (.ref f)) (b : Binds K fd [p1, p2, p3, p4] []) (S : FnScope N [p1, p2, p3, p4] (defScope st))
    (body : ∀ (cdv : Value) (A : Around) (outer : List Env) (s : Shared) (H : Hp) (E : XK) (Q : VK) (v1 v2 v3 v4 : V) (x1 : α) (x2 : β) (x3 : γ) (x4 : δ), Room k (A.deeper (envOfC q (defScope st) s.heap.objs.size f cdv)) → Tb T H → R1 H v1 x1 → R2 H v2 x2 → R3 H v3 x3 → R4 H v4 x4 → pre x1 x2 x3 x4 → (∀ v H', Xt T H H' → R H' v (g x1 x2 x3 x4) → Q v H') →
      Wb (C0 P w K mg base N q st f cdv A outer s H E) (defBody st) { nx := fun _ H' => Q .non H', rt := Q } (start N [v1, v2, v3, v4]) H) : Df P w K mg base CX0 (k + 1) n [p1, p2, p3, p4] (Sp4 T R1 R2 R3 R4 R pre g) := by
  refine ⟨f, fd, hm, F.kp, b, F.ok S (fun vs H Q E h => ?_) fun cdv A outer s H vs Q E hr h => ?_⟩
  · obtain ⟨_, v1, v2, v3, v4, x1, x2, x3, x4, rfl, _⟩ := h
    rfl
  · obtain ⟨ht, v1, v2, v3, v4, x1, x2, x3, x4, rfl, h1, h2, h3, h4, hp, hq⟩ := h
    exact ⟨_, wb, body cdv A outer s H E Q v1 v2 v3 v4 x1 x2 x3 x4 hr ht h1 h2 h3 h4 hp hq⟩
end
section
variable {X : Cx} {e a b c d : Expr} {es : List Expr} {σ : L2.St} {H H' : Hp} {α β γ δ ε : Type} {R1 : Rp α} {R2 : Rp β} {R3 : Rp γ} {R4 : Rp δ} {x1 : α} {x2 : β} {x3 : γ} {x4 : δ} {pos p : Pos} {n : Str} {k j : Nat} {ps : List Str}
/-! ### calls -/
theorem ev_callA {S : Rp ε} {z : ε} {sp : Sp} {P : Hp → List V → Prop} (F : Df X.prog X.w X.K X.mg X.base CX0 k n ps sp) (hr : Room j X.A) (hk : k ≤ j) (ha : EvA T X (e :: es) σ H P)
    (hs : ∀ H1 vs, Xt T H H1 → P H1 vs → ∀ Q : VK, (∀ v H2, Xt T H1 H2 → S H2 v z → Q v H2) → sp vs H1 Q E0)
    (hg : Gl X n := by rfl) (hdb : (n == ("__debug__" : Str)) = false := by decide) (he : starEach (e :: es) X.env = (false, eval e X.env) :: starEach es X.env := by rfl) (hpl : (backTo pos (starEach es X.env)).any (·.1) = false := by rfl) : Ev T X S (.Call (.Name n p) (e :: es) [] pos) σ H z := fun H1 e1 Q q => by
  obtain ⟨f, fd, hm, hkp, hb, hF⟩ := F.ex
  refine We.of (pe_call (ds := []) (dvs := []) hF (hr.mono hk) hg hm hkp hb .nil pass0 wa hdb he hpl) (ha H1 e1 _ fun vs H2 e2 hp => ?_)
  show sp (vs ++ []) H2 Q E0
  rw [List.append_nil]
  exact hs H2 vs (e1.trans e2) hp Q fun v H3 e3 r => q v H3 (e2.trans e3) r
theorem ev_c1 {S : Rp ε} {z : ε} {pre : α → Prop} {g : α → ε} (F : Df X.prog X.w X.K X.mg X.base CX0 k n ps (Sp1 T R1 S pre g)) (hr : Room j X.A) (hk : k ≤ j) (ht : Tb T H) [Mono T R1] (ha : Ev T X R1 a σ H x1) (hp : pre x1) (hz : g x1 = z := by rfl)
    (hg : Gl X n := by rfl) (hdb : (n == ("__debug__" : Str)) = false := by decide) (he : starEach (a :: []) X.env = (false, eval a X.env) :: starEach [] X.env := by rfl) (hpl : (backTo pos (starEach [] X.env)).any (·.1) = false := by rfl) : Ev T X S (.Call (.Name n p) [a] [] pos) σ H z :=
  hz ▸ ev_callA F hr hk (ea_cons ha ea_nil he) (fun H1 vs e1 ⟨v, r, h1, h2, h3⟩ Q q => by
    subst h1 h3
    exact ⟨e1.tb ht, v, x1, rfl, h2, hp, q⟩) hg hdb he hpl
theorem ev_c2 {S : Rp ε} {z : ε} {pre : α → β → Prop} {g : α → β → ε} (F : Df X.prog X.w X.K X.mg X.base CX0 k n ps (Sp2 T R1 R2 S pre g)) (hr : Room j X.A) (hk : k ≤ j) (ht : Tb T H) [Mono T R1] [Mono T R2] (ha : Ev T X R1 a σ H x1) (hb : Ev T X R2 b σ H x2) (hp : pre x1 x2) (hz : g x1 x2 = z := by rfl)
    (hg : Gl X n := by rfl) (hdb : (n == ("__debug__" : Str)) = false := by decide) (he : starEach (a :: [b]) X.env = (false, eval a X.env) :: starEach [b] X.env := by rfl) (he2 : starEach (b :: []) X.env = (false, eval b X.env) :: starEach [] X.env := by rfl) (hpl : (backTo pos (starEach [b] X.env)).any (·.1) = false := by rfl) : Ev T X S (.Call (.Name n p) [a, b] [] pos) σ H z :=
  hz ▸ ev_callA F hr hk (ea_cons ha (ea_cons hb ea_nil he2) he) (fun H1 vs e1 ⟨v, r, h1, h2, u, r', h3, h4, h5⟩ Q q => by
    subst h1 h3 h5
    exact ⟨e1.tb ht, v, u, x1, x2, rfl, h2, h4, hp, q⟩) hg hdb he hpl
theorem ev_c3 {S : Rp ε} {z : ε} {pre : α → β → γ → Prop} {g : α → β → γ → ε} (F : Df X.prog X.w X.K X.mg X.base CX0 k n ps (Sp3 T R1 R2 R3 S pre g)) (hr : Room j X.A) (hk : k ≤ j) (ht : Tb T H) [Mono T R1] [Mono T R2] [Mono T R3] (ha : Ev T X R1 a σ H x1) (hb : Ev T X R2 b σ H x2) (hc : Ev T X R3 c σ H x3) (hp : pre x1 x2 x3) (hz : g x1 x2 x3 = z := by rfl)
    (hg : Gl X n := by rfl) (hdb : (n == ("__debug__" : Str)) = false := by decide) (he : starEach (a :: [b, c]) X.env = (false, eval a X.env) :: starEach [b, c] X.env := by rfl) (he2 : starEach (b :: [c]) X.env = (false, eval b X.env) :: starEach [c] X.env := by rfl) (he3 : starEach (c :: []) X.env = (false, eval c X.env) :: starEach [] X.env := by rfl) (hpl : (backTo pos (starEach [b, c] X.env)).any (·.1) = false := by rfl) :
    Ev T X S (.Call (.Name n p) [a, b, c] [] pos) σ H z :=
  hz ▸ ev_callA F hr hk (ea_cons ha (ea_cons hb (ea_cons hc ea_nil he3) he2) he) (fun H1 vs e1 ⟨v, r, h1, h2, u, r', h3, h4, u2, r2, h5, h6, h7⟩ Q q => by
    subst h1 h3 h5 h7
    exact ⟨e1.tb ht, v, u, u2, x1, x2, x3, rfl, h2, h4, h6, hp, q⟩) hg hdb he hpl
theorem ev_c4 {S : Rp ε} {z : ε} {pre : α → β → γ → δ → Prop} {g : α → β → γ → δ → ε} (F : Df X.prog X.w X.K X.mg X.base CX0 k n ps (Sp4 T R1 R2 R3 R4 S pre g)) (hr : Room j X.A) (hk : k ≤ j) (ht : Tb T H) [Mono T R1] [Mono T R2] [Mono T R3] [Mono T R4] (ha : Ev T X R1 a σ H x1) (hb : Ev T X R2 b σ H x2) (hc : Ev T X R3 c σ H x3) (hd : Ev T X R4 d σ H x4) (hp : pre x1 x2 x3 x4) (hz : g x1 x2 x3 x4 = z := by rfl)
    (hg : Gl X n := by rfl) (hdb : (n == ("__debug__" : Str)) = false := by decide) (he : starEach (a :: [b, c, d]) X.env = (false, eval a X.env) :: starEach [b, c, d] X.env := by rfl) (he2 : starEach (b :: [c, d]) X.env = (false, eval b X.env) :: starEach [c, d] X.env := by rfl) (he3 : starEach (c :: [d]) X.env = (false, eval c X.env) :: starEach [d] X.env := by rfl)
    (he4 : starEach (d :: []) X.env = (false, eval d X.env) :: starEach [] X.env := by rfl) (hpl : (backTo pos (starEach [b, c, d] X.env)).any (·.1) = false := by rfl) :
    Ev T X S (.Call (.Name n p) [a, b, c, d] [] pos) σ H z :=
  hz ▸ ev_callA F hr hk (ea_cons ha (ea_cons hb (ea_cons hc (ea_cons hd ea_nil he4) he3) he2) he) (fun H1 vs e1 ⟨v, r, h1, h2, u, r', h3, h4, u2, r2, h5, h6, u3, r3, h7, h8, h9⟩ Q q => by
    subst h1 h3 h5 h7 h9
    exact ⟨e1.tb ht, v, u, u2, u3, x1, x2, x3, x4, rfl, h2, h4, h6, h8, hp, q⟩) hg hdb he hpl
end
/-! ### statements -/
section
variable {X : Cx} {e c : Expr} {sts bs os : List Stmt} {σ : L2.St} {H : Hp} {D : Ends} {α β : Type} {R : Rp α} {S : Rp β} {x : α} {pos p : Pos} {n : Str}
theorem wb_ret (h : Ev T X R e σ H x) (q : ∀ v H', Xt T H H' → R H' v x → D.rt v H') : Wb X (.Return (some e) pos :: sts) D σ H := wb_cons (Ws.of (ps_ret we) (h.now q))
theorem wb_set (i : Nat) (h : Ev T X R e σ H x) (q : ∀ v H', Xt T H H' → R H' v x → Wb X sts D (σ.set i (some v)) H') (hN : X.N.Nodup) (hi : X.N[i]? = some n := by rfl) (hx : Loc X.env.scope n := by first | exact .inl rfl | exact .inr rfl)
    (hs : swapsWith e (some (.Name n p)) pos.line X.env = pure false := by rfl) (hf : X.fn n = true ∨ X.env.scope.names.lookup n = some .local := by exact .inl rfl) : Wb X (.Assign [.Name n p] e pos :: sts) D σ H := wb_cons (Ws.of (ps_set hN hi hx we hs hf) (h.now q))
theorem wb_if {k : Bool} (h : EvT T X c σ H k) (h1 : k = true → ∀ H', Xt T H H' → Wb X bs { D with nx := fun σ' H' => Wb X sts D σ' H' } σ H') (h2 : k = false → ∀ H', Xt T H H' → Wb X os { D with nx := fun σ' H' => Wb X sts D σ' H' } σ H') : Wb X (.If c bs os pos :: sts) D σ H := by
  refine wb_cons (Ws.of (ps_if wt wb wb) (h.now fun H' u => ?_))
  cases k with
  | true => exact h1 rfl H' u
  | false => exact h2 rfl H' u
theorem wb_brk (q : D.bk σ H) : Wb X (.Break pos :: sts) D σ H := wb_cons (Ws.of ps_break q)
/-- x += e, whole numbers -/
theorem wb_augI (i : Nat) {j k : Int} (hx : σ[i]? = some (some (.int j))) (h : Ev T X RI e σ H k) (q : ∀ H', Xt T H H' → Wb X sts D (σ.set i (some (.int (j + k)))) H') (hN : X.N.Nodup) (hi : X.N[i]? = some n := by rfl) (hl : Loc X.env.scope n := by first | exact .inl rfl | exact .inr rfl)
    (hf : X.fn n = true ∨ X.env.scope.names.lookup n = some .local := by exact .inl rfl) : Wb X (.AugAssign (.Name n p) .Add e pos :: sts) D σ H := wb_cons (Ws.of (ps_aug hN hi hl we ip_add hf) ⟨_, hx, h.now fun v H' u r => ⟨j, k, rfl, r, q H' u⟩⟩)
/-- an expression alone -/
theorem wb_expr (h : We X e σ H fun _ H' => Wb X sts D σ H') (hs : swapsWith e none pos.line X.env = pure false := by rfl) : Wb X (.Expr e pos :: sts) D σ H := wb_cons (Ws.of (ps_expr we hs) h)
/-- a list stays as it is -/
theorem we_var {i : Nat} {v : V} {Q : VK} (hs : σ[i]? = some (some v)) (q : Q v H) (hN : X.N[i]? = some n := by rfl) (hv : Vis X.env.scope n := by first | exact Or.inl rfl | exact Or.inr (Or.inl rfl) | exact Or.inr (Or.inr rfl))
    (hd : (n == ("__debug__" : Str)) = false := by decide) (hcd : (n == ("__classdict__" : Str)) = false := by decide) : We X (.Name n pos) σ H Q := We.of (pe_var hN hv hd hcd) ⟨v, hs, q⟩
theorem we_fld {f : Str} {u : V} {Q : VK} (h : We X e σ H fun v H' => Has X.K f H' v u ∧ Q u H') (hb : attributeBase e f X.env (eval e X.env) = eval e X.env := by rfl) : We X (.Attribute e f pos) σ H Q := We.of (pe_fld we hb) (h.imp fun v H' ⟨⟨p, C, dx, fs, h1, h2, h3, h4, h5⟩, q⟩ => ⟨p, C, dx, fs, u, h1, h2, h3, h4, h5, q⟩)
/-- xs.append(e), the list at l -/
theorem we_append {o : Expr} {l : Addr} {vs : List V} {apos : Pos} {Q : VK} [Mono T R] (ho : ∀ Q : VK, Q (.ref l) H → We X o σ H Q) (hl : H l = some (.lst vs)) (h : Ev T X R e σ H x) (hz : vs.length ≤ 1000000)
    (q : ∀ v H', Xt T H H' → R H' v x → Q .non (upd H' l (.lst (vs ++ [v])))) (hbase : attributeBase o "append" X.env (eval o X.env) = eval o X.env := by rfl)
    (hfew : ((backTo pos (starEach (e :: []) X.env)).all (fun x => !x.1) && (backToKw pos (keywordEach [] X.env)).all (fun x => x.1.isSome) && decide ((e :: []).length + ([] : List Keyword).length + (if ([] : List Keyword).isEmpty then 0 else 1) < 30)) = true := by rfl)
    (hline : (apos.endLine == pos.line) = true := by rfl) (hs : starEach (e :: []) X.env = (false, eval e X.env) :: starEach [] X.env := by rfl) (hpl : (backTo pos (starEach [] X.env)).any (·.1) = false := by rfl) : We X (.Call (.Attribute o "append" apos) [e] [] pos) σ H Q :=
  We.of (pe_bm PySem.F.plainAttrs_list PySem.F.slot_list_append PySem.F.type_list_append mt_append we (pa_cons we pa_nil hs) hbase hfew hline hs hpl) (ho _ ⟨.inl ⟨rfl, _, SqL.of hl⟩, h.now fun v H' u r => ⟨l, vs, v, rfl, rfl, u.ex _ _ hl nt_lst, Nat.lt_of_le_of_lt hz (by decide), q v H' u r⟩⟩)
/-- xs.extend(e), e a new list -/
theorem we_extend {o : Expr} {l : Addr} {vs : List V} {xs : List α} {apos : Pos} {Q : VK} (ho : ∀ Q : VK, Q (.ref l) H → We X o σ H Q) (hl : H l = some (.lst vs)) (h : Ev T X (RM R) e σ H xs) (hz : vs.length + xs.length ≤ 1000000)
    (q : ∀ us H', Xt T H H' → All2 (R H') us xs → Q .non (upd H' l (.lst (vs ++ us)))) (hbase : attributeBase o "extend" X.env (eval o X.env) = eval o X.env := by rfl)
    (hfew : ((backTo pos (starEach (e :: []) X.env)).all (fun x => !x.1) && (backToKw pos (keywordEach [] X.env)).all (fun x => x.1.isSome) && decide ((e :: []).length + ([] : List Keyword).length + (if ([] : List Keyword).isEmpty then 0 else 1) < 30)) = true := by rfl)
    (hline : (apos.endLine == pos.line) = true := by rfl) (hs : starEach (e :: []) X.env = (false, eval e X.env) :: starEach [] X.env := by rfl) (hpl : (backTo pos (starEach [] X.env)).any (·.1) = false := by rfl) : We X (.Call (.Attribute o "extend" apos) [e] [] pos) σ H Q :=
  We.of (pe_bm PySem.F.plainAttrs_list PySem.F.slot_list_extend PySem.F.type_list_extend mt_extend we (pa_cons we pa_nil hs) hbase hfew hline hs hpl) (ho _ ⟨.inl ⟨rfl, _, SqL.of hl⟩, h.now fun v H' u ⟨b, us, h1, h2, h3⟩ => ⟨l, b, vs, us, rfl, by rw [h1], u.ex _ _ hl nt_lst, h2, by rw [h3.length]; exact Nat.le_trans hz (by decide), q us H' u h3⟩⟩)
/-! ### loops -/
abbrev PO (X : Cx) : Prop := PassesOwn (model X.prog X.w) X.A X.env X.xe
/-- over a list that stands still: the names' places and the heap by the turn -/
theorem wb_forL {a : Addr} {vs : List V} {it : Expr} (j : Nat) (hp : PO X) (hc : X.calm = true) (hN : X.N.Nodup) (hit : ∀ Q : VK, Q (.ref a) H → We X it σ H Q) (W : Nat → L2.St → Hp → Prop) (h0 : W 0 σ H) (hl : ∀ i σ' H', i ≤ vs.length → W i σ' H' → SqL X.K H' a vs)
    (turn : ∀ i v σ' H', vs[i]? = some v → W i σ' H' → Wb X bs { D with nx := W (i + 1), ct := W (i + 1), bk := fun σ' H' => Wb X sts D σ' H' } (σ'.set j (some v)) H') (done : ∀ σ' H', W vs.length σ' H' → Wb X sts D σ' H')
    (hi : X.N[j]? = some n := by rfl) (hx : Loc X.env.scope n := by first | exact .inl rfl | exact .inr rfl) (hf : X.fn n = true ∨ X.env.scope.names.lookup n = some .local := by exact .inl rfl) (hs : ∀ x, foldedSetIterable it X.env x = pure x := by intro _; rfl) :
    Wb X (.For (.Name n p) it bs [] pos :: sts) D σ H :=
  wb_cons (Ws.of (ps_for hp hc (pi_list we) (pg_name hN hi hx hf) wb hs) (hit _ ⟨a, rfl, ⟨vs, hl 0 σ H (Nat.zero_le _) h0⟩, for_list W h0 hl (fun i v σ' H' e w => turn i v σ' H' e w) done⟩))
/-- a list of pairs, the pairs opened -/
theorem wb_forP {a : Addr} {vs : List V} {it : Expr} {m : Str} {p1 p2 : Pos} {kk : Nat} (j j2 : Nat) (hp : PO X) (hc : X.calm = true) (hN : X.N.Nodup) (hit : ∀ Q : VK, Q (.ref a) H → We X it σ H Q) (W : Nat → L2.St → Hp → Prop) (h0 : W 0 σ H) (hl : ∀ i σ' H', i ≤ vs.length → W i σ' H' → SqL X.K H' a vs)
    (turn : ∀ i v σ' H', vs[i]? = some v → W i σ' H' → ∃ t v1 v2, v = .ref t ∧ SqT X.K H' t [v1, v2] ∧ Wb X bs { D with nx := W (i + 1), ct := W (i + 1), bk := fun σ' H' => Wb X sts D σ' H' } ((σ'.set j (some v1)).set j2 (some v2)) H') (done : ∀ σ' H', W vs.length σ' H' → Wb X sts D σ' H')
    (hi : X.N[j]? = some n := by rfl) (hx : Loc X.env.scope n := by first | exact .inl rfl | exact .inr rfl) (hf : X.fn n = true ∨ X.env.scope.names.lookup n = some .local := by exact .inl rfl)
    (hi2 : X.N[j2]? = some m := by rfl) (hx2 : Loc X.env.scope m := by first | exact .inl rfl | exact .inr rfl) (hf2 : X.fn m = true ∨ X.env.scope.names.lookup m = some .local := by exact .inl rfl) (hs : ∀ x, foldedSetIterable it X.env x = pure x := by intro _; rfl)
    (hn : (assignEach [.Name n p1, .Name m p2] X.env).length = 2 := by rfl) (hst : (assignEach [.Name n p1, .Name m p2] X.env).findIdx? (·.1) = none := by rfl) (g1 : (assignEach (.Name n p1 :: [.Name m p2]) X.env).map (·.2) = assign (.Name n p1) X.env :: (assignEach [.Name m p2] X.env).map (·.2) := by rfl)
    (g2 : (assignEach (.Name m p2 :: []) X.env).map (·.2) = assign (.Name m p2) X.env :: (assignEach [] X.env).map (·.2) := by rfl) :
    Wb X (.For (.Tuple [.Name n p1, .Name m p2] kk p) it bs [] pos :: sts) D σ H :=
  wb_cons (Ws.of (ps_for hp hc (pi_list we) (pg_tup hc (pgs_cons (pg_name hN hi hx hf) (pgs_cons (pg_name hN hi2 hx2 hf2) pgs_nil g2) g1) hn hst) wb hs) (hit _ ⟨a, rfl, ⟨vs, hl 0 σ H (Nat.zero_le _) h0⟩, for_list W h0 hl (fun i v σ' H' e w => by
    obtain ⟨t, v1, v2, h1, h2, h3⟩ := turn i v σ' H' e w
    exact ⟨t, [v1, v2], h1, h2, rfl, v1, [v2], rfl, v2, [], rfl, rfl, h3⟩) done⟩))
/-- over range(lo, hi) -/
theorem wb_forR2 {lo hi : Int} {b1 b2 : Expr} {rp rpos : Pos} (j : Nat) (hp : PO X) (hc : X.calm = true) (hN : X.N.Nodup) (hm : X.mg "range" = none) (h1 : Ev T X RI b1 σ H lo) (h2 : Ev T X RI b2 σ H hi) (hb : -(2 ^ 62) ≤ lo ∧ lo < 2 ^ 62 ∧ -(2 ^ 62) ≤ hi ∧ hi < 2 ^ 62) (W : Nat → L2.St → Hp → Prop) (h0 : ∀ H1, Xt T H H1 → W 0 σ H1)
    (turn : ∀ i σ' H', i < (hi - lo).toNat → W i σ' H' → Wb X bs { D with nx := W (i + 1), ct := W (i + 1), bk := fun σ' H' => Wb X sts D σ' H' } (σ'.set j (some (.int (lo + i)))) H') (done : ∀ σ' H', W (hi - lo).toNat σ' H' → Wb X sts D σ' H') (hg : Gl X "range" := by rfl)
    (hi' : X.N[j]? = some n := by rfl) (hx : Loc X.env.scope n := by first | exact .inl rfl | exact .inr rfl) (hf : X.fn n = true ∨ X.env.scope.names.lookup n = some .local := by exact .inl rfl) (hs : ∀ x, foldedSetIterable (.Call (.Name "range" rp) [b1, b2] [] rpos) X.env x = pure x := by intro _; rfl)
    (q1 : starEach [b1, b2] X.env = [(false, eval b1 X.env), (false, eval b2 X.env)] := by rfl) (q2 : starEach [b2] X.env = [(false, eval b2 X.env)] := by rfl) (q3 : starEach (b1 :: [b2]) X.env = (false, eval b1 X.env) :: starEach [b2] X.env := by rfl) (q4 : starEach (b2 :: []) X.env = (false, eval b2 X.env) :: starEach [] X.env := by rfl) :
    Wb X (.For (.Name n p) (.Call (.Name "range" rp) [b1, b2] [] rpos) bs [] pos :: sts) D σ H :=
  wb_cons (Ws.of (ps_for hp hc (pi_range2 hg hm wa q1 q2) (pg_name hN hi' hx hf) wb hs) ((ea_cons h1 (ea_cons h2 ea_nil q4) q3) H (Xt.refl _) _ fun vs H1 u ⟨v, r, g1, g2, v', r', g3, g4, g5⟩ => by
    subst g1 g3 g5
    cases g2
    cases g4
    exact ⟨lo, hi, rfl, hb, for_range W (h0 H1 u) (fun i σ' H' e w => turn i σ' H' e w) done⟩))
theorem wb_forR1 {hi : Int} {b1 : Expr} {rp rpos : Pos} (j : Nat) (hp : PO X) (hc : X.calm = true) (hN : X.N.Nodup) (hm : X.mg "range" = none) (h1 : Ev T X RI b1 σ H hi) (hb : -(2 ^ 62) ≤ hi ∧ hi < 2 ^ 62) (W : Nat → L2.St → Hp → Prop) (h0 : ∀ H1, Xt T H H1 → W 0 σ H1)
    (turn : ∀ (i : Nat) σ' H', i < hi.toNat → W i σ' H' → Wb X bs { D with nx := W (i + 1), ct := W (i + 1), bk := fun σ' H' => Wb X sts D σ' H' } (σ'.set j (some (.int (i : Int)))) H') (done : ∀ σ' H', W hi.toNat σ' H' → Wb X sts D σ' H') (hg : Gl X "range" := by rfl)
    (hi' : X.N[j]? = some n := by rfl) (hx : Loc X.env.scope n := by first | exact .inl rfl | exact .inr rfl) (hf : X.fn n = true ∨ X.env.scope.names.lookup n = some .local := by exact .inl rfl) (hs : ∀ x, foldedSetIterable (.Call (.Name "range" rp) [b1] [] rpos) X.env x = pure x := by intro _; rfl)
    (q1 : starEach [b1] X.env = [(false, eval b1 X.env)] := by rfl) (q4 : starEach (b1 :: []) X.env = (false, eval b1 X.env) :: starEach [] X.env := by rfl) :
    Wb X (.For (.Name n p) (.Call (.Name "range" rp) [b1] [] rpos) bs [] pos :: sts) D σ H :=
  wb_cons (Ws.of (ps_for hp hc (pi_range1 hg hm wa q1) (pg_name hN hi' hx hf) wb hs) ((ea_cons h1 ea_nil q4) H (Xt.refl _) _ fun vs H1 u ⟨v, r, g1, g2, g3⟩ => by
    subst g1 g3
    cases g2
    exact ⟨hi, rfl, hb.1, hb.2, for_range W (h0 H1 u) (fun i σ' H' e w => by
      have e0 : (0 : Int) + (i : Int) = (i : Int) := Int.zero_add _
      show Wb X bs _ (σ'.set j (some (.int ((0 : Int) + (i : Int))))) H'
      rw [e0]
      exact turn i σ' H' e w) done⟩))
/-- while: a word of a measure, the names' places, the heap -/
theorem wb_while (hp : PO X) (W : Nat → L2.St → Hp → Prop) (m0 : Nat) (h0 : W m0 σ H)
    (turn : ∀ m σ' H', W m σ' H' → Wt X c σ' H' fun b H1 => if b = true then Wb X bs { D with nx := fun σ2 H2 => ∃ m', m' < m ∧ W m' σ2 H2, ct := fun σ2 H2 => ∃ m', m' < m ∧ W m' σ2 H2, bk := fun σ' H' => Wb X sts D σ' H' } σ' H1 else Wb X sts D σ' H1) :
    Wb X (.While c bs [] pos :: sts) D σ H :=
  wb_cons (Ws.of (ps_while hp wt wb) ⟨W, ⟨m0, h0⟩, fun m σ' H' w pins s I => by
    refine wpAny_mono (turn m σ' H' w pins s I) (fun k s1 h => ?_) fun _ _ z => z
    obtain ⟨H1, I1, q⟩ := h
    refine ⟨H1, I1, ?_⟩
    cases k with
    | true => exact ⟨_, fun _ _ z => z, q⟩
    | false => exact q⟩)
end
end G5
/-! Fw4: a tracked object put aside while something else is reckoned. -/
namespace G5
open PySem PySem.Spec PyProof.Rows L2
variable {T : List NTab}
section
variable {X : Cx} {pins : List (Addr × Obj)} {σ : L2.St} {G H : Hp} {s : Shared} {l : Addr} {u : HO}
/-- what is known of an object put aside -/
structure Aside (X : Cx) (pins : List (Addr × Obj)) (l : Addr) : Prop where
  ne : l ≠ X.env.locals
  nc : ∀ x c, X.env.cells.lookup x = some c → c ≠ l
  np : ∀ p ∈ X.pn ++ pins, p.1 ≠ l
  nf : l ∉ X.fs
  old : ∀ ob, X.s_0.heap.get? l = some ob → l ∈ X.ex ∨ X.H_0 l ≠ none
def plainU (u : HO) : Prop := (∀ xs, u ≠ .tup xs) ∧ (∀ o v, u ≠ .frz o v) ∧ (∀ ps, u ≠ .tbl ps)
theorem plain_lst {xs : List V} : plainU (.lst xs) := ⟨(fun _ z => nomatch z), (fun _ _ z => nomatch z), (fun _ z => nomatch z)⟩
theorem plain_ins {C dx : Addr} {fs : List (Str × V)} : plainU (.ins C dx fs) := ⟨(fun _ z => nomatch z), (fun _ _ z => nomatch z), (fun _ z => nomatch z)⟩
theorem plain_own {a : Addr} : plainU (.own a) := ⟨(fun _ z => nomatch z), (fun _ _ z => nomatch z), (fun _ z => nomatch z)⟩
theorem fs_stack (X : Cx) (h : X.stack = X.outer ∨ (X.stack = X.env :: X.outer ∧ X.env.frame = some X.env.locals)) {b : Addr} (hb : b ∈ X.fs) : b ∈ frs X.stack := by
  rcases h with e | ⟨e, hf⟩
  · rw [e]; exact hb
  · rw [e]
    unfold frs
    rw [List.filterMap_cons, hf]
    exact List.mem_cons_of_mem _ hb
/-- the object at l is put aside: known as it stands -/
theorem aside {o : Obj} (I : Inv X pins σ (upd G l u) s) (hl : G l = none) (hu : plainU u) (hown : ∀ a, u = .own a → G a = none) (ho : s.heap.get? l = some o) (hd : ∀ v, o.data ≠ .cell v) : Aside X pins l ∧ Inv X (pins ++ [(l, o)]) σ G s := by
  have at_l : upd G l u l = some u := upd_same
  have none_ne : ∀ {b : Addr}, upd G l u b = none → b ≠ l ∧ G b = none := fun {b} h => by
    have hb : b ≠ l := fun z => by rw [z, at_l] at h; cases h
    rw [upd_ne hb] at h
    exact ⟨hb, h⟩
  have some_G : ∀ {b : Addr} {v : HO}, upd G l u b = some v → v ≠ u → G b = some v := fun {b v} h n => by
    by_cases hb : b = l
    · rw [hb, at_l] at h
      exact absurd (Option.some.inj h).symm n
    · rw [upd_ne hb] at h
      exact h
  have A : Aside X pins l := {
    ne := fun z => (none_ne I.free).1 z.symm
    nc := fun x c e => (none_ne (I.freeC x c e)).1
    np := fun p hp => (none_ne (I.pin p hp).2.1).1
    nf := fun hb => (none_ne (I.stkFree l (fs_stack X I.ok.stk hb))).1 rfl
    old := fun ob e => by
      by_cases hx : l ∈ X.ex
      · exact .inl hx
      · refine .inr fun n => ?_
        have z := I.base.free l ob e n hx
        rw [at_l] at z
        cases z }
  refine ⟨A, I.ok, I.os, I.bare, ⟨I.base.keep, I.base.slot, fun b ob e n hx => (none_ne (I.base.free b ob e n hx)).2, I.base.there, fun b xs e => some_G (I.base.tups b xs e) (fun z => hu.1 xs z.symm), fun b ob v e => some_G (I.base.frzs b ob v e) (fun z => hu.2.1 ob v z.symm), fun b ps e => ?_⟩, I.loc, I.cell, (none_ne I.free).2, fun x c e => (none_ne (I.freeC x c e)).2, fun p hp => ?_, fun a v e => ?_, I.len⟩
  · obtain ⟨m, h⟩ := I.base.tbls b ps e
    exact ⟨m, some_G h (fun z => hu.2.2 _ z.symm)⟩
  · have hp' : p ∈ X.pn ++ pins ∨ p = (l, o) := by
      rcases List.mem_append.mp hp with q | q
      · exact .inl (List.mem_append.mpr (.inl q))
      · rcases List.mem_append.mp q with q | q
        · exact .inl (List.mem_append.mpr (.inr q))
        · exact .inr (by simpa using q)
    rcases hp' with q | q
    · obtain ⟨h1, h2, h3⟩ := I.pin p q
      exact ⟨h1, (none_ne h2).2, h3⟩
    · subst q
      exact ⟨ho, hl, A.ne, A.nf, hd⟩
  · have hb : a ≠ l := ne_of_none e hl
    have h0 := I.hok a v (by rw [upd_ne hb]; exact e)
    refine h0.stay (fun b w _ q => q) (fun b q => ?_) fun b xs q => some_G q fun z => hu.1 xs z.symm
    refine some_G q fun z => ?_
    have := hown a z.symm
    rw [this] at e
    cases e
/-- back again -/
theorem back {o : Obj} (A : Aside X pins l) (I : Inv X (pins ++ [(l, o)]) σ G s) (hu : ObjOk X.prog X.w (upd G l u) s.heap l u) : G l = none ∧ Inv X pins σ (upd G l u) s := by
  obtain ⟨ho, hl, _⟩ := I.pin (l, o) (List.mem_append_right _ (List.mem_append_right _ (by simp)))
  have hl : G l = none := hl
  have keepS : ∀ {b : Addr} {v : HO}, G b = some v → upd G l u b = some v := fun {b v} e => by
    rw [upd_ne (ne_of_none e hl)]; exact e
  have keepN : ∀ {b : Addr}, G b = none → b ≠ l → upd G l u b = none := fun {b} e n => by
    rw [upd_ne n]; exact e
  refine ⟨hl, I.ok, I.os, I.bare, ⟨I.base.keep, I.base.slot, fun b ob e n hx => keepN (I.base.free b ob e n hx) fun z => ?_, I.base.there, fun b xs e => keepS (I.base.tups b xs e), fun b ob v e => keepS (I.base.frzs b ob v e), fun b ps e => ?_⟩, I.loc, I.cell, keepN I.free A.ne.symm, fun x c e => keepN (I.freeC x c e) (A.nc x c e), fun p hp => ?_, fun a v e => ?_, I.len⟩
  · subst z
    rcases A.old ob e with q | q
    · exact hx q
    · exact q n
  · obtain ⟨m, h⟩ := I.base.tbls b ps e
    exact ⟨m, keepS h⟩
  · have hp' : p ∈ X.pn ++ (pins ++ [(l, o)]) := by
      rcases List.mem_append.mp hp with q | q
      · exact List.mem_append.mpr (.inl q)
      · exact List.mem_append.mpr (.inr (List.mem_append.mpr (.inl q)))
    obtain ⟨h1, h2, h3⟩ := I.pin p hp'
    exact ⟨h1, keepN h2 (A.np p hp), h3⟩
  · by_cases hb : a = l
    · subst hb
      rw [upd_same] at e
      cases e
      exact hu
    · rw [upd_ne hb] at e
      exact (I.hok a v e).stay (fun b w _ q => q) (fun b q => keepS q) fun b xs q => keepS q
/-- a list put aside -/
theorem We.hide {e : Expr} {vs : List V} {Q : VK} (hl : G l = none) (h : We X e σ G fun v G2 => G2 l = none → Q v (upd G2 l (.lst vs))) : We X e σ (upd G l (.lst vs)) Q := fun pins s I => by
  obtain ⟨hz, its, n, hv, ho⟩ := I.hok l _ upd_same
  obtain ⟨A, I1⟩ := aside I hl plain_lst (fun _ z => nomatch z) ho (fun _ z => nomatch z)
  refine thn (h _ s I1) fun v s1 ⟨x, G2, I2, r, q⟩ => ?_
  have ho2 := (I2.pin (l, _) (List.mem_append_right _ (List.mem_append_right _ (List.mem_cons_self ..)))).1
  obtain ⟨h2, I3⟩ := back A I2 (u := .lst vs) ⟨hz, its, n, hv, ho2⟩
  exact ⟨x, _, I3, r, q h2⟩
theorem Wt.hide {e : Expr} {vs : List V} {Q : Bool → Hp → Prop} (hl : G l = none) (h : Wt X e σ G fun v G2 => G2 l = none → Q v (upd G2 l (.lst vs))) : Wt X e σ (upd G l (.lst vs)) Q := fun pins s I => by
  obtain ⟨hz, its, n, hv, ho⟩ := I.hok l _ upd_same
  obtain ⟨A, I1⟩ := aside I hl plain_lst (fun _ z => nomatch z) ho (fun _ z => nomatch z)
  refine thn (h _ s I1) fun v s1 ⟨G2, I2, q⟩ => ?_
  have ho2 := (I2.pin (l, _) (List.mem_append_right _ (List.mem_append_right _ (List.mem_cons_self ..)))).1
  obtain ⟨h2, I3⟩ := back A I2 (u := .lst vs) ⟨hz, its, n, hv, ho2⟩
  exact ⟨_, I3, q h2⟩
/-- an instance and its dict put aside -/
abbrev updI (G : Hp) (r dx C : Addr) (fs : List (Str × V)) : Hp := upd (upd G dx (.own r)) r (.ins C dx fs)
theorem instPart {P : Program} {w : World} {h : Heap} {r dx C : Addr} {fs : List (Str × V)} (x : ObjOk P w H h r (.ins C dx fs)) : fs.length ≤ 1000 ∧ dx ≠ r ∧ h.get? r = some (PySem.W.instObj C dx) ∧ ∃ od, h.get? dx = some od ∧ (∀ v, od.data ≠ .cell v) ∧
    ∀ h2 : Heap, ∀ H2 : Hp, h2.get? r = some (PySem.W.instObj C dx) → h2.get? dx = some od → H2 dx = some (.own r) → ObjOk P w H2 h2 r (.ins C dx fs) := by
  obtain ⟨h1, h2, h3, h4, mA, ⟨od, es, ep, e1, e2, e3⟩, h6, h7⟩ := x
  exact ⟨h2, h3, h4, od, e1, (fun v z => by rw [e2] at z; cases z), fun hh H2 a1 a2 a3 => ⟨a3, h2, h3, a1, mA, ⟨od, es, ep, a2, e2, e3⟩, h6, h7⟩⟩
theorem We.hideI {e : Expr} {r dx C : Addr} {fs : List (Str × V)} {Q : VK} (hr : G r = none) (hd : G dx = none) (h : We X e σ G fun v G2 => G2 r = none → G2 dx = none → Q v (updI G2 r dx C fs)) : We X e σ (updI G r dx C fs) Q := fun pins s I => by
  obtain ⟨z1, ne, ho, od, hod, hdc, mk⟩ := instPart (I.hok r _ upd_same)
  have hr' : (upd G dx (.own r)) r = none := by rw [upd_ne ne.symm]; exact hr
  obtain ⟨A, I1⟩ := aside I hr' plain_ins (fun _ z => nomatch z) ho (fun _ z => nomatch z)
  obtain ⟨A2, I2⟩ := aside I1 hd plain_own (fun a z => by cases z; exact hr) hod hdc
  refine thn (h _ s I2) fun v s1 ⟨x, G2, I3, rr, q⟩ => ?_
  have hod2 := (I3.pin (dx, od) (List.mem_append_right _ (List.mem_append_right _ (List.mem_cons_self ..)))).1
  have ho2 := (I3.pin (r, _) (List.mem_append_right _ (List.mem_append_left _ (List.mem_append_right _ (List.mem_cons_self ..))))).1
  have hr2 : G2 r = none := (I3.pin (r, _) (List.mem_append_right _ (List.mem_append_left _ (List.mem_append_right _ (List.mem_cons_self ..))))).2.1
  obtain ⟨h2, I4⟩ := back A2 I3 (u := .own r) ⟨_, hod2⟩
  obtain ⟨h3, I5⟩ := back A I4 (u := .ins C dx fs) (mk _ _ ho2 hod2 (by rw [upd_ne ne]; exact upd_same))
  exact ⟨x, _, I5, rr, q hr2 h2⟩
theorem Wt.hideI {e : Expr} {r dx C : Addr} {fs : List (Str × V)} {Q : Bool → Hp → Prop} (hr : G r = none) (hd : G dx = none) (h : Wt X e σ G fun v G2 => G2 r = none → G2 dx = none → Q v (updI G2 r dx C fs)) : Wt X e σ (updI G r dx C fs) Q := fun pins s I => by
  obtain ⟨z1, ne, ho, od, hod, hdc, mk⟩ := instPart (I.hok r _ upd_same)
  have hr' : (upd G dx (.own r)) r = none := by rw [upd_ne ne.symm]; exact hr
  obtain ⟨A, I1⟩ := aside I hr' plain_ins (fun _ z => nomatch z) ho (fun _ z => nomatch z)
  obtain ⟨A2, I2⟩ := aside I1 hd plain_own (fun a z => by cases z; exact hr) hod hdc
  refine thn (h _ s I2) fun v s1 ⟨G2, I3, q⟩ => ?_
  have hod2 := (I3.pin (dx, od) (List.mem_append_right _ (List.mem_append_right _ (List.mem_cons_self ..)))).1
  have ho2 := (I3.pin (r, _) (List.mem_append_right _ (List.mem_append_left _ (List.mem_append_right _ (List.mem_cons_self ..))))).1
  have hr2 : G2 r = none := (I3.pin (r, _) (List.mem_append_right _ (List.mem_append_left _ (List.mem_append_right _ (List.mem_cons_self ..))))).2.1
  obtain ⟨h2, I4⟩ := back A2 I3 (u := .own r) ⟨_, hod2⟩
  obtain ⟨h3, I5⟩ := back A I4 (u := .ins C dx fs) (mk _ _ ho2 hod2 (by rw [upd_ne ne]; exact upd_same))
  exact ⟨_, I5, q hr2 h2⟩
end
end G5
/-! Fw5: comprehensions, a list of ours that grows. -/
namespace G5
open PySem PySem.Spec PyProof.Rows L2
variable {T : List NTab}
/-! ### comprehensions -/
/-- a comprehension whose reading stands -/
def LcAt (X : Cx) (e : Expr) (σ : L2.St) (H1 : Hp) (Q : VK) : Prop := ∃ (elt tg iter : Expr) (ifs : List Expr) (scope : Scope) (own : List (Str × Nat)) (pos : Pos) (wi : TI) (g : TG) (tt : TT) (te : TE), e = .ListComp elt [⟨tg, iter, ifs, 0⟩] scope pos ∧ PI X tg iter wi ∧ BlkOk X.N X.env.scope scope own ∧
  (∀ (s : Shared) (H : Hp) (C : Addr) (cl : List (Str × Addr)) (fp : List Addr), PG (X.blk s H scope (compEnvC scope cl C X.env) fp) tg g) ∧ (∀ (s : Shared) (H : Hp) (C : Addr) (cl : List (Str × Addr)) (fp : List Addr), PTs (X.blk s H scope (compEnvC scope cl C X.env) fp) ifs tt) ∧
  (∀ (s : Shared) (H : Hp) (C : Addr) (cl : List (Str × Addr)) (fp : List Addr), PE (X.blk s H scope (compEnvC scope cl C X.env) fp) elt te) ∧ (∀ x, foldedSetIterable iter X.env x = pure x) ∧ tLc wi g tt te (own.map (·.2)) σ H1 Q
theorem lx {X : Cx} {elt tg iter : Expr} {ifs : List Expr} {scope : Scope} {own : List (Str × Nat)} {pos : Pos} {wi : TI} {g : TG} {tt : TT} {te : TE} {σ : L2.St} {H1 : Hp} {Q : VK} (hi : PI X tg iter wi) (ok : BlkOk X.N X.env.scope scope own)
    (hg : ∀ (s : Shared) (H : Hp) (C : Addr) (cl : List (Str × Addr)) (fp : List Addr), PG (X.blk s H scope (compEnvC scope cl C X.env) fp) tg g) (ht : ∀ (s : Shared) (H : Hp) (C : Addr) (cl : List (Str × Addr)) (fp : List Addr), PTs (X.blk s H scope (compEnvC scope cl C X.env) fp) ifs tt)
    (he : ∀ (s : Shared) (H : Hp) (C : Addr) (cl : List (Str × Addr)) (fp : List Addr), PE (X.blk s H scope (compEnvC scope cl C X.env) fp) elt te) (hs : ∀ x, foldedSetIterable iter X.env x = pure x) (h : tLc wi g tt te (own.map (·.2)) σ H1 Q) : LcAt X (.ListComp elt [⟨tg, iter, ifs, 0⟩] scope pos) σ H1 Q :=
  ⟨_, _, _, _, _, _, _, _, _, _, _, rfl, hi, ok, hg, ht, he, hs, h⟩
def LcEv (T : List NTab) {β : Type} (X : Cx) (S : Rp β) (e : Expr) (σ : L2.St) (H : Hp) (ys : List β) : Prop := ∀ H1, Xt T H H1 → ∀ Q : VK, (∀ v H2, Xt T H1 H2 → RM S H2 v ys → Q v H2) → LcAt X e σ H1 Q
theorem LcEv.ev {X : Cx} {β : Type} {S : Rp β} {e : Expr} {σ : L2.St} {H : Hp} {ys : List β} (h : LcEv T X S e σ H ys) (hc : X.calm = true) (hN : X.N.Nodup) : Ev T X (RM S) e σ H ys := fun H1 e1 Q q => by
  obtain ⟨elt, tg, iter, ifs, scope, own, pos, wi, g, tt, te, rfl, h1, h2, h3, h4, h5, h6, h7⟩ := h H1 e1 Q q
  exact We.of (pe_lc hc hN h1 h2 h3 h4 h5 h6) h7
/-- name = [..] -/
theorem wb_setLc {X : Cx} {β : Type} {S : Rp β} {e : Expr} {sts : List Stmt} {D : Ends} {σ : L2.St} {H : Hp} {ys : List β} {n : Str} {p pos : Pos} (i : Nat) (h : LcEv T X S e σ H ys) (hc : X.calm = true) (hN : X.N.Nodup) (q : ∀ v H', Xt T H H' → RM S H' v ys → Wb X sts D (σ.set i (some v)) H')
    (hsw : swapsWith e (some (.Name n p)) pos.line X.env = pure true := by exact sw_true rfl rfl rfl (by decide +kernel)) (hi : X.N[i]? = some n := by rfl) (hl : X.env.scope.names.lookup n = some .local := by rfl) : Wb X (.Assign [.Name n p] e pos :: sts) D σ H := by
  obtain ⟨elt, tg, iter, ifs, scope, own, pos', wi, g, tt, te, rfl, h1, h2, h3, h4, h5, h6, h7⟩ := h H (Xt.refl H) _ q
  exact wb_cons (Ws.of (ps_setLc hc hN hi hl hsw h1 h2 h3 h4 h5 h6) h7)
theorem take_snoc {α : Type} {l : List α} {i : Nat} {x : α} (h : l[i]? = some x) : l.take (i + 1) = l.take i ++ [x] := by
  rw [List.take_add_one, h]
  rfl
section
variable {X : Cx} {σ : L2.St} {H : Hp} {α β : Type} {R : Rp α} {S : Rp β} {xs : List α} {pr : α → Bool} {g : α → β}
abbrev Blk (X : Cx) (s : Shared) (H : Hp) (scope : Scope) (C : Addr) (cl : List (Str × Addr)) (fp : List Addr) : Cx := X.blk s H scope (compEnvC scope cl C X.env) fp
/-- what a comprehension's list is, turn by turn -/
def LcP (T : List NTab) {α β : Type} (S : Rp β) (H1 : Hp) (D : Addr) (xs : List α) (pr : α → Bool) (g : α → β) (i : Nat) (H' : Hp) : Prop :=
  ∃ G vs, H' = upd G D (.lst vs) ∧ G D = none ∧ Xt T H1 G ∧ All2 (S G) vs (((xs.take i).filter pr).map g)
theorem LcP.zero {H1 : Hp} {D : Addr} (hD : H1 D = none) : LcP T S H1 D xs pr g 0 (upd H1 D (.lst [])) := ⟨H1, [], rfl, hD, Xt.refl _, .nil⟩
/-- a block's element, its test, in every block -/
def Be (X : Cx) (scope : Scope) (e : Expr) : TE := fun σ H Q => ∀ s H0 C cl fp, We (Blk X s H0 scope C cl fp) e σ H Q
def Bt (X : Cx) (scope : Scope) (e : Expr) : TT := fun σ H Q => ∀ s H0 C cl fp, Wt (Blk X s H0 scope C cl fp) e σ H Q
def BEv (T : List NTab) {β : Type} (X : Cx) (scope : Scope) (S : Rp β) (e : Expr) (σ : L2.St) (H : Hp) (y : β) : Prop := ∀ s H0 C cl fp, Ev T (Blk X s H0 scope C cl fp) S e σ H y
def BEvT (T : List NTab) (X : Cx) (scope : Scope) (e : Expr) (σ : L2.St) (H : Hp) (k : Bool) : Prop := ∀ s H0 C cl fp, EvT T (Blk X s H0 scope C cl fp) e σ H k
theorem lc_turn [Mono T S] {scope : Scope} {elt : Expr} {tt : TT} {σ2 : L2.St} {H1 H' : Hp} {D : Addr} {i : Nat} {x : α} (hx : xs[i]? = some x) (hz : xs.length ≤ 1000000) (w : LcP T S H1 D xs pr g i H')
    (ht : ∀ G vs Q, Xt T H1 G → G D = none → (∀ G2, Xt T G G2 → G2 D = none → Q (pr x) (upd G2 D (.lst vs))) → tt σ2 (upd G D (.lst vs)) Q) (he : ∀ G, Xt T H1 G → pr x = true → BEv T X scope S elt σ2 G (g x)) :
    tt σ2 H' fun b H3 => if b = true then Be X scope elt σ2 H3 fun y H4 => ∃ acc, H4 D = some (.lst acc) ∧ acc.length < sizeLine ∧ LcP T S H1 D xs pr g (i + 1) (upd H4 D (.lst (acc ++ [y]))) else LcP T S H1 D xs pr g (i + 1) H3 := by
  obtain ⟨G, vs, rfl, hG, e1, ha⟩ := w
  refine ht G vs _ e1 hG fun G2 e2 hG2 => ?_
  cases hp : pr x with
  | false =>
    refine iteF ⟨G2, vs, rfl, hG2, e1.trans e2, ?_⟩
    rw [take_snoc hx, List.filter_append, List.filter_cons, if_neg (by rw [hp]; decide)]
    show All2 (S G2) vs (List.map g (_ ++ []))
    rw [List.append_nil]
    exact ha.mono e2
  | true =>
    refine iteT fun s H0 C cl fp => We.hide hG2 ((he G2 (e1.trans e2) hp s H0 C cl fp).now fun v G3 e3 r hG3 => ⟨vs, upd_same, ?_, G3, vs ++ [v], upd_upd, hG3, (e1.trans e2).trans e3, ?_⟩)
    · rw [ha.length, List.length_map]
      have h1 := List.length_filter_le pr (xs.take i)
      have h2 : (xs.take i).length ≤ xs.length := by rw [List.length_take]; omega
      exact Nat.lt_of_le_of_lt (Nat.le_trans h1 (Nat.le_trans h2 hz)) (by decide)
    · rw [take_snoc hx, List.filter_append, List.map_append, List.filter_cons, if_pos hp]
      exact (ha.mono (e2.trans e3)).append (.cons r .nil)
theorem LcP.fin {H1 H' : Hp} {D : Addr} [Mono T S] (w : LcP T S H1 D xs pr g xs.length H') : Xt T H1 H' ∧ RM S H' (.ref D) ((xs.filter pr).map g) := by
  obtain ⟨G, vs, rfl, hG, e1, ha⟩ := w
  rw [List.take_length] at ha
  exact ⟨e1.trans (Xt.new hG), D, vs, rfl, upd_same, ha.mono (Xt.new (T := T) hG)⟩
theorem LcP.ext {H1 H' : Hp} {D : Addr} {i : Nat} (w : LcP T S H1 D xs pr g i H') : Xt T H1 H' := by
  obtain ⟨G, vs, rfl, hG, e1, ha⟩ := w
  exact e1.trans (Xt.new hG)
/-- a block's test, from where the list is put aside -/
theorem bt_hide {scope : Scope} {c : Expr} {σ2 : L2.St} {G : Hp} {D : Addr} {vs : List V} {k : Bool} {Q : Bool → Hp → Prop} (hG : G D = none) (h : BEvT T X scope c σ2 G k) (q : ∀ G2, Xt T G G2 → G2 D = none → Q k (upd G2 D (.lst vs))) : Bt X scope c σ2 (upd G D (.lst vs)) Q :=
  fun s H0 C cl fp => Wt.hide hG ((h s H0 C cl fp).now fun G2 e2 hG2 => q G2 e2 hG2)
section
variable [Mono T R] [Mono T S] {scope : Scope} {elt c it : Expr} {n m : Str} {p p1 p2 pos : Pos} {j j2 : Nat}
theorem be_pe : ∀ (s : Shared) (H : Hp) (C : Addr) (cl : List (Str × Addr)) (fp : List Addr), PE (X.blk s H scope (compEnvC scope cl C X.env) fp) elt (Be X scope elt) := fun s0 H0 C cl fp => ⟨fun pins s σ H Q I h => h s0 H0 C cl fp pins s I⟩
theorem bt_pt : ∀ (s : Shared) (H : Hp) (C : Addr) (cl : List (Str × Addr)) (fp : List Addr), PTs (X.blk s H scope (compEnvC scope cl C X.env) fp) [c] (Bt X scope c) := fun s0 H0 C cl fp => pts_one ⟨fun pins s σ H Q I h => h s0 H0 C cl fp pins s I⟩
/-- [elt for n in it] -/
theorem lx_lc {x0 : α → β} (hc : X.calm = true) (hN : X.N.Nodup) (hit : Ev T X (RL X.K R) it σ H xs) (hz : xs.length ≤ 1000000) (ok : BlkOk X.N X.env.scope scope [(n, j)])
    (hg : ∀ (s : Shared) (H : Hp) (C : Addr) (cl : List (Str × Addr)) (fp : List Addr), PG (X.blk s H scope (compEnvC scope cl C X.env) fp) (.Name n p) (gName j))
    (he : ∀ (i : Nat) v x G, xs[i]? = some x → Xt T H G → R G v x → BEv T X scope S elt ((wipe σ [j]).set j (some v)) G (x0 x)) (hw : ∀ v, wipe ((wipe σ [j]).set j (some v)) [j] = wipe σ [j] := by intros; rfl) (hs : ∀ x, foldedSetIterable it X.env x = pure x := by intro _; rfl) :
    LcEv T X S (.ListComp elt [⟨.Name n p, it, [], 0⟩] scope pos) σ H (xs.map x0) := fun H1 e1 Q q =>
  lx (own := [(n, j)]) (pi_list we) ok hg (fun _ _ _ _ _ => pts_nil) be_pe hs (hit H1 e1 _ fun v0 H2 e2 ⟨a, vs, h1, h2, h3⟩ => ⟨a, h1, ⟨vs, h2⟩, fun D hD =>
    lc_list (K := X.K) (a := a) (xs := vs) (LcP T S H2 D xs (fun _ => true) x0) (LcP.zero hD) (fun i H' _ w => w.ext.seqL h2) (fun i v H' hi w => by
      obtain ⟨x, hx, hr⟩ := h3.getL hi
      exact ⟨hw v, lc_turn (tt := tYes) hx hz w (fun G us Q e3 hG k => k G (Xt.refl _) hG) fun G e3 _ => he i v x G hx ((e1.trans e2).trans e3) (Mono.mono e3 hr)⟩) fun H' w => by
      rw [h3.length] at w
      have z := w.fin
      rw [List.filter_eq_self.mpr (fun _ _ => rfl)] at z
      exact q _ H' (e2.trans z.1) z.2⟩)
/-- [elt for n in it if c] -/
theorem lx_lcI (hc : X.calm = true) (hN : X.N.Nodup) (hit : Ev T X (RL X.K R) it σ H xs) (hz : xs.length ≤ 1000000) (ok : BlkOk X.N X.env.scope scope [(n, j)])
    (hg : ∀ (s : Shared) (H : Hp) (C : Addr) (cl : List (Str × Addr)) (fp : List Addr), PG (X.blk s H scope (compEnvC scope cl C X.env) fp) (.Name n p) (gName j))
    (ht : ∀ (i : Nat) v x G, xs[i]? = some x → Xt T H G → R G v x → BEvT T X scope c ((wipe σ [j]).set j (some v)) G (pr x))
    (he : ∀ (i : Nat) v x G, xs[i]? = some x → Xt T H G → R G v x → pr x = true → BEv T X scope S elt ((wipe σ [j]).set j (some v)) G (g x)) (hw : ∀ v, wipe ((wipe σ [j]).set j (some v)) [j] = wipe σ [j] := by intros; rfl) (hs : ∀ x, foldedSetIterable it X.env x = pure x := by intro _; rfl) :
    LcEv T X S (.ListComp elt [⟨.Name n p, it, [c], 0⟩] scope pos) σ H ((xs.filter pr).map g) := fun H1 e1 Q q =>
  lx (own := [(n, j)]) (pi_list we) ok hg bt_pt be_pe hs (hit H1 e1 _ fun v0 H2 e2 ⟨a, vs, h1, h2, h3⟩ => ⟨a, h1, ⟨vs, h2⟩, fun D hD =>
    lc_list (K := X.K) (a := a) (xs := vs) (LcP T S H2 D xs pr g) (LcP.zero hD) (fun i H' _ w => w.ext.seqL h2) (fun i v H' hi w => by
      obtain ⟨x, hx, hr⟩ := h3.getL hi
      exact ⟨hw v, lc_turn (tt := Bt X scope c) hx hz w (fun G us Q e3 hG k => bt_hide hG (ht i v x G hx ((e1.trans e2).trans e3) (Mono.mono e3 hr)) k) fun G e3 hp => he i v x G hx ((e1.trans e2).trans e3) (Mono.mono e3 hr) hp⟩) fun H' w => by
      rw [h3.length] at w
      exact q _ H' (e2.trans w.fin.1) w.fin.2⟩)
end
/-- a pair is opened into two names -/
theorem bg_pair {n m : Str} {j j2 kk : Nat} {p p1 p2 : Pos} {scope : Scope} (hc : X.calm = true) (h1 : ∀ (s : Shared) (H : Hp) (C : Addr) (cl : List (Str × Addr)) (fp : List Addr), PG (X.blk s H scope (compEnvC scope cl C X.env) fp) (.Name n p1) (gName j)) (h2 : ∀ (s : Shared) (H : Hp) (C : Addr) (cl : List (Str × Addr)) (fp : List Addr), PG (X.blk s H scope (compEnvC scope cl C X.env) fp) (.Name m p2) (gName j2))
    (q1 : ∀ E : Env, (assignEach [.Name n p1, .Name m p2] E).length = 2 := by intro _; rfl) (q2 : ∀ E : Env, (assignEach [.Name n p1, .Name m p2] E).findIdx? (·.1) = none := by intro _; rfl) (q3 : ∀ E : Env, (assignEach (.Name n p1 :: [.Name m p2]) E).map (·.2) = assign (.Name n p1) E :: (assignEach [.Name m p2] E).map (·.2) := by intro _; rfl)
    (q4 : ∀ E : Env, (assignEach (.Name m p2 :: []) E).map (·.2) = assign (.Name m p2) E :: (assignEach [] E).map (·.2) := by intro _; rfl) :
    ∀ (s : Shared) (H : Hp) (C : Addr) (cl : List (Str × Addr)) (fp : List Addr), PG (X.blk s H scope (compEnvC scope cl C X.env) fp) (.Tuple [.Name n p1, .Name m p2] kk p) (gTup X.K 2 (gCons (gName j) (gCons (gName j2) gNil))) := fun s H C cl fp =>
  pg_tup (X := X.blk s H scope (compEnvC scope cl C X.env) fp) hc (pgs_cons (h1 s H C cl fp) (pgs_cons (h2 s H C cl fp) pgs_nil (q4 _)) (q3 _)) (q1 _) (q2 _)
theorem gpair {j j2 : Nat} {v : V} {a : Addr} {v1 v2 : V} {σ0 : L2.St} {H0 : Hp} {Q : L2.St → Hp → Prop} (hv : v = .ref a) (hs : SqT X.K H0 a [v1, v2]) (q : Q ((σ0.set j (some v1)).set j2 (some v2)) H0) : gTup X.K 2 (gCons (gName j) (gCons (gName j2) gNil)) v σ0 H0 Q :=
  ⟨a, [v1, v2], hv, hs, rfl, v1, [v2], rfl, v2, [], rfl, rfl, q⟩
section
variable {γ : Type} {R2 : Rp γ} [Mono T R] [Mono T R2] [Mono T S] {scope : Scope} {elt c it : Expr} {n m : Str} {p p1 p2 pos : Pos} {j j2 kk : Nat} {ps : List (α × γ)} {g2 : α × γ → β}
/-- [elt for n, m in it], it a list of pairs -/
theorem lx_lcP (hc : X.calm = true) (hN : X.N.Nodup) (hit : Ev T X (RL X.K (RP X.K R R2)) it σ H ps) (hz : ps.length ≤ 1000000) (ok : BlkOk X.N X.env.scope scope [(n, j), (m, j2)])
    (h1 : ∀ (s : Shared) (H : Hp) (C : Addr) (cl : List (Str × Addr)) (fp : List Addr), PG (X.blk s H scope (compEnvC scope cl C X.env) fp) (.Name n p1) (gName j)) (h2 : ∀ (s : Shared) (H : Hp) (C : Addr) (cl : List (Str × Addr)) (fp : List Addr), PG (X.blk s H scope (compEnvC scope cl C X.env) fp) (.Name m p2) (gName j2))
    (he : ∀ (i : Nat) v1 v2 x G, ps[i]? = some x → Xt T H G → R G v1 x.1 → R2 G v2 x.2 → BEv T X scope S elt (((wipe σ [j, j2]).set j (some v1)).set j2 (some v2)) G (g2 x)) (hw : ∀ v1 v2, wipe (((wipe σ [j, j2]).set j (some v1)).set j2 (some v2)) [j, j2] = wipe σ [j, j2] := by intros; rfl) (hs : ∀ x, foldedSetIterable it X.env x = pure x := by intro _; rfl)
    (q1 : ∀ E : Env, (assignEach [.Name n p1, .Name m p2] E).length = 2 := by intro _; rfl) (q2 : ∀ E : Env, (assignEach [.Name n p1, .Name m p2] E).findIdx? (·.1) = none := by intro _; rfl) (q3 : ∀ E : Env, (assignEach (.Name n p1 :: [.Name m p2]) E).map (·.2) = assign (.Name n p1) E :: (assignEach [.Name m p2] E).map (·.2) := by intro _; rfl)
    (q4 : ∀ E : Env, (assignEach (.Name m p2 :: []) E).map (·.2) = assign (.Name m p2) E :: (assignEach [] E).map (·.2) := by intro _; rfl) :
    LcEv T X S (.ListComp elt [⟨.Tuple [.Name n p1, .Name m p2] kk p, it, [], 0⟩] scope pos) σ H (ps.map g2) := fun H1 e1 Q q =>
  lx (own := [(n, j), (m, j2)]) (pi_list we) ok (bg_pair hc h1 h2 q1 q2 q3 q4) (fun _ _ _ _ _ => pts_nil) be_pe hs (hit H1 e1 _ fun v0 H2 e2 ⟨a, vs, k1, k2, k3⟩ => ⟨a, k1, ⟨vs, k2⟩, fun D hD =>
    lc_list (K := X.K) (a := a) (xs := vs) (LcP T S H2 D ps (fun _ => true) g2) (LcP.zero hD) (fun i H' _ w => w.ext.seqL k2) (fun i v H' hi w => by
      obtain ⟨x, hx, b, v1, v2, hv, hb, r1, r2⟩ := k3.getL hi
      refine gpair hv (w.ext.seqT hb) ⟨hw v1 v2, ?_⟩
      exact lc_turn (tt := tYes) hx hz w (fun G us Q e3 hG k => k G (Xt.refl _) hG) fun G e3 _ => he i v1 v2 x G hx ((e1.trans e2).trans e3) (Mono.mono e3 r1) (Mono.mono e3 r2)) fun H' w => by
      rw [k3.length] at w
      have z := w.fin
      rw [List.filter_eq_self.mpr (fun _ _ => rfl)] at z
      exact q _ H' (e2.trans z.1) z.2⟩)
/-- [elt for n in range(hi)] -/
theorem lx_lcR {hi : Nat} {g3 : Nat → β} {rp rpos : Pos} {b1 : Expr} (hc : X.calm = true) (hN : X.N.Nodup) (hm : X.mg "range" = none) (hb : Ev T X RI b1 σ H (hi : Int)) (hz : hi ≤ 1000000) (ok : BlkOk X.N X.env.scope scope [(n, j)])
    (h1 : ∀ (s : Shared) (H : Hp) (C : Addr) (cl : List (Str × Addr)) (fp : List Addr), PG (X.blk s H scope (compEnvC scope cl C X.env) fp) (.Name n p1) (gName j))
    (he : ∀ (i : Nat) G, i < hi → Xt T H G → BEv T X scope S elt ((wipe σ [j]).set j (some (.int (i : Int)))) G (g3 i)) (hw : ∀ v, wipe ((wipe σ [j]).set j (some v)) [j] = wipe σ [j] := by intros; rfl) (hg : Gl X "range" := by rfl) (hs : ∀ x, foldedSetIterable (.Call (.Name "range" rp) [b1] [] rpos) X.env x = pure x := by intro _; rfl)
    (q1 : starEach [b1] X.env = [(false, eval b1 X.env)] := by rfl) (q4 : starEach (b1 :: []) X.env = (false, eval b1 X.env) :: starEach [] X.env := by rfl) :
    LcEv T X S (.ListComp elt [⟨.Name n p1, .Call (.Name "range" rp) [b1] [] rpos, [], 0⟩] scope pos) σ H ((List.range hi).map g3) := fun H1 e1 Q q =>
  lx (own := [(n, j)]) (pi_range1 hg hm wa q1) ok h1 (fun _ _ _ _ _ => pts_nil) be_pe hs ((ea_cons hb ea_nil q4) H1 e1 _ fun us H2 e2 ⟨v, r, k1, k2, k3⟩ => by
    subst k1 k3
    cases k2
    refine ⟨(hi : Int), rfl, by omega, by omega, fun D hD => ?_⟩
    have e0 : ((hi : Int)).toNat = hi := by omega
    rw [e0]
    refine lc_range (lo := 0) (n := hi) (LcP T S H2 D (List.range hi) (fun _ => true) g3) (LcP.zero hD) (fun i H' hi' w => ?_) fun H' w => ?_
    · have hx : (List.range hi)[i]? = some i := by rw [List.getElem?_range hi']
      have e5 : (0 : Int) + (i : Int) = (i : Int) := Int.zero_add _
      rw [e5]
      exact ⟨hw _, lc_turn (tt := tYes) hx (by rw [List.length_range]; exact hz) w (fun G us Q e3 hG k => k G (Xt.refl _) hG) fun G e3 _ => he i G hi' ((e1.trans e2).trans e3)⟩
    · have e6 : hi = (List.range hi).length := by rw [List.length_range]
      rw [e6] at w
      rw [List.length_range] at w
      have w' : LcP T S H2 D (List.range hi) (fun _ => true) g3 (List.range hi).length H' := by rw [List.length_range]; exact w
      have z := w'.fin
      rw [List.filter_eq_self.mpr (fun _ _ => rfl)] at z
      exact q _ H' (e2.trans z.1) z.2)
theorem lx_lcRI {hi : Nat} {g3 : Nat → β} {pr3 : Nat → Bool} {rp rpos : Pos} {b1 : Expr} (hc : X.calm = true) (hN : X.N.Nodup) (hm : X.mg "range" = none) (hb : Ev T X RI b1 σ H (hi : Int)) (hz : hi ≤ 1000000) (ok : BlkOk X.N X.env.scope scope [(n, j)])
    (h1 : ∀ (s : Shared) (H : Hp) (C : Addr) (cl : List (Str × Addr)) (fp : List Addr), PG (X.blk s H scope (compEnvC scope cl C X.env) fp) (.Name n p1) (gName j))
    (ht : ∀ (i : Nat) G, i < hi → Xt T H G → BEvT T X scope c ((wipe σ [j]).set j (some (.int (i : Int)))) G (pr3 i))
    (he : ∀ (i : Nat) G, i < hi → Xt T H G → pr3 i = true → BEv T X scope S elt ((wipe σ [j]).set j (some (.int (i : Int)))) G (g3 i)) (hw : ∀ v, wipe ((wipe σ [j]).set j (some v)) [j] = wipe σ [j] := by intros; rfl) (hg : Gl X "range" := by rfl) (hs : ∀ x, foldedSetIterable (.Call (.Name "range" rp) [b1] [] rpos) X.env x = pure x := by intro _; rfl)
    (q1 : starEach [b1] X.env = [(false, eval b1 X.env)] := by rfl) (q4 : starEach (b1 :: []) X.env = (false, eval b1 X.env) :: starEach [] X.env := by rfl) :
    LcEv T X S (.ListComp elt [⟨.Name n p1, .Call (.Name "range" rp) [b1] [] rpos, [c], 0⟩] scope pos) σ H (((List.range hi).filter pr3).map g3) := fun H1 e1 Q q =>
  lx (own := [(n, j)]) (pi_range1 hg hm wa q1) ok h1 bt_pt be_pe hs ((ea_cons hb ea_nil q4) H1 e1 _ fun us H2 e2 ⟨v, r, k1, k2, k3⟩ => by
    subst k1 k3
    cases k2
    refine ⟨(hi : Int), rfl, by omega, by omega, fun D hD => ?_⟩
    have e0 : ((hi : Int)).toNat = hi := by omega
    rw [e0]
    refine lc_range (lo := 0) (n := hi) (LcP T S H2 D (List.range hi) pr3 g3) (LcP.zero hD) (fun i H' hi' w => ?_) fun H' w => ?_
    · have hx : (List.range hi)[i]? = some i := by rw [List.getElem?_range hi']
      have e5 : (0 : Int) + (i : Int) = (i : Int) := Int.zero_add _
      rw [e5]
      exact ⟨hw _, lc_turn (tt := Bt X scope c) hx (by rw [List.length_range]; exact hz) w (fun G us Q e3 hG k => bt_hide hG (ht i G hi' ((e1.trans e2).trans e3)) k) fun G e3 hp => he i G hi' ((e1.trans e2).trans e3) hp⟩
    · have w' : LcP T S H2 D (List.range hi) pr3 g3 (List.range hi).length H' := by rw [List.length_range]; exact w
      exact q _ H' (e2.trans w'.fin.1) w'.fin.2)
end
end
end G5
/-! Fw6: enumerate over a tuple, over a list; comprehensions over it. -/
namespace G5
open PySem
theorem enum_made {v : Value} {ob : Obj} {HH : Heap → Prop} (B : Begins v ob HH) :
    Meets (Builtin.«enumerate.__new__» ⟨[.type "enumerate", v], []⟩) (fun _ R s => HH s.heap ∧
      R (.ok (.ret (.ref (s.heap.push ob).objs.size))) { s with heap := (s.heap.push ob).push { cls := .type "enumerate", data := .fields #[.none, .bool false, .ref s.heap.objs.size, rawInt 0, .none, .none] } }) :=
  .of_wp fun prog w A R s h => by
    obtain ⟨hp, g, d, tk, os⟩ := s
    obtain ⟨h1, hR⟩ := h
    have hsub := sub_enumerate
    have q1 : ∀ {A' : Around} {E : Value → Shared → Prop} {Q : Value → Shared → Prop}, Q (.ref hp.objs.size) ⟨hp.push ob, g, d, tk, os⟩ → wpAny (model prog w) A' (pyIter v) Q E ⟨hp, g, d, tk, os⟩ := fun q => B.iter prog w _ _ ⟨hp, g, d, tk, os⟩ _ h1 q
    wp_walk using q1
    refine wpAny_stack_any fun stk => wpAny_pure ?_
    split
    · rename_i cc _ _ _ _ _
      cases (cc == Value.type "enumerate") <;> (wp_walk using q1; exact ⟨_, rfl, hR⟩)
    · wp_walk using q1
      exact ⟨_, rfl, hR⟩
theorem enum_call {prog : Program} {w : World} {A : Around} {E : Value → Shared → Prop} {s : Shared} {v : Value} {ob : Obj} {HH : Heap → Prop} {Q : Value → Shared → Prop} (B : Begins v ob HH) (h1 : HH s.heap)
    (h : ∀ h', IsEnum h' (s.heap.objs.size + 1) s.heap.objs.size 0 .none → h'.get? s.heap.objs.size = some ob → (∀ b o, s.heap.get? b = some o → h'.get? b = some o) → Q (.ref (s.heap.objs.size + 1)) { s with heap := h' }) :
    wpAny (model prog w) A (call (.type "enumerate") [v]) Q E s := by
  refine callType_new F.called_enumerate (by decide) (F.typeCall_enumerate_1 _) (F.newCall_enumerate_1 _) (fun obj => F.args_object_init_2 obj _) F.entry_enumerate_new (enum_made B) ⟨h1, ?_⟩
  have hz : (s.heap.push ob).objs.size = s.heap.objs.size + 1 := Heap.size_push ..
  show _ ∧ _
  rw [hz]
  have he : IsEnum ((s.heap.push ob).push { cls := .type "enumerate", data := .fields #[.none, .bool false, .ref s.heap.objs.size, rawInt 0, .none, .none] }) (s.heap.objs.size + 1) s.heap.objs.size 0 .none := by
    have z := Heap.get?_push_size (s.heap.push ob) (o := { cls := .type "enumerate", data := .fields #[.none, .bool false, .ref s.heap.objs.size, rawInt 0, .none, .none] }) rfl
    rw [hz] at z
    exact z
  exact ⟨⟨_, he, rfl⟩, h _ he (Heap.get?_push_of_some _ (Heap.get?_push_size _ B.free)) fun b o x => Heap.get?_push_of_some _ (Heap.get?_push_of_some _ x)⟩
end G5
namespace G5
open PySem PySem.Spec PyProof.Rows L2
variable {T : List NTab}
/-- the tuple at a, each item in a new pair with its place -/
def ItE (K : PySem.W.Frag) (a : Addr) : It :=
  ⟨fun i H => ∃ (xs : List V) (x : V), SqT K H a xs ∧ xs[i]? = some x, fun i H v H' => ∃ t x, v = .ref t ∧ H t = none ∧ H' = upd H t (.tup [.int (i : Nat), x]) ∧ ∀ xs, SqT K H a xs → xs[i]? = some x, fun i H => ∃ xs : List V, SqT K H a xs ∧ xs.length ≤ i⟩
theorem turn_enumT {P : Program} {w : World} {K : PySem.W.Frag} {elts : List Expr} {kk : Nat} {tpos : Pos} (a e it : Addr) :
    Turn P w K (.Tuple elts kk tpos) (ItE K a) [e, it] e (fun i h => (∃ old, IsEnum h e it ((i : Nat) : Int) old) ∧ h.IsTupleIter it a i ∧ e ≠ it) where
  mem := List.mem_cons_self ..
  obj := fun i h st b hb => by
    obtain ⟨⟨old, he⟩, ⟨o, ho, hc, hd⟩, _⟩ := st
    rcases (show b = e ∨ b = it by simpa using hb) with z | z
    · rw [z]; exact ⟨_, he, fun v q => nomatch q⟩
    · rw [z]; exact ⟨o, ho, fun v q => by rw [hd] at q; cases q⟩
  keep := fun i h h' st k => let ⟨⟨old, he⟩, hi, hne⟩ := st; ⟨⟨old, k e (List.mem_cons_self ..) _ he⟩, hi.at fun o q => k it (by simp) o q, hne⟩
  item := by
    intro X hP hw hK hc i pins s σ H E I hf st hg
    subst hP hw hK
    obtain ⟨⟨old, he⟩, hit, hne⟩ := st
    obtain ⟨xs, x, hq, hx⟩ := hg
    obtain ⟨its, rv, p, hz⟩ := I.tuple hq
    have hel : e < s.heap.objs.size := Heap.lt_size he
    have hil : it < s.heap.objs.size := by obtain ⟨_, q, _⟩ := hit; exact Heap.lt_size q
    have hae : a ≠ it := fun z => by
      obtain ⟨o, ho, hc1, _⟩ := p
      obtain ⟨o2, ho2, hc2, _⟩ := hit
      rw [z, ho2] at ho
      cases ho
      rw [hc2] at hc1
      exact absurd (Value.type.inj hc1) (by decide)
    have hae2 : e ∉ [it, a] := fun z => by
      rcases (show e = it ∨ e = a by simpa using z) with q | q
      · exact hne q
      · obtain ⟨o, ho, hc1, _⟩ := p
        rw [← q, he] at ho
        cases ho
        exact absurd (Value.type.inj hc1) (by decide)
    have hh : X.A.in1.handled = none := I.ok.hd hc
    have hlt : i < its.toArray.size := by
      have h1 := (List.getElem?_eq_some_iff.mp hx).1
      rw [List.size_toArray, ← rv.length]
      exact h1
    refine wpAny_pyNext_enum_itemD (Draws.tuple hh it a hae its.toArray) he ⟨hit, p⟩ hlt hne hae2 fun u h' tk hu ho hit' hT hsz hk => ?_
    refine ⟨_, rfl, wpAny_letOwnedTupleGo_enum (s := { s with heap := h', toks := tk + 1 }) ho fun h'' he' sb => ?_⟩
    have ru : RelV x u := by
      obtain ⟨u', hu', ru'⟩ := rv.get hx
      have e1 : its.toArray[i]? = some u := hu
      rw [List.getElem?_toArray, hu'] at e1
      cases e1
      exact ru'
    have hT2 : h''.get? s.heap.objs.size = some { cls := .type "tuple", data := .seq #[.int i tk, u] } := (sb.2 _ (Nat.ne_of_gt hel)).trans hT
    have new : ObjOk X.prog X.w (upd H s.heap.objs.size (.tup [.int (i : Nat), x])) h'' s.heap.objs.size (.tup [.int (i : Nat), x]) :=
      ⟨by show 2 ≤ sizeLine; decide, [.int i tk, u], .cons ⟨_, rfl⟩ (.cons ru .nil), ⟨_, hT2, rfl, _, rfl⟩⟩
    have I1 : Inv X pins σ (upd H s.heap.objs.size (.tup [.int (i : Nat), x])) { s with heap := h'', toks := tk + 1 } :=
      I.turnedNew (ch := [e, it]) (fun b ob hb q => (sb.2 b (fun z => hb (by simp [z]))).trans (hk b ob (fun z => hb (by simp [z])) (fun z => hb (by simp [z])) q)) hf (Nat.le_refl _) new
    refine ⟨.ref s.heap.objs.size, _, I1, rfl, ⟨_, x, rfl, I.hok.fresh (Nat.le_refl _), rfl, fun ys hy => by rw [I.tuple_inj hy hq]; exact hx⟩, ⟨⟨u, ?_⟩, hit'.1.at fun o q => (sb.2 it (Ne.symm hne)).trans q, hne⟩, fun b hb => ?_⟩
    · have e1 : ((i + 1 : Nat) : Int) = (i : Int) + 1 := by omega
      rw [e1]; exact he'
    · have hb' : b < s.heap.objs.size := by
        rcases (show b = e ∨ b = it by simpa using hb) with z | z
        · rw [z]; exact hel
        · rw [z]; exact hil
      rw [upd_ne (Nat.ne_of_lt hb')]
      exact (hf b hb).1
  done := by
    intro X hP hw hK hc i pins s σ H E I hf st hg
    subst hP hw hK
    obtain ⟨⟨old, he⟩, hit, hne⟩ := st
    obtain ⟨xs, hq, hx⟩ := hg
    obtain ⟨its, rv, p, hz⟩ := I.tuple hq
    obtain ⟨f0, f1, f2, f3, f4, f5⟩ := hf it (by simp)
    have hl := rv.length
    have hae : a ≠ it := fun z => by
      obtain ⟨o, ho, hc1, _⟩ := p
      obtain ⟨o2, ho2, hc2, _⟩ := hit
      rw [z, ho2] at ho
      cases ho
      rw [hc2] at hc1
      exact absurd (Value.type.inj hc1) (by decide)
    have hT : s.TypeIs (.ref e) "enumerate" := ⟨_, he, rfl⟩
    unfold pyNext
    refine wpAny_bind (wpAny_attempt (wpAny_callSpecial?_slot (name := Str.ofString "__next__") hT F.slot_enumerate_next
      (wpAny_call_entry F.slot_enumerate_next hT F.entry_enumerate_next ?_ (F.args_enumerate_next_1 _))))
    show wpAny _ _ (field (.ref e) 2 >>= _) _ _ _
    refine wpAny_bind (wpAny_field he rfl (x := .ref it) rfl ?_)
    refine wpAny_bind (wpAny_nextOf_tuple_end (I.ok.hd hc) hit (show s.heap.IsTuple a its.toArray from p) (by simp; omega) fun h' x hx' he' => ?_)
    obtain ⟨o, ho, hc⟩ := he'
    refine wpAny_bind (wpAny_isInstance (T := "StopIteration") (b := true) ⟨o, ho, hc⟩ isSubtype_stop ?_)
    exact wpAny_pure ⟨rfl, I.turned (t' := s.toks) (fun b o hb q => hx' b o hb q) f0 f1 f3 f4 f5⟩
  self := fun A i s Q E st h => let ⟨⟨_, he⟩, _⟩ := st; wpAny_pyIter_enum he h
def iEnT (K : PySem.W.Frag) (ta : TA) : TI := fun σ H R => ta σ H fun vs H1 => ∃ a xs, vs = [.ref a] ∧ SqT K H1 a xs ∧ R (ItE K a) H1
theorem pi_enT {X : Cx} {e : Expr} {ta : TA} {p pos tpos : Pos} {elts : List Expr} {kk : Nat} (hg : Gl X "enumerate") (hm : X.mg "enumerate" = none) (ha : PA X [e] ta) (hs : starEach [e] X.env = [(false, eval e X.env)] := by rfl) :
    PI X (.Tuple elts kk tpos) (.Call (.Name "enumerate" p) [e] [] pos) (iEnT X.K ta) := by
  refine ⟨fun pins s σ H R I h => ?_⟩
  refine Call_ (ld_blt I hg hm boot_enumerate (PyProof.Rows.callWith_type1 (thn (ha.run pos pins s σ H _ I h) fun us s1 ⟨vs, H1, I1, r1, q1⟩ => ?_) hs rfl))
  obtain ⟨a, xs, ex, hq, q⟩ := q1
  subst ex
  cases r1 with
  | cons r rr =>
    cases rr
    cases r
    obtain ⟨its, rv, p', hz⟩ := I1.tuple hq
    refine enum_call (begins_tuple a its.toArray) p' fun h' he hit hk => wpAny_pyIter_enum he ?_
    have I2 : Inv X pins σ H1 { s1 with heap := h' } := I1.kept (t' := s1.toks) hk
    refine ⟨s1.heap.objs.size + 1, [s1.heap.objs.size + 1, s1.heap.objs.size], _, _, H1, rfl, I2, turn_enumT a (s1.heap.objs.size + 1) s1.heap.objs.size, ⟨⟨.none, he⟩, ⟨_, hit, rfl, rfl⟩, Nat.succ_ne_self _⟩, fun b hb => ?_, q⟩
    have hle : s1.heap.objs.size ≤ b := by
      rcases (show b = s1.heap.objs.size + 1 ∨ b = s1.heap.objs.size by simpa using hb) with z | z
      · rw [z]; exact Nat.le_add_right _ _
      · rw [z]; exact Nat.le_refl _
    exact I1.fpOk hle (I1.hok.fresh hle)
end G5
/-! Fw7: comprehensions over enumerate, for over enumerate, over a text, over a tuple. -/
namespace G5
open PySem PySem.Spec PyProof.Rows L2
variable {T : List NTab}
theorem upd_swap {H : Hp} {a b : Addr} {o u : HO} (h : a ≠ b) : upd (upd H a o) b u = upd (upd H b u) a o := by
  funext c
  unfold upd
  by_cases h1 : c = b
  · subst h1
    rw [if_pos rfl, if_neg h.symm, if_pos rfl]
  · by_cases h2 : c = a
    · subst h2
      rw [if_neg h1, if_pos rfl, if_pos rfl]
    · rw [if_neg h1, if_neg h2, if_neg h2, if_neg h1]
section
variable {X : Cx} {σ : L2.St} {H : Hp} {α β : Type} {R : Rp α} {S : Rp β} {xs : List α}
/-- an iterator that gives each of vs in a new pair with its place, while Sq stands -/
structure EnumIt (J : It) (Sq : Hp → Prop) (vs : List V) : Prop where
  go : ∀ i H', Sq H' → i < vs.length → J.go i H'
  yld : ∀ i H' x H'', Sq H' → J.yld i H' x H'' → ∃ t v, x = .ref t ∧ H' t = none ∧ vs[i]? = some v ∧ H'' = upd H' t (.tup [.int (i : Nat), v])
  stop : ∀ i H', Sq H' → vs.length ≤ i → J.stop i H'
theorem enumL {K : PySem.W.Frag} {a : Addr} {vs : List V} : EnumIt (Ite K a) (fun H' => SqL K H' a vs) vs :=
  ⟨fun i H' h hi => ⟨vs, vs[i], h, by simp [hi]⟩, fun i H' x H'' h ⟨t, v, h1, h2, h3, h4⟩ => ⟨t, v, h1, h2, h4 vs h, h3⟩, fun i H' h hi => ⟨vs, h, hi⟩⟩
theorem enumT {K : PySem.W.Frag} {a : Addr} {vs : List V} : EnumIt (ItE K a) (fun H' => SqT K H' a vs) vs :=
  ⟨fun i H' h hi => ⟨vs, vs[i], h, by simp [hi]⟩, fun i H' x H'' h ⟨t, v, h1, h2, h3, h4⟩ => ⟨t, v, h1, h2, h4 vs h, h3⟩, fun i H' h hi => ⟨vs, h, hi⟩⟩
section
variable {K : PySem.W.Frag} [Mono T R] [Mono T S] {scope : Scope} {elt c it : Expr} {n m : Str} {p p1 p2 pos : Pos} {j j2 kk : Nat} {pr : Nat × α → Bool} {g : Nat × α → β}
def zipN {α : Type} (xs : List α) : List (Nat × α) := (List.range xs.length).zip xs
theorem zipN_get {i : Nat} {x : α} (h : xs[i]? = some x) : (zipN xs)[i]? = some (i, x) := by
  unfold zipN
  have hi := (List.getElem?_eq_some_iff.mp h).1
  rw [List.getElem?_zip_eq_some]
  exact ⟨List.getElem?_range hi, h⟩
theorem zipN_len : (zipN xs).length = xs.length := by
  unfold zipN
  rw [List.length_zip, List.length_range, Nat.min_self]
theorem lc_enum {J : It} {Sq : Hp → Prop} {vs : List V} (hJ : EnumIt J Sq vs) {H2 : Hp} {Q : VK} {D : Addr} (hD : H2 D = none) (hS : ∀ H', Xt T H2 H' → Sq H') (h3 : All2 (R H2) vs xs) (hz : xs.length ≤ 1000000) {tt : TT}
    (ht : ∀ (i : Nat) v x G σ2, xs[i]? = some x → Xt T H2 G → R G v x → σ2 = ((wipe σ [j, j2]).set j (some (.int (i : Int)))).set j2 (some v) → ∀ us Q, G D = none → (∀ G2, Xt T G G2 → G2 D = none → Q (pr (i, x)) (upd G2 D (.lst us))) → tt σ2 (upd G D (.lst us)) Q)
    (he : ∀ (i : Nat) v x G, xs[i]? = some x → Xt T H2 G → R G v x → pr (i, x) = true → BEv T X scope S elt (((wipe σ [j, j2]).set j (some (.int (i : Int)))).set j2 (some v)) G (g (i, x))) (hw : ∀ v1 v2, wipe (((wipe σ [j, j2]).set j (some v1)).set j2 (some v2)) [j, j2] = wipe σ [j, j2])
    (q : ∀ H', Xt T H2 H' → RM S H' (.ref D) (((zipN xs).filter pr).map g) → Q (.ref D) H') :
    ∃ W : Nat → Nat → Hp → Prop, (∃ m, W 0 m (upd H2 D (.lst []))) ∧ ∀ i m H, W i m H →
      (J.stop i H ∧ Q (.ref D) H) ∨ (J.go i H ∧ ∃ Nx : Hp → Prop, (∀ H', Nx H' → ∃ m', m' < m ∧ W (i + 1) m' H') ∧ ∀ x H', J.yld i H x H' → gTup X.K 2 (gCons (gName j) (gCons (gName j2) gNil)) x (wipe σ [j, j2]) H' fun σ2 H2 => wipe σ2 [j, j2] = wipe σ [j, j2] ∧ tt σ2 H2 fun b H3 =>
        if b = true then Be X scope elt σ2 H3 fun y H4 => ∃ acc, H4 D = some (.lst acc) ∧ acc.length < sizeLine ∧ Nx (upd H4 D (.lst (acc ++ [y]))) else Nx H3) := by
  refine ⟨fun i m H' => m = vs.length - i ∧ i ≤ vs.length ∧ LcP T S H2 D (zipN xs) pr g i H', ⟨_, rfl, Nat.zero_le _, LcP.zero hD⟩, ?_⟩
  rintro i m H' ⟨rfl, hi, w⟩
  have hsq := hS H' w.ext
  by_cases hlt : i < vs.length
  · refine .inr ⟨hJ.go i H' hsq hlt, LcP T S H2 D (zipN xs) pr g (i + 1), fun H'' w' => ⟨vs.length - (i + 1), by omega, rfl, hlt, w'⟩, fun y H'' hy => ?_⟩
    obtain ⟨t, v, rfl, hT, hv, rfl⟩ := hJ.yld i H' y H'' hsq hy
    obtain ⟨x, hx, hr⟩ := h3.getL hv
    refine gpair rfl (SqT.of upd_same) ⟨hw _ _, ?_⟩
    obtain ⟨G, us, rfl, hG, e1, ha⟩ := w
    have hTD : t ≠ D := fun z => by rw [z, upd_same] at hT; cases hT
    have hGT : G t = none := by rw [upd_ne hTD] at hT; exact hT
    rw [upd_swap hTD.symm]
    have e2 : Xt T G (upd G t (.tup [.int (i : Nat), v])) := Xt.new hGT
    refine lc_turn (tt := tt) (zipN_get hx) (by rw [zipN_len]; exact hz) ⟨_, us, rfl, by rw [upd_ne hTD.symm]; exact hG, e1.trans e2, ha.mono e2⟩ (fun G' us' Q e3 hG' k => ?_) fun G' e3 hp => ?_
    · exact ht i v x G' _ hx e3 (Mono.mono e3 hr) rfl us' Q hG' k
    · exact he i v x G' hx e3 (Mono.mono e3 hr) hp
  · have e : i = vs.length := by omega
    subst e
    rw [h3.length, ← zipN_len] at w
    exact .inl ⟨hJ.stop _ H' hsq (Nat.le_refl _), q H' w.fin.1 w.fin.2⟩
/-- [elt for n, m in enumerate(it) if c], it a tuple -/
theorem lx_lcET {ep epos : Pos} (hc : X.calm = true) (hN : X.N.Nodup) (hm : X.mg "enumerate" = none) (hit : Ev T X (RTs X.K R) it σ H xs) (hz : xs.length ≤ 1000000) (ok : BlkOk X.N X.env.scope scope [(n, j), (m, j2)])
    (h1 : ∀ (s : Shared) (H : Hp) (C : Addr) (cl : List (Str × Addr)) (fp : List Addr), PG (X.blk s H scope (compEnvC scope cl C X.env) fp) (.Name n p1) (gName j)) (h2 : ∀ (s : Shared) (H : Hp) (C : Addr) (cl : List (Str × Addr)) (fp : List Addr), PG (X.blk s H scope (compEnvC scope cl C X.env) fp) (.Name m p2) (gName j2))
    (ht : ∀ (i : Nat) v x G, xs[i]? = some x → Xt T H G → R G v x → BEvT T X scope c (((wipe σ [j, j2]).set j (some (.int (i : Int)))).set j2 (some v)) G (pr (i, x)))
    (he : ∀ (i : Nat) v x G, xs[i]? = some x → Xt T H G → R G v x → pr (i, x) = true → BEv T X scope S elt (((wipe σ [j, j2]).set j (some (.int (i : Int)))).set j2 (some v)) G (g (i, x))) (hw : ∀ v1 v2, wipe (((wipe σ [j, j2]).set j (some v1)).set j2 (some v2)) [j, j2] = wipe σ [j, j2] := by intros; rfl)
    (hg : Gl X "enumerate" := by rfl) (hs : ∀ x, foldedSetIterable (.Call (.Name "enumerate" ep) [it] [] epos) X.env x = pure x := by intro _; rfl) (q5 : starEach [it] X.env = [(false, eval it X.env)] := by rfl) (q6 : starEach (it :: []) X.env = (false, eval it X.env) :: starEach [] X.env := by rfl)
    (q1 : ∀ E : Env, (assignEach [.Name n p1, .Name m p2] E).length = 2 := by intro _; rfl) (q2 : ∀ E : Env, (assignEach [.Name n p1, .Name m p2] E).findIdx? (·.1) = none := by intro _; rfl) (q3 : ∀ E : Env, (assignEach (.Name n p1 :: [.Name m p2]) E).map (·.2) = assign (.Name n p1) E :: (assignEach [.Name m p2] E).map (·.2) := by intro _; rfl)
    (q4 : ∀ E : Env, (assignEach (.Name m p2 :: []) E).map (·.2) = assign (.Name m p2) E :: (assignEach [] E).map (·.2) := by intro _; rfl) :
    LcEv T X S (.ListComp elt [⟨.Tuple [.Name n p1, .Name m p2] kk p, .Call (.Name "enumerate" ep) [it] [] epos, [c], 0⟩] scope pos) σ H (((zipN xs).filter pr).map g) := fun H1 e1 Q q =>
  lx (own := [(n, j), (m, j2)]) (pi_enT hg hm wa q5) ok (bg_pair hc h1 h2 q1 q2 q3 q4) bt_pt be_pe hs ((ea_cons hit ea_nil q6) H1 e1 _ fun us H2 e2 ⟨v0, r, k0, ⟨a, vs, k1, k2, k3⟩, k4⟩ => by
    subst k0 k4 k1
    exact ⟨a, vs, rfl, k2, fun D hD => lc_enum enumT hD (fun H' u => u.seqT k2) k3 hz (fun i v x G σ2 hx u hr e us Q hG k => by subst e; exact bt_hide hG (ht i v x G hx ((e1.trans e2).trans u) hr) k) (fun i v x G hx u hr hp => he i v x G hx ((e1.trans e2).trans u) hr hp) hw fun H' u r => q _ H' (e2.trans u) r⟩)
/-- it a list -/
theorem lx_lcEL {ep epos : Pos} (hc : X.calm = true) (hN : X.N.Nodup) (hm : X.mg "enumerate" = none) (hit : Ev T X (RL X.K R) it σ H xs) (hz : xs.length ≤ 1000000) (ok : BlkOk X.N X.env.scope scope [(n, j), (m, j2)])
    (h1 : ∀ (s : Shared) (H : Hp) (C : Addr) (cl : List (Str × Addr)) (fp : List Addr), PG (X.blk s H scope (compEnvC scope cl C X.env) fp) (.Name n p1) (gName j)) (h2 : ∀ (s : Shared) (H : Hp) (C : Addr) (cl : List (Str × Addr)) (fp : List Addr), PG (X.blk s H scope (compEnvC scope cl C X.env) fp) (.Name m p2) (gName j2))
    (ht : ∀ (i : Nat) v x G, xs[i]? = some x → Xt T H G → R G v x → BEvT T X scope c (((wipe σ [j, j2]).set j (some (.int (i : Int)))).set j2 (some v)) G (pr (i, x)))
    (he : ∀ (i : Nat) v x G, xs[i]? = some x → Xt T H G → R G v x → pr (i, x) = true → BEv T X scope S elt (((wipe σ [j, j2]).set j (some (.int (i : Int)))).set j2 (some v)) G (g (i, x))) (hw : ∀ v1 v2, wipe (((wipe σ [j, j2]).set j (some v1)).set j2 (some v2)) [j, j2] = wipe σ [j, j2] := by intros; rfl)
    (hg : Gl X "enumerate" := by rfl) (hs : ∀ x, foldedSetIterable (.Call (.Name "enumerate" ep) [it] [] epos) X.env x = pure x := by intro _; rfl) (q5 : starEach [it] X.env = [(false, eval it X.env)] := by rfl) (q6 : starEach (it :: []) X.env = (false, eval it X.env) :: starEach [] X.env := by rfl)
    (q1 : ∀ E : Env, (assignEach [.Name n p1, .Name m p2] E).length = 2 := by intro _; rfl) (q2 : ∀ E : Env, (assignEach [.Name n p1, .Name m p2] E).findIdx? (·.1) = none := by intro _; rfl) (q3 : ∀ E : Env, (assignEach (.Name n p1 :: [.Name m p2]) E).map (·.2) = assign (.Name n p1) E :: (assignEach [.Name m p2] E).map (·.2) := by intro _; rfl)
    (q4 : ∀ E : Env, (assignEach (.Name m p2 :: []) E).map (·.2) = assign (.Name m p2) E :: (assignEach [] E).map (·.2) := by intro _; rfl) :
    LcEv T X S (.ListComp elt [⟨.Tuple [.Name n p1, .Name m p2] kk p, .Call (.Name "enumerate" ep) [it] [] epos, [c], 0⟩] scope pos) σ H (((zipN xs).filter pr).map g) := fun H1 e1 Q q =>
  lx (own := [(n, j), (m, j2)]) (pi_enum hg hm wa q5) ok (bg_pair hc h1 h2 q1 q2 q3 q4) bt_pt be_pe hs ((ea_cons hit ea_nil q6) H1 e1 _ fun us H2 e2 ⟨v0, r, k0, ⟨a, vs, k1, k2, k3⟩, k4⟩ => by
    subst k0 k4 k1
    exact ⟨a, vs, rfl, k2, fun D hD => lc_enum enumL hD (fun H' u => u.seqL k2) k3 hz (fun i v x G σ2 hx u hr e us Q hG k => by subst e; exact bt_hide hG (ht i v x G hx ((e1.trans e2).trans u) hr) k) (fun i v x G hx u hr hp => he i v x G hx ((e1.trans e2).trans u) hr hp) hw fun H' u r => q _ H' (e2.trans u) r⟩)
end
end
end G5
/-! Prog: the program's text by places, what its top leaves, how the specification's things lie in a heap. -/
namespace G5
open PySem PySem.Spec PyProof.Rows L2
/-- the i-th statement of the top -/
def top (i : Nat) : Stmt := PySem.Challenge.pw_readyanswers_s01_answers.main.body.getD i (.Pass ⟨0, 0, 0, 0⟩)
/-- a class of ours: its instances read, stored; its names -/
structure Kl (K : PySem.W.Frag) (mg : Str → Option Value) (n : Str) (C : Addr) (fs : List Str) : Prop where
  cl : Cls K C
  at' : mg n = some (.ref C)
  no : ∀ f ∈ fs, NoAttr K C f
structure Cs where
  stock : Addr
  best : Addr
  token : Addr
  reader : Addr
  table : Addr
  holder : Addr
  fault : Addr
  refused : Addr
/-- the shapes of the calls, the deeds' names -/
def callsL : List (Int × Int) := [(0, 1), (0, 0), (2, 0), (2, 0), (1, 0), (1, 1), (2, 0), (2, 0), (0, 0), (0, 0), (0, 0), (0, 0)]
def deedsL : List Str := ["load", "shown", "times", "ask", "drop", "add_row", "keep", "terms", "report", "advise", "take_best", "undo"]
/-- a def by its name -/
def RDf (mg : Str → Option Value) : Rp Str := fun _ v n => ∃ f, v = .ref f ∧ mg n = some (.ref f)
/-- what the top leaves of names -/
structure Gf (K : PySem.W.Frag) (mg : Str → Option Value) (c : Cs) : Prop where
  len : mg "len" = none
  set : mg "set" = none
  tuple : mg "tuple" = none
  enum : mg "enumerate" = none
  range : mg "range" = none
  sorted : mg "sorted" = none
  sum : mg "sum" = none
  list : mg "list" = none
  ord : mg "ord" = none
  str : mg "str" = none
  int : mg "int" = none
  abs : mg "abs" = none
  verr : mg "ValueError" = none
  stock : Kl K mg "Stock" c.stock ["table", "kept", "room", "changes"]
  best : Kl K mg "Best" c.best ["paid", "lines", "number"]
  token : Kl K mg "Token" c.token ["what", "told", "place"]
  reader : Kl K mg "Reader" c.reader ["tokens", "at"]
  table : Kl K mg "Table" c.table ["columns", "lines", "questions"]
  holder : Kl K mg "Holder" c.holder ["stock", "held"]
  gTABLE : ∃ t, mg "TABLE" = some (.int (-1) t)
  gFOR : ∃ t, mg "FOR_EACH" = some (.int 2 t)
  gMOST_TEXT : ∃ t, mg "MOST_TEXT" = some (.int (4096) t)
  gMOST_NAME : ∃ t, mg "MOST_NAME" = some (.int (16) t)
  gMOST_NUMBER : ∃ t, mg "MOST_NUMBER" = some (.int (1000000000) t)
  gLINE : ∃ t, mg "LINE" = some (.int (10) t)
  gREMARK : ∃ t, mg "REMARK" = some (.int (35) t)
  gNO_SIZE : ∃ t, mg "NO_SIZE" = some (.int (1) t)
  gNO_TOKEN : ∃ t, mg "NO_TOKEN" = some (.int (2) t)
  gNOT_ALLOWED : ∃ t, mg "NOT_ALLOWED" = some (.int (3) t)
  gMOST_COLUMNS : ∃ t, mg "MOST_COLUMNS" = some (.int (4) t)
  gMOST_ROWS : ∃ t, mg "MOST_ROWS" = some (.int (16) t)
  gMOST_QUESTIONS : ∃ t, mg "MOST_QUESTIONS" = some (.int (8) t)
  gMOST_VALUE : ∃ t, mg "MOST_VALUE" = some (.int (9) t)
  gMOST_SUMMED : ∃ t, mg "MOST_SUMMED" = some (.int (1000) t)
  gMOST_TIMES : ∃ t, mg "MOST_TIMES" = some (.int (99) t)
  gTOO_MANY : ∃ t, mg "TOO_MANY" = some (.int (4) t)
  gTOLD_BEFORE : ∃ t, mg "TOLD_BEFORE" = some (.int (5) t)
  gASKED_BEFORE : ∃ t, mg "ASKED_BEFORE" = some (.int (6) t)
  gOUT_OF_RANGE : ∃ t, mg "OUT_OF_RANGE" = some (.int (7) t)
  gNO_COLUMN : ∃ t, mg "NO_COLUMN" = some (.int (8) t)
  gNO_TABLE : ∃ t, mg "NO_TABLE" = some (.int (-1) t)
  gNO_GROUPING : ∃ t, mg "NO_GROUPING" = some (.int (-2) t)
  gNO_QUESTION : ∃ t, mg "NO_QUESTION" = some (.int (-3) t)
  gBAD : ∃ t, mg "BAD" = some (.int (-4) t)
  gBAD_TERMS : ∃ t, mg "BAD_TERMS" = some (.int (-5) t)
  gFULL : ∃ t, mg "FULL" = some (.int (-6) t)
  gNONE_HELD : ∃ t, mg "NONE_HELD" = some (.int (-8) t)
  gMOST_HELD : ∃ t, mg "MOST_HELD" = some (.int (20) t)
  gMOST_TERM : ∃ t, mg "MOST_TERM" = some (.int (1000) t)
  gSIGNS : ∃ t, mg "SIGNS" = some (.str ",:;-" t)
  gNAME : ∃ t, mg "NAME" = some (.str "a name" t)
  gNUMBER : ∃ t, mg "NUMBER" = some (.str "a number" t)
  gEND : ∃ t, mg "END" = some (.str "the end" t)
  gBLANKS : ∃ a, mg "BLANKS" = some (.ref a) ∧ ∀ H, SqT K H a [.int 32, .int 9, .int 10]
  gWORDS : ∃ a, mg "WORDS" = some (.ref a) ∧ ∀ H, SqT K H a [.str "columns", .str "row", .str "ask", .str "times"]
  veinit : PySem.W.findCls K (.type "ValueError") (.type "type") "__init__" = some (.val (.builtin "ValueError.__init__"))
  faultC : OexC K c.fault
  faultNo : ∀ f ∈ (["code", "place"] : List Str), PySem.W.findIn K (.ref c.fault) f = some none
  refusedC : OexC K c.refused
  refusedNo : ∀ f ∈ (["number"] : List Str), PySem.W.findIn K (.ref c.refused) f = some none
  faultAt : mg "Fault" = some (.ref c.fault)
  refusedAt : mg "Refused" = some (.ref c.refused)
  faultX : XfC K c.fault
  refusedX : XfC K c.refused
  faultE : PySem.W.exmOne K (.ref c.fault) (.ref c.fault) = some true
  refusedE : PySem.W.exmOne K (.ref c.refused) (.ref c.refused) = some true
  gCALLS : ∃ a, mg "CALLS" = some (.ref a) ∧ ∀ H, RTs K (RP K RI RI) H (.ref a) callsL
  gDEEDS : ∃ a, mg "DEEDS" = some (.ref a) ∧ ∀ H, RTs K (RDf mg) H (.ref a) deedsL
/-- a byte, bytes -/
def RU : Rp UInt8 := fun _ v b => v = .int (b.toNat : Int)
variable {T : List NTab}
instance : Mono T RU := ⟨fun _ h => h⟩
/-- a row: the tuple of its numbers, what is summed -/
def RRow (K : PySem.W.Frag) : Rp Vamvsa.Row := fun H v r => RP K (RTs K RN) RI H v (r.vs, r.m)
def RAsk (K : PySem.W.Frag) : Rp Vamvsa.Ask := fun H v r => RP K RN RN H v (r.g, r.k)
instance {K : PySem.W.Frag} : Mono T (RRow K) := ⟨fun x h => Mono.mono (R := RP K (RTs K RN) RI) x h⟩
instance {K : PySem.W.Frag} : Mono T (RAsk K) := ⟨fun x h => Mono.mono (R := RP K RN RN) x h⟩
/-- a table -/
def RTab (K : PySem.W.Frag) (c : Cs) : Rp Vamvsa.Table := fun H v t => ∃ a dx cv lv qv, v = .ref a ∧ H a = some (.ins c.table dx [("columns", cv), ("lines", lv), ("questions", qv)]) ∧ RL K (RM RU) H cv t.cols ∧ RL K (RRow K) H lv t.rows ∧ RL K (RAsk K) H qv t.asks
instance {K : PySem.W.Frag} {c : Cs} : Mono T (RTab K c) := ⟨fun x ⟨a, dx, cv, lv, qv, h1, h2, h3, h4, h5⟩ => ⟨a, dx, cv, lv, qv, h1, x.ex _ _ h2 nt_ins, Mono.mono x h3, Mono.mono x h4, Mono.mono x h5⟩⟩
section
variable {K : PySem.W.Frag} {mg : Str → Option Value} {c : Cs} {H : Hp} {v : V} {t : Vamvsa.Table}
theorem has_of {n : Str} {C : Addr} {fs : List Str} (k : Kl K mg n C fs) {a dx : Addr} {l : List (Str × V)} {f : Str} {y : V} (hH : H a = some (.ins C dx l)) (hl : l.lookup f = some y) (hf : f ∈ fs) : Has K f H (.ref a) y := ⟨a, C, dx, l, rfl, hH, k.cl, k.no f hf, hl⟩
theorem RTab.cols (g : Gf K mg c) (h : RTab K c H v t) : ∃ u, Has K "columns" H v u ∧ RL K (RM RU) H u t.cols :=
  let ⟨a, dx, cv, lv, qv, h1, h2, h3, h4, h5⟩ := h
  ⟨cv, h1 ▸ has_of g.table h2 rfl (by decide), h3⟩
theorem RTab.lines (g : Gf K mg c) (h : RTab K c H v t) : ∃ u, Has K "lines" H v u ∧ RL K (RRow K) H u t.rows :=
  let ⟨a, dx, cv, lv, qv, h1, h2, h3, h4, h5⟩ := h
  ⟨lv, h1 ▸ has_of g.table h2 rfl (by decide), h4⟩
theorem RTab.asks (g : Gf K mg c) (h : RTab K c H v t) : ∃ u, Has K "questions" H v u ∧ RL K (RAsk K) H u t.asks :=
  let ⟨a, dx, cv, lv, qv, h1, h2, h3, h4, h5⟩ := h
  ⟨qv, h1 ▸ has_of g.table h2 rfl (by decide), h5⟩
end
end G5
/-! K1: grouping_count, group_of, size_of, all_sizes. -/
namespace G5
open PySem PySem.Spec PyProof.Rows L2
variable {T : List NTab} {P : Program} {w : World} {K : PySem.W.Frag} {mg : Str → Option Value} {base : Heap} {c : Cs}
/-- a table as large as may be -/
structure Good (t : Vamvsa.Table) : Prop where
  cols : t.cols.length ≤ 4
  names : ∀ c ∈ t.cols, c.length ≤ 16
  rows : t.rows.length ≤ 16
  vals : ∀ r ∈ t.rows, r.vs.length = t.cols.length ∧ (∀ v ∈ r.vs, v ≤ 9) ∧ -1000 ≤ r.m ∧ r.m ≤ 1000
  asks : t.asks.length ≤ 8
  asked : ∀ a ∈ t.asks, a.g < 2 ^ t.cols.length ∧ 1 ≤ a.k ∧ a.k ≤ 99
abbrev s_count : Stmt := top 5
theorem sc_count : FnScope ["table"] ["table"] (defScope s_count) := ⟨rfl, rfl, rfl, by decide +kernel, rfl, by decide +kernel, by decide +kernel⟩
theorem ok_count {f : Addr} {fd : FuncData} (g : Gf K mg c) (F : Fun K "grouping_count" "grouping_count" s_count f fd) (hm : mg "grouping_count" = some (.ref f)) (b : Binds K fd ["table"] []) :
    Df P w K mg base CX0 1 "grouping_count" ["table"] (Sp1 T (RTab K c) RN Good fun t => 2 ^ t.cols.length) := by
  refine ok1 F hm b sc_count fun cdv A outer s H E Q v1 t hr ht h1 hg hq => ?_
  refine wb_ret (R := RN) (x := 2 ^ t.cols.length) ?_ hq
  refine Ev.is (R := RI) (x := 1 * 2 ^ ((t.cols.length : Nat) : Int).toNat) (ev_shl ⟨by omega, by have := hg.cols; omega, by decide⟩ ev_int (ev_len g.len (ev_fld (S := RTab K c) (R := RL K (RM RU)) (vr 0 h1) fun H1 v u r => r.cols g))) ?_
  rw [Int.one_mul, Int.toNat_natCast]
  simp

abbrev s_group : Stmt := top 6
def Ngroup : List Str := ["line", "grouping", "place", "value"]
theorem sc_group : FnScope Ngroup ["line", "grouping"] (defScope s_group) := ⟨rfl, rfl, rfl, by decide +kernel, rfl, by decide +kernel, by decide +kernel⟩
def bitI (g : Int) (i : Nat) : Bool := decide (Builtin.bitAnd (g / 2 ^ ((i : Nat) : Int).toNat) 1 = 1)
def grp (vs : List Nat) (g : Nat) : List Nat := ((zipN vs).filter fun p => bitI g p.1).map (·.2)
theorem ok_group {f : Addr} {fd : FuncData} (g : Gf K mg c) (F : Fun K "group_of" "group_of" s_group f fd) (hm : mg "group_of" = some (.ref f)) (b : Binds K fd ["line", "grouping"] []) :
    Df P w K mg base CX0 1 "group_of" ["line", "grouping"] (Sp2 T (RRow K) RN (RTs K RN) (fun r _ => r.vs.length ≤ 4) fun r g => grp r.vs g) := by
  refine ok2 F hm b sc_group fun cdv A outer s H E Q v1 v2 r gg hr ht h1 h2 hg hq => ?_
  refine wb_ret (R := RTs K RN) (x := grp r.vs gg) ?_ hq
  refine ev_tupleL g.tuple (by decide +kernel) (Ev.to (R := RM RN) ?_ fun H2 v _ h => h.rl)
  refine LcEv.ev (lx_lcET (R := RN) (j := 2) (j2 := 3) (xs := r.vs) (pr := fun p => bitI gg p.1) (g := fun p => p.2) rfl sc_group.nd g.enum (ev_fst (pr := (r.vs, r.m)) (S := RI) (vr 0 (R := RP K (RTs K RN) RI) h1) ev_int) (by omega) (blkOk_by (N := Ngroup) (sc := defScope s_group) (by decide +kernel))
    (fun _ _ _ _ _ => pg_name sc_group.nd rfl (Or.inl rfl)) (fun _ _ _ _ _ => pg_name sc_group.nd rfl (Or.inl rfl)) (fun i v x G hx u hv => ?_) (fun i v x G hx u hv hp => ?_)) rfl sc_group.nd
  · intro s0 H0 C cl fp
    exact et_cmp cmp_eq (ev_and (ev_shr (by omega) (vr 1 (R := RN) (Mono.mono u h2)) (vr 2 (R := RI) rfl)) ev_int) ev_int
  · intro s0 H0 C cl fp
    exact vr 3 hv
end G5
/-! Fw8: len(set(a list of tuples of whole numbers)). -/
namespace G5
open PySem PySem.Spec PyProof.Rows L2
variable {T : List NTab}
/-- n is how many unlike things there are in l -/
def Unlike {α : Type} (l : List α) (n : Nat) : Prop := ∃ m : List α, m.Nodup ∧ (∀ x, x ∈ m ↔ x ∈ l) ∧ n = m.length
section
variable {X : Cx}
def tLenSetT (K : PySem.W.Frag) (ta : TE) : TE := fun σ H Q => ta σ H fun x H1 => ∃ (l : Addr) (ks : List (Addr × List Int)), x = V.ref l ∧ SqL K H1 l (ks.map fun p => V.ref p.1) ∧ (∀ p ∈ ks, SqT K H1 p.1 (p.2.map V.int)) ∧ ks.length < 64 ∧ ∀ n, Unlike (ks.map (·.2)) n → Q (.int (n : Int)) H1
theorem pe_lenSetT {a : Expr} {ta : TE} {p p2 q pos : Pos} (hc : X.calm = true) (hu : X.A.units + 64 < cLine) (hg : Gl X "len") (hm : X.mg "len" = none) (hg2 : Gl X "set") (hm2 : X.mg "set" = none) (ha : PE X a ta)
    (na : starEach [a] X.env = (false, eval a X.env) :: starEach [] X.env := by rfl) : PE X (.Call (.Name "len" p) [.Call (.Name "set" p2) [a] [] q] [] pos) (tLenSetT X.K ta) := by
  refine ⟨fun pins s σ H Q I h => ?_⟩
  refine Call_ (ld_blt I hg hm PySem.boot_len (PyProof.Rows.callWith_builtin1 (PyProof.Rows.args_cons ?_ rfl) rfl rfl))
  refine Call_ (ld_blt I hg2 hm2 PyProof.Rows.boot_set (PyProof.Rows.callWith_type1 (PyProof.Rows.args_cons (thn (ha.run pins s σ H _ I h) fun v s1 ⟨x, H1, I1, r1, q1⟩ => PyProof.Rows.args_nil ?_) na) na rfl))
  obtain ⟨l, ks, rfl, hq, hk, hf, q1⟩ := q1
  cases r1
  obtain ⟨its, r, pl, hz⟩ := I1.list hq
  refine call_set_tups (P := X.prog) (w := X.w) ks (I1.ok.hd hc) pl.isList (by simpa using refs_of_vals r) (fun p hp => I1.isT (hk p hp)) hf (by omega) fun h' tk L es ep t R g k => ?_
  refine PyProof.Rows.args_nil ?_
  obtain ⟨o, ho, hex, hd⟩ := R.ob
  have hsz : es.size = L.length := by
    have e := congrArg List.length R.rows
    unfold rowsOf at e
    rw [Array.length_toList, List.length_map] at e
    exact e
  have I2 : Inv X pins σ H1 { s1 with heap := h', toks := tk } := I1.kept k
  have hfits : t.fits es.size = true := SetTR.fits (s := { s1 with heap := h', toks := tk }) R
  refine call_len_set ho hex hd hfits (by have := R.few; omega) ⟨.int (L.length : Int), H1, I2.tok _, ⟨_, by rw [hsz]⟩, q1 _ ⟨L.map (·.2), R.nd, fun x => ⟨fun hx => ?_, fun hx => ?_⟩, by rw [List.length_map]⟩⟩
  · obtain ⟨p, hp, e⟩ := List.mem_map.mp hx
    exact List.mem_map.mpr ⟨p, List.mem_of_mem_take (g.sub p hp), e⟩
  · obtain ⟨p, hp, e⟩ := List.mem_map.mp hx
    rw [← e]
    exact g.all p (by rw [List.take_length]; exact hp)
theorem tups_of {K : PySem.W.Frag} {H : Hp} {vs : List V} {xs : List (List Nat)} (h : All2 (RTs K RN H) vs xs) : ∃ ks : List (Addr × List Int), vs = ks.map (fun p => V.ref p.1) ∧ (∀ p ∈ ks, SqT K H p.1 (p.2.map V.int)) ∧ ks.length = xs.length ∧ ks.map (·.2) = xs.map fun l => l.map fun (k : Nat) => (k : Int) := by
  induction h with
  | nil => exact ⟨[], rfl, fun _ hp => (nomatch hp), rfl, rfl⟩
  | @cons v0 l0 vs0 xs0 r0 _ ih =>
    obtain ⟨ks, i1, i2, i3, i4⟩ := ih
    obtain ⟨t, us, e1, e2, e3⟩ := r0
    refine ⟨(t, l0.map fun (k : Nat) => (k : Int)) :: ks, by rw [i1, e1]; rfl, fun p hp => ?_, by rw [List.length_cons, List.length_cons, i3], by rw [List.map_cons, List.map_cons, i4]⟩
    rcases List.mem_cons.mp hp with z | z
    · rw [z]
      have z2 := all2_nats e3
      rw [z2] at e2
      simpa [List.map_map, Function.comp_def] using e2
    · exact i2 p z
variable {a : Expr} {σ : L2.St} {H : Hp} {p p2 q pos : Pos} {xs : List (List Nat)} {n : Nat}
/-- len(set(xs)), xs a list of tuples -/
theorem ev_lenSet (hc : X.calm = true) {j : Nat} (hr : Room j X.A) (hm : X.mg "len" = none) (hm2 : X.mg "set" = none) (ha : Ev T X (RL X.K (RTs X.K RN)) a σ H xs) (hf : xs.length < 64) (hn : ∀ m, Unlike (xs.map fun l => l.map fun (k : Nat) => (k : Int)) m → m = n) (hg : Gl X "len" := by rfl) (hg2 : Gl X "set" := by rfl)
    (na : starEach [a] X.env = (false, eval a X.env) :: starEach [] X.env := by rfl) : Ev T X RN (.Call (.Name "len" p) [.Call (.Name "set" p2) [a] [] q] [] pos) σ H n := fun H1 e1 Q qq =>
  We.of (pe_lenSetT hc hr.units hg hm hg2 hm2 we na) (ha H1 e1 _ fun v H2 e2 ⟨l, vs, h1, h2, h3⟩ => by
    obtain ⟨ks, k1, k2, k3, k4⟩ := tups_of h3
    refine ⟨l, ks, h1, by rw [← k1]; exact h2, k2, by omega, fun m hm => ?_⟩
    rw [k4] at hm
    rw [hn m hm]
    exact qq _ H2 e2 rfl)
end
end G5
/-! M1: sizes: the plain law. -/
namespace G5
open PySem
theorem bitAnd_nat (a b : Nat) : Builtin.bitAnd (a : Int) (b : Int) = ((a &&& b : Nat) : Int) := by
  unfold Builtin.bitAnd
  rw [decide_eq_true (Int.natCast_nonneg a), decide_eq_true (Int.natCast_nonneg b)]
  rfl
theorem pow_cast (k : Nat) : (2 : Int) ^ k = ((2 ^ k : Nat) : Int) := by simp
theorem bitI_eq (g i : Nat) : bitI g i = (g / 2 ^ i % 2 == 1) := by
  unfold bitI
  rw [Int.toNat_natCast, pow_cast, show ((g : Int) / ((2 ^ i : Nat) : Int)) = ((g / 2 ^ i : Nat) : Int) by simp, show (1 : Int) = ((1 : Nat) : Int) from rfl, bitAnd_nat, Nat.and_one_is_mod]
  rw [Bool.eq_iff_iff]
  simp only [decide_eq_true_eq, beq_iff_eq]
  omega
theorem zip_range_getD {α : Type} (d : α) (vs : List α) : (List.range vs.length).zip vs = (List.range vs.length).map fun i => (i, vs.getD i d) := by
  apply List.ext_getElem
  · simp
  · intro i h1 h2
    simp at h1
    simp [h1]
theorem grp_eq (vs : List Nat) (g : Nat) : grp vs g = Vamvsa.keyOf vs.length g vs := by
  unfold grp zipN Vamvsa.keyOf Vamvsa.columnsOf
  rw [zip_range_getD 0, List.filter_map, List.map_map]
  have e : ((fun p : Nat × Nat => bitI g p.1) ∘ fun i => (i, vs.getD i 0)) = fun i => g / 2 ^ i % 2 == 1 := by
    funext i
    exact bitI_eq g i
  rw [e]
  rfl
/-! ### how many groups there are -/
theorem put_keys (x : Vamvsa.Group) : ∀ l : List Vamvsa.Group, ∀ k, k ∈ (Vamvsa.putGroup x l).map (·.key) ↔ k = x.key ∨ k ∈ l.map (·.key)
  | [], k => by simp [Vamvsa.putGroup]
  | y :: r, k => by
    unfold Vamvsa.putGroup
    split
    · rename_i h
      simp [h]
    · split
      · simp
      · simp only [List.map_cons, List.mem_cons, put_keys x r]
        constructor
        · rintro (h | h | h) <;> simp [h]
        · rintro (h | h | h) <;> simp [h]
theorem lexLess_irrefl : ∀ a : List Nat, Vamvsa.lexLess a a = false
  | [] => rfl
  | a :: r => by simp [Vamvsa.lexLess, lexLess_irrefl r]
theorem lexLess_trans : ∀ a b c : List Nat, Vamvsa.lexLess a b = true → Vamvsa.lexLess b c = true → Vamvsa.lexLess a c = true
  | [], _, _, h, _ => by simp [Vamvsa.lexLess] at h
  | _ :: _, [], _, h, _ => by simp [Vamvsa.lexLess] at h
  | _ :: _, _ :: _, [], _, h => by simp [Vamvsa.lexLess] at h
  | a :: r, b :: s, c :: t, h1, h2 => by
    simp only [Vamvsa.lexLess, Bool.or_eq_true, decide_eq_true_eq, Bool.and_eq_true, beq_iff_eq] at h1 h2 ⊢
    rcases h1 with h1 | ⟨h1, h1'⟩ <;> rcases h2 with h2 | ⟨h2, h2'⟩
    · exact .inl (by omega)
    · exact .inl (by omega)
    · exact .inl (by omega)
    · exact .inr ⟨by omega, lexLess_trans r s t h1' h2'⟩
theorem lexLess_total : ∀ a b : List Nat, a.length = b.length → a ≠ b → Vamvsa.lexLess a b = false → Vamvsa.lexLess b a = true
  | [], [], _, n, _ => absurd rfl n
  | [], _ :: _, h, _, _ => by simp at h
  | _ :: _, [], h, _, _ => by simp at h
  | a :: r, b :: s, hl, n, h => by
    simp only [Vamvsa.lexLess, Bool.or_eq_false_iff, decide_eq_false_iff_not, Bool.and_eq_false_iff, beq_eq_false_iff_ne] at h
    simp only [Vamvsa.lexLess, Bool.or_eq_true, decide_eq_true_eq, Bool.and_eq_true, beq_iff_eq]
    obtain ⟨h1, h2⟩ := h
    by_cases e : a = b
    · refine .inr ⟨e.symm, lexLess_total r s (by simpa using hl) (fun z => n (by rw [e, z])) ?_⟩
      rcases h2 with h2 | h2
      · exact absurd e h2
      · exact h2
    · exact .inl (by omega)
/-- keys of one length, rising -/
def Rise (n : Nat) (l : List Vamvsa.Group) : Prop := (∀ x ∈ l, x.key.length = n) ∧ l.Pairwise fun a b => Vamvsa.lexLess a.key b.key = true
theorem put_rise {n : Nat} (x : Vamvsa.Group) (hx : x.key.length = n) : ∀ l : List Vamvsa.Group, Rise n l → Rise n (Vamvsa.putGroup x l)
  | [], _ => ⟨fun y hy => by simp [Vamvsa.putGroup] at hy; rw [hy]; exact hx, by simp [Vamvsa.putGroup]⟩
  | y :: r, h => by
    have hr : Rise n r := ⟨fun z hz => h.1 z (List.mem_cons_of_mem _ hz), (List.pairwise_cons.mp h.2).2⟩
    have hy := h.1 y (List.mem_cons_self ..)
    have hp := List.pairwise_cons.mp h.2
    unfold Vamvsa.putGroup
    split
    · refine ⟨fun z hz => ?_, List.pairwise_cons.mpr ⟨fun z hz => hp.1 z hz, hp.2⟩⟩
      rcases List.mem_cons.mp hz with e | e
      · rw [e]; exact hy
      · exact hr.1 z e
    · rename_i hne
      split
      · rename_i hlt
        refine ⟨fun z hz => ?_, List.pairwise_cons.mpr ⟨fun z hz => ?_, h.2⟩⟩
        · rcases List.mem_cons.mp hz with e | e
          · rw [e]; exact hx
          · exact h.1 z e
        · rcases List.mem_cons.mp hz with e | e
          · rw [e]; exact hlt
          · exact lexLess_trans _ _ _ hlt (hp.1 z e)
      · rename_i hnl
        have ih := put_rise x hx r hr
        have hyx : Vamvsa.lexLess y.key x.key = true := lexLess_total _ _ (by rw [hx, hy]) hne (by simpa using hnl)
        refine ⟨fun z hz => ?_, List.pairwise_cons.mpr ⟨fun z hz => ?_, ih.2⟩⟩
        · rcases List.mem_cons.mp hz with e | e
          · rw [e]; exact hy
          · exact ih.1 z e
        · have hk : z.key ∈ (Vamvsa.putGroup x r).map (·.key) := List.mem_map.mpr ⟨z, hz, rfl⟩
          rcases (put_keys x r z.key).mp hk with e | e
          · rw [e]; exact hyx
          · obtain ⟨u, hu, eu⟩ := List.mem_map.mp e
            rw [← eu]
            exact hp.1 u hu
theorem collect_ok (n : Nat) : ∀ (l acc : List Vamvsa.Group), Rise n acc → (∀ x ∈ l, x.key.length = n) →
    Rise n (l.foldl (fun r x => Vamvsa.putGroup x r) acc) ∧ ∀ k, k ∈ (l.foldl (fun r x => Vamvsa.putGroup x r) acc).map (·.key) ↔ k ∈ l.map (·.key) ∨ k ∈ acc.map (·.key)
  | [], acc, h, _ => ⟨h, fun k => by simp⟩
  | x :: l, acc, h, hl => by
    have h1 := put_rise x (hl x (List.mem_cons_self ..)) acc h
    obtain ⟨i1, i2⟩ := collect_ok n l (Vamvsa.putGroup x acc) h1 fun y hy => hl y (List.mem_cons_of_mem _ hy)
    refine ⟨i1, fun k => ?_⟩
    show k ∈ (l.foldl (fun r x => Vamvsa.putGroup x r) (Vamvsa.putGroup x acc)).map (·.key) ↔ _
    rw [i2 k, put_keys, List.map_cons, List.mem_cons]
    constructor
    · rintro (h | h | h) <;> simp [h]
    · rintro ((h | h) | h) <;> simp [h]
theorem nodup_len_le {α : Type} [DecidableEq α] : ∀ {l m : List α}, l.Nodup → (∀ x ∈ l, x ∈ m) → l.length ≤ m.length
  | [], _, _, _ => Nat.zero_le _
  | a :: l, m, h, hs => by
    obtain ⟨h1, h2⟩ := List.nodup_cons.mp h
    have ha := hs a (List.mem_cons_self ..)
    have ih := nodup_len_le (l := l) (m := m.erase a) h2 fun x hx => by
      have hxa : x ≠ a := fun e => h1 (e ▸ hx)
      exact (List.mem_erase_of_ne hxa).mpr (hs x (List.mem_cons_of_mem _ hx))
    have e := List.length_erase_of_mem ha
    have hpos : 0 < m.length := List.length_pos_of_mem ha
    rw [List.length_cons]
    omega
theorem nodup_len_eq {α : Type} [DecidableEq α] {l m : List α} (h1 : l.Nodup) (h2 : m.Nodup) (h : ∀ x, x ∈ l ↔ x ∈ m) : l.length = m.length :=
  Nat.le_antisymm (nodup_len_le h1 fun x hx => (h x).mp hx) (nodup_len_le h2 fun x hx => (h x).mpr hx)
theorem rise_nodup {n : Nat} {l : List Vamvsa.Group} (h : Rise n l) : (l.map (·.key)).Nodup := by
  refine List.pairwise_map.mpr (h.2.imp fun {a b} hab e => ?_)
  rw [e, lexLess_irrefl] at hab
  cases hab
theorem size_unlike (t : Vamvsa.Table) (hg : Good t) (g m : Nat) (hm : Unlike ((t.rows.map fun r => grp r.vs g).map fun l => l.map fun (k : Nat) => (k : Int)) m) : m = Vamvsa.sizeOf_ t g := by
  obtain ⟨L, hL, hmem, rfl⟩ := hm
  obtain ⟨h1, h2⟩ := collect_ok (Vamvsa.columnsOf (Vamvsa.width t) g).length (t.rows.map fun r => ⟨Vamvsa.keyOf (Vamvsa.width t) g r.vs, r.m, 1⟩) [] ⟨fun x hx => (nomatch hx), List.Pairwise.nil⟩ (fun x hx => by
    obtain ⟨r, _, e⟩ := List.mem_map.mp hx
    rw [← e]
    simp [Vamvsa.keyOf])
  have hN := rise_nodup h1
  have e1 : Vamvsa.sizeOf_ t g = (((Vamvsa.groupsOf t g).map (·.key)).map fun l => l.map fun (k : Nat) => (k : Int)).length := by
    unfold Vamvsa.sizeOf_
    rw [List.length_map, List.length_map]
  have inj : ∀ a b : List Nat, (a.map fun (k : Nat) => (k : Int)) = b.map (fun (k : Nat) => (k : Int)) → a = b := fun a b h => by
    have := List.map_inj_right (f := fun (k : Nat) => (k : Int)) (l := a) (l' := b) (fun x y e => Int.ofNat.inj e)
    exact this.mp h
  rw [e1]
  refine nodup_len_eq hL ?_ fun x => ?_
  · refine List.pairwise_map.mpr (hN.imp fun {a b} hab e => hab (inj _ _ e))
  · rw [hmem x, List.mem_map, List.mem_map]
    constructor
    · rintro ⟨l, hl, e⟩
      refine ⟨l, (h2 l).mpr (.inl ?_), e⟩
      obtain ⟨r, hr, e2⟩ := List.mem_map.mp hl
      refine List.mem_map.mpr ⟨_, List.mem_map.mpr ⟨r, hr, rfl⟩, ?_⟩
      show Vamvsa.keyOf (Vamvsa.width t) g r.vs = l
      rw [← e2, grp_eq, (hg.vals r hr).1]
      rfl
    · rintro ⟨l, hl, e⟩
      refine ⟨l, ?_, e⟩
      rcases (h2 l).mp hl with z | z
      · obtain ⟨x', hx', e2⟩ := List.mem_map.mp z
        obtain ⟨r, hr, e3⟩ := List.mem_map.mp hx'
        refine List.mem_map.mpr ⟨r, hr, ?_⟩
        rw [← e2, ← e3, grp_eq, (hg.vals r hr).1]
        rfl
      · exact absurd z (by simp)
end G5
/-! K2: size_of, all_sizes. -/
namespace G5
open PySem PySem.Spec PyProof.Rows L2
variable {T : List NTab} {P : Program} {w : World} {K : PySem.W.Frag} {mg : Str → Option Value} {base : Heap} {c : Cs}
abbrev s_size : Stmt := top 7
def Nsize : List Str := ["table", "grouping", "line"]
theorem sc_size : FnScope Nsize ["table", "grouping"] (defScope s_size) := ⟨rfl, rfl, rfl, by decide +kernel, rfl, by decide +kernel, by decide +kernel⟩
theorem ok_size {f : Addr} {fd : FuncData} (g : Gf K mg c) (dG : Df P w K mg base CX0 1 "group_of" ["line", "grouping"] (Sp2 T (RRow K) RN (RTs K RN) (fun r _ => r.vs.length ≤ 4) fun r g => grp r.vs g))
    (F : Fun K "size_of" "size_of" s_size f fd) (hm : mg "size_of" = some (.ref f)) (b : Binds K fd ["table", "grouping"] []) :
    Df P w K mg base CX0 2 "size_of" ["table", "grouping"] (Sp2 T (RTab K c) RN RN (fun t _ => Good t) Vamvsa.sizeOf_) := by
  refine ok2 F hm b sc_size fun cdv A outer s H E Q v1 v2 t gg hr ht h1 h2 hg hq => ?_
  refine wb_ret (R := RN) (x := Vamvsa.sizeOf_ t gg) ?_ hq
  refine ev_lenSet (xs := t.rows.map fun r => grp r.vs gg) rfl hr g.len g.set (Ev.to (R := RM (RTs K RN)) (x := t.rows.map fun r => grp r.vs gg) ?_ fun H2 v _ h => h.rl) (by rw [List.length_map]; have := hg.rows; omega) (fun m hm => size_unlike t hg gg m hm)
  refine LcEv.ev (lx_lc (R := RRow K) (j := 2) (x0 := fun r => grp r.vs gg) rfl sc_size.nd (ev_fld (S := RTab K c) (R := RL K (RRow K)) (vr 0 h1) fun H1 v u r => r.lines g) (by have := hg.rows; omega) (blkOk_by (N := Nsize) (sc := defScope s_size) (by decide +kernel))
    (fun _ _ _ _ _ => pg_name sc_size.nd rfl (Or.inl rfl)) (fun i v x G hx u hv => ?_)) rfl sc_size.nd
  intro s0 H0 C cl fp
  exact ev_c2 dG hr (by decide) (u.tb ht) (vr 2 hv) (vr 1 (R := RN) (Mono.mono u h2)) (by have := (hg.vals x (List.mem_of_getElem? hx)).1; have := hg.cols; omega)
abbrev s_sizes : Stmt := top 8
def Nsizes : List Str := ["table", "grouping"]
theorem sc_sizes : FnScope Nsizes ["table"] (defScope s_sizes) := ⟨rfl, rfl, rfl, by decide +kernel, rfl, by decide +kernel, by decide +kernel⟩
def szs (t : Vamvsa.Table) : List Nat := (Vamvsa.groupings t).map (Vamvsa.sizeOf_ t)
theorem ok_sizes {f : Addr} {fd : FuncData} (g : Gf K mg c) (dC : Df P w K mg base CX0 1 "grouping_count" ["table"] (Sp1 T (RTab K c) RN Good fun t => 2 ^ t.cols.length)) (dS : Df P w K mg base CX0 2 "size_of" ["table", "grouping"] (Sp2 T (RTab K c) RN RN (fun t _ => Good t) Vamvsa.sizeOf_))
    (F : Fun K "all_sizes" "all_sizes" s_sizes f fd) (hm : mg "all_sizes" = some (.ref f)) (b : Binds K fd ["table"] []) :
    Df P w K mg base CX0 3 "all_sizes" ["table"] (Sp1 T (RTab K c) (RM RN) Good szs) := by
  refine ok1 F hm b sc_sizes fun cdv A outer s H E Q v1 t hr ht h1 hg hq => ?_
  refine wb_ret (R := RM RN) (x := szs t) ?_ hq
  refine LcEv.ev (lx_lcR (hi := 2 ^ t.cols.length) (S := RN) (j := 1) (g3 := Vamvsa.sizeOf_ t) rfl sc_sizes.nd g.range (ev_c1 (S := RN) dC hr (by decide) ht (vr 0 h1) hg) (Nat.le_trans (Nat.pow_le_pow_right (by decide) hg.cols) (by decide)) (blkOk_by (N := Nsizes) (sc := defScope s_sizes) (by decide +kernel))
    (fun _ _ _ _ _ => pg_name sc_sizes.nd rfl (Or.inl rfl)) (fun i G hi u => ?_)) rfl sc_sizes.nd
  intro s0 H0 C cl fp
  exact ev_c2 dS hr (by decide) (u.tb ht) (vr 0 (Mono.mono u h1)) (vr 1 (R := RN) rfl) hg
end G5
/-! Fw9: sorted(xs, key=lambda o: (ys[o], o)), xs and ys lists of whole numbers. -/
namespace G5
open PySem PySem.Spec PyProof.Rows L2
/-- the form of the key -/
structure KeyForm (params : Arguments) (body : Expr) (scope : Scope) (nS nO : Str) : Prop where
  body' : ∃ p1 p2 p3 p4 p5 k, body = .Tuple [.Subscript (.Name nS p1) (.Name nO p2) p3, .Name nO p4] k p5
  bind : ∀ (q : Str) (cl : List (Str × Addr)) (pm cv ctv v : Value), bindArgs (PySem.W.kla_fn "<lambda>" q params body scope cl pm cv ctv) ⟨[v], []⟩ = pure [(nO, v)]
  kind : scope.kind = .function
  co : scope.isCoroutine = false
  gen : scope.isGenerator = false
  nocell : ∀ y ∈ scope.names, y.2 ≠ .cell
  loc : scope.names.lookup nO = some .local
  fr : scope.names.lookup nS = some .free
  only : ∀ y ∈ scope.names, y.2 = .free → y.1 = nS
  nd : (nO == ("__debug__" : Str)) = false
  nd2 : (nS == ("__debug__" : Str)) = false
  ncd : (nS == ("__classdict__" : Str)) = false
section
variable {prog : Program} {w : World} {A : Around} {s : Shared} {params : Arguments} {body : Expr} {scope : Scope} {nS nO : Str} {q : Str} {cl : List (Str × Addr)} {pm ctv : Value} {f c' cS a : Addr} {its : List Value} {i : Nat} {y : Int} {t tu : Tok}
theorem lam_key (F : KeyForm params body scope nS nO) (hf : s.heap.get? f = some (PySem.W.kla_obj "<lambda>" q params body scope cl pm c' ctv)) (hc : s.heap.CodeRec (.ref c') q) (hlim : s.heap.NoLimit) (hd : A.depth < recursionLimit)
    (hcl : cl.lookup nS = some cS) (hcell : s.heap.IsCell cS (some (.ref a))) (hl : s.heap.IsList a its.toArray) (hi : its[i]? = some (.int y tu)) (hsz : its.length ≤ sizeLine) :
    wpAny (model prog w) A (call (.ref f) [.int (i : Int) t]) (PySem.W.KeyPure (.tuple [.int y, .int (i : Int)]) s) (fun _ _ => False) s := by
  refine wpAny_call (PySem.W.kla_callFunE hd hf rfl F.co F.gen rfl hc ?_)
  rw [F.bind]
  refine wpAny_pure (wpAny_newFunctionEnv F.nocell (fun z hz => ?_) (fun h₁ hns hsb => ⟨hlim.fresh _ hsb, ?_⟩) F.kind)
  · have e : z = (nO, .int (i : Int) t) := by simpa using hz
    rw [e]
    exact F.loc
  · have kp : ∀ b o, s.heap.get? b = some o → h₁.get? b = some o := fun b o e => hsb.extBut b o (Nat.ne_of_lt (Heap.lt_size e)) (Heap.get?_push_of_some _ e)
    obtain ⟨p1, p2, p3, p4, p5, k, eb⟩ := F.body'
    subst eb
    refine PySem.W.kla_codeExpr ?_
    refine wpAny_Tuple_spliced ?_
    have hlen : i < its.length := (List.getElem?_eq_some_iff.mp hi).1
    have hn := line63
    have hloc : ∀ {Q : Value → Shared → Prop} {E : Value → Shared → Prop} {A : Around} {tk : Nat} {pp : Pos} {env : Env}, env.scope = scope → env.locals = s.heap.objs.size → Q (.int (i : Int) t) { s with heap := h₁, toks := tk } → wpAny (model prog w) A (eval (.Name nO pp) env) Q E { s with heap := h₁, toks := tk } := fun {Q E A tk pp env} e1 e2 hq => by
      refine wpAny_Name (wpAny_loadName_local (by rw [e1]; exact F.kind) (show env.scope.names.lookup nO = _ by rw [e1]; exact F.loc) (by rw [e2]; exact hns) (v := .int (i : Int) t) ?_ hq) F.nd
      simp [List.lookup]
    refine Calls.spliced_cons ?_
    refine Subscript_ ?_
    refine wpAny_Name (wpAny_loadName_free F.kind F.fr hcl (v := .ref a) ?_ ?_ F.ncd) F.nd2
    · obtain ⟨o, ho, hdd⟩ := hcell
      exact ⟨o, kp _ _ ho, hdd⟩
    refine hloc rfl rfl ?_
    refine item_listR (hl.at fun o e => kp _ _ e) (by omega) (by omega) (x := .int y tu) (by simpa using hi) ?_ rfl
    refine Calls.spliced_cons (hloc rfl rfl (Calls.spliced_nil ⟨by show 2 ≤ sizeLine; decide, ?_⟩))
    refine ⟨_, _, rfl, fun b o e => Heap.get?_push_of_some _ (kp b o e), ?_⟩
    exact Reads.tuple (Heap.get?_push_size _ rfl) rfl rfl (.cons (.int _ _) (.cons (.int _ _) .nil))
end
section
variable {T : List NTab} {X : Cx} {pins : List (Addr × Obj)} {σ : L2.St} {H : Hp} {s : Shared} {params : Arguments} {body : Expr} {scope : Scope} {pos : Pos} {c P : Addr} {nm : Nat → Nat → Str}
abbrev LO (X : Cx) (params : Arguments) (body : Expr) (scope : Scope) (pm : Value) (c' : Addr) (ctv : Value) : Obj := PySem.W.kla_obj "<lambda>" (X.env.qual ++ "<lambda>") params body scope (cloFrom X.env.cells scope.names []) pm c' ctv
/-- a lambda comes to be: its code object is new, or it stands in its maker's table -/
theorem lam_made {E : Value → Shared → Prop} {Q : Value → Shared → Prop} (I : Inv X pins σ H s) (TB : LamX.TabB X.base X.mg c P) (hcode : X.env.code = .ref c) (hm : (P, nm) ∈ T) (hn : nm pos.line pos.col = X.env.qual ++ "<lambda>") (hu : ∀ p ∈ T, p.1 = P → p.2 = nm) (hT : Tb T H)
    (hdef : defaultsOf params X.env = ([], [])) (hfree : ∀ y ∈ scope.names, y.2 = .free → ∃ c, X.env.cells.lookup y.1 = some c)
    (h : ∀ (f c' : Addr) (pm ctv : Value) (H1 : Hp) (s' : Shared), Inv X pins σ H1 s' → Xt T H H1 → s'.heap.get? f = some (LO X params body scope pm c' ctv) → s'.heap.CodeRec (.ref c') (X.env.qual ++ "<lambda>") → Q (.ref f) s') :
    wpAny (model X.prog X.w) X.A (eval (.Lambda params body scope pos) X.env) Q E s := by
  obtain ⟨ps, hP, ht, ha⟩ := hT _ hm
  have hP' : s.heap.get? P = some { cls := .none, data := .fields ps } := I.hok P _ hP
  have bP : s.heap.BuiltinsAt X.mg P := TB.bm.keeps I.bk
  refine PySem.W.kla_eval hdef ?_
  cases hc : codeAmong pos ps.toList with
  | some cv =>
    obtain ⟨c', e, hco⟩ := ha pos cv hc
    subst e
    have hco : H c' = some (LamX.CodeO c' (nm pos.line pos.col)) := hco
    rw [hn] at hco
    refine PySem.W.kla_makeFunctionHit (mg := X.mg) (c := c) (P := P) (ps := ps) (closure_ok hfree) I.ok.glob (I.mod.glob.keeps I.bk) hcode (TB.code.keeps I.bk) hP' ht hc bP fun ctv h' tk hx hsz => ?_
    have J : Inv X pins σ H { s with heap := h'.push (LO X params body scope ((X.mg "__name__").getD .none) c' ctv), toks := tk } := I.kept fun b o e => Heap.get?_push_of_some _ (hx b o e)
    exact h _ c' _ ctv H _ J (Xt.refl H) (Heap.get?_push_size _ rfl) (NdefX.codeO_at J.hok hco)
  | none =>
    refine PySem.W.kla_makeFunction (mg := X.mg) (c := c) (P := P) (ps := ps) (closure_ok hfree) I.ok.glob (I.mod.glob.keeps I.bk) hcode (TB.code.keeps I.bk) hP' ht hc TB.gP bP fun c' ctv h' tk hx hge hlt hrec htb => ?_
    have hrec0 := hrec
    obtain ⟨c2, oc, vs, t, e2, hoc, hd, hv⟩ := hrec
    cases e2
    have nC : H c' = none := I.hok.fresh hge
    have J := LamX.inv_table (t' := tk) (more := #[rawInt pos.line, rawInt pos.col, .ref c']) (h' := h'.push (LO X params body scope ((X.mg "__name__").getD .none) c' ctv)) I hP
      (fun b o hb e => Heap.get?_push_of_some _ (hx b o hb e)) (Heap.get?_push_of_some _ htb) hge ⟨oc, vs, t, Heap.get?_push_of_some _ hoc, hd, hv⟩
    have hE : ∀ b o, H b = some o → NT o → upd (upd H P (.tbl (ps ++ #[rawInt pos.line, rawInt pos.col, .ref c']))) c' (LamX.CodeO c' (X.env.qual ++ "<lambda>")) b = some o := fun b o e n => by
      have n1 : b ≠ P := fun z => by
        rw [z, hP] at e
        exact n ps (Option.some.inj e).symm
      rw [upd_ne (ne_of_none e nC), upd_ne n1]
      exact e
    have eL : (ps ++ #[rawInt pos.line, rawInt pos.col, .ref c']).toList = ps.toList ++ [rawInt pos.line, rawInt pos.col, .ref c'] := by simp
    refine h h'.objs.size c' _ ctv _ _ J ⟨hE, fun _ p hp => ?_, fun a e => ?_⟩ (Heap.get?_push_size _ rfl) ⟨c', oc, vs, t, rfl, Heap.get?_push_of_some _ hoc, hd, hv⟩
    · by_cases hb : p.1 = P
      · have e3 := hu p hp hb
        refine ⟨ps ++ #[rawInt pos.line, rawInt pos.col, .ref c'], by rw [hb, upd_ne (ne_of_none hP nC), upd_same], by rw [eL]; exact PySem.TriplesOk_snoc _ _ _ _ ht, fun p' cv hcv => ?_⟩
        rw [eL] at hcv
        rw [e3]
        rcases NdefX.among_app2 _ ht hcv with z | ⟨z, z1, z2⟩
        · obtain ⟨c0, e1, e4⟩ := ha p' cv z
          exact ⟨c0, e1, hE _ _ e4 LamX.codeO_ne⟩
        · exact ⟨c', z, by rw [← z1, ← z2, hn]; exact upd_same⟩
      · obtain ⟨ps', a1, a2, a3⟩ := hT p hp
        refine ⟨ps', by rw [upd_ne (ne_of_none a1 nC), upd_ne hb]; exact a1, a2, fun p' cv hcv => ?_⟩
        obtain ⟨c0, e1, e4⟩ := a3 p' cv hcv
        exact ⟨c0, e1, hE _ _ e4 LamX.codeO_ne⟩
    · have n1 : a ≠ c' := fun z => by rw [z, upd_same] at e; cases e
      rw [upd_ne n1] at e
      have n2 : a ≠ P := fun z => by rw [z, upd_same] at e; cases e
      rw [upd_ne n2] at e
      exact e
/-- by the key, then by the number itself -/
def keyLe (ss : List Nat) (a b : Nat) : Bool := decide (ss.getD a 0 < ss.getD b 0 ∨ (ss.getD a 0 = ss.getD b 0 ∧ a ≤ b))
theorem keyLe_data (ss : List Nat) : PySem.W.dataLe false (fun n : Nat => PyData.tuple [.int ((ss.getD n 0 : Nat) : Int), .int (n : Int)]) = keyLe ss := by
  rw [PySem.W.dataLe_ii (β := Nat) (fun n => ((ss.getD n 0 : Nat) : Int)) (fun n => (n : Int))]
  funext a b
  unfold keyLe
  rw [decide_eq_decide]
  omega
theorem eachIs_nats {ns : List Nat} : ∀ {vs : List V} {us : List Value}, vs = ns.map (fun (n : Nat) => V.int (n : Int)) → Vals vs us → PySem.W.EachIs (fun u (n : Nat) => ∃ t, u = Value.int (n : Int) t) us ns := by
  induction ns with
  | nil => intro vs us e r; subst e; cases r; exact .nil
  | cons n ns ih =>
    intro vs us e r
    subst e
    cases r with
    | cons h t =>
      obtain ⟨k, e⟩ := h
      exact .cons ⟨k, e⟩ (ih rfl t)
theorem vals_nats {ns : List Nat} {us : List Value} (h : PySem.W.EachIs (fun u (n : Nat) => ∃ t, u = Value.int (n : Int) t) us ns) : Vals (ns.map fun (n : Nat) => V.int (n : Int)) us := by
  induction h with
  | nil => exact .nil
  | cons h _ ih =>
    obtain ⟨k, e⟩ := h
    subst e
    exact .cons ⟨k, rfl⟩ ih
theorem ev_sortKey {e : Expr} {ns ss : List Nat} {nS nO : Str} {j k : Nat} {vS : V} {p kpos lpos pos : Pos} (hr : Room (k + 1) X.A) (TB : LamX.TabB X.base X.mg c P) (hcode : X.env.code = .ref c) (hm : (P, nm) ∈ T) (hn : nm lpos.line lpos.col = X.env.qual ++ "<lambda>") (hu : ∀ p ∈ T, p.1 = P → p.2 = nm) (hT : Tb T H)
    (hms : X.mg "sorted" = none) (F : KeyForm params body scope nS nO) (hcap : X.env.scope.names.lookup nS = some .cell) (hN : X.N[j]? = some nS) (hdef : defaultsOf params X.env = ([], [])) (hit : Ev T X (RL X.K RN) e σ H ns) (hσ : σ[j]? = some (some vS)) (hS : RL X.K RN H vS ss) (hlt : ∀ n ∈ ns, n < ss.length) (hlen : ns.length ≤ 1000)
    (hg : Gl X "sorted" := by rfl) (q1 : starEach (e :: []) X.env = (false, eval e X.env) :: starEach [] X.env := by rfl) (q2 : backTo pos (starEach (e :: []) X.env) = (false, eval e X.env) :: backTo pos (starEach [] X.env) := by rfl) (q3 : (backTo pos (starEach (e :: []) X.env)).any (·.1) = false := by rfl)
    (q4 : (backToKw pos (keywordEach [⟨some "key", .Lambda params body scope lpos, kpos⟩] X.env)).all (·.1.isSome) = true := by rfl) (q5 : (backToKw pos (keywordEach [⟨some "key", .Lambda params body scope lpos, kpos⟩] X.env)).any (·.1.isNone) = false := by rfl) (q6 : (backToKw pos (keywordEach [⟨some "key", .Lambda params body scope lpos, kpos⟩] X.env)).filterMap (·.1) = [Str.ofString "key"] := by rfl) :
    Ev T X (RM RN) (.Call (.Name "sorted" p) [e] [⟨some "key", .Lambda params body scope lpos, kpos⟩] pos) σ H (ns.mergeSort (keyLe ss)) := by
  intro H1 e1 Q q pins s I
  refine wpAny_Call_Name_kw (ld_blt I hg hms PyProof.Rows.boot_sorted ?_)
  refine PyProof.Rows.callWith_kw (thn ((pa_cons we pa_nil q1).run pos pins s σ H1 (fun vs H2 => ∃ l vv, vs = [V.ref l] ∧ SqL X.K H2 l vv ∧ All2 (RN H2) vv ns ∧ Xt T H1 H2) I (hit H1 e1 _ fun v H2 e2 ⟨l, vv, h1, h2, h3⟩ => ⟨l, vv, by rw [h1], h2, h3, e2⟩)) fun us s1 ⟨vs, H2, I2, r2, l, vv, ev, hl, ha, e2⟩ => ?_) q2 q3 q4 q5
  rw [q6]
  subst ev
  show wpAny _ _ (evalAll ((do let v ← eval (.Lambda params body scope lpos) X.env; standAt pos; pure v) :: [])) _ _ s1
  have hfree : ∀ y ∈ scope.names, y.2 = .free → ∃ c, X.env.cells.lookup y.1 = some c := fun y hy z => by
    rw [F.only y hy z]
    exact I.ok.has _ (.inl hcap)
  refine wpAny_evalAll_cons (wpAny_bind (lam_made I2 TB hcode hm hn hu (e2.tb (e1.tb hT)) hdef hfree fun f c' pm ctv H3 s3 I3 e3 hf hcd => wpAny_bind (wpAny_standAt (wpAny_pure (wpAny_evalAll_nil ?_)))))
  have eus : us = [Value.ref l] := by
    cases r2 with
    | cons h t => cases t; cases h; rfl
  subst eus
  show wpAny _ _ (call (.builtin "sorted") [.ref l] [(Str.ofString "key", Value.ref f)]) _ _ s3
  obtain ⟨its, rv, pl, hz⟩ := I3.list (e3.seqL hl)
  have hvv := all2_nats ha
  have hE := eachIs_nats hvv rv
  obtain ⟨aS, vsS, h1, h2, h3⟩ := Mono.mono (e1.trans (e2.trans e3)) hS
  obtain ⟨itS, rS, plS, hzS⟩ := I3.list h2
  obtain ⟨m, hns, hloc⟩ := I3.loc
  obtain ⟨uS, ruS, hlook⟩ := hloc j nS vS hN hσ (.inr (.inl hcap))
  obtain ⟨cS, hcS, hcell⟩ : ∃ cS, X.env.cells.lookup nS = some cS ∧ s3.heap.IsCell cS (some uS) := by
    rcases hlook with ⟨hk, _⟩ | ⟨_, cS, hc1, hc2⟩
    · have hk' : X.env.scope.names.lookup nS = some .local := hk
      rw [hcap] at hk'
      cases hk'
    · exact ⟨cS, hc1, hc2⟩
  subst h1
  obtain rfl : uS = Value.ref aS := ruS
  have hclo : (cloFrom X.env.cells scope.names []).lookup nS = some cS := by
    obtain ⟨c9, hc9⟩ := mem_lookup (cloFrom_has (cells := X.env.cells) (acc := []) (PySem.mem_of_lookup F.fr))
    have := NdefX.clo_cm hfree hc9
    rw [hcS] at this
    cases this
    exact hc9
  refine PySem.W.sorted_key_data (b := false) (fun n : Nat => PyData.tuple [.int ((ss.getD n 0 : Nat) : Int), .int (n : Int)]) pl.isList hE (PySem.W.AllAlike.of fun _ _ => by simp [PySem.W.alike, PySem.W.alikeAll]) (PySem.W.Sortable.tuples fun _ => ⟨_, _, rfl⟩) (Nat.le_of_lt (small1000 hlen)) (fun n _ => ?_) (ksk_s1 _ _) (fun _ => ksk_l1 _ _) (fun _ => ksk_t1 _ _)
    (fun v n ⟨t, et⟩ hmem h tk kp => ?_) fun out cc h' tk kp _ hD _ eo => ?_
  · have hd : (PyData.tuple [.int ((ss.getD n 0 : Nat) : Int), .int (n : Int)]).depth = 1 := by simp [PyData.depth, PyData.depthAll]
    have := hr.un
    omega
  · subst et
    have hnl := hlt n hmem
    obtain ⟨y, hy⟩ : ∃ y, ss[n]? = some y := ⟨_, List.getElem?_eq_getElem hnl⟩
    obtain ⟨yv, hyv, hry⟩ := h3.get hy
    obtain ⟨yu, hyu, hryu⟩ := rS.get hyv
    have hry : yv = V.int (y : Int) := hry
    subst hry
    obtain ⟨tu, etu⟩ := hryu
    subst etu
    have e0 : ss.getD n 0 = y := by rw [List.getD_eq_getElem?_getD, hy]; rfl
    rw [e0]
    refine lam_key (s := { s3 with heap := h, toks := tk }) (cS := cS) (a := aS) (its := itS) F (kp _ _ hf) ?_ (I3.nolimit.keeps kp) ?_ hclo ?_ (plS.isList.at fun o e => kp _ _ e) hyu ?_
    · obtain ⟨c2, oc, vs2, t2, g1, g2, g3, g4⟩ := hcd
      exact ⟨c2, oc, vs2, t2, g1, kp _ _ g2, g3, g4⟩
    · have := hr.dp
      show X.A.depth < recursionLimit
      omega
    · obtain ⟨o, ho, hdd⟩ := hcell
      exact ⟨o, kp _ _ ho, hdd⟩
    · rw [← rS.length]
      exact hzS
  · rw [keyLe_data] at eo
    have hfresh : s3.heap.objs.size ≤ s3.heap.objs.size + 1 := Nat.le_succ _
    have hv := vals_nats eo
    have hlen2 : ((ns.mergeSort (keyLe ss)).map fun (n : Nat) => V.int (n : Int)).length ≤ sizeLine := by
      rw [List.length_map, List.length_mergeSort]
      exact Nat.le_of_lt (small1000 hlen)
    have J : Inv X pins σ (upd H3 (s3.heap.objs.size + 1) (.lst ((ns.mergeSort (keyLe ss)).map fun (n : Nat) => V.int (n : Int)))) { s3 with heap := h', toks := tk } :=
      I3.laid kp hfresh ⟨hlen2, out, cc, hv, hD⟩
    have hnone : H3 (s3.heap.objs.size + 1) = none := I3.hok.fresh hfresh
    exact ⟨.ref (s3.heap.objs.size + 1), _, J, rfl, q _ _ ((e2.trans e3).trans (Xt.new hnone)) ⟨_, _, rfl, upd_same, nats_all2 _⟩⟩
end
end G5
/-! K3: readable. -/
namespace G5
open PySem PySem.Spec PyProof.Rows L2
variable {T : List NTab} {P : Program} {w : World} {K : PySem.W.Frag} {mg : Str → Option Value} {base : Heap} {c : Cs}
abbrev s_readable : Stmt := top 9
def Nreadable : List Str := ["sizes", "grouping", "found", "other"]
theorem sc_readable : FnScope Nreadable ["sizes", "grouping"] (defScope s_readable) := ⟨rfl, rfl, rfl, by decide +kernel, rfl, by decide +kernel, by decide +kernel⟩
/-- what may be read, the ones that are read rather first -/
def readable (ss : List Nat) (g : Nat) : List Nat := ((List.range ss.length).filter fun (o : Nat) => decide (Builtin.bitAnd (o : Int) (g : Int) = (g : Int))).mergeSort (keyLe ss)
/-- a def's own code object at cc, its table at Pt, the names of what it makes -/
structure Lm (T : List NTab) (mg : Str → Option Value) (base : Heap) (fd : FuncData) (q : Str) (pos : Pos) : Prop where
  ex : ∃ (cc Pt : Addr) (nm : Nat → Nat → Str), fd.code = .ref cc ∧ LamX.TabB base mg cc Pt ∧ (Pt, nm) ∈ T ∧ nm pos.line pos.col = q ∧ ∀ p ∈ T, p.1 = Pt → p.2 = nm
/-- the place of the lambda -/
def lamAt : List Stmt → Pos
  | [_, .Return (some (.Call _ _ [⟨_, .Lambda _ _ _ p, _⟩] _)) _] => p
  | _ => ⟨0, 0, 0, 0⟩
theorem ok_readable {f : Addr} {fd : FuncData} (g : Gf K mg c) (F : Fun K "readable" "readable" s_readable f fd) (hm : mg "readable" = some (.ref f)) (b : Binds K fd ["sizes", "grouping"] []) (L : Lm T mg base fd "readable.<locals>.<lambda>" (lamAt (defBody s_readable))) :
    Df P w K mg base CX0 3 "readable" ["sizes", "grouping"] (Sp2 T (RL K RN) RN (RM RN) (fun ss g => ss.length ≤ 16) readable) := by
  obtain ⟨oc, od, kV, doc, pm, an, cdv, ct, osl, e1, lk, hcd⟩ := F.ex
  obtain ⟨cc, Pt, nm, hcode, TB, hmT, hn, hu⟩ := L.ex
  have ecdv : cdv = .ref cc := by rw [e1] at hcode; exact hcode
  refine ⟨f, fd, hm, F.kp, b, ?_⟩
  subst e1
  refine fn_of lk hcd sc_readable (fun vs H Q E h => ?_) fun A outer s H vs Q E hr h => ?_
  · obtain ⟨_, v1, v2, x1, x2, rfl, _⟩ := h
    rfl
  obtain ⟨ht, v1, v2, ss, gg, rfl, h1, h2, hp, hq⟩ := h
  have hr' : Room 2 (C0 P w K mg base Nreadable "readable" s_readable f cdv A outer s H E).A := hr
  refine ⟨_, PSs.nox (X := cxOf CX0 P w K mg base Nreadable "readable" (defScope s_readable) f cdv A outer s H E) wb, ?_⟩
  show Wb (C0 P w K mg base Nreadable "readable" s_readable f cdv A outer s H E) (defBody s_readable) { nx := fun _ H' => Q .non H', rt := Q } (start Nreadable [v1, v2]) H
  refine wb_setLc (T := T) 2 (lx_lcRI (T := T) (S := RN) (hi := ss.length) (j := 3) (pr3 := fun (o : Nat) => decide (Builtin.bitAnd (o : Int) (gg : Int) = (gg : Int))) (g3 := fun o => o) rfl sc_readable.nd g.range (ev_len g.len (vr 0 h1)) (by omega) (blkOk_by (N := Nreadable) (sc := defScope s_readable) (by decide +kernel))
    (fun _ _ _ _ _ => pg_name sc_readable.nd rfl (Or.inl rfl)) (fun i G hi u => ?_) (fun i G hi u _ => ?_)) rfl sc_readable.nd (fun v H' u hv => ?_)
  · intro s0 H0 C cl fp
    exact et_cmp cmp_eq (ev_and (vr 3 (R := RI) rfl) (vr 1 (R := RN) (Mono.mono u h2))) (vr 1 (R := RN) (Mono.mono u h2))
  · intro s0 H0 C cl fp
    exact vr (T := T) 3 (R := RN) rfl
  rw [List.map_id'] at hv
  refine wb_ret (T := T) (R := RM RN) (x := readable ss gg) ?_ fun v2' H2 u2 r => hq v2' H2 (u.trans u2) r
  refine ev_sortKey (X := C0 P w K mg base Nreadable "readable" s_readable f cdv A outer s H E) (j := 0) (nS := "sizes") (nO := "other") hr' TB (show cdv = .ref cc from ecdv) hmT hn hu (u.tb ht) g.sorted ?_ rfl rfl rfl (Ev.to (R := RM RN) (vr 2 hv) fun H2 v _ h => h.rl) rfl (Mono.mono u h1) (fun n hn => ?_) (Nat.le_trans (List.length_filter_le _ _) (by rw [List.length_range]; omega))
  · exact ⟨⟨_, _, _, _, _, _, rfl⟩, fun _ _ _ _ _ _ => rfl, rfl, rfl, rfl, by decide +kernel, by decide +kernel, by decide +kernel, by decide +kernel, by decide, by decide, by decide⟩
  · have h3 := (List.mem_filter.mp hn).1
    exact List.mem_range.mp h3
end G5
/-! Fw10: `in` of whole numbers, loops over what is made on the spot, dicts, new instances, fields set. -/
namespace G5
open PySem PySem.Spec PyProof.Rows L2
variable {T : List NTab}
theorem inV_ints (x : Int) : ∀ xs : List Int, inV (.int x) (xs.map V.int) = xs.contains x
  | [] => rfl
  | y :: r => by
    show (eqV (.int y) (.int x) || inV (.int x) (r.map V.int)) = (x == y || r.contains x)
    rw [inV_ints x r]
    congr 1
    show (y == x) = (x == y)
    rw [Bool.beq_eq_decide_eq, Bool.beq_eq_decide_eq]
    exact decide_eq_decide.mpr ⟨Eq.symm, Eq.symm⟩
theorem flat_ints : ∀ xs : List Int, (xs.map V.int).all flatV = true
  | [] => rfl
  | _ :: r => by rw [List.map_cons, List.all_cons, flat_ints r]; rfl
theorem contains_cast (n : Nat) : ∀ ns : List Nat, (ns.map fun (k : Nat) => (k : Int)).contains (n : Int) = ns.contains n
  | [] => rfl
  | k :: r => by
    rw [List.map_cons, List.contains_cons, List.contains_cons, contains_cast n r]
    congr 1
    rw [Bool.beq_eq_decide_eq, Bool.beq_eq_decide_eq]
    exact decide_eq_decide.mpr ⟨fun h => by omega, fun h => by omega⟩
theorem nats_ints (ns : List Nat) : (ns.map fun (n : Nat) => V.int (n : Int)) = (ns.map fun (n : Nat) => (n : Int)).map V.int := by
  rw [List.map_map]
  rfl
section
variable {X : Cx} {e a b c : Expr} {es : List Expr} {sts bs : List Stmt} {σ : L2.St} {H G : Hp} {D : Ends} {α β γ : Type} {R : Rp α} {S : Rp β} {x : α} {y : β} {pos p : Pos} {n : Str}
theorem cmp_inN {k : Nat} {ks : List Nat} : Cmp T X .In RN (RL X.K RN) H k ks (ks.contains k) := ⟨_, op_in_seq, fun H1 e1 v u r ⟨l, vs, h1, h2, h3⟩ Q q => by
  have e := all2_nats h3
  rw [nats_ints] at e
  subst e
  have r : v = V.int (k : Int) := r
  refine ⟨l, _, h1, .inl h2, by rw [r]; rfl, flat_ints _, ?_⟩
  rw [if_neg Bool.false_ne_true, r, inV_ints, contains_cast]
  exact q⟩
theorem cmp_notInN {k : Nat} {ks : List Nat} : Cmp T X .NotIn RN (RL X.K RN) H k ks (!ks.contains k) := ⟨_, op_notIn_seq, fun H1 e1 v u r ⟨l, vs, h1, h2, h3⟩ Q q => by
  have e := all2_nats h3
  rw [nats_ints] at e
  subst e
  have r : v = V.int (k : Int) := r
  refine ⟨l, _, h1, .inl h2, by rw [r]; rfl, flat_ints _, ?_⟩
  rw [if_pos rfl, r, inV_ints, contains_cast]
  exact q⟩
theorem cmp_inTI {k : Int} {ks : List Int} : Cmp T X .In RI (RTs X.K RI) H k ks (ks.contains k) := ⟨_, op_in_seq, fun H1 e1 v u r ⟨l, vs, h1, h2, h3⟩ Q q => by
  have e := all2_ints h3
  subst e
  have r : v = V.int k := r
  refine ⟨l, _, h1, .inr h2, by rw [r]; rfl, flat_ints _, ?_⟩
  rw [if_neg Bool.false_ne_true, r, inV_ints]
  exact q⟩
/-- a loop over a list that is made on the spot; whatever the turns say holds of what is known -/
theorem wb_forG {it : Expr} (j : Nat) (hp : PO X) (hc : X.calm = true) (hN : X.N.Nodup)
    (hit : We X it σ H fun v H1 => ∃ (l : Addr) (vs : List V) (W : Nat → L2.St → Hp → Prop), v = .ref l ∧ W 0 σ H1 ∧ (∀ i σ' H', i ≤ vs.length → W i σ' H' → SqL X.K H' l vs) ∧
      (∀ i v σ' H', vs[i]? = some v → W i σ' H' → Wb X bs { D with nx := W (i + 1), ct := W (i + 1), bk := fun σ' H' => Wb X sts D σ' H' } (σ'.set j (some v)) H') ∧ ∀ σ' H', W vs.length σ' H' → Wb X sts D σ' H')
    (hi : X.N[j]? = some n := by rfl) (hx : Loc X.env.scope n := by first | exact .inl rfl | exact .inr rfl) (hf : X.fn n = true ∨ X.env.scope.names.lookup n = some .local := by exact .inl rfl) (hs : ∀ x, foldedSetIterable it X.env x = pure x := by intro _; rfl) :
    Wb X (.For (.Name n p) it bs [] pos :: sts) D σ H :=
  wb_cons (Ws.of (ps_for hp hc (pi_list we) (pg_name hN hi hx hf) wb hs) (hit.imp fun v H1 ⟨l, vs, W, e, h0, hl, turn, done⟩ => ⟨l, e, ⟨vs, hl 0 σ H1 (Nat.zero_le _) h0⟩, for_list W h0 hl (fun i v σ' H' e w => turn i v σ' H' e w) done⟩))
theorem wb_forGP {it : Expr} {m : Str} {p1 p2 : Pos} {kk : Nat} (j j2 : Nat) (hp : PO X) (hc : X.calm = true) (hN : X.N.Nodup)
    (hit : We X it σ H fun v H1 => ∃ (l : Addr) (vs : List V) (W : Nat → L2.St → Hp → Prop), v = .ref l ∧ W 0 σ H1 ∧ (∀ i σ' H', i ≤ vs.length → W i σ' H' → SqL X.K H' l vs) ∧
      (∀ i v σ' H', vs[i]? = some v → W i σ' H' → ∃ t v1 v2, v = .ref t ∧ SqT X.K H' t [v1, v2] ∧ Wb X bs { D with nx := W (i + 1), ct := W (i + 1), bk := fun σ' H' => Wb X sts D σ' H' } ((σ'.set j (some v1)).set j2 (some v2)) H') ∧ ∀ σ' H', W vs.length σ' H' → Wb X sts D σ' H')
    (hi : X.N[j]? = some n := by rfl) (hx : Loc X.env.scope n := by first | exact .inl rfl | exact .inr rfl) (hf : X.fn n = true ∨ X.env.scope.names.lookup n = some .local := by exact .inl rfl)
    (hi2 : X.N[j2]? = some m := by rfl) (hx2 : Loc X.env.scope m := by first | exact .inl rfl | exact .inr rfl) (hf2 : X.fn m = true ∨ X.env.scope.names.lookup m = some .local := by exact .inl rfl) (hs : ∀ x, foldedSetIterable it X.env x = pure x := by intro _; rfl)
    (hn : (assignEach [.Name n p1, .Name m p2] X.env).length = 2 := by rfl) (hst : (assignEach [.Name n p1, .Name m p2] X.env).findIdx? (·.1) = none := by rfl) (g1 : (assignEach (.Name n p1 :: [.Name m p2]) X.env).map (·.2) = assign (.Name n p1) X.env :: (assignEach [.Name m p2] X.env).map (·.2) := by rfl)
    (g2 : (assignEach (.Name m p2 :: []) X.env).map (·.2) = assign (.Name m p2) X.env :: (assignEach [] X.env).map (·.2) := by rfl) :
    Wb X (.For (.Tuple [.Name n p1, .Name m p2] kk p) it bs [] pos :: sts) D σ H :=
  wb_cons (Ws.of (ps_for hp hc (pi_list we) (pg_tup hc (pgs_cons (pg_name hN hi hx hf) (pgs_cons (pg_name hN hi2 hx2 hf2) pgs_nil g2) g1) hn hst) wb hs) (hit.imp fun v H1 ⟨l, vs, W, e, h0, hl, turn, done⟩ => ⟨l, e, ⟨vs, hl 0 σ H1 (Nat.zero_le _) h0⟩, for_list W h0 hl (fun i v σ' H' e w => by
    obtain ⟨t, v1, v2, h1, h2, h3⟩ := turn i v σ' H' e w
    exact ⟨t, [v1, v2], h1, h2, rfl, v1, [v2], rfl, v2, [], rfl, rfl, h3⟩) done⟩))
/-- nothing known changes in the turns -/
theorem wb_forE {it : Expr} {xs : List α} (j : Nat) (hp : PO X) (hc : X.calm = true) (hN : X.N.Nodup) [Mono T R] (hit : Ev T X (RL X.K R) it σ H xs) (W : Nat → L2.St → Hp → Prop) (h0 : ∀ H1, Xt T H H1 → W 0 σ H1)
    (turn : ∀ i x v σ' H', Xt T H H' → xs[i]? = some x → R H' v x → W i σ' H' → Wb X bs { D with nx := fun σ2 H2 => Xt T H' H2 ∧ W (i + 1) σ2 H2, ct := fun σ2 H2 => Xt T H' H2 ∧ W (i + 1) σ2 H2, bk := fun σ' H' => Wb X sts D σ' H' } (σ'.set j (some v)) H') (done : ∀ σ' H', Xt T H H' → W xs.length σ' H' → Wb X sts D σ' H')
    (hi : X.N[j]? = some n := by rfl) (hx : Loc X.env.scope n := by first | exact .inl rfl | exact .inr rfl) (hf : X.fn n = true ∨ X.env.scope.names.lookup n = some .local := by exact .inl rfl) (hs : ∀ x, foldedSetIterable it X.env x = pure x := by intro _; rfl) :
    Wb X (.For (.Name n p) it bs [] pos :: sts) D σ H :=
  wb_forG j hp hc hN (hit.now fun v H1 u ⟨l, vs, h1, h2, h3⟩ => ⟨l, vs, fun i σ' H' => Xt T H1 H' ∧ W i σ' H', h1, ⟨Xt.refl _, h0 H1 u⟩, fun i σ' H' _ w => w.1.seqL h2, fun i v σ' H' hv w => by
    obtain ⟨x, hx', rx⟩ := h3.getL hv
    have z := turn i x v σ' H' (u.trans w.1) hx' (Mono.mono w.1 rx) w.2
    intro pins s I
    refine thn (z pins s I) fun r s1 q => ?_
    cases r with
    | next => obtain ⟨σ2, H2, I2, u2, w2⟩ := q; exact ⟨σ2, H2, I2, w.1.trans u2, w2⟩
    | brk => exact q
    | cont => obtain ⟨σ2, H2, I2, u2, w2⟩ := q; exact ⟨σ2, H2, I2, w.1.trans u2, w2⟩
    | ret _ => exact q, fun σ' H' w => done σ' H' (u.trans w.1) (h3.length ▸ w.2)⟩) hi hx hf hs
theorem wb_forEP {it : Expr} {m : Str} {p1 p2 : Pos} {kk : Nat} {R2 : Rp β} {xs : List (α × β)} (j j2 : Nat) (hp : PO X) (hc : X.calm = true) (hN : X.N.Nodup) [Mono T R] [Mono T R2] (hit : Ev T X (RL X.K (RP X.K R R2)) it σ H xs) (W : Nat → L2.St → Hp → Prop) (h0 : ∀ H1, Xt T H H1 → W 0 σ H1)
    (turn : ∀ i x v1 v2 σ' H', Xt T H H' → xs[i]? = some x → R H' v1 x.1 → R2 H' v2 x.2 → W i σ' H' → Wb X bs { D with nx := fun σ2 H2 => Xt T H' H2 ∧ W (i + 1) σ2 H2, ct := fun σ2 H2 => Xt T H' H2 ∧ W (i + 1) σ2 H2, bk := fun σ' H' => Wb X sts D σ' H' } ((σ'.set j (some v1)).set j2 (some v2)) H') (done : ∀ σ' H', Xt T H H' → W xs.length σ' H' → Wb X sts D σ' H')
    (hi : X.N[j]? = some n := by rfl) (hx : Loc X.env.scope n := by first | exact .inl rfl | exact .inr rfl) (hf : X.fn n = true ∨ X.env.scope.names.lookup n = some .local := by exact .inl rfl)
    (hi2 : X.N[j2]? = some m := by rfl) (hx2 : Loc X.env.scope m := by first | exact .inl rfl | exact .inr rfl) (hf2 : X.fn m = true ∨ X.env.scope.names.lookup m = some .local := by exact .inl rfl) (hs : ∀ x, foldedSetIterable it X.env x = pure x := by intro _; rfl)
    (hn : (assignEach [.Name n p1, .Name m p2] X.env).length = 2 := by rfl) (hst : (assignEach [.Name n p1, .Name m p2] X.env).findIdx? (·.1) = none := by rfl) (g1 : (assignEach (.Name n p1 :: [.Name m p2]) X.env).map (·.2) = assign (.Name n p1) X.env :: (assignEach [.Name m p2] X.env).map (·.2) := by rfl)
    (g2 : (assignEach (.Name m p2 :: []) X.env).map (·.2) = assign (.Name m p2) X.env :: (assignEach [] X.env).map (·.2) := by rfl) :
    Wb X (.For (.Tuple [.Name n p1, .Name m p2] kk p) it bs [] pos :: sts) D σ H :=
  wb_forGP j j2 hp hc hN (hit.now fun v H1 u ⟨l, vs, h1, h2, h3⟩ => ⟨l, vs, fun i σ' H' => Xt T H1 H' ∧ W i σ' H', h1, ⟨Xt.refl _, h0 H1 u⟩, fun i σ' H' _ w => w.1.seqL h2, fun i v σ' H' hv w => by
    obtain ⟨x, hx', t, v1, v2, k1, k2, k3, k4⟩ := h3.getL hv
    refine ⟨t, v1, v2, k1, w.1.seqT k2, ?_⟩
    have z := turn i x v1 v2 σ' H' (u.trans w.1) hx' (Mono.mono w.1 k3) (Mono.mono w.1 k4) w.2
    intro pins s I
    refine thn (z pins s I) fun r s1 q => ?_
    cases r with
    | next => obtain ⟨σ2, H2, I2, u2, w2⟩ := q; exact ⟨σ2, H2, I2, w.1.trans u2, w2⟩
    | brk => exact q
    | cont => obtain ⟨σ2, H2, I2, u2, w2⟩ := q; exact ⟨σ2, H2, I2, w.1.trans u2, w2⟩
    | ret _ => exact q, fun σ' H' w => done σ' H' (u.trans w.1) (h3.length ▸ w.2)⟩) hi hx hf hi2 hx2 hf2 hs hn hst g1 g2
/-- an attribute of ours set, our instance put aside meanwhile -/
theorem wb_fldH {o value : Expr} {f : Str} {pos' : Pos} {r dx C : Addr} {fs : List (Str × V)} (hr : G r = none) (hd : G dx = none) (ho : ∀ (Q : VK) H', Q (.ref r) H' → We X o σ H' Q) (h : Ev T X R value σ G x) (hcl : Cls X.K C) (hno : NoAttr X.K C f) (hl : fs.length < 1000)
    (q : ∀ v G2, Xt T G G2 → G2 r = none → G2 dx = none → R G2 v x → Wb X sts D σ (updI G2 r dx C (putF f v fs))) (hs : swapsWith value (some (.Attribute o f pos')) pos.line X.env = pure false := by rfl) :
    Wb X (.Assign [.Attribute o f pos'] value pos :: sts) D σ (updI G r dx C fs) :=
  wb_cons (Ws.of (ps_fld we we hs) (We.hideI hr hd (h.now fun v G2 u rv hr2 hd2 => ho _ _ ⟨r, C, dx, fs, rfl, upd_same, hcl, hno, hl, by
    show Wb X sts D σ (upd (upd (upd G2 dx (.own r)) r (.ins C dx fs)) r (.ins C dx (putF f v fs)))
    rw [upd_upd]
    exact q v G2 u hr2 hd2 rv⟩)))
end
/-- a class of ours that may be made: its name, its __init__'s promise -/
structure Mkd (P : Program) (w : World) (K : PySem.W.Frag) (mg : Str → Option Value) (base : Heap) (CX : CXT) (k : Nat) (n : Str) (C : Addr) (ps : List Str) (sp : Sp) : Prop where
  ex : ∃ f fd, mg n = some (.ref C) ∧ Mk K C f ∧ Binds K fd ps [] ∧ FnOk P w K mg base CX k f fd ps sp
/-- what an __init__ makes: G what is known without the new one -/
def SpI (C : Addr) (k : Nat) (post : List V → Hp → Hp → List (Str × V) → Prop) : Sp := fun vs H Q _ => ∃ (x dx : Addr) (G : Hp) (us : List V), vs = .ref x :: us ∧ us.length = k ∧ H = updI G x dx C [] ∧ G x = none ∧ G dx = none ∧ dx ≠ x ∧
  ∀ G2 fs, post us G G2 fs → G2 x = none → G2 dx = none → Q .non (updI G2 x dx C fs)
section
variable {X : Cx} {e a b c : Expr} {es : List Expr} {σ : L2.St} {H G : Hp} {C : Addr} {k j : Nat} {n : Str} {ps : List Str} {pos p : Pos} {m : Nat} {post : List V → Hp → Hp → List (Str × V) → Prop}
/-- C(..), the new one apart -/
theorem we_make {Q : VK} (M : Mkd X.prog X.w X.K X.mg X.base CX0 k n C ps (SpI C m post)) (hr : Room j X.A) (hk : k + 1 ≤ j) (h : Wa X (e :: es) σ H fun vs H1 => vs.length = m ∧ ∀ x dx G2 fs, H1 x = none → H1 dx = none → dx ≠ x → post vs H1 G2 fs → G2 x = none → G2 dx = none → Q (.ref x) (updI G2 x dx C fs))
    (hg : Gl X n := by rfl) (hdb : (n == ("__debug__" : Str)) = false := by decide) (he : starEach (e :: es) X.env = (false, eval e X.env) :: starEach es X.env := by rfl) (hpl : (backTo pos (starEach es X.env)).any (·.1) = false := by rfl) : We X (.Call (.Name n p) (e :: es) [] pos) σ H Q := by
  obtain ⟨f, fd, hm, M', hb, hF⟩ := M.ex
  refine We.of (pe_make (ds := []) (dvs := []) (E := E0) M' hF (hr.mono hk) hg hm hb .nil pass0 wa hdb he hpl) ?_
  intro pos' pins s I
  refine thn (h pos' pins s I) fun us s1 ⟨vs, H1, I1, r, hl, q⟩ => ⟨vs, H1, I1, r, fun x dx h1 h2 h3 => ?_⟩
  rw [List.append_nil]
  exact ⟨x, dx, H1, vs, rfl, hl, rfl, h1, h2, h3, fun G2 fs hp g1 g2 => ⟨rfl, q x dx G2 fs h1 h2 h3 hp g1 g2⟩⟩
theorem we_make0 {Q : VK} (M : Mkd X.prog X.w X.K X.mg X.base CX0 k n C ps (SpI C 0 post)) (hr : Room j X.A) (hk : k + 1 ≤ j) (h : ∀ x dx G2 fs, H x = none → H dx = none → dx ≠ x → post [] H G2 fs → G2 x = none → G2 dx = none → Q (.ref x) (updI G2 x dx C fs))
    (hg : Gl X n := by rfl) (hdb : (n == ("__debug__" : Str)) = false := by decide) : We X (.Call (.Name n p) [] [] pos) σ H Q := by
  obtain ⟨f, fd, hm, M', hb, hF⟩ := M.ex
  refine We.of (pe_make0 (ds := []) (dvs := []) (E := E0) M' hF (hr.mono hk) hg hm hb .nil pass0 hdb) ?_
  refine fun x dx h1 h2 h3 => ?_
  exact ⟨x, dx, H, [], rfl, rfl, rfl, h1, h2, h3, fun G2 fs hp g1 g2 => ⟨rfl, h x dx G2 fs h1 h2 h3 hp g1 g2⟩⟩
end
theorem xt_I {G2 : Hp} {x dx C : Addr} {fs : List (Str × V)} (hx : G2 x = none) (hd : G2 dx = none) (ne : dx ≠ x) : Xt T G2 (updI G2 x dx C fs) :=
  (Xt.new hd).trans (Xt.new (by rw [upd_ne ne.symm]; exact hx))
end G5
/-! K4: read_by. -/
namespace G5
open PySem PySem.Spec PyProof.Rows L2
variable {T : List NTab} {P : Program} {w : World} {K : PySem.W.Frag} {mg : Str → Option Value} {base : Heap} {c : Cs}
def RO : Rp (Option Nat) := fun _ v o => v = .int (match o with | none => -1 | some n => (n : Int))
instance : Mono T RO := ⟨fun _ h => h⟩
theorem find_at {α : Type} {p : α → Bool} : ∀ {l : List α} {i : Nat} {x : α}, (∀ y ∈ l.take i, p y = false) → l[i]? = some x → p x = true → l.find? p = some x
  | [], i, x, _, h, _ => by simp at h
  | y :: r, 0, x, _, h, hp => by simp at h; subst h; rw [List.find?_cons, hp]
  | y :: r, i + 1, x, ha, h, hp => by
    rw [List.find?_cons, ha y (by simp)]
    exact find_at (i := i) (fun z hz => ha z (List.mem_cons_of_mem _ hz)) (by simpa using h) hp
theorem take_all {α : Type} {p : α → Bool} {l : List α} {i : Nat} {x : α} (h : ∀ y ∈ l.take i, p y = false) (hx : l[i]? = some x) (hp : p x = false) : ∀ y ∈ l.take (i + 1), p y = false := by
  rw [take_snoc hx]
  intro y hy
  rcases List.mem_append.mp hy with z | z
  · exact h y z
  · rw [List.mem_singleton.mp z]; exact hp
abbrev s_readby : Stmt := top 10
def Nreadby : List Str := ["sizes", "kept", "grouping", "other"]
theorem sc_readby : FnScope Nreadby ["sizes", "kept", "grouping"] (defScope s_readby) := ⟨rfl, rfl, rfl, by decide +kernel, rfl, by decide +kernel, by decide +kernel⟩
def readBy (ss ks : List Nat) (g : Nat) : Option Nat := (readable ss g).find? fun o => ks.contains o
theorem ok_readby {f : Addr} {fd : FuncData} (g : Gf K mg c) (dR : Df P w K mg base CX0 3 "readable" ["sizes", "grouping"] (Sp2 T (RL K RN) RN (RM RN) (fun ss g => ss.length ≤ 16) readable))
    (F : Fun K "read_by" "read_by" s_readby f fd) (hm : mg "read_by" = some (.ref f)) (b : Binds K fd ["sizes", "kept", "grouping"] []) :
    Df P w K mg base CX0 4 "read_by" ["sizes", "kept", "grouping"] (Sp3 T (RL K RN) (RL K RN) RN RO (fun ss _ _ => ss.length ≤ 16) readBy) := by
  refine ok3 F hm b sc_readby fun cdv A outer s H E Q v1 v2 v3 ss ks gg hr ht h1 h2 h3 hg hq => ?_
  refine wb_forE (T := T) (R := RN) (xs := readable ss gg) 3 PassesOwn.never rfl sc_readby.nd (Ev.to (T := T) (R := RM RN) (ev_c2 dR hr (by decide) ht (vr 0 h1) (vr 2 h3) hg) fun H2 v _ h => h.rl)
    (fun i σ' _ => (∃ o, σ' = [some v1, some v2, some v3, o]) ∧ ∀ y ∈ (readable ss gg).take i, ks.contains y = false) (fun H1 _ => ⟨⟨none, rfl⟩, fun y hy => by simp at hy⟩) (fun i x v σ' H' u hx hv w => ?_) fun σ' H' u w => ?_
  · obtain ⟨⟨o, rfl⟩, hw⟩ := w
    refine wb_if (T := T) (et_cmp cmp_inN (vr (T := T) 3 (R := RN) hv) (vr (T := T) 1 (Mono.mono u h2))) (fun k H2 u2 => ?_) fun k H2 u2 => ?_
    · refine wb_ret (T := T) (R := RN) (x := x) (vr 3 hv) fun v' H3 u3 r => hq v' H3 (u.trans (u2.trans u3)) ?_
      show RO H3 v' (readBy ss ks gg)
      rw [show readBy ss ks gg = some x from find_at hw hx k]
      exact r
    · exact wb_nil (wb_nil ⟨u2, ⟨_, rfl⟩, take_all hw hx k⟩)
  · refine wb_ret (T := T) (R := RI) (x := -1) (ev_gi g.gTABLE) fun v' H3 u3 r => hq v' H3 (u.trans u3) ?_
    have e : readBy ss ks gg = none := List.find?_eq_none.mpr fun y hy => by rw [w.2 y (by rw [List.take_length]; exact hy)]; decide
    show RO H3 v' (readBy ss ks gg)
    rw [e]
    exact r
end G5
/-! K5: cost_of, all_costs, lines_of, paid_for, worth_of, idle_ones: what they compute. -/
namespace G5
open PySem PySem.Spec PyProof.Rows L2
variable {T : List NTab} {P : Program} {w : World} {K : PySem.W.Frag} {mg : Str → Option Value} {base : Heap} {c : Cs}
theorem all2_of_map {α β : Type} {R : Rp α} {f : β → α} {H : Hp} : ∀ {vs : List V} {xs : List β}, All2 (fun v b => R H v (f b)) vs xs → All2 (R H) vs (xs.map f)
  | _, _, .nil => .nil
  | _, _, .cons h t => .cons h (all2_of_map t)
theorem rl_asks {H : Hp} {v : V} {xs : List Vamvsa.Ask} (h : RL K (RAsk K) H v xs) : RL K (RP K RN RN) H v (xs.map fun a => (a.g, a.k)) :=
  let ⟨l, vs, h1, h2, h3⟩ := h
  ⟨l, vs, h1, h2, all2_of_map (R := RP K RN RN) h3⟩
theorem sum_cast {α : Type} (f : α → Nat) : ∀ l : List α, (l.map fun x => ((f x : Nat) : Int)).sum = (((l.map f).sum : Nat) : Int)
  | [] => rfl
  | x :: r => by
    rw [List.map_cons, List.sum_cons, sum_cast f r, List.map_cons, List.sum_cons]
    omega
def cost1 (t : Vamvsa.Table) (ss ks : List Nat) (g : Nat) : Nat := match readBy ss ks g with
  | none => t.rows.length
  | some o => ss.getD o 0
theorem readBy_lt {ss ks : List Nat} {g o : Nat} (h : readBy ss ks g = some o) : o < ss.length := by
  have h1 := List.mem_of_find?_eq_some h
  unfold readable at h1
  have h2 := (List.mem_filter.mp ((List.mergeSort_perm _ _).mem_iff.mp h1)).1
  exact List.mem_range.mp h2
theorem get_getD {ss : List Nat} {o : Nat} (h : o < ss.length) : ss[o]? = some (ss.getD o 0) := by
  rw [List.getD_eq_getElem?_getD, List.getElem?_eq_getElem h]
  rfl
abbrev pCost (t : Vamvsa.Table) (ss _ks : List Nat) (_g : Nat) : Prop := t.rows.length ≤ 16 ∧ ss.length ≤ 16
abbrev s_cost : Stmt := top 11
def Ncost : List Str := ["table", "sizes", "kept", "grouping", "other"]
theorem sc_cost : FnScope Ncost ["table", "sizes", "kept", "grouping"] (defScope s_cost) := ⟨rfl, rfl, rfl, by decide +kernel, rfl, by decide +kernel, by decide +kernel⟩
theorem ok_cost {f : Addr} {fd : FuncData} (g : Gf K mg c) (dR : Df P w K mg base CX0 4 "read_by" ["sizes", "kept", "grouping"] (Sp3 T (RL K RN) (RL K RN) RN RO (fun ss _ _ => ss.length ≤ 16) readBy))
    (F : Fun K "cost_of" "cost_of" s_cost f fd) (hm : mg "cost_of" = some (.ref f)) (b : Binds K fd ["table", "sizes", "kept", "grouping"] []) :
    Df P w K mg base CX0 5 "cost_of" ["table", "sizes", "kept", "grouping"] (Sp4 T (RTab K c) (RL K RN) (RL K RN) RN RN pCost cost1) := by
  refine ok4 F hm b sc_cost fun cdv A outer s H E Q v1 v2 v3 v4 t ss ks gg hr ht h1 h2 h3 h4 hg hq => ?_
  refine wb_set (T := T) (R := RO) (x := readBy ss ks gg) 4 (ev_c3 dR hr (by decide) ht (vr 1 h2) (vr 2 h3) (vr 3 h4) hg.2) (fun v H' u r => ?_) sc_cost.nd
  refine wb_ret (T := T) (R := RN) (x := cost1 t ss ks gg) ?_ fun v' H2 u2 r => hq v' H2 (u.trans u2) r
  unfold cost1
  cases e : readBy ss ks gg with
  | none =>
    rw [e] at r
    exact ev_if (k := true) (EvT.is (et_cmp (x := (-1 : Int)) (y := (-1 : Int)) cmp_eq (vr (T := T) 4 (R := RI) r) (ev_gi g.gTABLE)) rfl) (fun _ => Ev.to (R := RI) (ev_len g.len (ev_fld (S := RTab K c) (R := RL K (RRow K)) (vr 0 (Mono.mono u h1)) fun H1 v u r => r.lines g)) fun _ _ _ h => h) (fun z => by cases z)
  | some o =>
    rw [e] at r
    refine ev_if (k := false) (EvT.is (et_cmp (x := (o : Int)) (y := (-1 : Int)) cmp_eq (vr (T := T) 4 (R := RI) r) (ev_gi g.gTABLE)) (by rw [decide_eq_false (by omega)])) (fun z => by cases z) (fun _ => ?_)
    exact ev_item (R := RN) (i := o) (l := ss) (vr 1 (Mono.mono u h2)) (vr 4 (R := RI) r) (get_getD (readBy_lt e))
abbrev s_costs : Stmt := top 12
def Ncosts : List Str := ["table", "sizes", "kept", "grouping", "times"]
theorem sc_costs : FnScope Ncosts ["table", "sizes", "kept"] (defScope s_costs) := ⟨rfl, rfl, rfl, by decide +kernel, rfl, by decide +kernel, by decide +kernel⟩
def total1 (t : Vamvsa.Table) (ss ks : List Nat) : Nat := (t.asks.map fun a => a.k * cost1 t ss ks a.g).sum
abbrev pSs (t : Vamvsa.Table) (ss _ks : List Nat) : Prop := Good t ∧ ss.length ≤ 16
theorem ok_costs {f : Addr} {fd : FuncData} (g : Gf K mg c) (dC : Df P w K mg base CX0 5 "cost_of" ["table", "sizes", "kept", "grouping"] (Sp4 T (RTab K c) (RL K RN) (RL K RN) RN RN pCost cost1))
    (F : Fun K "all_costs" "all_costs" s_costs f fd) (hm : mg "all_costs" = some (.ref f)) (b : Binds K fd ["table", "sizes", "kept"] []) :
    Df P w K mg base CX0 6 "all_costs" ["table", "sizes", "kept"] (Sp3 T (RTab K c) (RL K RN) (RL K RN) RN pSs total1) := by
  refine ok3 F hm b sc_costs fun cdv A outer s H E Q v1 v2 v3 t ss ks hr ht h1 h2 h3 hg hq => ?_
  refine wb_ret (T := T) (R := RN) (x := total1 t ss ks) ?_ hq
  have e : total1 t ss ks = ((t.asks.map fun a => (a.g, a.k)).map fun p => p.2 * cost1 t ss ks p.1).sum := by rw [List.map_map]; rfl
  rw [e]
  refine Ev.to (R := RI) (x := ((t.asks.map fun a => (a.g, a.k)).map fun p => ((p.2 * cost1 t ss ks p.1 : Nat) : Int)).sum) (ev_sum rfl g.sum (by decide +kernel) (Ev.to (R := RM RI) ?_ fun H2 v _ h => h.rl)) fun H2 v _ h => ?_
  · refine LcEv.ev (lx_lcP (R := RN) (R2 := RN) (j := 3) (j2 := 4) (ps := t.asks.map fun a => (a.g, a.k)) (g2 := fun p => ((p.2 * cost1 t ss ks p.1 : Nat) : Int)) rfl sc_costs.nd (Ev.to (ev_fld (S := RTab K c) (R := RL K (RAsk K)) (vr 0 h1) fun H1 v u r => r.asks g) fun _ _ _ h => rl_asks h) (by rw [List.length_map]; have := hg.1.asks; omega) (blkOk_by (N := Ncosts) (sc := defScope s_costs) (by decide +kernel))
      (fun _ _ _ _ _ => pg_name sc_costs.nd rfl (Or.inl rfl)) (fun _ _ _ _ _ => pg_name sc_costs.nd rfl (Or.inl rfl)) (fun i w1 w2 x G hx u r1 r2 => ?_)) rfl sc_costs.nd
    intro s0 H0 C cl fp
    have hx' := List.mem_of_getElem? hx
    obtain ⟨a, ha, ea⟩ := List.mem_map.mp hx'
    have hk := (hg.1.asked a ha).2.2
    have ek : x.2 = a.k := by rw [← ea]
    refine Ev.is (R := RI) (ev_mul (i := (x.2 : Int)) (j := ((cost1 t ss ks x.1 : Nat) : Int)) (.inl ⟨by omega, by omega⟩) (vr 4 (R := RI) r2) (ev_c4 (S := RN) dC hr (by decide) (u.tb ht) (vr 0 (Mono.mono u h1)) (vr 1 (Mono.mono u h2)) (vr 2 (Mono.mono u h3)) (vr 3 r1) ⟨hg.1.rows, hg.2⟩)) (by rw [Int.natCast_mul])
  · rw [sum_cast] at h
    exact h
abbrev s_linesof : Stmt := top 13
def Nlinesof : List Str := ["sizes", "kept", "grouping"]
theorem sc_linesof : FnScope Nlinesof ["sizes", "kept"] (defScope s_linesof) := ⟨rfl, rfl, rfl, by decide +kernel, rfl, by decide +kernel, by decide +kernel⟩
def lines1 (ss ks : List Nat) : Nat := (ks.map fun k => ss.getD k 0).sum
theorem ok_linesof {f : Addr} {fd : FuncData} (g : Gf K mg c) (F : Fun K "lines_of" "lines_of" s_linesof f fd) (hm : mg "lines_of" = some (.ref f)) (b : Binds K fd ["sizes", "kept"] []) :
    Df P w K mg base CX0 1 "lines_of" ["sizes", "kept"] (Sp2 T (RL K RN) (RL K RN) RN (fun ss ks => ks.length ≤ 1000 ∧ ∀ k ∈ ks, k < ss.length) lines1) := by
  refine ok2 F hm b sc_linesof fun cdv A outer s H E Q v1 v2 ss ks hr ht h1 h2 hg hq => ?_
  refine wb_ret (T := T) (R := RN) (x := lines1 ss ks) ?_ hq
  refine Ev.to (R := RI) (x := (ks.map fun k => ((ss.getD k 0 : Nat) : Int)).sum) (ev_sum rfl g.sum (by decide +kernel) (Ev.to (R := RM RI) ?_ fun H2 v _ h => h.rl)) fun H2 v _ h => ?_
  · refine LcEv.ev (lx_lc (R := RN) (j := 2) (x0 := fun k => ((ss.getD k 0 : Nat) : Int)) rfl sc_linesof.nd (vr 1 h2) (by omega) (blkOk_by (N := Nlinesof) (sc := defScope s_linesof) (by decide +kernel))
      (fun _ _ _ _ _ => pg_name sc_linesof.nd rfl (Or.inl rfl)) (fun i v x G hx u hv => ?_)) rfl sc_linesof.nd
    intro s0 H0 C cl fp
    exact Ev.to (R := RN) (ev_item (R := RN) (i := x) (l := ss) (vr 0 (Mono.mono u h1)) (vr 2 (R := RI) hv) (get_getD (hg.2 x (List.mem_of_getElem? hx)))) fun _ _ _ h => h
  · rw [sum_cast] at h
    exact h
/-- a stock -/
def RNow (K : PySem.W.Frag) (c : Cs) : Rp Vamvsz.Now := fun H v n => ∃ a dx tv kv, v = .ref a ∧ H a = some (.ins c.stock dx [("table", tv), ("kept", kv), ("room", .int (n.m.room : Int)), ("changes", .int (n.m.changes : Int))]) ∧ RTab K c H tv n.t ∧ RL K RN H kv n.k
instance : Mono T (RNow K c) := ⟨fun x ⟨a, dx, tv, kv, h1, h2, h3, h4⟩ => ⟨a, dx, tv, kv, h1, x.ex _ _ h2 nt_ins, Mono.mono x h3, Mono.mono x h4⟩⟩
section
variable {H : Hp} {v : V} {n : Vamvsz.Now}
theorem RNow.table (g : Gf K mg c) (h : RNow K c H v n) : ∃ u, Has K "table" H v u ∧ RTab K c H u n.t :=
  let ⟨a, dx, tv, kv, h1, h2, h3, h4⟩ := h
  ⟨tv, h1 ▸ has_of g.stock h2 rfl (by decide), h3⟩
theorem RNow.kept (g : Gf K mg c) (h : RNow K c H v n) : ∃ u, Has K "kept" H v u ∧ RL K RN H u n.k :=
  let ⟨a, dx, tv, kv, h1, h2, h3, h4⟩ := h
  ⟨kv, h1 ▸ has_of g.stock h2 rfl (by decide), h4⟩
theorem RNow.room (g : Gf K mg c) (h : RNow K c H v n) : ∃ u, Has K "room" H v u ∧ RN H u n.m.room :=
  let ⟨a, dx, tv, kv, h1, h2, h3, h4⟩ := h
  ⟨_, h1 ▸ has_of g.stock h2 rfl (by decide), rfl⟩
theorem RNow.changes (g : Gf K mg c) (h : RNow K c H v n) : ∃ u, Has K "changes" H v u ∧ RN H u n.m.changes :=
  let ⟨a, dx, tv, kv, h1, h2, h3, h4⟩ := h
  ⟨_, h1 ▸ has_of g.stock h2 rfl (by decide), rfl⟩
end
/-- a stock in its bounds, and its sizes -/
structure GoodN (n : Vamvsz.Now) : Prop where
  t : Good n.t
  k : n.k.Sublist (Vamvsa.groupings n.t)
  room : n.m.room ≤ 1000
  changes : n.m.changes ≤ 1000
theorem GoodN.klen {n : Vamvsz.Now} (h : GoodN n) : n.k.length ≤ 16 := by
  have h1 := h.k.length_le
  unfold Vamvsa.groupings Vamvsa.width at h1
  rw [List.length_range] at h1
  exact Nat.le_trans h1 (Nat.le_trans (Nat.pow_le_pow_right (by decide) h.t.cols) (by decide))
abbrev s_paid : Stmt := top 14
def Npaid : List Str := ["stock", "sizes", "kept"]
theorem sc_paid : FnScope Npaid ["stock", "sizes", "kept"] (defScope s_paid) := ⟨rfl, rfl, rfl, by decide +kernel, rfl, by decide +kernel, by decide +kernel⟩
def paid1 (n : Vamvsz.Now) (ss ks : List Nat) : Nat := total1 n.t ss ks + 2 * n.m.changes * ks.length
theorem ok_paid {f : Addr} {fd : FuncData} (g : Gf K mg c) (dA : Df P w K mg base CX0 6 "all_costs" ["table", "sizes", "kept"] (Sp3 T (RTab K c) (RL K RN) (RL K RN) RN pSs total1))
    (F : Fun K "paid_for" "paid_for" s_paid f fd) (hm : mg "paid_for" = some (.ref f)) (b : Binds K fd ["stock", "sizes", "kept"] []) :
    Df P w K mg base CX0 7 "paid_for" ["stock", "sizes", "kept"] (Sp3 T (RNow K c) (RL K RN) (RL K RN) RN (fun n ss ks => GoodN n ∧ ss.length ≤ 16) paid1) := by
  refine ok3 F hm b sc_paid fun cdv A outer s H E Q v1 v2 v3 n ss ks hr ht h1 h2 h3 hg hq => ?_
  refine wb_ret (T := T) (R := RN) (x := paid1 n ss ks) ?_ hq
  have hch := hg.1.changes
  refine Ev.is (R := RI) (ev_add (i := (total1 n.t ss ks : Int)) (j := (2 * (n.m.changes : Int)) * (ks.length : Int)) (ev_c3 (S := RN) dA hr (by decide) ht (ev_fld (S := RNow K c) (R := RTab K c) (vr 0 h1) fun H1 v u r => r.table g) (vr 1 h2) (vr 2 h3) ⟨hg.1.t, hg.2⟩)
    (ev_mul (.inl ⟨by omega, by omega⟩) (ev_mul (.inl ⟨by decide, by decide⟩) (ev_gi g.gFOR) (ev_fld (S := RNow K c) (R := RN) (vr 0 h1) fun H1 v u r => r.changes g)) (ev_len g.len (vr 2 h3)))) ?_
  unfold paid1
  rw [Int.natCast_add, Int.natCast_mul, Int.natCast_mul]
  rfl
abbrev s_worth : Stmt := top 15
def Nworth : List Str := ["stock", "sizes", "grouping", "rest", "other"]
theorem sc_worth : FnScope Nworth ["stock", "sizes", "grouping"] (defScope s_worth) := ⟨rfl, rfl, rfl, by decide +kernel, rfl, by decide +kernel, by decide +kernel⟩
def worth1 (n : Vamvsz.Now) (ss : List Nat) (g : Nat) : Int := (total1 n.t ss (n.k.filter fun x => x != g) : Int) - (total1 n.t ss n.k : Int)
theorem ok_worth {f : Addr} {fd : FuncData} (g : Gf K mg c) (dA : Df P w K mg base CX0 6 "all_costs" ["table", "sizes", "kept"] (Sp3 T (RTab K c) (RL K RN) (RL K RN) RN pSs total1))
    (F : Fun K "worth_of" "worth_of" s_worth f fd) (hm : mg "worth_of" = some (.ref f)) (b : Binds K fd ["stock", "sizes", "grouping"] []) :
    Df P w K mg base CX0 7 "worth_of" ["stock", "sizes", "grouping"] (Sp3 T (RNow K c) (RL K RN) RN RI (fun n ss _ => GoodN n ∧ ss.length ≤ 16) worth1) := by
  refine ok3 F hm b sc_worth fun cdv A outer s H E Q v1 v2 v3 n ss gg hr ht h1 h2 h3 hg hq => ?_
  refine wb_setLc (T := T) 3 (lx_lcI (T := T) (R := RN) (S := RN) (xs := n.k) (j := 4) (pr := fun x => x != gg) (g := fun x => x) rfl sc_worth.nd (ev_fld (S := RNow K c) (R := RL K RN) (vr 0 h1) fun H1 v u r => r.kept g) (by have := hg.1.klen; omega) (blkOk_by (N := Nworth) (sc := defScope s_worth) (by decide +kernel))
    (fun _ _ _ _ _ => pg_name sc_worth.nd rfl (Or.inl rfl)) (fun i v x G hx u hv => ?_) (fun i v x G hx u hv _ => ?_)) rfl sc_worth.nd (fun v H' u hv => ?_)
  · intro s0 H0 C cl fp
    refine EvT.is (et_cmp (x := (x : Int)) (y := (gg : Int)) cmp_ne (vr (T := T) 4 (R := RI) hv) (vr (T := T) 2 (R := RI) (Mono.mono (R := RN) u h3))) ?_
    show (!decide ((x : Int) = (gg : Int))) = !(x == gg)
    congr 1
    rw [Bool.beq_eq_decide_eq]
    exact decide_eq_decide.mpr ⟨fun h => by omega, fun h => by omega⟩
  · intro s0 H0 C cl fp
    exact vr (T := T) 4 (R := RN) hv
  rw [List.map_id'] at hv
  refine wb_ret (T := T) (R := RI) (x := worth1 n ss gg) ?_ fun v' H2 u2 r => hq v' H2 (u.trans u2) r
  exact ev_sub (ev_c3 (S := RN) (z := total1 n.t ss (n.k.filter fun x => x != gg)) dA hr (by decide) (u.tb ht) (ev_fld (S := RNow K c) (R := RTab K c) (vr 0 (Mono.mono u h1)) fun H1 v u r => r.table g) (vr 1 (Mono.mono u h2)) (vr 3 hv.rl) ⟨hg.1.t, hg.2⟩)
    (ev_c3 (S := RN) (z := total1 n.t ss n.k) dA hr (by decide) (u.tb ht) (ev_fld (S := RNow K c) (R := RTab K c) (vr 0 (Mono.mono u h1)) fun H1 v u r => r.table g) (vr 1 (Mono.mono u h2)) (ev_fld (S := RNow K c) (R := RL K RN) (vr 0 (Mono.mono u h1)) fun H1 v u r => r.kept g) ⟨hg.1.t, hg.2⟩)
abbrev s_idle : Stmt := top 16
def Nidle : List Str := ["stock", "sizes", "most", "grouping"]
theorem sc_idle : FnScope Nidle ["stock", "sizes"] (defScope s_idle) := ⟨rfl, rfl, rfl, by decide +kernel, rfl, by decide +kernel, by decide +kernel⟩
def idle1 (n : Vamvsz.Now) (ss : List Nat) : List Nat := n.k.filter fun g => decide (worth1 n ss g ≤ ((2 * n.m.changes : Nat) : Int))
theorem ok_idle {f : Addr} {fd : FuncData} (g : Gf K mg c) (dW : Df P w K mg base CX0 7 "worth_of" ["stock", "sizes", "grouping"] (Sp3 T (RNow K c) (RL K RN) RN RI (fun n ss _ => GoodN n ∧ ss.length ≤ 16) worth1))
    (F : Fun K "idle_ones" "idle_ones" s_idle f fd) (hm : mg "idle_ones" = some (.ref f)) (b : Binds K fd ["stock", "sizes"] []) :
    Df P w K mg base CX0 8 "idle_ones" ["stock", "sizes"] (Sp2 T (RNow K c) (RL K RN) (RM RN) (fun n ss => GoodN n ∧ ss.length ≤ 16) idle1) := by
  refine ok2 F hm b sc_idle fun cdv A outer s H E Q v1 v2 n ss hr ht h1 h2 hg hq => ?_
  refine wb_set (T := T) (R := RI) (x := 2 * (n.m.changes : Int)) 2 (ev_mul (.inl ⟨by decide, by decide⟩) (ev_gi g.gFOR) (ev_fld (S := RNow K c) (R := RN) (vr 0 h1) fun H1 v u r => r.changes g)) (fun v H' u r => ?_) sc_idle.nd
  refine wb_ret (T := T) (R := RM RN) (x := idle1 n ss) ?_ fun v' H2 u2 r => hq v' H2 (u.trans u2) r
  have e : idle1 n ss = (n.k.filter fun g => decide (worth1 n ss g ≤ 2 * (n.m.changes : Int))).map fun x => x := by rw [List.map_id']; unfold idle1; rw [Int.natCast_mul]; rfl
  rw [e]
  refine LcEv.ev (lx_lcI (T := T) (R := RN) (S := RN) (xs := n.k) (j := 3) (pr := fun g => decide (worth1 n ss g ≤ 2 * (n.m.changes : Int))) (g := fun x => x) rfl sc_idle.nd (ev_fld (S := RNow K c) (R := RL K RN) (vr 0 (Mono.mono u h1)) fun H1 v u r => r.kept g) (by have := hg.1.klen; omega) (blkOk_by (N := Nidle) (sc := defScope s_idle) (by decide +kernel))
    (fun _ _ _ _ _ => pg_name sc_idle.nd rfl (Or.inl rfl)) (fun i v x G hx u2 hv => ?_) (fun i v x G hx u hv _ => ?_)) rfl sc_idle.nd
  · intro s0 H0 C cl fp
    exact et_cmp cmp_le (ev_c3 (S := RI) dW hr (by decide) ((u.trans u2).tb ht) (vr 0 (Mono.mono (u.trans u2) h1)) (vr 1 (Mono.mono (u.trans u2) h2)) (vr 3 hv) hg) (vr (T := T) 2 (R := RI) r)
  · intro s0 H0 C cl fp
    exact vr (T := T) 3 (R := RN) hv
end G5
/-! Fw11: a list of ours put aside over a statement; append with the list aside; dict get, put, items. -/
namespace G5
open PySem PySem.Spec PyProof.Rows L2
variable {T : List NTab}
/-- the suite of a loop; the i-th statement of a def -/
def suite : Stmt → List Stmt
  | .For _ _ bs _ _ => bs
  | .While _ bs _ _ => bs
  | .If _ bs _ _ => bs
  | _ => []
def stm (st : Stmt) (i : Nat) : Stmt := (defBody st).getD i (.Pass ⟨0, 0, 0, 0⟩)
/-- what is wanted of a statement's ends while a thing is aside -/
abbrev asideEnds (l : Addr) (u : HO) (D : Ends) : Ends where
  nx := fun σ G2 => G2 l = none → D.nx σ (upd G2 l u)
  rt := fun v G2 => G2 l = none → D.rt v (upd G2 l u)
  bk := fun σ G2 => G2 l = none → D.bk σ (upd G2 l u)
  ct := fun σ G2 => G2 l = none → D.ct σ (upd G2 l u)
section
variable {X : Cx} {e a b c : Expr} {es : List Expr} {st : Stmt} {sts bs : List Stmt} {σ : L2.St} {H G : Hp} {l : Addr} {vs : List V} {D : Ends} {α β γ : Type} {R : Rp α} {S : Rp β} {x : α} {y : β} {pos p : Pos} {n : Str}
theorem flow_back {pins : List (Addr × Obj)} {ob : Obj} {s1 : Shared} {f : Flow} (A : Aside X pins l) (hok : ∀ (G2 : Hp) (s2 : Shared), s2.heap.get? l = some ob → ObjOk X.prog X.w (upd G2 l (.lst vs)) s2.heap l (.lst vs)) (q : SP X (pins ++ [(l, ob)]) (asideEnds l (.lst vs) D) f s1) : SP X pins D f s1 := by
  have key : ∀ {σ' : L2.St} {G2 : Hp}, Inv X (pins ++ [(l, ob)]) σ' G2 s1 → G2 l = none ∧ Inv X pins σ' (upd G2 l (.lst vs)) s1 := fun {σ' G2} I2 => by
    have ho2 := (I2.pin (l, ob) (List.mem_append_right _ (List.mem_append_right _ (List.mem_cons_self ..)))).1
    exact back A I2 (u := .lst vs) (hok G2 s1 ho2)
  cases f with
  | next => obtain ⟨σ', G2, I2, q⟩ := q; obtain ⟨h2, I3⟩ := key I2; exact ⟨σ', _, I3, q h2⟩
  | brk => obtain ⟨σ', G2, I2, q⟩ := q; obtain ⟨h2, I3⟩ := key I2; exact ⟨σ', _, I3, q h2⟩
  | cont => obtain ⟨σ', G2, I2, q⟩ := q; obtain ⟨h2, I3⟩ := key I2; exact ⟨σ', _, I3, q h2⟩
  | ret u => obtain ⟨v, σ', G2, I2, r, q⟩ := q; obtain ⟨h2, I3⟩ := key I2; exact ⟨v, σ', _, I3, r, q h2⟩
theorem Wb.hide (hl : G l = none) (h : Wb X sts (asideEnds l (.lst vs) D) σ G) : Wb X sts D σ (upd G l (.lst vs)) := fun pins s I => by
  obtain ⟨hz, its, n, hv, ho⟩ := I.hok l _ upd_same
  obtain ⟨A, I1⟩ := aside I hl plain_lst (fun _ z => nomatch z) ho (fun _ z => nomatch z)
  exact thn (h _ s I1) fun f s1 q => flow_back A (fun G2 s2 h => ⟨hz, its, n, hv, h⟩) q
theorem Ws.hide (hl : G l = none) (h : Ws X st (asideEnds l (.lst vs) D) σ G) : Ws X st D σ (upd G l (.lst vs)) := fun pins s I => by
  obtain ⟨hz, its, n, hv, ho⟩ := I.hok l _ upd_same
  obtain ⟨A, I1⟩ := aside I hl plain_lst (fun _ z => nomatch z) ho (fun _ z => nomatch z)
  exact thn (h _ s I1) fun f s1 q => flow_back A (fun G2 s2 h => ⟨hz, its, n, hv, h⟩) q
theorem ws_set (i : Nat) (h : Ev T X R e σ H x) (q : ∀ v H', Xt T H H' → R H' v x → D.nx (σ.set i (some v)) H') (hN : X.N.Nodup) (hi : X.N[i]? = some n := by rfl) (hx : Loc X.env.scope n := by first | exact .inl rfl | exact .inr rfl)
    (hs : swapsWith e (some (.Name n p)) pos.line X.env = pure false := by rfl) (hf : X.fn n = true ∨ X.env.scope.names.lookup n = some .local := by exact .inl rfl) : Ws X (.Assign [.Name n p] e pos) D σ H := Ws.of (ps_set hN hi hx we hs hf) (h.now q)
theorem ws_setLc {ys : List β} (i : Nat) (h : LcEv T X S e σ H ys) (hc : X.calm = true) (hN : X.N.Nodup) (q : ∀ v H', Xt T H H' → RM S H' v ys → D.nx (σ.set i (some v)) H')
    (hsw : swapsWith e (some (.Name n p)) pos.line X.env = pure true := by exact sw_true rfl rfl rfl (by decide +kernel)) (hi : X.N[i]? = some n := by rfl) (hl : X.env.scope.names.lookup n = some .local := by rfl) : Ws X (.Assign [.Name n p] e pos) D σ H := by
  obtain ⟨elt, tg, iter, ifs, scope, own, pos', wi, g, tt, te, rfl, h1, h2, h3, h4, h5, h6, h7⟩ := h H (Xt.refl H) _ q
  exact Ws.of (ps_setLc hc hN hi hl hsw h1 h2 h3 h4 h5 h6) h7
/-- a new list of ours -/
def EvN (T : List NTab) {α : Type} (X : Cx) (R : Rp α) (e : Expr) (σ : L2.St) (H : Hp) (xs : List α) : Prop :=
  ∀ H1, Xt T H H1 → ∀ Q : VK, (∀ l G vs, Xt T H1 G → G l = none → All2 (R G) vs xs → Q (.ref l) (upd G l (.lst vs))) → We X e σ H1 Q
theorem evn_list [Mono T R] {xs : List α} (h : EvAs T X R es σ H xs) (hl : xs.length ≤ 1000 := by first | decide | (simp; done)) : EvN T X R (.List es pos) σ H xs := fun H1 e1 Q q =>
  We.of (pe_lst wa) (h H1 e1 _ fun vs H2 e2 r => ⟨by rw [r.length]; exact Nat.le_of_lt (small1000 hl), fun p hp => q p H2 vs e2 hp r⟩)
theorem evn_cat [Mono T R] {xs ys : List α} (ha : Ev T X (RM R) a σ H xs) (hb : Ev T X (RM R) b σ H ys) (hl : xs.length + ys.length ≤ 1000000) : EvN T X R (.BinOp a .Add b pos) σ H (xs ++ ys) := fun H1 e1 Q q =>
  We.of (pe_op op_cat we we) (ha H1 e1 _ fun v H2 e2 ⟨p, vs, h1, h2, h3⟩ => hb H2 (e1.trans e2) _ fun u H3 e3 ⟨p', us, h4, h5, h6⟩ =>
    ⟨p, p', vs, us, h1, h4, e3.ex _ _ h2 nt_lst, h5, by rw [h3.length, h6.length]; exact Nat.le_trans hl (by decide), fun q' hq => q q' H3 _ (e2.trans e3) hq ((h3.mono e3).append h6)⟩)
theorem wb_setN {xs : List α} (i : Nat) (h : EvN T X R e σ H xs) (q : ∀ l G vs, Xt T H G → G l = none → All2 (R G) vs xs → Wb X sts D (σ.set i (some (.ref l))) (upd G l (.lst vs))) (hN : X.N.Nodup) (hi : X.N[i]? = some n := by rfl) (hx : Loc X.env.scope n := by first | exact .inl rfl | exact .inr rfl)
    (hs : swapsWith e (some (.Name n p)) pos.line X.env = pure false := by rfl) (hf : X.fn n = true ∨ X.env.scope.names.lookup n = some .local := by exact .inl rfl) : Wb X (.Assign [.Name n p] e pos :: sts) D σ H := wb_cons (Ws.of (ps_set hN hi hx we hs hf) (h H (Xt.refl _) _ q))
/-- a list of ours times a number -/
theorem all2_rep {vs : List V} {xs : List α} (h : All2 (R H) vs xs) : ∀ k : Nat, All2 (R H) (List.replicate k vs).flatten (List.replicate k xs).flatten
  | 0 => .nil
  | k + 1 => by
    rw [List.replicate_succ, List.replicate_succ, List.flatten_cons, List.flatten_cons]
    exact h.append (all2_rep h k)
theorem ev_rep [Mono T R] {xs : List α} {k : Nat} (ha : Ev T X (RM R) a σ H xs) (hb : Ev T X RI b σ H (k : Int)) (hk : k ≤ 1000000) (hl : xs.length * k ≤ 1000000) : Ev T X (RM R) (.BinOp a .Mult b pos) σ H (List.replicate k xs).flatten := fun H1 e1 Q q =>
  We.of (pe_op op_rep we we) (ha H1 e1 _ fun v H2 e2 ⟨p, vs, h1, h2, h3⟩ => hb H2 (e1.trans e2) _ fun u H3 e3 r => ⟨p, (k : Int), vs, h1, r, e3.ex _ _ h2 nt_lst, by omega, by omega, by
    rw [h3.length, Int.toNat_natCast]
    exact Nat.le_trans hl (by decide), fun q' hq => q _ _ ((e2.trans e3).trans (Xt.new hq)) ⟨q', _, rfl, upd_same, by
    rw [Int.toNat_natCast]
    exact all2_rep ((h3.mono e3).mono (Xt.new (T := T) hq)) k⟩⟩)
/-- xs.append(e), the list aside while e is reckoned -/
theorem we_appendH {o : Expr} {apos : Pos} {Q : VK} [Mono T R] (ho : ∀ (Q : VK) H', Q (.ref l) H' → We X o σ H' Q) (hG : G l = none) (h : Ev T X R e σ G x) (hz : vs.length ≤ 16000000)
    (q : ∀ v G2, Xt T G G2 → G2 l = none → R G2 v x → Q .non (upd G2 l (.lst (vs ++ [v])))) (hbase : attributeBase o "append" X.env (eval o X.env) = eval o X.env := by rfl)
    (hfew : ((backTo pos (starEach (e :: []) X.env)).all (fun x => !x.1) && (backToKw pos (keywordEach [] X.env)).all (fun x => x.1.isSome) && decide ((e :: []).length + ([] : List Keyword).length + (if ([] : List Keyword).isEmpty then 0 else 1) < 30)) = true := by rfl)
    (hline : (apos.endLine == pos.line) = true := by rfl) (hs : starEach (e :: []) X.env = (false, eval e X.env) :: starEach [] X.env := by rfl) (hpl : (backTo pos (starEach [] X.env)).any (·.1) = false := by rfl) : We X (.Call (.Attribute o "append" apos) [e] [] pos) σ (upd G l (.lst vs)) Q :=
  We.of (pe_bm PySem.F.plainAttrs_list PySem.F.slot_list_append PySem.F.type_list_append mt_append we (pa_cons we pa_nil hs) hbase hfew hline hs hpl) (ho _ _ ⟨.inl ⟨rfl, _, SqL.of upd_same⟩, We.hide hG (h.now fun v G2 u r hn => ⟨l, vs, v, rfl, rfl, upd_same, Nat.lt_of_le_of_lt hz (by decide), by
    rw [upd_upd]
    exact q v G2 u hn r⟩)⟩)
/-- xs.extend(e), the list aside while e is reckoned -/
theorem we_extendH {o : Expr} {apos : Pos} {Q : VK} {xs : List α} (ho : ∀ (Q : VK) H', Q (.ref l) H' → We X o σ H' Q) (hG : G l = none) (h : Ev T X (RM R) e σ G xs) (hz : vs.length + xs.length ≤ 16000000)
    (q : ∀ us G2, Xt T G G2 → G2 l = none → All2 (R G2) us xs → Q .non (upd G2 l (.lst (vs ++ us)))) (hbase : attributeBase o "extend" X.env (eval o X.env) = eval o X.env := by rfl)
    (hfew : ((backTo pos (starEach (e :: []) X.env)).all (fun x => !x.1) && (backToKw pos (keywordEach [] X.env)).all (fun x => x.1.isSome) && decide ((e :: []).length + ([] : List Keyword).length + (if ([] : List Keyword).isEmpty then 0 else 1) < 30)) = true := by rfl)
    (hline : (apos.endLine == pos.line) = true := by rfl) (hs : starEach (e :: []) X.env = (false, eval e X.env) :: starEach [] X.env := by rfl) (hpl : (backTo pos (starEach [] X.env)).any (·.1) = false := by rfl) : We X (.Call (.Attribute o "extend" apos) [e] [] pos) σ (upd G l (.lst vs)) Q :=
  We.of (pe_bm PySem.F.plainAttrs_list PySem.F.slot_list_extend PySem.F.type_list_extend mt_extend we (pa_cons we pa_nil hs) hbase hfew hline hs hpl) (ho _ _ ⟨.inl ⟨rfl, _, SqL.of upd_same⟩, We.hide hG (h.now fun v G2 u ⟨b, us, h1, h2, h3⟩ hn => ⟨l, b, vs, us, rfl, by rw [h1], upd_same, by rw [upd_ne (ne_of_none h2 hn)]; exact h2, by rw [h3.length]; exact Nat.le_trans hz (by decide), by
    rw [upd_upd]
    exact q us G2 u hn h3⟩)⟩)
end
end G5
/-! K6: lines_by_sets, counts_by_sets, set_costs, members_of. -/
namespace G5
open PySem PySem.Spec PyProof.Rows L2
variable {T : List NTab} {P : Program} {w : World} {K : PySem.W.Frag} {mg : Str → Option Value} {base : Heap} {c : Cs}
abbrev s_linesby : Stmt := top 17
def Nlinesby : List Str := ["sizes", "found", "size", "lines"]
theorem sc_linesby : FnScope Nlinesby ["sizes"] (defScope s_linesby) := ⟨rfl, rfl, rfl, by decide +kernel, rfl, by decide +kernel, by decide +kernel⟩
def bySets (ss : List Nat) : List Nat := ss.foldl (fun f s => f ++ f.map fun l => l + s) [0]
theorem bySets_len (ss : List Nat) : (bySets ss).length = 2 ^ ss.length := by
  have h : ∀ (ss f : List Nat), (ss.foldl (fun f s => f ++ f.map fun l => l + s) f).length = f.length * 2 ^ ss.length := by
    intro ss
    induction ss with
    | nil => intro f; simp
    | cons s r ih =>
      intro f
      rw [List.foldl_cons, ih, List.length_append, List.length_map, List.length_cons, Nat.pow_succ]
      rw [← Nat.mul_two, Nat.mul_assoc, Nat.mul_comm 2]
  have := h ss [0]
  rw [List.length_singleton, Nat.one_mul] at this
  exact this
theorem pow16 {n : Nat} (h : n ≤ 16) : 2 ^ n ≤ 65536 := Nat.le_trans (Nat.pow_le_pow_right (by decide) h) (by decide)
theorem ok_linesby {f : Addr} {fd : FuncData} (g : Gf K mg c) (F : Fun K "lines_by_sets" "lines_by_sets" s_linesby f fd) (hm : mg "lines_by_sets" = some (.ref f)) (b : Binds K fd ["sizes"] []) :
    Df P w K mg base CX0 1 "lines_by_sets" ["sizes"] (Sp1 T (RL K RN) (RM RN) (fun ss => ss.length ≤ 16) bySets) := by
  refine ok1 F hm b sc_linesby fun cdv A outer s H E Q v1 ss hr ht h1 hg hq => ?_
  refine wb_set (T := T) (R := RM RN) (x := [0]) 1 (ev_list (es_cons (Ev.to (R := RI) ev_int fun _ _ _ h => h) es_nil)) (fun fv H1 u1 rf => ?_) sc_linesby.nd
  refine wb_forE (T := T) (R := RN) (xs := ss) 2 PassesOwn.never rfl sc_linesby.nd (vr 0 (Mono.mono u1 h1))
    (fun i σ' H' => ∃ fv o, σ' = [some v1, some fv, o, none] ∧ RM RN H' fv (bySets (ss.take i))) (fun H2 u => ⟨fv, none, rfl, Mono.mono u rf⟩) (fun i x v σ' H' u hx hv w => ?_) fun σ' H' u w => ?_
  · obtain ⟨fv, o, rfl, rf⟩ := w
    have hi : i < ss.length := (List.getElem?_eq_some_iff.mp hx).1
    have hl : (bySets (ss.take i)).length ≤ 65536 := by
      rw [bySets_len, List.length_take]
      exact pow16 (by omega)
    refine wb_set (T := T) (R := RM RN) (x := bySets (ss.take (i + 1))) 1 ?_ (fun fv2 H2 u2 rf2 => wb_nil ⟨u2, fv2, _, rfl, rf2⟩) sc_linesby.nd
    have e : bySets (ss.take (i + 1)) = bySets (ss.take i) ++ (bySets (ss.take i)).map fun l => l + x := by
      rw [take_snoc hx]
      show List.foldl _ _ _ = _
      rw [List.foldl_append]
      rfl
    rw [e]
    refine ev_cat (vr 1 rf) (LcEv.ev (lx_lc (R := RN) (S := RN) (xs := bySets (ss.take i)) (j := 3) (x0 := fun l => l + x) rfl sc_linesby.nd (vr 1 rf.rl) (by omega) (blkOk_by (N := Nlinesby) (sc := defScope s_linesby) (by decide +kernel))
      (fun _ _ _ _ _ => pg_name sc_linesby.nd rfl (Or.inl rfl)) (fun k v3 y G hy u3 hv3 => ?_)) rfl sc_linesby.nd) (by rw [List.length_map]; omega)
    intro s0 H0 C cl fp
    exact Ev.to (ev_add (i := (y : Int)) (j := (x : Int)) (vr 3 (R := RI) hv3) (vr 2 (R := RI) hv)) fun _ _ _ h => by
      show _ = V.int (((y + x : Nat)) : Int)
      rw [Int.natCast_add]
      exact h
  · obtain ⟨fv, o, rfl, rf⟩ := w
    rw [List.take_length] at rf
    exact wb_ret (T := T) (R := RM RN) (x := bySets ss) (vr 1 rf) fun v' H3 u3 r => hq v' H3 (u1.trans (u.trans u3)) r
abbrev s_setcosts : Stmt := top 21
def Nsetcosts : List Str := ["rows", "many", "number", "found", "times", "row", "own", "bit", "size"]
theorem sc_setcosts : FnScope Nsetcosts ["rows", "many", "number"] (defScope s_setcosts) := ⟨rfl, rfl, rfl, by decide +kernel, rfl, by decide +kernel, by decide +kernel⟩
/-- rows as reading_rows makes them: how often, and what may be read -/
abbrev Rws := List (Nat × List (Nat × Nat))
def RRws (K : PySem.W.Frag) : Rp Rws := RL K (RP K RN (RL K (RP K RN RN)))
instance : Mono T (RRws K) := inferInstanceAs (Mono T (RL K (RP K RN (RL K (RP K RN RN)))))
def own1 (many number : Nat) (row : List (Nat × Nat)) : Nat := match row.find? fun p => number &&& p.1 != 0 with
  | none => many
  | some p => p.2
def setCost (rows : Rws) (many number : Nat) : Nat := (rows.map fun r => r.1 * own1 many number r.2).sum
theorem ok_setcosts {f : Addr} {fd : FuncData} (g : Gf K mg c) (F : Fun K "set_costs" "set_costs" s_setcosts f fd) (hm : mg "set_costs" = some (.ref f)) (b : Binds K fd ["rows", "many", "number"] []) :
    Df P w K mg base CX0 1 "set_costs" ["rows", "many", "number"] (Sp3 T (RRws K) RN RN RN (fun rows _ _ => ∀ r ∈ rows, r.1 ≤ 1000000) setCost) := by
  refine ok3 F hm b sc_setcosts fun cdv A outer s H E Q v1 v2 v3 rows many number hr ht h1 h2 h3 hg hq => ?_
  refine wb_set (T := T) (R := RI) (x := 0) 3 ev_int (fun fv H1 u1 rf => ?_) sc_setcosts.nd
  cases rf
  refine wb_forEP (T := T) (R := RN) (R2 := RL K (RP K RN RN)) (xs := rows) 4 5 PassesOwn.never rfl sc_setcosts.nd (vr 0 (Mono.mono u1 h1))
    (fun i σ' H' => ∃ o1 o2 o3 o4 o5, σ' = [some v1, some v2, some v3, some (.int ((setCost (rows.take i) many number : Nat) : Int)), o1, o2, o3, o4, o5]) (fun H2 u => ⟨none, none, none, none, none, rfl⟩) (fun i x w1 w2 σ' H' u hx hw1 hw2 w => ?_) fun σ' H' u w => ?_
  · obtain ⟨o1, o2, o3, o4, o5, rfl⟩ := w
    refine wb_set (T := T) (R := RN) (x := many) 6 (vr 1 h2) (fun ov H2 u2 ro => ?_) sc_setcosts.nd
    have fin : ∀ (D : Ends) (H3 : Hp) (o : V) (o4 o5 : Option V), o = .int (own1 many number x.2 : Int) → (∀ σ2 H2, (Xt T H' H2 ∧ ∃ o1 o2 o3 o4 o5, σ2 = [some v1, some v2, some v3, some (.int ((setCost (rows.take (i + 1)) many number : Nat) : Int)), o1, o2, o3, o4, o5]) → D.nx σ2 H2) → Xt T H' H3 →
        Wb (C0 P w K mg base Nsetcosts "set_costs" s_setcosts f cdv A outer s H E) ((suite (stm s_setcosts 1)).drop 2) D [some v1, some v2, some v3, some (.int ((setCost (rows.take i) many number : Nat) : Int)), some w1, some w2, some o, o4, o5] H3 := fun D H3 o o4 o5 ho hD u3 => by
      subst ho
      refine wb_augI (T := T) 3 rfl (ev_mul (i := (x.1 : Int)) (j := (own1 many number x.2 : Int)) (.inl ⟨by omega, by have := hg x (List.mem_of_getElem? hx); omega⟩) (vr 4 (R := RI) hw1) (vr 6 (R := RI) rfl)) (fun H4 u4 => wb_nil (hD _ _ ⟨u3.trans u4, some w1, some w2, some (.int (own1 many number x.2 : Int)), o4, o5, ?_⟩)) sc_setcosts.nd
      have e : (setCost (rows.take (i + 1)) many number : Int) = (setCost (rows.take i) many number : Int) + (x.1 : Int) * (own1 many number x.2 : Int) := by
        unfold setCost
        rw [take_snoc hx, List.map_append, List.sum_append, List.map_cons, List.map_nil, List.sum_cons, List.sum_nil, Nat.add_zero, Int.natCast_add, Int.natCast_mul]
      rw [e]
      rfl
    refine wb_forEP (T := T) (R := RN) (R2 := RN) (xs := x.2) 7 8 PassesOwn.never rfl sc_setcosts.nd (vr 5 (Mono.mono u2 hw2))
      (fun k σ' H' => (∃ o4 o5, σ' = [some v1, some v2, some v3, some (.int ((setCost (rows.take i) many number : Nat) : Int)), some w1, some w2, some (.int (many : Int)), o4, o5]) ∧ ∀ p ∈ x.2.take k, (number &&& p.1 != 0) = false) (fun H3 u => ⟨⟨o4, o5, by cases ro; rfl⟩, fun p hp => by simp at hp⟩) (fun k y b1 b2 σ' H3 u3 hy hb1 hb2 w => ?_) fun σ' H3 u3 w => ?_
    · obtain ⟨⟨o4, o5, rfl⟩, hw⟩ := w
      refine wb_if (T := T) (k := number &&& y.1 != 0) (EvT.is (et_cmp (x := Builtin.bitAnd (number : Int) (y.1 : Int)) (y := (0 : Int)) cmp_ne (ev_and (vr (T := T) 2 (R := RI) h3) (vr (T := T) 7 (R := RI) hb1)) ev_int) ?_) (fun kk H4 u4 => ?_) fun kk H4 u4 => wb_nil (wb_nil ⟨u4, ⟨_, _, rfl⟩, take_all hw hy kk⟩)
      · rw [bitAnd_nat]
        show (!decide (((number &&& y.1 : Nat) : Int) = 0)) = !(number &&& y.1 == 0)
        congr 1
        rw [Bool.beq_eq_decide_eq]
        exact decide_eq_decide.mpr ⟨fun h => by omega, fun h => by omega⟩
      · refine wb_set (T := T) (R := RN) (x := y.2) 6 (vr 8 hb2) (fun ov2 H5 u5 ro2 => ?_) sc_setcosts.nd
        refine wb_brk ?_
        cases ro2
        have e : own1 many number x.2 = y.2 := by
          unfold own1
          rw [find_at hw hy kk]
        exact fin _ H5 _ _ _ (by rw [e]) (fun _ _ h => h) (u2.trans (u3.trans (u4.trans u5)))
    · obtain ⟨⟨o4, o5, rfl⟩, hw⟩ := w
      have e : own1 many number x.2 = many := by
        unfold own1
        rw [List.find?_eq_none.mpr fun p hp => by rw [hw p (by rw [List.take_length]; exact hp)]; decide]
      exact fin _ H3 _ _ _ (by rw [e]) (fun _ _ h => h) (u2.trans u3)
  · obtain ⟨o1, o2, o3, o4, o5, rfl⟩ := w
    rw [List.take_length]
    exact wb_ret (T := T) (R := RN) (x := setCost rows many number) (vr 3 rfl) fun v' H3 u3 r => hq v' H3 (u1.trans (u.trans u3)) r
end G5
/-! K7: counts_by_sets, members_of, together, reading_rows. -/
namespace G5
open PySem PySem.Spec PyProof.Rows L2
variable {T : List NTab} {P : Program} {w : World} {K : PySem.W.Frag} {mg : Str → Option Value} {base : Heap} {c : Cs}
abbrev s_countsby : Stmt := top 18
theorem sc_countsby : FnScope ["sizes"] ["sizes"] (defScope s_countsby) := ⟨rfl, rfl, rfl, by decide +kernel, rfl, by decide +kernel, by decide +kernel⟩
theorem flat_rep {α : Type} (x : α) : ∀ k : Nat, (List.replicate k [x]).flatten = List.replicate k x
  | 0 => rfl
  | k + 1 => by rw [List.replicate_succ, List.flatten_cons, flat_rep x k]; rfl
theorem ok_countsby {f : Addr} {fd : FuncData} (g : Gf K mg c) (dL : Df P w K mg base CX0 1 "lines_by_sets" ["sizes"] (Sp1 T (RL K RN) (RM RN) (fun ss => ss.length ≤ 16) bySets))
    (F : Fun K "counts_by_sets" "counts_by_sets" s_countsby f fd) (hm : mg "counts_by_sets" = some (.ref f)) (b : Binds K fd ["sizes"] []) :
    Df P w K mg base CX0 2 "counts_by_sets" ["sizes"] (Sp1 T (RL K RN) (RM RN) (fun ss => ss.length ≤ 16) fun ss => bySets (List.replicate ss.length 1)) := by
  refine ok1 F hm b sc_countsby fun cdv A outer s H E Q v1 ss hr ht h1 hg hq => ?_
  refine wb_ret (T := T) (R := RM RN) (x := bySets (List.replicate ss.length 1)) ?_ hq
  have e : List.replicate ss.length 1 = (List.replicate ss.length [1]).flatten := (flat_rep 1 _).symm
  rw [e]
  exact ev_c1 dL hr (by decide) ht (Ev.to (ev_rep (R := RN) (xs := [1]) (k := ss.length) (ev_list (es_cons (Ev.to (R := RI) (x := 1) ev_int fun _ _ _ h => h) es_nil)) (ev_len g.len (vr 0 h1)) (by omega) (by rw [List.length_singleton]; omega)) fun _ _ _ h => h.rl) (by rw [flat_rep, List.length_replicate]; exact hg)
abbrev s_members : Stmt := top 23
def Nmembers : List Str := ["number", "found", "grouping"]
theorem sc_members : FnScope Nmembers ["number"] (defScope s_members) := ⟨rfl, rfl, rfl, by decide +kernel, rfl, by decide +kernel, by decide +kernel⟩
def mem1 (n : Nat) : List Nat := (List.range 16).filter fun g => n / 2 ^ g % 2 == 1
theorem shr_nat (n i : Nat) : (n : Int) / 2 ^ ((i : Nat) : Int).toNat = ((n / 2 ^ i : Nat) : Int) := by
  rw [Int.toNat_natCast, pow_cast]
  rfl
theorem range_tail (n i : Nat) (h : n / 2 ^ i = 0) : ∀ k, i ≤ k → ((List.range k).filter fun g => n / 2 ^ g % 2 == 1) = (List.range i).filter fun g => n / 2 ^ g % 2 == 1 := by
  intro k hk
  induction k with
  | zero => rw [show i = 0 by omega]
  | succ k ih =>
    by_cases e : i = k + 1
    · rw [e]
    · rw [List.range_succ, List.filter_append, ih (by omega)]
      have z : n / 2 ^ k = 0 := by
        have h2 : 2 ^ i ≤ 2 ^ k := Nat.pow_le_pow_right (by decide) (by omega)
        have h3 : n < 2 ^ i := by
          rcases Nat.lt_or_ge n (2 ^ i) with q | q
          · exact q
          · have := Nat.div_pos q (Nat.two_pow_pos i)
            omega
        exact Nat.div_eq_of_lt (by omega)
      rw [List.filter_cons, z]
      simp
theorem ok_members {f : Addr} {fd : FuncData} (g : Gf K mg c) (F : Fun K "members_of" "members_of" s_members f fd) (hm : mg "members_of" = some (.ref f)) (b : Binds K fd ["number"] []) :
    Df P w K mg base CX0 1 "members_of" ["number"] (Sp1 T RN (RM RN) (fun n => n < 65536) mem1) := by
  refine ok1 F hm b sc_members fun cdv A outer s H E Q v1 n hr ht h1 hg hq => ?_
  refine wb_setN (T := T) (R := RN) (xs := []) 1 (evn_list es_nil) (fun l G vs u1 hG ra => ?_) sc_members.nd
  refine wb_set (T := T) (R := RI) (x := 0) 2 ev_int (fun fv H1 u2 rf => ?_) sc_members.nd
  cases rf
  cases ra
  have hl0 : H l = none := u1.fr l hG
  refine wb_while PassesOwn.never (fun m σ' H' => ∃ i : Nat, i ≤ 16 ∧ m = 20 - i ∧ σ' = [some v1, some (.ref l), some (.int (i : Int))] ∧ Xt T H H' ∧ H' l = some (.lst (((List.range i).filter fun g => n / 2 ^ g % 2 == 1).map fun (k : Nat) => V.int (k : Int)))) 20
    ⟨0, by decide, rfl, rfl, u1.trans ((Xt.new hG).trans u2), u2.ex _ _ upd_same nt_lst⟩ fun m σ' H' W => ?_
  obtain ⟨i, hi, rfl, rfl, u3, hl⟩ := W
  have ec : EvT T (C0 P w K mg base Nmembers "members_of" s_members f cdv A outer s H E) (match stm s_members 2 with | .While c _ _ _ => c | _ => .Constant .none 0 ⟨0, 0, 0, 0⟩) [some v1, some (.ref l), some (.int (i : Int))] H' (decide (0 < n / 2 ^ i)) := by
    refine EvT.is (et_cmp (x := (n : Int) / 2 ^ ((i : Nat) : Int).toNat) (y := (0 : Int)) cmp_gt (ev_shr (by omega) (vr (T := T) 0 (R := RI) h1) (vr 2 (R := RI) rfl)) ev_int) ?_
    rw [shr_nat]
    exact decide_eq_decide.mpr ⟨fun h => by omega, fun h => by omega⟩
  refine ec.now fun H2 u4 => ?_
  by_cases hz : 0 < n / 2 ^ i
  · rw [if_pos (decide_eq_true hz)]
    have hi16 : i < 16 := by
      rcases Nat.lt_or_ge i 16 with q | q
      · exact q
      · have e : i = 16 := by omega
        subst e
        rw [Nat.div_eq_of_lt (show n < 2 ^ 16 from hg)] at hz
        omega
    have fin : ∀ (D : Ends) (H3 : Hp), (∀ σ2 H2, (∃ m', m' < 20 - i ∧ ∃ i : Nat, i ≤ 16 ∧ m' = 20 - i ∧ σ2 = [some v1, some (.ref l), some (.int (i : Int))] ∧ Xt T H H2 ∧ H2 l = some (.lst (((List.range i).filter fun g => n / 2 ^ g % 2 == 1).map fun (k : Nat) => V.int (k : Int)))) → D.nx σ2 H2) → Xt T H H3 →
        H3 l = some (.lst (((List.range (i + 1)).filter fun g => n / 2 ^ g % 2 == 1).map fun (k : Nat) => V.int (k : Int))) →
        Wb (C0 P w K mg base Nmembers "members_of" s_members f cdv A outer s H E) ((suite (stm s_members 2)).drop 1) D [some v1, some (.ref l), some (.int (i : Int))] H3 := fun D H3 hD u5 hl5 => by
      refine wb_augI (T := T) 2 rfl ev_int (fun H4 u6 => wb_nil (hD _ _ ⟨20 - (i + 1), by omega, i + 1, by omega, rfl, ?_, u5.trans u6, u6.ex _ _ hl5 nt_lst⟩)) sc_members.nd
      rfl
    refine wb_if (T := T) (k := n / 2 ^ i % 2 == 1) (EvT.is (et_cmp (x := Builtin.bitAnd ((n : Int) / 2 ^ ((i : Nat) : Int).toNat) 1) (y := (1 : Int)) cmp_eq (ev_and (ev_shr (by omega) (vr (T := T) 0 (R := RI) h1) (vr 2 (R := RI) rfl)) ev_int) ev_int) (bitI_eq n i)) (fun kk H3 u5 => ?_) fun kk H3 u5 => ?_
    · refine wb_expr (we_append (T := T) (R := RN) (x := i) (vs := ((List.range i).filter fun g => n / 2 ^ g % 2 == 1).map fun (k : Nat) => V.int (k : Int)) (l := l) (fun Q q => we_var (i := 1) rfl q) ((u4.trans u5).ex _ _ hl nt_lst) (vr 2 (R := RN) rfl) (by
        rw [List.length_map]
        exact Nat.le_trans (List.length_filter_le _ _) (by rw [List.length_range]; omega)) fun v H4 u6 r => ?_)
      cases r
      refine wb_nil (fin _ _ (fun _ _ h => h) (((u3.trans (u4.trans (u5.trans u6)))).mutL hl0 ((u4.trans (u5.trans u6)).ex _ _ hl nt_lst)) ?_)
      rw [upd_same, List.range_succ, List.filter_append, List.map_append, List.filter_cons, kk]
      rfl
    · refine wb_nil (fin _ _ (fun _ _ h => h) (u3.trans (u4.trans u5)) ?_)
      rw [(u4.trans u5).ex _ _ hl nt_lst, List.range_succ, List.filter_append, List.filter_cons, kk]
      simp
  · rw [if_neg (by rw [decide_eq_false hz]; decide)]
    have e0 : n / 2 ^ i = 0 := Nat.le_zero.mp (Nat.not_lt.mp hz)
    have em : mem1 n = (List.range i).filter fun g => n / 2 ^ g % 2 == 1 := range_tail n i e0 16 hi
    refine wb_ret (T := T) (R := RM RN) (x := mem1 n) (vr 1 ⟨l, _, rfl, u4.ex _ _ hl nt_lst, ?_⟩) fun v' H3 u5 r => hq v' H3 (u3.trans (u4.trans u5)) r
    rw [em]
    exact nats_all2 _
end G5
/-! K8: together, reading_rows. -/
namespace G5
open PySem PySem.Spec PyProof.Rows L2
variable {T : List NTab} {P : Program} {w : World} {K : PySem.W.Frag} {mg : Str → Option Value} {base : Heap} {c : Cs}
abbrev s_together : Stmt := top 19
def Ntogether : List Str := ["questions", "found", "grouping", "times"]
theorem sc_together : FnScope Ntogether ["questions"] (defScope s_together) := ⟨rfl, rfl, rfl, by decide +kernel, rfl, by decide +kernel, by decide +kernel⟩
/-- alike groupings put together -/
def putT (l : List (Nat × Nat)) (p : Nat × Nat) : List (Nat × Nat) :=
  if (l.any fun q => decide (q.1 = p.1)) = true then l.map fun q => if q.1 = p.1 then (q.1, q.2 + p.2) else q else l ++ [p]
def tog (qs : List (Nat × Nat)) : List (Nat × Nat) := qs.foldl putT []
def encT (l : List (Nat × Nat)) : List (Key × V) := l.map fun p => (Sum.inl (p.1 : Int), V.int (p.2 : Int))
theorem enc_any (l : List (Nat × Nat)) (g : Nat) : ((encT l).any fun kv => decide (kv.1 = (Sum.inl (g : Int) : Key))) = l.any fun q => decide (q.1 = g) := by
  unfold encT
  rw [List.any_map]
  congr 1
  funext q
  exact decide_eq_decide.mpr ⟨fun h => by have := Sum.inl.inj h; omega, fun h => by rw [← h]⟩
def getT (l : List (Nat × Nat)) (g : Nat) : Nat := match l.find? fun q => decide (q.1 = g) with
  | none => 0
  | some q => q.2
theorem enc_val (l : List (Nat × Nat)) (g : Nat) : (valV (encT l) (Sum.inl (g : Int))).getD (V.int 0) = V.int (getT l g : Int) := by
  unfold valV getT encT
  rw [List.find?_map]
  have e : ((fun kv : Key × V => decide (kv.1 = (Sum.inl (g : Int) : Key))) ∘ fun p : Nat × Nat => ((Sum.inl (p.1 : Int) : Key), V.int (p.2 : Int))) = fun q => decide (q.1 = g) := by
    funext q
    exact decide_eq_decide.mpr ⟨fun h => by have := Sum.inl.inj h; omega, fun h => by rw [← h]⟩
  rw [e]
  cases l.find? fun q => decide (q.1 = g) <;> rfl
/-- each key once -/
def Once (l : List (Nat × Nat)) : Prop := (l.map (·.1)).Nodup
theorem putT_keys (l : List (Nat × Nat)) (p : Nat × Nat) : (putT l p).map (·.1) = if (l.any fun q => decide (q.1 = p.1)) = true then l.map (·.1) else l.map (·.1) ++ [p.1] := by
  unfold putT
  by_cases h : (l.any fun q => decide (q.1 = p.1)) = true
  · rw [if_pos h, if_pos h, List.map_map]
    congr 1
    funext q
    show (if q.1 = p.1 then (q.1, q.2 + p.2) else q).1 = q.1
    by_cases e : q.1 = p.1
    · rw [if_pos e]
    · rw [if_neg e]
  · rw [if_neg h, if_neg h, List.map_append]
    rfl
theorem once_put {l : List (Nat × Nat)} {p : Nat × Nat} (h : Once l) : Once (putT l p) := by
  unfold Once
  rw [putT_keys]
  by_cases e : (l.any fun q => decide (q.1 = p.1)) = true
  · rw [if_pos e]; exact h
  · rw [if_neg e]
    refine List.nodup_append.mpr ⟨h, List.nodup_cons.mpr ⟨List.not_mem_nil, List.nodup_nil⟩, fun a ha b hb => ?_⟩
    rw [List.mem_singleton.mp hb]
    intro z
    apply e
    obtain ⟨q, hq, rfl⟩ := List.mem_map.mp ha
    exact List.any_eq_true.mpr ⟨q, hq, decide_eq_true z⟩
theorem get_here {l : List (Nat × Nat)} (h : Once l) {q : Nat × Nat} (hq : q ∈ l) : getT l q.1 = q.2 := by
  induction l with
  | nil => cases hq
  | cons a r ih =>
    have h1 := List.nodup_cons.mp (show (a.1 :: r.map (·.1)).Nodup from h)
    unfold getT
    rw [List.find?_cons]
    by_cases e : a.1 = q.1
    · rw [decide_eq_true e]
      rcases List.mem_cons.mp hq with z | z
      · rw [z]
      · exact absurd (e ▸ List.mem_map_of_mem (f := (·.1)) z) h1.1
    · rw [decide_eq_false e]
      rcases List.mem_cons.mp hq with z | z
      · rw [z] at e; exact absurd rfl e
      · exact ih h1.2 z
theorem enc_put {l : List (Nat × Nat)} (h : Once l) (p : Nat × Nat) : putK (encT l) (Sum.inl (p.1 : Int)) (V.int ((getT l p.1 : Int) + (p.2 : Int))) = encT (putT l p) := by
  unfold putK putT
  rw [enc_any]
  by_cases e : (l.any fun q => decide (q.1 = p.1)) = true
  · rw [if_pos e, if_pos e]
    unfold encT
    rw [List.map_map, List.map_map]
    refine List.map_congr_left fun q hq => ?_
    show (if (Sum.inl (q.1 : Int) : Key) = Sum.inl (p.1 : Int) then ((Sum.inl (q.1 : Int) : Key), V.int ((getT l p.1 : Int) + (p.2 : Int))) else (Sum.inl (q.1 : Int), V.int (q.2 : Int))) = ((Sum.inl ((if q.1 = p.1 then (q.1, q.2 + p.2) else q).1 : Int) : Key), V.int ((if q.1 = p.1 then (q.1, q.2 + p.2) else q).2 : Int))
    by_cases z : q.1 = p.1
    · rw [if_pos z, if_pos (by rw [z]), ← z, get_here h hq, Int.natCast_add]
    · rw [if_neg z, if_neg (fun y => z (by have := Sum.inl.inj y; omega))]
  · rw [if_neg e, if_neg e]
    have g0 : getT l p.1 = 0 := by
      unfold getT
      rw [List.find?_eq_none.mpr fun q hq => fun z => e (List.any_eq_true.mpr ⟨q, hq, z⟩)]
    rw [g0]
    unfold encT
    rw [List.map_append, Int.natCast_zero, Int.zero_add]
    rfl
theorem once_fold : ∀ (qs l : List (Nat × Nat)), Once l → Once (qs.foldl putT l)
  | [], _, h => h
  | _ :: r, _, h => once_fold r _ (once_put h)
theorem once_tog (qs : List (Nat × Nat)) : Once (tog qs) := once_fold qs [] List.nodup_nil
theorem putT_len (l : List (Nat × Nat)) (p : Nat × Nat) : (putT l p).length ≤ l.length + 1 := by
  unfold putT
  by_cases e : (l.any fun q => decide (q.1 = p.1)) = true
  · rw [if_pos e, List.length_map]; omega
  · rw [if_neg e, List.length_append]; exact Nat.le_refl _
theorem fold_len : ∀ (qs l : List (Nat × Nat)), (qs.foldl putT l).length ≤ l.length + qs.length
  | [], l => Nat.le_refl _
  | p :: r, l => by
    have h1 := fold_len r (putT l p)
    have h2 := putT_len l p
    rw [List.foldl_cons, List.length_cons]
    omega
theorem tog_snoc (qs : List (Nat × Nat)) (p : Nat × Nat) : tog (qs ++ [p]) = putT (tog qs) p := by
  unfold tog
  rw [List.foldl_append]
  rfl
theorem all2_pairs {H : Hp} : ∀ {ts : List Addr} {l : List (Nat × Nat)}, Paired (fun (t : Addr) (q : Key × V) => H t = some (.tup [kV q.1, q.2])) ts (encT l) → All2 (RP K RN RN H) (ts.map V.ref) l
  | [], [], _ => .nil
  | _ :: _, [], h => by cases h
  | [], _ :: _, h => by cases h
  | t :: ts, p :: l, h => by
    cases h with
    | cons h1 h2 => exact .cons ⟨t, _, _, rfl, SqT.of h1, rfl, rfl⟩ (all2_pairs h2)
theorem ok_together {f : Addr} {fd : FuncData} (g : Gf K mg c) (F : Fun K "together" "together" s_together f fd) (hm : mg "together" = some (.ref f)) (b : Binds K fd ["questions"] []) :
    Df P w K mg base CX0 1 "together" ["questions"] (Sp1 T (RL K (RP K RN RN)) (RM (RP K RN RN)) (fun qs => qs.length ≤ 1000) tog) := by
  refine ok1 F hm b sc_together fun cdv A outer s H E Q v1 qs hr ht h1 hg hq => ?_
  have hu : (C0 P w K mg base Ntogether "together" s_together f cdv A outer s H E).A.units + 1 < cLine := by
    have := hr.un
    have : (C0 P w K mg base Ntogether "together" s_together f cdv A outer s H E).A.units = (A.deeper (envOfC "together" (defScope s_together) s.heap.objs.size f cdv)).units := rfl
    omega
  refine wb_cons (Ws.of (ps_set sc_together.nd (i := 1) rfl (.inl rfl) pe_dnewK) (fun d hd => ?_))
  obtain ⟨l, vs, rfl, h2, h3⟩ := h1
  refine wb_forGP 2 3 PassesOwn.never rfl sc_together.nd (we_var (i := 0) rfl ⟨l, vs, fun i σ' H' => Xt T H H' ∧ H' d = some (.dK (encT (tog (qs.take i)))) ∧ ∃ o1 o2, σ' = [some (.ref l), some (.ref d), o1, o2], rfl, ⟨Xt.new hd, upd_same, none, none, rfl⟩, fun i σ' H' _ w => w.1.seqL h2, fun i v σ' H' hv w => ?_, fun σ' H' w => ?_⟩)
  · obtain ⟨u, hd', o1, o2, rfl⟩ := w
    obtain ⟨x, hx, t, w1, w2, e, sq, r1, r2⟩ := h3.getL hv
    refine ⟨t, w1, w2, e, u.seqT sq, ?_⟩
    cases r1
    cases r2
    refine wb_cons (Ws.of (ps_dput hu we we we rfl) (We.of (pe_op op_add (pe_dget2 hu we we we ⟨rfl, rfl, rfl, rfl⟩) we) ?_))
    refine we_var (i := 1) rfl ⟨d, rfl, .inl ⟨_, .inl hd'⟩, we_var (i := 2) rfl (We.of pe_int ⟨_, DGet.k (k := Sum.inl (x.1 : Int)) hd', we_var (i := 3) rfl ?_⟩)⟩
    rw [enc_val]
    refine ⟨_, _, rfl, rfl, we_var (i := 1) rfl (we_var (i := 2) rfl ⟨d, _, rfl, DPut.k (k := Sum.inl (x.1 : Int)) hd' ?_, wb_nil ⟨u.mutD hd hd', ?_, _, _, rfl⟩⟩)⟩
    · unfold encT
      rw [List.length_map]
      have h9 := fold_len (qs.take i) []
      rw [List.length_nil, List.length_take] at h9
      have : (tog (qs.take i)).length ≤ 1000 := by unfold tog; omega
      exact Nat.lt_of_le_of_lt this (by decide)
    · rw [upd_same, take_snoc hx, tog_snoc, enc_put (once_tog _) x]
  · obtain ⟨u, hd', o1, o2, rfl⟩ := w
    rw [h3.length, List.take_length] at hd'
    refine wb_cons (Ws.of (ps_ret (LiI.pe_listItems rfl we rfl g.list (by decide +kernel))) ?_)
    refine we_var (i := 1) rfl ⟨d, _, rfl, hd', fun H' p ts hk hp ht hn hl hP => ?_⟩
    exact hq _ H' (u.trans (Xt.same hk)) ⟨p, _, rfl, hl, all2_pairs hP⟩
abbrev s_reading : Stmt := top 20
def Nreading : List Str := ["stock", "sizes", "found", "grouping", "times", "row", "other"]
theorem sc_reading : FnScope Nreading ["stock", "sizes"] (defScope s_reading) := ⟨rfl, rfl, rfl, by decide +kernel, rfl, by decide +kernel, by decide +kernel⟩
def row1 (ss : List Nat) (g : Nat) : List (Nat × Nat) := (readable ss g).map fun o => (2 ^ o, ss.getD o 0)
def rows1 (t : Vamvsa.Table) (ss : List Nat) : Rws := (tog (t.asks.map fun a => (a.g, a.k))).map fun p => (p.2, row1 ss p.1)
theorem readable_lt {ss : List Nat} {g o : Nat} (h : o ∈ readable ss g) : o < ss.length := by
  unfold readable at h
  have h2 := (List.mem_filter.mp ((List.mergeSort_perm _ _).mem_iff.mp h)).1
  exact List.mem_range.mp h2
theorem readable_len (ss : List Nat) (g : Nat) : (readable ss g).length ≤ ss.length := by
  unfold readable
  rw [List.length_mergeSort]
  exact Nat.le_trans (List.length_filter_le _ _) (by rw [List.length_range]; exact Nat.le_refl _)
theorem ok_reading {f : Addr} {fd : FuncData} (g : Gf K mg c) (dR : Df P w K mg base CX0 3 "readable" ["sizes", "grouping"] (Sp2 T (RL K RN) RN (RM RN) (fun ss g => ss.length ≤ 16) readable))
    (dT : Df P w K mg base CX0 1 "together" ["questions"] (Sp1 T (RL K (RP K RN RN)) (RM (RP K RN RN)) (fun qs => qs.length ≤ 1000) tog))
    (F : Fun K "reading_rows" "reading_rows" s_reading f fd) (hm : mg "reading_rows" = some (.ref f)) (b : Binds K fd ["stock", "sizes"] []) :
    Df P w K mg base CX0 4 "reading_rows" ["stock", "sizes"] (Sp2 T (RNow K c) (RL K RN) (RRws K) (fun n ss => GoodN n ∧ ss.length ≤ 16) fun n ss => rows1 n.t ss) := by
  refine ok2 F hm b sc_reading fun cdv A outer s H E Q v1 v2 n ss hr ht h1 h2 hg hq => ?_
  refine wb_setN (T := T) (R := RP K RN (RL K (RP K RN RN))) (xs := []) 2 (evn_list es_nil) (fun l G vs u1 hG ra => ?_) sc_reading.nd
  cases ra
  have x1 : Xt T H (upd G l (.lst [])) := u1.trans (Xt.new hG)
  refine wb_forGP 3 4 PassesOwn.never rfl sc_reading.nd (We.hide hG (Ev.now (T := T) (R := RM (RP K RN RN)) (x := tog (n.t.asks.map fun a => (a.g, a.k))) (ev_c1 (S := RM (RP K RN RN)) dT hr (by decide) (u1.tb ht) (ev_fld (S := RTab K c) (R := RL K (RP K RN RN)) (ev_fld (S := RNow K c) (R := RTab K c) (vr 0 (Mono.mono u1 h1)) fun H1 v u r => r.table g) fun H1 v u r => (let ⟨q, e1, e2⟩ := RTab.asks g r; ⟨q, e1, rl_asks e2⟩)) (by rw [List.length_map]; have := hg.1.t.asks; omega)) fun v G2 u2 ⟨p, ps, e, hp, h3⟩ hn => ?_))
  have pl : p ≠ l := ne_of_none hp hn
  refine ⟨p, ps, fun i σ' H' => ∃ G' ws, Xt T G2 G' ∧ G' l = none ∧ H' = upd G' l (.lst ws) ∧ All2 (RP K RN (RL K (RP K RN RN)) G') ws (((tog (n.t.asks.map fun a => (a.g, a.k))).take i).map fun p => (p.2, row1 ss p.1)) ∧ i ≤ 1000 ∧ ∃ o1 o2 o3, σ' = [some v1, some v2, some (.ref l), o1, o2, o3, none], e, ⟨G2, [], Xt.refl _, hn, rfl, .nil, by decide, none, none, none, rfl⟩, fun i σ' H' _ ⟨G', ws, k1, k2, k3, _⟩ => SqL.of (by rw [k3, upd_ne pl]; exact k1.ex _ _ hp nt_lst), fun i v σ' H' hv w => ?_, fun σ' H' w => ?_⟩
  · obtain ⟨G', ws, k1, k2, rfl, k4, ki, o1, o2, o3, rfl⟩ := w
    obtain ⟨x, hx, t, w1, w2, e, sq, r1, r2⟩ := h3.getL hv
    have hi := (List.getElem?_eq_some_iff.mp hx).1
    have tl : (tog (n.t.asks.map fun a => (a.g, a.k))).length ≤ 8 := by
      have h9 := fold_len (n.t.asks.map fun a => (a.g, a.k)) []
      rw [List.length_nil, List.length_map] at h9
      have := hg.1.t.asks
      unfold tog
      omega
    have uG : Xt T H G' := u1.trans (u2.trans k1)
    refine ⟨t, w1, w2, e, (k1.trans (Xt.new k2)).seqT sq, ?_⟩
    refine wb_cons (Ws.hide k2 (ws_setLc (T := T) 5 (lx_lc (T := T) (R := RN) (S := RP K RN RN) (xs := readable ss x.1) (j := 6) (x0 := fun o => (2 ^ o, ss.getD o 0)) rfl sc_reading.nd (Ev.to (R := RM RN) (ev_c2 dR hr (by decide) (uG.tb ht) (vr 1 (Mono.mono uG h2)) (vr 3 (R := RN) r1) hg.2) fun _ _ _ h => h.rl) (by have := readable_len ss x.1; omega) (blkOk_by (N := Nreading) (sc := defScope s_reading) (by decide +kernel))
      (fun _ _ _ _ _ => pg_name sc_reading.nd rfl (Or.inl rfl)) (fun k v3 y G3 hy u3 hv3 => ?_)) rfl sc_reading.nd (fun v G3 u3 hrow hl3 => ?_)))
    · intro s0 H0 C cl fp
      have hy' := readable_lt (List.mem_of_getElem? hy)
      refine ev_pair (Ev.to (R := RI) (x := (1 : Int) * 2 ^ ((y : Int)).toNat) (ev_shl ⟨by omega, by omega, by decide⟩ ev_int (vr 6 (R := RI) hv3)) fun _ _ _ h => ?_) (ev_item (R := RN) (i := y) (l := ss) (vr 1 (Mono.mono (uG.trans u3) h2)) (vr 6 (R := RI) hv3) (get_getD hy'))
      rw [Int.one_mul, Int.toNat_natCast, pow_cast] at h
      exact h
    · refine wb_expr (X := C0 P w K mg base Nreading "reading_rows" s_reading f cdv A outer s H E) (sts := []) ?_
      refine (we_appendH (T := T) (R := RP K RN (RL K (RP K RN RN))) (x := (x.2, row1 ss x.1)) (fun Q H' q => we_var (i := 2) rfl q) hl3 ?_ (by rw [k4.length, List.length_map, List.length_take]; omega) fun v4 G4 u4 hl4 r4 => ?_)
      · refine ev_pair ?_ ?_
        · exact vr 4 (R := RN) r2
        · exact vr 5 hrow.rl
      refine wb_nil ⟨G4, _, k1.trans (u3.trans u4), hl4, rfl, ?_, by omega, _, _, _, rfl⟩
      rw [take_snoc hx, List.map_append]
      exact (k4.mono (u3.trans u4)).append (.cons r4 .nil)
  · obtain ⟨G', ws, k1, k2, rfl, k4, ki, o1, o2, o3, rfl⟩ := w
    rw [h3.length, List.take_length] at k4
    refine wb_ret (T := T) (R := RRws K) (x := rows1 n.t ss) (vr 2 (R := RRws K) ?_) fun v' H3 u3 r => hq v' H3 (u1.trans (u2.trans (k1.trans ((Xt.new k2).trans u3)))) r
    exact ⟨l, ws, rfl, SqL.of upd_same, k4.mono (Xt.new (T := T) k2)⟩
end G5
/-! K9: Best, best_set. -/
namespace G5
open PySem PySem.Spec PyProof.Rows L2
variable {T : List NTab} {P : Program} {w : World} {K : PySem.W.Frag} {mg : Str → Option Value} {base : Heap} {c : Cs}
/-- the j-th statement of a class's body -/
def clsSt (st : Stmt) (j : Nat) : Stmt := match st with
  | .ClassDef _ _ _ body .. => body.getD j (.Pass ⟨0, 0, 0, 0⟩)
  | _ => .Pass ⟨0, 0, 0, 0⟩
/-- an __init__ by its body -/
theorem mk_of {n q : Str} {C f : Addr} {fd : FuncData} {st : Stmt} {N ps : List Str} {k m : Nat} {post : List V → Hp → Hp → List (Str × V) → Prop} (F : Fun K "__init__" q st f fd) (hm : mg n = some (.ref C)) (M : Mk K C f) (b : Binds K fd ps []) (S : FnScope N ps (defScope st)) (hl : ps.length = m + 1)
    (body : ∀ (cdv : Value) (A : Around) (outer : List Env) (s : Shared) (H : Hp) (E : XK) (Q : VK) (x dx : Addr) (G : Hp) (us : List V), us.length = m → Room k (A.deeper (envOfC q (defScope st) s.heap.objs.size f cdv)) → H = updI G x dx C [] → G x = none → G dx = none → dx ≠ x → (∀ G2 fs, post us G G2 fs → G2 x = none → G2 dx = none → Q .non (updI G2 x dx C fs)) →
      Wb (C0 P w K mg base N q st f cdv A outer s H E) (defBody st) { nx := fun _ H' => Q .non H', rt := Q } (start N (.ref x :: us)) (updI G x dx C [])) : Mkd P w K mg base CX0 (k + 1) n C ps (SpI C m post) := by
  refine ⟨f, fd, hm, M, b, F.ok S (fun vs H Q E h => ?_) fun cdv A outer s H vs Q E hr h => ?_⟩
  · obtain ⟨x, dx, G, us, rfl, hus, _⟩ := h
    rw [List.length_cons, hus, hl]
  · obtain ⟨x, dx, G, us, rfl, hus, rfl, h1, h2, h3, hq⟩ := h
    exact ⟨_, wb, body cdv A outer s _ E Q x dx G us hus hr rfl h1 h2 h3 hq⟩
abbrev s_bestinit : Stmt := clsSt (top 4) 0
def postBest (T : List NTab) : List V → Hp → Hp → List (Str × V) → Prop := fun us G G2 fs => Xt T G G2 ∧ ∃ a b d, us = [a, b, d] ∧ fs = [(("paid" : Str), a), (("lines" : Str), b), (("number" : Str), d)]
theorem sc_bestinit : FnScope ["self", "paid", "lines", "number"] ["self", "paid", "lines", "number"] (defScope s_bestinit) := ⟨rfl, rfl, rfl, by decide +kernel, rfl, by decide +kernel, by decide +kernel⟩
theorem mk_best {f : Addr} {fd : FuncData} (g : Gf K mg c) (F : Fun K "__init__" "Best.__init__" s_bestinit f fd) (M : Mk K c.best f) (b : Binds K fd ["self", "paid", "lines", "number"] []) :
    Mkd P w K mg base CX0 1 "Best" c.best ["self", "paid", "lines", "number"] (SpI c.best 3 (postBest T)) := by
  refine mk_of F g.best.at' M b sc_bestinit rfl fun cdv A outer s H E Q x dx G us hl hr hH hx hd ne hq => ?_
  obtain ⟨v1, v2, v3, rfl⟩ : ∃ v1 v2 v3, us = [v1, v2, v3] := by
    match us, hl with
    | [a, b, d], _ => exact ⟨a, b, d, rfl⟩
  refine wb_fldH (T := T) (R := RV) (x := v1) hx hd (fun Q H' q => we_var (i := 0) rfl q) (vr 1 rfl) g.best.cl (g.best.no _ (by decide)) (by decide) fun w1 G1 u1 hx1 hd1 r1 => ?_
  refine wb_fldH (T := T) (R := RV) (x := v2) hx1 hd1 (fun Q H' q => we_var (i := 0) rfl q) (vr 2 rfl) g.best.cl (g.best.no _ (by decide)) (show (1 : Nat) < 1000 by decide) fun w2 G2 u2 hx2 hd2 r2 => ?_
  refine wb_fldH (T := T) (R := RV) (x := v3) hx2 hd2 (fun Q H' q => we_var (i := 0) rfl q) (vr 3 rfl) g.best.cl (g.best.no _ (by decide)) (show (2 : Nat) < 1000 by decide) fun w3 G3 u3 hx3 hd3 r3 => ?_
  cases r1
  cases r2
  cases r3
  exact wb_nil (hq G3 _ ⟨u1.trans (u2.trans u3), v1, v2, v3, rfl, rfl⟩ hx3 hd3)
/-- a best set on the way: paid, lines, number -/
def RBest (c : Cs) : Rp (Nat × Nat × Nat) := fun H v b => ∃ a dx, v = .ref a ∧ H a = some (.ins c.best dx [("paid", .int (b.1 : Int)), ("lines", .int (b.2.1 : Int)), ("number", .int (b.2.2 : Int))])
instance : Mono T (RBest c) := ⟨fun x ⟨a, dx, h1, h2⟩ => ⟨a, dx, h1, x.ex _ _ h2 nt_ins⟩⟩
section
variable {H : Hp} {v : V} {z : Nat × Nat × Nat}
theorem RBest.paid (g : Gf K mg c) (h : RBest c H v z) : ∃ u, Has K "paid" H v u ∧ RN H u z.1 :=
  let ⟨a, dx, h1, h2⟩ := h
  ⟨_, h1 ▸ has_of g.best h2 rfl (by decide), rfl⟩
theorem RBest.lines (g : Gf K mg c) (h : RBest c H v z) : ∃ u, Has K "lines" H v u ∧ RN H u z.2.1 :=
  let ⟨a, dx, h1, h2⟩ := h
  ⟨_, h1 ▸ has_of g.best h2 rfl (by decide), rfl⟩
theorem RBest.number (g : Gf K mg c) (h : RBest c H v z) : ∃ u, Has K "number" H v u ∧ RN H u z.2.2 :=
  let ⟨a, dx, h1, h2⟩ := h
  ⟨_, h1 ▸ has_of g.best h2 rfl (by decide), rfl⟩
end
section
variable {X : Cx} {e1 e2 e3 : Expr} {σ : L2.St} {H : Hp} {pos p : Pos}
theorem ev_mkbest {x y z j : Nat} (M : Mkd X.prog X.w X.K X.mg X.base CX0 1 "Best" c.best ["self", "paid", "lines", "number"] (SpI c.best 3 (postBest T))) (hr : Room j X.A) (hk : 2 ≤ j) (h1 : Ev T X RN e1 σ H x) (h2 : Ev T X RN e2 σ H y) (h3 : Ev T X RN e3 σ H z)
    (hg : Gl X "Best" := by rfl) (he : starEach (e1 :: [e2, e3]) X.env = (false, eval e1 X.env) :: starEach [e2, e3] X.env := by rfl) (he2 : starEach (e2 :: [e3]) X.env = (false, eval e2 X.env) :: starEach [e3] X.env := by rfl) (he3 : starEach (e3 :: []) X.env = (false, eval e3 X.env) :: starEach [] X.env := by rfl) (hpl : (backTo pos (starEach [e2, e3] X.env)).any (·.1) = false := by rfl) :
    Ev T X (RBest c) (.Call (.Name "Best" p) [e1, e2, e3] [] pos) σ H (x, y, z) := fun H1 u1 Q q =>
  we_make M hr hk ((ea_cons h1 (ea_cons h2 (ea_cons h3 ea_nil he3) he2) he) H1 u1 _ fun vs H2 u2 ⟨v, r, k1, k2, u, r', k3, k4, t, r2, k5, k6, k7⟩ => by
    subst k1 k3 k5 k7
    refine ⟨rfl, fun a dx G2 fs ha hd ne ⟨w, a', b', d', e1, e2⟩ ha2 hd2 => ?_⟩
    cases e1
    subst e2
    cases k2
    cases k4
    cases k6
    exact q _ _ (u2.trans (w.trans (xt_I ha2 hd2 ne))) ⟨a, dx, rfl, upd_same⟩) hg (by decide) he hpl
/-- pairs of whole numbers, the lesser one -/
def lessP (a b : Nat × Nat) : Bool := decide (a.1 < b.1) || (a.1 == b.1 && decide (a.2 < b.2))
theorem cmp_ltP {a b : Nat × Nat} (hu : X.A.units < cLine) : Cmp T X .Lt (RP X.K RN RN) (RP X.K RN RN) H a b (lessP a b) := ⟨_, op_ltT hu, fun H1 e1 v u ⟨p, v1, v2, h1, h2, h3, h4⟩ ⟨p', w1, w2, k1, k2, k3, k4⟩ Q q => by
  cases h3
  cases h4
  cases k3
  cases k4
  refine ⟨p, p', [(a.1 : Int), (a.2 : Int)], [(b.1 : Int), (b.2 : Int)], h1, k1, h2, k2, ?_⟩
  have e : HT.lexLt [(a.1 : Int), (a.2 : Int)] [(b.1 : Int), (b.2 : Int)] = lessP a b := by
    rw [HT.lexLt_cons, HT.lexLt_cons, HT.lexLt_nil_nil]
    unfold lessP
    by_cases z : a.1 = b.1
    · rw [if_pos (by rw [z]), z]
      by_cases y : a.2 = b.2
      · rw [if_pos (by rw [y]), y]; simp
      · rw [if_neg (by omega)]; simp
    · rw [if_neg (by omega)]
      have : (a.1 == b.1) = false := by simpa using z
      rw [this, Bool.false_and, Bool.or_false]
      exact decide_eq_decide.mpr ⟨fun h => by omega, fun h => by omega⟩
  rw [e]
  exact q⟩
end
abbrev s_bestset : Stmt := top 22
def Nbestset : List Str := ["stock", "sizes", "lines", "counts", "rows", "many", "found", "number", "for_changes", "paid"]
theorem sc_bestset : FnScope Nbestset ["stock", "sizes"] (defScope s_bestset) := ⟨rfl, rfl, rfl, by decide +kernel, rfl, by decide +kernel, by decide +kernel⟩
/-- one set more looked at -/
def bestStep (n : Vamvsz.Now) (ss : List Nat) (b : Nat × Nat × Nat) (k : Nat) : Nat × Nat × Nat :=
  let fc := 2 * n.m.changes * (bySets (List.replicate ss.length 1)).getD k 0
  let ln := (bySets ss).getD k 0
  if ln ≤ n.m.room ∧ fc ≤ b.1 then
    let pd := fc + setCost (rows1 n.t ss) n.t.rows.length k
    if lessP (pd, ln) (b.1, b.2.1) = true then (pd, ln, k) else b
  else b
def bestN (n : Vamvsz.Now) (ss : List Nat) : Nat → Nat × Nat × Nat
  | 0 => (setCost (rows1 n.t ss) n.t.rows.length 0, 0, 0)
  | i + 1 => bestStep n ss (bestN n ss i) (i + 1)
theorem rows_times (n : Vamvsz.Now) (ss : List Nat) (hg : Good n.t) : ∀ r ∈ rows1 n.t ss, r.1 ≤ 1000000 := by
  have key : ∀ (qs l : List (Nat × Nat)) (m : Nat), (∀ q ∈ qs, q.2 ≤ 99) → (∀ q ∈ l, q.2 ≤ m) → ∀ q ∈ qs.foldl putT l, q.2 ≤ m + 99 * qs.length := by
    intro qs
    induction qs with
    | nil => intro l m _ h q hq; have := h q hq; simpa using this
    | cons p r ih =>
      intro l m h1 h2 q hq
      have h3 := ih (putT l p) (m + 99) (fun q hq => h1 q (List.mem_cons_of_mem _ hq)) (fun q hq => ?_) q hq
      · rw [List.length_cons]; omega
      · have hp := h1 p (List.mem_cons_self ..)
        unfold putT at hq
        by_cases e : (l.any fun q => decide (q.1 = p.1)) = true
        · rw [if_pos e] at hq
          obtain ⟨z, hz, rfl⟩ := List.mem_map.mp hq
          have := h2 z hz
          by_cases y : z.1 = p.1
          · rw [if_pos y]; show z.2 + p.2 ≤ _; omega
          · rw [if_neg y]; omega
        · rw [if_neg e] at hq
          rcases List.mem_append.mp hq with z | z
          · have := h2 q z; omega
          · rw [List.mem_singleton.mp z]; omega
  intro r hr
  unfold rows1 at hr
  obtain ⟨p, hp, rfl⟩ := List.mem_map.mp hr
  have := key _ [] 0 (fun q hq => by
    obtain ⟨a, ha, rfl⟩ := List.mem_map.mp hq
    exact (hg.asked a ha).2.2) (fun q hq => by cases hq) p hp
  rw [List.length_map] at this
  have := hg.asks
  show p.2 ≤ _
  omega
theorem ok_bestset {f : Addr} {fd : FuncData} (g : Gf K mg c) (dL : Df P w K mg base CX0 1 "lines_by_sets" ["sizes"] (Sp1 T (RL K RN) (RM RN) (fun ss => ss.length ≤ 16) bySets))
    (dC : Df P w K mg base CX0 2 "counts_by_sets" ["sizes"] (Sp1 T (RL K RN) (RM RN) (fun ss => ss.length ≤ 16) fun ss => bySets (List.replicate ss.length 1)))
    (dR : Df P w K mg base CX0 4 "reading_rows" ["stock", "sizes"] (Sp2 T (RNow K c) (RL K RN) (RRws K) (fun n ss => GoodN n ∧ ss.length ≤ 16) fun n ss => rows1 n.t ss))
    (dS : Df P w K mg base CX0 1 "set_costs" ["rows", "many", "number"] (Sp3 T (RRws K) RN RN RN (fun rows _ _ => ∀ r ∈ rows, r.1 ≤ 1000000) setCost))
    (M : Mkd P w K mg base CX0 1 "Best" c.best ["self", "paid", "lines", "number"] (SpI c.best 3 (postBest T)))
    (F : Fun K "best_set" "best_set" s_bestset f fd) (hm : mg "best_set" = some (.ref f)) (b : Binds K fd ["stock", "sizes"] []) :
    Df P w K mg base CX0 5 "best_set" ["stock", "sizes"] (Sp2 T (RNow K c) (RL K RN) (RBest c) (fun n ss => GoodN n ∧ ss.length ≤ 16) fun n ss => bestN n ss (2 ^ ss.length - 1)) := by
  refine ok2 F hm b sc_bestset fun cdv A outer s H E Q v1 v2 n ss hr ht h1 h2 hg hq => ?_
  have hlen := bySets_len ss
  have hlen2 : (bySets (List.replicate ss.length 1)).length = 2 ^ ss.length := by rw [bySets_len, List.length_replicate]
  have hp16 := pow16 hg.2
  have hpos := Nat.two_pow_pos ss.length
  have hrt := rows_times n ss hg.1.t
  have hch := hg.1.changes
  refine wb_set (T := T) (R := RM RN) (x := bySets ss) 2 (ev_c1 dL hr (by decide) ht (vr 1 h2) hg.2) (fun vl H1 u1 rl => ?_) sc_bestset.nd
  refine wb_set (T := T) (R := RM RN) (x := bySets (List.replicate ss.length 1)) 3 (ev_c1 dC hr (by decide) (u1.tb ht) (vr 1 (Mono.mono u1 h2)) hg.2) (fun vc H2 u2 rc => ?_) sc_bestset.nd
  have u12 := u1.trans u2
  refine wb_set (T := T) (R := RRws K) (x := rows1 n.t ss) 4 (ev_c2 dR hr (by decide) (u12.tb ht) (vr 0 (Mono.mono u12 h1)) (vr 1 (Mono.mono u12 h2)) hg) (fun vw H3 u3 rw' => ?_) sc_bestset.nd
  have u13 := u12.trans u3
  refine wb_set (T := T) (R := RN) (x := n.t.rows.length) 5 (Ev.to (R := RI) (ev_len g.len (ev_fld (S := RTab K c) (R := RL K (RRow K)) (ev_fld (S := RNow K c) (R := RTab K c) (vr 0 (Mono.mono u13 h1)) fun H1 v u r => r.table g) fun H1 v u r => r.lines g)) fun _ _ _ h => h) (fun vm H4 u4 rm => ?_) sc_bestset.nd
  have u14 := u13.trans u4
  refine wb_set (T := T) (R := RBest c) (x := bestN n ss 0) 6 (ev_mkbest M hr (by decide) (ev_c3 dS hr (by decide) (u14.tb ht) (vr 4 (Mono.mono u4 rw')) (vr 5 (R := RN) rm) (Ev.to (R := RI) ev_int fun _ _ _ h => h) hrt) (Ev.to (R := RI) (x := 0) ev_int fun _ _ _ h => h) (Ev.to (R := RI) (x := 0) ev_int fun _ _ _ h => h)) (fun vf H5 u5 rf => ?_) sc_bestset.nd
  have u15 := u14.trans u5
  refine wb_forR2 (T := T) (lo := 1) (hi := ((2 ^ ss.length : Nat) : Int)) 7 PassesOwn.never rfl sc_bestset.nd g.range ev_int (Ev.is (ev_len (R := RN) (xs := bySets ss) g.len (vr 2 (Mono.mono (u2.trans (u3.trans (u4.trans u5))) rl).rl)) (by rw [hlen])) ⟨by omega, by omega, by omega, by omega⟩
    (fun i σ' H' => Xt T H5 H' ∧ ∃ vf o1 o2 o3, σ' = [some v1, some v2, some vl, some vc, some vw, some vm, some vf, o1, o2, o3] ∧ RBest c H' vf (bestN n ss i)) (fun H6 u => ⟨u, vf, none, none, none, rfl, Mono.mono u rf⟩) (fun i σ' H' hi w => ?_) fun σ' H' w => ?_
  · obtain ⟨u, vf, o1, o2, o3, rfl, rf⟩ := w
    have hi' : i + 1 < 2 ^ ss.length := by omega
    have ek : (1 : Int) + (i : Int) = ((i + 1 : Nat) : Int) := by omega
    rw [ek]
    have uu := u15.trans u
    have rl' : RM RN H' vl (bySets ss) := Mono.mono (u2.trans (u3.trans (u4.trans (u5.trans u)))) rl
    have rc' : RM RN H' vc (bySets (List.replicate ss.length 1)) := Mono.mono (u3.trans (u4.trans (u5.trans u))) rc
    have rw2 : RRws K H' vw (rows1 n.t ss) := Mono.mono (u4.trans (u5.trans u)) rw'
    refine wb_set (T := T) (R := RN) (x := 2 * n.m.changes * (bySets (List.replicate ss.length 1)).getD (i + 1) 0) 8 (Ev.to (R := RI) (ev_mul (i := 2 * (n.m.changes : Int)) (j := ((bySets (List.replicate ss.length 1)).getD (i + 1) 0 : Int)) (.inl ⟨by omega, by omega⟩) (ev_mul (.inl ⟨by decide, by decide⟩) (ev_gi g.gFOR) (ev_fld (S := RNow K c) (R := RN) (vr 0 (Mono.mono uu h1)) fun H1 v u r => r.changes g)) (ev_item (R := RN) (i := i + 1) (vr 3 rc'.rl) (vr 7 (R := RI) rfl) (get_getD (by rw [hlen2]; exact hi')))) fun _ _ _ h => ?_) (fun vx H7 u7 rx => ?_) sc_bestset.nd
    · show _ = V.int _
      rw [Int.natCast_mul, Int.natCast_mul]
      exact h
    have skip : ∀ (D : Ends) (o1 o2 o3 : Option V) (H8 : Hp), bestN n ss (i + 1) = bestN n ss i → (∀ σ2 H2, (Xt T H5 H2 ∧ ∃ vf o1 o2 o3, σ2 = [some v1, some v2, some vl, some vc, some vw, some vm, some vf, o1, o2, o3] ∧ RBest c H2 vf (bestN n ss (i + 1))) → D.nx σ2 H2) → Xt T H' H8 → D.nx [some v1, some v2, some vl, some vc, some vw, some vm, some vf, o1, o2, o3] H8 := fun D o1 o2 o3 H8 e hD u8 => hD _ _ ⟨u.trans u8, vf, o1, o2, o3, rfl, by rw [e]; exact Mono.mono u8 rf⟩
    refine wb_if (T := T) (k := decide ((bySets ss).getD (i + 1) 0 ≤ n.m.room) && decide (2 * n.m.changes * (bySets (List.replicate ss.length 1)).getD (i + 1) 0 ≤ (bestN n ss i).1)) (et_and (EvT.is (et_cmp (x := ((bySets ss).getD (i + 1) 0 : Int)) (y := (n.m.room : Int)) cmp_le (ev_item (R := RN) (i := i + 1) (vr 2 (Mono.mono u7 rl').rl) (vr 7 (R := RI) rfl) (get_getD (by rw [hlen]; exact hi'))) (ev_fld (S := RNow K c) (R := RN) (vr 0 (Mono.mono (uu.trans u7) h1)) fun H1 v u r => r.room g)) (decide_eq_decide.mpr ⟨fun h => by omega, fun h => by omega⟩))
      (fun _ => EvT.is (et_cmp (y := ((bestN n ss i).1 : Int)) cmp_le (vr 8 (R := RI) rx) (ev_fld (S := RBest c) (R := RN) (vr 6 (Mono.mono u7 rf)) fun H1 v u r => r.paid g)) (decide_eq_decide.mpr ⟨fun h => by omega, fun h => by omega⟩))) (fun kk H8 u8 => ?_) fun kk H8 u8 => wb_nil (wb_nil (skip _ _ _ _ _ ?_ (fun _ _ h => h) (u7.trans u8)))
    · rw [Bool.and_eq_true] at kk
      have k1 := of_decide_eq_true kk.1
      have k2 := of_decide_eq_true kk.2
      have u78 := u7.trans u8
      refine wb_set (T := T) (R := RN) (x := 2 * n.m.changes * (bySets (List.replicate ss.length 1)).getD (i + 1) 0 + setCost (rows1 n.t ss) n.t.rows.length (i + 1)) 9 (Ev.to (R := RI) (ev_add (vr 8 (R := RI) rx) (ev_c3 (S := RN) (z := setCost (rows1 n.t ss) n.t.rows.length (i + 1)) dS hr (by decide) ((uu.trans u78).tb ht) (vr 4 (Mono.mono u78 rw2)) (vr 5 (R := RN) rm) (vr 7 (R := RN) rfl) hrt)) fun _ _ _ h => ?_) (fun vp H9 u9 rp => ?_) sc_bestset.nd
      · show _ = V.int _
        rw [Int.natCast_add]
        exact h
      have u79 := u78.trans u9
      refine wb_if (T := T) (k := lessP (2 * n.m.changes * (bySets (List.replicate ss.length 1)).getD (i + 1) 0 + setCost (rows1 n.t ss) n.t.rows.length (i + 1), (bySets ss).getD (i + 1) 0) ((bestN n ss i).1, (bestN n ss i).2.1)) (et_cmp (cmp_ltP (Nat.lt_of_le_of_lt (Nat.le_add_right _ _) (Nat.lt_of_le_of_lt (Nat.le_add_right _ _) hr.un))) (ev_pair (vr 9 (R := RN) rp) (ev_item (R := RN) (i := i + 1) (vr 2 (Mono.mono u79 rl').rl) (vr 7 (R := RI) rfl) (get_getD (by rw [hlen]; exact hi')))) (ev_pair (ev_fld (S := RBest c) (R := RN) (vr 6 (Mono.mono u79 rf)) fun H1 v u r => r.paid g) (ev_fld (S := RBest c) (R := RN) (vr 6 (Mono.mono u79 rf)) fun H1 v u r => r.lines g))) (fun kk H10 u10 => ?_) fun kk H10 u10 => wb_nil (wb_nil (wb_nil (skip _ _ _ _ _ ?_ (fun _ _ h => h) (u79.trans u10))))
      · refine wb_set (T := T) (R := RBest c) (x := bestN n ss (i + 1)) 6 (Ev.is (ev_mkbest M hr (by decide) (vr 9 (R := RN) rp) (ev_item (R := RN) (i := i + 1) (vr 2 (Mono.mono (u79.trans u10) rl').rl) (vr 7 (R := RI) rfl) (get_getD (by rw [hlen]; exact hi'))) (vr 7 (R := RN) rfl)) ?_) (fun vz H11 u11 rz => ?_) sc_bestset.nd
        · show _ = bestStep n ss (bestN n ss i) (i + 1)
          unfold bestStep
          rw [if_pos ⟨k1, k2⟩, if_pos kk]
        · exact wb_nil (wb_nil (wb_nil ⟨u.trans (u79.trans (u10.trans u11)), vz, _, _, _, rfl, rz⟩))
      · show bestStep n ss (bestN n ss i) (i + 1) = _
        unfold bestStep
        rw [if_pos ⟨k1, k2⟩, if_neg (by rw [kk]; decide)]
    · show bestStep n ss (bestN n ss i) (i + 1) = _
      unfold bestStep
      rw [if_neg]
      rintro ⟨k1, k2⟩
      rw [decide_eq_true k1, decide_eq_true k2] at kk
      cases kk
  · obtain ⟨u, vf, o1, o2, o3, rfl, rf⟩ := w
    have e : (((2 ^ ss.length : Nat) : Int) - 1).toNat = 2 ^ ss.length - 1 := by omega
    rw [e] at rf
    exact wb_ret (T := T) (R := RBest c) (x := bestN n ss (2 ^ ss.length - 1)) (vr 6 rf) fun v' H3 u3 r => hq v' H3 (u15.trans (u.trans u3)) r
end G5
/-! Fw12: lists compared, `in` and index of lists of bytes; texts walked. -/
namespace G5
open PySem PySem.Spec PyProof.Rows L2
variable {T : List NTab}
/-- bytes, lists of bytes as data -/
def dB (b : List UInt8) : PyData := .list (b.map fun c => .int (c.toNat : Int))
def dBs (bs : List (List UInt8)) : PyData := .list (bs.map dB)
theorem dInts_lay : ∀ zs : List Int, PyData.canLayAll0 (zs.map PyData.int) = true
  | [] => by simp [PyData.canLayAll0]
  | z :: zs => by simp [PyData.canLayAll0, PyData.canLay0, dInts_lay zs]
theorem dInts_depth : ∀ zs : List Int, PyData.depthAll (zs.map PyData.int) = 0
  | [] => by simp [PyData.depthAll]
  | z :: zs => by simp [PyData.depthAll, PyData.depth, dInts_depth zs]
theorem dB_ints (b : List UInt8) : dB b = .list ((b.map fun c => (c.toNat : Int)).map PyData.int) := by unfold dB; rw [List.map_map]; rfl
theorem dB_lay (b : List UInt8) : (dB b).canLay0 = true := by rw [dB_ints]; simp only [PyData.canLay0]; exact dInts_lay _
theorem dB_depth (b : List UInt8) : (dB b).depth ≤ 1 := by rw [dB_ints]; simp only [PyData.depth]; rw [dInts_depth]; omega
theorem dB_shaped (b : List UInt8) : SeqAt.shaped (dB b) = true := by
  have h := dB_depth b
  show ((dB b).canLay0 && decide ((dB b).depth ≤ 64)) = true
  rw [Bool.and_eq_true]
  exact ⟨dB_lay b, decide_eq_true (by omega)⟩
theorem dInts_shaped (zs : List Int) : SeqAt.shaped (.list (zs.map PyData.int)) = true := by
  show ((PyData.list (zs.map PyData.int)).canLay0 && decide ((PyData.list (zs.map PyData.int)).depth ≤ 64)) = true
  rw [Bool.and_eq_true]
  refine ⟨by simp only [PyData.canLay0]; exact dInts_lay _, decide_eq_true ?_⟩
  simp only [PyData.depth]
  rw [dInts_depth]
  decide
theorem dBs_lay : ∀ bs : List (List UInt8), PyData.canLayAll0 (bs.map dB) = true
  | [] => by simp [PyData.canLayAll0]
  | b :: bs => by simp [PyData.canLayAll0, dB_lay b, dBs_lay bs]
theorem dBs_depth : ∀ bs : List (List UInt8), PyData.depthAll (bs.map dB) ≤ 1
  | [] => by simp [PyData.depthAll]
  | b :: bs => by
    have h1 := dBs_depth bs
    have h2 := dB_depth b
    simp only [List.map_cons, PyData.depthAll]
    omega
theorem dBs_shaped (bs : List (List UInt8)) : SeqAt.shaped (dBs bs) = true := by
  have h := dBs_depth bs
  show ((dBs bs).canLay0 && decide ((dBs bs).depth ≤ 64)) = true
  unfold dBs
  rw [Bool.and_eq_true]
  refine ⟨by simp only [PyData.canLay0]; exact dBs_lay _, decide_eq_true ?_⟩
  simp only [PyData.depth]
  omega
theorem eqvInts : ∀ xs ys : List Int, PyData.eqvAll (xs.map PyData.int) (ys.map PyData.int) = decide (xs = ys)
  | [], [] => by simp [PyData.eqvAll]
  | [], _ :: _ => by simp [PyData.eqvAll]
  | _ :: _, [] => by simp [PyData.eqvAll]
  | x :: xs, y :: ys => by
    simp only [List.map_cons, PyData.eqvAll, PyData.eqv]
    rw [eqvInts xs ys]
    by_cases h : x = y
    · subst h; simp
    · have : (x == y) = false := by simpa using h
      rw [this, Bool.false_and, decide_eq_false (fun z => h (List.cons.inj z).1)]
theorem eqv_ints (xs ys : List Int) : PyData.eqv (.list (xs.map PyData.int)) (.list (ys.map PyData.int)) = decide (xs = ys) := by
  simp only [PyData.eqv]
  exact eqvInts xs ys
theorem bytes_ints : ∀ {a b : List UInt8}, (a.map fun c => (c.toNat : Int)) = (b.map fun c => (c.toNat : Int)) ↔ a = b
  | [], [] => by simp
  | [], _ :: _ => by simp
  | _ :: _, [] => by simp
  | x :: xs, y :: ys => by
    rw [List.map_cons, List.map_cons]
    constructor
    · intro h
      obtain ⟨h1, h2⟩ := List.cons.inj h
      rw [bytes_ints.mp h2, UInt8.toNat_inj.mp (by omega : x.toNat = y.toNat)]
    · intro h
      obtain ⟨h1, h2⟩ := List.cons.inj h
      rw [h1, h2]
theorem eqv_dB (a b : List UInt8) : PyData.eqv (dB a) (dB b) = decide (a = b) := by
  rw [dB_ints, dB_ints, eqv_ints]
  exact decide_eq_decide.mpr bytes_ints
section
variable {K : PySem.W.Frag} {H : Hp}
theorem dp_ints : ∀ {vs : List V} {xs : List Int}, All2 (RI H) vs xs → DpAll K H vs (xs.map PyData.int)
  | _, _, .nil => .nil
  | _, _, .cons h t => .cons (by rw [show _ = V.int _ from h]; exact .int _) (dp_ints t)
theorem dp_bytes : ∀ {vs : List V} {xs : List UInt8}, All2 (RU H) vs xs → DpAll K H vs (xs.map fun c => .int (c.toNat : Int))
  | _, _, .nil => .nil
  | _, _, .cons h t => .cons (by rw [show _ = V.int _ from h]; exact .int _) (dp_bytes t)
theorem dp_B {v : V} {b : List UInt8} (h : RL K RU H v b) : Dp K H v (dB b) := by
  obtain ⟨a, vs, rfl, h1, h2⟩ := h
  exact .lst h1 (dp_bytes h2)
theorem dp_I {v : V} {b : List Int} (h : RL K RI H v b) : Dp K H v (.list (b.map PyData.int)) := by
  obtain ⟨a, vs, rfl, h1, h2⟩ := h
  exact .lst h1 (dp_ints h2)
theorem dp_BsA : ∀ {vs : List V} {bs : List (List UInt8)}, All2 (RM RU H) vs bs → DpAll K H vs (bs.map dB)
  | _, _, .nil => .nil
  | _, _, .cons h t => .cons (dp_B h.rl) (dp_BsA t)
theorem dp_Bs {v : V} {bs : List (List UInt8)} (h : RL K (RM RU) H v bs) : Dp K H v (dBs bs) := by
  obtain ⟨a, vs, rfl, h1, h2⟩ := h
  exact .lst h1 (dp_BsA h2)
end
section
variable {X : Cx} {e a b c : Expr} {es : List Expr} {σ : L2.St} {H : Hp} {α β : Type} {R : Rp α} {S : Rp β} {x : α} {y : β} {pos p : Pos} {n : Str}
theorem cmp_eqB {x y : List UInt8} (hu : X.A.units + 64 < cLine) : Cmp T X .Eq (RL X.K RU) (RL X.K RU) H x y (decide (x = y)) := ⟨_, op_eqD hu, fun H1 e1 v u r r' Q q => ⟨dB x, dB y, dp_B r, dp_B r', dB_shaped x, dB_shaped y, by rw [eqv_dB]; exact q⟩⟩
theorem cmp_eqI {x y : List Int} (hu : X.A.units + 64 < cLine) : Cmp T X .Eq (RL X.K RI) (RL X.K RI) H x y (decide (x = y)) := ⟨_, op_eqD hu, fun H1 e1 v u r r' Q q => ⟨_, _, dp_I r, dp_I r', dInts_shaped x, dInts_shaped y, by rw [eqv_ints]; exact q⟩⟩
theorem eqv_nil (bs : List (List UInt8)) : PyData.eqv (dBs bs) (dBs []) = decide (bs = []) := by
  cases bs with
  | nil => simp [dBs, PyData.eqv, PyData.eqvAll]
  | cons b r => simp [dBs, PyData.eqv, PyData.eqvAll]
theorem cmp_eqBs0 {x : List (List UInt8)} (hu : X.A.units + 64 < cLine) : Cmp T X .Eq (RL X.K (RM RU)) (RL X.K (RM RU)) H x [] (decide (x = [])) := ⟨_, op_eqD hu, fun H1 e1 v u r r' Q q => ⟨dBs x, dBs [], dp_Bs r, dp_Bs r', dBs_shaped x, dBs_shaped [], by rw [eqv_nil]; exact q⟩⟩
theorem cmp_neBs0 {x : List (List UInt8)} (hu : X.A.units + 64 < cLine) : Cmp T X .NotEq (RL X.K (RM RU)) (RL X.K (RM RU)) H x [] (!decide (x = [])) := ⟨_, op_neD hu, fun H1 e1 v u r r' Q q => ⟨dBs x, dBs [], dp_Bs r, dp_Bs r', dBs_shaped x, dBs_shaped [], by rw [eqv_nil]; exact q⟩⟩
theorem any_dB (x : List UInt8) : ∀ bs : List (List UInt8), (bs.map dB).any (fun z => PyData.eqv z (dB x)) = bs.contains x
  | [] => rfl
  | b :: r => by
    rw [List.map_cons, List.any_cons, any_dB x r, eqv_dB, List.contains_cons]
    congr 1
    rw [Bool.beq_eq_decide_eq]
    exact decide_eq_decide.mpr ⟨Eq.symm, Eq.symm⟩
theorem cmp_inBs {x : List UInt8} {bs : List (List UInt8)} (hu : X.A.units + 65 < cLine) : Cmp T X .In (RL X.K RU) (RL X.K (RM RU)) H x bs (bs.contains x) := ⟨_, op_inD hu, fun H1 e1 v u r r' Q q => ⟨dB x, _, dp_B r, dp_Bs r', dB_shaped x, dBs_shaped bs, by rw [any_dB]; exact q⟩⟩
theorem cmp_notInBs {x : List UInt8} {bs : List (List UInt8)} (hu : X.A.units + 65 < cLine) : Cmp T X .NotIn (RL X.K RU) (RL X.K (RM RU)) H x bs (!bs.contains x) := ⟨_, op_notInD hu, fun H1 e1 v u r r' Q q => ⟨dB x, _, dp_B r, dp_Bs r', dB_shaped x, dBs_shaped bs, by rw [any_dB]; exact q⟩⟩
/-- xs.index(x), x there -/
theorem ev_indexB {bs : List (List UInt8)} {x : List UInt8} {j : Nat} {o : Expr} {apos : Pos} (hu : X.A.units + 65 < cLine) (ho : Ev T X (RL X.K (RM RU)) o σ H bs) (ha : Ev T X (RL X.K RU) a σ H x) (hj : bs.findIdx? (fun c => c == x) = some j)
    (hbase : attributeBase o "index" X.env (eval o X.env) = eval o X.env := by rfl)
    (hfew : ((backTo pos (starEach (a :: []) X.env)).all (fun x => !x.1) && (backToKw pos (keywordEach [] X.env)).all (fun x => x.1.isSome) && decide ((a :: []).length + ([] : List Keyword).length + (if ([] : List Keyword).isEmpty then 0 else 1) < 30)) = true := by rfl)
    (hline : (apos.endLine == pos.line) = true := by rfl) (hs : starEach (a :: []) X.env = (false, eval a X.env) :: starEach [] X.env := by rfl) (hpl : (backTo pos (starEach [] X.env)).any (·.1) = false := by rfl) : Ev T X RN (.Call (.Attribute o "index" apos) [a] [] pos) σ H j := by
  intro H1 e1 Q q
  refine We.of (pe_bm PySem.F.plainAttrs_list PySem.F.slot_list_index PySem.F.type_list_index (mt_indexD hu) we (pa_cons we pa_nil hs) hbase hfew hline hs hpl) ?_
  refine ho H1 e1 _ fun v H2 u2 ⟨l, vs, hv, hl, hr⟩ => ?_
  subst hv
  refine ⟨.inl ⟨rfl, _, hl⟩, ha H2 (e1.trans u2) _ fun w H3 u3 r => ?_⟩
  have hr3 : RL X.K (RM RU) H3 (.ref l) bs := ⟨l, vs, rfl, u3.seqL hl, hr.mono u3⟩
  obtain ⟨h1, h2⟩ := List.findIdx?_eq_some_iff_getElem.mp hj |> fun z => z
  refine ⟨l, w, dB x, bs.map dB, j, dB bs[j], rfl, rfl, dp_Bs hr3, dp_B r, dBs_shaped bs, dB_shaped x, by rw [List.getElem?_map, List.getElem?_eq_getElem h1]; rfl, ?_, fun m z' hm hz => ?_, q _ H3 (u2.trans u3) rfl⟩
  · rw [eqv_dB]
    exact decide_eq_true (by simpa using h2.1)
  · have hmb : m < bs.length := by omega
    rw [List.getElem?_map, List.getElem?_eq_getElem hmb] at hz
    cases hz
    rw [eqv_dB]
    exact decide_eq_false (by simpa using h2.2 m hm)
end
/-! ### texts walked -/
section
variable {X : Cx} {σ : L2.St} {H : Hp} {β : Type} {S : Rp β} [Mono T S] {scope : Scope} {elt it : Expr} {n : Str} {p p1 pos : Pos} {j : Nat} {x : Str}
def sign1 (c : Nat) : Str := ⟨#[c]⟩
/-- [elt for n in text] -/
theorem lx_lcS {g1 : Nat → β} (hc : X.calm = true) (hN : X.N.Nodup) (hit : Ev T X RS it σ H x) (hz : x.cps.size ≤ 1000000) (ok : BlkOk X.N X.env.scope scope [(n, j)])
    (hg : ∀ (s : Shared) (H : Hp) (C : Addr) (cl : List (Str × Addr)) (fp : List Addr), PG (X.blk s H scope (compEnvC scope cl C X.env) fp) (.Name n p) (gName j))
    (he : ∀ (i : Nat) c G, x.cps.toList[i]? = some c → Xt T H G → BEv T X scope S elt ((wipe σ [j]).set j (some (.str (sign1 c)))) G (g1 c)) (hw : ∀ v, wipe ((wipe σ [j]).set j (some v)) [j] = wipe σ [j] := by intros; rfl) (hs : ∀ x, foldedSetIterable it X.env x = pure x := by intro _; rfl) :
    LcEv T X S (.ListComp elt [⟨.Name n p, it, [], 0⟩] scope pos) σ H (x.cps.toList.map g1) := fun H1 e1 Q q =>
  lx (own := [(n, j)]) (pi_str we) ok hg (fun _ _ _ _ _ => pts_nil) be_pe hs (hit H1 e1 _ fun v0 H2 e2 h1 => ⟨x, h1, fun D hD =>
    lc_it (walk_str (z := x)) (LcP T S H2 D x.cps.toList (fun _ => true) g1) (LcP.zero hD) (fun _ _ _ _ => trivial) (fun i v H' H'' hi w ⟨eH, c, hcx, hv⟩ => by
      subst eH hv
      have hx : x.cps.toList[i]? = some c := by simpa using hcx
      exact ⟨hw _, lc_turn (tt := tYes) hx (by simpa using hz) w (fun G us Q e3 hG k => k G (Xt.refl _) hG) fun G e3 _ => he i c G hx ((e1.trans e2).trans e3)⟩) fun H' w => by
      have e9 : x.cps.size = x.cps.toList.length := by simp
      rw [e9] at w
      have z := w.fin
      rw [List.filter_eq_self.mpr (fun _ _ => rfl)] at z
      exact q _ H' (e2.trans z.1) z.2⟩)
end
section
variable {X : Cx} {σ : L2.St} {H : Hp} {it : Expr} {n : Str} {p p1 pos : Pos} {x : Str} {sts bs : List Stmt} {D : Ends} {α : Type} {R : Rp α}
/-- for n in text -/
theorem wb_forS (j : Nat) (hp : PO X) (hc : X.calm = true) (hN : X.N.Nodup) (hit : Ev T X RS it σ H x) (W : Nat → L2.St → Hp → Prop) (h0 : ∀ H1, Xt T H H1 → W 0 σ H1)
    (turn : ∀ i c σ' H', x.cps.toList[i]? = some c → W i σ' H' → Wb X bs { D with nx := W (i + 1), ct := W (i + 1), bk := fun σ' H' => Wb X sts D σ' H' } (σ'.set j (some (.str (sign1 c)))) H') (done : ∀ σ' H', W x.cps.toList.length σ' H' → Wb X sts D σ' H')
    (hi : X.N[j]? = some n := by rfl) (hx : Loc X.env.scope n := by first | exact .inl rfl | exact .inr rfl) (hf : X.fn n = true ∨ X.env.scope.names.lookup n = some .local := by exact .inl rfl) (hs : ∀ x, foldedSetIterable it X.env x = pure x := by intro _; rfl) :
    Wb X (.For (.Name n p) it bs [] pos :: sts) D σ H :=
  wb_cons (Ws.of (ps_for hp hc (pi_str we) (pg_name hN hi hx hf) wb hs) (hit.now fun v H1 u h1 => ⟨x, h1, for_it (walk_str (z := x)) W (h0 H1 u) (fun _ _ _ _ _ => trivial) (fun i v σ' H' H'' hi w ⟨eH, c, hcx, hv⟩ => by
    subst eH hv
    exact turn i c σ' H'' (by simpa using hcx) w) fun σ' H' w => done σ' H' (show W x.cps.toList.length σ' H' from (Array.length_toList (xs := x.cps)).symm ▸ w)⟩))
/-- for n in a tuple -/
theorem wb_forT {xs : List α} (j : Nat) (hp : PO X) (hc : X.calm = true) (hN : X.N.Nodup) [Mono T R] (hit : Ev T X (RTs X.K R) it σ H xs) (W : Nat → L2.St → Hp → Prop) (h0 : ∀ H1, Xt T H H1 → W 0 σ H1)
    (turn : ∀ i x v σ' H', Xt T H H' → xs[i]? = some x → R H' v x → W i σ' H' → Wb X bs { D with nx := fun σ2 H2 => Xt T H' H2 ∧ W (i + 1) σ2 H2, ct := fun σ2 H2 => Xt T H' H2 ∧ W (i + 1) σ2 H2, bk := fun σ' H' => Wb X sts D σ' H' } (σ'.set j (some v)) H') (done : ∀ σ' H', Xt T H H' → W xs.length σ' H' → Wb X sts D σ' H')
    (hi : X.N[j]? = some n := by rfl) (hx : Loc X.env.scope n := by first | exact .inl rfl | exact .inr rfl) (hf : X.fn n = true ∨ X.env.scope.names.lookup n = some .local := by exact .inl rfl) (hs : ∀ x, foldedSetIterable it X.env x = pure x := by intro _; rfl) :
    Wb X (.For (.Name n p) it bs [] pos :: sts) D σ H :=
  wb_cons (Ws.of (ps_for hp hc (pi_tup we) (pg_name hN hi hx hf) wb hs) (hit.now fun v H1 u ⟨l, vs, h1, h2, h3⟩ => ⟨l, h1, ⟨vs, h2⟩, for_tup (fun i σ' H' => Xt T H1 H' ∧ W i σ' H') ⟨Xt.refl _, h0 H1 u⟩ (fun i σ' H' _ w => w.1.seqT h2) (fun i v σ' H' hv w => by
    obtain ⟨x, hx', rx⟩ := h3.getL hv
    have z := turn i x v σ' H' (u.trans w.1) hx' (Mono.mono w.1 rx) w.2
    intro pins s I
    refine thn (z pins s I) fun r s1 q => ?_
    cases r with
    | next => obtain ⟨σ2, H2, I2, u2, w2⟩ := q; exact ⟨σ2, H2, I2, w.1.trans u2, w2⟩
    | brk => exact q
    | cont => obtain ⟨σ2, H2, I2, u2, w2⟩ := q; exact ⟨σ2, H2, I2, w.1.trans u2, w2⟩
    | ret _ => exact q) fun σ' H' w => done σ' H' (u.trans w.1) (h3.length ▸ w.2)⟩))
theorem ev_ord {c : Nat} (hm : X.mg "ord" = none) (hv : bootBuiltins "ord" = some (.builtin "ord")) {a : Expr} (ha : Ev T X RS a σ H (sign1 c)) (hg : Gl X "ord" := by rfl) (he : starEach (a :: []) X.env = (false, eval a X.env) :: starEach [] X.env := by rfl) (hpl : (backTo pos (starEach [] X.env)).any (·.1) = false := by rfl) :
    Ev T X RI (.Call (.Name "ord" p) [a] [] pos) σ H (c : Int) := ev_b1 call_ord hm hv ha (fun H1 v e r Q q => ⟨sign1 c, by rw [show v = V.str (sign1 c) from r], rfl, q _ H1 (Xt.refl _) rfl⟩) hg (by decide) (by decide) he hpl
end
end G5
/-! Fw13: defs that raise: their promises, calls of them, exceptions of our own made and raised. -/
namespace G5
open PySem PySem.Spec PyProof.Rows L2
variable {T : List NTab}
section
variable {P : Program} {w : World} {K : PySem.W.Frag} {mg : Str → Option Value} {base : Heap} {k : Nat} {n q : Str} {st : Stmt} {f : Addr} {fd : FuncData} {N ps : List Str} {cdv : Value} {A : Around} {outer : List Env} {s : Shared} {H : Hp} {E : XK}
/-- the state of a body at its entry, of a def that may raise -/
abbrev CxE (P : Program) (w : World) (K : PySem.W.Frag) (mg : Str → Option Value) (base : Heap) (N : List Str) (q : Str) (st : Stmt) (f : Addr) (cdv : Value) (A : Around) (outer : List Env) (s : Shared) (H : Hp) (E : XK) : Cx := cxOf (L2.CX P w) P w K mg base N q (defScope st) f cdv A outer s H E
theorem okE {sp : Sp} (F : Fun K n q st f fd) (hm : mg n = some (.ref f)) (b : Binds K fd ps []) (S : FnScope N ps (defScope st)) (len : ∀ vs H Q E, sp vs H Q E → vs.length = ps.length)
    (body : ∀ (cdv : Value) (A : Around) (outer : List Env) (s : Shared) (H : Hp) (vs : List V) (Q : VK) (E : XK), Room k (A.deeper (envOfC q (defScope st) s.heap.objs.size f cdv)) → sp vs H Q E →
      Wb (CxE P w K mg base N q st f cdv A outer s H E) (defBody st) { nx := fun _ H' => Q .non H', rt := Q } (start N vs) H) : Df P w K mg base (L2.CX P w) (k + 1) n ps sp :=
  ⟨f, fd, hm, F.kp, b, F.okX S len fun cdv A outer s H vs Q E hr h => ⟨_, wb, body cdv A outer s H vs Q E hr h⟩⟩
theorem okN {sp : Sp} (F : Fun K n q st f fd) (hm : mg n = some (.ref f)) (b : Binds K fd ps []) (S : FnScope N ps (defScope st)) (len : ∀ vs H Q E, sp vs H Q E → vs.length = ps.length)
    (body : ∀ (cdv : Value) (A : Around) (outer : List Env) (s : Shared) (H : Hp) (vs : List V) (Q : VK) (E : XK), Room k (A.deeper (envOfC q (defScope st) s.heap.objs.size f cdv)) → sp vs H Q E →
      Wb (C0 P w K mg base N q st f cdv A outer s H E) (defBody st) { nx := fun _ H' => Q .non H', rt := Q } (start N vs) H) : Df P w K mg base CX0 (k + 1) n ps sp :=
  ⟨f, fd, hm, F.kp, b, F.ok S len fun cdv A outer s H vs Q E hr h => ⟨_, wb, body cdv A outer s H vs Q E hr h⟩⟩
theorem takeE : Takes (CxE P w K mg base N q st f cdv A outer s H E) (fun cls d _ H' => E cls d H') := takes_of rfl rfl rfl rfl
theorem poE : PO (CxE P w K mg base N q st f cdv A outer s H E) := passes_of rfl
end
section
variable {X : Cx} {e a b c : Expr} {es : List Expr} {σ : L2.St} {H : Hp} {k j : Nat} {n : Str} {ps : List Str} {pos p : Pos} {Q : VK} {E' : XK} {W : WX} {sp : Sp}
/-- a call of a def that may raise -/
theorem we_callE (tk : Takes X W) (hW : ∀ cls d σ H, E' cls d H → W cls d σ H) (F : Df X.prog X.w X.K X.mg X.base (L2.CX X.prog X.w) k n ps sp) (hr : Room j X.A) (hk : k ≤ j) (h : Wa X (e :: es) σ H fun vs H1 => sp vs H1 Q E')
    (hg : Gl X n := by rfl) (hdb : (n == ("__debug__" : Str)) = false := by decide) (he : starEach (e :: es) X.env = (false, eval e X.env) :: starEach es X.env := by rfl) (hpl : (backTo pos (starEach es X.env)).any (·.1) = false := by rfl) : We X (.Call (.Name n p) (e :: es) [] pos) σ H Q := by
  obtain ⟨f, fd, hm, hkp, hb, hF⟩ := F.ex
  refine We.of (pe_call (ds := []) (dvs := []) hF (hr.mono hk) hg hm hkp hb .nil (passes_call tk hW) wa hdb he hpl) ?_
  intro pos' pins s I
  refine thn (h pos' pins s I) fun us s1 ⟨vs, H1, I1, r, q⟩ => ⟨vs, H1, I1, r, show sp (vs ++ []) H1 Q _ by rw [List.append_nil]; exact q⟩
/-- a call of a def that raises nothing, by its promise -/
theorem we_callN (F : Df X.prog X.w X.K X.mg X.base CX0 k n ps sp) (hr : Room j X.A) (hk : k ≤ j) (h : Wa X (e :: es) σ H fun vs H1 => sp vs H1 Q E0)
    (hg : Gl X n := by rfl) (hdb : (n == ("__debug__" : Str)) = false := by decide) (he : starEach (e :: es) X.env = (false, eval e X.env) :: starEach es X.env := by rfl) (hpl : (backTo pos (starEach es X.env)).any (·.1) = false := by rfl) : We X (.Call (.Name n p) (e :: es) [] pos) σ H Q := by
  obtain ⟨f, fd, hm, hkp, hb, hF⟩ := F.ex
  refine We.of (pe_call (ds := []) (dvs := []) hF (hr.mono hk) hg hm hkp hb .nil pass0 wa hdb he hpl) ?_
  intro pos' pins s I
  refine thn (h pos' pins s I) fun us s1 ⟨vs, H1, I1, r, q⟩ => ⟨vs, H1, I1, r, show sp (vs ++ []) H1 Q _ by rw [List.append_nil]; exact q⟩
end
/-! ### exceptions of our own -/
/-- what an exception's __init__ makes of itself -/
def SpX (C : Addr) (m : Nat) (fs : List V → List (Str × V)) : Sp := fun vs H Q _ => ∃ (a : Addr) (G : Hp) (us : List V), vs = .ref a :: us ∧ us.length = m ∧ G a = none ∧ H = upd G a (exo a C none) ∧
  ∀ H2 d, d ≠ a → G d = none → H2 a = some (exo a C (some d)) → H2 d = some (exd d (fs us)) → (∀ b, b ≠ a → b ≠ d → H2 b = G b) → Q .non H2
structure MkX (P : Program) (w : World) (K : PySem.W.Frag) (mg : Str → Option Value) (base : Heap) (k : Nat) (n : Str) (C : Addr) (m : Nat) (ps : List Str) (fs : List V → List (Str × V)) : Prop where
  ex : ∃ fI fd, mg n = some (.ref C) ∧ OexC K C ∧ PySem.W.findIn K (.ref C) "__init__" = some (some (.ref fI)) ∧ PySem.W.typeIn K (.ref fI) = some (.type "function") ∧ Binds K fd ps [] ∧ FnOk P w K mg base CX0 k fI fd ps (SpX C m fs)
section
variable {X : Cx} {e : Expr} {es : List Expr} {sts : List Stmt} {D : Ends} {σ : L2.St} {H : Hp} {k j m : Nat} {n : Str} {C : Addr} {ps : List Str} {fs : List V → List (Str × V)} {pos pos' p : Pos} {W : WX}
theorem wb_raise (hc : X.calm = true) (tk : Takes X W) (M : MkX X.prog X.w X.K X.mg X.base k n C m ps fs) (hr : Room j X.A) (hk : k + 1 ≤ j) (hm1 : m ≤ 1000) (h : Wa X (e :: es) σ H fun vs H1 => vs.length = m ∧ ∀ d H', Xt T H1 H' → H' d = some (.xd (fs vs)) → W (.ref C) (some d) σ H')
    (hg : Gl X n := by rfl) (hdb : (n == ("__debug__" : Str)) = false := by decide) (he : starEach (e :: es) X.env = (false, eval e X.env) :: starEach es X.env := by rfl) (hpl : (backTo pos (starEach es X.env)).any (·.1) = false := by rfl) : Wb X (.Raise (some (.Call (.Name n p) (e :: es) [] pos)) none pos' :: sts) D σ H := by
  obtain ⟨fI, fd, hm, T1, iC, tI, hb, hF⟩ := M.ex
  refine wb_cons (Ws.of (ps_raise hc tk (pmk_oex (ds := []) (dvs := []) T1 iC tI hF (hr.mono hk) hb .nil (fun _ _ _ _ _ _ _ h => h.elim) hg hm wa hdb he hpl)) ?_)
  intro pos0 pins s I
  refine thn (h pos0 pins s I) fun us s1 ⟨vs, H1, I1, r, hl, q⟩ => ⟨vs, H1, I1, r, by rw [hl]; exact hm1, fun a ha => ?_⟩
  rw [List.append_nil]
  refine ⟨a, H1, vs, rfl, hl, ha, rfl, fun H2 d ne hd h2a h2d h2 => ⟨rfl, d, fs vs, h2a, h2d, hd, q d _ (Xt.same ?_) upd_same⟩⟩
  intro b o hb
  have nb : b ≠ a := ne_of_none hb ha
  have nd : b ≠ d := ne_of_none hb hd
  rw [upd_ne nd, del_ne nb, h2 b nb nd]
  exact hb
end
section
variable {P : Program} {w : World} {K : PySem.W.Frag} {mg : Str → Option Value} {base : Heap} {X : Cx} {a C d : Addr} {f : Str} {v : V} {fs : List (Str × V)} {H : Hp} {o e : Expr} {sts : List Stmt} {D : Ends} {σ : L2.St} {p p1 p2 pos pos' : Pos} {j : Nat}
/-- ValueError.__init__(self, text) -/
theorem wb_veinit {m : Str} (hm : X.mg "ValueError" = none) (vV : PySem.W.findCls X.K (.type "ValueError") (.type "type") "__init__" = some (.val (.builtin "ValueError.__init__"))) (T1 : OexC X.K C) (hs : ∀ Q : VK, Q (.ref a) H → We X e σ H Q) (ha : H a = some (exo a C none)) (q : Wb X sts D σ H)
    (hg : Gl X "ValueError" := by rfl) {pl : Sem Bool} (hc : eval (.Call (.Attribute (.Name "ValueError" p1) "__init__" p2) [e, .Constant (.str m) j p] [] pos) X.env = (do
      let ov ← eval (.Name "ValueError" p1) X.env
      standAt p2.atName
      let (f, first) ← holding [ov] (getMethod ov "__init__" pl)
      callWith pos f first (backTo pos (starEach [e, .Constant (.str m) j p] X.env)) (backToKw pos (keywordEach [] X.env))) := by rfl)
    (he : starEach (e :: [.Constant (.str m) j p]) X.env = (false, eval e X.env) :: starEach [.Constant (.str m) j p] X.env := by rfl) (he2 : starEach (.Constant (.str m) j p :: []) X.env = (false, eval (.Constant (.str m) j p) X.env) :: starEach [] X.env := by rfl) (hpl : (backTo pos (starEach [.Constant (.str m) j p] X.env)).any (·.1) = false := by rfl)
    (hsw : swapsWith (.Call (.Attribute (.Name "ValueError" p1) "__init__" p2) [e, .Constant (.str m) j p] [] pos) none pos'.line X.env = pure false := by rfl) :
    Wb X (.Expr (.Call (.Attribute (.Name "ValueError" p1) "__init__" p2) [e, .Constant (.str m) j p] [] pos) pos' :: sts) D σ H :=
  wb_expr (We.of (pe_veinit hg hm vV (pa_cons we (pa_cons pe_str pa_nil he2) he) hc he hpl) (hs _ ⟨a, C, [.str m], rfl, by show 1 ≤ 1000; decide, T1, ha, q⟩)) hsw
theorem wb_ost1 (T1 : OexC X.K C) (hno : PySem.W.findIn X.K (.ref C) f = some none) (he : ∀ Q : VK, Q v H → We X e σ H Q) (ho : ∀ Q : VK, Q (.ref a) H → We X o σ H Q) (ha : H a = some (exo a C none))
    (q : ∀ d, H d = none → d ≠ a → Wb X sts D σ (upd (upd H d (exd d [(f, v)])) a (exo a C (some d)))) (hs : swapsWith e (some (.Attribute o f p)) pos.line X.env = pure false := by rfl) : Wb X (.Assign [.Attribute o f p] e pos :: sts) D σ H :=
  wb_cons (Ws.of (ps_ost we we hs) (he _ (ho _ ⟨a, C, rfl, T1, hno, .inl ⟨ha, q⟩⟩)))
theorem wb_ost2 (T1 : OexC X.K C) (hno : PySem.W.findIn X.K (.ref C) f = some none) (he : ∀ Q : VK, Q v H → We X e σ H Q) (ho : ∀ Q : VK, Q (.ref a) H → We X o σ H Q) (ha : H a = some (exo a C (some d))) (hd : H d = some (exd d fs)) (hl : fs.length ≤ 900)
    (q : Wb X sts D σ (upd H d (exd d ((f, v) :: fs)))) (hs : swapsWith e (some (.Attribute o f p)) pos.line X.env = pure false := by rfl) : Wb X (.Assign [.Attribute o f p] e pos :: sts) D σ H :=
  wb_cons (Ws.of (ps_ost we we hs) (he _ (ho _ ⟨a, C, rfl, T1, hno, .inr ⟨d, fs, ha, hd, hl, q⟩⟩)))
end
end G5
/-! T1: Fault, Token, Reader made; codes, is_letter, is_digit, begin_of. -/
namespace G5
open PySem PySem.Spec PyProof.Rows L2
variable {T : List NTab} {P : Program} {w : World} {K : PySem.W.Frag} {mg : Str → Option Value} {base : Heap} {c : Cs}
abbrev s_faultinit : Stmt := clsSt (top 39) 0
def Nfaultinit : List Str := ["self", "code", "place"]
theorem sc_faultinit : FnScope Nfaultinit Nfaultinit (defScope s_faultinit) := ⟨rfl, rfl, rfl, by decide +kernel, rfl, by decide +kernel, by decide +kernel⟩
/-- a fault's fields, of its code and its place -/
def faultFs : List V → List (Str × V)
  | [x, y] => [("place", y), ("code", x)]
  | _ => []
theorem mk_fault {f : Addr} {fd : FuncData} (g : Gf K mg c) (F : Fun K "__init__" "Fault.__init__" s_faultinit f fd) (iC : PySem.W.findIn K (.ref c.fault) "__init__" = some (some (.ref f))) (tI : PySem.W.typeIn K (.ref f) = some (.type "function")) (b : Binds K fd Nfaultinit []) :
    MkX P w K mg base 1 "Fault" c.fault 2 Nfaultinit faultFs := by
  refine ⟨f, fd, g.faultAt, g.faultC, iC, tI, b, F.ok sc_faultinit (fun vs H Q E h => ?_) fun cdv A outer s H vs Q E hr h => ⟨_, wb, ?_⟩⟩
  · obtain ⟨a, G, us, rfl, hus, _⟩ := h
    rw [List.length_cons, hus]
    rfl
  obtain ⟨a, G, us, rfl, hus, hG, rfl, hq⟩ := h
  obtain ⟨x, y, rfl⟩ : ∃ x y, us = [x, y] := by
    match us, hus with
    | [x, y], _ => exact ⟨x, y, rfl⟩
  refine wb_veinit g.verr g.veinit g.faultC (fun Q q => we_var (i := 0) rfl q) upd_same ?_
  refine wb_ost1 (v := x) g.faultC (g.faultNo _ (by decide)) (fun Q q => we_var (i := 1) rfl q) (fun Q q => we_var (i := 0) rfl q) upd_same fun d hd ne => ?_
  have hdG : G d = none := by rw [upd_ne ne] at hd; exact hd
  refine wb_ost2 (v := y) (d := d) (fs := [("code", x)]) g.faultC (g.faultNo _ (by decide)) (fun Q q => we_var (i := 2) rfl q) (fun Q q => we_var (i := 0) rfl q) upd_same (by rw [upd_ne ne]; exact upd_same) (show (1 : Nat) ≤ 900 by decide) (wb_nil ?_)
  refine hq _ d ne hdG (by rw [upd_ne ne.symm]; exact upd_same) upd_same fun b nb nd => ?_
  rw [upd_ne nd, upd_ne nb, upd_ne nd, upd_ne nb]
abbrev s_codes : Stmt := top 42
theorem sc_codes : FnScope ["word", "sign"] ["word"] (defScope s_codes) := ⟨rfl, rfl, rfl, by decide +kernel, rfl, by decide +kernel, by decide +kernel⟩
/-- the bytes of a written word -/
def bytesOf (z : Str) : List UInt8 := z.cps.toList.map fun c => UInt8.ofNat c
def Plain8 (z : Str) : Prop := z.cps.toList.length ≤ 1000000 ∧ ∀ c ∈ z.cps.toList, c < 256
theorem ok_codes {f : Addr} {fd : FuncData} (g : Gf K mg c) (F : Fun K "codes" "codes" s_codes f fd) (hm : mg "codes" = some (.ref f)) (b : Binds K fd ["word"] []) :
    Df P w K mg base CX0 1 "codes" ["word"] (Sp1 T RS (RM RU) Plain8 bytesOf) := by
  refine ok1 F hm b sc_codes fun cdv A outer s H E Q v1 z hr ht h1 hg hq => ?_
  refine wb_ret (T := T) (R := RM RU) (x := bytesOf z) ?_ hq
  refine LcEv.ev (lx_lcS (T := T) (S := RU) (x := z) (j := 1) (g1 := fun c => UInt8.ofNat c) rfl sc_codes.nd (vr 0 h1) (by have := hg.1; rwa [Array.length_toList] at this) (blkOk_by (N := ["word", "sign"]) (sc := defScope s_codes) (by decide +kernel))
    (fun _ _ _ _ _ => pg_name sc_codes.nd rfl (Or.inl rfl)) (fun i d G hd u => ?_)) rfl sc_codes.nd
  intro s0 H0 C cl fp
  refine Ev.to (ev_ord (c := d) g.ord (by decide +kernel) (vr 1 (R := RS) rfl)) fun _ _ _ h => ?_
  show _ = V.int _
  rw [show (UInt8.ofNat d).toNat = d by have := hg.2 d (List.mem_of_getElem? hd); simp [UInt8.toNat_ofNat']; omega]
  exact h
abbrev s_letter : Stmt := top 43
theorem sc_letter : FnScope ["byte"] ["byte"] (defScope s_letter) := ⟨rfl, rfl, rfl, by decide +kernel, rfl, by decide +kernel, by decide +kernel⟩
theorem ok_letter {f : Addr} {fd : FuncData} (g : Gf K mg c) (F : Fun K "is_letter" "is_letter" s_letter f fd) (hm : mg "is_letter" = some (.ref f)) (b : Binds K fd ["byte"] []) :
    Df P w K mg base CX0 1 "is_letter" ["byte"] (Sp1 T RU RB (fun _ => True) VamvsBase.isLetter) := by
  refine ok1 F hm b sc_letter fun cdv A outer s H E Q v1 z hr ht h1 hg hq => ?_
  refine wb_ret (T := T) (R := RB) (x := VamvsBase.isLetter z) ?_ hq
  refine Ev.is (ev_orB (ev_chain (i := 97) (j := (z.toNat : Int)) (k := 122) op_leI op_leI ev_int (vr 0 (R := RI) h1) ev_int) fun _ => ev_chain (i := 65) (j := (z.toNat : Int)) (k := 90) op_leI op_leI ev_int (vr 0 (R := RI) h1) ev_int) ?_
  unfold VamvsBase.isLetter
  rw [Bool.or_comm]
  congr 1 <;> rw [← Bool.decide_and] <;> exact decide_eq_decide.mpr ⟨fun h => by omega, fun h => by omega⟩
abbrev s_digit : Stmt := top 44
theorem sc_digit : FnScope ["byte"] ["byte"] (defScope s_digit) := ⟨rfl, rfl, rfl, by decide +kernel, rfl, by decide +kernel, by decide +kernel⟩
theorem ok_digit {f : Addr} {fd : FuncData} (g : Gf K mg c) (F : Fun K "is_digit" "is_digit" s_digit f fd) (hm : mg "is_digit" = some (.ref f)) (b : Binds K fd ["byte"] []) :
    Df P w K mg base CX0 1 "is_digit" ["byte"] (Sp1 T RU RB (fun _ => True) VamvsBase.isDigit) := by
  refine ok1 F hm b sc_digit fun cdv A outer s H E Q v1 z hr ht h1 hg hq => ?_
  refine wb_ret (T := T) (R := RB) (x := VamvsBase.isDigit z) ?_ hq
  refine Ev.is (ev_chain (i := 48) (j := (z.toNat : Int)) (k := 57) op_leI op_leI ev_int (vr 0 (R := RI) h1) ev_int) ?_
  unfold VamvsBase.isDigit
  rw [← Bool.decide_and]
  exact decide_eq_decide.mpr ⟨fun h => by omega, fun h => by omega⟩
/-- how many bytes of blanks and remarks stand ahead; f: within a remark -/
def skipB : Bool → List UInt8 → Nat
  | _, [] => 0
  | true, b :: r => if b == 10 then 1 + skipB false r else 1 + skipB true r
  | false, b :: r => if VamvsBase.isBlank b then 1 + skipB false r else if b == 35 then 1 + skipB true r else 0
theorem skipB_le : ∀ (f : Bool) (l : List UInt8), skipB f l ≤ l.length
  | _, [] => by unfold skipB; exact Nat.le_refl _
  | true, b :: r => by
    have h1 := skipB_le false r
    have h2 := skipB_le true r
    unfold skipB
    rw [List.length_cons]
    split <;> omega
  | false, b :: r => by
    have h1 := skipB_le false r
    have h2 := skipB_le true r
    unfold skipB
    rw [List.length_cons]
    split
    · omega
    · split <;> omega
abbrev s_begin : Stmt := top 45
theorem sc_begin : FnScope ["text", "at"] ["text", "at"] (defScope s_begin) := ⟨rfl, rfl, rfl, by decide +kernel, rfl, by decide +kernel, by decide +kernel⟩
theorem u8_eq (b : UInt8) (k : Nat) (hk : k < 256) : (decide ((b.toNat : Int) = (k : Int))) = (b == UInt8.ofNat k) := by
  rw [Bool.beq_eq_decide_eq]
  refine decide_eq_decide.mpr ⟨fun h => ?_, fun h => ?_⟩
  · apply UInt8.toNat_inj.mp
    rw [UInt8.toNat_ofNat']
    omega
  · rw [h, UInt8.toNat_ofNat']
    omega
theorem blank_in (b : UInt8) : ([32, 9, 10] : List Int).contains (b.toNat : Int) = VamvsBase.isBlank b := by
  unfold VamvsBase.isBlank
  rw [List.contains_cons, List.contains_cons, List.contains_cons, List.contains_nil, Bool.or_false]
  have e1 := u8_eq b 32 (by decide)
  have e2 := u8_eq b 9 (by decide)
  have e3 := u8_eq b 10 (by decide)
  rw [Bool.beq_eq_decide_eq, Bool.beq_eq_decide_eq, Bool.beq_eq_decide_eq]
  have f1 : decide ((b.toNat : Int) = 32) = (b == 32) := e1
  have f2 : decide ((b.toNat : Int) = 9) = (b == 9) := e2
  have f3 : decide ((b.toNat : Int) = 10) = (b == 10) := e3
  rw [f1, f2, f3]
theorem drop_cons {text : List UInt8} {i : Nat} (h : i < text.length) : ∃ b, text[i]? = some b ∧ text.drop i = b :: text.drop (i + 1) :=
  ⟨text[i], List.getElem?_eq_getElem h, List.drop_eq_getElem_cons h⟩
theorem ok_begin {f : Addr} {fd : FuncData} (g : Gf K mg c) (F : Fun K "begin_of" "begin_of" s_begin f fd) (hm : mg "begin_of" = some (.ref f)) (b : Binds K fd ["text", "at"] []) :
    Df P w K mg base CX0 1 "begin_of" ["text", "at"] (Sp2 T (RL K RU) RN RN (fun text a => a ≤ text.length) fun text a => a + skipB false (text.drop a)) := by
  refine ok2 F hm b sc_begin fun cdv A outer s H E Q v1 v2 text a hr ht h1 h2 hg hq => ?_
  cases h2
  obtain ⟨aB, hB1, hB2⟩ := g.gBLANKS
  have eblank : ∀ {i : Nat} {H' : Hp} {bb : UInt8}, text[i]? = some bb → Xt T H H' → EvT T (C0 P w K mg base ["text", "at"] "begin_of" s_begin f cdv A outer s H E) (match stm s_begin 0 with | .While (.BoolOp _ [_, .BoolOp _ [c, _] _] _) _ _ _ => c | _ => .Constant .none 0 ⟨0, 0, 0, 0⟩) [some v1, some (.int (i : Int))] H' (VamvsBase.isBlank bb) := fun {i H' bb} hb u =>
    EvT.is (et_cmp (x := (bb.toNat : Int)) (y := ([32, 9, 10] : List Int)) cmp_inTI (Ev.to (R := RU) (ev_item (R := RU) (i := i) (l := text) (vr 0 (Mono.mono u h1)) (vr 1 (R := RI) rfl) hb) fun _ _ _ h => h) (ev_gr (v := .non) hB1 fun H1 _ => ⟨aB, _, rfl, hB2 H1, ints_all2 [32, 9, 10]⟩)) (blank_in bb)
  have eremark : ∀ {i : Nat} {H' : Hp} {bb : UInt8}, text[i]? = some bb → Xt T H H' → EvT T (C0 P w K mg base ["text", "at"] "begin_of" s_begin f cdv A outer s H E) (match stm s_begin 0 with | .While (.BoolOp _ [_, .BoolOp _ [_, c] _] _) _ _ _ => c | _ => .Constant .none 0 ⟨0, 0, 0, 0⟩) [some v1, some (.int (i : Int))] H' (bb == 35) := fun {i H' bb} hb u =>
    EvT.is (et_cmp (x := (bb.toNat : Int)) (y := (35 : Int)) cmp_eq (Ev.to (R := RU) (ev_item (R := RU) (i := i) (l := text) (vr 0 (Mono.mono u h1)) (vr 1 (R := RI) rfl) hb) fun _ _ _ h => h) (ev_gi g.gREMARK)) (u8_eq bb 35 (by decide))
  have eless : ∀ {i : Nat} {H' : Hp}, Xt T H H' → EvT T (C0 P w K mg base ["text", "at"] "begin_of" s_begin f cdv A outer s H E) (match stm s_begin 0 with | .While (.BoolOp _ [c, _] _) _ _ _ => c | _ => .Constant .none 0 ⟨0, 0, 0, 0⟩) [some v1, some (.int (i : Int))] H' (decide (i < text.length)) := fun {i H'} u =>
    EvT.is (et_cmp (x := (i : Int)) (y := (text.length : Int)) cmp_lt (vr 1 (R := RI) rfl) (ev_len g.len (vr 0 (Mono.mono u h1)))) (decide_eq_decide.mpr ⟨fun h => by omega, fun h => by omega⟩)
  refine wb_while PassesOwn.never (fun m σ' H' => ∃ i : Nat, i ≤ text.length ∧ m = text.length - i ∧ σ' = [some v1, some (.int (i : Int))] ∧ Xt T H H' ∧ i + skipB false (text.drop i) = a + skipB false (text.drop a)) (text.length - a) ⟨a, hg, rfl, rfl, Xt.refl _, rfl⟩ fun m σ' H' W => ?_
  obtain ⟨i, hi, rfl, rfl, u, he⟩ := W
  by_cases hlt : i < text.length
  · obtain ⟨bb, hb, hd⟩ := drop_cons hlt
    refine (et_and (T := T) (m := VamvsBase.isBlank bb || bb == 35) (EvT.is (eless u) (decide_eq_true hlt)) fun _ => et_or (eblank hb u) fun _ => eremark hb u).now fun H2 u2 => ?_
    rw [Bool.true_and]
    have uu := u.trans u2
    by_cases hbr : (VamvsBase.isBlank bb || bb == 35) = true
    · rw [if_pos hbr]
      refine wb_if (T := T) (EvT.is (et_cmp (x := (bb.toNat : Int)) (y := (35 : Int)) cmp_eq (Ev.to (R := RU) (ev_item (R := RU) (i := i) (l := text) (vr 0 (Mono.mono uu h1)) (vr 1 (R := RI) rfl) hb) fun _ _ _ h => h) (ev_gi g.gREMARK)) (u8_eq bb 35 (by decide))) (fun kk H3 u3 => ?_) fun kk H3 u3 => ?_
      · have kk : (bb == 35) = true := kk
        have e35 : bb = 35 := by simpa using kk
        subst e35
        refine wb_while PassesOwn.never (fun m σ' H' => ∃ k : Nat, i ≤ k ∧ k ≤ text.length ∧ m = text.length - k ∧ σ' = [some v1, some (.int (k : Int))] ∧ Xt T H H' ∧ k + skipB true (text.drop k) = a + skipB false (text.drop a)) (text.length - i) ⟨i, Nat.le_refl _, hi, rfl, rfl, uu.trans u3, ?_⟩ fun m σ' H' W => ?_
        · rw [← he, hd]
          rfl
        · obtain ⟨k, hik, hk, rfl, rfl, u4, hek⟩ := W
          by_cases hlk : k < text.length
          · obtain ⟨b2, hb2, hd2⟩ := drop_cons hlk
            refine (et_and (T := T) (k := true) (m := !(b2 == 10)) (EvT.is (et_cmp (x := (k : Int)) (y := (text.length : Int)) cmp_lt (vr 1 (R := RI) rfl) (ev_len g.len (vr 0 (Mono.mono u4 h1)))) (decide_eq_true (by omega))) fun _ => EvT.is (et_cmp (x := (b2.toNat : Int)) (y := (10 : Int)) cmp_ne (Ev.to (R := RU) (ev_item (R := RU) (i := k) (l := text) (vr 0 (Mono.mono u4 h1)) (vr 1 (R := RI) rfl) hb2) fun _ _ _ h => h) (ev_gi g.gLINE)) (congrArg (!·) (u8_eq b2 10 (by decide)))).now fun H5 u5 => ?_
            rw [Bool.true_and]
            by_cases h10 : (b2 == 10) = true
            · rw [h10, if_neg (by decide)]
              have e10 : b2 = 10 := by simpa using h10
              subst e10
              have nk : k ≠ i := fun z => by rw [z, hb] at hb2; cases hb2
              refine wb_nil (wb_nil ⟨text.length - k, by omega, k, hk, rfl, rfl, u4.trans u5, ?_⟩)
              rw [← hek, hd2]
              rfl
            · have h10' : (b2 == 10) = false := by simpa using h10
              rw [h10', if_pos (show (!false) = true from rfl)]
              refine wb_augI (T := T) 1 rfl ev_int (fun H6 u6 => wb_nil ⟨text.length - (k + 1), by omega, k + 1, by omega, by omega, rfl, ?_, u4.trans (u5.trans u6), ?_⟩) sc_begin.nd
              · rfl
              · rw [← hek, hd2]
                show _ = k + skipB true (b2 :: text.drop (k + 1))
                rw [skipB, if_neg (by rw [h10']; decide)]
                omega
          · refine (et_and (T := T) (k := false) (m := false) (EvT.is (et_cmp (x := (k : Int)) (y := (text.length : Int)) cmp_lt (vr 1 (R := RI) rfl) (ev_len g.len (vr 0 (Mono.mono u4 h1)))) (decide_eq_false (by omega))) fun z => by cases z).now fun H5 u5 => ?_
            rw [if_neg (by decide)]
            have ek : k = text.length := by omega
            refine wb_nil (wb_nil ⟨text.length - k, by omega, k, hk, rfl, rfl, u4.trans u5, ?_⟩)
            rw [← hek, ek, List.drop_length]
            rfl
      · have kk : (bb == 35) = false := kk
        have hbl : VamvsBase.isBlank bb = true := by rw [kk, Bool.or_false] at hbr; exact hbr
        refine wb_augI (T := T) 1 rfl ev_int (fun H6 u6 => wb_nil (wb_nil ⟨text.length - (i + 1), by omega, i + 1, by omega, rfl, ?_, uu.trans (u3.trans u6), ?_⟩)) sc_begin.nd
        · rfl
        · rw [← he, hd]
          show _ = i + skipB false (bb :: text.drop (i + 1))
          rw [skipB, if_pos hbl]
          omega
    · rw [if_neg hbr]
      refine wb_ret (T := T) (R := RN) (x := i) (vr 1 rfl) fun v' H3 u3 r => hq v' H3 (uu.trans u3) ?_
      have e0 : skipB false (text.drop i) = 0 := by
        have hbr' : (VamvsBase.isBlank bb || bb == 35) = false := by simpa using hbr
        rw [Bool.or_eq_false_iff] at hbr'
        rw [hd, skipB, if_neg (by rw [hbr'.1]; decide), if_neg (by rw [hbr'.2]; decide)]
      rw [← he, e0]
      exact r
  · refine (et_and (T := T) (k := false) (m := false) (EvT.is (eless u) (decide_eq_false hlt)) fun z => by cases z).now fun H2 u2 => ?_
    rw [if_neg (by decide)]
    have ei : i = text.length := by omega
    refine wb_ret (T := T) (R := RN) (x := i) (vr 1 rfl) fun v' H3 u3 r => hq v' H3 (u.trans (u2.trans u3)) ?_
    rw [← he, ei, List.drop_length, ← ei]
    exact r
end G5
/-! T2: Token made; word_of, name_at. -/
namespace G5
open PySem PySem.Spec PyProof.Rows L2
variable {T : List NTab} {P : Program} {w : World} {K : PySem.W.Frag} {mg : Str → Option Value} {base : Heap} {c : Cs}
abbrev s_tokinit : Stmt := clsSt (top 40) 0
def Ntokinit : List Str := ["self", "what", "told", "place"]
def postTok (T : List NTab) : List V → Hp → Hp → List (Str × V) → Prop := fun us G G2 fs => Xt T G G2 ∧ ∃ a b d, us = [a, b, d] ∧ fs = [(("what" : Str), a), (("told" : Str), b), (("place" : Str), d)]
theorem sc_tokinit : FnScope Ntokinit Ntokinit (defScope s_tokinit) := ⟨rfl, rfl, rfl, by decide +kernel, rfl, by decide +kernel, by decide +kernel⟩
abbrev MkTok (T : List NTab) (P : Program) (w : World) (K : PySem.W.Frag) (mg : Str → Option Value) (base : Heap) (c : Cs) : Prop := Mkd P w K mg base CX0 1 "Token" c.token Ntokinit (SpI c.token 3 (postTok T))
theorem mk_tok {f : Addr} {fd : FuncData} (g : Gf K mg c) (F : Fun K "__init__" "Token.__init__" s_tokinit f fd) (M : Mk K c.token f) (b : Binds K fd Ntokinit []) : MkTok T P w K mg base c := by
  refine mk_of F g.token.at' M b sc_tokinit rfl fun cdv A outer s H E Q x dx G us hl hr hH hx hd ne hq => ?_
  obtain ⟨v1, v2, v3, rfl⟩ : ∃ v1 v2 v3, us = [v1, v2, v3] := by
    match us, hl with
    | [a, b, d], _ => exact ⟨a, b, d, rfl⟩
  refine wb_fldH (T := T) (R := RV) (x := v1) hx hd (fun Q H' q => we_var (i := 0) rfl q) (vr 1 rfl) g.token.cl (g.token.no _ (by decide)) (by decide) fun w1 G1 u1 hx1 hd1 r1 => ?_
  refine wb_fldH (T := T) (R := RV) (x := v2) hx1 hd1 (fun Q H' q => we_var (i := 0) rfl q) (vr 2 rfl) g.token.cl (g.token.no _ (by decide)) (show (1 : Nat) < 1000 by decide) fun w2 G2 u2 hx2 hd2 r2 => ?_
  refine wb_fldH (T := T) (R := RV) (x := v3) hx2 hd2 (fun Q H' q => we_var (i := 0) rfl q) (vr 3 rfl) g.token.cl (g.token.no _ (by decide)) (show (2 : Nat) < 1000 by decide) fun w3 G3 u3 hx3 hd3 r3 => ?_
  cases r1
  cases r2
  cases r3
  exact wb_nil (hq G3 _ ⟨u1.trans (u2.trans u3), v1, v2, v3, rfl, rfl⟩ hx3 hd3)
/-! ### a token -/
def words4 : List Str := ["columns", "row", "ask", "times"]
def wordWhat (b : List UInt8) : Str := match words4.find? fun z => decide (bytesOf z = b) with
  | some z => z
  | none => "a name"
def whatOf : VamvsBase.Tok → Str
  | .name b => wordWhat b
  | .num _ => "a number"
  | .sign k => sign1 k
  | .last => "the end"
def RTold : Rp VamvsBase.Tok := fun H v t => match t with
  | .name b => RM RU H v b
  | .num n => v = .int (n : Int)
  | _ => True
instance : Mono T RTold := ⟨fun {H H' v t} x h => by
  cases t with
  | name b => exact Mono.mono (R := RM RU) x h
  | num n => exact h
  | sign k => trivial
  | last => trivial⟩
def RTok (c : Cs) : Rp VamvsBase.PTok := fun H v p => ∃ a dx tv, v = .ref a ∧ H a = some (.ins c.token dx [("what", .str (whatOf p.tok)), ("told", tv), ("place", .int (p.place : Int))]) ∧ RTold H tv p.tok
instance : Mono T (RTok c) := ⟨fun x ⟨a, dx, tv, h1, h2, h3⟩ => ⟨a, dx, tv, h1, x.ex _ _ h2 nt_ins, Mono.mono x h3⟩⟩
section
variable {H : Hp} {v : V} {z : VamvsBase.PTok}
theorem RTok.what (g : Gf K mg c) (h : RTok c H v z) : ∃ u, Has K "what" H v u ∧ RS H u (whatOf z.tok) :=
  let ⟨a, dx, tv, h1, h2, h3⟩ := h
  ⟨_, h1 ▸ has_of g.token h2 rfl (by decide), rfl⟩
theorem RTok.told (g : Gf K mg c) (h : RTok c H v z) : ∃ u, Has K "told" H v u ∧ RTold H u z.tok :=
  let ⟨a, dx, tv, h1, h2, h3⟩ := h
  ⟨_, h1 ▸ has_of g.token h2 rfl (by decide), h3⟩
theorem RTok.place (g : Gf K mg c) (h : RTok c H v z) : ∃ u, Has K "place" H v u ∧ RN H u z.place :=
  let ⟨a, dx, tv, h1, h2, h3⟩ := h
  ⟨_, h1 ▸ has_of g.token h2 rfl (by decide), rfl⟩
end
section
variable {X : Cx} {e1 e2 e3 : Expr} {σ : L2.St} {H : Hp} {pos p : Pos}
theorem ev_mktok {t : VamvsBase.Tok} {z j : Nat} (M : MkTok T X.prog X.w X.K X.mg X.base c) (hr : Room j X.A) (hk : 2 ≤ j) (h1 : Ev T X RS e1 σ H (whatOf t)) (h2 : Ev T X RTold e2 σ H t) (h3 : Ev T X RN e3 σ H z)
    (hg : Gl X "Token" := by rfl) (he : starEach (e1 :: [e2, e3]) X.env = (false, eval e1 X.env) :: starEach [e2, e3] X.env := by rfl) (he2 : starEach (e2 :: [e3]) X.env = (false, eval e2 X.env) :: starEach [e3] X.env := by rfl) (he3 : starEach (e3 :: []) X.env = (false, eval e3 X.env) :: starEach [] X.env := by rfl) (hpl : (backTo pos (starEach [e2, e3] X.env)).any (·.1) = false := by rfl) :
    Ev T X (RTok c) (.Call (.Name "Token" p) [e1, e2, e3] [] pos) σ H ⟨z, t⟩ := fun H1 u1 Q q =>
  we_make M hr hk ((ea_cons h1 (ea_cons h2 (ea_cons h3 ea_nil he3) he2) he) H1 u1 _ fun vs H2 u2 ⟨v, r, k1, k2, u, r', k3, k4, t', r2, k5, k6, k7⟩ => by
    subst k1 k3 k5 k7
    refine ⟨rfl, fun a dx G2 fs ha hd ne ⟨w, a', b', d', e1, e2⟩ ha2 hd2 => ?_⟩
    cases e1
    subst e2
    cases k2
    cases k6
    have uu := w.trans (xt_I (T := T) (C := c.token) (fs := [(("what" : Str), .str (whatOf t)), (("told" : Str), u), (("place" : Str), .int (z : Int))]) ha2 hd2 ne)
    exact q _ _ (u2.trans uu) ⟨a, dx, u, rfl, upd_same, Mono.mono uu k4⟩) hg (by decide) he hpl
end
theorem u64 {k : Nat} {A : Around} (r : Room k A) : A.units + 64 < cLine := by have := r.un; omega
theorem u65 {k : Nat} {A : Around} (r : Room k A) : A.units + 65 < cLine := by have := r.un; omega
/-! ### word_of -/
abbrev s_wordof : Stmt := top 46
theorem sc_wordof : FnScope ["told", "word"] ["told"] (defScope s_wordof) := ⟨rfl, rfl, rfl, by decide +kernel, rfl, by decide +kernel, by decide +kernel⟩
theorem strs_all2 {H : Hp} (xs : List Str) : All2 (RS H) (xs.map V.str) xs := all2_map (f := V.str) (fun _ => rfl) xs
theorem ok_wordof {f : Addr} {fd : FuncData} (g : Gf K mg c) (dC : Df P w K mg base CX0 1 "codes" ["word"] (Sp1 T RS (RM RU) Plain8 bytesOf)) (F : Fun K "word_of" "word_of" s_wordof f fd) (hm : mg "word_of" = some (.ref f)) (b : Binds K fd ["told"] []) :
    Df P w K mg base CX0 2 "word_of" ["told"] (Sp1 T (RL K RU) RS (fun _ => True) wordWhat) := by
  refine ok1 F hm b sc_wordof fun cdv A outer s H E Q v1 told hr ht h1 hg hq => ?_
  obtain ⟨aW, hW1, hW2⟩ := g.gWORDS
  refine wb_forT (T := T) (R := RS) (xs := words4) 1 PassesOwn.never rfl sc_wordof.nd (ev_gr (v := .non) hW1 fun H1 _ => ⟨aW, _, rfl, hW2 H1, strs_all2 words4⟩)
    (fun i σ' _ => (∃ o, σ' = [some v1, o]) ∧ ∀ z ∈ words4.take i, decide (bytesOf z = told) = false) (fun H1 _ => ⟨⟨none, rfl⟩, fun z hz => by simp at hz⟩) (fun i x v σ' H' u hx hv w => ?_) fun σ' H' u w => ?_
  · obtain ⟨⟨o, rfl⟩, hw⟩ := w
    have px : Plain8 x := by
      have hm : x ∈ words4 := List.mem_of_getElem? hx
      have key : ∀ z ∈ words4, Plain8 z := by unfold Plain8 words4; decide +kernel
      exact key x hm
    refine wb_if (T := T) (et_cmp (cmp_eqB (u64 hr)) (Ev.to (ev_c1 dC hr (by decide) (u.tb ht) (vr (T := T) 1 (R := RS) hv) px) fun _ _ _ h => h.rl) (vr (T := T) 0 (Mono.mono u h1))) (fun k H2 u2 => ?_) fun k H2 u2 => wb_nil (wb_nil ⟨u2, ⟨_, rfl⟩, take_all hw hx k⟩)
    refine wb_ret (T := T) (R := RS) (x := x) (vr 1 hv) fun v' H3 u3 r => hq v' H3 (u.trans (u2.trans u3)) ?_
    have e : wordWhat told = x := by unfold wordWhat; rw [find_at hw hx k]
    rw [e]
    exact r
  · refine wb_ret (T := T) (R := RS) (x := "a name") (ev_gs g.gNAME) fun v' H3 u3 r => hq v' H3 (u.trans u3) ?_
    have e : wordWhat told = "a name" := by
      unfold wordWhat
      rw [List.find?_eq_none.mpr fun y hy => by rw [w.2 y (by rw [List.take_length]; exact hy)]; decide]
    rw [e]
    exact r
/-! ### a token from a place on -/
/-- what is told of a fault that leaves a def; B what was known at its entry -/
def FE (T : List NTab) (c : Cs) (E : XK) (B : Hp) (f : VamvsBase.Fault) : Prop := ∀ d H', Xt T B H' → H' d = some (.xd (faultFs [.int (f.code : Int), .int (f.place : Int)])) → E (.ref c.fault) (some d) H'
theorem FE.up {E : XK} {B B' : Hp} {f : VamvsBase.Fault} (h : FE T c E B f) (u : Xt T B B') : FE T c E B' f := fun d H' u2 hd => h d H' (u.trans u2) hd
abbrev MkFault (P : Program) (w : World) (K : PySem.W.Frag) (mg : Str → Option Value) (base : Heap) (c : Cs) : Prop := MkX P w K mg base 1 "Fault" c.fault 2 Nfaultinit faultFs
section
variable {X : Cx} {e1 e2 : Expr} {σ : L2.St} {H B : Hp} {pos p pos' : Pos} {sts : List Stmt} {D : Ends} {W : WX} {E : XK}
/-- raise Fault(code, place) -/
theorem wb_fault {j : Nat} {f : VamvsBase.Fault} (hc : X.calm = true) (tk : Takes X W) (hW : ∀ cls d σ H, E cls d H → W cls d σ H) (M : MkFault X.prog X.w X.K X.mg X.base c) (hr : Room j X.A) (hk : 2 ≤ j) (h1 : Ev T X RN e1 σ H f.code) (h2 : Ev T X RN e2 σ H f.place) (hE : FE T c E H f)
    (hg : Gl X "Fault" := by rfl) (he : starEach (e1 :: [e2]) X.env = (false, eval e1 X.env) :: starEach [e2] X.env := by rfl) (he2 : starEach (e2 :: []) X.env = (false, eval e2 X.env) :: starEach [] X.env := by rfl) (hpl : (backTo pos (starEach [e2] X.env)).any (·.1) = false := by rfl) :
    Wb X (.Raise (some (.Call (.Name "Fault" p) [e1, e2] [] pos)) none pos' :: sts) D σ H :=
  wb_raise (T := T) hc tk M hr hk (by decide) ((ea_cons h1 (ea_cons h2 ea_nil he2) he) H (Xt.refl _) _ fun vs H2 u2 ⟨v, r, k1, k2, u, r', k3, k4, k5⟩ => by
    subst k1 k3 k5
    cases k2
    cases k4
    exact ⟨rfl, fun d H' u3 hd => hW _ _ _ _ (hE d H' (u2.trans u3) hd)⟩) hg (by decide) he hpl
end
/-- a def of a text and a place there: its token, or a fault -/
def SpTk (T : List NTab) (K : PySem.W.Frag) (c : Cs) (pre : List UInt8 → Prop) (tk : List UInt8 → Option (VamvsBase.Tok × Nat)) : Sp := fun vs H Q E => Tb T H ∧ ∃ v1 v2 text a, vs = [v1, v2] ∧ RL K RU H v1 text ∧ RN H v2 a ∧ a < text.length ∧ text.length ≤ 1000000 ∧ pre (text.drop a) ∧
  (∀ t n, tk (text.drop a) = some (t, n) → ∀ v H', Xt T H H' → RP K (RTok c) RN H' v (⟨a, t⟩, a + n) → Q v H') ∧ (tk (text.drop a) = none → FE T c E H ⟨2, a⟩)
theorem sptk_len {pre : List UInt8 → Prop} {tk : List UInt8 → Option (VamvsBase.Tok × Nat)} : ∀ vs H Q E, SpTk T K c pre tk vs H Q E → vs.length = 2 := fun vs H Q E h => by
  obtain ⟨_, v1, v2, _, _, rfl, _⟩ := h
  rfl
/-- how far a front reaches -/
theorem tw_next {p : UInt8 → Bool} : ∀ {l : List UInt8} {k : Nat}, k ≤ (l.takeWhile p).length → (∀ b, l[k]? = some b → p b = true → k < (l.takeWhile p).length ∧ (l.takeWhile p)[k]? = some b) ∧ (∀ b, l[k]? = some b → p b = false → k = (l.takeWhile p).length) ∧ (l[k]? = none → k = (l.takeWhile p).length)
  | [], k, h => by
    have : k = 0 := by simpa using h
    subst this
    exact ⟨fun b hb => by simp at hb, fun b hb => by simp at hb, fun _ => rfl⟩
  | x :: r, 0, h => by
    refine ⟨fun b hb hp => ?_, fun b hb hp => ?_, fun hb => by simp at hb⟩
    · have e : x = b := by simpa using hb
      subst e
      rw [List.takeWhile_cons, if_pos hp]
      exact ⟨by simp, by simp⟩
    · have e : x = b := by simpa using hb
      subst e
      rw [List.takeWhile_cons, if_neg (by rw [hp]; decide)]
      rfl
  | x :: r, k + 1, h => by
    by_cases hx : p x = true
    · rw [List.takeWhile_cons, if_pos hx] at h ⊢
      rw [List.length_cons] at h ⊢
      obtain ⟨a1, a2, a3⟩ := tw_next (p := p) (l := r) (k := k) (by omega)
      refine ⟨fun b hb hp => ?_, fun b hb hp => ?_, fun hb => ?_⟩
      · obtain ⟨q1, q2⟩ := a1 b (by simpa using hb) hp
        exact ⟨by omega, by simpa using q2⟩
      · rw [a2 b (by simpa using hb) hp]
      · rw [a3 (by simpa using hb)]
    · rw [List.takeWhile_cons, if_neg hx] at h
      simp at h
theorem take_tw {p : UInt8 → Bool} : ∀ (l : List UInt8), l.take (l.takeWhile p).length = l.takeWhile p
  | [] => rfl
  | x :: r => by
    by_cases hx : p x = true
    · rw [List.takeWhile_cons, if_pos hx, List.length_cons, List.take_succ_cons, take_tw r]
    · rw [List.takeWhile_cons, if_neg hx]; rfl
theorem tw_le {p : UInt8 → Bool} (l : List UInt8) : (l.takeWhile p).length ≤ l.length := List.Sublist.length_le (List.takeWhile_sublist p)
theorem cut_nat {α : Type} (xs : List α) (a b : Nat) (hb : b ≤ xs.length) (hab : a ≤ b) : cut xs (some (a : Int)) (some (b : Int)) = (xs.drop a).take (b - a) := by
  unfold cut
  rw [HT.sIx_nat, HT.sIx_nat, Nat.min_eq_left hb, Nat.min_eq_left (show a ≤ xs.length by omega)]
abbrev s_nameat : Stmt := top 47
def Nnameat : List Str := ["text", "at", "end", "told"]
theorem sc_nameat : FnScope Nnameat ["text", "at"] (defScope s_nameat) := ⟨rfl, rfl, rfl, by decide +kernel, rfl, by decide +kernel, by decide +kernel⟩
abbrev isWord (b : UInt8) : Bool := VamvsBase.isLetter b || VamvsBase.isDigit b
def nameTk (l : List UInt8) : Option (VamvsBase.Tok × Nat) := let w := l.takeWhile isWord; if 16 < w.length then none else some (.name w, w.length)
theorem ok_nameat {f : Addr} {fd : FuncData} (g : Gf K mg c) (dL : Df P w K mg base CX0 1 "is_letter" ["byte"] (Sp1 T RU RB (fun _ => True) VamvsBase.isLetter)) (dD : Df P w K mg base CX0 1 "is_digit" ["byte"] (Sp1 T RU RB (fun _ => True) VamvsBase.isDigit))
    (dW : Df P w K mg base CX0 2 "word_of" ["told"] (Sp1 T (RL K RU) RS (fun _ => True) wordWhat)) (MF : MkFault P w K mg base c) (MT : MkTok T P w K mg base c)
    (F : Fun K "name_at" "name_at" s_nameat f fd) (hm : mg "name_at" = some (.ref f)) (b : Binds K fd ["text", "at"] []) :
    Df P w K mg base (L2.CX P w) 3 "name_at" ["text", "at"] (SpTk T K c (fun _ => True) nameTk) := by
  refine okE F hm b sc_nameat sptk_len fun cdv A outer s H vs Q E hr h => ?_
  obtain ⟨ht, v1, v2, text, a, rfl, h1, h2, ha, hlen, _, hok, her⟩ := h
  cases h2
  refine wb_set (T := T) (R := RN) (x := a) 2 (vr 1 rfl) (fun ve H1 u1 re => ?_) sc_nameat.nd
  cases re
  have hwl := tw_le (p := isWord) (text.drop a)
  rw [List.length_drop] at hwl
  refine wb_while poE (fun m σ' H' => ∃ k : Nat, k ≤ ((text.drop a).takeWhile isWord).length ∧ m = text.length - k ∧ σ' = [some v1, some (.int (a : Int)), some (.int ((a + k : Nat) : Int)), none] ∧ Xt T H H') text.length ⟨0, Nat.zero_le _, rfl, rfl, u1⟩ fun m σ' H' W => ?_
  obtain ⟨k, hk, rfl, rfl, u⟩ := W
  obtain ⟨n1, n2, n3⟩ := tw_next (p := isWord) hk
  have hd : (text.drop a)[k]? = text[a + k]? := by rw [List.getElem?_drop]
  rw [hd] at n1 n2 n3
  have fin : ∀ (D : Ends) (H2 : Hp), Xt T H H2 → D.rt = Q → k = ((text.drop a).takeWhile isWord).length → Wb (CxE P w K mg base Nnameat "name_at" s_nameat f cdv A outer s H E) ((defBody s_nameat).drop 2) D [some v1, some (.int (a : Int)), some (.int ((a + k : Nat) : Int)), none] H2 := fun D H2 u2 hD ek => by
    refine wb_if (T := T) (k := decide (16 < k)) (EvT.is (et_cmp (x := ((a + k : Nat) : Int) - (a : Int)) (y := (16 : Int)) cmp_gt (ev_sub (vr 2 (R := RI) rfl) (vr 1 (R := RI) rfl)) (ev_gi g.gMOST_NAME)) (decide_eq_decide.mpr ⟨fun h => by omega, fun h => by omega⟩)) (fun kk H3 u3 => ?_) fun kk H3 u3 => ?_
    · have h16 : 16 < k := of_decide_eq_true kk
      refine wb_fault (T := T) (f := ⟨2, a⟩) (E := E) rfl takeE (fun _ _ _ _ h => h) MF hr (by decide) (Ev.to (ev_gi g.gNO_TOKEN) fun _ _ _ h => h) (vr 1 (R := RN) rfl) (FE.up (her ?_) (u2.trans u3))
      unfold nameTk
      rw [if_pos (by rw [← ek]; exact h16)]
    · refine wb_nil ?_
      have h16 : ¬ 16 < k := of_decide_eq_false kk
      have u23 := u2.trans u3
      have ecut : cut text (some (a : Int)) (some ((a + k : Nat) : Int)) = (text.drop a).takeWhile isWord := by
        rw [cut_nat text a (a + k) (by omega) (by omega), Nat.add_sub_cancel_left, ek, take_tw]
      refine wb_set (T := T) (R := RM RU) (x := (text.drop a).takeWhile isWord) 3 ?_ (fun vt H4 u4 rt => ?_) sc_nameat.nd
      · rw [← ecut]
        refine ev_slice ?_ (eo_some ?_) (eo_some ?_)
        · exact vr 0 (Mono.mono u23 h1)
        · exact vr 1 (R := RI) rfl
        · exact vr 2 (R := RI) rfl
      refine wb_ret (T := T) (R := RP K (RTok c) RN) (x := (⟨a, .name ((text.drop a).takeWhile isWord)⟩, a + k)) ?_ fun v' H5 u5 r => ?_
      · exact ev_pair (ev_mktok MT hr (by decide) (ev_c1 dW hr (by decide) ((u23.trans u4).tb ht) (vr 3 rt.rl) trivial) (vr (R := RTold) (x := .name ((text.drop a).takeWhile isWord)) 3 rt) (vr 1 (R := RN) rfl)) (vr 2 (R := RN) rfl)
      · rw [hD]
        refine hok (.name ((text.drop a).takeWhile isWord)) k ?_ v' H5 (u23.trans (u4.trans u5)) r
        unfold nameTk
        rw [if_neg (by rw [← ek]; exact h16), ← ek]
  have cond : ∀ bb, text[a + k]? = some bb → EvT T (CxE P w K mg base Nnameat "name_at" s_nameat f cdv A outer s H E) (match stm s_nameat 1 with | .While (.BoolOp _ [_, c] _) _ _ _ => c | _ => .Constant .none 0 ⟨0, 0, 0, 0⟩) [some v1, some (.int (a : Int)), some (.int ((a + k : Nat) : Int)), none] H' (isWord bb) := fun bb hb =>
    et_or (k := VamvsBase.isLetter bb) (m := VamvsBase.isDigit bb) (et_val (ev_c1 dL hr (by decide) (u.tb ht) (ev_item (R := RU) (i := a + k) (l := text) (vr 0 (Mono.mono u h1)) (vr 2 (R := RI) rfl) hb) trivial)) fun _ => et_val (ev_c1 dD hr (by decide) (u.tb ht) (ev_item (R := RU) (i := a + k) (l := text) (vr 0 (Mono.mono u h1)) (vr 2 (R := RI) rfl) hb) trivial)
  have eless : EvT T (CxE P w K mg base Nnameat "name_at" s_nameat f cdv A outer s H E) (match stm s_nameat 1 with | .While (.BoolOp _ [c, _] _) _ _ _ => c | _ => .Constant .none 0 ⟨0, 0, 0, 0⟩) [some v1, some (.int (a : Int)), some (.int ((a + k : Nat) : Int)), none] H' (decide (a + k < text.length)) :=
    EvT.is (et_cmp (x := ((a + k : Nat) : Int)) (y := (text.length : Int)) cmp_lt (vr 2 (R := RI) rfl) (ev_len g.len (vr 0 (Mono.mono u h1)))) (decide_eq_decide.mpr ⟨fun h => by omega, fun h => by omega⟩)
  by_cases hlt : a + k < text.length
  · have hb : text[a + k]? = some text[a + k] := List.getElem?_eq_getElem hlt
    refine (et_and (T := T) (EvT.is eless (decide_eq_true hlt)) fun _ => cond _ hb).now fun H2 u2 => ?_
    rw [Bool.true_and]
    by_cases hw : isWord text[a + k] = true
    · rw [if_pos hw]
      have hk1 := (n1 _ hb hw).1
      refine wb_augI (T := T) 2 rfl ev_int (fun H3 u3 => wb_nil ⟨text.length - (k + 1), by omega, k + 1, hk1, rfl, ?_, u.trans (u2.trans u3)⟩) sc_nameat.nd
      rw [show ((a + (k + 1) : Nat) : Int) = ((a + k : Nat) : Int) + 1 by omega]
      rfl
    · rw [if_neg hw]
      exact fin _ H2 (u.trans u2) rfl (n2 _ hb (by simpa using hw))
  · refine (et_and (T := T) (m := false) (EvT.is eless (decide_eq_false hlt)) fun z => by cases z).now fun H2 u2 => ?_
    rw [if_neg (by decide)]
    exact fin _ H2 (u.trans u2) rfl (n3 (List.getElem?_eq_none (by omega)))
end G5
/-! T3: number_at, token_at. -/
namespace G5
open PySem PySem.Spec PyProof.Rows L2
variable {T : List NTab} {P : Program} {w : World} {K : PySem.W.Frag} {mg : Str → Option Value} {base : Heap} {c : Cs}
def numTk (l : List UInt8) : Option (VamvsBase.Tok × Nat) := (VamvsBase.numberOf (l.takeWhile VamvsBase.isDigit)).map fun n => (.num n, (l.takeWhile VamvsBase.isDigit).length)
theorem dec_snoc (l : List UInt8) (b : UInt8) : VamvsBase.decimal (l ++ [b]) = 10 * VamvsBase.decimal l + (b.toNat - 48) := by
  unfold VamvsBase.decimal
  rw [List.foldl_append]
  rfl
theorem dec_big : ∀ (l : List UInt8) (n : Nat), 1 ≤ n → 10 ^ l.length * n ≤ l.foldl (fun n b => 10 * n + (b.toNat - 48)) n
  | [], n, h => by simp
  | b :: r, n, h => by
    rw [List.foldl_cons, List.length_cons, Nat.pow_succ]
    have h1 := dec_big r (10 * n + (b.toNat - 48)) (by omega)
    refine Nat.le_trans ?_ h1
    rw [Nat.mul_assoc]
    exact Nat.mul_le_mul_left _ (by omega)
/-- the number that digits tell, refused as the program does -/
theorem num_law {l : List UInt8} (h0 : l ≠ []) (hd : ∀ b ∈ l, VamvsBase.isDigit b = true) : VamvsBase.numberOf l = if 1000000000 < VamvsBase.decimal l ∨ (l.head? = some 48 ∧ 1 < l.length) then none else some (VamvsBase.decimal l) := by
  unfold VamvsBase.numberOf VamvsBase.NUMBER
  by_cases h1 : 1000000000 < VamvsBase.decimal l ∨ (l.head? = some 48 ∧ 1 < l.length)
  · rw [if_pos h1, if_pos]
    rcases h1 with h1 | h1
    · exact .inr (.inr (.inr h1))
    · exact .inr (.inr (.inl ⟨h1.2, h1.1⟩))
  · rw [if_neg h1, if_neg]
    rintro (h2 | h2 | h2 | h2)
    · exact h0 h2
    · match l, h0, hd, h1, h2 with
      | b :: r, _, hd, h1, h2 =>
        apply h1
        by_cases e : b = 48
        · exact .inr ⟨by rw [e]; rfl, by rw [List.length_cons] at h2 ⊢; omega⟩
        · left
          have hb := hd b (List.mem_cons_self ..)
          unfold VamvsBase.isDigit at hb
          have hb := of_decide_eq_true hb
          have hb2 : b.toNat ≠ 48 := fun z => e (UInt8.toNat_inj.mp z)
          unfold VamvsBase.decimal
          rw [List.foldl_cons]
          have h3 := dec_big r (10 * 0 + (b.toNat - 48)) (by omega)
          rw [List.length_cons] at h2
          have h4 : 10 ^ 10 ≤ 10 ^ r.length := Nat.pow_le_pow_right (by decide) (by omega)
          have h5 : 10 ^ r.length * 1 ≤ 10 ^ r.length * (10 * 0 + (b.toNat - 48)) := Nat.mul_le_mul_left _ (by omega)
          omega
    · exact h1 (.inr ⟨h2.2, h2.1⟩)
    · exact h1 (.inl h2)
theorem tw_all {p : UInt8 → Bool} : ∀ (l : List UInt8), ∀ b ∈ l.takeWhile p, p b = true
  | [], b, h => by cases h
  | x :: r, b, h => by
    by_cases hx : p x = true
    · rw [List.takeWhile_cons, if_pos hx] at h
      rcases List.mem_cons.mp h with e | e
      · rw [e]; exact hx
      · exact tw_all r b e
    · rw [List.takeWhile_cons, if_neg hx] at h
      cases h
abbrev s_numat : Stmt := top 48
def Nnumat : List Str := ["text", "at", "end", "found"]
theorem sc_numat : FnScope Nnumat ["text", "at"] (defScope s_numat) := ⟨rfl, rfl, rfl, by decide +kernel, rfl, by decide +kernel, by decide +kernel⟩
theorem ok_numat {f : Addr} {fd : FuncData} (g : Gf K mg c) (dD : Df P w K mg base CX0 1 "is_digit" ["byte"] (Sp1 T RU RB (fun _ => True) VamvsBase.isDigit)) (MF : MkFault P w K mg base c) (MT : MkTok T P w K mg base c)
    (F : Fun K "number_at" "number_at" s_numat f fd) (hm : mg "number_at" = some (.ref f)) (b : Binds K fd ["text", "at"] []) :
    Df P w K mg base (L2.CX P w) 3 "number_at" ["text", "at"] (SpTk T K c (fun l => ∃ b, l.head? = some b ∧ VamvsBase.isDigit b = true) numTk) := by
  refine okE F hm b sc_numat sptk_len fun cdv A outer s H vs Q E hr h => ?_
  obtain ⟨ht, v1, v2, text, a, rfl, h1, h2, ha, hlen, ⟨hb0, hh0, hd0⟩, hok, her⟩ := h
  cases h2
  refine wb_set (T := T) (R := RN) (x := a) 2 (vr 1 rfl) (fun ve H1 u1 re => ?_) sc_numat.nd
  cases re
  refine wb_set (T := T) (R := RI) (x := 0) 3 ev_int (fun vf H1' u1' rf => ?_) sc_numat.nd
  cases rf
  have hwl := tw_le (p := VamvsBase.isDigit) (text.drop a)
  rw [List.length_drop] at hwl
  have hne : (text.drop a).takeWhile VamvsBase.isDigit ≠ [] := by
    obtain ⟨b2, e1, e2⟩ := drop_cons ha
    rw [e2] at hh0 ⊢
    have e3 : b2 = hb0 := by simpa using hh0
    subst e3
    rw [List.takeWhile_cons, if_pos hd0]
    exact fun z => by cases z
  have hhead : ((text.drop a).takeWhile VamvsBase.isDigit).head? = text[a]? := by
    obtain ⟨b2, e1, e2⟩ := drop_cons ha
    rw [e2] at hh0 ⊢
    have e3 : b2 = hb0 := by simpa using hh0
    subst e3
    rw [List.takeWhile_cons, if_pos hd0, e1]
    rfl
  have hlaw := num_law hne (tw_all (text.drop a))
  refine wb_while poE (fun m σ' H' => ∃ k : Nat, k ≤ ((text.drop a).takeWhile VamvsBase.isDigit).length ∧ m = text.length - k ∧ σ' = [some v1, some (.int (a : Int)), some (.int ((a + k : Nat) : Int)), some (.int (VamvsBase.decimal (((text.drop a).takeWhile VamvsBase.isDigit).take k) : Int))] ∧ Xt T H H') text.length ⟨0, Nat.zero_le _, rfl, rfl, u1.trans u1'⟩ fun m σ' H' W => ?_
  obtain ⟨k, hk, rfl, rfl, u⟩ := W
  obtain ⟨n1, n2, n3⟩ := tw_next (p := VamvsBase.isDigit) hk
  have hd : (text.drop a)[k]? = text[a + k]? := by rw [List.getElem?_drop]
  rw [hd] at n1 n2 n3
  have fin : ∀ (D : Ends) (H2 : Hp), Xt T H H2 → D.rt = Q → k = ((text.drop a).takeWhile VamvsBase.isDigit).length → Wb (CxE P w K mg base Nnumat "number_at" s_numat f cdv A outer s H E) ((defBody s_numat).drop 3) D [some v1, some (.int (a : Int)), some (.int ((a + k : Nat) : Int)), some (.int (VamvsBase.decimal (((text.drop a).takeWhile VamvsBase.isDigit).take k) : Int))] H2 := fun D H2 u2 hD ek => by
    have et : ((text.drop a).takeWhile VamvsBase.isDigit).take k = (text.drop a).takeWhile VamvsBase.isDigit := by rw [ek, List.take_length]
    rw [et]
    have hat : text[a]? = some text[a] := List.getElem?_eq_getElem ha
    refine wb_if (T := T) (k := decide (1000000000 < VamvsBase.decimal ((text.drop a).takeWhile VamvsBase.isDigit)) || ((text[a] == 48) && decide (1 < k))) (et_or (EvT.is (et_cmp (x := (VamvsBase.decimal ((text.drop a).takeWhile VamvsBase.isDigit) : Int)) (y := (1000000000 : Int)) cmp_gt (vr 3 (R := RI) rfl) (ev_gi g.gMOST_NUMBER)) (decide_eq_decide.mpr ⟨fun h => by omega, fun h => by omega⟩))
      fun _ => et_and (EvT.is (et_cmp (x := (text[a].toNat : Int)) (y := (48 : Int)) cmp_eq (Ev.to (R := RU) (ev_item (R := RU) (i := a) (l := text) (vr 0 (Mono.mono u2 h1)) (vr 1 (R := RI) rfl) hat) fun _ _ _ h => h) ev_int) (u8_eq text[a] 48 (by decide))) fun _ => EvT.is (et_cmp (x := ((a + k : Nat) : Int)) (y := (a : Int) + 1) cmp_gt (vr 2 (R := RI) rfl) (ev_add (vr 1 (R := RI) rfl) ev_int)) (decide_eq_decide.mpr ⟨fun h => by omega, fun h => by omega⟩)) (fun kk H3 u3 => ?_) fun kk H3 u3 => ?_
    · have kk' : 1000000000 < VamvsBase.decimal ((text.drop a).takeWhile VamvsBase.isDigit) ∨ (((text.drop a).takeWhile VamvsBase.isDigit).head? = some 48 ∧ 1 < ((text.drop a).takeWhile VamvsBase.isDigit).length) := by
        rw [Bool.or_eq_true, Bool.and_eq_true] at kk
        rcases kk with z | ⟨z1, z2⟩
        · exact .inl (of_decide_eq_true z)
        · exact .inr ⟨by rw [hhead, hat, eq_of_beq z1], by rw [← ek]; exact of_decide_eq_true z2⟩
      refine wb_fault (T := T) (f := ⟨2, a⟩) (E := E) rfl takeE (fun _ _ _ _ h => h) MF hr (by decide) (Ev.to (ev_gi g.gNO_TOKEN) fun _ _ _ h => h) (vr 1 (R := RN) rfl) (FE.up (her ?_) (u2.trans u3))
      unfold numTk
      rw [hlaw, if_pos kk']
      rfl
    · refine wb_nil ?_
      have kk' : ¬ (1000000000 < VamvsBase.decimal ((text.drop a).takeWhile VamvsBase.isDigit) ∨ (((text.drop a).takeWhile VamvsBase.isDigit).head? = some 48 ∧ 1 < ((text.drop a).takeWhile VamvsBase.isDigit).length)) := by
        rintro (z | ⟨z1, z2⟩)
        · rw [decide_eq_true z] at kk; cases kk
        · rw [hhead, hat] at z1
          rw [Option.some.inj z1, decide_eq_true (show 1 < k by rw [ek]; exact z2), show ((48 : UInt8) == 48) = true from rfl, Bool.and_self, Bool.or_true] at kk
          cases kk
      refine wb_ret (T := T) (R := RP K (RTok c) RN) (x := (⟨a, .num (VamvsBase.decimal ((text.drop a).takeWhile VamvsBase.isDigit))⟩, a + k)) ?_ fun v' H5 u5 r => ?_
      · exact ev_pair (ev_mktok MT hr (by decide) (ev_gs g.gNUMBER) (vr (R := RTold) (x := .num (VamvsBase.decimal ((text.drop a).takeWhile VamvsBase.isDigit))) 3 rfl) (vr 1 (R := RN) rfl)) (vr 2 (R := RN) rfl)
      · rw [hD]
        refine hok (.num (VamvsBase.decimal ((text.drop a).takeWhile VamvsBase.isDigit))) k ?_ v' H5 (u2.trans (u3.trans u5)) r
        unfold numTk
        rw [hlaw, if_neg kk', ← ek]
        rfl
  have eless : EvT T (CxE P w K mg base Nnumat "number_at" s_numat f cdv A outer s H E) (match stm s_numat 2 with | .While (.BoolOp _ [c, _] _) _ _ _ => c | _ => .Constant .none 0 ⟨0, 0, 0, 0⟩) [some v1, some (.int (a : Int)), some (.int ((a + k : Nat) : Int)), some (.int (VamvsBase.decimal (((text.drop a).takeWhile VamvsBase.isDigit).take k) : Int))] H' (decide (a + k < text.length)) :=
    EvT.is (et_cmp (x := ((a + k : Nat) : Int)) (y := (text.length : Int)) cmp_lt (vr 2 (R := RI) rfl) (ev_len g.len (vr 0 (Mono.mono u h1)))) (decide_eq_decide.mpr ⟨fun h => by omega, fun h => by omega⟩)
  by_cases hlt : a + k < text.length
  · have hb : text[a + k]? = some text[a + k] := List.getElem?_eq_getElem hlt
    refine (et_and (T := T) (m := VamvsBase.isDigit text[a + k]) (EvT.is eless (decide_eq_true hlt)) fun _ => et_val (ev_c1 dD hr (by decide) (u.tb ht) (ev_item (R := RU) (i := a + k) (l := text) (vr 0 (Mono.mono u h1)) (vr 2 (R := RI) rfl) hb) trivial)).now fun H2 u2 => ?_
    rw [Bool.true_and]
    by_cases hw : VamvsBase.isDigit text[a + k] = true
    · rw [if_pos hw]
      obtain ⟨hk1, hk2⟩ := n1 _ hb hw
      have h48 : 48 ≤ text[a + k].toNat := by
        unfold VamvsBase.isDigit at hw
        exact (of_decide_eq_true hw).1
      refine wb_set (T := T) (R := RN) (x := VamvsBase.decimal (((text.drop a).takeWhile VamvsBase.isDigit).take (k + 1))) 3 ?_ (fun vz H3 u3 rz => ?_) sc_numat.nd
      · refine Ev.to (ev_sub (i := (VamvsBase.decimal (((text.drop a).takeWhile VamvsBase.isDigit).take k) : Int) * 10 + (text[a + k].toNat : Int)) (j := 48) (ev_add (ev_mul (.inr ⟨by decide, by decide⟩) (vr 3 (R := RI) rfl) ev_int) (Ev.to (R := RU) (ev_item (R := RU) (i := a + k) (l := text) (vr 0 (Mono.mono (u.trans u2) h1)) (vr 2 (R := RI) rfl) hb) fun _ _ _ h => h)) ev_int) fun _ _ _ h => ?_
        rw [take_snoc hk2, dec_snoc]
        have e9 : ((10 * VamvsBase.decimal (((text.drop a).takeWhile VamvsBase.isDigit).take k) + (text[a + k].toNat - 48) : Nat) : Int) = (VamvsBase.decimal (((text.drop a).takeWhile VamvsBase.isDigit).take k) : Int) * 10 + (text[a + k].toNat : Int) - 48 := by omega
        show _ = V.int _
        rw [e9]
        exact h
      · cases rz
        refine wb_augI (T := T) 2 rfl ev_int (fun H4 u4 => wb_nil ⟨text.length - (k + 1), by omega, k + 1, hk1, rfl, ?_, u.trans (u2.trans (u3.trans u4))⟩) sc_numat.nd
        rw [show ((a + (k + 1) : Nat) : Int) = ((a + k : Nat) : Int) + 1 by omega]
        rfl
    · rw [if_neg hw]
      exact fin _ H2 (u.trans u2) rfl (n2 _ hb (by simpa using hw))
  · refine (et_and (T := T) (m := false) (EvT.is eless (decide_eq_false hlt)) fun z => by cases z).now fun H2 u2 => ?_
    rw [if_neg (by decide)]
    exact fin _ H2 (u.trans u2) rfl (n3 (List.getElem?_eq_none (by omega)))
/-! ### token_at -/
abbrev s_tokat : Stmt := top 49
def Ntokat : List Str := ["text", "at", "sign"]
theorem sc_tokat : FnScope Ntokat ["text", "at"] (defScope s_tokat) := ⟨rfl, rfl, rfl, by decide +kernel, rfl, by decide +kernel, by decide +kernel⟩
def signs4 : Str := ",:;-"
theorem signs_list : signs4.cps.toList = [44, 58, 59, 45] := by decide +kernel
theorem ok_tokat {f : Addr} {fd : FuncData} (g : Gf K mg c) (dL : Df P w K mg base CX0 1 "is_letter" ["byte"] (Sp1 T RU RB (fun _ => True) VamvsBase.isLetter)) (dD : Df P w K mg base CX0 1 "is_digit" ["byte"] (Sp1 T RU RB (fun _ => True) VamvsBase.isDigit))
    (dN : Df P w K mg base (L2.CX P w) 3 "name_at" ["text", "at"] (SpTk T K c (fun _ => True) nameTk)) (dM : Df P w K mg base (L2.CX P w) 3 "number_at" ["text", "at"] (SpTk T K c (fun l => ∃ b, l.head? = some b ∧ VamvsBase.isDigit b = true) numTk))
    (MF : MkFault P w K mg base c) (MT : MkTok T P w K mg base c) (F : Fun K "token_at" "token_at" s_tokat f fd) (hm : mg "token_at" = some (.ref f)) (b : Binds K fd ["text", "at"] []) :
    Df P w K mg base (L2.CX P w) 4 "token_at" ["text", "at"] (SpTk T K c (fun _ => True) VamvsBase.token) := by
  refine okE F hm b sc_tokat sptk_len fun cdv A outer s H vs Q E hr h => ?_
  obtain ⟨ht, v1, v2, text, a, rfl, h1, h2, ha, hlen, _, hok, her⟩ := h
  cases h2
  obtain ⟨bb, hb, hd⟩ := drop_cons ha
  refine wb_if (T := T) (et_val (ev_c1 dL hr (by decide) ht (ev_item (R := RU) (i := a) (l := text) (vr 0 h1) (vr 1 (R := RI) rfl) hb) trivial)) (fun kk H2 u2 => ?_) fun kk H2 u2 => wb_nil ?_
  · have kk : VamvsBase.isLetter bb = true := kk
    have etk : VamvsBase.token (text.drop a) = nameTk (text.drop a) := by
      rw [hd]
      show (if VamvsBase.isLetter bb = true then _ else _) = _
      rw [if_pos kk]
      rfl
    refine wb_cons (Ws.of (ps_ret we) (we_callE takeE (fun _ _ _ _ h => h) dN hr (by decide) (((ea_cons (T := T) (R := RL K RU) (x := text) (vr 0 (Mono.mono u2 h1)) (ea_cons (R := RN) (x := a) (vr 1 rfl) ea_nil))) H2 (Xt.refl _) _ fun vs H3 u3 ⟨v, r, k1, k2, u, r', k3, k4, k5⟩ => ?_)))
    subst k1 k3 k5
    have uu := u2.trans u3
    exact ⟨uu.tb ht, v, u, text, a, rfl, k2, k4, ha, hlen, trivial, fun t n he v H4 u4 r => hok t n (etk.trans he) v H4 (uu.trans u4) r, fun he => FE.up (her (etk.trans he)) uu⟩
  have nl : VamvsBase.isLetter bb = false := kk
  refine wb_if (T := T) (et_val (ev_c1 dD hr (by decide) (u2.tb ht) (ev_item (R := RU) (i := a) (l := text) (vr 0 (Mono.mono u2 h1)) (vr 1 (R := RI) rfl) hb) trivial)) (fun kk H3 u3 => ?_) fun kk H3 u3 => wb_nil ?_
  · have kk : VamvsBase.isDigit bb = true := kk
    have etk : VamvsBase.token (text.drop a) = numTk (text.drop a) := by
      rw [hd]
      show (if VamvsBase.isLetter bb = true then _ else if VamvsBase.isDigit bb = true then _ else _) = _
      rw [if_neg (by rw [nl]; decide), if_pos kk]
      rfl
    refine wb_cons (Ws.of (ps_ret we) (we_callE takeE (fun _ _ _ _ h => h) dM hr (by decide) (((ea_cons (T := T) (R := RL K RU) (x := text) (vr 0 (Mono.mono (u2.trans u3) h1)) (ea_cons (R := RN) (x := a) (vr 1 rfl) ea_nil))) H3 (Xt.refl _) _ fun vs H4 u4 ⟨v, r, k1, k2, u, r', k3, k4, k5⟩ => ?_)))
    subst k1 k3 k5
    have uu := u2.trans (u3.trans u4)
    exact ⟨uu.tb ht, v, u, text, a, rfl, k2, k4, ha, hlen, ⟨bb, by rw [hd]; rfl, kk⟩, fun t n he v H4 u4 r => hok t n (etk.trans he) v H4 (uu.trans u4) r, fun he => FE.up (her (etk.trans he)) uu⟩
  have nd : VamvsBase.isDigit bb = false := kk
  have etk : VamvsBase.token (text.drop a) = if VamvsBase.SIGNS.contains bb = true then some (.sign bb.toNat, 1) else none := by
    rw [hd]
    show (if VamvsBase.isLetter bb = true then _ else if VamvsBase.isDigit bb = true then _ else _) = _
    rw [if_neg (by rw [nl]; decide), if_neg (by rw [nd]; decide)]
  have u23 := u2.trans u3
  have esg : VamvsBase.SIGNS.contains bb = signs4.cps.toList.any fun d => decide (d = bb.toNat) := by
    rw [signs_list]
    unfold VamvsBase.SIGNS
    have key : ∀ k : Nat, k < 256 → (bb == UInt8.ofNat k) = decide (k = bb.toNat) := fun k hk => by
      rw [← u8_eq bb k hk]
      exact decide_eq_decide.mpr ⟨fun h => by omega, fun h => by omega⟩
    rw [List.contains_cons, List.contains_cons, List.contains_cons, List.contains_cons, List.contains_nil, List.any_cons, List.any_cons, List.any_cons, List.any_cons, List.any_nil]
    rw [← key 44 (by decide), ← key 58 (by decide), ← key 59 (by decide), ← key 45 (by decide)]
    rfl
  refine wb_forS (T := T) (x := signs4) 2 poE rfl sc_tokat.nd (ev_gs g.gSIGNS) (fun i σ' H' => Xt T H H' ∧ (∃ o, σ' = [some v1, some (.int (a : Int)), o]) ∧ ∀ d ∈ signs4.cps.toList.take i, decide (d = bb.toNat) = false) (fun H1 u => ⟨u23.trans u, ⟨none, rfl⟩, fun d hd => by simp at hd⟩) (fun i d σ' H' hx w => ?_) fun σ' H' w => ?_
  · obtain ⟨u, ⟨o, rfl⟩, hw⟩ := w
    refine wb_if (T := T) (k := decide (d = bb.toNat)) (EvT.is (et_cmp (x := (d : Int)) (y := (bb.toNat : Int)) cmp_eq (ev_ord g.ord (by decide +kernel) (vr 2 (R := RS) rfl)) (Ev.to (R := RU) (ev_item (R := RU) (i := a) (l := text) (vr 0 (Mono.mono u h1)) (vr 1 (R := RI) rfl) hb) fun _ _ _ h => h)) (decide_eq_decide.mpr ⟨fun h => by omega, fun h => by omega⟩)) (fun kk H4 u4 => ?_) fun kk H4 u4 => wb_nil (wb_nil ⟨u.trans u4, ⟨_, rfl⟩, take_all hw hx kk⟩)
    have ed : d = bb.toNat := of_decide_eq_true kk
    refine wb_ret (T := T) (R := RP K (RTok c) RN) (x := (⟨a, .sign d⟩, a + 1)) ?_ fun v' H5 u5 r => ?_
    · refine ev_pair ?_ ?_
      · refine ev_mktok (t := .sign d) MT hr (by decide) ?_ ?_ ?_
        · exact vr 2 (R := RS) rfl
        · exact Ev.to (R := RV) (vr 2 (R := RV) rfl) fun _ _ _ _ => trivial
        · exact vr 1 (R := RN) rfl
      · exact Ev.to (ev_add (i := (a : Int)) (j := 1) (vr 1 (R := RI) rfl) ev_int) fun _ _ _ h => h
    · refine hok (.sign d) 1 ?_ v' H5 (u.trans (u4.trans u5)) r
      rw [etk, if_pos, ed]
      rw [esg]
      exact List.any_eq_true.mpr ⟨d, List.mem_of_getElem? hx, kk⟩
  · obtain ⟨u, ⟨o, rfl⟩, hw⟩ := w
    refine wb_fault (T := T) (f := ⟨2, a⟩) (E := E) rfl takeE (fun _ _ _ _ h => h) MF hr (by decide) (Ev.to (ev_gi g.gNO_TOKEN) fun _ _ _ h => h) (vr 1 (R := RN) rfl) (FE.up (her ?_) u)
    rw [etk, if_neg]
    rw [esg]
    intro z
    obtain ⟨d, hd1, hd2⟩ := List.any_eq_true.mp z
    rw [List.take_length] at hw
    rw [hw d hd1] at hd2
    cases hd2
end G5
/-! M2: the specification's lexer step by step. -/
namespace G5
open PySem PySem.Spec PyProof.Rows L2
open VamvsBase (lex token isBlank isDigit isLetter Toks PTok Fault)
theorem token_pos {l : List UInt8} {t : VamvsBase.Tok} {k : Nat} (h : token l = some (t, k)) : 1 ≤ k ∧ k ≤ l.length := by
  match l with
  | [] => cases h
  | b :: r =>
    have h : (if isLetter b = true then (let w := (b :: r).takeWhile fun c => isLetter c || isDigit c
      if VamvsBase.NAME < w.length then none else some (VamvsBase.Tok.name w, w.length)) else if isDigit b = true then (VamvsBase.numberOf ((b :: r).takeWhile isDigit)).map fun n => (VamvsBase.Tok.num n, ((b :: r).takeWhile isDigit).length)
      else if VamvsBase.SIGNS.contains b = true then some (VamvsBase.Tok.sign b.toNat, 1) else none) = some (t, k) := h
    by_cases h1 : isLetter b = true
    · rw [if_pos h1] at h
      by_cases h2 : VamvsBase.NAME < ((b :: r).takeWhile fun c => isLetter c || isDigit c).length
      · rw [if_pos h2] at h; cases h
      · rw [if_neg h2] at h
        have e := (Prod.mk.inj (Option.some.inj h)).2
        have := tw_le (p := fun c => isLetter c || isDigit c) (b :: r)
        rw [List.takeWhile_cons, if_pos (by rw [h1]; rfl)] at e this
        rw [List.length_cons] at e this
        omega
    · rw [if_neg h1] at h
      by_cases h2 : isDigit b = true
      · rw [if_pos h2] at h
        obtain ⟨n, _, e⟩ := Option.map_eq_some_iff.mp h
        have e := (Prod.mk.inj e).2
        have := tw_le (p := isDigit) (b :: r)
        rw [List.takeWhile_cons, if_pos h2] at e this
        rw [List.length_cons] at e this
        omega
      · rw [if_neg h2] at h
        by_cases h3 : VamvsBase.SIGNS.contains b = true
        · rw [if_pos h3] at h
          have e := (Prod.mk.inj (Option.some.inj h)).2
          rw [List.length_cons]
          omega
        · rw [if_neg h3] at h; cases h
theorem dw_le {p : UInt8 → Bool} (l : List UInt8) : (l.dropWhile p).length ≤ l.length := List.Sublist.length_le (List.dropWhile_sublist p)
theorem lex_fuel : ∀ (n m a : Nat) (l : List UInt8), l.length < n → l.length < m → lex n a l = lex m a l
  | 0, _, _, _, h, _ => by omega
  | _ + 1, 0, _, _, _, h => by omega
  | n + 1, m + 1, a, [], _, _ => rfl
  | n + 1, m + 1, a, b :: r, h1, h2 => by
    rw [List.length_cons] at h1 h2
    show (if isBlank b = true then lex n (a + 1) r else if b == 35 then lex n (a + 1 + (r.takeWhile (· != 10)).length) (r.dropWhile (· != 10)) else match token (b :: r) with
      | none => .error ⟨2, a⟩
      | some x => (lex n (a + x.2) ((b :: r).drop x.2)).map fun l => ⟨a, x.1⟩ :: l) = if isBlank b = true then lex m (a + 1) r else if b == 35 then lex m (a + 1 + (r.takeWhile (· != 10)).length) (r.dropWhile (· != 10)) else match token (b :: r) with
      | none => .error ⟨2, a⟩
      | some x => (lex m (a + x.2) ((b :: r).drop x.2)).map fun l => ⟨a, x.1⟩ :: l
    by_cases h3 : isBlank b = true
    · rw [if_pos h3, if_pos h3]
      exact lex_fuel n m _ _ (by omega) (by omega)
    · rw [if_neg h3, if_neg h3]
      by_cases h4 : (b == 35) = true
      · rw [if_pos h4, if_pos h4]
        have := dw_le (p := (· != 10)) r
        exact lex_fuel n m _ _ (by omega) (by omega)
      · rw [if_neg h4, if_neg h4]
        cases ht : token (b :: r) with
        | none => rfl
        | some x =>
          obtain ⟨t, k⟩ := x
          have hk := token_pos ht
          show (lex n (a + k) ((b :: r).drop k)).map _ = (lex m (a + k) ((b :: r).drop k)).map _
          rw [lex_fuel n m (a + k) ((b :: r).drop k) (by rw [List.length_drop, List.length_cons]; omega) (by rw [List.length_drop, List.length_cons]; omega)]
def lx1 (a : Nat) (l : List UInt8) : Except Fault Toks := lex (l.length + 1) a l
theorem lx1_nil (a : Nat) : lx1 a [] = .ok [⟨a, .last⟩] := rfl
theorem lx1_cons (a : Nat) (b : UInt8) (r : List UInt8) : lx1 a (b :: r) = if isBlank b = true then lx1 (a + 1) r else if b == 35 then lx1 (a + 1 + (r.takeWhile (· != 10)).length) (r.dropWhile (· != 10)) else match token (b :: r) with
      | none => .error ⟨2, a⟩
      | some x => (lx1 (a + x.2) ((b :: r).drop x.2)).map fun l => ⟨a, x.1⟩ :: l := by
  unfold lx1
  show (if isBlank b = true then lex (r.length + 1) (a + 1) r else if b == 35 then lex (r.length + 1) (a + 1 + (r.takeWhile (· != 10)).length) (r.dropWhile (· != 10)) else match token (b :: r) with
      | none => .error ⟨2, a⟩
      | some x => (lex (r.length + 1) (a + x.2) ((b :: r).drop x.2)).map fun l => ⟨a, x.1⟩ :: l) = _
  by_cases h3 : isBlank b = true
  · rw [if_pos h3, if_pos h3]
  · rw [if_neg h3, if_neg h3]
    by_cases h4 : (b == 35) = true
    · rw [if_pos h4, if_pos h4]
      have := dw_le (p := (· != 10)) r
      exact lex_fuel _ _ _ _ (by omega) (by omega)
    · rw [if_neg h4, if_neg h4]
      cases ht : token (b :: r) with
      | none => rfl
      | some x =>
        obtain ⟨t, k⟩ := x
        have hk := token_pos ht
        show (lex (r.length + 1) (a + k) ((b :: r).drop k)).map _ = (lex (((b :: r).drop k).length + 1) (a + k) ((b :: r).drop k)).map _
        rw [lex_fuel (r.length + 1) (((b :: r).drop k).length + 1) (a + k) ((b :: r).drop k) (by rw [List.length_drop, List.length_cons]; omega) (by omega)]
theorem skip_remark : ∀ r : List UInt8, skipB true r = (r.takeWhile (· != 10)).length + skipB false (r.dropWhile (· != 10))
  | [] => rfl
  | b :: r => by
    by_cases h : (b == 10) = true
    · have e : (b != 10) = false := by simpa using h
      have hb : isBlank b = true := by unfold isBlank; rw [h, Bool.or_true, Bool.or_true]
      rw [List.takeWhile_cons, List.dropWhile_cons, if_neg (by rw [e]; decide), if_neg (by rw [e]; decide), skipB, if_pos h, skipB, if_pos hb]
      exact (Nat.zero_add _).symm
    · have e : (b != 10) = true := by simpa using h
      rw [List.takeWhile_cons, List.dropWhile_cons, if_pos e, if_pos e, skipB, if_neg h, skip_remark r, List.length_cons]
      omega
theorem tw_dw (p : UInt8 → Bool) : ∀ r : List UInt8, r.drop (r.takeWhile p).length = r.dropWhile p
  | [] => rfl
  | b :: r => by
    by_cases h : p b = true
    · rw [List.takeWhile_cons, List.dropWhile_cons, if_pos h, if_pos h, List.length_cons, List.drop_succ_cons, tw_dw p r]
    · rw [List.takeWhile_cons, List.dropWhile_cons, if_neg h, if_neg h]; rfl
theorem lx1_skip : ∀ (n : Nat) (l : List UInt8) (a : Nat), l.length ≤ n → lx1 a l = lx1 (a + skipB false l) (l.drop (skipB false l))
  | _, [], a, _ => rfl
  | 0, b :: r, a, h => by rw [List.length_cons] at h; omega
  | n + 1, b :: r, a, h => by
    rw [List.length_cons] at h
    rw [lx1_cons, skipB]
    by_cases h3 : isBlank b = true
    · rw [if_pos h3, if_pos h3, lx1_skip n r (a + 1) (by omega), show 1 + skipB false r = skipB false r + 1 by omega, List.drop_succ_cons, show a + 1 + skipB false r = a + (skipB false r + 1) by omega]
    · rw [if_neg h3, if_neg h3]
      by_cases h4 : (b == 35) = true
      · rw [if_pos h4, if_pos h4]
        have h5 := dw_le (p := (· != 10)) r
        rw [lx1_skip n _ _ (by omega), skip_remark]
        rw [show 1 + ((r.takeWhile (· != 10)).length + skipB false (r.dropWhile (· != 10))) = ((r.takeWhile (· != 10)).length + skipB false (r.dropWhile (· != 10))) + 1 by omega, List.drop_succ_cons, ← List.drop_drop, tw_dw]
        congr 1
        omega
      · rw [if_neg h4, if_neg h4]
        show _ = lx1 (a + 0) ((b :: r).drop 0)
        rw [Nat.add_zero, List.drop_zero, lx1_cons, if_neg h3, if_neg h4]
/-- where nothing is to be skipped -/
theorem lx1_tok {a : Nat} {b : UInt8} {r : List UInt8} (h : skipB false (b :: r) = 0) : lx1 a (b :: r) = match token (b :: r) with
      | none => .error ⟨2, a⟩
      | some x => (lx1 (a + x.2) ((b :: r).drop x.2)).map fun l => ⟨a, x.1⟩ :: l := by
  rw [lx1_cons]
  rw [skipB] at h
  by_cases h3 : isBlank b = true
  · rw [if_pos h3] at h; omega
  · rw [if_neg h3] at h ⊢
    by_cases h4 : (b == 35) = true
    · rw [if_pos h4] at h; omega
    · rw [if_neg h4]
theorem skip_idem : ∀ (n : Nat) (f : Bool) (l : List UInt8), l.length ≤ n → skipB false (l.drop (skipB f l)) = 0
  | _, true, [], _ => rfl
  | _, false, [], _ => rfl
  | 0, _, b :: r, h => by rw [List.length_cons] at h; omega
  | n + 1, true, b :: r, h => by
    rw [List.length_cons] at h
    by_cases e : (b == 10) = true
    · rw [skipB, if_pos e, Nat.add_comm, List.drop_succ_cons]; exact skip_idem n false r (by omega)
    · rw [skipB, if_neg e, Nat.add_comm, List.drop_succ_cons]; exact skip_idem n true r (by omega)
  | n + 1, false, b :: r, h => by
    rw [List.length_cons] at h
    by_cases e : isBlank b = true
    · rw [skipB, if_pos e, Nat.add_comm, List.drop_succ_cons]; exact skip_idem n false r (by omega)
    · by_cases e2 : (b == 35) = true
      · rw [skipB, if_neg e, if_pos e2, Nat.add_comm, List.drop_succ_cons]; exact skip_idem n true r (by omega)
      · have z : skipB false (b :: r) = 0 := by rw [skipB, if_neg e, if_neg e2]
        rw [z]
        exact z
end G5
/-! T4: tokens_of. -/
namespace G5
open PySem PySem.Spec PyProof.Rows L2
variable {T : List NTab} {P : Program} {w : World} {K : PySem.W.Frag} {mg : Str → Option Value} {base : Heap} {c : Cs}
section
variable {X : Cx} {e : Expr} {σ : L2.St} {H : Hp} {D : Ends} {n m : Str} {pos p p1 p2 : Pos} {kk : Nat}
/-- a, b = a pair -/
theorem ws_asg2 (i j : Nat) (hc : X.calm = true) (hN : X.N.Nodup) (h : We X e σ H fun v H1 => ∃ t v1 v2, v = .ref t ∧ SqT X.K H1 t [v1, v2] ∧ D.nx ((σ.set i (some v1)).set j (some v2)) H1)
    (hi : X.N[i]? = some n := by rfl) (hx : Loc X.env.scope n := by first | exact .inl rfl | exact .inr rfl) (hf : X.fn n = true ∨ X.env.scope.names.lookup n = some .local := by exact .inl rfl)
    (hi2 : X.N[j]? = some m := by rfl) (hx2 : Loc X.env.scope m := by first | exact .inl rfl | exact .inr rfl) (hf2 : X.fn m = true ∨ X.env.scope.names.lookup m = some .local := by exact .inl rfl)
    (hn : (assignEach [.Name n p1, .Name m p2] X.env).length = 2 := by rfl) (hst : (assignEach [.Name n p1, .Name m p2] X.env).findIdx? (·.1) = none := by rfl) (g1 : (assignEach (.Name n p1 :: [.Name m p2]) X.env).map (·.2) = assign (.Name n p1) X.env :: (assignEach [.Name m p2] X.env).map (·.2) := by rfl)
    (g2 : (assignEach (.Name m p2 :: []) X.env).map (·.2) = assign (.Name m p2) X.env :: (assignEach [] X.env).map (·.2) := by rfl)
    (hs : swapsWithSole [.Tuple [.Name n p1, .Name m p2] kk p] e pos.line X.env = pure false := by rfl) (hw : swappedStores [.Tuple [.Name n p1, .Name m p2] kk p] e X.env = pure none := by rfl)
    (h1 : (assignEach [.Tuple [.Name n p1, .Name m p2] kk p] X.env).map (·.2) = [assign (.Tuple [.Name n p1, .Name m p2] kk p) X.env] := by rfl) : Ws X (.Assign [.Tuple [.Name n p1, .Name m p2] kk p] e pos) D σ H :=
  Ws.of (ps_asg we (pg_tup hc (pgs_cons (pg_name hN hi hx hf) (pgs_cons (pg_name hN hi2 hx2 hf2) pgs_nil g2) g1) hn hst) hs hw h1) (h.imp fun v H1 ⟨t, v1, v2, e1, e2, q⟩ => ⟨t, [v1, v2], e1, e2, rfl, v1, [v2], rfl, v2, [], rfl, rfl, q⟩)
end
/-- a def of a text that gives what r tells -/
def SpRes {α β : Type} (T : List NTab) (c : Cs) (R1 : Rp α) (R : Rp β) (pre : α → Prop) (r : α → Except VamvsBase.Fault β) : Sp := fun vs H Q E => Tb T H ∧ ∃ v1 x1, vs = [v1] ∧ R1 H v1 x1 ∧ pre x1 ∧ (∀ y, r x1 = .ok y → ∀ v H', Xt T H H' → R H' v y → Q v H') ∧ ∀ f, r x1 = .error f → FE T c E H f
abbrev s_tokensof : Stmt := top 50
def Ntokensof : List Str := ["text", "found", "at", "token"]
theorem sc_tokensof : FnScope Ntokensof ["text"] (defScope s_tokensof) := ⟨rfl, rfl, rfl, by decide +kernel, rfl, by decide +kernel, by decide +kernel⟩
theorem ok_tokensof {f : Addr} {fd : FuncData} (g : Gf K mg c) (dB : Df P w K mg base CX0 1 "begin_of" ["text", "at"] (Sp2 T (RL K RU) RN RN (fun text a => a ≤ text.length) fun text a => a + skipB false (text.drop a)))
    (dT : Df P w K mg base (L2.CX P w) 4 "token_at" ["text", "at"] (SpTk T K c (fun _ => True) VamvsBase.token)) (MF : MkFault P w K mg base c) (MT : MkTok T P w K mg base c)
    (F : Fun K "tokens_of" "tokens_of" s_tokensof f fd) (hm : mg "tokens_of" = some (.ref f)) (b : Binds K fd ["text"] []) :
    Df P w K mg base (L2.CX P w) 5 "tokens_of" ["text"] (SpRes T c (RL K RU) (RM (RTok c)) (fun _ => True) VamvsBase.tokens) := by
  refine okE F hm b sc_tokensof (fun vs H Q E h => by obtain ⟨_, v1, _, rfl, _⟩ := h; rfl) fun cdv A outer s H vs Q E hr h => ?_
  obtain ⟨ht, v1, text, rfl, h1, _, hok, her⟩ := h
  refine wb_if (T := T) (k := decide (4096 < text.length)) (EvT.is (et_cmp (x := (text.length : Int)) (y := (4096 : Int)) cmp_gt (ev_len g.len (vr 0 h1)) (ev_gi g.gMOST_TEXT)) (decide_eq_decide.mpr ⟨fun h => by omega, fun h => by omega⟩)) (fun kk H1 u1 => ?_) fun kk H1 u1 => wb_nil ?_
  · have kk := of_decide_eq_true kk
    refine wb_fault (T := T) (f := ⟨1, 4096⟩) (E := E) rfl takeE (fun _ _ _ _ h => h) MF hr (by decide) (Ev.to (ev_gi g.gNO_SIZE) fun _ _ _ h => h) (Ev.to (ev_gi g.gMOST_TEXT) fun _ _ _ h => h) (FE.up (her _ ?_) u1)
    unfold VamvsBase.tokens VamvsBase.TEXT
    rw [if_pos kk]
  have kk : ¬ 4096 < text.length := of_decide_eq_false kk
  have eR : VamvsBase.tokens text = lx1 0 text := by
    unfold VamvsBase.tokens VamvsBase.TEXT
    rw [if_neg kk]
    rfl
  rw [eR] at hok her
  refine wb_setN (T := T) (R := RTok c) (xs := []) 1 (evn_list es_nil) (fun l G vs u2 hG ra => ?_) sc_tokensof.nd
  cases ra
  have uG : Xt T H G := u1.trans u2
  refine wb_cons (Ws.hide hG (ws_set (T := T) (R := RN) (x := 0 + skipB false (text.drop 0)) 2 (ev_c2 (x2 := 0) dB hr (by decide) (uG.tb ht) (vr 0 (Mono.mono uG h1)) (Ev.to (R := RI) ev_int fun _ _ _ h => h) (Nat.zero_le _)) (fun va G1 u3 ra hl1 => ?_) sc_tokensof.nd))
  rw [Nat.zero_add, List.drop_zero] at ra
  cases ra
  have e0 := lx1_skip _ text 0 (Nat.le_refl _)
  rw [Nat.zero_add] at e0
  have hs0 := skipB_le false text
  refine wb_while poE (fun m σ' H' => ∃ (a : Nat) (G' : Hp) (ws : List V) (found : List VamvsBase.PTok) (o : Option V), a ≤ text.length ∧ m = text.length - a ∧ found.length ≤ a ∧ σ' = [some v1, some (.ref l), some (.int (a : Int)), o] ∧ Xt T H G' ∧ G' l = none ∧ H' = upd G' l (.lst ws) ∧ All2 (RTok c G') ws found ∧
    skipB false (text.drop a) = 0 ∧ lx1 0 text = (lx1 a (text.drop a)).map (found ++ ·)) (text.length - skipB false text) ⟨_, G1, [], [], none, hs0, rfl, Nat.zero_le _, rfl, uG.trans u3, hl1, rfl, .nil, skip_idem _ false text (Nat.le_refl _), ?_⟩ fun m σ' H' W => ?_
  · rw [e0]
    cases lx1 (skipB false text) (text.drop (skipB false text)) <;> rfl
  obtain ⟨a, G', ws, found, o, ha, rfl, hfl, rfl, u, hl, rfl, hr2, hsk, hlaw⟩ := W
  refine Wt.hide hl ((EvT.is (et_cmp (T := T) (x := (a : Int)) (y := (text.length : Int)) cmp_lt (vr 2 (R := RI) rfl) (ev_len g.len (vr 0 (Mono.mono u h1)))) (k' := decide (a < text.length)) (decide_eq_decide.mpr ⟨fun h => by omega, fun h => by omega⟩)).now fun G2 u4 hl2 => ?_)
  have uu := u.trans u4
  by_cases hlt : a < text.length
  · rw [if_pos (decide_eq_true hlt)]
    obtain ⟨bb, hb, hd⟩ := drop_cons hlt
    have hlaw2 : lx1 0 text = (match VamvsBase.token (text.drop a) with
      | none => .error ⟨2, a⟩
      | some x => (lx1 (a + x.2) ((text.drop a).drop x.2)).map fun l => ⟨a, x.1⟩ :: l : Except VamvsBase.Fault VamvsBase.Toks).map (found ++ ·) := by
      rw [hlaw]
      congr 1
      rw [hd] at hsk ⊢
      exact lx1_tok hsk
    refine wb_cons (Ws.hide hl2 (ws_asg2 3 2 rfl sc_tokensof.nd (we_callE takeE (fun _ _ _ _ h => h) dT hr (by decide) (((ea_cons (T := T) (R := RL K RU) (x := text) (vr 0 (Mono.mono uu h1)) (ea_cons (R := RN) (x := a) (vr 2 rfl) ea_nil))) G2 (Xt.refl _) _ fun vs G3 u5 ⟨v, r, k1, k2, u', r', k3, k4, k5⟩ => ?_))))
    subst k1 k3 k5
    have u03 := uu.trans u5
    refine ⟨u03.tb ht, v, u', text, a, rfl, k2, k4, hlt, by omega, trivial, fun t n he v2 G4 u6 r => ?_, fun he => ?_⟩
    · obtain ⟨tp, w1, w2, rfl, hsq, r1, r2⟩ := r
      refine ⟨tp, w1, w2, rfl, hsq, fun hl4 => ?_⟩
      have hk := token_pos he
      rw [List.length_drop] at hk
      refine wb_expr (X := CxE P w K mg base Ntokensof "tokens_of" s_tokensof f cdv A outer s H E) ?_
      refine we_appendH (T := T) (R := RTok c) (x := ⟨a, t⟩) (fun Q H' q => we_var (i := 1) rfl q) hl4 ?_ (by rw [hr2.length]; omega) fun v5 G5 u7 hl5 r5 => ?_
      · exact vr 3 r1
      cases r2
      have u05 := u03.trans (u6.trans u7)
      refine wb_cons (Ws.hide hl5 (ws_set (T := T) (R := RN) (x := a + n + skipB false (text.drop (a + n))) 2 (ev_c2 (x2 := a + n) dB hr (by decide) (u05.tb ht) (vr 0 (Mono.mono u05 h1)) (vr 2 (R := RN) rfl) (by omega)) (fun va G6 u8 ra hl6 => ?_) sc_tokensof.nd))
      cases ra
      have hs1 := skipB_le false (text.drop (a + n))
      rw [List.length_drop] at hs1
      refine wb_nil ⟨_, ?_, a + n + skipB false (text.drop (a + n)), G6, _, found ++ [⟨a, t⟩], _, by omega, rfl, by rw [List.length_append, List.length_singleton]; omega, rfl, u05.trans u8, hl6, rfl, ?_, ?_, ?_⟩
      · omega
      · exact (hr2.mono (u4.trans (u5.trans (u6.trans (u7.trans u8))))).snoc (Mono.mono u8 r5)
      · rw [← List.drop_drop]
        exact skip_idem _ false _ (Nat.le_refl _)
      · rw [hlaw2, he]
        show ((lx1 (a + n) ((text.drop a).drop n)).map _).map _ = _
        rw [List.drop_drop, lx1_skip _ (text.drop (a + n)) (a + n) (Nat.le_refl _), List.drop_drop]
        cases lx1 (a + n + skipB false (text.drop (a + n))) (text.drop (a + n + skipB false (text.drop (a + n)))) with
        | error e => rfl
        | ok z =>
          show Except.ok (found ++ (⟨a, t⟩ :: z)) = Except.ok ((found ++ [⟨a, t⟩]) ++ z)
          rw [List.append_assoc]
          rfl
    · refine FE.up (her ⟨2, a⟩ ?_) u03
      rw [hlaw2, he]
      rfl
  · rw [if_neg (by rw [decide_eq_false hlt]; decide)]
    have ea : a = text.length := by omega
    have uf : Xt T H (upd G2 l (.lst ws)) := uu.trans (Xt.new hl2)
    refine wb_ret (T := T) (R := RM (RTok c)) (x := found ++ [⟨text.length, .last⟩]) ?_ fun v' H3 u3 r => hok _ ?_ v' H3 (uf.trans u3) r
    · refine ev_cat ?_ (ev_list (es_cons ?_ es_nil)) (by rw [List.length_singleton]; omega)
      · exact vr 1 ⟨l, ws, rfl, upd_same, hr2.mono (u4.trans (Xt.new (T := T) hl2))⟩
      · refine ev_mktok (t := .last) MT hr (by decide) (ev_gs g.gEND) ?_ ?_
        · exact Ev.to (R := RS) (ev_gs g.gEND) fun _ _ _ _ => trivial
        · exact Ev.to (R := RI) (ev_len g.len (vr 0 (Mono.mono uf h1))) fun _ _ _ h => h
    · rw [hlaw, ea, List.drop_length, lx1_nil]
      rfl
end G5
/-! Fw14: things of ours that change, laid over what stays. -/
namespace G5
open PySem PySem.Spec PyProof.Rows L2
variable {T : List NTab}
/-- things that may change -/
def MO (u : HO) : Prop := ∃ xs C dx fs kvs x, u = .lst xs ∨ u = .ins C dx fs ∨ u = .dK kvs ∨ u = .own x
theorem mo_lst {xs : List V} : MO (.lst xs) := ⟨xs, 0, 0, [], [], 0, .inl rfl⟩
theorem mo_ins {C dx : Addr} {fs : List (Str × V)} : MO (.ins C dx fs) := ⟨[], C, dx, fs, [], 0, .inr (.inl rfl)⟩
theorem mo_own {a : Addr} : MO (.own a) := ⟨[], 0, 0, [], [], a, .inr (.inr (.inr rfl))⟩
theorem MO.nt {u : HO} (h : MO u) : NT u := by
  obtain ⟨xs, C, dx, fs, kvs, x, h | h | h | h⟩ := h <;> subst h
  · exact nt_lst
  · exact nt_ins
  · exact nt_dK
  · exact nt_own
abbrev Ov := List (Addr × HO)
def ov : Ov → Hp → Hp
  | [], G => G
  | (a, o) :: m, G => upd (ov m G) a o
def keys (m : Ov) : List Addr := m.map (·.1)
/-- m may be laid over G -/
structure Lay (m : Ov) (G : Hp) : Prop where
  nd : (keys m).Nodup
  no : ∀ a ∈ keys m, G a = none
  mo : ∀ p ∈ m, MO p.2
theorem ne_mem {α : Type} {s : List α} {a b : α} (h1 : a ∈ s) (h2 : b ∉ s) : a ≠ b := fun z => h2 (z ▸ h1)
theorem keys_mem {m : Ov} {p : Addr × HO} (h : p ∈ m) : p.1 ∈ keys m := List.mem_map.mpr ⟨p, h, rfl⟩
theorem keys_perm {m m' : Ov} (h : m.Perm m') : (keys m).Perm (keys m') := h.map _
section
variable {m m' : Ov} {G G' H : Hp} {a b : Addr} {o u : HO}
theorem ov_off (h : a ∉ keys m) : ov m G a = G a := by
  induction m with
  | nil => rfl
  | cons p m ih =>
    obtain ⟨b, o⟩ := p
    have h1 : a ≠ b := fun z => h (by rw [z]; exact List.mem_cons_self)
    show upd (ov m G) b o a = _
    rw [upd_ne h1]
    exact ih fun z => h (List.mem_cons_of_mem _ z)
theorem ov_at (hn : (keys m).Nodup) (h : (a, o) ∈ m) : ov m G a = some o := by
  induction m with
  | nil => cases h
  | cons p m ih =>
    obtain ⟨b, u⟩ := p
    have hn' := List.nodup_cons.mp (show (b :: keys m).Nodup from hn)
    rcases List.mem_cons.mp h with e | e
    · cases e
      exact upd_same
    · have : a ∈ keys m := keys_mem e
      show upd (ov m G) b u a = _
      rw [upd_ne (ne_mem this hn'.1)]
      exact ih hn'.2 e
theorem ov_ext (h1 : ∀ a ∉ keys m, H a = G a) (h2 : ∀ p ∈ m, H p.1 = some p.2) (hn : (keys m).Nodup) : H = ov m G := by
  funext a
  by_cases h : a ∈ keys m
  · obtain ⟨p, hp, rfl⟩ := List.mem_map.mp h
    rw [h2 p hp, ov_at hn hp]
  · rw [h1 a h, ov_off h]
theorem ov_perm (hn : (keys m).Nodup) (hp : m.Perm m') : ov m G = ov m' G := by
  have hn' : (keys m').Nodup := (keys_perm hp).nodup_iff.mp hn
  have hk : ∀ a, a ∈ keys m ↔ a ∈ keys m' := fun a => (keys_perm hp).mem_iff
  exact ov_ext (fun a ha => ov_off fun z => ha ((hk a).mp z)) (fun p q => ov_at hn (hp.mem_iff.mpr q)) hn'
theorem Lay.perm (h : Lay m G) (hp : m.Perm m') : Lay m' G :=
  ⟨(keys_perm hp).nodup_iff.mp h.nd, fun a ha => h.no a ((keys_perm hp).mem_iff.mpr ha), fun p q => h.mo p (hp.mem_iff.mpr q)⟩
theorem Lay.nil : Lay [] G := ⟨List.nodup_nil, (fun a h => by cases h), (fun p h => by cases h)⟩
theorem Lay.cons (h : Lay m G) (hn : a ∉ keys m) (ha : G a = none) (ho : MO o) : Lay ((a, o) :: m) G :=
  ⟨List.nodup_cons.mpr ⟨hn, h.nd⟩, fun b hb => by
    rcases List.mem_cons.mp hb with e | e
    · rw [e]; exact ha
    · exact h.no b e, fun p hp => by
    rcases List.mem_cons.mp hp with e | e
    · rw [e]; exact ho
    · exact h.mo p e⟩
theorem Lay.tail {p : Addr × HO} (h : Lay (p :: m) G) : Lay m G := ⟨(List.nodup_cons.mp h.nd).2, fun a ha => h.no a (List.mem_cons_of_mem _ ha), fun q hq => h.mo q (List.mem_cons_of_mem _ hq)⟩
theorem Lay.head {p : Addr × HO} (h : Lay (p :: m) G) : ov m G p.1 = none := by
  rw [ov_off (List.nodup_cons.mp h.nd).1]
  exact h.no _ List.mem_cons_self
theorem Lay.app {m1 m2 : Ov} (h : Lay (m1 ++ m2) G) : Lay m2 G := by
  induction m1 with
  | nil => exact h
  | cons p m1 ih => exact ih h.tail
/-- m1 laid over m2 laid over G -/
theorem ov_app (m1 m2 : Ov) (G : Hp) : ov (m1 ++ m2) G = ov m1 (ov m2 G) := by
  induction m1 with
  | nil => rfl
  | cons p m1 ih => obtain ⟨a, o⟩ := p; show upd (ov (m1 ++ m2) G) a o = _; rw [ih]; rfl
theorem Lay.left {m1 m2 : Ov} (h : Lay (m1 ++ m2) G) : Lay m1 (ov m2 G) := by
  have e : keys (m1 ++ m2) = keys m1 ++ keys m2 := List.map_append
  have hn := h.nd
  rw [e] at hn
  obtain ⟨n1, n2, n3⟩ := List.nodup_append.mp hn
  refine ⟨n1, fun a ha => ?_, fun p hp => h.mo p (List.mem_append_left _ hp)⟩
  rw [ov_off fun z => n3 a ha a z rfl]
  exact h.no a (by rw [e]; exact List.mem_append_left _ ha)
theorem Lay.join {m1 m2 : Ov} (h1 : Lay m1 (ov m2 G)) (h2 : Lay m2 G) : Lay (m1 ++ m2) G := by
  have e : keys (m1 ++ m2) = keys m1 ++ keys m2 := List.map_append
  have dis : ∀ a ∈ keys m1, a ∉ keys m2 := fun a ha hb => by
    obtain ⟨p, hp, rfl⟩ := List.mem_map.mp hb
    have := h1.no _ ha
    rw [ov_at h2.nd hp] at this
    cases this
  refine ⟨?_, fun a ha => ?_, fun p hp => ?_⟩
  · rw [e]
    exact List.nodup_append.mpr ⟨h1.nd, h2.nd, fun a ha b hb z => dis a ha (z ▸ hb)⟩
  · rw [e] at ha
    rcases List.mem_append.mp ha with z | z
    · have := h1.no a z
      rw [ov_off (dis a z)] at this
      exact this
    · exact h2.no a z
  · rcases List.mem_append.mp hp with z | z
    · exact h1.mo p z
    · exact h2.mo p z
theorem ov_xt (h : Lay m G) : Xt T G (ov m G) := by
  induction m with
  | nil => exact Xt.refl G
  | cons p m ih =>
    obtain ⟨a, o⟩ := p
    exact (ih h.tail).trans (Xt.new h.head)
theorem tb_less {S : List Addr} (t : Tb T H) (hS : ∀ a ∈ S, ∃ o, H a = some o ∧ MO o) (e : ∀ a, a ∉ S → G a = H a) : Tb T G := by
  intro q hq
  obtain ⟨ps, h1, h2, h3⟩ := t q hq
  have key : ∀ {a : Addr} {u : HO}, H a = some u → ¬ MO u → G a = some u := fun {a u} ea n => by
    rw [e a fun z => ?_]
    · exact ea
    · obtain ⟨o, ho, mo⟩ := hS a z
      rw [ea] at ho
      exact n (Option.some.inj ho ▸ mo)
  refine ⟨ps, key h1 fun z => ?_, h2, fun pos cv hc => ?_⟩
  · obtain ⟨xs, C, dx, fs, kvs, x, z | z | z | z⟩ := z <;> exact nomatch z
  · obtain ⟨c, e1, e2⟩ := h3 pos cv hc
    refine ⟨c, e1, key e2 fun z => ?_⟩
    unfold LamX.CodeO at z
    obtain ⟨xs, C, dx, fs, kvs, x, z | z | z | z⟩ := z <;> exact nomatch z
/-- what is known has grown: what is laid over stands as it was -/
theorem regain (h : Lay m G) (x : Xt T (ov m G) H) : ∃ G', H = ov m G' ∧ Lay m G' ∧ Xt T G G' ∧ ∀ a, a ∉ keys m → G' a = H a := by
  classical
  have at' : ∀ p ∈ m, H p.1 = some p.2 := fun p hp => x.ex _ _ (ov_at h.nd hp) (h.mo p hp).nt
  refine ⟨fun a => if a ∈ keys m then none else H a, ov_ext (fun a ha => (if_neg ha).symm) at' h.nd, ⟨h.nd, fun a ha => if_pos ha, h.mo⟩, ⟨fun a o e n => ?_, fun t => ?_, fun a e => ?_⟩, fun a ha => if_neg ha⟩
  · have ha : a ∉ keys m := fun z => by rw [h.no a z] at e; cases e
    show (if a ∈ keys m then none else H a) = _
    rw [if_neg ha]
    exact x.ex a o (by rw [ov_off ha]; exact e) n
  · refine tb_less (S := keys m) (x.tb ((ov_xt h).tb t)) (fun a ha => ?_) fun a ha => if_neg ha
    obtain ⟨p, hp, rfl⟩ := List.mem_map.mp ha
    exact ⟨p.2, at' p hp, h.mo p hp⟩
  · by_cases ha : a ∈ keys m
    · exact h.no a ha
    · have e : H a = none := by
        have e : (if a ∈ keys m then none else H a) = none := e
        rw [if_neg ha] at e
        exact e
      have := x.fr a e
      rw [ov_off ha] at this
      exact this
/-- the first one changed -/
theorem ov_set : upd (ov ((a, o) :: m) G) a u = ov ((a, u) :: m) G := upd_upd
theorem Lay.set (h : Lay ((a, o) :: m) G) (hu : MO u) : Lay ((a, u) :: m) G := ⟨h.nd, h.no, fun p hp => by
  rcases List.mem_cons.mp hp with e | e
  · rw [e]; exact hu
  · exact h.mo p (List.mem_cons_of_mem _ e)⟩
/-- a new thing, of what stays -/
theorem ov_new (h : Lay m G) (ha : ov m G a = none) : upd (ov m G) a o = ov m (upd G a o) ∧ Lay m (upd G a o) ∧ G a = none := by
  have hk : a ∉ keys m := fun z => by
    obtain ⟨p, hp, rfl⟩ := List.mem_map.mp z
    rw [ov_at h.nd hp] at ha
    cases ha
  have hg : G a = none := by rw [ov_off hk] at ha; exact ha
  refine ⟨ov_ext (fun b hb => ?_) (fun p hp => ?_) h.nd, ⟨h.nd, fun b hb => ?_, h.mo⟩, hg⟩
  · by_cases e : b = a
    · rw [e, upd_same, upd_same]
    · rw [upd_ne e, upd_ne e, ov_off hb]
  · rw [upd_ne (ne_mem (keys_mem hp) hk)]
    exact ov_at h.nd hp
  · rw [upd_ne (ne_mem hb hk)]
    exact h.no b hb
end
end G5
/-! T5: Reader, here, is_here, need, take, take_if. -/
namespace G5
open PySem PySem.Spec PyProof.Rows L2
variable {T : List NTab} {P : Program} {w : World} {K : PySem.W.Frag} {mg : Str → Option Value} {base : Heap} {c : Cs}
abbrev s_rdinit : Stmt := clsSt (top 41) 0
def Nrdinit : List Str := ["self", "tokens"]
def postRd (T : List NTab) : List V → Hp → Hp → List (Str × V) → Prop := fun us G G2 fs => Xt T G G2 ∧ ∃ a, us = [a] ∧ fs = [(("tokens" : Str), a), (("at" : Str), .int 0)]
theorem sc_rdinit : FnScope Nrdinit Nrdinit (defScope s_rdinit) := ⟨rfl, rfl, rfl, by decide +kernel, rfl, by decide +kernel, by decide +kernel⟩
abbrev MkRd (T : List NTab) (P : Program) (w : World) (K : PySem.W.Frag) (mg : Str → Option Value) (base : Heap) (c : Cs) : Prop := Mkd P w K mg base CX0 1 "Reader" c.reader Nrdinit (SpI c.reader 1 (postRd T))
theorem mk_rd {f : Addr} {fd : FuncData} (g : Gf K mg c) (F : Fun K "__init__" "Reader.__init__" s_rdinit f fd) (M : Mk K c.reader f) (b : Binds K fd Nrdinit []) : MkRd T P w K mg base c := by
  refine mk_of F g.reader.at' M b sc_rdinit rfl fun cdv A outer s H E Q x dx G us hl hr hH hx hd ne hq => ?_
  obtain ⟨v1, rfl⟩ : ∃ v1, us = [v1] := by
    match us, hl with
    | [a], _ => exact ⟨a, rfl⟩
  refine wb_fldH (T := T) (R := RV) (x := v1) hx hd (fun Q H' q => we_var (i := 0) rfl q) (vr 1 rfl) g.reader.cl (g.reader.no _ (by decide)) (by decide) fun w1 G1 u1 hx1 hd1 r1 => ?_
  refine wb_fldH (T := T) (R := RI) (x := 0) hx1 hd1 (fun Q H' q => we_var (i := 0) rfl q) ev_int g.reader.cl (g.reader.no _ (by decide)) (show (1 : Nat) < 1000 by decide) fun w2 G2 u2 hx2 hd2 r2 => ?_
  cases r1
  cases r2
  exact wb_nil (hq G2 _ ⟨u1.trans u2, v1, rfl, rfl⟩ hx2 hd2)
/-! ### the state of a reader -/
abbrev rdI (c : Cs) (dx l : Addr) (i : Nat) : HO := .ins c.reader dx [("tokens", .ref l), ("at", .int (i : Int))]
abbrev rdO (c : Cs) (r dx l : Addr) (i : Nat) : Ov := [(r, rdI c dx l i), (dx, .own r)]
/-- a reader, its next token -/
def RHd (K : PySem.W.Frag) (c : Cs) : Rp VamvsBase.PTok := fun H v tok => ∃ r dx l ws i u, v = .ref r ∧ H r = some (rdI c dx l i) ∧ SqL K H l ws ∧ ws[i]? = some u ∧ RTok c H u tok
instance : Mono T (RHd K c) := ⟨fun x ⟨r, dx, l, ws, i, u, h1, h2, h3, h4, h5⟩ => ⟨r, dx, l, ws, i, u, h1, x.ex _ _ h2 nt_ins, x.seqL h3, h4, Mono.mono x h5⟩⟩
theorem rv_all {H : Hp} : ∀ ws : List V, All2 (RV H) ws ws
  | [] => .nil
  | _ :: r => .cons rfl (rv_all r)
theorem RHd.tokens {H : Hp} {v : V} {ws : List V} {r dx l : Addr} {i : Nat} (g : Gf K mg c) (h2 : H r = some (rdI c dx l i)) (h3 : SqL K H l ws) : ∃ u, Has K "tokens" H (.ref r) u ∧ RL K RV H u ws :=
  ⟨.ref l, has_of g.reader h2 rfl (by decide), l, ws, rfl, h3, rv_all ws⟩
theorem RHd.at' {H : Hp} {r dx l : Addr} {i : Nat} (g : Gf K mg c) (h2 : H r = some (rdI c dx l i)) : ∃ u, Has K "at" H (.ref r) u ∧ RN H u i :=
  ⟨_, has_of g.reader h2 rfl (by decide), rfl⟩
abbrev s_here : Stmt := top 51
theorem sc_here : FnScope ["reader"] ["reader"] (defScope s_here) := ⟨rfl, rfl, rfl, by decide +kernel, rfl, by decide +kernel, by decide +kernel⟩
theorem ok_here {f : Addr} {fd : FuncData} (g : Gf K mg c) (F : Fun K "here" "here" s_here f fd) (hm : mg "here" = some (.ref f)) (b : Binds K fd ["reader"] []) :
    Df P w K mg base CX0 1 "here" ["reader"] (Sp1 T (RHd K c) (RTok c) (fun _ => True) fun t => t) := by
  refine ok1 F hm b sc_here fun cdv A outer s H E Q v1 tok hr ht h1 hg hq => ?_
  obtain ⟨r, dx, l, ws, i, u, rfl, h2, h3, h4, h5⟩ := h1
  refine wb_ret (T := T) (R := RV) (x := u) ?_ fun v' H2 u2 e => hq v' H2 u2 (by cases e; exact Mono.mono u2 h5)
  refine ev_item (i := i) (l := ws) (R := RV) (ev_fld (S := RV) (R := RL K RV) (y := .ref r) (vr 0 rfl) fun H1 v u e => ?_) (Ev.to (R := RN) (x := i) (ev_fld (S := RV) (R := RN) (y := .ref r) (vr 0 rfl) fun H1 v u e => ?_) fun _ _ _ h => h) h4
  · cases e
    exact RHd.tokens (v := .ref r) g (u.ex _ _ h2 nt_ins) (u.seqL h3)
  · cases e
    exact RHd.at' g (u.ex _ _ h2 nt_ins)
abbrev s_ishere : Stmt := top 52
theorem sc_ishere : FnScope ["reader", "what"] ["reader", "what"] (defScope s_ishere) := ⟨rfl, rfl, rfl, by decide +kernel, rfl, by decide +kernel, by decide +kernel⟩
abbrev DHere (T : List NTab) (P : Program) (w : World) (K : PySem.W.Frag) (mg : Str → Option Value) (base : Heap) (c : Cs) : Prop := Df P w K mg base CX0 1 "here" ["reader"] (Sp1 T (RHd K c) (RTok c) (fun _ => True) fun t => t)
abbrev DIs (T : List NTab) (P : Program) (w : World) (K : PySem.W.Frag) (mg : Str → Option Value) (base : Heap) (c : Cs) : Prop := Df P w K mg base CX0 2 "is_here" ["reader", "what"] (Sp2 T (RHd K c) RS RB (fun _ _ => True) fun t z => decide (whatOf t.tok = z))
theorem ok_ishere {f : Addr} {fd : FuncData} (g : Gf K mg c) (dH : DHere T P w K mg base c) (F : Fun K "is_here" "is_here" s_ishere f fd) (hm : mg "is_here" = some (.ref f)) (b : Binds K fd ["reader", "what"] []) : DIs T P w K mg base c := by
  refine ok2 F hm b sc_ishere fun cdv A outer s H E Q v1 v2 tok z hr ht h1 h2 hg hq => ?_
  refine wb_ret (T := T) (R := RB) (x := decide (whatOf tok.tok = z)) ?_ hq
  exact ev_cmp cmp_eqS (ev_fld (S := RTok c) (R := RS) (ev_c1 dH hr (by decide) ht (vr 0 h1) trivial) fun H1 v u r => r.what g) (vr 1 h2)
/-! ### need -/
def SpNeed (T : List NTab) (K : PySem.W.Frag) (c : Cs) : Sp := fun vs H Q E => Tb T H ∧ ∃ v1 tok k code, vs = [v1, .bl k, .int ((code : Nat) : Int)] ∧ RHd K c H v1 tok ∧ (k = true → ∀ H', Xt T H H' → Q .non H') ∧ (k = false → FE T c E H ⟨code, tok.place⟩)
abbrev DNeed (T : List NTab) (P : Program) (w : World) (K : PySem.W.Frag) (mg : Str → Option Value) (base : Heap) (c : Cs) : Prop := Df P w K mg base (L2.CX P w) 3 "need" ["reader", "holds", "code"] (SpNeed T K c)
abbrev s_need : Stmt := top 53
def Nneed : List Str := ["reader", "holds", "code"]
theorem sc_need : FnScope Nneed Nneed (defScope s_need) := ⟨rfl, rfl, rfl, by decide +kernel, rfl, by decide +kernel, by decide +kernel⟩
theorem ok_need {f : Addr} {fd : FuncData} (g : Gf K mg c) (dH : DHere T P w K mg base c) (MF : MkFault P w K mg base c) (F : Fun K "need" "need" s_need f fd) (hm : mg "need" = some (.ref f)) (b : Binds K fd Nneed []) : DNeed T P w K mg base c := by
  refine okE F hm b sc_need (fun vs H Q E h => by obtain ⟨_, v1, _, k, code, rfl, _⟩ := h; rfl) fun cdv A outer s H vs Q E hr h => ?_
  obtain ⟨ht, v1, tok, k, code, rfl, h1, hok, her⟩ := h
  refine wb_if (T := T) (et_not (et_val (vr 1 (R := RB) rfl))) (fun kk H1 u1 => ?_) fun kk H1 u1 => wb_nil (wb_nil ?_)
  · have kk : (!k) = true := kk
    have e : k = false := by simpa using kk
    refine wb_fault (T := T) (f := ⟨code, tok.place⟩) (E := E) rfl takeE (fun _ _ _ _ h => h) MF hr (by decide) (vr 2 (R := RN) rfl) ?_ (FE.up (her e) u1)
    exact ev_fld (S := RTok c) (R := RN) (ev_c1 dH hr (by decide) (u1.tb ht) (vr 0 (Mono.mono u1 h1)) trivial) fun H1 v u r => r.place g
  · have kk : (!k) = false := kk
    exact hok (by simpa using kk) H1 u1
section
variable {X : Cx} {e1 e2 e3 : Expr} {σ : L2.St} {H : Hp} {j : Nat} {pos p : Pos} {Q : VK} {E' : XK} {W : WX} {tok : VamvsBase.PTok} {k : Bool} {code : Nat}
/-- need(reader, holds, code) -/
theorem we_need (tk : Takes X W) (hW : ∀ cls d σ H, E' cls d H → W cls d σ H) (F : DNeed T X.prog X.w X.K X.mg X.base c) (hr : Room j X.A) (hk : 3 ≤ j) (ht : Tb T H) (h1 : Ev T X (RHd X.K c) e1 σ H tok) (h2 : Ev T X RB e2 σ H k) (h3 : Ev T X RN e3 σ H code)
    (hok : k = true → ∀ H', Xt T H H' → Q .non H') (her : k = false → FE T c E' H ⟨code, tok.place⟩) (hg : Gl X "need" := by rfl) (he : starEach (e1 :: [e2, e3]) X.env = (false, eval e1 X.env) :: starEach [e2, e3] X.env := by rfl) (he2 : starEach (e2 :: [e3]) X.env = (false, eval e2 X.env) :: starEach [e3] X.env := by rfl) (he3 : starEach (e3 :: []) X.env = (false, eval e3 X.env) :: starEach [] X.env := by rfl) (hpl : (backTo pos (starEach [e2, e3] X.env)).any (·.1) = false := by rfl) :
    We X (.Call (.Name "need" p) [e1, e2, e3] [] pos) σ H Q :=
  we_callE tk hW F hr hk ((ea_cons h1 (ea_cons h2 (ea_cons h3 ea_nil he3) he2) he) H (Xt.refl _) _ fun vs H2 u2 ⟨v, r, k1, k2, u, r', k3, k4, t', r2, k5, k6, k7⟩ => by
    subst k1 k3 k5 k7
    cases k4
    cases k6
    exact ⟨u2.tb ht, v, tok, k, code, rfl, k2, fun e H' u => hok e H' (u2.trans u), fun e => FE.up (her e) u2⟩) hg (by decide) he hpl
end
/-! ### take, take_if -/
/-- what a reader's def knows at its call -/
structure RdAt (T : List NTab) (K : PySem.W.Frag) (c : Cs) (H G : Hp) (r dx l : Addr) (ws : List V) (i : Nat) (u : V) (tok : VamvsBase.PTok) : Prop where
  h : H = ov (rdO c r dx l i) G
  lay : Lay (rdO c r dx l i) G
  sq : SqL K G l ws
  at' : ws[i]? = some u
  tok : RTok c G u tok
section
variable {H G : Hp} {r dx l : Addr} {ws : List V} {i : Nat} {u : V} {tok : VamvsBase.PTok}
theorem RdAt.hd (h : RdAt T K c H G r dx l ws i u tok) : RHd K c H (.ref r) tok := by
  obtain ⟨rfl, h2, h3, h4, h5⟩ := h
  have x := ov_xt (T := T) h2
  exact ⟨r, dx, l, ws, i, u, rfl, ov_at h2.nd List.mem_cons_self, x.seqL h3, h4, Mono.mono x h5⟩
/-- behind something that kept it -/
theorem RdAt.keep (h : RdAt T K c H G r dx l ws i u tok) {H' : Hp} (x : Xt T H H') : ∃ G', RdAt T K c H' G' r dx l ws i u tok ∧ Xt T G G' := by
  obtain ⟨rfl, h2, h3, h4, h5⟩ := h
  obtain ⟨G', e, l', x', _⟩ := regain h2 x
  exact ⟨G', ⟨e, l', x'.seqL h3, h4, Mono.mono x' h5⟩, x'⟩
end
def SpTake (T : List NTab) (K : PySem.W.Frag) (c : Cs) : Sp := fun vs H Q E => Tb T H ∧ ∃ r dx G l ws i u tok z, vs = [.ref r, .str z] ∧ RdAt T K c H G r dx l ws i u tok ∧
  (whatOf tok.tok = z → ∀ G', Xt T G G' → Lay (rdO c r dx l (i + 1)) G' → Q u (ov (rdO c r dx l (i + 1)) G')) ∧ (whatOf tok.tok ≠ z → FE T c E G ⟨3, tok.place⟩)
abbrev DTake (T : List NTab) (P : Program) (w : World) (K : PySem.W.Frag) (mg : Str → Option Value) (base : Heap) (c : Cs) : Prop := Df P w K mg base (L2.CX P w) 4 "take" ["reader", "what"] (SpTake T K c)
section
variable {X : Cx} {o : Expr} {σ : L2.St} {G : Hp} {r dx l : Addr} {i : Nat} {pos p1 : Pos} {sts : List Stmt} {D : Ends} {j : Nat} {p : Pos}
/-- reader.at += 1 -/
theorem wb_step (g : Gf X.K X.mg c) (hl : Lay (rdO c r dx l i) G) (ho : ∀ (Q : VK) H', Q (.ref r) H' → We X o σ H' Q) (q : Lay (rdO c r dx l (i + 1)) G → Wb X sts D σ (ov (rdO c r dx l (i + 1)) G)) : Wb X (.AugAssign (.Attribute o "at" p1) .Add (.Constant (.int 1) j p) pos :: sts) D σ (ov (rdO c r dx l i) G) :=
  wb_cons (Ws.of (ps_fldaug we pe_int in_add) (ho _ _ ⟨r, c.reader, dx, _, .int (i : Int), rfl, ov_at hl.nd List.mem_cons_self, g.reader.cl, g.reader.no _ (by decide), rfl, (i : Int), 1, rfl, rfl, dx, _, ov_at hl.nd List.mem_cons_self, (show (2 : Nat) < 1000 by decide), by
    show Wb X sts D σ (upd (ov (rdO c r dx l i) G) r (.ins c.reader dx [("tokens", .ref l), ("at", .int ((i : Int) + 1))]))
    rw [ov_set]
    exact q (hl.set mo_ins)⟩))
end
abbrev s_take : Stmt := top 54
theorem sc_take : FnScope ["reader", "what"] ["reader", "what"] (defScope s_take) := ⟨rfl, rfl, rfl, by decide +kernel, rfl, by decide +kernel, by decide +kernel⟩
theorem ok_take {f : Addr} {fd : FuncData} (g : Gf K mg c) (dI : DIs T P w K mg base c) (dN : DNeed T P w K mg base c) (F : Fun K "take" "take" s_take f fd) (hm : mg "take" = some (.ref f)) (b : Binds K fd ["reader", "what"] []) : DTake T P w K mg base c := by
  refine okE F hm b sc_take (fun vs H Q E h => by obtain ⟨_, r, dx, G, l, ws, i, u, tok, z, rfl, _⟩ := h; rfl) fun cdv A outer s H vs Q E hr h => ?_
  obtain ⟨ht, r, dx, G, l, ws, i, u, tok, z, rfl, hrd, hok, her⟩ := h
  have xG : Xt T G H := by rw [hrd.h]; exact ov_xt hrd.lay
  refine wb_expr (X := CxE P w K mg base ["reader", "what"] "take" s_take f cdv A outer s H E) ?_
  refine we_need (T := T) (c := c) (E' := E) (k := decide (whatOf tok.tok = z)) (tok := tok) (code := 3) takeE (fun _ _ _ _ h => h) dN hr (by decide) ht ?_ ?_ ?_ (fun k H' u1 => ?_) fun k => FE.up (her (of_decide_eq_false k)) xG
  · exact vr 0 hrd.hd
  · exact ev_c2 dI hr (by decide) ht (vr 0 hrd.hd) (vr 1 (R := RS) rfl) trivial
  · exact Ev.to (R := RI) (ev_gi g.gNOT_ALLOWED) fun _ _ _ h => h
  have k := of_decide_eq_true k
  obtain ⟨G1, hrd1, x1⟩ := hrd.keep u1
  rw [hrd1.h]
  refine wb_step g hrd1.lay (fun Q H' q => we_var (i := 0) rfl q) fun hl2 => ?_
  have e : ((i + 1 : Nat) : Int) - 1 = (i : Int) := by omega
  have a0 : ov (rdO c r dx l (i + 1)) G1 r = some (rdI c dx l (i + 1)) := ov_at hl2.nd List.mem_cons_self
  have s0 : SqL K (ov (rdO c r dx l (i + 1)) G1) l ws := (ov_xt (T := T) hl2).seqL hrd1.sq
  refine wb_ret (T := T) (R := RV) (x := u) ?_ fun v' H2 u2 e => ?_
  · refine ev_item (i := i) (l := ws) (R := RV) (ev_fld (S := RV) (R := RL K RV) (y := .ref r) (vr 0 rfl) fun H1 v u e => ?_) (Ev.is (ev_sub (i := ((i + 1 : Nat) : Int)) (j := 1) (Ev.to (R := RN) (x := i + 1) (ev_fld (S := RV) (R := RN) (y := .ref r) (vr 0 rfl) fun H1 v u e => ?_) fun _ _ _ h => h) ev_int) e) hrd.at'
    · cases e
      exact RHd.tokens (v := .ref r) g (u.ex _ _ a0 nt_ins) (u.seqL s0)
    · cases e
      exact RHd.at' g (u.ex _ _ a0 nt_ins)
  · cases e
    obtain ⟨G2, e2, l2, x2, _⟩ := regain hl2 u2
    rw [e2]
    exact hok k G2 (x1.trans x2) l2
def SpTakeIf (T : List NTab) (K : PySem.W.Frag) (c : Cs) : Sp := fun vs H Q E => Tb T H ∧ ∃ r dx G l ws i u tok z, vs = [.ref r, .str z] ∧ RdAt T K c H G r dx l ws i u tok ∧
  (whatOf tok.tok = z → ∀ G', Xt T G G' → Lay (rdO c r dx l (i + 1)) G' → Q (.bl true) (ov (rdO c r dx l (i + 1)) G')) ∧ (whatOf tok.tok ≠ z → ∀ G', Xt T G G' → Lay (rdO c r dx l i) G' → Q (.bl false) (ov (rdO c r dx l i) G'))
abbrev DTakeIf (T : List NTab) (P : Program) (w : World) (K : PySem.W.Frag) (mg : Str → Option Value) (base : Heap) (c : Cs) : Prop := Df P w K mg base CX0 3 "take_if" ["reader", "what"] (SpTakeIf T K c)
abbrev s_takeif : Stmt := top 55
def Ntakeif : List Str := ["reader", "what", "found"]
theorem sc_takeif : FnScope Ntakeif ["reader", "what"] (defScope s_takeif) := ⟨rfl, rfl, rfl, by decide +kernel, rfl, by decide +kernel, by decide +kernel⟩
theorem ok_takeif {f : Addr} {fd : FuncData} (g : Gf K mg c) (dI : DIs T P w K mg base c) (F : Fun K "take_if" "take_if" s_takeif f fd) (hm : mg "take_if" = some (.ref f)) (b : Binds K fd ["reader", "what"] []) : DTakeIf T P w K mg base c := by
  refine okN F hm b sc_takeif (fun vs H Q E h => by obtain ⟨_, r, dx, G, l, ws, i, u, tok, z, rfl, _⟩ := h; rfl) fun cdv A outer s H vs Q E hr h => ?_
  obtain ⟨ht, r, dx, G, l, ws, i, u, tok, z, rfl, hrd, hok, hno⟩ := h
  refine wb_set (T := T) (R := RB) (x := decide (whatOf tok.tok = z)) 2 (ev_c2 dI hr (by decide) ht (vr 0 hrd.hd) (vr 1 (R := RS) rfl) trivial) (fun v H1 u1 rv => ?_) sc_takeif.nd
  cases rv
  obtain ⟨G1, hrd1, x1⟩ := hrd.keep u1
  refine wb_if (T := T) (et_val (vr 2 (R := RB) rfl)) (fun kk H2 u2 => ?_) fun kk H2 u2 => wb_nil ?_
  · have kk := of_decide_eq_true kk
    obtain ⟨G2, hrd2, x2⟩ := hrd1.keep u2
    rw [hrd2.h]
    refine wb_step g hrd2.lay (fun Q H' q => we_var (i := 0) rfl q) fun hl2 => wb_nil ?_
    refine wb_ret (T := T) (R := RB) (x := decide (whatOf tok.tok = z)) (vr 2 rfl) fun v' H3 u3 e => ?_
    cases e
    obtain ⟨G3, e3, l3, x3, _⟩ := regain hl2 u3
    rw [e3, decide_eq_true kk]
    exact hok kk G3 (x1.trans (x2.trans x3)) l3
  · have kk := of_decide_eq_false kk
    refine wb_ret (T := T) (R := RB) (x := decide (whatOf tok.tok = z)) (vr 2 rfl) fun v' H3 u3 e => ?_
    cases e
    obtain ⟨G3, hrd3, x3⟩ := hrd1.keep (u2.trans u3)
    rw [hrd3.h, decide_eq_false kk]
    exact hno kk G3 (x1.trans x3) hrd3.lay
end G5
/-! T6: what tokens are, as the specification asks; a reader with other things laid beside it; take_number. -/
namespace G5
open PySem PySem.Spec PyProof.Rows L2
variable {T : List NTab} {P : Program} {w : World} {K : PySem.W.Frag} {mg : Str → Option Value} {base : Heap} {c : Cs}
open VamvsBase (tokEq Toks PTok Fault)
/-! ### what and tokEq -/
theorem wordWhat_cases (b : List UInt8) : (b = VamvsBase.word "columns" ∧ wordWhat b = "columns") ∨ (b = VamvsBase.word "row" ∧ wordWhat b = "row") ∨ (b = VamvsBase.word "ask" ∧ wordWhat b = "ask") ∨ (b = VamvsBase.word "times" ∧ wordWhat b = "times") ∨
    (VamvsBase.RESERVED.contains b = false ∧ wordWhat b = "a name") := by
  have e1 : bytesOf "columns" = VamvsBase.word "columns" := by decide +kernel
  have e2 : bytesOf "row" = VamvsBase.word "row" := by decide +kernel
  have e3 : bytesOf "ask" = VamvsBase.word "ask" := by decide +kernel
  have e4 : bytesOf "times" = VamvsBase.word "times" := by decide +kernel
  unfold wordWhat words4
  rw [List.find?_cons, List.find?_cons, List.find?_cons, List.find?_cons, List.find?_nil, e1, e2, e3, e4]
  by_cases h1 : VamvsBase.word "columns" = b
  · exact .inl ⟨h1.symm, by rw [decide_eq_true h1]⟩
  rw [decide_eq_false h1]
  by_cases h2 : VamvsBase.word "row" = b
  · exact .inr (.inl ⟨h2.symm, by rw [decide_eq_true h2]⟩)
  rw [decide_eq_false h2]
  by_cases h3 : VamvsBase.word "ask" = b
  · exact .inr (.inr (.inl ⟨h3.symm, by rw [decide_eq_true h3]⟩))
  rw [decide_eq_false h3]
  by_cases h4 : VamvsBase.word "times" = b
  · exact .inr (.inr (.inr (.inl ⟨h4.symm, by rw [decide_eq_true h4]⟩)))
  rw [decide_eq_false h4]
  refine .inr (.inr (.inr (.inr ⟨?_, rfl⟩)))
  unfold VamvsBase.RESERVED
  show [VamvsBase.word "columns", VamvsBase.word "row", VamvsBase.word "ask", VamvsBase.word "times"].contains b = false
  rw [List.contains_cons, List.contains_cons, List.contains_cons, List.contains_cons, List.contains_nil]
  have f : ∀ x : List UInt8, ¬ x = b → (b == x) = false := fun x h => by
    rw [Bool.beq_eq_decide_eq]
    exact decide_eq_false fun z => h z.symm
  rw [f _ h1, f _ h2, f _ h3, f _ h4]
  rfl
theorem sign_ne {k : Nat} {z : Str} (h : z.cps.size ≠ 1) : sign1 k ≠ z := fun e => h (by rw [← e]; rfl)
theorem what_sign (t : VamvsBase.Tok) (k : Nat) : whatOf t = sign1 k ↔ tokEq t (.sign k) = true := by
  cases t with
  | name b =>
    refine ⟨fun h => ?_, fun h => by cases h⟩
    have h : wordWhat b = sign1 k := h
    rcases wordWhat_cases b with ⟨_, e⟩ | ⟨_, e⟩ | ⟨_, e⟩ | ⟨_, e⟩ | ⟨_, e⟩ <;> rw [e] at h <;> exact absurd h.symm (sign_ne (by decide +kernel))
  | num n => exact ⟨fun h => absurd (show (("a number" : Str)) = sign1 k from h).symm (sign_ne (by decide +kernel)), fun h => by cases h⟩
  | sign j =>
    show sign1 j = sign1 k ↔ (j == k) = true
    refine ⟨fun h => ?_, fun h => by rw [eq_of_beq h]⟩
    have e : (#[j] : Array Nat) = #[k] := congrArg Str.cps h
    have : j = k := by simpa using e
    rw [this]
    exact beq_self_eq_true k
  | last => exact ⟨fun h => absurd (show (("the end" : Str)) = sign1 k from h).symm (sign_ne (by decide +kernel)), fun h => by cases h⟩
theorem what_word (t : VamvsBase.Tok) (z : String) (hz : z = "columns" ∨ z = "row" ∨ z = "ask" ∨ z = "times") : whatOf t = Str.ofString z ↔ tokEq t (.name (VamvsBase.word z)) = true := by
  cases t with
  | name b =>
    show wordWhat b = Str.ofString z ↔ (b == VamvsBase.word z) = true
    rw [beq_iff_eq]
    have d : ∀ x y : String, (x = "columns" ∨ x = "row" ∨ x = "ask" ∨ x = "times") → (y = "columns" ∨ y = "row" ∨ y = "ask" ∨ y = "times") → ((Str.ofString x = Str.ofString y ↔ VamvsBase.word x = VamvsBase.word y) ∧ Str.ofString "a name" ≠ Str.ofString y ∧ VamvsBase.RESERVED.contains (VamvsBase.word y) = true) := by
      intro x y hx hy
      rcases hx with rfl | rfl | rfl | rfl <;> rcases hy with rfl | rfl | rfl | rfl <;> decide +kernel
    rcases wordWhat_cases b with ⟨hb, e⟩ | ⟨hb, e⟩ | ⟨hb, e⟩ | ⟨hb, e⟩ | ⟨hb, e⟩
    · rw [e, hb]; exact (d "columns" z (by simp) hz).1
    · rw [e, hb]; exact (d "row" z (by simp) hz).1
    · rw [e, hb]; exact (d "ask" z (by simp) hz).1
    · rw [e, hb]; exact (d "times" z (by simp) hz).1
    · rw [e]
      obtain ⟨_, q1, q2⟩ := d z z hz hz
      exact ⟨fun h => absurd h q1, fun h => by rw [h, q2] at hb; cases hb⟩
  | num n =>
    refine ⟨fun h => ?_, fun h => by cases h⟩
    have h : Str.ofString "a number" = Str.ofString z := h
    exact absurd h (by rcases hz with rfl | rfl | rfl | rfl <;> decide +kernel)
  | sign j =>
    refine ⟨fun h => ?_, fun h => by cases h⟩
    have h : sign1 j = Str.ofString z := h
    exact absurd h (sign_ne (by rcases hz with rfl | rfl | rfl | rfl <;> decide +kernel))
  | last =>
    refine ⟨fun h => ?_, fun h => by cases h⟩
    have h : Str.ofString "the end" = Str.ofString z := h
    exact absurd h (by rcases hz with rfl | rfl | rfl | rfl <;> decide +kernel)
theorem what_name (t : VamvsBase.Tok) : whatOf t = "a name" ↔ ∃ b, t = .name b ∧ VamvsBase.RESERVED.contains b = false := by
  cases t with
  | name b =>
    show wordWhat b = "a name" ↔ _
    rcases wordWhat_cases b with ⟨hb, e⟩ | ⟨hb, e⟩ | ⟨hb, e⟩ | ⟨hb, e⟩ | ⟨hb, e⟩
    · rw [e]; exact ⟨fun h => absurd h (by decide +kernel), fun ⟨b', h1, h2⟩ => by cases h1; rw [hb] at h2; exact absurd h2 (by decide +kernel)⟩
    · rw [e]; exact ⟨fun h => absurd h (by decide +kernel), fun ⟨b', h1, h2⟩ => by cases h1; rw [hb] at h2; exact absurd h2 (by decide +kernel)⟩
    · rw [e]; exact ⟨fun h => absurd h (by decide +kernel), fun ⟨b', h1, h2⟩ => by cases h1; rw [hb] at h2; exact absurd h2 (by decide +kernel)⟩
    · rw [e]; exact ⟨fun h => absurd h (by decide +kernel), fun ⟨b', h1, h2⟩ => by cases h1; rw [hb] at h2; exact absurd h2 (by decide +kernel)⟩
    · exact ⟨fun _ => ⟨b, rfl, hb⟩, fun _ => e⟩
  | num n => exact ⟨fun h => absurd (show (("a number" : Str)) = "a name" from h) (by decide +kernel), fun ⟨b, h, _⟩ => by cases h⟩
  | sign j => exact ⟨fun h => absurd (show sign1 j = "a name" from h) (sign_ne (by decide +kernel)), fun ⟨b, h, _⟩ => by cases h⟩
  | last => exact ⟨fun h => absurd (show (("the end" : Str)) = "a name" from h) (by decide +kernel), fun ⟨b, h, _⟩ => by cases h⟩
theorem wordWhat_ne (b : List UInt8) {z : Str} (h : z ≠ "columns" ∧ z ≠ "row" ∧ z ≠ "ask" ∧ z ≠ "times" ∧ z ≠ "a name") : wordWhat b ≠ z := fun e => by
  obtain ⟨h1, h2, h3, h4, h5⟩ := h
  rcases wordWhat_cases b with ⟨_, q⟩ | ⟨_, q⟩ | ⟨_, q⟩ | ⟨_, q⟩ | ⟨_, q⟩ <;> rw [q] at e
  · exact h1 e.symm
  · exact h2 e.symm
  · exact h3 e.symm
  · exact h4 e.symm
  · exact h5 e.symm
theorem what_num (t : VamvsBase.Tok) : whatOf t = "a number" ↔ ∃ n, t = .num n := by
  cases t with
  | name b => exact ⟨fun h => absurd h (wordWhat_ne b (by decide +kernel)), fun ⟨n, h⟩ => by cases h⟩
  | num n => exact ⟨fun _ => ⟨n, rfl⟩, fun _ => rfl⟩
  | sign j => exact ⟨fun h => absurd (show sign1 j = "a number" from h) (sign_ne (by decide +kernel)), fun ⟨n, h⟩ => by cases h⟩
  | last => exact ⟨fun h => absurd (show (("the end" : Str)) = "a number" from h) (by decide +kernel), fun ⟨n, h⟩ => by cases h⟩
theorem what_end (t : VamvsBase.Tok) : whatOf t = "the end" ↔ t = .last := by
  cases t with
  | name b => exact ⟨fun h => absurd h (wordWhat_ne b (by decide +kernel)), fun h => by cases h⟩
  | num n => exact ⟨fun h => absurd (show (("a number" : Str)) = "the end" from h) (by decide +kernel), fun h => by cases h⟩
  | sign j => exact ⟨fun h => absurd (show sign1 j = "the end" from h) (sign_ne (by decide +kernel)), fun h => by cases h⟩
  | last => exact ⟨fun _ => rfl, fun _ => rfl⟩
/-! ### tokens of a text -/
def ToksOk (toks : Toks) : Prop := ∃ front p, toks = front ++ [⟨p, .last⟩]
theorem ToksOk.next {toks : Toks} {i : Nat} {t : PTok} (h : ToksOk toks) (hi : toks[i]? = some t) (hn : t.tok ≠ .last) : i + 1 < toks.length := by
  obtain ⟨front, p, rfl⟩ := h
  have hlt := (List.getElem?_eq_some_iff.mp hi).1
  rw [List.length_append, List.length_singleton] at hlt ⊢
  rcases Nat.lt_or_ge i front.length with q | q
  · omega
  · have e : i = front.length := by omega
    subst e
    rw [List.getElem?_append_right (Nat.le_refl _), Nat.sub_self] at hi
    cases hi
    exact absurd rfl hn
theorem tokEq_last {t : VamvsBase.Tok} : tokEq t .last = true ↔ t = .last := by
  cases t with
  | name b => exact ⟨(fun h => by cases h), (fun h => by cases h)⟩
  | num n => exact ⟨(fun h => by cases h), (fun h => by cases h)⟩
  | sign j => exact ⟨(fun h => by cases h), (fun h => by cases h)⟩
  | last => exact ⟨fun _ => rfl, fun _ => rfl⟩
theorem drop_get {α : Type} {l : List α} {i : Nat} {x : α} (h : l[i]? = some x) : l.drop i = x :: l.drop (i + 1) := by
  obtain ⟨h1, h2⟩ := List.getElem?_eq_some_iff.mp h
  rw [List.drop_eq_getElem_cons h1, h2]
theorem toks_lex : ∀ (n a : Nat) (l : List UInt8) {ts : Toks}, VamvsBase.lex n a l = .ok ts → ToksOk ts
  | 0, a, l, ts, h => ⟨[], a, by cases h; rfl⟩
  | n + 1, a, [], ts, h => ⟨[], a, by cases h; rfl⟩
  | n + 1, a, b :: r, ts, h => by
    have h : (if VamvsBase.isBlank b = true then VamvsBase.lex n (a + 1) r else if b == 35 then VamvsBase.lex n (a + 1 + (r.takeWhile (· != 10)).length) (r.dropWhile (· != 10)) else match VamvsBase.token (b :: r) with
      | none => .error ⟨2, a⟩
      | some x => (VamvsBase.lex n (a + x.2) ((b :: r).drop x.2)).map fun l => ⟨a, x.1⟩ :: l) = Except.ok ts := h
    by_cases h3 : VamvsBase.isBlank b = true
    · rw [if_pos h3] at h; exact toks_lex n _ _ h
    · rw [if_neg h3] at h
      by_cases h4 : (b == 35) = true
      · rw [if_pos h4] at h; exact toks_lex n _ _ h
      · rw [if_neg h4] at h
        cases ht : VamvsBase.token (b :: r) with
        | none => rw [ht] at h; cases h
        | some x =>
          rw [ht] at h
          have h : (VamvsBase.lex n (a + x.2) ((b :: r).drop x.2)).map (fun l => (⟨a, x.1⟩ : PTok) :: l) = Except.ok ts := h
          cases hl : VamvsBase.lex n (a + x.2) ((b :: r).drop x.2) with
          | error e => rw [hl] at h; cases h
          | ok z =>
            rw [hl] at h
            cases h
            obtain ⟨front, p, rfl⟩ := toks_lex n _ _ hl
            exact ⟨⟨a, x.1⟩ :: front, p, rfl⟩
theorem toks_ok {text : List UInt8} {ts : Toks} (h : VamvsBase.tokens text = .ok ts) : ToksOk ts := by
  unfold VamvsBase.tokens at h
  by_cases k : VamvsBase.TEXT < text.length
  · rw [if_pos k] at h; cases h
  · rw [if_neg k] at h; exact toks_lex _ _ _ h
/-! ### a reader, other things of ours beside it -/
structure Par (T : List NTab) (K : PySem.W.Frag) (c : Cs) (m : Ov) (H G : Hp) (r dx l : Addr) (ws : List V) (toks : Toks) (i : Nat) : Prop where
  h : H = ov (rdO c r dx l i ++ m) G
  lay : Lay (rdO c r dx l i ++ m) G
  sq : SqL K G l ws
  all : All2 (RTok c G) ws toks
  lt : i < toks.length
  ok : ToksOk toks
section
variable {m : Ov} {H G H' : Hp} {r dx l : Addr} {ws : List V} {toks : Toks} {i : Nat}
theorem Par.xt (p : Par T K c m H G r dx l ws toks i) : Xt T G H := by rw [p.h]; exact ov_xt p.lay
theorem Par.tb (p : Par T K c m H G r dx l ws toks i) (t : Tb T H) : Tb T G := tb_less (S := keys (rdO c r dx l i ++ m)) t (fun a ha => by
  obtain ⟨q, hq, rfl⟩ := List.mem_map.mp ha
  exact ⟨q.2, by rw [p.h]; exact ov_at p.lay.nd hq, p.lay.mo q hq⟩) fun a ha => by rw [p.h, ov_off ha]
theorem Par.go (p : Par T K c m H G r dx l ws toks i) {m' : Ov} {H' G' : Hp} {i' : Nat} (p' : Par T K c m' H' G' r dx l ws toks i') (x : Xt T G G') (t : Tb T H) : Tb T H' := p'.xt.tb (x.tb (p.tb t))
theorem Par.keep (p : Par T K c m H G r dx l ws toks i) (x : Xt T H H') : ∃ G', Par T K c m H' G' r dx l ws toks i ∧ Xt T G G' := by
  obtain ⟨rfl, h2, h3, h4, h5, h6⟩ := p
  obtain ⟨G', e, l', x', _⟩ := regain h2 x
  exact ⟨G', ⟨e, l', x'.seqL h3, h4.mono x', h5, h6⟩, x'⟩
theorem Par.get (p : Par T K c m H G r dx l ws toks i) : ∃ u tok, toks[i]? = some tok ∧ ws[i]? = some u ∧ RTok c G u tok := by
  have e := List.getElem?_eq_getElem p.lt
  obtain ⟨u, h1, h2⟩ := p.all.get e
  exact ⟨u, _, e, h1, h2⟩
theorem Par.rd (p : Par T K c m H G r dx l ws toks i) {u : V} {tok : PTok} (h1 : ws[i]? = some u) (h2 : RTok c G u tok) : RdAt T K c H (ov m G) r dx l ws i u tok := by
  have x := ov_xt (T := T) p.lay.app
  exact ⟨by rw [p.h, ov_app], p.lay.left, x.seqL p.sq, h1, Mono.mono x h2⟩
theorem Par.step (p : Par T K c m H G r dx l ws toks i) {G0 : Hp} {j : Nat} (x : Xt T (ov m G) G0) (hl : Lay (rdO c r dx l j) G0) (hj : j < toks.length) : ∃ G', ov (rdO c r dx l j) G0 = ov (rdO c r dx l j ++ m) G' ∧ Par T K c m (ov (rdO c r dx l j) G0) G' r dx l ws toks j ∧ Xt T G G' := by
  obtain ⟨G', e, l', x', _⟩ := regain p.lay.app x
  subst e
  have e2 : ov (rdO c r dx l j) (ov m G') = ov (rdO c r dx l j ++ m) G' := (ov_app _ _ _).symm
  exact ⟨G', e2, ⟨e2, Lay.join hl l', x'.seqL p.sq, p.all.mono x', hj, p.ok⟩, x'⟩
/-- the reader with its next token -/
theorem Par.hd (p : Par T K c m H G r dx l ws toks i) {tok : PTok} (ht : toks[i]? = some tok) : RHd K c H (.ref r) tok := by
  obtain ⟨u, tok', e, h1, h2⟩ := p.get
  rw [ht] at e
  cases e
  exact (p.rd h1 h2).hd
end
section
variable {X : Cx} {e1 e2 e3 : Expr} {σ : L2.St} {j : Nat} {pos p : Pos} {Q : VK} {E' : XK} {W : WX} {tok : PTok} {k : Bool} {code : Nat} {m : Ov} {H G : Hp} {r dx l : Addr} {ws : List V} {toks : Toks} {i : Nat} {z : Str}
/-- take(reader, what) -/
theorem we_take (tk : Takes X W) (hW : ∀ cls d σ H, E' cls d H → W cls d σ H) (F : DTake T X.prog X.w X.K X.mg X.base c) (hr : Room j X.A) (hk : 4 ≤ j) (ht : Tb T H) (hp : Par T X.K c m H G r dx l ws toks i) (hT : toks[i]? = some tok) (h1 : Ev T X RV e1 σ H (.ref r)) (h2 : Ev T X RS e2 σ H z) (hz : z ≠ "the end")
    (hok : whatOf tok.tok = z → ∀ u H' G', ws[i]? = some u → RTok c G u tok → Xt T G G' → Par T X.K c m H' G' r dx l ws toks (i + 1) → Q u H') (her : whatOf tok.tok ≠ z → FE T c E' G ⟨3, tok.place⟩)
    (hg : Gl X "take" := by rfl) (he : starEach (e1 :: [e2]) X.env = (false, eval e1 X.env) :: starEach [e2] X.env := by rfl) (he2 : starEach (e2 :: []) X.env = (false, eval e2 X.env) :: starEach [] X.env := by rfl) (hpl : (backTo pos (starEach [e2] X.env)).any (·.1) = false := by rfl) :
    We X (.Call (.Name "take" p) [e1, e2] [] pos) σ H Q :=
  we_callE tk hW F hr hk ((ea_cons h1 (ea_cons h2 ea_nil he2) he) H (Xt.refl _) _ fun vs H2 u2 ⟨v, r1, k1, k2, u, r', k3, k4, k5⟩ => by
    subst k1 k3 k5
    cases k2
    cases k4
    obtain ⟨G2, p2, x2⟩ := hp.keep u2
    obtain ⟨uu, tok', et, q1, q2⟩ := hp.get
    rw [hT] at et
    cases et
    refine ⟨u2.tb ht, r, dx, ov m G2, l, ws, i, uu, tok, z, rfl, p2.rd q1 (Mono.mono x2 q2), fun e G3 x3 l3 => ?_, fun e => FE.up (her e) (x2.trans (ov_xt p2.lay.app))⟩
    have nl : tok.tok ≠ .last := fun q => hz (by rw [← e, q]; rfl)
    obtain ⟨G4, e4, p4, x4⟩ := p2.step x3 l3 (hp.ok.next hT nl)
    exact hok e uu _ G4 q1 q2 (x2.trans x4) p4) hg (by decide) he hpl
/-- take_if(reader, what) -/
theorem we_takeif (F : DTakeIf T X.prog X.w X.K X.mg X.base c) (hr : Room j X.A) (hk : 3 ≤ j) (ht : Tb T H) (hp : Par T X.K c m H G r dx l ws toks i) (hT : toks[i]? = some tok) (h1 : Ev T X RV e1 σ H (.ref r)) (h2 : Ev T X RS e2 σ H z) (hz : z ≠ "the end")
    (hok : whatOf tok.tok = z → ∀ H' G', Xt T G G' → Par T X.K c m H' G' r dx l ws toks (i + 1) → Q (.bl true) H') (hno : whatOf tok.tok ≠ z → ∀ H' G', Xt T G G' → Par T X.K c m H' G' r dx l ws toks i → Q (.bl false) H')
    (hg : Gl X "take_if" := by rfl) (he : starEach (e1 :: [e2]) X.env = (false, eval e1 X.env) :: starEach [e2] X.env := by rfl) (he2 : starEach (e2 :: []) X.env = (false, eval e2 X.env) :: starEach [] X.env := by rfl) (hpl : (backTo pos (starEach [e2] X.env)).any (·.1) = false := by rfl) :
    We X (.Call (.Name "take_if" p) [e1, e2] [] pos) σ H Q :=
  we_callN F hr hk ((ea_cons h1 (ea_cons h2 ea_nil he2) he) H (Xt.refl _) _ fun vs H2 u2 ⟨v, r1, k1, k2, u, r', k3, k4, k5⟩ => by
    subst k1 k3 k5
    cases k2
    cases k4
    obtain ⟨G2, p2, x2⟩ := hp.keep u2
    obtain ⟨uu, tok', et, q1, q2⟩ := hp.get
    rw [hT] at et
    cases et
    refine ⟨u2.tb ht, r, dx, ov m G2, l, ws, i, uu, tok, z, rfl, p2.rd q1 (Mono.mono x2 q2), fun e G3 x3 l3 => ?_, fun e G3 x3 l3 => ?_⟩
    · have nl : tok.tok ≠ .last := fun q => hz (by rw [← e, q]; rfl)
      obtain ⟨G4, e4, p4, x4⟩ := p2.step x3 l3 (hp.ok.next hT nl)
      exact hok e _ G4 (x2.trans x4) p4
    · obtain ⟨G4, e4, p4, x4⟩ := p2.step x3 l3 hp.lt
      exact hno e _ G4 (x2.trans x4) p4) hg (by decide) he hpl
/-- need(reader, holds, code) -/
theorem we_needP (tk : Takes X W) (hW : ∀ cls d σ H, E' cls d H → W cls d σ H) (F : DNeed T X.prog X.w X.K X.mg X.base c) (hr : Room j X.A) (hk : 3 ≤ j) (ht : Tb T H) (hp : Par T X.K c m H G r dx l ws toks i) (hT : toks[i]? = some tok) (h1 : Ev T X RV e1 σ H (.ref r)) (h2 : Ev T X RB e2 σ H k) (h3 : Ev T X RN e3 σ H code)
    (hok : k = true → ∀ H' G', Xt T G G' → Par T X.K c m H' G' r dx l ws toks i → Q .non H') (her : k = false → FE T c E' G ⟨code, tok.place⟩) (hg : Gl X "need" := by rfl) (he : starEach (e1 :: [e2, e3]) X.env = (false, eval e1 X.env) :: starEach [e2, e3] X.env := by rfl) (he2 : starEach (e2 :: [e3]) X.env = (false, eval e2 X.env) :: starEach [e3] X.env := by rfl) (he3 : starEach (e3 :: []) X.env = (false, eval e3 X.env) :: starEach [] X.env := by rfl) (hpl : (backTo pos (starEach [e2, e3] X.env)).any (·.1) = false := by rfl) :
    We X (.Call (.Name "need" p) [e1, e2, e3] [] pos) σ H Q :=
  we_need tk hW F hr hk ht (Ev.to h1 fun H2 v u e => by cases e; obtain ⟨G2, p2, x2⟩ := hp.keep u; exact p2.hd hT) h2 h3 (fun e H' u => by
    obtain ⟨G2, p2, x2⟩ := hp.keep u
    exact hok e H' G2 x2 p2) (fun e => FE.up (her e) hp.xt) hg he he2 he3 hpl
/-- is_here(reader, what) -/
theorem ev_ishere (F : DIs T X.prog X.w X.K X.mg X.base c) (hr : Room j X.A) (hk : 2 ≤ j) (ht : Tb T H) (hp : Par T X.K c m H G r dx l ws toks i) (hT : toks[i]? = some tok) (h1 : Ev T X RV e1 σ H (.ref r)) (h2 : Ev T X RS e2 σ H z)
    (hg : Gl X "is_here" := by rfl) (he : starEach (e1 :: [e2]) X.env = (false, eval e1 X.env) :: starEach [e2] X.env := by rfl) (he2 : starEach (e2 :: []) X.env = (false, eval e2 X.env) :: starEach [] X.env := by rfl) (hpl : (backTo pos (starEach [e2] X.env)).any (·.1) = false := by rfl) :
    Ev T X RB (.Call (.Name "is_here" p) [e1, e2] [] pos) σ H (decide (whatOf tok.tok = z)) :=
  ev_c2 F hr hk ht (Ev.to (S := RHd X.K c) (y := tok) h1 fun H2 v u e => by cases e; obtain ⟨G2, p2, x2⟩ := hp.keep u; exact p2.hd hT) h2 trivial rfl hg (by decide) he he2 hpl
/-- here(reader) -/
theorem ev_here (F : DHere T X.prog X.w X.K X.mg X.base c) (hr : Room j X.A) (hk : 1 ≤ j) (ht : Tb T H) (hp : Par T X.K c m H G r dx l ws toks i) (hT : toks[i]? = some tok) (h1 : Ev T X RV e1 σ H (.ref r))
    (hg : Gl X "here" := by rfl) (he : starEach (e1 :: []) X.env = (false, eval e1 X.env) :: starEach [] X.env := by rfl) (hpl : (backTo pos (starEach [] X.env)).any (·.1) = false := by rfl) :
    Ev T X (RTok c) (.Call (.Name "here" p) [e1] [] pos) σ H tok :=
  ev_c1 F hr hk ht (Ev.to (S := RHd X.K c) (y := tok) h1 fun H2 v u e => by cases e; obtain ⟨G2, p2, x2⟩ := hp.keep u; exact p2.hd hT) trivial rfl hg (by decide) he hpl
end
/-! ### take_number -/
def numRes (lo hi : Nat) (t : PTok) : Except Fault Nat := match t.tok with
  | .num n => if lo ≤ n ∧ n ≤ hi then .ok n else .error ⟨7, t.place⟩
  | _ => .error ⟨3, t.place⟩
def SpTakeN (T : List NTab) (K : PySem.W.Frag) (c : Cs) : Sp := fun vs H Q E => Tb T H ∧ ∃ m G r dx l ws toks i tok lo hi, vs = [.ref r, .int ((lo : Nat) : Int), .int ((hi : Nat) : Int)] ∧ Par T K c m H G r dx l ws toks i ∧ toks[i]? = some tok ∧
  (∀ n, numRes lo hi tok = .ok n → ∀ H' G', Xt T G G' → Par T K c m H' G' r dx l ws toks (i + 1) → Q (.int (n : Int)) H') ∧ ∀ f, numRes lo hi tok = .error f → FE T c E G f
abbrev DTakeN (T : List NTab) (P : Program) (w : World) (K : PySem.W.Frag) (mg : Str → Option Value) (base : Heap) (c : Cs) : Prop := Df P w K mg base (L2.CX P w) 5 "take_number" ["reader", "low", "high"] (SpTakeN T K c)
abbrev s_taken : Stmt := top 69
def Ntaken : List Str := ["reader", "low", "high"]
theorem sc_taken : FnScope Ntaken Ntaken (defScope s_taken) := ⟨rfl, rfl, rfl, by decide +kernel, rfl, by decide +kernel, by decide +kernel⟩
theorem ok_taken {f : Addr} {fd : FuncData} (g : Gf K mg c) (dH : DHere T P w K mg base c) (dI : DIs T P w K mg base c) (dN : DNeed T P w K mg base c) (dT : DTake T P w K mg base c) (F : Fun K "take_number" "take_number" s_taken f fd) (hm : mg "take_number" = some (.ref f)) (b : Binds K fd Ntaken []) : DTakeN T P w K mg base c := by
  refine okE F hm b sc_taken (fun vs H Q E h => by obtain ⟨_, m, G, r, dx, l, ws, toks, i, tok, lo, hi, rfl, _⟩ := h; rfl) fun cdv A outer s H vs Q E hr h => ?_
  obtain ⟨ht, m, G, r, dx, l, ws, toks, i, tok, lo, hi, rfl, hp, hT, hok, her⟩ := h
  refine wb_expr (X := CxE P w K mg base Ntaken "take_number" s_taken f cdv A outer s H E) ?_
  refine we_needP (T := T) (c := c) (E' := E) (k := decide (whatOf tok.tok = "a number")) (code := 3) takeE (fun _ _ _ _ h => h) dN hr (by decide) ht hp hT ?_ ?_ ?_ (fun k H1 G1 x1 p1 => ?_) fun k => her _ ?_
  · exact vr 0 (R := RV) rfl
  · exact ev_ishere dI hr (by decide) ht hp hT (vr 0 (R := RV) rfl) (ev_gs g.gNUMBER)
  · exact Ev.to (R := RI) ev_int fun _ _ _ h => h
  · obtain ⟨n, en⟩ := (what_num tok.tok).mp (of_decide_eq_true k)
    have t1 : Tb T H1 := hp.go p1 x1 ht
    refine wb_expr (X := CxE P w K mg base Ntaken "take_number" s_taken f cdv A outer s H E) ?_
    refine we_needP (T := T) (c := c) (E' := E) (k := decide ((lo : Int) ≤ (n : Int)) && decide ((n : Int) ≤ (hi : Int))) (code := 7) takeE (fun _ _ _ _ h => h) dN hr (by decide) t1 p1 hT ?_ ?_ ?_ (fun k H2 G2 x2 p2 => ?_) fun k => FE.up (her _ ?_) x1
    · exact vr 0 (R := RV) rfl
    · refine ev_chain (i := (lo : Int)) (j := (n : Int)) (k := (hi : Int)) op_leI op_leI (vr 1 (R := RI) rfl) (Ev.to (R := RTold) (x := tok.tok) (ev_fld (S := RTok c) (R := RTold) (ev_here dH hr (by decide) t1 p1 hT (vr 0 (R := RV) rfl)) fun H1 v u r => r.told g) fun _ _ _ h => ?_) (vr 2 (R := RI) rfl)
      rw [en] at h
      exact h
    · exact Ev.to (R := RI) (ev_gi g.gOUT_OF_RANGE) fun _ _ _ h => h
    · rw [Bool.and_eq_true] at k
      have k1 := of_decide_eq_true k.1
      have k2 := of_decide_eq_true k.2
      have t2 : Tb T H2 := p1.go p2 x2 t1
      refine wb_cons (Ws.of (ps_ret (pe_fld we rfl)) ?_)
      refine we_take (T := T) (c := c) (E' := E) (z := "a number") takeE (fun _ _ _ _ h => h) dT hr (by decide) t2 p2 hT ?_ ?_ (by decide +kernel) (fun e u H3 G3 hu ru x3 p3 => ?_) fun e => absurd ((what_num tok.tok).mpr ⟨n, en⟩) e
      · exact vr 0 (R := RV) rfl
      · exact ev_gs g.gNUMBER
      · have ru3 : RTok c H3 u tok := Mono.mono p3.xt (Mono.mono x3 ru)
        obtain ⟨y, ⟨q, C, dx', fs, e1, e2, e3, e4, e5⟩, hy⟩ := ru3.told g
        refine ⟨q, C, dx', fs, y, e1, e2, e3, e4, e5, ?_⟩
        rw [en] at hy
        have hy : y = .int (n : Int) := hy
        subst hy
        refine hok n ?_ H3 G3 (x1.trans (x2.trans x3)) p3
        unfold numRes
        rw [en]
        show (if lo ≤ n ∧ n ≤ hi then _ else _) = _
        rw [if_pos ⟨by omega, by omega⟩]
    · unfold numRes
      rw [en]
      show (if lo ≤ n ∧ n ≤ hi then _ else _) = _
      rw [if_neg]
      rintro ⟨a1, a2⟩
      rw [decide_eq_true (by omega), decide_eq_true (by omega)] at k
      cases k
  · unfold numRes
    have k := of_decide_eq_false k
    cases e : tok.tok with
    | num n => exact absurd ((what_num tok.tok).mpr ⟨n, e⟩) k
    | name b => rfl
    | sign j => rfl
    | last => rfl
end G5
/-! T7: take_columns. -/
namespace G5
open PySem PySem.Spec PyProof.Rows L2
open VamvsBase (tokEq Toks PTok Fault)
variable {T : List NTab} {P : Program} {w : World} {K : PySem.W.Frag} {mg : Str → Option Value} {base : Heap} {c : Cs}
section
variable {X : Cx} {e a b o : Expr} {σ : L2.St} {H : Hp} {pos apos : Pos} {l : Addr} {Q : VK} {QT : Bool → Hp → Prop} {k : Bool}
/-- a truth told by a value that is a truth -/
theorem wt_bool (h : We X e σ H fun v H' => ∃ k, v = .bl k ∧ QT k H') (he : ∀ whole, isTrue e X.env whole = (do let v ← whole; standAt e.pos; holding [v] (truthy v)) := by intro _; rfl) : Wt X e σ H QT := Wt.of (pt_val we he) h
theorem wt_or (ha : EvT T X a σ H k) (h1 : k = true → ∀ H2, Xt T H H2 → QT true H2) (h2 : k = false → ∀ H2, Xt T H H2 → Wt X b σ H2 QT) : Wt X (.BoolOp .Or [a, b] pos) σ H QT :=
  Wt.of (PW.pt (pw_or wt (pw_or1 wt))) (ha.now fun H2 u2 => by
    cases k with
    | true => exact h1 rfl H2 u2
    | false => exact h2 rfl H2 u2)
theorem wt_and (ha : EvT T X a σ H k) (h1 : k = false → ∀ H2, Xt T H H2 → QT false H2) (h2 : k = true → ∀ H2, Xt T H H2 → Wt X b σ H2 QT) : Wt X (.BoolOp .And [a, b] pos) σ H QT :=
  Wt.of (PW.pt (pw_and wt (pw_and1 wt))) (ha.now fun H2 u2 => by
    cases k with
    | true => exact h2 rfl H2 u2
    | false => exact h1 rfl H2 u2)
/-- o.append(e), the list as it is found behind e -/
theorem we_appendW (ho : We X o σ H fun v H1 => v = .ref l ∧ ∃ vs, H1 l = some (.lst vs) ∧ We X e σ H1 fun v2 H2 => ∃ vs2, H2 l = some (.lst vs2) ∧ vs2.length ≤ 1000000 ∧ Q .non (upd H2 l (.lst (vs2 ++ [v2]))))
    (hbase : attributeBase o "append" X.env (eval o X.env) = eval o X.env := by rfl)
    (hfew : ((backTo pos (starEach (e :: []) X.env)).all (fun x => !x.1) && (backToKw pos (keywordEach [] X.env)).all (fun x => x.1.isSome) && decide ((e :: []).length + ([] : List Keyword).length + (if ([] : List Keyword).isEmpty then 0 else 1) < 30)) = true := by rfl)
    (hline : (apos.endLine == pos.line) = true := by rfl) (hs : starEach (e :: []) X.env = (false, eval e X.env) :: starEach [] X.env := by rfl) (hpl : (backTo pos (starEach [] X.env)).any (·.1) = false := by rfl) : We X (.Call (.Attribute o "append" apos) [e] [] pos) σ H Q :=
  We.of (pe_bm PySem.F.plainAttrs_list PySem.F.slot_list_append PySem.F.type_list_append mt_append we (pa_cons we pa_nil hs) hbase hfew hline hs hpl) (ho.imp fun v H1 ⟨e1, vs, hl, h⟩ => by
    subst e1
    exact ⟨.inl ⟨rfl, _, SqL.of hl⟩, h.imp fun v2 H2 ⟨vs2, hl2, hz, q⟩ => ⟨l, vs2, v2, rfl, rfl, hl2, Nat.lt_of_le_of_lt hz (by decide), q⟩⟩)
end
section
variable {m m1 m2 : Ov} {H G : Hp} {r dx l a : Addr} {ws : List V} {toks : Toks} {i : Nat} {u o : HO}
theorem ov_upd (h : Lay (m1 ++ (a, o) :: m2) G) (hu : MO u) : upd (ov (m1 ++ (a, o) :: m2) G) a u = ov (m1 ++ (a, u) :: m2) G ∧ Lay (m1 ++ (a, u) :: m2) G := by
  have p1 : (m1 ++ (a, o) :: m2).Perm ((a, o) :: (m1 ++ m2)) := List.perm_middle
  have p2 : (m1 ++ (a, u) :: m2).Perm ((a, u) :: (m1 ++ m2)) := List.perm_middle
  have l1 := (h.perm p1).set hu
  have l2 : Lay (m1 ++ (a, u) :: m2) G := l1.perm p2.symm
  refine ⟨?_, l2⟩
  rw [ov_perm h.nd p1, ov_set, ov_perm l2.nd p2]
theorem Par.put (p : Par T K c ((a, o) :: m) H G r dx l ws toks i) (hu : MO u) : Par T K c ((a, u) :: m) (upd H a u) G r dx l ws toks i := by
  obtain ⟨e1, e2⟩ := ov_upd (m1 := rdO c r dx l i) p.lay hu
  exact ⟨by rw [p.h]; exact e1, e2, p.sq, p.all, p.lt, p.ok⟩
theorem Par.own (p : Par T K c ((a, o) :: m) H G r dx l ws toks i) : H a = some o := by
  rw [p.h]
  exact ov_at p.lay.nd (List.mem_append_right _ List.mem_cons_self)
theorem lists_up {H' : Hp} (x : Xt T G H) {vs : List V} {cs : List (List UInt8)} (h : All2 (RM RU G) vs cs) (ha : H a = some (.lst vs)) : RL K (RM RU) H (.ref a) cs := ⟨a, vs, rfl, SqL.of ha, h.mono x⟩
end
/-! ### the specification, a step at a time -/
def colRes (l : Toks) : Except Fault (List (List UInt8) × Toks) := (VamvsBase.takeWord "columns" l).bind fun r => Vamvsa.takeColumns (r.length + 1) [] r
def colAt (n : Nat) (cs : List (List UInt8)) (l : Toks) : Except Fault (List (List UInt8) × Toks) := if cs = [] then Vamvsa.takeColumns n [] l else if VamvsBase.next (.sign 44) l = true then Vamvsa.takeColumns n cs (l.drop 1) else (VamvsBase.takeSign 59 l).map fun m => (cs, m)
theorem next_at {toks : Toks} {i : Nat} {tok : PTok} (h : toks[i]? = some tok) (t : VamvsBase.Tok) : VamvsBase.next t (toks.drop i) = tokEq tok.tok t := by rw [drop_get h]; rfl
theorem here_at {toks : Toks} {i : Nat} {tok : PTok} (h : toks[i]? = some tok) : VamvsBase.here (toks.drop i) = tok.place := by rw [drop_get h]; rfl
theorem drop_one {α : Type} (l : List α) (i : Nat) : (l.drop i).drop 1 = l.drop (i + 1) := by rw [List.drop_drop]
theorem taken_at {toks : Toks} {i : Nat} {tok : PTok} (h : toks[i]? = some tok) (t : VamvsBase.Tok) : VamvsBase.taken t (toks.drop i) = if tokEq tok.tok t = true then .ok (toks.drop (i + 1)) else .error ⟨3, tok.place⟩ := by
  unfold VamvsBase.taken VamvsBase.wrong
  rw [next_at h, here_at h, drop_one]
theorem name_at {toks : Toks} {i : Nat} {tok : PTok} (h : toks[i]? = some tok) : VamvsBase.takeName (toks.drop i) = match tok.tok with
    | .name b => if VamvsBase.RESERVED.contains b = true then .error ⟨3, tok.place⟩ else .ok (⟨tok.place, b⟩, toks.drop (i + 1))
    | _ => .error ⟨3, tok.place⟩ := by
  rw [drop_get h]
  obtain ⟨p, t⟩ := tok
  cases t <;> rfl
theorem cols_step {toks : Toks} {i n : Nat} {tok : PTok} {cs : List (List UInt8)} (h : toks[i]? = some tok) : Vamvsa.takeColumns (n + 1) cs (toks.drop i) = match tok.tok with
    | .name b => if VamvsBase.RESERVED.contains b = true then .error ⟨3, tok.place⟩ else if 4 ≤ cs.length then .error ⟨4, tok.place⟩ else if cs.contains b = true then .error ⟨5, tok.place⟩ else colAt n (cs ++ [b]) (toks.drop (i + 1))
    | _ => .error ⟨3, tok.place⟩ := by
  show (VamvsBase.takeName (toks.drop i)).bind _ = _
  rw [name_at h]
  cases tok.tok with
  | name b =>
    by_cases hb : VamvsBase.RESERVED.contains b = true
    · show Except.bind (if VamvsBase.RESERVED.contains b = true then _ else _) _ = (if VamvsBase.RESERVED.contains b = true then _ else _)
      rw [if_pos hb, if_pos hb]
      rfl
    · show Except.bind (if VamvsBase.RESERVED.contains b = true then _ else _) _ = (if VamvsBase.RESERVED.contains b = true then _ else _)
      rw [if_neg hb, if_neg hb]
      show (if Vamvsa.COLUMNS ≤ cs.length then _ else _) = _
      unfold Vamvsa.COLUMNS colAt
      rw [if_neg (show ¬ cs ++ [b] = [] by simp)]
  | num n => rfl
  | sign j => rfl
  | last => rfl
/-! ### take_columns -/
def SpCols (T : List NTab) (K : PySem.W.Frag) (c : Cs) : Sp := fun vs H Q E => Tb T H ∧ ∃ m G r dx l ws toks i t dt lc lv qv, vs = [.ref r, .ref t] ∧ Par T K c ((lc, .lst []) :: m) H G r dx l ws toks i ∧ G t = some (.ins c.table dt [("columns", .ref lc), ("lines", lv), ("questions", qv)]) ∧
  (∀ cs l', colRes (toks.drop i) = .ok (cs, l') → ∀ H' G' us j, l' = toks.drop j → Xt T G G' → Par T K c ((lc, .lst us) :: m) H' G' r dx l ws toks j → All2 (RM RU G') us cs → Q .non H') ∧ ∀ f, colRes (toks.drop i) = .error f → FE T c E G f
abbrev DCols (T : List NTab) (P : Program) (w : World) (K : PySem.W.Frag) (mg : Str → Option Value) (base : Heap) (c : Cs) : Prop := Df P w K mg base (L2.CX P w) 5 "take_columns" ["reader", "table"] (SpCols T K c)
abbrev s_cols : Stmt := top 70
def Ncols : List Str := ["reader", "table"]
theorem sc_cols : FnScope Ncols Ncols (defScope s_cols) := ⟨rfl, rfl, rfl, by decide +kernel, rfl, by decide +kernel, by decide +kernel⟩
theorem ok_cols {f : Addr} {fd : FuncData} (g : Gf K mg c) (dH : DHere T P w K mg base c) (dI : DIs T P w K mg base c) (dN : DNeed T P w K mg base c) (dT : DTake T P w K mg base c) (dF : DTakeIf T P w K mg base c) (F : Fun K "take_columns" "take_columns" s_cols f fd) (hm : mg "take_columns" = some (.ref f)) (b : Binds K fd Ncols []) : DCols T P w K mg base c := by
  refine okE F hm b sc_cols (fun vs H Q E h => by obtain ⟨_, m, G, r, dx, l, ws, toks, i, t, dt, lc, lv, qv, rfl, _⟩ := h; rfl) fun cdv A outer s H vs Q E hr h => ?_
  obtain ⟨ht, m, G, r, dx, l, ws, toks, i, t, dt, lc, lv, qv, rfl, hp, hG, hok, her⟩ := h
  have hu := u65 hr
  obtain ⟨_, tok, hT, _, _⟩ := hp.get
  have eR : colRes (toks.drop i) = (if tokEq tok.tok (.name (VamvsBase.word "columns")) = true then Except.ok (toks.drop (i + 1)) else .error ⟨3, tok.place⟩).bind fun r => Vamvsa.takeColumns (r.length + 1) [] r := by
    unfold colRes VamvsBase.takeWord
    rw [taken_at hT]
  refine wb_expr (X := CxE P w K mg base Ncols "take_columns" s_cols f cdv A outer s H E) ?_
  refine we_take (T := T) (c := c) (E' := E) (z := "columns") takeE (fun _ _ _ _ h => h) dT hr (by decide) ht hp hT ?_ ?_ (by decide +kernel) (fun e u H1 G1 hu1 ru x1 p1 => ?_) fun e => her _ ?_
  · exact vr 0 (R := RV) rfl
  · exact ev_str
  rotate_left
  · rw [eR, if_neg fun z => e ((what_word tok.tok "columns" (by simp)).mpr z)]
    rfl
  have t1 := hp.go p1 x1 ht
  have eR2 : colRes (toks.drop i) = colAt ((toks.drop (i + 1)).length + 1) [] (toks.drop (i + 1)) := by
    rw [eR, if_pos ((what_word tok.tok "columns" (by simp)).mp e)]
    rfl
  rw [eR2] at hok her
  have hasC : ∀ {H' G' : Hp} {j : Nat} {us : List V}, Xt T G G' → Par T K c ((lc, .lst us) :: m) H' G' r dx l ws toks j → ∀ H2, Xt T H' H2 → Has K "columns" H2 (.ref t) (.ref lc) := fun {H' G' j us} x p H2 x2 => has_of g.table ((x.trans (p.xt.trans x2)).ex _ _ hG nt_ins) rfl (by decide)
  have ecols : ∀ {H' G' : Hp} {j : Nat} {us : List V} {cs : List (List UInt8)} {pp q2 : Pos}, Xt T G G' → Par T K c ((lc, .lst us) :: m) H' G' r dx l ws toks j → All2 (RM RU G') us cs → Ev T (CxE P w K mg base Ncols "take_columns" s_cols f cdv A outer s H E) (RL K (RM RU)) (.Attribute (.Name "table" q2) "columns" pp) [some (.ref r), some (.ref t)] H' cs := fun {H' G' j us cs pp q2} x p ha =>
    ev_fld (S := RV) (R := RL K (RM RU)) (y := .ref t) (vr 1 rfl) fun H2 v u e => by
      cases e
      exact ⟨.ref lc, hasC x p H2 u, lc, us, rfl, SqL.of (u.ex _ _ p.own nt_lst), ha.mono (p.xt.trans u)⟩
  refine wb_while poE (fun M σ' H' => ∃ (n : Nat) (cs : List (List UInt8)) (us : List V) (G' : Hp) (j : Nat), M = toks.length - j ∧ toks.length - j < n ∧ σ' = [some (.ref r), some (.ref t)] ∧ Xt T G G' ∧ Tb T H' ∧ Par T K c ((lc, .lst us) :: m) H' G' r dx l ws toks j ∧ All2 (RM RU G') us cs ∧ cs.length ≤ 4 ∧ colAt ((toks.drop (i + 1)).length + 1) [] (toks.drop (i + 1)) = colAt n cs (toks.drop j)) (toks.length - (i + 1))
    ⟨_, [], [], G1, i + 1, rfl, by rw [List.length_drop]; exact Nat.lt_succ_self _, rfl, x1, t1, p1, .nil, by decide, rfl⟩ fun M σ' H' W => ?_
  obtain ⟨n, cs, us, G', j, rfl, hn, rfl, x, tH, p, ha, hc4, hlaw⟩ := W
  obtain ⟨_, tj, hTj, _, _⟩ := p.get
  have body : ∀ (D : Ends) (H2 G2 : Hp) (i2 : Nat), (∀ σ2 H2, (∃ M', M' < toks.length - j ∧ ∃ (n : Nat) (cs : List (List UInt8)) (us : List V) (G' : Hp) (j : Nat), M' = toks.length - j ∧ toks.length - j < n ∧ σ2 = [some (.ref r), some (.ref t)] ∧ Xt T G G' ∧ Tb T H2 ∧ Par T K c ((lc, .lst us) :: m) H2 G' r dx l ws toks j ∧ All2 (RM RU G') us cs ∧ cs.length ≤ 4 ∧ colAt ((toks.drop (i + 1)).length + 1) [] (toks.drop (i + 1)) = colAt n cs (toks.drop j)) → D.nx σ2 H2) →
      Xt T G' G2 → Tb T H2 → Par T K c ((lc, .lst us) :: m) H2 G2 r dx l ws toks i2 → j ≤ i2 → colAt n cs (toks.drop j) = Vamvsa.takeColumns n cs (toks.drop i2) → Wb (CxE P w K mg base Ncols "take_columns" s_cols f cdv A outer s H E) (suite (stm s_cols 1)) D [some (.ref r), some (.ref t)] H2 := fun D H2 G2 i2 hD x2 t2 p2 hj he => by
    obtain ⟨_, t3, hT3, _, _⟩ := p2.get
    obtain ⟨n', rfl⟩ : ∃ n', n = n' + 1 := ⟨n - 1, by omega⟩
    rw [cols_step hT3] at he
    have xx := x.trans x2
    have ha2 := ha.mono x2
    refine wb_expr (X := CxE P w K mg base Ncols "take_columns" s_cols f cdv A outer s H E) ?_
    refine we_needP (T := T) (c := c) (E' := E) (k := decide (whatOf t3.tok = "a name")) (code := 3) takeE (fun _ _ _ _ h => h) dN hr (by decide) t2 p2 hT3 ?_ ?_ ?_ (fun k H4 G4 x4 p4 => ?_) fun k => FE.up (her ⟨3, t3.place⟩ ?_) xx
    · exact vr 0 (R := RV) rfl
    · exact ev_ishere dI hr (by decide) t2 p2 hT3 (vr 0 (R := RV) rfl) (ev_gs g.gNAME)
    · exact Ev.to (R := RI) ev_int fun _ _ _ h => h
    rotate_left
    · rw [hlaw, he]
      have k := of_decide_eq_false k
      cases e3 : t3.tok with
      | name bb =>
        show (if VamvsBase.RESERVED.contains bb = true then _ else _) = _
        rw [if_pos]
        cases hb : VamvsBase.RESERVED.contains bb with
        | true => rfl
        | false => exact absurd ((what_name t3.tok).mpr ⟨bb, e3, hb⟩) k
      | num n => rfl
      | sign q => rfl
      | last => rfl
    obtain ⟨bb, e3, hbb⟩ := (what_name t3.tok).mp (of_decide_eq_true k)
    rw [e3] at he
    have he : colAt (n' + 1) cs (toks.drop j) = if 4 ≤ cs.length then .error ⟨4, t3.place⟩ else if cs.contains bb = true then .error ⟨5, t3.place⟩ else colAt n' (cs ++ [bb]) (toks.drop (i2 + 1)) := he.trans (if_neg (by rw [hbb]; decide))
    have t4 := p2.go p4 x4 t2
    have ha4 := ha2.mono x4
    refine wb_expr (X := CxE P w K mg base Ncols "take_columns" s_cols f cdv A outer s H E) ?_
    refine we_needP (T := T) (c := c) (E' := E) (k := decide (cs.length < 4)) (code := 4) takeE (fun _ _ _ _ h => h) dN hr (by decide) t4 p4 hT3 ?_ ?_ ?_ (fun k H5 G5 x5 p5 => ?_) fun k => FE.up (her ⟨4, t3.place⟩ ?_) (xx.trans x4)
    · exact vr 0 (R := RV) rfl
    · exact Ev.is (ev_cmp (x := (cs.length : Int)) (y := (4 : Int)) cmp_lt (ev_len g.len (ecols (xx.trans x4) p4 ha4)) (ev_gi g.gMOST_COLUMNS)) (decide_eq_decide.mpr ⟨fun h => by omega, fun h => by omega⟩)
    · exact Ev.to (R := RI) (ev_gi g.gTOO_MANY) fun _ _ _ h => h
    rotate_left
    · have k := of_decide_eq_false k
      rw [hlaw, he, if_pos (by omega)]
    have k4 := of_decide_eq_true k
    have he := he.trans (if_neg (by omega))
    have t5 := p4.go p5 x5 t4
    have ha5 := ha4.mono x5
    refine wb_expr (X := CxE P w K mg base Ncols "take_columns" s_cols f cdv A outer s H E) ?_
    refine we_needP (T := T) (c := c) (E' := E) (k := !cs.contains bb) (code := 5) takeE (fun _ _ _ _ h => h) dN hr (by decide) t5 p5 hT3 ?_ ?_ ?_ (fun k H6 G6 x6 p6 => ?_) fun k => FE.up (her ⟨5, t3.place⟩ ?_) (xx.trans (x4.trans x5))
    · exact vr 0 (R := RV) rfl
    · refine ev_cmp (cmp_notInBs hu) (Ev.to (R := RTold) (x := t3.tok) (ev_fld (S := RTok c) (R := RTold) (ev_here dH hr (by decide) t5 p5 hT3 (vr 0 (R := RV) rfl)) fun H1 v u r => r.told g) fun H2 v u h => ?_) (ecols (xx.trans (x4.trans x5)) p5 ha5)
      rw [e3] at h
      exact RM.rl h
    · exact Ev.to (R := RI) (ev_gi g.gTOLD_BEFORE) fun _ _ _ h => h
    rotate_left
    · have k : cs.contains bb = true := by simpa using k
      rw [hlaw, he, if_pos k]
    have kc : cs.contains bb = false := by simpa using k
    have he := he.trans (if_neg (by rw [kc]; decide))
    have t6 := p5.go p6 x6 t5
    have ha6 := ha5.mono x6
    have x06 := xx.trans (x4.trans (x5.trans x6))
    refine wb_expr (X := CxE P w K mg base Ncols "take_columns" s_cols f cdv A outer s H E) ?_
    refine we_appendW (l := lc) (we_fld (we_var (i := 1) rfl ⟨hasC x06 p6 _ (Xt.refl _), rfl, us, p6.own, ?_⟩))
    refine We.of (pe_fld we rfl) ?_
    refine we_take (T := T) (c := c) (E' := E) (z := "a name") takeE (fun _ _ _ _ h => h) dT hr (by decide) t6 p6 hT3 ?_ ?_ (by decide +kernel) (fun e u H7 G7 hu7 ru x7 p7 => ?_) fun e => absurd ((what_name t3.tok).mpr ⟨bb, e3, hbb⟩) e
    · exact vr 0 (R := RV) rfl
    · exact ev_gs g.gNAME
    obtain ⟨ua, udx, tv, rfl, hua, htold⟩ := (Mono.mono x7 ru : RTok c G7 u t3)
    rw [e3] at htold
    have hlen : us.length ≤ 4 := by rw [ha.length]; omega
    refine ⟨ua, c.token, udx, _, tv, rfl, p7.xt.ex _ _ hua nt_ins, g.token.cl, g.token.no _ (by decide), rfl, us, p7.own, by omega, ?_⟩
    have p8 := p7.put (u := .lst (us ++ [tv])) mo_lst
    have x07 := x06.trans x7
    have lt3 := p7.lt
    have lt2 := p2.lt
    refine wb_nil (hD _ _ ⟨toks.length - (i2 + 1), by omega, n', cs ++ [bb], us ++ [tv], G7, i2 + 1, rfl, by omega, rfl, x07, ?_, p8, (ha6.mono x7).snoc htold, by rw [List.length_append, List.length_singleton]; omega, hlaw.trans he⟩)
    exact p8.xt.tb (x07.tb (hp.tb ht))
  have fin : ∀ (D : Ends) (H2 G2 : Hp), D.nx = (fun _ H' => Q .non H') → Xt T G' G2 → Tb T H2 → Par T K c ((lc, .lst us) :: m) H2 G2 r dx l ws toks j → ¬ cs = [] → tokEq tj.tok (.sign 44) = false → Wb (CxE P w K mg base Ncols "take_columns" s_cols f cdv A outer s H E) ((defBody s_cols).drop 2) D [some (.ref r), some (.ref t)] H2 := fun D H2 G2 hD x2 t2 p2 hcs hcm => by
    have he : colAt n cs (toks.drop j) = (if tokEq tj.tok (.sign 59) = true then Except.ok (toks.drop (j + 1)) else .error ⟨3, tj.place⟩).map fun m => (cs, m) := by
      unfold colAt VamvsBase.takeSign
      rw [if_neg hcs, next_at hTj, if_neg (by rw [hcm]; decide), taken_at hTj]
    refine wb_expr (X := CxE P w K mg base Ncols "take_columns" s_cols f cdv A outer s H E) ?_
    refine we_take (T := T) (c := c) (E' := E) (z := ";") takeE (fun _ _ _ _ h => h) dT hr (by decide) t2 p2 hTj ?_ ?_ (by decide +kernel) (fun e u H7 G7 hu7 ru x7 p7 => wb_nil ?_) fun e => FE.up (her _ ?_) (x.trans x2)
    · exact vr 0 (R := RV) rfl
    · exact ev_str
    · rw [hD]
      refine hok cs (toks.drop (j + 1)) ?_ H7 G7 us (j + 1) rfl (x.trans (x2.trans x7)) p7 (ha.mono (x2.trans x7))
      rw [hlaw, he, if_pos ((what_sign tj.tok 59).mp (e.trans (by decide +kernel)))]
      rfl
    · rw [hlaw, he, if_neg fun z => e (((what_sign tj.tok 59).mpr z).trans (by decide +kernel))]
      rfl
  refine wt_or (T := T) (k := decide (cs = [])) (et_cmp (y := ([] : List (List UInt8))) (cmp_eqBs0 (u64 hr)) (ecols x p ha) (Ev.to (R := RM (RM RU)) (ev_list es_nil) fun _ _ _ h => h.rl)) (fun k H2 u2 => ?_) fun k H2 u2 => ?_
  · have k := of_decide_eq_true k
    obtain ⟨G2, p2, x2⟩ := p.keep u2
    rw [if_pos rfl]
    refine body _ H2 G2 j (fun _ _ h => h) x2 (u2.tb tH) p2 (Nat.le_refl _) ?_
    unfold colAt
    rw [if_pos k, k]
  · have k := of_decide_eq_false k
    obtain ⟨G2, p2, x2⟩ := p.keep u2
    refine wt_bool ?_
    refine we_takeif (T := T) (c := c) (z := ",") dF hr (by decide) (u2.tb tH) p2 hTj ?_ ?_ (by decide +kernel) (fun e H3 G3 x3 p3 => ⟨true, rfl, ?_⟩) fun e H3 G3 x3 p3 => ⟨false, rfl, ?_⟩
    · exact vr 0 (R := RV) rfl
    · exact ev_str
    · rw [if_pos rfl]
      refine body _ H3 G3 (j + 1) (fun _ _ h => h) (x2.trans x3) (p2.go p3 x3 (u2.tb tH)) p3 (Nat.le_succ _) ?_
      unfold colAt
      rw [if_neg k, next_at hTj, if_pos ((what_sign tj.tok 44).mp (e.trans (by decide +kernel))), drop_one]
    · rw [if_neg (by decide)]
      refine fin _ H3 G3 rfl (x2.trans x3) (p2.go p3 x3 (u2.tb tH)) p3 k ?_
      cases hcm : tokEq tj.tok (.sign 44) with
      | false => rfl
      | true => exact absurd (((what_sign tj.tok 44).mpr hcm).trans (by decide +kernel)) e
end G5
/-! T8: take_row. -/
namespace G5
open PySem PySem.Spec PyProof.Rows L2
open VamvsBase (tokEq Toks PTok Fault)
variable {T : List NTab} {P : Program} {w : World} {K : PySem.W.Frag} {mg : Str → Option Value} {base : Heap} {c : Cs}
/-! ### what stays told when things that change are taken off -/
def Less (S : List Addr) (H G : Hp) : Prop := (∀ a ∈ S, ∃ o, H a = some o ∧ MO o) ∧ ∀ a, a ∉ S → G a = H a
theorem Less.at' {S : List Addr} {H G : Hp} {a : Addr} {o : HO} (h : Less S H G) (ha : H a = some o) (ho : ¬ MO o) : G a = some o := by
  rw [h.2 a fun z => ?_]
  · exact ha
  · obtain ⟨u, e, mo⟩ := h.1 a z
    rw [ha] at e
    exact ho (Option.some.inj e ▸ mo)
theorem not_mo_tup {xs : List V} : ¬ MO (.tup xs) := by
  rintro ⟨xs, C, dx, fs, kvs, x, z | z | z | z⟩ <;> exact nomatch z
theorem not_mo_frz {o : Obj} {u : HO} : ¬ MO (.frz o u) := by
  rintro ⟨xs, C, dx, fs, kvs, x, z | z | z | z⟩ <;> exact nomatch z
class Dn {α : Type} (R : Rp α) : Prop where
  dn : ∀ {S : List Addr} {H G : Hp} {v : V} {x : α}, Less S H G → R H v x → R G v x
instance : Dn RI := ⟨fun _ h => h⟩
instance : Dn RN := ⟨fun _ h => h⟩
instance : Dn RU := ⟨fun _ h => h⟩
theorem sqT_dn {S : List Addr} {H G : Hp} {a : Addr} {xs : List V} (h : Less S H G) (q : SqT K H a xs) : SqT K G a xs := by
  rcases q with (q | ⟨o, q⟩) | q
  · exact .inl (.inl (h.at' q not_mo_tup))
  · exact .inl (.inr ⟨o, h.at' q not_mo_frz⟩)
  · exact .inr q
instance {α : Type} {R : Rp α} [Dn R] : Dn (RTs K R) := ⟨fun h ⟨a, vs, e, h1, h2⟩ => ⟨a, vs, e, sqT_dn h h1, h2.imp fun _ _ r => Dn.dn h r⟩⟩
instance {α β : Type} {R : Rp α} {S : Rp β} [Dn R] [Dn S] : Dn (RP K R S) := ⟨fun h ⟨a, v1, v2, e, h1, h2, h3⟩ => ⟨a, v1, v2, e, sqT_dn h h1, Dn.dn h h2, Dn.dn h h3⟩⟩
instance : Dn (RRow K) := ⟨fun h q => Dn.dn (R := RP K (RTs K RN) RI) h q⟩
instance : Dn (RAsk K) := ⟨fun h q => Dn.dn (R := RP K RN RN) h q⟩
theorem Lay.less {m : Ov} {G : Hp} (h : Lay m G) : Less (keys m) (ov m G) G := ⟨fun a ha => by
  obtain ⟨p, hp, rfl⟩ := List.mem_map.mp ha
  exact ⟨p.2, ov_at h.nd hp, h.mo p hp⟩, fun a ha => (ov_off ha).symm⟩
section
variable {m m' : Ov} {H G : Hp} {r dx l a : Addr} {ws : List V} {toks : Toks} {i : Nat} {u o : HO}
theorem Par.dn {α : Type} {R : Rp α} [Dn R] {v : V} {x : α} (p : Par T K c m H G r dx l ws toks i) (h : R H v x) : R G v x := by
  have := p.lay.less
  rw [← p.h] at this
  exact Dn.dn this h
theorem Par.perm (p : Par T K c m H G r dx l ws toks i) (q : m.Perm m') : Par T K c m' H G r dx l ws toks i := by
  have q2 : (rdO c r dx l i ++ m).Perm (rdO c r dx l i ++ m') := List.Perm.append_left _ q
  exact ⟨by rw [p.h]; exact ov_perm p.lay.nd q2, p.lay.perm q2, p.sq, p.all, p.lt, p.ok⟩
theorem Par.swap {p1 p2 : Addr × HO} (p : Par T K c (p1 :: p2 :: m) H G r dx l ws toks i) : Par T K c (p2 :: p1 :: m) H G r dx l ws toks i := p.perm (List.Perm.swap ..)
/-- a new thing of ours -/
theorem Par.add (p : Par T K c m H G r dx l ws toks i) (ha : H a = none) (ho : MO o) : Par T K c ((a, o) :: m) (upd H a o) G r dx l ws toks i := by
  have e := p.h
  subst e
  have hk : a ∉ keys (rdO c r dx l i ++ m) := fun z => by
    obtain ⟨q, hq, rfl⟩ := List.mem_map.mp z
    rw [ov_at p.lay.nd hq] at ha
    cases ha
  have hg : G a = none := by rw [ov_off hk] at ha; exact ha
  have l1 : Lay ((a, o) :: (rdO c r dx l i ++ m)) G := p.lay.cons hk hg ho
  have pm : ((a, o) :: (rdO c r dx l i ++ m)).Perm (rdO c r dx l i ++ (a, o) :: m) := List.perm_middle.symm
  exact ⟨ov_perm l1.nd pm, l1.perm pm, p.sq, p.all, p.lt, p.ok⟩
/-- a thing of ours, to stay from now on -/
theorem Par.lay1 (p : Par T K c ((a, o) :: m) H G r dx l ws toks i) : Par T K c m H (upd G a o) r dx l ws toks i ∧ Xt T G (upd G a o) ∧ upd G a o a = some o := by
  have pm : (rdO c r dx l i ++ (a, o) :: m).Perm ((rdO c r dx l i ++ m) ++ [(a, o)]) := by
    refine List.perm_middle.trans ?_
    rw [← List.singleton_append]
    exact List.perm_append_comm
  have l1 := p.lay.perm pm
  have e1 : ov ((rdO c r dx l i ++ m) ++ [(a, o)]) G = ov (rdO c r dx l i ++ m) (upd G a o) := ov_app _ _ _
  have hx : Xt T G (upd G a o) := Xt.new (l1.app.no a (List.mem_singleton.mpr rfl))
  exact ⟨⟨by rw [p.h, ov_perm p.lay.nd pm, e1], l1.left, hx.seqL p.sq, p.all.mono hx, p.lt, p.ok⟩, hx, upd_same⟩
end
section
variable {X : Cx} {e1 e2 e3 : Expr} {σ : L2.St} {j : Nat} {pos p : Pos} {Q : VK} {E' : XK} {W : WX} {tok : PTok} {m : Ov} {H G : Hp} {r dx l : Addr} {ws : List V} {toks : Toks} {i lo hi : Nat}
/-- take_number(reader, low, high) -/
theorem we_taken (tk : Takes X W) (hW : ∀ cls d σ H, E' cls d H → W cls d σ H) (F : DTakeN T X.prog X.w X.K X.mg X.base c) (hr : Room j X.A) (hk : 5 ≤ j) (ht : Tb T H) (hp : Par T X.K c m H G r dx l ws toks i) (hT : toks[i]? = some tok) (h1 : Ev T X RV e1 σ H (.ref r)) (h2 : Ev T X RN e2 σ H lo) (h3 : Ev T X RN e3 σ H hi)
    (hok : ∀ n, numRes lo hi tok = .ok n → ∀ H' G', Xt T G G' → Par T X.K c m H' G' r dx l ws toks (i + 1) → Q (.int (n : Int)) H') (her : ∀ f, numRes lo hi tok = .error f → FE T c E' G f)
    (hg : Gl X "take_number" := by rfl) (he : starEach (e1 :: [e2, e3]) X.env = (false, eval e1 X.env) :: starEach [e2, e3] X.env := by rfl) (he2 : starEach (e2 :: [e3]) X.env = (false, eval e2 X.env) :: starEach [e3] X.env := by rfl) (he3 : starEach (e3 :: []) X.env = (false, eval e3 X.env) :: starEach [] X.env := by rfl) (hpl : (backTo pos (starEach [e2, e3] X.env)).any (·.1) = false := by rfl) :
    We X (.Call (.Name "take_number" p) [e1, e2, e3] [] pos) σ H Q :=
  we_callE tk hW F hr hk ((ea_cons h1 (ea_cons h2 (ea_cons h3 ea_nil he3) he2) he) H (Xt.refl _) _ fun vs H2 u2 ⟨v, r1, k1, k2, u, r', k3, k4, t', r2, k5, k6, k7⟩ => by
    subst k1 k3 k5 k7
    cases k2
    cases k4
    cases k6
    obtain ⟨G2, p2, x2⟩ := hp.keep u2
    exact ⟨u2.tb ht, m, G2, r, dx, l, ws, toks, i, tok, lo, hi, rfl, p2, hT, fun n e H' G' x q => hok n e H' G' (x2.trans x) q, fun f e => FE.up (her f e) x2⟩) hg (by decide) he hpl
end
theorem nat_at {toks : Toks} {i : Nat} {tok : PTok} (h : toks[i]? = some tok) (hi : Nat) : Vamvsa.takeNat hi (toks.drop i) = (numRes 0 hi tok).map fun n => (n, toks.drop (i + 1)) := by
  rw [drop_get h]
  obtain ⟨p, t⟩ := tok
  unfold numRes
  cases t with
  | num n =>
    show (if hi < n then _ else _) = (if 0 ≤ n ∧ n ≤ hi then _ else _ : Except Fault Nat).map _
    by_cases q : hi < n
    · rw [if_pos q, if_neg (by omega)]; rfl
    · rw [if_neg q, if_pos (by omega)]; rfl
  | name b => rfl
  | sign q => rfl
  | last => rfl
/-! ### take_row -/
def rowRes (n : Nat) (l : Toks) : Except Fault (Vamvsa.Row × Toks) := (Vamvsa.takeValues n [] l).bind fun v => (VamvsBase.takeSign 58 v.2).bind fun r => (Vamvsa.takeInt r).bind fun x => (VamvsBase.takeSign 59 x.2).map fun m => (⟨v.1, x.1⟩, m)
def SpRow (T : List NTab) (K : PySem.W.Frag) (c : Cs) : Sp := fun vs H Q E => Tb T H ∧ ∃ m G r dx l ws toks i tok t dt ll cv qv rv cols, vs = [.ref r, .ref t] ∧ Par T K c ((ll, .lst rv) :: m) H G r dx l ws toks i ∧ toks[i]? = some tok ∧ whatOf tok.tok = "row" ∧ G t = some (.ins c.table dt [("columns", cv), ("lines", .ref ll), ("questions", qv)]) ∧
  RL K (RM RU) G cv cols ∧ cols.length ≤ 4 ∧ (rv.length < 16 → (∀ row l', rowRes cols.length (toks.drop (i + 1)) = .ok (row, l') → ∀ H' G' v j, l' = toks.drop j → i < j → Xt T G G' → Par T K c ((ll, .lst (rv ++ [v])) :: m) H' G' r dx l ws toks j → RRow K G' v row → Q .non H') ∧ ∀ f, rowRes cols.length (toks.drop (i + 1)) = .error f → FE T c E G f) ∧
  (16 ≤ rv.length → FE T c E G ⟨4, tok.place⟩)
abbrev DRow (T : List NTab) (P : Program) (w : World) (K : PySem.W.Frag) (mg : Str → Option Value) (base : Heap) (c : Cs) : Prop := Df P w K mg base (L2.CX P w) 6 "take_row" ["reader", "table"] (SpRow T K c)
abbrev s_row : Stmt := top 71
def Nrow : List Str := ["reader", "table", "found", "place", "sign", "summed"]
theorem sc_row : FnScope Nrow ["reader", "table"] (defScope s_row) := ⟨rfl, rfl, rfl, by decide +kernel, rfl, by decide +kernel, by decide +kernel⟩
theorem vals_step {toks : Toks} {i n : Nat} {tok : PTok} {vs : List Nat} (h : toks[i]? = some tok) (k : Nat) (hk : vs.length = k) : Vamvsa.takeValues (n + 1) vs (toks.drop i) = if k = 0 then (numRes 0 9 tok).bind fun x => Vamvsa.takeValues n (vs ++ [x]) (toks.drop (i + 1)) else
    (if tokEq tok.tok (.sign 44) = true then Except.ok (toks.drop (i + 1)) else .error ⟨3, tok.place⟩).bind fun r => (Vamvsa.takeNat 9 r).bind fun x => Vamvsa.takeValues n (vs ++ [x.1]) x.2 := by
  show ((if vs.isEmpty = true then Except.ok (toks.drop i) else VamvsBase.takeSign 44 (toks.drop i)).bind fun r => (Vamvsa.takeNat Vamvsa.VALUE r).bind fun x => Vamvsa.takeValues n (vs ++ [x.1]) x.2) = _
  unfold Vamvsa.VALUE VamvsBase.takeSign
  cases vs with
  | nil =>
    subst hk
    rw [if_pos (show ([] : List Nat).isEmpty = true from rfl), if_pos (show ([] : List Nat).length = 0 from rfl)]
    show (Vamvsa.takeNat 9 (toks.drop i)).bind _ = _
    rw [nat_at h]
    cases numRes 0 9 tok <;> rfl
  | cons v r =>
    rw [if_neg (show ¬ (v :: r).isEmpty = true from Bool.false_ne_true), if_neg (by rw [← hk, List.length_cons]; omega), taken_at h]
theorem ok_row {f : Addr} {fd : FuncData} (g : Gf K mg c) (dN : DNeed T P w K mg base c) (dT : DTake T P w K mg base c) (dF : DTakeIf T P w K mg base c) (dM : DTakeN T P w K mg base c) (F : Fun K "take_row" "take_row" s_row f fd) (hm : mg "take_row" = some (.ref f)) (b : Binds K fd ["reader", "table"] []) : DRow T P w K mg base c := by
  refine okE F hm b sc_row (fun vs H Q E h => by obtain ⟨_, m, G, r, dx, l, ws, toks, i, tok, t, dt, ll, cv, qv, rv, cols, rfl, _⟩ := h; rfl) fun cdv A outer s H vs Q E hr h => ?_
  obtain ⟨ht, m, G, r, dx, l, ws, toks, i, tok, t, dt, ll, cv, qv, rv, cols, rfl, hp, hT, hwt, hG, hcv, hc4, hok, her⟩ := h
  refine wb_expr (X := CxE P w K mg base Nrow "take_row" s_row f cdv A outer s H E) ?_
  refine we_needP (T := T) (c := c) (E' := E) (k := decide (rv.length < 16)) (code := 4) takeE (fun _ _ _ _ h => h) dN hr (by decide) ht hp hT ?_ ?_ ?_ (fun k H1 G1 x1 p1 => ?_) fun k => her (by have := of_decide_eq_false k; omega)
  · exact vr 0 (R := RV) rfl
  · refine Ev.is (ev_cmp (x := (rv.length : Int)) (y := (16 : Int)) cmp_lt (ev_len (R := RV) g.len (ev_fld (S := RV) (R := RL K RV) (y := .ref t) (vr 1 rfl) fun H2 v u e => ?_)) (ev_gi g.gMOST_ROWS)) (decide_eq_decide.mpr ⟨fun h => by omega, fun h => by omega⟩)
    cases e
    exact ⟨.ref ll, has_of g.table ((hp.xt.trans u).ex _ _ hG nt_ins) rfl (by decide), ll, rv, rfl, SqL.of (u.ex _ _ hp.own nt_lst), rv_all rv⟩
  · exact Ev.to (R := RI) (ev_gi g.gTOO_MANY) fun _ _ _ h => h
  obtain ⟨hok, her2⟩ := hok (of_decide_eq_true k)
  have t1 := hp.go p1 x1 ht
  refine wb_expr (X := CxE P w K mg base Nrow "take_row" s_row f cdv A outer s H E) ?_
  refine we_take (T := T) (c := c) (E' := E) (z := "row") takeE (fun _ _ _ _ h => h) dT hr (by decide) t1 p1 hT ?_ ?_ (by decide +kernel) (fun e u H2 G2 hu2 ru x2 p2 => ?_) fun e => absurd hwt e
  · exact vr 0 (R := RV) rfl
  · exact ev_str
  have t2 := p1.go p2 x2 t1
  have x02 := x1.trans x2
  refine wb_cons (Ws.of (ps_set sc_row.nd (i := 2) rfl (.inl rfl) (pe_lst pa_nil)) ⟨Nat.zero_le _, fun lf hlf => ?_⟩)
  have p3 := p2.add (o := .lst []) hlf mo_lst
  have t3 : Tb T (upd H2 lf (.lst [])) := (Xt.new (T := T) hlf).tb t2
  refine wb_forR1 (T := T) (hi := (cols.length : Int)) 3 poE rfl sc_row.nd g.range (ev_len (R := RM RU) (xs := cols) g.len (ev_fld (S := RV) (R := RL K (RM RU)) (y := .ref t) (vr 1 rfl) fun H3 v u e => ?_)) ⟨by omega, by omega⟩
    (fun k σ' H' => k ≤ cols.length ∧ ∃ (vals : List Nat) (G' : Hp) (j : Nat) (o : Option V), vals.length = k ∧ i < j ∧ σ' = [some (.ref r), some (.ref t), some (.ref lf), o, none, none] ∧ Xt T G G' ∧ Tb T H' ∧ Par T K c ((lf, .lst (vals.map fun (n : Nat) => V.int (n : Int))) :: (ll, .lst rv) :: m) H' G' r dx l ws toks j ∧
      Vamvsa.takeValues cols.length [] (toks.drop (i + 1)) = Vamvsa.takeValues (cols.length - k) vals (toks.drop j)) (fun H3 u3 => ?_) (fun k σ' H' hk w => ?_) fun σ' H' w => ?_
  · cases e
    have := (x02.trans (p3.xt.trans u))
    exact ⟨cv, has_of g.table (this.ex _ _ hG nt_ins) rfl (by decide), Mono.mono this hcv⟩
  · obtain ⟨G3, p4, x4⟩ := p3.keep u3
    exact ⟨Nat.zero_le _, [], G3, i + 1, none, rfl, Nat.lt_succ_self _, rfl, x02.trans x4, u3.tb t3, p4, rfl⟩
  · obtain ⟨hkc, vals, G', j, o, hvl, hij, rfl, x, tH, p, hlaw⟩ := w
    have hk : k < cols.length := by omega
    obtain ⟨nn, hnn⟩ : ∃ nn, cols.length - k = nn + 1 := ⟨cols.length - k - 1, by omega⟩
    have hnn2 : cols.length - (k + 1) = nn := by omega
    rw [hnn] at hlaw
    obtain ⟨_, tj, hTj, _, _⟩ := p.get
    have hstep := vals_step (n := nn) hTj k hvl
    have app : ∀ (D : Ends) (H3 G3 : Hp) (j3 : Nat) (t3 : PTok), (∀ σ2 H2, (k + 1 ≤ cols.length ∧ ∃ (vals : List Nat) (G' : Hp) (j : Nat) (o : Option V), vals.length = k + 1 ∧ i < j ∧ σ2 = [some (.ref r), some (.ref t), some (.ref lf), o, none, none] ∧ Xt T G G' ∧ Tb T H2 ∧ Par T K c ((lf, .lst (vals.map fun (n : Nat) => V.int (n : Int))) :: (ll, .lst rv) :: m) H2 G' r dx l ws toks j ∧
      Vamvsa.takeValues cols.length [] (toks.drop (i + 1)) = Vamvsa.takeValues (cols.length - (k + 1)) vals (toks.drop j)) → D.nx σ2 H2) → Xt T G' G3 → Tb T H3 → Par T K c ((lf, .lst (vals.map fun (n : Nat) => V.int (n : Int))) :: (ll, .lst rv) :: m) H3 G3 r dx l ws toks j3 → i < j3 → toks[j3]? = some t3 → Vamvsa.takeValues (nn + 1) vals (toks.drop j) = ((numRes 0 9 t3).bind fun x => Vamvsa.takeValues nn (vals ++ [x]) (toks.drop (j3 + 1))) →
        Wb (CxE P w K mg base Nrow "take_row" s_row f cdv A outer s H E) ((suite (stm s_row 3)).drop 1) D [some (.ref r), some (.ref t), some (.ref lf), some (.int (k : Int)), none, none] H3 := fun D H3 G3 j3 t3 hD x3 tH3 p3 hj3 hT3 he => by
      refine wb_expr (X := CxE P w K mg base Nrow "take_row" s_row f cdv A outer s H E) ?_
      refine we_appendW (l := lf) (we_var (i := 2) rfl ⟨rfl, _, p3.own, ?_⟩)
      refine we_taken (T := T) (c := c) (E' := E) (lo := 0) (hi := 9) takeE (fun _ _ _ _ h => h) dM hr (by decide) tH3 p3 hT3 ?_ ?_ ?_ (fun n en H4 G4 x4 p4 => ⟨_, p4.own, by rw [List.length_map]; omega, wb_nil ?_⟩) fun f ef => FE.up (her2 f ?_) (x.trans x3)
      · exact vr 0 (R := RV) rfl
      · exact Ev.to (R := RI) ev_int fun _ _ _ h => h
      · exact Ev.to (R := RI) (ev_gi g.gMOST_VALUE) fun _ _ _ h => h
      · have p5 := p4.put (u := .lst ((vals.map fun (n : Nat) => V.int (n : Int)) ++ [.int (n : Int)])) mo_lst
        refine hD _ _ ⟨by omega, vals ++ [n], G4, j3 + 1, _, by rw [List.length_append, hvl]; rfl, by omega, rfl, x.trans (x3.trans x4), ?_, ?_, ?_⟩
        · exact p5.xt.tb (x4.tb (p3.tb tH3))
        · rw [List.map_append]
          exact p5
        · rw [hlaw, he, en, hnn2]
          rfl
      · unfold rowRes
        rw [hlaw, he, ef]
        rfl
    refine wb_if (T := T) (k := decide (0 < k)) (EvT.is (et_cmp (x := (k : Int)) (y := (0 : Int)) cmp_gt (vr 3 (R := RI) rfl) ev_int) (decide_eq_decide.mpr ⟨fun h => by omega, fun h => by omega⟩)) (fun kk H3 u3 => ?_) fun kk H3 u3 => ?_
    · have kk := of_decide_eq_true kk
      rw [if_neg (by omega)] at hstep
      obtain ⟨G3, p3', x3⟩ := p.keep u3
      refine wb_expr (X := CxE P w K mg base Nrow "take_row" s_row f cdv A outer s H E) ?_
      refine we_take (T := T) (c := c) (E' := E) (z := ",") takeE (fun _ _ _ _ h => h) dT hr (by decide) (u3.tb tH) p3' hTj ?_ ?_ (by decide +kernel) (fun e u H4 G4 hu4 ru x4 p4 => wb_nil ?_) fun e => FE.up (her2 ⟨3, tj.place⟩ ?_) (x.trans x3)
      · exact vr 0 (R := RV) rfl
      · exact ev_str
      · obtain ⟨_, t4, hT4, _, _⟩ := p4.get
        refine app _ H4 G4 (j + 1) t4 (fun _ _ h => h) (x3.trans x4) (p3'.go p4 x4 (u3.tb tH)) p4 (by omega) hT4 ?_
        rw [hstep, if_pos ((what_sign tj.tok 44).mp (e.trans (by decide +kernel)))]
        show (Vamvsa.takeNat 9 (toks.drop (j + 1))).bind _ = _
        rw [nat_at hT4]
        cases numRes 0 9 t4 <;> rfl
      · unfold rowRes
        rw [hlaw, hstep, if_neg fun z => e (((what_sign tj.tok 44).mpr z).trans (by decide +kernel))]
        rfl
    · have kk := of_decide_eq_false kk
      rw [if_pos (by omega)] at hstep
      obtain ⟨G3, p3', x3⟩ := p.keep u3
      exact wb_nil (app _ H3 G3 j tj (fun _ _ h => h) x3 (u3.tb tH) p3' hij hTj hstep)
  · obtain ⟨_, vals, G', j, o, hvl, hij, rfl, x, tH, p, hlaw⟩ := w
    have e0 : cols.length - ((cols.length : Nat) : Int).toNat = 0 := by omega
    rw [e0] at hlaw
    have hlaw : Vamvsa.takeValues cols.length [] (toks.drop (i + 1)) = .ok (vals, toks.drop j) := hlaw
    obtain ⟨_, tj, hTj, _, _⟩ := p.get
    have hr1 : rowRes cols.length (toks.drop (i + 1)) = (if tokEq tj.tok (.sign 58) = true then Except.ok (toks.drop (j + 1)) else .error ⟨3, tj.place⟩).bind fun r => (Vamvsa.takeInt r).bind fun x => (VamvsBase.takeSign 59 x.2).map fun m => (⟨vals, x.1⟩, m) := by
      unfold rowRes
      rw [hlaw]
      show (VamvsBase.takeSign 58 (toks.drop j)).bind _ = _
      unfold VamvsBase.takeSign
      rw [taken_at hTj]
    refine wb_expr (X := CxE P w K mg base Nrow "take_row" s_row f cdv A outer s H E) ?_
    refine we_take (T := T) (c := c) (E' := E) (z := ":") takeE (fun _ _ _ _ h => h) dT hr (by decide) tH p hTj ?_ ?_ (by decide +kernel) (fun e u H4 G4 hu4 ru x4 p4 => ?_) fun e => FE.up (her2 ⟨3, tj.place⟩ ?_) x
    · exact vr 0 (R := RV) rfl
    · exact ev_str
    rotate_left
    · rw [hr1, if_neg fun z => e (((what_sign tj.tok 58).mpr z).trans (by decide +kernel))]
      rfl
    rw [if_pos ((what_sign tj.tok 58).mp (e.trans (by decide +kernel)))] at hr1
    have hr1 : rowRes cols.length (toks.drop (i + 1)) = (Vamvsa.takeInt (toks.drop (j + 1))).bind fun x => (VamvsBase.takeSign 59 x.2).map fun m => (⟨vals, x.1⟩, m) := hr1
    have t4 := p.go p4 x4 tH
    obtain ⟨_, tk4, hT4, _, _⟩ := p4.get
    have x04 := x.trans x4
    -- behind the sign: the number, the end
    have rest : ∀ (sg : Int) (ng : Bool) (H5 G5 : Hp) (j5 : Nat), (sg = if ng = true then -1 else 1) → Xt T G G5 → Tb T H5 → Par T K c ((lf, .lst (vals.map fun (n : Nat) => V.int (n : Int))) :: (ll, .lst rv) :: m) H5 G5 r dx l ws toks j5 → i < j5 → Vamvsa.takeInt (toks.drop (j + 1)) = ((Vamvsa.takeNat 1000 (toks.drop j5)).map fun x => (if ng = true then -(x.1 : Int) else (x.1 : Int), x.2)) →
        Wb (CxE P w K mg base Nrow "take_row" s_row f cdv A outer s H E) ((defBody s_row).drop 6) { nx := fun _ H' => Q .non H', rt := Q } [some (.ref r), some (.ref t), some (.ref lf), o, some (.int sg), none] H5 := fun sg ng H5 G5 j5 hsg x5 t5 p5 hj5 he => by
      obtain ⟨_, tk5, hT5, _, _⟩ := p5.get
      rw [nat_at hT5] at he
      refine wb_cons (Ws.of (ps_set sc_row.nd (i := 5) rfl (.inl rfl) (pe_op op_mul we we)) ?_)
      refine we_var (i := 4) rfl ?_
      refine we_taken (T := T) (c := c) (E' := E) (lo := 0) (hi := 1000) takeE (fun _ _ _ _ h => h) dM hr (by decide) t5 p5 hT5 ?_ ?_ ?_ (fun n en H6 G6 x6 p6 => ⟨sg, (n : Int), rfl, rfl, .inl (by cases ng <;> rw [hsg] <;> decide), ?_⟩) fun f ef => FE.up (her2 f ?_) x5
      · exact vr 0 (R := RV) rfl
      · exact Ev.to (R := RI) ev_int fun _ _ _ h => h
      · exact Ev.to (R := RI) (ev_gi g.gMOST_SUMMED) fun _ _ _ h => h
      · have t6 := p5.go p6 x6 t5
        obtain ⟨_, tk6, hT6, _, _⟩ := p6.get
        rw [en] at he
        have hr2 : rowRes cols.length (toks.drop (i + 1)) = (if tokEq tk6.tok (.sign 59) = true then Except.ok (toks.drop (j5 + 1 + 1)) else .error ⟨3, tk6.place⟩).map fun m => ((⟨vals, sg * (n : Int)⟩ : Vamvsa.Row), m) := by
          rw [hr1, he]
          show (VamvsBase.takeSign 59 (toks.drop (j5 + 1))).map _ = _
          unfold VamvsBase.takeSign
          rw [taken_at hT6]
          have e9 : (if ng = true then -(n : Int) else (n : Int)) = sg * (n : Int) := by
            cases ng with
            | true => rw [hsg, if_pos rfl, if_pos rfl]; omega
            | false => rw [hsg, if_neg (by decide), if_neg (by decide)]; omega
          show Except.map (fun m => ((⟨vals, if ng = true then -(n : Int) else (n : Int)⟩ : Vamvsa.Row), m)) _ = _
          rw [e9]
        refine wb_expr (X := CxE P w K mg base Nrow "take_row" s_row f cdv A outer s H E) ?_
        refine we_take (T := T) (c := c) (E' := E) (z := ";") takeE (fun _ _ _ _ h => h) dT hr (by decide) t6 p6 hT6 ?_ ?_ (by decide +kernel) (fun e u H7 G7 hu7 ru x7 p7 => ?_) fun e => FE.up (her2 ⟨3, tk6.place⟩ ?_) (x5.trans x6)
        · exact vr 0 (R := RV) rfl
        · exact ev_str
        rotate_left
        · rw [hr2, if_neg fun z => e (((what_sign tk6.tok 59).mpr z).trans (by decide +kernel))]
          rfl
        rw [if_pos ((what_sign tk6.tok 59).mp (e.trans (by decide +kernel)))] at hr2
        have x07 := x5.trans (x6.trans x7)
        have t7 := p6.go p7 x7 t6
        refine wb_expr (X := CxE P w K mg base Nrow "take_row" s_row f cdv A outer s H E) ?_
        refine we_appendW (l := ll) (we_fld (we_var (i := 1) rfl ⟨has_of g.table ((x07.trans p7.xt).ex _ _ hG nt_ins) rfl (by decide), rfl, rv, p7.swap.own, ?_⟩))
        refine Ev.now (T := T) (R := RP K (RTs K RN) RI) (x := (vals, sg * (n : Int))) ?_ fun v H8 u8 rv8 => ?_
        · refine ev_pair ?_ ?_
          · refine ev_tupleL g.tuple (by decide +kernel) ?_
            exact vr 2 ⟨lf, _, rfl, SqL.of p7.own, nats_all2 vals⟩
          · exact vr 5 (R := RI) rfl
        · obtain ⟨G8, p8, x8⟩ := p7.keep u8
          refine ⟨rv, p8.swap.own, by have := of_decide_eq_true k; omega, wb_nil ?_⟩
          have p9 := p8.swap.put (u := .lst (rv ++ [v])) mo_lst
          obtain ⟨p10, x10, _⟩ := p9.swap.lay1
          refine hok _ _ hr2 _ _ v (j5 + 1 + 1) rfl (by omega) (x07.trans (x8.trans x10)) p10 ?_
          exact Mono.mono (R := RRow K) x10 (p8.dn (R := RRow K) rv8)
      · rw [hr1, he, ef]
        rfl
    refine wb_cons (Ws.of (ps_set sc_row.nd (i := 4) rfl (.inl rfl) (pe_ifExp wt we we)) ?_)
    refine wt_bool ?_
    refine we_takeif (T := T) (c := c) (z := "-") dF hr (by decide) t4 p4 hT4 ?_ ?_ (by decide +kernel) (fun e H5 G5 x5 p5 => ⟨true, rfl, ?_⟩) fun e H5 G5 x5 p5 => ⟨false, rfl, ?_⟩
    · exact vr 0 (R := RV) rfl
    · exact ev_str
    · refine (ev_neg (T := T) (i := 1) ev_int).now fun v H6 u6 rv6 => ?_
      cases rv6
      obtain ⟨G6, p6, x6⟩ := p5.keep u6
      refine rest (-1) true H6 G6 (j + 1 + 1) rfl (x04.trans (x5.trans x6)) (u6.tb (p4.go p5 x5 t4)) p6 (by omega) ?_
      unfold Vamvsa.takeInt Vamvsa.SIZE
      rw [next_at hT4, (what_sign tk4.tok 45).mp (e.trans (by decide +kernel))]
      show (Vamvsa.takeNat 1000 ((toks.drop (j + 1)).drop 1)).map _ = _
      rw [drop_one]
    · refine (ev_int (T := T) (i := 1)).now fun v H6 u6 rv6 => ?_
      cases rv6
      obtain ⟨G6, p6, x6⟩ := p5.keep u6
      refine rest 1 false H6 G6 (j + 1) rfl (x04.trans (x5.trans x6)) (u6.tb (p4.go p5 x5 t4)) p6 (by omega) ?_
      have hn : tokEq tk4.tok (.sign 45) = false := by
        cases q : tokEq tk4.tok (.sign 45) with
        | false => rfl
        | true => exact absurd (((what_sign tk4.tok 45).mpr q).trans (by decide +kernel)) e
      unfold Vamvsa.takeInt Vamvsa.SIZE
      rw [next_at hT4, hn]
      rfl
end G5
/-! T9: take_grouping, take_question. -/
namespace G5
open PySem PySem.Spec PyProof.Rows L2
open VamvsBase (tokEq Toks PTok Fault)
variable {T : List NTab} {P : Program} {w : World} {K : PySem.W.Frag} {mg : Str → Option Value} {base : Heap} {c : Cs}
abbrev ixOf (cs : List (List UInt8)) (b : List UInt8) : Option Nat := cs.findIdx? fun c => c == b
def isNameL (l : Toks) : Bool := match l with
  | ⟨_, .name b⟩ :: _ => !VamvsBase.RESERVED.contains b
  | _ => false
theorem isName_at {toks : Toks} {i : Nat} {tok : PTok} (h : toks[i]? = some tok) : isNameL (toks.drop i) = decide (whatOf tok.tok = "a name") := by
  rw [drop_get h]
  obtain ⟨p, t⟩ := tok
  by_cases q : whatOf t = "a name"
  · obtain ⟨b, rfl, hb⟩ := (what_name t).mp q
    rw [decide_eq_true q]
    show (!VamvsBase.RESERVED.contains b) = true
    rw [hb]
    rfl
  · rw [decide_eq_false q]
    cases t with
    | name b =>
      show (!VamvsBase.RESERVED.contains b) = false
      cases hb : VamvsBase.RESERVED.contains b with
      | true => rfl
      | false => exact absurd ((what_name (.name b)).mpr ⟨b, rfl, hb⟩) q
    | num n => rfl
    | sign n => rfl
    | last => rfl
def gRes (cs : List (List UInt8)) (l : Toks) : Except Fault (Nat × Toks) := if isNameL l = true then Vamvsa.takeAsked cs (l.length + 1) 0 l else .ok (0, l)
def askAt (cs : List (List UInt8)) (n : Nat) (ns : List (List UInt8)) (g : Nat) (l : Toks) : Except Fault (Nat × Toks) :=
  if ns = [] then (if isNameL l = true then Vamvsa.takeAsked cs n 0 l else .ok (0, l)) else if VamvsBase.next (.sign 44) l = true then Vamvsa.takeAsked cs n g (l.drop 1) else .ok (g, l)
theorem asked_step {toks : Toks} {i n g : Nat} {tok : PTok} {cs : List (List UInt8)} (ns : List (List UInt8)) (h : toks[i]? = some tok) : Vamvsa.takeAsked cs (n + 1) g (toks.drop i) = match tok.tok with
    | .name b => if VamvsBase.RESERVED.contains b = true then .error ⟨3, tok.place⟩ else match ixOf cs b with
      | none => .error ⟨8, tok.place⟩
      | some k => if g / 2 ^ k % 2 = 1 then .error ⟨6, tok.place⟩ else askAt cs n (ns ++ [b]) (g + 2 ^ k) (toks.drop (i + 1))
    | _ => .error ⟨3, tok.place⟩ := by
  show (VamvsBase.takeName (toks.drop i)).bind _ = _
  rw [name_at h]
  cases tok.tok with
  | name b =>
    by_cases hb : VamvsBase.RESERVED.contains b = true
    · show Except.bind (if VamvsBase.RESERVED.contains b = true then _ else _) _ = (if VamvsBase.RESERVED.contains b = true then _ else _)
      rw [if_pos hb, if_pos hb]
      rfl
    · show Except.bind (if VamvsBase.RESERVED.contains b = true then _ else _) _ = (if VamvsBase.RESERVED.contains b = true then _ else _)
      rw [if_neg hb, if_neg hb]
      show (match ixOf cs b with | none => _ | some k => _) = _
      cases ixOf cs b with
      | none => rfl
      | some k =>
        have e : askAt cs n (ns ++ [b]) (g + 2 ^ k) (toks.drop (i + 1)) = if VamvsBase.next (.sign 44) (toks.drop (i + 1)) = true then Vamvsa.takeAsked cs n (g + 2 ^ k) ((toks.drop (i + 1)).drop 1) else .ok (g + 2 ^ k, toks.drop (i + 1)) := by
          unfold askAt
          rw [if_neg (show ¬ ns ++ [b] = [] by simp)]
        show _ = if g / 2 ^ k % 2 = 1 then Except.error ⟨6, tok.place⟩ else askAt cs n (ns ++ [b]) (g + 2 ^ k) (toks.drop (i + 1))
        rw [e]
  | num n => rfl
  | sign j => rfl
  | last => rfl
/-- what the bits of a grouping tell -/
structure Bits (cs ns : List (List UInt8)) (g : Nat) : Prop where
  lt : g < 16
  bit : ∀ k, k < 4 → (g / 2 ^ k % 2 = 1 ↔ ∃ b ∈ ns, ixOf cs b = some k)
  ix : ∀ b ∈ ns, ∃ k, k < 4 ∧ ixOf cs b = some k
  sum : g = (ns.map fun b => 2 ^ (ixOf cs b).getD 0).sum
theorem bits_nil (cs : List (List UInt8)) : Bits cs [] 0 := by
  refine ⟨by decide, fun k hk => ⟨fun h => ?_, fun h => ?_⟩, fun b h => ?_, rfl⟩
  · have : 0 / 2 ^ k = 0 := Nat.zero_div _
    rw [this] at h
    cases h
  · obtain ⟨b, h, _⟩ := h
    cases h
  · cases h
theorem bit_addB : ((List.range 16).all fun g => (List.range 4).all fun k => (g / 2 ^ k % 2 == 1) || (decide (g + 2 ^ k < 16) && (List.range 4).all fun q => ((g + 2 ^ k) / 2 ^ q % 2 == 1) == ((g / 2 ^ q % 2 == 1) || q == k))) = true := by decide +kernel
theorem bit_add (g : Nat) (hg : g < 16) (k : Nat) (hk : k < 4) (hn : ¬ g / 2 ^ k % 2 = 1) : g + 2 ^ k < 16 ∧ ∀ q, q < 4 → ((g + 2 ^ k) / 2 ^ q % 2 = 1 ↔ g / 2 ^ q % 2 = 1 ∨ q = k) := by
  have h := List.all_eq_true.mp (List.all_eq_true.mp bit_addB g (List.mem_range.mpr hg)) k (List.mem_range.mpr hk)
  rw [Bool.or_eq_true, Bool.and_eq_true] at h
  rcases h with h | ⟨h1, h2⟩
  · exact absurd (eq_of_beq h) hn
  · refine ⟨of_decide_eq_true h1, fun q hq => ?_⟩
    have h3 := eq_of_beq (List.all_eq_true.mp h2 q (List.mem_range.mpr hq))
    rw [← beq_iff_eq, h3, Bool.or_eq_true, beq_iff_eq, beq_iff_eq]
theorem bits_len {cs ns : List (List UInt8)} {g : Nat} (h : Bits cs ns g) : ns.length ≤ 16 := by
  have key : ∀ ns : List (List UInt8), ns.length ≤ (ns.map fun b => 2 ^ (ixOf cs b).getD 0).sum := by
    intro ns
    induction ns with
    | nil => exact Nat.zero_le _
    | cons a r ih =>
      rw [List.length_cons, List.map_cons, List.sum_cons]
      have := Nat.two_pow_pos ((ixOf cs a).getD 0)
      omega
  have h1 := key ns
  have h2 := h.lt
  have h3 := h.sum
  omega
theorem bits_add {cs ns : List (List UInt8)} {g k : Nat} {b : List UInt8} (h : Bits cs ns g) (hk : k < 4) (hb : ixOf cs b = some k) (hn : ¬ g / 2 ^ k % 2 = 1) : Bits cs (ns ++ [b]) (g + 2 ^ k) := by
  obtain ⟨h1, h2⟩ := bit_add g h.lt k hk hn
  refine ⟨h1, fun q hq => ?_, fun d hd => ?_, ?_⟩
  · rw [h2 q hq, h.bit q hq]
    constructor
    · rintro (⟨d, d1, d2⟩ | rfl)
      · exact ⟨d, List.mem_append_left _ d1, d2⟩
      · exact ⟨b, List.mem_append_right _ (List.mem_singleton.mpr rfl), hb⟩
    · rintro ⟨d, d1, d2⟩
      rcases List.mem_append.mp d1 with z | z
      · exact .inl ⟨d, z, d2⟩
      · rw [List.mem_singleton.mp z, hb] at d2
        exact .inr (Option.some.inj d2).symm
  · rcases List.mem_append.mp hd with z | z
    · exact h.ix d z
    · rw [List.mem_singleton.mp z]; exact ⟨k, hk, hb⟩
  · rw [List.map_append, List.sum_append, ← h.sum, List.map_cons, List.map_nil, List.sum_cons, List.sum_nil, hb]
    rfl
theorem ix_get {cs : List (List UInt8)} {b : List UInt8} {k : Nat} (h : ixOf cs b = some k) : cs[k]? = some b ∧ k < cs.length := by
  obtain ⟨h1, h2, _⟩ := List.findIdx?_eq_some_iff_getElem.mp h
  have e : cs[k] = b := by simpa using h2
  exact ⟨by rw [List.getElem?_eq_getElem h1, e], h1⟩
theorem ix_none {cs : List (List UInt8)} {b : List UInt8} : ixOf cs b = none ↔ cs.contains b = false := by
  unfold ixOf
  rw [List.findIdx?_eq_none_iff]
  constructor
  · intro h
    cases q : cs.contains b with
    | false => rfl
    | true =>
      have : b ∈ cs := by simpa using q
      have := h b this
      simp at this
  · intro h x hx
    cases q : x == b with
    | false => rfl
    | true =>
      have e : x = b := eq_of_beq q
      subst e
      have : cs.contains x = true := by simpa using hx
      rw [h] at this
      cases this
/-- told before: its bit stands -/
theorem bits_in {cs ns : List (List UInt8)} {g k : Nat} {b : List UInt8} (h : Bits cs ns g) (hk : k < 4) (hb : ixOf cs b = some k) : g / 2 ^ k % 2 = 1 ↔ ns.contains b = true := by
  rw [h.bit k hk]
  constructor
  · rintro ⟨d, d1, d2⟩
    have e1 := (ix_get d2).1
    rw [(ix_get hb).1] at e1
    rw [Option.some.inj e1]
    simpa using d1
  · intro z
    exact ⟨b, by simpa using z, hb⟩
def SpGrp (T : List NTab) (K : PySem.W.Frag) (c : Cs) : Sp := fun vs H Q E => Tb T H ∧ ∃ m G r dx l ws toks i t dt cv lv qv cols, vs = [.ref r, .ref t] ∧ Par T K c m H G r dx l ws toks i ∧ G t = some (.ins c.table dt [("columns", cv), ("lines", lv), ("questions", qv)]) ∧ RL K (RM RU) G cv cols ∧ cols.length ≤ 4 ∧
  (∀ gg l', gRes cols (toks.drop i) = .ok (gg, l') → ∀ H' G' j, l' = toks.drop j → i ≤ j → Xt T G G' → Par T K c m H' G' r dx l ws toks j → Q (.int ((gg : Nat) : Int)) H') ∧ ∀ f, gRes cols (toks.drop i) = .error f → FE T c E G f
abbrev DGrp (T : List NTab) (P : Program) (w : World) (K : PySem.W.Frag) (mg : Str → Option Value) (base : Heap) (c : Cs) : Prop := Df P w K mg base (L2.CX P w) 6 "take_grouping" ["reader", "table"] (SpGrp T K c)
abbrev s_grp : Stmt := top 72
def Ngrp : List Str := ["reader", "table", "found", "name"]
theorem sc_grp : FnScope Ngrp ["reader", "table"] (defScope s_grp) := ⟨rfl, rfl, rfl, by decide +kernel, rfl, by decide +kernel, by decide +kernel⟩
theorem ok_grp {f : Addr} {fd : FuncData} (g : Gf K mg c) (dH : DHere T P w K mg base c) (dI : DIs T P w K mg base c) (dN : DNeed T P w K mg base c) (dT : DTake T P w K mg base c) (dF : DTakeIf T P w K mg base c) (F : Fun K "take_grouping" "take_grouping" s_grp f fd) (hm : mg "take_grouping" = some (.ref f)) (b : Binds K fd ["reader", "table"] []) : DGrp T P w K mg base c := by
  refine okE F hm b sc_grp (fun vs H Q E h => by obtain ⟨_, m, G, r, dx, l, ws, toks, i, t, dt, cv, lv, qv, cols, rfl, _⟩ := h; rfl) fun cdv A outer s H vs Q E hr h => ?_
  obtain ⟨ht, m, G, r, dx, l, ws, toks, i, t, dt, cv, lv, qv, cols, rfl, hp, hG, hcv, hc4, hok, her⟩ := h
  have hu := u65 hr
  refine wb_cons (Ws.of (ps_set sc_grp.nd (i := 2) rfl (.inl rfl) (pe_lst pa_nil)) ⟨Nat.zero_le _, fun lf hlf => ?_⟩)
  have p0 := hp.add (o := .lst []) hlf mo_lst
  have t0 : Tb T (upd H lf (.lst [])) := (Xt.new (T := T) hlf).tb ht
  have efound : ∀ {H' G' : Hp} {j : Nat} {us : List V} {ns : List (List UInt8)} {o : Option V} {q2 : Pos}, Par T K c ((lf, .lst us) :: m) H' G' r dx l ws toks j → All2 (RM RU G') us ns → Ev T (CxE P w K mg base Ngrp "take_grouping" s_grp f cdv A outer s H E) (RL K (RM RU)) (.Name "found" q2) [some (.ref r), some (.ref t), some (.ref lf), o] H' ns := fun {H' G' j us ns o q2} p ha => vr 2 ⟨lf, us, rfl, SqL.of p.own, ha.mono p.xt⟩
  have ecols : ∀ {H' G' : Hp} {j : Nat} {o : Option V} {m' : Ov} {pp q2 : Pos}, Xt T G G' → Par T K c m' H' G' r dx l ws toks j → Ev T (CxE P w K mg base Ngrp "take_grouping" s_grp f cdv A outer s H E) (RL K (RM RU)) (.Attribute (.Name "table" q2) "columns" pp) [some (.ref r), some (.ref t), some (.ref lf), o] H' cols := fun {H' G' j o m' pp q2} x p =>
    ev_fld (S := RV) (R := RL K (RM RU)) (y := .ref t) (vr 1 rfl) fun H2 v u e => by
      cases e
      have := x.trans (p.xt.trans u)
      exact ⟨cv, has_of g.table (this.ex _ _ hG nt_ins) rfl (by decide), Mono.mono this hcv⟩
  refine wb_while poE (fun M σ' H' => ∃ (n : Nat) (ns : List (List UInt8)) (gg : Nat) (us : List V) (G' : Hp) (j : Nat), M = toks.length - j ∧ toks.length - j < n ∧ i ≤ j ∧ σ' = [some (.ref r), some (.ref t), some (.ref lf), none] ∧ Xt T G G' ∧ Tb T H' ∧ Par T K c ((lf, .lst us) :: m) H' G' r dx l ws toks j ∧ All2 (RM RU G') us ns ∧ us.length ≤ j ∧ Bits cols ns gg ∧ gRes cols (toks.drop i) = askAt cols n ns gg (toks.drop j)) (toks.length - i)
    ⟨(toks.drop i).length + 1, [], 0, [], G, i, rfl, by rw [List.length_drop]; exact Nat.lt_succ_self _, Nat.le_refl _, rfl, Xt.refl _, t0, p0, .nil, Nat.zero_le _, bits_nil cols, ?_⟩ fun M σ' H' W => ?_
  · unfold gRes askAt
    rw [if_pos rfl]
  obtain ⟨n, ns, gg, us, G', j, rfl, hn, hij, rfl, x, tH, p, ha, hul, hb, hlaw⟩ := W
  obtain ⟨_, tj, hTj, _, _⟩ := p.get
  have body : ∀ (D : Ends) (H2 G2 : Hp) (i2 : Nat), (∀ σ2 H2, (∃ M', M' < toks.length - j ∧ ∃ (n : Nat) (ns : List (List UInt8)) (gg : Nat) (us : List V) (G' : Hp) (j : Nat), M' = toks.length - j ∧ toks.length - j < n ∧ i ≤ j ∧ σ2 = [some (.ref r), some (.ref t), some (.ref lf), none] ∧ Xt T G G' ∧ Tb T H2 ∧ Par T K c ((lf, .lst us) :: m) H2 G' r dx l ws toks j ∧ All2 (RM RU G') us ns ∧ us.length ≤ j ∧ Bits cols ns gg ∧ gRes cols (toks.drop i) = askAt cols n ns gg (toks.drop j)) → D.nx σ2 H2) →
      Xt T G' G2 → Tb T H2 → Par T K c ((lf, .lst us) :: m) H2 G2 r dx l ws toks i2 → j ≤ i2 → askAt cols n ns gg (toks.drop j) = Vamvsa.takeAsked cols n gg (toks.drop i2) → Wb (CxE P w K mg base Ngrp "take_grouping" s_grp f cdv A outer s H E) (suite (stm s_grp 1)) D [some (.ref r), some (.ref t), some (.ref lf), none] H2 := fun D H2 G2 i2 hD x2 t2 p2 hj he => by
    obtain ⟨_, t3, hT3, _, _⟩ := p2.get
    obtain ⟨n', rfl⟩ : ∃ n', n = n' + 1 := ⟨n - 1, by omega⟩
    rw [asked_step ns hT3] at he
    have xx := x.trans x2
    have ha2 := ha.mono x2
    refine wb_expr (X := CxE P w K mg base Ngrp "take_grouping" s_grp f cdv A outer s H E) ?_
    refine we_needP (T := T) (c := c) (E' := E) (k := decide (whatOf t3.tok = "a name")) (code := 3) takeE (fun _ _ _ _ h => h) dN hr (by decide) t2 p2 hT3 ?_ ?_ ?_ (fun k H4 G4 x4 p4 => ?_) fun k => FE.up (her ⟨3, t3.place⟩ ?_) xx
    · exact vr 0 (R := RV) rfl
    · exact ev_ishere dI hr (by decide) t2 p2 hT3 (vr 0 (R := RV) rfl) (ev_gs g.gNAME)
    · exact Ev.to (R := RI) ev_int fun _ _ _ h => h
    rotate_left
    · rw [hlaw, he]
      have k := of_decide_eq_false k
      cases e3 : t3.tok with
      | name bb =>
        show (if VamvsBase.RESERVED.contains bb = true then _ else _) = _
        rw [if_pos]
        cases hb : VamvsBase.RESERVED.contains bb with
        | true => rfl
        | false => exact absurd ((what_name t3.tok).mpr ⟨bb, e3, hb⟩) k
      | num n => rfl
      | sign q => rfl
      | last => rfl
    obtain ⟨bb, e3, hbb⟩ := (what_name t3.tok).mp (of_decide_eq_true k)
    rw [e3] at he
    have he : askAt cols (n' + 1) ns gg (toks.drop j) = match ixOf cols bb with
      | none => .error ⟨8, t3.place⟩
      | some k => if gg / 2 ^ k % 2 = 1 then .error ⟨6, t3.place⟩ else askAt cols n' (ns ++ [bb]) (gg + 2 ^ k) (toks.drop (i2 + 1)) := he.trans (if_neg (by rw [hbb]; decide))
    have t4 := p2.go p4 x4 t2
    have ha4 := ha2.mono x4
    have etold : ∀ {H5 G5 : Hp}, Xt T G4 G5 → Tb T H5 → Par T K c ((lf, .lst us) :: m) H5 G5 r dx l ws toks i2 → ∀ {pp p2 p3 : Pos}, Ev T (CxE P w K mg base Ngrp "take_grouping" s_grp f cdv A outer s H E) (RL K RU) (.Attribute (.Call (.Name "here" pp) [.Name "reader" p2] [] p3) "told" pp) [some (.ref r), some (.ref t), some (.ref lf), none] H5 bb := fun {H5 G5} _ t5 p5 {pp p2 p3} =>
      Ev.to (R := RTold) (x := t3.tok) (ev_fld (S := RTok c) (R := RTold) (ev_here dH hr (by decide) t5 p5 hT3 (vr 0 (R := RV) rfl)) fun H1 v u r => r.told g) fun H2 v u h => by
        rw [e3] at h
        exact RM.rl h
    refine wb_expr (X := CxE P w K mg base Ngrp "take_grouping" s_grp f cdv A outer s H E) ?_
    refine we_needP (T := T) (c := c) (E' := E) (k := !ns.contains bb) (code := 6) takeE (fun _ _ _ _ h => h) dN hr (by decide) t4 p4 hT3 ?_ ?_ ?_ (fun k H5 G5 x5 p5 => ?_) fun k => FE.up (her ⟨6, t3.place⟩ ?_) (xx.trans x4)
    · exact vr 0 (R := RV) rfl
    · refine ev_cmp (cmp_notInBs hu) (Ev.to (R := RTold) (x := t3.tok) (ev_fld (S := RTok c) (R := RTold) (ev_here dH hr (by decide) t4 p4 hT3 (vr 0 (R := RV) rfl)) fun H1 v u r => r.told g) fun H2 v u h => ?_) (efound p4 ha4)
      rw [e3] at h
      exact RM.rl h
    · exact Ev.to (R := RI) (ev_gi g.gASKED_BEFORE) fun _ _ _ h => h
    rotate_left
    · have k : ns.contains bb = true := by simpa using k
      obtain ⟨q, hq4, hq⟩ := hb.ix bb (by simpa using k)
      rw [hlaw, he, hq]
      show (if _ then _ else _) = _
      rw [if_pos ((bits_in hb hq4 hq).mpr k)]
    have kc : ns.contains bb = false := by simpa using k
    have t5 := p4.go p5 x5 t4
    have ha5 := ha4.mono x5
    refine wb_expr (X := CxE P w K mg base Ngrp "take_grouping" s_grp f cdv A outer s H E) ?_
    refine we_needP (T := T) (c := c) (E' := E) (k := cols.contains bb) (code := 8) takeE (fun _ _ _ _ h => h) dN hr (by decide) t5 p5 hT3 ?_ ?_ ?_ (fun k H6 G6 x6 p6 => ?_) fun k => FE.up (her ⟨8, t3.place⟩ ?_) (xx.trans (x4.trans x5))
    · exact vr 0 (R := RV) rfl
    · refine ev_cmp (cmp_inBs hu) (Ev.to (R := RTold) (x := t3.tok) (ev_fld (S := RTok c) (R := RTold) (ev_here dH hr (by decide) t5 p5 hT3 (vr 0 (R := RV) rfl)) fun H1 v u r => r.told g) fun H2 v u h => ?_) (ecols (xx.trans (x4.trans x5)) p5)
      rw [e3] at h
      exact RM.rl h
    · exact Ev.to (R := RI) (ev_gi g.gNO_COLUMN) fun _ _ _ h => h
    rotate_left
    · rw [hlaw, he, ix_none.mpr k]
    obtain ⟨q, hq⟩ : ∃ q, ixOf cols bb = some q := by
      cases hq : ixOf cols bb with
      | some q => exact ⟨q, rfl⟩
      | none => rw [ix_none.mp hq] at k; cases k
    have hq4 : q < 4 := by have := (ix_get hq).2; omega
    have hbit : ¬ gg / 2 ^ q % 2 = 1 := fun z => by rw [(bits_in hb hq4 hq).mp z] at kc; cases kc
    rw [hq] at he
    have he : askAt cols (n' + 1) ns gg (toks.drop j) = askAt cols n' (ns ++ [bb]) (gg + 2 ^ q) (toks.drop (i2 + 1)) := he.trans (if_neg hbit)
    have t6 := p5.go p6 x6 t5
    have ha6 := ha5.mono x6
    have x06 := xx.trans (x4.trans (x5.trans x6))
    refine wb_expr (X := CxE P w K mg base Ngrp "take_grouping" s_grp f cdv A outer s H E) ?_
    refine we_appendW (l := lf) (we_var (i := 2) rfl ⟨rfl, us, p6.own, ?_⟩)
    refine We.of (pe_fld we rfl) ?_
    refine we_take (T := T) (c := c) (E' := E) (z := "a name") takeE (fun _ _ _ _ h => h) dT hr (by decide) t6 p6 hT3 ?_ ?_ (by decide +kernel) (fun e u H7 G7 hu7 ru x7 p7 => ?_) fun e => absurd ((what_name t3.tok).mpr ⟨bb, e3, hbb⟩) e
    · exact vr 0 (R := RV) rfl
    · exact ev_gs g.gNAME
    obtain ⟨ua, udx, tv, rfl, hua, htold⟩ := (Mono.mono x7 ru : RTok c G7 u t3)
    rw [e3] at htold
    have lt3 := p7.lt
    have lt2 := p2.lt
    have hns : us.length ≤ 1000000 := by rw [ha.length]; have := bits_len hb; omega
    refine ⟨ua, c.token, udx, _, tv, rfl, p7.xt.ex _ _ hua nt_ins, g.token.cl, g.token.no _ (by decide), rfl, us, p7.own, hns, ?_⟩
    have p8 := p7.put (u := .lst (us ++ [tv])) mo_lst
    have x07 := x06.trans x7
    refine wb_nil (hD _ _ ⟨toks.length - (i2 + 1), by omega, n', ns ++ [bb], gg + 2 ^ q, us ++ [tv], G7, i2 + 1, rfl, by omega, by omega, rfl, x07, ?_, p8, (ha6.mono x7).snoc htold, by rw [List.length_append, List.length_singleton]; omega, bits_add hb hq4 hq hbit, hlaw.trans he⟩)
    exact p8.xt.tb (x07.tb (hp.tb ht))
  have fin : ∀ (H2 : Hp) (G2 : Hp) (j2 : Nat), Xt T G' G2 → Tb T H2 → Par T K c ((lf, .lst us) :: m) H2 G2 r dx l ws toks j2 → j ≤ j2 → askAt cols n ns gg (toks.drop j) = .ok (gg, toks.drop j2) → Wb (CxE P w K mg base Ngrp "take_grouping" s_grp f cdv A outer s H E) ((defBody s_grp).drop 2) { nx := fun _ H' => Q .non H', rt := Q } [some (.ref r), some (.ref t), some (.ref lf), none] H2 := fun H2 G2 j2 x2 t2 p2 hj he => by
    refine wb_ret (T := T) (R := RI) (x := (gg : Int)) ?_ fun v H3 u3 e => ?_
    · have e9 : (gg : Int) = (ns.map fun b => ((2 ^ (ixOf cols b).getD 0 : Nat) : Int)).sum := by
        rw [sum_cast]
        exact congrArg _ hb.sum
      rw [e9]
      refine ev_sum rfl g.sum (by decide +kernel) (Ev.to (R := RM RI) ?_ fun H2 v _ h => h.rl)
      refine LcEv.ev (lx_lc (T := T) (R := RM RU) (S := RI) (xs := ns) (j := 3) (x0 := fun b => ((2 ^ (ixOf cols b).getD 0 : Nat) : Int)) rfl sc_grp.nd ?_ (by have := bits_len hb; omega) (blkOk_by (N := Ngrp) (sc := defScope s_grp) (by decide +kernel))
        (fun _ _ _ _ _ => pg_name sc_grp.nd rfl (Or.inl rfl)) (fun k v y G3 hy u3 hv3 => ?_)) rfl sc_grp.nd
      · exact efound p2 (ha.mono x2)
      · intro s0 H0 C cl fp
        obtain ⟨q, hq4, hq⟩ := hb.ix y (List.mem_of_getElem? hy)
        refine Ev.is (ev_shl (i := 1) (j := (q : Int)) ⟨by omega, by omega, by decide⟩ ev_int (Ev.to (R := RN) (x := q) (ev_indexB (bs := cols) (x := y) hu ?_ ?_ hq) fun _ _ _ h => h)) ?_
        · refine ev_fld (S := RV) (R := RL K (RM RU)) (y := .ref t) (vr 1 rfl) fun H5 v u e => ?_
          cases e
          have := x.trans (x2.trans (p2.xt.trans (u3.trans u)))
          exact ⟨cv, has_of g.table (this.ex _ _ hG nt_ins) rfl (by decide), Mono.mono this hcv⟩
        · exact Ev.to (R := RM RU) (vr 3 hv3) fun _ _ _ h => h.rl
        · rw [hq, Int.one_mul, Int.toNat_natCast, pow_cast]
          rfl
    · cases e
      obtain ⟨G3, p3, x3⟩ := p2.keep u3
      obtain ⟨p4, x4, _⟩ := p3.lay1
      exact hok gg _ (hlaw.trans he) H3 _ j2 rfl (by omega) (x.trans (x2.trans (x3.trans x4))) p4
  have hemp : EvT T (CxE P w K mg base Ngrp "take_grouping" s_grp f cdv A outer s H E) (match stm s_grp 1 with | .While (.BoolOp _ [.BoolOp _ [c, _] _, _] _) _ _ _ => c | _ => .Constant .none 0 ⟨0, 0, 0, 0⟩) [some (.ref r), some (.ref t), some (.ref lf), none] H' (decide (ns = [])) :=
    et_cmp (y := ([] : List (List UInt8))) (cmp_eqBs0 (u64 hr)) (efound p ha) (Ev.to (R := RM (RM RU)) (ev_list es_nil) fun _ _ _ h => h.rl)
  refine wt_or (T := T) (k := decide (ns = []) && decide (whatOf tj.tok = "a name")) (et_and hemp fun _ => et_val (ev_ishere dI hr (by decide) tH p hTj (vr 0 (R := RV) rfl) (ev_gs g.gNAME))) (fun k H2 u2 => ?_) fun k H2 u2 => ?_
  · rw [Bool.and_eq_true] at k
    have k1 := of_decide_eq_true k.1
    obtain ⟨G2, p2, x2⟩ := p.keep u2
    rw [if_pos rfl]
    refine body _ H2 G2 j (fun _ _ h => h) x2 (u2.tb tH) p2 (Nat.le_refl _) ?_
    unfold askAt
    have g0 : gg = 0 := by have := hb.sum; rw [k1] at this; exact this
    rw [if_pos k1, isName_at hTj, if_pos k.2, g0]
  · obtain ⟨G2, p2, x2⟩ := p.keep u2
    refine wt_and (T := T) (k := !decide (ns = [])) (et_cmp (y := ([] : List (List UInt8))) (cmp_neBs0 (u64 hr)) (efound p2 (ha.mono x2)) (Ev.to (R := RM (RM RU)) (ev_list es_nil) fun _ _ _ h => h.rl)) (fun k3 H3 u3 => ?_) fun k3 H3 u3 => ?_
    · have k3 : ns = [] := by simpa using k3
      obtain ⟨G3, p3, x3⟩ := p2.keep u3
      rw [if_neg (by decide)]
      refine fin H3 G3 j (x2.trans x3) (u3.tb (u2.tb tH)) p3 (Nat.le_refl _) ?_
      have k4 : decide (whatOf tj.tok = "a name") = false := by rw [decide_eq_true k3, Bool.true_and] at k; exact k
      have g0 : gg = 0 := by have := hb.sum; rw [k3] at this; exact this
      unfold askAt
      rw [if_pos k3, isName_at hTj, k4, if_neg (by decide), g0]
    · have k3 : ¬ ns = [] := by simpa using k3
      obtain ⟨G3, p3, x3⟩ := p2.keep u3
      refine wt_bool ?_
      refine we_takeif (T := T) (c := c) (z := ",") dF hr (by decide) (u3.tb (u2.tb tH)) p3 hTj ?_ ?_ (by decide +kernel) (fun e H4 G4 x4 p4 => ⟨true, rfl, ?_⟩) fun e H4 G4 x4 p4 => ⟨false, rfl, ?_⟩
      · exact vr 0 (R := RV) rfl
      · exact ev_str
      · rw [if_pos rfl]
        refine body _ H4 G4 (j + 1) (fun _ _ h => h) (x2.trans (x3.trans x4)) (p3.go p4 x4 (u3.tb (u2.tb tH))) p4 (Nat.le_succ _) ?_
        unfold askAt
        rw [if_neg k3, next_at hTj, if_pos ((what_sign tj.tok 44).mp (e.trans (by decide +kernel))), drop_one]
      · rw [if_neg (by decide)]
        refine fin H4 G4 j (x2.trans (x3.trans x4)) (p3.go p4 x4 (u3.tb (u2.tb tH))) p4 (Nat.le_refl _) ?_
        unfold askAt
        rw [if_neg k3, next_at hTj, if_neg fun z => e (((what_sign tj.tok 44).mpr z).trans (by decide +kernel))]
/-! ### take_question -/
theorem ask_law (cs : List (List UInt8)) {toks : Toks} {i : Nat} {tok : PTok} (h : toks[i]? = some tok) : Vamvsa.takeAsk cs (toks.drop i) = (gRes cs (toks.drop i)).bind fun g => (Vamvsa.takeTimes g.2).bind fun k => (VamvsBase.takeSign 59 k.2).map fun m => (⟨g.1, k.1⟩, m) := by
  unfold Vamvsa.takeAsk gRes VamvsBase.nextWord
  rw [next_at h, next_at h, isName_at h]
  by_cases q : whatOf tok.tok = "a name"
  · obtain ⟨b, eb, hb⟩ := (what_name tok.tok).mp q
    have n1 : ¬ (tokEq tok.tok (.name (VamvsBase.word "times")) = true ∨ tokEq tok.tok (.sign 59) = true) := by
      rintro (z | z)
      · have := (what_word tok.tok "times" (by simp)).mpr z
        rw [q] at this
        exact absurd this (by decide +kernel)
      · have := (what_sign tok.tok 59).mpr z
        rw [q] at this
        exact absurd this (by decide +kernel)
    rw [if_neg n1, if_pos (decide_eq_true q)]
  · rw [if_neg (show ¬ decide (whatOf tok.tok = "a name") = true by rw [decide_eq_false q]; decide)]
    by_cases z : tokEq tok.tok (.name (VamvsBase.word "times")) = true ∨ tokEq tok.tok (.sign 59) = true
    · rw [if_pos z]
    · rw [if_neg z]
      have e1 : Vamvsa.takeAsked cs ((toks.drop i).length + 1) 0 (toks.drop i) = .error ⟨3, tok.place⟩ := by
        rw [asked_step [] h]
        cases et : tok.tok with
        | name b =>
          show (if VamvsBase.RESERVED.contains b = true then _ else _) = _
          rw [if_pos]
          cases hb : VamvsBase.RESERVED.contains b with
          | true => rfl
          | false => exact absurd ((what_name tok.tok).mpr ⟨b, et, hb⟩) q
        | num n => rfl
        | sign n => rfl
        | last => rfl
      have e2 : Vamvsa.takeTimes (toks.drop i) = .ok (1, toks.drop i) := by
        unfold Vamvsa.takeTimes VamvsBase.nextWord
        rw [next_at h, if_neg fun y => z (.inl y)]
      have e3 : VamvsBase.takeSign 59 (toks.drop i) = .error ⟨3, tok.place⟩ := by
        unfold VamvsBase.takeSign
        rw [taken_at h, if_neg fun y => z (.inr y)]
      rw [e1]
      show _ = (Vamvsa.takeTimes (toks.drop i)).bind _
      rw [e2]
      show _ = (VamvsBase.takeSign 59 (toks.drop i)).map _
      rw [e3]
      rfl
theorem times_at {toks : Toks} {i : Nat} {tok t2 : PTok} (h : toks[i]? = some tok) (h2 : tokEq tok.tok (.name (VamvsBase.word "times")) = true → toks[i + 1]? = some t2) : Vamvsa.takeTimes (toks.drop i) = if tokEq tok.tok (.name (VamvsBase.word "times")) = true then (numRes 1 99 t2).map (fun n => (n, toks.drop (i + 2))) else .ok (1, toks.drop i) := by
  unfold Vamvsa.takeTimes VamvsBase.nextWord
  rw [next_at h]
  by_cases z : tokEq tok.tok (.name (VamvsBase.word "times")) = true
  · rw [if_pos z, if_pos z, drop_one, drop_get (h2 z)]
    obtain ⟨p, t⟩ := t2
    unfold numRes Vamvsa.TIMES
    cases t with
    | num n =>
      show (if n < 1 ∨ 99 < n then _ else _) = (if 1 ≤ n ∧ n ≤ 99 then _ else _ : Except Fault Nat).map _
      by_cases q : n < 1 ∨ 99 < n
      · rw [if_pos q, if_neg (by omega)]; rfl
      · rw [if_neg q, if_pos (by omega)]; rfl
    | name b => rfl
    | sign q => rfl
    | last => rfl
  · rw [if_neg z, if_neg z]
def SpQue (T : List NTab) (K : PySem.W.Frag) (c : Cs) : Sp := fun vs H Q E => Tb T H ∧ ∃ m G r dx l ws toks i tok t dt lq cv lv qv cols, vs = [.ref r, .ref t] ∧ Par T K c ((lq, .lst qv) :: m) H G r dx l ws toks i ∧ toks[i]? = some tok ∧ whatOf tok.tok = "ask" ∧ G t = some (.ins c.table dt [("columns", cv), ("lines", lv), ("questions", .ref lq)]) ∧
  RL K (RM RU) G cv cols ∧ cols.length ≤ 4 ∧ (qv.length < 8 → (∀ ask l', Vamvsa.takeAsk cols (toks.drop (i + 1)) = .ok (ask, l') → ∀ H' G' v j, l' = toks.drop j → i < j → Xt T G G' → Par T K c ((lq, .lst (qv ++ [v])) :: m) H' G' r dx l ws toks j → RAsk K G' v ask → Q .non H') ∧ ∀ f, Vamvsa.takeAsk cols (toks.drop (i + 1)) = .error f → FE T c E G f) ∧
  (8 ≤ qv.length → FE T c E G ⟨4, tok.place⟩)
abbrev DQue (T : List NTab) (P : Program) (w : World) (K : PySem.W.Frag) (mg : Str → Option Value) (base : Heap) (c : Cs) : Prop := Df P w K mg base (L2.CX P w) 7 "take_question" ["reader", "table"] (SpQue T K c)
abbrev s_que : Stmt := top 73
def Nque : List Str := ["reader", "table", "grouping", "times"]
theorem sc_que : FnScope Nque ["reader", "table"] (defScope s_que) := ⟨rfl, rfl, rfl, by decide +kernel, rfl, by decide +kernel, by decide +kernel⟩
theorem ok_que {f : Addr} {fd : FuncData} (g : Gf K mg c) (dN : DNeed T P w K mg base c) (dT : DTake T P w K mg base c) (dF : DTakeIf T P w K mg base c) (dM : DTakeN T P w K mg base c) (dG : DGrp T P w K mg base c) (F : Fun K "take_question" "take_question" s_que f fd) (hm : mg "take_question" = some (.ref f)) (b : Binds K fd ["reader", "table"] []) : DQue T P w K mg base c := by
  refine okE F hm b sc_que (fun vs H Q E h => by obtain ⟨_, m, G, r, dx, l, ws, toks, i, tok, t, dt, lq, cv, lv, qv, cols, rfl, _⟩ := h; rfl) fun cdv A outer s H vs Q E hr h => ?_
  obtain ⟨ht, m, G, r, dx, l, ws, toks, i, tok, t, dt, lq, cv, lv, qv, cols, rfl, hp, hT, hwt, hG, hcv, hc4, hok, her⟩ := h
  refine wb_expr (X := CxE P w K mg base Nque "take_question" s_que f cdv A outer s H E) ?_
  refine we_needP (T := T) (c := c) (E' := E) (k := decide (qv.length < 8)) (code := 4) takeE (fun _ _ _ _ h => h) dN hr (by decide) ht hp hT ?_ ?_ ?_ (fun k H1 G1 x1 p1 => ?_) fun k => her (by have := of_decide_eq_false k; omega)
  · exact vr 0 (R := RV) rfl
  · refine Ev.is (ev_cmp (x := (qv.length : Int)) (y := (8 : Int)) cmp_lt (ev_len (R := RV) g.len (ev_fld (S := RV) (R := RL K RV) (y := .ref t) (vr 1 rfl) fun H2 v u e => ?_)) (ev_gi g.gMOST_QUESTIONS)) (decide_eq_decide.mpr ⟨fun h => by omega, fun h => by omega⟩)
    cases e
    exact ⟨.ref lq, has_of g.table ((hp.xt.trans u).ex _ _ hG nt_ins) rfl (by decide), lq, qv, rfl, SqL.of (u.ex _ _ hp.own nt_lst), rv_all qv⟩
  · exact Ev.to (R := RI) (ev_gi g.gTOO_MANY) fun _ _ _ h => h
  have kq := of_decide_eq_true k
  obtain ⟨hok, her2⟩ := hok kq
  have t1 := hp.go p1 x1 ht
  refine wb_expr (X := CxE P w K mg base Nque "take_question" s_que f cdv A outer s H E) ?_
  refine we_take (T := T) (c := c) (E' := E) (z := "ask") takeE (fun _ _ _ _ h => h) dT hr (by decide) t1 p1 hT ?_ ?_ (by decide +kernel) (fun e u H2 G2 hu2 ru x2 p2 => ?_) fun e => absurd hwt e
  · exact vr 0 (R := RV) rfl
  · exact ev_str
  have t2 := p1.go p2 x2 t1
  have x02 := x1.trans x2
  obtain ⟨_, tk2, hT2, _, _⟩ := p2.get
  have hlaw := ask_law cols hT2
  -- the end: the semicolon, the question put
  have fin : ∀ (D : Ends) (gg k : Nat) (H3 G3 : Hp) (j : Nat) (o : V), D.nx = (fun _ H' => Q .non H') → o = .int (k : Int) → Xt T G G3 → Tb T H3 → Par T K c ((lq, .lst qv) :: m) H3 G3 r dx l ws toks j → i < j → Vamvsa.takeAsk cols (toks.drop (i + 1)) = ((VamvsBase.takeSign 59 (toks.drop j)).map fun m => ((⟨gg, k⟩ : Vamvsa.Ask), m)) → Wb (CxE P w K mg base Nque "take_question" s_que f cdv A outer s H E) ((defBody s_que).drop 5) D [some (.ref r), some (.ref t), some (.int (gg : Int)), some o] H3 := fun D gg k H3 G3 j o hD ho x3 t3 p3 hj he => by
    obtain ⟨_, tj, hTj, _, _⟩ := p3.get
    have he : Vamvsa.takeAsk cols (toks.drop (i + 1)) = (if tokEq tj.tok (.sign 59) = true then Except.ok (toks.drop (j + 1)) else .error ⟨3, tj.place⟩).map fun m => ((⟨gg, k⟩ : Vamvsa.Ask), m) := by
      rw [he]
      unfold VamvsBase.takeSign
      rw [taken_at hTj]
    refine wb_expr (X := CxE P w K mg base Nque "take_question" s_que f cdv A outer s H E) ?_
    refine we_take (T := T) (c := c) (E' := E) (z := ";") takeE (fun _ _ _ _ h => h) dT hr (by decide) t3 p3 hTj ?_ ?_ (by decide +kernel) (fun e u H4 G4 hu4 ru x4 p4 => ?_) fun e => FE.up (her2 ⟨3, tj.place⟩ ?_) x3
    · exact vr 0 (R := RV) rfl
    · exact ev_str
    rotate_left
    · rw [he, if_neg fun z => e (((what_sign tj.tok 59).mpr z).trans (by decide +kernel))]
      rfl
    rw [if_pos ((what_sign tj.tok 59).mp (e.trans (by decide +kernel)))] at he
    have x04 := x3.trans x4
    refine wb_expr (X := CxE P w K mg base Nque "take_question" s_que f cdv A outer s H E) ?_
    refine we_appendW (l := lq) (we_fld (we_var (i := 1) rfl ⟨has_of g.table ((x04.trans p4.xt).ex _ _ hG nt_ins) rfl (by decide), rfl, qv, p4.own, ?_⟩))
    refine Ev.now (T := T) (R := RP K RN RN) (x := (gg, k)) ?_ fun v H8 u8 rv8 => ?_
    · refine ev_pair ?_ ?_
      · exact vr 2 (R := RN) rfl
      · exact vr 3 (R := RN) ho
    · obtain ⟨G8, p8, x8⟩ := p4.keep u8
      refine ⟨qv, p8.own, by omega, wb_nil ?_⟩
      rw [hD]
      exact hok _ _ he _ G8 v (j + 1) rfl (by omega) (x04.trans x8) (p8.put mo_lst) (p8.dn (R := RAsk K) rv8)
  refine wb_cons (Ws.of (ps_set sc_que.nd (i := 2) rfl (.inl rfl) we) ?_)
  refine we_callE takeE (fun _ _ _ _ h => h) dG hr (by decide) (((ea_cons (T := T) (R := RV) (x := .ref r) (vr 0 rfl) (ea_cons (R := RV) (x := .ref t) (vr 1 rfl) ea_nil))) H2 (Xt.refl _) _ fun vs H3 u3 ⟨v, r1, k1, k2, u', r', k3, k4, k5⟩ => ?_)
  subst k1 k3 k5
  cases k2
  cases k4
  obtain ⟨G3, p3, x3⟩ := p2.keep u3
  have x03 := x02.trans x3
  refine ⟨u3.tb t2, _, G3, r, dx, l, ws, toks, i + 1, t, dt, cv, lv, .ref lq, cols, rfl, p3, x03.ex _ _ hG nt_ins, Mono.mono x03 hcv, hc4, fun gg l' eg H4 G4 j hl' hj x4 p4 => ?_, fun f ef => FE.up (her2 f ?_) x03⟩
  rotate_left
  · rw [hlaw, ef]
    rfl
  subst hl'
  have x04 := x03.trans x4
  have t4 := p3.go p4 x4 (u3.tb t2)
  rw [eg] at hlaw
  have hlaw : Vamvsa.takeAsk cols (toks.drop (i + 1)) = (Vamvsa.takeTimes (toks.drop j)).bind fun k => (VamvsBase.takeSign 59 k.2).map fun m => (⟨gg, k.1⟩, m) := hlaw
  obtain ⟨_, tj, hTj, _, _⟩ := p4.get
  refine wb_set (T := T) (R := RI) (x := 1) 3 ev_int (fun vo H5 u5 ro => ?_) sc_que.nd
  cases ro
  obtain ⟨G5, p5, x5⟩ := p4.keep u5
  have t5 := u5.tb t4
  have x05 := x04.trans x5
  refine wb_cons (Ws.of (ps_if wt wb wb) (wt_bool ?_))
  refine we_takeif (T := T) (c := c) (z := "times") dF hr (by decide) t5 p5 hTj ?_ ?_ (by decide +kernel) (fun e H6 G6 x6 p6 => ⟨true, rfl, ?_⟩) fun e H6 G6 x6 p6 => ⟨false, rfl, ?_⟩
  · exact vr 0 (R := RV) rfl
  · exact ev_str
  · have t6 := p5.go p6 x6 t5
    obtain ⟨_, tj6, hTj6, _, _⟩ := p6.get
    rw [times_at hTj (fun _ => hTj6), if_pos ((what_word tj.tok "times" (by simp)).mp e)] at hlaw
    refine wb_cons (Ws.of (ps_set sc_que.nd (i := 3) rfl (.inl rfl) we) ?_)
    refine we_taken (T := T) (c := c) (E' := E) (lo := 1) (hi := 99) takeE (fun _ _ _ _ h => h) dM hr (by decide) t6 p6 hTj6 ?_ ?_ ?_ (fun n en H7 G7 x7 p7 => wb_nil ?_) fun f ef => FE.up (her2 f ?_) (x05.trans x6)
    · exact vr 0 (R := RV) rfl
    · exact Ev.to (R := RI) ev_int fun _ _ _ h => h
    · exact Ev.to (R := RI) (ev_gi g.gMOST_TIMES) fun _ _ _ h => h
    · rw [en] at hlaw
      exact fin _ gg n H7 G7 (j + 2) _ rfl rfl (x05.trans (x6.trans x7)) (p6.go p7 x7 t6) p7 (by omega) hlaw
    · rw [hlaw, ef]
      rfl
  · have t6 := p5.go p6 x6 t5
    rw [times_at (t2 := tj) hTj (fun z => absurd ((what_word tj.tok "times" (by simp)).mpr z) e), if_neg fun z => e ((what_word tj.tok "times" (by simp)).mpr z)] at hlaw
    exact wb_nil (fin _ gg 1 H6 G6 j _ rfl rfl (x05.trans x6) t6 p6 (by omega) hlaw)
end G5
/-! M3: what is read keeps the bounds. -/
namespace G5
open PySem PySem.Spec PyProof.Rows L2
open VamvsBase (tokEq Toks PTok Fault)
theorem bind_ok {α β : Type} {x : Except Fault α} {f : α → Except Fault β} {y : β} (h : x.bind f = .ok y) : ∃ a, x = .ok a ∧ f a = .ok y := by
  cases x with
  | error e => cases h
  | ok a => exact ⟨a, rfl, h⟩
theorem map_ok {α β : Type} {x : Except Fault α} {f : α → β} {y : β} (h : x.map f = .ok y) : ∃ a, x = .ok a ∧ f a = y := by
  cases x with
  | error e => cases h
  | ok a => exact ⟨a, rfl, by cases h; rfl⟩
theorem cols_len : ∀ (n : Nat) (cs : List (List UInt8)) (l : Toks) {cs' : List (List UInt8)} {l' : Toks}, Vamvsa.takeColumns n cs l = .ok (cs', l') → cs'.length ≤ 4
  | 0, cs, l, cs', l', h => by cases h
  | n + 1, cs, l, cs', l', h => by
    obtain ⟨x, hx, h⟩ := bind_ok (show (VamvsBase.takeName l).bind _ = _ from h)
    by_cases h1 : Vamvsa.COLUMNS ≤ cs.length
    · rw [if_pos h1] at h; cases h
    rw [if_neg h1] at h
    by_cases h2 : cs.contains x.1.name = true
    · rw [if_pos h2] at h; cases h
    rw [if_neg h2] at h
    by_cases h3 : VamvsBase.next (.sign 44) x.2 = true
    · rw [if_pos h3] at h; exact cols_len n _ _ h
    · rw [if_neg h3] at h
      obtain ⟨m, _, e⟩ := map_ok h
      have e := (Prod.mk.inj e).1
      unfold Vamvsa.COLUMNS at h1
      rw [← e, List.length_append, List.length_singleton]
      omega
/-- names are no longer than they may be -/
def NamesOk (l : Toks) : Prop := ∀ t ∈ l, ∀ b, t.tok = .name b → b.length ≤ 16
theorem token_name {l : List UInt8} {b : List UInt8} {k : Nat} (h : VamvsBase.token l = some (.name b, k)) : b.length ≤ 16 := by
  match l with
  | [] => cases h
  | x :: r =>
    have h : (if VamvsBase.isLetter x = true then (let w := (x :: r).takeWhile fun c => VamvsBase.isLetter c || VamvsBase.isDigit c
      if VamvsBase.NAME < w.length then none else some (VamvsBase.Tok.name w, w.length)) else if VamvsBase.isDigit x = true then (VamvsBase.numberOf ((x :: r).takeWhile VamvsBase.isDigit)).map fun n => (VamvsBase.Tok.num n, ((x :: r).takeWhile VamvsBase.isDigit).length)
      else if VamvsBase.SIGNS.contains x = true then some (VamvsBase.Tok.sign x.toNat, 1) else none) = some (.name b, k) := h
    by_cases h1 : VamvsBase.isLetter x = true
    · rw [if_pos h1] at h
      by_cases h2 : VamvsBase.NAME < ((x :: r).takeWhile fun c => VamvsBase.isLetter c || VamvsBase.isDigit c).length
      · rw [if_pos h2] at h; cases h
      · rw [if_neg h2] at h
        have e := VamvsBase.Tok.name.inj (Prod.mk.inj (Option.some.inj h)).1
        unfold VamvsBase.NAME at h2
        rw [← e]
        omega
    · rw [if_neg h1] at h
      by_cases h2 : VamvsBase.isDigit x = true
      · rw [if_pos h2] at h
        obtain ⟨n, _, e⟩ := Option.map_eq_some_iff.mp h
        exact absurd (Prod.mk.inj e).1 (fun z => by cases z)
      · rw [if_neg h2] at h
        by_cases h3 : VamvsBase.SIGNS.contains x = true
        · rw [if_pos h3] at h; exact absurd (Prod.mk.inj (Option.some.inj h)).1 (fun z => by cases z)
        · rw [if_neg h3] at h; cases h
theorem lex_names : ∀ (n a : Nat) (l : List UInt8) {ts : Toks}, VamvsBase.lex n a l = .ok ts → NamesOk ts
  | 0, a, l, ts, h => by cases h; intro t ht b e; rw [List.mem_singleton.mp ht] at e; cases e
  | n + 1, a, [], ts, h => by cases h; intro t ht b e; rw [List.mem_singleton.mp ht] at e; cases e
  | n + 1, a, x :: r, ts, h => by
    have h : (if VamvsBase.isBlank x = true then VamvsBase.lex n (a + 1) r else if x == 35 then VamvsBase.lex n (a + 1 + (r.takeWhile (· != 10)).length) (r.dropWhile (· != 10)) else match VamvsBase.token (x :: r) with
      | none => .error ⟨2, a⟩
      | some y => (VamvsBase.lex n (a + y.2) ((x :: r).drop y.2)).map fun l => ⟨a, y.1⟩ :: l) = Except.ok ts := h
    by_cases h3 : VamvsBase.isBlank x = true
    · rw [if_pos h3] at h; exact lex_names n _ _ h
    · rw [if_neg h3] at h
      by_cases h4 : (x == 35) = true
      · rw [if_pos h4] at h; exact lex_names n _ _ h
      · rw [if_neg h4] at h
        cases ht : VamvsBase.token (x :: r) with
        | none => rw [ht] at h; cases h
        | some y =>
          rw [ht] at h
          obtain ⟨z, hz, e⟩ := map_ok (show (VamvsBase.lex n (a + y.2) ((x :: r).drop y.2)).map (fun l => (⟨a, y.1⟩ : PTok) :: l) = Except.ok ts from h)
          subst e
          have ih := lex_names n _ _ hz
          intro t ht' b e
          rcases List.mem_cons.mp ht' with q | q
          · rw [q] at e
            have e : y.1 = .name b := e
            have : VamvsBase.token (x :: r) = some (.name b, y.2) := by rw [ht, ← e]
            exact token_name this
          · exact ih t q b e
theorem takeName_ok {l : Toks} {x : VamvsBase.PName × Toks} (hn : NamesOk l) (h : VamvsBase.takeName l = .ok x) : x.1.name.length ≤ 16 ∧ NamesOk x.2 := by
  unfold VamvsBase.takeName at h
  split at h
  · rename_i p b r
    by_cases q : VamvsBase.RESERVED.contains b = true
    · rw [if_pos q] at h; cases h
    · rw [if_neg q] at h
      cases h
      exact ⟨hn _ List.mem_cons_self b rfl, fun t ht => hn t (List.mem_cons_of_mem _ ht)⟩
  · cases h
theorem names_drop {l : Toks} (hn : NamesOk l) (k : Nat) : NamesOk (l.drop k) := fun t ht => hn t (List.mem_of_mem_drop ht)
theorem cols_names : ∀ (n : Nat) (cs : List (List UInt8)) (l : Toks) {cs' : List (List UInt8)} {l' : Toks}, NamesOk l → (∀ c ∈ cs, c.length ≤ 16) → Vamvsa.takeColumns n cs l = .ok (cs', l') → ∀ c ∈ cs', c.length ≤ 16
  | 0, cs, l, cs', l', _, _, h => by cases h
  | n + 1, cs, l, cs', l', hn, hc, h => by
    obtain ⟨x, hx, h⟩ := bind_ok (show (VamvsBase.takeName l).bind _ = _ from h)
    obtain ⟨x1, x2⟩ := takeName_ok hn hx
    have hc2 : ∀ c ∈ cs ++ [x.1.name], c.length ≤ 16 := fun c hm => by
      rcases List.mem_append.mp hm with z | z
      · exact hc c z
      · rw [List.mem_singleton.mp z]; exact x1
    by_cases h1 : Vamvsa.COLUMNS ≤ cs.length
    · rw [if_pos h1] at h; cases h
    rw [if_neg h1] at h
    by_cases h2 : cs.contains x.1.name = true
    · rw [if_pos h2] at h; cases h
    rw [if_neg h2] at h
    by_cases h3 : VamvsBase.next (.sign 44) x.2 = true
    · rw [if_pos h3] at h; exact cols_names n _ _ (names_drop x2 1) hc2 h
    · rw [if_neg h3] at h
      obtain ⟨m, _, e⟩ := map_ok h
      have e := (Prod.mk.inj e).1
      rw [← e]
      exact hc2
theorem nat_ok {hi : Nat} {l : Toks} {x : Nat × Toks} (h : Vamvsa.takeNat hi l = .ok x) : x.1 ≤ hi := by
  unfold Vamvsa.takeNat at h
  split at h
  · rename_i q n r
    by_cases q : hi < n
    · rw [if_pos q] at h; cases h
    · rw [if_neg q] at h
      cases h
      show n ≤ hi
      omega
  · cases h
theorem vals_ok : ∀ (n : Nat) (vs : List Nat) (l : Toks) {x : List Nat × Toks}, Vamvsa.takeValues n vs l = .ok x → (∀ v ∈ vs, v ≤ 9) → x.1.length = vs.length + n ∧ ∀ v ∈ x.1, v ≤ 9
  | 0, vs, l, x, h, hv => by cases h; exact ⟨rfl, hv⟩
  | n + 1, vs, l, x, h, hv => by
    obtain ⟨r, _, h⟩ := bind_ok (show ((if vs.isEmpty = true then Except.ok l else VamvsBase.takeSign 44 l).bind _) = _ from h)
    obtain ⟨y, hy, h⟩ := bind_ok h
    have h9 := nat_ok hy
    obtain ⟨a, b⟩ := vals_ok n _ _ h fun v hv' => by
      rcases List.mem_append.mp hv' with z | z
      · exact hv v z
      · rw [List.mem_singleton.mp z]; exact h9
    rw [List.length_append, List.length_singleton] at a
    exact ⟨by omega, b⟩
theorem asked_ok : ∀ (n g : Nat) (cs : List (List UInt8)) (l : Toks) {x : Nat × Toks}, cs.length ≤ 4 → Vamvsa.takeAsked cs n g l = .ok x → g < 2 ^ cs.length → x.1 < 2 ^ cs.length
  | 0, g, cs, l, x, hc, h, hg => by cases h
  | n + 1, g, cs, l, x, hc, h, hg => by
    obtain ⟨y, hy, h⟩ := bind_ok (show (VamvsBase.takeName l).bind _ = _ from h)
    cases hi : cs.findIdx? (fun c => c == y.1.name) with
    | none => rw [hi] at h; cases h
    | some i =>
      rw [hi] at h
      have h : (if g / 2 ^ i % 2 = 1 then Except.error ⟨6, y.1.place⟩ else if VamvsBase.next (.sign 44) y.2 = true then Vamvsa.takeAsked cs n (g + 2 ^ i) (y.2.drop 1) else .ok (g + 2 ^ i, y.2)) = Except.ok x := h
      have hlt := (ix_get hi).2
      by_cases q : g / 2 ^ i % 2 = 1
      · rw [if_pos q] at h; cases h
      rw [if_neg q] at h
      have hg2 : g + 2 ^ i < 2 ^ cs.length := by
        have key : ∀ m, m ≤ 4 → ∀ g, g < 2 ^ m → ∀ i, i < m → ¬ g / 2 ^ i % 2 = 1 → g + 2 ^ i < 2 ^ m := by
          intro m hm
          have : ((List.range 5).all fun m => (List.range (2 ^ m)).all fun g => (List.range m).all fun i => (g / 2 ^ i % 2 == 1) || decide (g + 2 ^ i < 2 ^ m)) = true := by decide +kernel
          intro g hg i hi hn
          have h3 := List.all_eq_true.mp (List.all_eq_true.mp (List.all_eq_true.mp this m (List.mem_range.mpr (by omega))) g (List.mem_range.mpr hg)) i (List.mem_range.mpr hi)
          rw [Bool.or_eq_true] at h3
          rcases h3 with h3 | h3
          · exact absurd (eq_of_beq h3) hn
          · exact of_decide_eq_true h3
        exact key _ hc g hg i hlt q
      by_cases q2 : VamvsBase.next (.sign 44) y.2 = true
      · rw [if_pos q2] at h; exact asked_ok n _ cs _ hc h hg2
      · rw [if_neg q2] at h; cases h; exact hg2
theorem times_ok {l : Toks} {x : Nat × Toks} (h : Vamvsa.takeTimes l = .ok x) : 1 ≤ x.1 ∧ x.1 ≤ 99 := by
  unfold Vamvsa.takeTimes Vamvsa.TIMES at h
  by_cases q : VamvsBase.nextWord "times" l = true
  · rw [if_pos q] at h
    split at h
    · rename_i q' n r _
      by_cases q2 : n < 1 ∨ 99 < n
      · rw [if_pos q2] at h; cases h
      · rw [if_neg q2] at h
        cases h
        show 1 ≤ n ∧ n ≤ 99
        omega
    · cases h
  · rw [if_neg q] at h
    cases h
    exact ⟨Nat.le_refl 1, show (1 : Nat) ≤ 99 by decide⟩
theorem ask_ok {cs : List (List UInt8)} {l : Toks} {a : Vamvsa.Ask × Toks} (hc : cs.length ≤ 4) (h : Vamvsa.takeAsk cs l = .ok a) : a.1.g < 2 ^ cs.length ∧ 1 ≤ a.1.k ∧ a.1.k ≤ 99 := by
  unfold Vamvsa.takeAsk at h
  obtain ⟨g, hg, h⟩ := bind_ok h
  obtain ⟨k, hk, h⟩ := bind_ok h
  obtain ⟨m, _, e⟩ := map_ok h
  subst e
  refine ⟨?_, times_ok hk⟩
  show g.1 < _
  by_cases q : VamvsBase.nextWord "times" l = true ∨ VamvsBase.next (.sign 59) l = true
  · rw [if_pos q] at hg; cases hg; exact Nat.two_pow_pos _
  · rw [if_neg q] at hg; exact asked_ok _ _ _ _ hc hg (Nat.two_pow_pos _)
theorem int_ok {l : Toks} {x : Int × Toks} (h : Vamvsa.takeInt l = .ok x) : -1000 ≤ x.1 ∧ x.1 ≤ 1000 := by
  unfold Vamvsa.takeInt at h
  obtain ⟨y, hy, e⟩ := map_ok h
  have := nat_ok hy
  unfold Vamvsa.SIZE at this
  subst e
  show -1000 ≤ (if VamvsBase.next (.sign 45) l = true then -(y.1 : Int) else (y.1 : Int)) ∧ (if VamvsBase.next (.sign 45) l = true then -(y.1 : Int) else (y.1 : Int)) ≤ 1000
  split <;> omega
theorem lines_ok : ∀ (n : Nat) (t : Vamvsa.Table) (l : Toks) {t' : Vamvsa.Table}, Good t → Vamvsa.takeLines n t l = .ok t' → Good t'
  | 0, t, l, t', hg, h => by cases h
  | n + 1, t, l, t', hg, h => by
    have h : (if VamvsBase.next .last l = true then Except.ok t
    else if VamvsBase.nextWord "row" l = true then (if Vamvsa.ROWS ≤ t.rows.length then .error ⟨4, VamvsBase.here l⟩ else (Vamvsa.takeValues t.cols.length [] (l.drop 1)).bind fun v => (VamvsBase.takeSign 58 v.2).bind fun r => (Vamvsa.takeInt r).bind fun x => (VamvsBase.takeSign 59 x.2).bind fun m => Vamvsa.takeLines n { t with rows := t.rows ++ [⟨v.1, x.1⟩] } m)
    else (VamvsBase.takeWord "ask" l).bind fun r => if Vamvsa.ASKS ≤ t.asks.length then .error ⟨4, VamvsBase.here l⟩ else (Vamvsa.takeAsk t.cols r).bind fun a => Vamvsa.takeLines n { t with asks := t.asks ++ [a.1] } a.2) = .ok t' := h
    by_cases q1 : VamvsBase.next .last l = true
    · rw [if_pos q1] at h; cases h; exact hg
    rw [if_neg q1] at h
    by_cases q2 : VamvsBase.nextWord "row" l = true
    · rw [if_pos q2] at h
      by_cases q3 : Vamvsa.ROWS ≤ t.rows.length
      · rw [if_pos q3] at h; cases h
      rw [if_neg q3] at h
      obtain ⟨v, hv, h⟩ := bind_ok h
      obtain ⟨r, _, h⟩ := bind_ok h
      obtain ⟨x, hx, h⟩ := bind_ok h
      obtain ⟨m, _, h⟩ := bind_ok h
      obtain ⟨v1, v2⟩ := vals_ok _ _ _ hv (fun v h => by cases h)
      have hi := int_ok hx
      unfold Vamvsa.ROWS at q3
      refine lines_ok n { t with rows := t.rows ++ [⟨v.1, x.1⟩] } _ ⟨hg.cols, hg.names, (by show (t.rows ++ _).length ≤ 16; rw [List.length_append, List.length_singleton]; omega), fun r hr => ?_, hg.asks, hg.asked⟩ h
      rcases List.mem_append.mp (show r ∈ t.rows ++ _ from hr) with z | z
      · exact hg.vals r z
      · rw [List.mem_singleton.mp z]
        exact ⟨by show v.1.length = t.cols.length; rw [v1]; simp, v2, hi.1, hi.2⟩
    · rw [if_neg q2] at h
      obtain ⟨r, _, h⟩ := bind_ok h
      by_cases q3 : Vamvsa.ASKS ≤ t.asks.length
      · rw [if_pos q3] at h; cases h
      rw [if_neg q3] at h
      obtain ⟨a, ha, h⟩ := bind_ok h
      unfold Vamvsa.ASKS at q3
      refine lines_ok n { t with asks := t.asks ++ [a.1] } _ ⟨hg.cols, hg.names, hg.rows, hg.vals, (by show (t.asks ++ _).length ≤ 8; rw [List.length_append, List.length_singleton]; omega), fun b hb => ?_⟩ h
      rcases List.mem_append.mp (show b ∈ t.asks ++ _ from hb) with z | z
      · exact hg.asked b z
      · rw [List.mem_singleton.mp z]
        exact ask_ok hg.cols ha
theorem read_good {b : List UInt8} {t : Vamvsa.Table} (h : Vamvsa.read b = .ok t) : Good t := by
  unfold Vamvsa.read at h
  obtain ⟨l, hl, h⟩ := bind_ok h
  obtain ⟨r, hr, h⟩ := bind_ok h
  obtain ⟨x, hx, h⟩ := bind_ok h
  have hn : NamesOk l := by
    unfold VamvsBase.tokens at hl
    by_cases k : VamvsBase.TEXT < b.length
    · rw [if_pos k] at hl; cases hl
    · rw [if_neg k] at hl; exact lex_names _ _ _ hl
  have hn2 : NamesOk r := by
    unfold VamvsBase.takeWord VamvsBase.taken at hr
    split at hr
    · cases hr; exact names_drop hn 1
    · cases hr
  exact lines_ok _ _ _ ⟨cols_len _ _ _ hx, cols_names _ _ _ hn2 (fun c hc => by cases hc) hx, Nat.zero_le _, (fun r hr => by cases hr), Nat.zero_le _, (fun a ha => by cases ha)⟩ h
end G5
/-! T10: Table made; read_table. -/
namespace G5
open PySem PySem.Spec PyProof.Rows L2
open VamvsBase (tokEq Toks PTok Fault)
variable {T : List NTab} {P : Program} {w : World} {K : PySem.W.Frag} {mg : Str → Option Value} {base : Heap} {c : Cs}
section
variable {X : Cx} {o : Expr} {sts : List Stmt} {D : Ends} {σ : L2.St} {G : Hp} {r dx C : Addr} {fs : List (Str × V)} {f : Str} {p p' pos : Pos}
/-- self.f = [] -/
theorem wb_fldN (hr : G r = none) (hd : G dx = none) (ne : dx ≠ r) (ho : ∀ (Q : VK) H', Q (.ref r) H' → We X o σ H' Q) (hcl : Cls X.K C) (hno : NoAttr X.K C f) (hl : fs.length < 1000)
    (q : ∀ l, G l = none → l ≠ r → l ≠ dx → Wb X sts D σ (updI (upd G l (.lst [])) r dx C (putF f (.ref l) fs))) (hs : swapsWith (.List [] p) (some (.Attribute o f p')) pos.line X.env = pure false := by rfl) : Wb X (.Assign [.Attribute o f p'] (.List [] p) pos :: sts) D σ (updI G r dx C fs) :=
  wb_cons (Ws.of (ps_fld we (pe_lst pa_nil) hs) ⟨Nat.zero_le _, fun l hl0 => ho _ _ (by
    have n1 : l ≠ r := fun z => by rw [z, show updI G r dx C fs r = _ from upd_same] at hl0; cases hl0
    have n2 : l ≠ dx := fun z => by rw [z, show updI G r dx C fs dx = some (.own r) from (upd_ne ne).trans upd_same] at hl0; cases hl0
    have hg : G l = none := by
      have : updI G r dx C fs l = G l := by unfold updI; rw [upd_ne n1, upd_ne n2]
      rw [this] at hl0
      exact hl0
    have e1 : upd (updI G r dx C fs) l (.lst []) = updI (upd G l (.lst [])) r dx C fs := by
      unfold updI
      rw [upd_swap n1.symm, upd_swap n2.symm]
    refine ⟨r, C, dx, fs, rfl, ?_, hcl, hno, hl, ?_⟩
    · rw [e1]; exact upd_same
    · rw [e1]
      have e2 : upd (updI (upd G l (.lst [])) r dx C fs) r (.ins C dx (putF f (.ref l) fs)) = updI (upd G l (.lst [])) r dx C (putF f (.ref l) fs) := upd_upd
      show Wb X sts D σ (upd (updI (upd G l (.lst [])) r dx C fs) r (.ins C dx (putF f (.ref l) fs)))
      rw [e2]
      exact q l hg n1 n2)⟩)
end
abbrev s_tabinit : Stmt := clsSt (top 68) 0
def postTab : List V → Hp → Hp → List (Str × V) → Prop := fun us G G2 fs => us = [] ∧ ∃ l1 l2 l3, G l1 = none ∧ (upd G l1 (.lst [])) l2 = none ∧ (upd (upd G l1 (.lst [])) l2 (.lst [])) l3 = none ∧ G2 = upd (upd (upd G l1 (.lst [])) l2 (.lst [])) l3 (.lst []) ∧
  fs = [(("columns" : Str), .ref l1), (("lines" : Str), .ref l2), (("questions" : Str), .ref l3)]
theorem sc_tabinit : FnScope ["self"] ["self"] (defScope s_tabinit) := ⟨rfl, rfl, rfl, by decide +kernel, rfl, by decide +kernel, by decide +kernel⟩
abbrev MkTab (P : Program) (w : World) (K : PySem.W.Frag) (mg : Str → Option Value) (base : Heap) (c : Cs) : Prop := Mkd P w K mg base CX0 1 "Table" c.table ["self"] (SpI c.table 0 postTab)
theorem mk_tab {f : Addr} {fd : FuncData} (g : Gf K mg c) (F : Fun K "__init__" "Table.__init__" s_tabinit f fd) (M : Mk K c.table f) (b : Binds K fd ["self"] []) : MkTab P w K mg base c := by
  refine mk_of F g.table.at' M b sc_tabinit rfl fun cdv A outer s H E Q x dx G us hl hr hH hx hd ne hq => ?_
  cases us with
  | cons a r => cases hl
  | nil =>
    refine wb_fldN hx hd ne (fun Q H' q => we_var (i := 0) rfl q) g.table.cl (g.table.no _ (by decide)) (by decide) fun l1 h1 n1 n1' => ?_
    refine wb_fldN (by rw [upd_ne n1.symm]; exact hx) (by rw [upd_ne n1'.symm]; exact hd) ne (fun Q H' q => we_var (i := 0) rfl q) g.table.cl (g.table.no _ (by decide)) (show (1 : Nat) < 1000 by decide) fun l2 h2 n2 n2' => ?_
    refine wb_fldN (by rw [upd_ne n2.symm, upd_ne n1.symm]; exact hx) (by rw [upd_ne n2'.symm, upd_ne n1'.symm]; exact hd) ne (fun Q H' q => we_var (i := 0) rfl q) g.table.cl (g.table.no _ (by decide)) (show (2 : Nat) < 1000 by decide) fun l3 h3 n3 n3' => ?_
    refine wb_nil (hq _ _ ⟨rfl, l1, l2, l3, h1, h2, h3, rfl, rfl⟩ ?_ ?_)
    · rw [upd_ne n3.symm, upd_ne n2.symm, upd_ne n1.symm]; exact hx
    · rw [upd_ne n3'.symm, upd_ne n2'.symm, upd_ne n1'.symm]; exact hd
/-! ### read_table -/
/-- a new table: its lists of rows and of questions are its own -/
structure TabAt (K : PySem.W.Frag) (c : Cs) (G : Hp) (t dt ll lq : Addr) (rv qv : List V) (tb : Vamvsa.Table) : Prop where
  ex : ∃ cv, G t = some (.ins c.table dt [("columns", cv), ("lines", .ref ll), ("questions", .ref lq)]) ∧ RL K (RM RU) G cv tb.cols
  rows : All2 (RRow K G) rv tb.rows
  asks : All2 (RAsk K G) qv tb.asks
theorem TabAt.mono {G G' : Hp} {t dt ll lq : Addr} {rv qv : List V} {tb : Vamvsa.Table} (x : Xt T G G') (h : TabAt K c G t dt ll lq rv qv tb) : TabAt K c G' t dt ll lq rv qv tb :=
  let ⟨⟨cv, h1, h2⟩, h3, h4⟩ := h
  ⟨⟨cv, x.ex _ _ h1 nt_ins, Mono.mono x h2⟩, h3.mono x, h4.mono x⟩
def SpRead (T : List NTab) (K : PySem.W.Frag) (c : Cs) : Sp := fun vs H Q E => Tb T H ∧ ∃ v1 text, vs = [v1] ∧ RL K RU H v1 text ∧
  (∀ tb, Vamvsa.read text = .ok tb → ∀ H' G' t dt ll lq rv qv, H' = ov [(ll, .lst rv), (lq, .lst qv)] G' → Lay [(ll, .lst rv), (lq, .lst qv)] G' → Xt T H G' → H t = none → TabAt K c G' t dt ll lq rv qv tb → Q (.ref t) H') ∧ ∀ f, Vamvsa.read text = .error f → FE T c E H f
abbrev DRead (T : List NTab) (P : Program) (w : World) (K : PySem.W.Frag) (mg : Str → Option Value) (base : Heap) (c : Cs) : Prop := Df P w K mg base (L2.CX P w) 8 "read_table" ["text"] (SpRead T K c)
theorem lines_step {toks : Toks} {i n : Nat} {tok : PTok} {tb : Vamvsa.Table} (h : toks[i]? = some tok) : Vamvsa.takeLines (n + 1) tb (toks.drop i) = if tokEq tok.tok .last = true then .ok tb else if whatOf tok.tok = "row" then (if 16 ≤ tb.rows.length then .error ⟨4, tok.place⟩ else (rowRes tb.cols.length (toks.drop (i + 1))).bind fun x => Vamvsa.takeLines n { tb with rows := tb.rows ++ [x.1] } x.2)
    else if whatOf tok.tok = "ask" then (if 8 ≤ tb.asks.length then .error ⟨4, tok.place⟩ else (Vamvsa.takeAsk tb.cols (toks.drop (i + 1))).bind fun a => Vamvsa.takeLines n { tb with asks := tb.asks ++ [a.1] } a.2) else .error ⟨3, tok.place⟩ := by
  show (if VamvsBase.next .last (toks.drop i) = true then _ else if VamvsBase.nextWord "row" (toks.drop i) = true then _ else (VamvsBase.takeWord "ask" (toks.drop i)).bind _) = _
  unfold VamvsBase.nextWord VamvsBase.takeWord
  rw [next_at h, next_at h, taken_at h, here_at h, drop_one]
  by_cases q1 : tokEq tok.tok .last = true
  · rw [if_pos q1, if_pos q1]
  rw [if_neg q1, if_neg q1]
  by_cases q2 : whatOf tok.tok = "row"
  · rw [if_pos ((what_word tok.tok "row" (by simp)).mp q2), if_pos q2]
    unfold Vamvsa.ROWS
    by_cases q3 : 16 ≤ tb.rows.length
    · rw [if_pos q3, if_pos q3]
    · rw [if_neg q3, if_neg q3]
      unfold rowRes
      cases Vamvsa.takeValues tb.cols.length [] (toks.drop (i + 1)) with
      | error f => rfl
      | ok v =>
        show (VamvsBase.takeSign 58 v.2).bind _ = ((VamvsBase.takeSign 58 v.2).bind _).bind _
        cases VamvsBase.takeSign 58 v.2 with
        | error f => rfl
        | ok r =>
          show (Vamvsa.takeInt r).bind _ = ((Vamvsa.takeInt r).bind _).bind _
          cases Vamvsa.takeInt r with
          | error f => rfl
          | ok x =>
            show (VamvsBase.takeSign 59 x.2).bind _ = ((VamvsBase.takeSign 59 x.2).map _).bind _
            cases VamvsBase.takeSign 59 x.2 <;> rfl
  · rw [if_neg (fun z => q2 ((what_word tok.tok "row" (by simp)).mpr z)), if_neg q2]
    by_cases q3 : whatOf tok.tok = "ask"
    · rw [if_pos ((what_word tok.tok "ask" (by simp)).mp q3), if_pos q3]
      show (if Vamvsa.ASKS ≤ tb.asks.length then _ else _) = _
      unfold Vamvsa.ASKS
      rfl
    · rw [if_neg (fun z => q3 ((what_word tok.tok "ask" (by simp)).mpr z)), if_neg q3]
      rfl
abbrev s_read : Stmt := top 74
def Nread : List Str := ["text", "reader", "found"]
theorem sc_read : FnScope Nread ["text"] (defScope s_read) := ⟨rfl, rfl, rfl, by decide +kernel, rfl, by decide +kernel, by decide +kernel⟩
theorem ok_read {f : Addr} {fd : FuncData} (g : Gf K mg c) (dK : Df P w K mg base (L2.CX P w) 5 "tokens_of" ["text"] (SpRes T c (RL K RU) (RM (RTok c)) (fun _ => True) VamvsBase.tokens)) (MR : MkRd T P w K mg base c) (MB : MkTab P w K mg base c)
    (dI : DIs T P w K mg base c) (dN : DNeed T P w K mg base c) (dC : DCols T P w K mg base c) (dR : DRow T P w K mg base c) (dQ : DQue T P w K mg base c) (F : Fun K "read_table" "read_table" s_read f fd) (hm : mg "read_table" = some (.ref f)) (b : Binds K fd ["text"] []) : DRead T P w K mg base c := by
  refine okE F hm b sc_read (fun vs H Q E h => by obtain ⟨_, v1, text, rfl, _⟩ := h; rfl) fun cdv A outer s H vs Q E hr h => ?_
  obtain ⟨ht, v1, text, rfl, h1, hok, her⟩ := h
  refine wb_cons (Ws.of (ps_set sc_read.nd (i := 1) rfl (.inl rfl) we) ?_)
  refine we_make MR hr (by decide) (Wa.of (pa_cons we pa_nil rfl) ?_)
  refine we_callE takeE (fun _ _ _ _ h => h) dK hr (by decide) ((ea_cons (T := T) (R := RL K RU) (x := text) (vr 0 h1) ea_nil) H (Xt.refl _) _ fun vs H1 u1 ⟨v, r1, k1, k2, k3⟩ => ?_)
  subst k1 k3
  refine ⟨u1.tb ht, v, text, rfl, k2, trivial, fun toks etk v2 H2 u2 hv2 => ?_, fun f ef => FE.up (her f ?_) u1⟩
  rotate_left
  · unfold Vamvsa.read
    rw [ef]
    rfl
  obtain ⟨l, ws, rfl, hl, hws⟩ := hv2
  have hto := toks_ok etk
  have u02 := u1.trans u2
  have eR : Vamvsa.read text = (colRes toks).bind fun x => Vamvsa.takeLines (x.2.length + 1) ⟨x.1, [], []⟩ x.2 := by
    unfold Vamvsa.read
    rw [etk]
    unfold colRes
    show (VamvsBase.takeWord "columns" toks).bind _ = ((VamvsBase.takeWord "columns" toks).bind _).bind _
    cases VamvsBase.takeWord "columns" toks <;> rfl
  refine ⟨rfl, fun r dx G3 fs hrr hrd ne ⟨x3, a, ea, efs⟩ hr3 hd3 => ?_⟩
  cases ea
  subst efs
  have l3 : Lay (rdO c r dx l 0 ++ []) G3 := (Lay.cons (Lay.nil.cons (a := dx) (o := .own r) (fun z => by cases z) hd3 mo_own) (fun z => ne (List.mem_singleton.mp z).symm) hr3 mo_ins : Lay (rdO c r dx l 0) G3)
  have p3 : Par T K c [] (ov (rdO c r dx l 0 ++ []) G3) G3 r dx l ws toks 0 := ⟨rfl, l3, SqL.of (x3.ex _ _ hl nt_lst), hws.mono x3, by obtain ⟨fr, q, rfl⟩ := hto; simp, hto⟩
  have u03 := u02.trans x3
  have t3 : Tb T (ov (rdO c r dx l 0 ++ []) G3) := p3.xt.tb (u03.tb ht)
  show Wb _ _ _ _ (ov (rdO c r dx l 0 ++ []) G3)
  refine wb_cons (Ws.of (ps_set sc_read.nd (i := 2) rfl (.inl rfl) we) ?_)
  refine we_make0 MB hr (by decide) fun t dt G4 fs ht1 hdt1 ne2 ⟨_, l1, l2, l3', q1, q2, q3, eG4, efs⟩ ht4 hdt4 => ?_
  subst efs eG4
  have p4 := ((((p3.add q1 mo_lst).add q2 mo_lst).add q3 mo_lst).add hdt4 (o := .own t) mo_own).add (a := t) (o := .ins c.table dt [("columns", .ref l1), ("lines", .ref l2), ("questions", .ref l3')]) (by rw [upd_ne ne2.symm]; exact ht4) mo_ins
  obtain ⟨p5, x5, _⟩ := p4.lay1
  have gt5 : upd G3 t (.ins c.table dt [("columns", .ref l1), ("lines", .ref l2), ("questions", .ref l3')]) t = some (.ins c.table dt [("columns", .ref l1), ("lines", .ref l2), ("questions", .ref l3')]) := upd_same
  obtain ⟨p6, x6, _⟩ := p5.lay1
  have gt6 := x6.ex _ _ gt5 nt_ins
  have p7 : Par T K c [(l1, .lst []), (l2, .lst []), (l3', .lst [])] _ _ r dx l ws toks 0 := p6.perm (by have := List.reverse_perm [(l1, HO.lst []), (l2, HO.lst []), (l3', HO.lst [])]; exact this)
  clear p4 p5 p6
  have u07 := u03.trans (x5.trans x6)
  have t7 := p7.xt.tb (u07.tb ht)
  have htn : H t = none := u03.fr t (by
    have : (ov (rdO c r dx l 0 ++ []) G3) t = none := ht1
    exact (ov_xt (T := T) l3).fr t this)
  refine wb_expr (X := CxE P w K mg base Nread "read_table" s_read f cdv A outer s H E) ?_
  refine we_callE takeE (fun _ _ _ _ h => h) dC hr (by decide) (((ea_cons (T := T) (R := RV) (x := .ref r) (vr 1 rfl) (ea_cons (R := RV) (x := .ref t) (vr 2 rfl) ea_nil))) _ (Xt.refl _) _ fun vs H8 u8 ⟨v, r1, k1, k2, u', r', k3, k4, k5⟩ => ?_)
  subst k1 k3 k5
  cases k2
  cases k4
  obtain ⟨G8, p8, x8⟩ := p7.keep u8
  have u08 := u07.trans x8
  refine ⟨u8.tb t7, [(l2, .lst []), (l3', .lst [])], G8, r, dx, l, ws, toks, 0, t, dt, l1, .ref l2, .ref l3', rfl, p8, x8.ex _ _ gt6 nt_ins, fun cs l' ecs H9 G9 us j hl' x9 p9 hus => ?_, fun f ef => FE.up (her f ?_) u08⟩
  rotate_left
  · rw [eR]
    have : colRes toks = .error f := ef
    rw [this]
    rfl
  have ecs : colRes toks = .ok (cs, l') := ecs
  rw [ecs] at eR
  have eR : Vamvsa.read text = Vamvsa.takeLines (l'.length + 1) ⟨cs, [], []⟩ l' := eR
  subst hl'
  obtain ⟨pA, xA, gA⟩ := p9.lay1
  have u0A := u08.trans (x9.trans xA)
  have gtA := (x8.trans (x9.trans xA)).ex _ _ gt6 nt_ins
  have hcA : RL K (RM RU) (upd G9 l1 (.lst us)) (.ref l1) cs := ⟨l1, us, rfl, SqL.of gA, hus.mono xA⟩
  have tA := pA.xt.tb (u0A.tb ht)
  have hcs4 : cs.length ≤ 4 := by
    obtain ⟨r9, _, h9⟩ := bind_ok ecs
    exact cols_len _ _ _ h9
  refine wb_while poE (fun M σ' H' => ∃ (n : Nat) (rows : List Vamvsa.Row) (asks : List Vamvsa.Ask) (rv qv : List V) (G' : Hp) (j : Nat), M = toks.length - j ∧ toks.length - j < n ∧ σ' = [some v1, some (.ref r), some (.ref t)] ∧ Xt T (upd G9 l1 (.lst us)) G' ∧ Tb T H' ∧ Par T K c [(l2, .lst rv), (l3', .lst qv)] H' G' r dx l ws toks j ∧ All2 (RRow K G') rv rows ∧ All2 (RAsk K G') qv asks ∧ Vamvsa.read text = Vamvsa.takeLines n ⟨cs, rows, asks⟩ (toks.drop j)) (toks.length - j)
    ⟨(toks.drop j).length + 1, [], [], [], [], _, j, rfl, by rw [List.length_drop]; exact Nat.lt_succ_self _, rfl, Xt.refl _, tA, pA, .nil, .nil, eR⟩ fun M σ' H' W => ?_
  obtain ⟨n, rows, asks, rv, qv, G', j, rfl, hn, rfl, x, tH, p, har, haq, hlaw⟩ := W
  obtain ⟨n', rfl⟩ : ∃ n', n = n' + 1 := ⟨n - 1, by omega⟩
  obtain ⟨_, tj, hTj, _, _⟩ := p.get
  rw [lines_step hTj] at hlaw
  refine (et_not (T := T) (et_val (ev_ishere dI hr (by decide) tH p hTj (vr 1 (R := RV) rfl) (ev_gs g.gEND)))).now fun H2 u2 => ?_
  obtain ⟨G2, p2, x2⟩ := p.keep u2
  have t2 := u2.tb tH
  have xx := x.trans x2
  have u0x := u0A.trans xx
  by_cases qE : whatOf tj.tok = "the end"
  · rw [decide_eq_true qE, if_neg (show ¬ (!true) = true by decide)]
    rw [if_pos (tokEq_last.mpr ((what_end tj.tok).mp qE))] at hlaw
    refine wb_ret (T := T) (R := RV) (x := .ref t) (vr 2 rfl) fun v H3 u3 e => ?_
    cases e
    obtain ⟨G3', p3', x3'⟩ := p2.keep u3
    have pm : (rdO c r dx l j ++ [(l2, HO.lst rv), (l3', HO.lst qv)]).Perm ([(l2, HO.lst rv), (l3', HO.lst qv)] ++ rdO c r dx l j) := List.perm_append_comm
    have lp := p3'.lay.perm pm
    have eH : H3 = ov [(l2, .lst rv), (l3', .lst qv)] (ov (rdO c r dx l j) G3') := by
      rw [p3'.h, ov_perm p3'.lay.nd pm, ov_app]
    have xo := ov_xt (T := T) lp.app
    refine hok _ hlaw H3 _ t dt l2 l3' rv qv eH lp.left (u0x.trans (x3'.trans xo)) htn ⟨⟨.ref l1, ?_, ?_⟩, ?_, ?_⟩
    · exact (xx.trans (x3'.trans xo)).ex _ _ gtA nt_ins
    · exact Mono.mono (xx.trans (x3'.trans xo)) hcA
    · exact har.mono (x2.trans (x3'.trans xo))
    · exact haq.mono (x2.trans (x3'.trans xo))
  · rw [decide_eq_false qE, if_pos (show (!false) = true from rfl)]
    rw [if_neg (fun z => qE ((what_end tj.tok).mpr (tokEq_last.mp z)))] at hlaw
    refine wb_if (T := T) (et_val (ev_ishere dI hr (by decide) t2 p2 hTj (vr 1 (R := RV) rfl) ev_str)) (fun k H3 u3 => ?_) fun k H3 u3 => ?_
    · have k := of_decide_eq_true k
      rw [if_pos k] at hlaw
      obtain ⟨G3', p3', x3'⟩ := p2.keep u3
      have x03 := xx.trans x3'
      refine wb_expr (X := CxE P w K mg base Nread "read_table" s_read f cdv A outer s H E) ?_
      refine we_callE takeE (fun _ _ _ _ h => h) dR hr (by decide) (((ea_cons (T := T) (R := RV) (x := .ref r) (vr 1 rfl) (ea_cons (R := RV) (x := .ref t) (vr 2 rfl) ea_nil))) _ (Xt.refl _) _ fun vs H4 u4 ⟨v, r1, k1, k2, u', r', k3, k4, k5⟩ => ?_)
      subst k1 k3 k5
      cases k2
      cases k4
      obtain ⟨G4', p4', x4'⟩ := p3'.keep u4
      have x04 := x03.trans x4'
      refine ⟨u4.tb (u3.tb t2), _, G4', r, dx, l, ws, toks, j, tj, t, dt, l2, .ref l1, .ref l3', rv, cs, rfl, p4', hTj, k, x04.ex _ _ gtA nt_ins, Mono.mono x04 hcA, hcs4, fun hlt => ⟨fun row l' erow H5 G5 v j' hl' hj' x5 p5 hrow => ?_, fun f ef => FE.up (her f ?_) (u0A.trans x04)⟩, fun hge => FE.up (her _ ?_) (u0A.trans x04)⟩
      · subst hl'
        rw [if_neg (show ¬ 16 ≤ rows.length by rw [← har.length]; omega)] at hlaw
        have erow : rowRes cs.length (toks.drop (j + 1)) = .ok (row, toks.drop j') := erow
        rw [show (rowRes (Vamvsa.Table.cols ⟨cs, rows, asks⟩).length (toks.drop (j + 1))) = .ok (row, toks.drop j') from erow] at hlaw
        have lt5 := p5.lt
        have lt2 := p2.lt
        refine wb_nil (wb_nil ⟨toks.length - j', by omega, n', rows ++ [row], asks, rv ++ [v], qv, G5, j', rfl, by omega, rfl, x04.trans x5, ?_, p5, (har.mono (x2.trans (x3'.trans (x4'.trans x5)))).snoc hrow, haq.mono (x2.trans (x3'.trans (x4'.trans x5))), hlaw⟩)
        exact p4'.go p5 x5 (u4.tb (u3.tb t2))
      · rw [hlaw, if_neg (show ¬ 16 ≤ rows.length by rw [← har.length]; omega)]
        show (rowRes cs.length _).bind _ = _
        rw [ef]
        rfl
      · rw [hlaw, if_pos (show 16 ≤ rows.length by rw [← har.length]; omega)]
    · have k := of_decide_eq_false k
      rw [if_neg k] at hlaw
      obtain ⟨G3', p3', x3'⟩ := p2.keep u3
      have x03 := xx.trans x3'
      have t3' := u3.tb t2
      refine wb_expr (X := CxE P w K mg base Nread "read_table" s_read f cdv A outer s H E) ?_
      refine we_needP (T := T) (c := c) (E' := E) (k := decide (whatOf tj.tok = "ask")) (code := 3) takeE (fun _ _ _ _ h => h) dN hr (by decide) t3' p3' hTj ?_ ?_ ?_ (fun k2 H4 G4 x4 p4 => ?_) fun k2 => FE.up (her ⟨3, tj.place⟩ ?_) (u0A.trans x03)
      · exact vr 1 (R := RV) rfl
      · exact ev_ishere dI hr (by decide) t3' p3' hTj (vr 1 (R := RV) rfl) ev_str
      · exact Ev.to (R := RI) ev_int fun _ _ _ h => h
      rotate_left
      · rw [hlaw, if_neg (of_decide_eq_false k2)]
      have k2 := of_decide_eq_true k2
      rw [if_pos k2] at hlaw
      have t4 := p3'.go p4 x4 t3'
      refine wb_expr (X := CxE P w K mg base Nread "read_table" s_read f cdv A outer s H E) ?_
      refine we_callE takeE (fun _ _ _ _ h => h) dQ hr (by decide) (((ea_cons (T := T) (R := RV) (x := .ref r) (vr 1 rfl) (ea_cons (R := RV) (x := .ref t) (vr 2 rfl) ea_nil))) _ (Xt.refl _) _ fun vs H5 u5 ⟨v, r1, k1, k2, u', r', k3, k4, k5⟩ => ?_)
      subst k1 k3 k5
      cases k2
      cases k4
      obtain ⟨G5', p5', x5'⟩ := p4.keep u5
      have x05 := x03.trans (x4.trans x5')
      refine ⟨u5.tb t4, _, G5', r, dx, l, ws, toks, j, tj, t, dt, l3', .ref l1, .ref l2, qv, cs, rfl, p5'.swap, hTj, ‹whatOf tj.tok = "ask"›, x05.ex _ _ gtA nt_ins, Mono.mono x05 hcA, hcs4, fun hlt => ⟨fun ask l' eask H6 G6 v j' hl' hj' x6 p6 hask => ?_, fun f ef => FE.up (her f ?_) (u0A.trans x05)⟩, fun hge => FE.up (her _ ?_) (u0A.trans x05)⟩
      · subst hl'
        rw [if_neg (show ¬ 8 ≤ asks.length by rw [← haq.length]; omega)] at hlaw
        rw [show (Vamvsa.takeAsk (Vamvsa.Table.cols ⟨cs, rows, asks⟩) (toks.drop (j + 1))) = .ok (ask, toks.drop j') from eask] at hlaw
        have lt5 := p6.lt
        have lt2 := p2.lt
        refine wb_nil (wb_nil ⟨toks.length - j', by omega, n', rows, asks ++ [ask], rv, qv ++ [v], G6, j', rfl, by omega, rfl, x05.trans x6, ?_, p6.swap, har.mono (x2.trans (x3'.trans (x4.trans (x5'.trans x6)))), (haq.mono (x2.trans (x3'.trans (x4.trans (x5'.trans x6))))).snoc hask, hlaw⟩)
        exact p5'.go p6 x6 (u5.tb t4)
      · rw [hlaw, if_neg (show ¬ 8 ≤ asks.length by rw [← haq.length]; omega)]
        show (Vamvsa.takeAsk cs _).bind _ = _
        rw [ef]
        rfl
      · rw [hlaw, if_pos (show 8 ≤ asks.length by rw [← haq.length]; omega)]
end G5
/-! S1: number_bytes, listed, row_bytes, question_bytes, table_text. -/
namespace G5
open PySem PySem.Spec PyProof.Rows L2
variable {T : List NTab} {P : Program} {w : World} {K : PySem.W.Frag} {mg : Str → Option Value} {base : Heap} {c : Cs}
abbrev DCodes (T : List NTab) (P : Program) (w : World) (K : PySem.W.Frag) (mg : Str → Option Value) (base : Heap) : Prop := Df P w K mg base CX0 1 "codes" ["word"] (Sp1 T RS (RM RU) Plain8 bytesOf)
/-! ### numbers shown -/
theorem bytes_ofString (s : String) : bytesOf (Str.ofString s) = s.toList.map fun c => UInt8.ofNat c.toNat := by
  unfold bytesOf
  rw [Str.ofString_eq_toList]
  simp
theorem word_bytes (s : String) : bytesOf (Str.ofString s) = VamvsBase.word s := bytes_ofString s
theorem toString_int (i : Int) : (toString i).toList = if i < 0 then '-' :: Nat.toDigits 10 i.natAbs else Nat.toDigits 10 i.natAbs := by
  cases i with
  | ofNat m =>
    rw [if_neg (show ¬ (Int.ofNat m < 0) from Int.not_lt.mpr (Int.natCast_nonneg m))]
    show (String.ofList (Nat.toDigits 10 m)).toList = _
    rw [String.toList_ofList]
    rfl
  | negSucc m =>
    rw [if_pos (Int.negSucc_lt_zero m)]
    show ("-" ++ String.ofList (Nat.toDigits 10 (m + 1))).toList = _
    rw [String.toList_append, show (String.ofList (Nat.toDigits 10 (m + 1))).toList = Nat.toDigits 10 (m + 1) from String.toList_ofList]
    rfl
theorem show_int (i : Int) : bytesOf (Str.ofString (toString i)) = VamvsBase.showInt i := by
  rw [bytes_ofString, toString_int]
  unfold VamvsBase.showInt VamvsBase.showNat
  by_cases h : i < 0
  · rw [if_pos h, if_pos h]; rfl
  · rw [if_neg h, if_neg h]
theorem plain_digits {n : Nat} : ∀ c ∈ Nat.toDigits 10 n, c.toNat < 256 := fun c hc => by
  have h := Nat.isDigit_of_mem_toDigits (by decide) (by decide) hc
  unfold Char.isDigit at h
  simp only [Bool.and_eq_true, decide_eq_true_eq] at h
  have h2 : c.val ≤ 57 := h.2
  have : c.val.toNat ≤ 57 := h2
  show c.val.toNat < 256
  omega
theorem plain_int (i : Int) (h : i.natAbs < 10 ^ 10) : Plain8 (Str.ofString (toString i)) ∧ (VamvsBase.showInt i).length ≤ 11 := by
  have hl : (Nat.toDigits 10 i.natAbs).length ≤ 10 := (Nat.length_toDigits_le_iff (by decide) (by decide)).mpr h
  have hs : ∀ c ∈ (toString i).toList, c.toNat < 256 := by
    rw [toString_int]
    intro c hc
    by_cases q : i < 0
    · rw [if_pos q] at hc
      rcases List.mem_cons.mp hc with z | z
      · rw [z]; decide
      · exact plain_digits c z
    · rw [if_neg q] at hc; exact plain_digits c hc
  have hlen : (toString i).toList.length ≤ 11 := by
    rw [toString_int]
    by_cases q : i < 0
    · rw [if_pos q, List.length_cons]; omega
    · rw [if_neg q]; omega
  refine ⟨⟨?_, ?_⟩, ?_⟩
  · rw [Str.ofString_eq_toList]
    simp only [List.length_map]
    omega
  · rw [Str.ofString_eq_toList]
    simp only [List.mem_map]
    rintro d ⟨e, he, rfl⟩
    exact hs e he
  · rw [← show_int, bytes_ofString, List.length_map]
    exact hlen
theorem log2_small {n : Nat} (h : n < 10 ^ 10) : n.log2 < 1920 := by
  rcases Nat.eq_zero_or_pos n with z | z
  · rw [z]; decide
  · exact (Nat.log2_lt (by omega)).mpr (Nat.lt_of_lt_of_le h (by decide))
section
variable {X : Cx} {a : Expr} {σ : L2.St} {H : Hp} {p pos : Pos}
theorem ev_strI {i : Int} (hm : X.mg "str" = none) (hv : bootBuiltins "str" = some (.type "str")) (ha : Ev T X RI a σ H i) (hi : i.natAbs < 10 ^ 10) (hg : Gl X "str" := by rfl) (he : starEach (a :: []) X.env = (false, eval a X.env) :: starEach [] X.env := by rfl) (hpl : (backTo pos (starEach [] X.env)).any (·.1) = false := by rfl) :
    Ev T X RS (.Call (.Name "str" p) [a] [] pos) σ H (Str.ofString (toString i)) := ev_t1 call_str_int hm hv ha (fun H1 v e r Q q => ⟨i, by rw [show v = V.int i from r], log2_small hi, q _ H1 (Xt.refl _) rfl⟩) hg (by decide) (by decide) he hpl
end
abbrev s_numb : Stmt := top 75
theorem sc_numb : FnScope ["number"] ["number"] (defScope s_numb) := ⟨rfl, rfl, rfl, by decide +kernel, rfl, by decide +kernel, by decide +kernel⟩
abbrev DNumb (T : List NTab) (P : Program) (w : World) (K : PySem.W.Frag) (mg : Str → Option Value) (base : Heap) : Prop := Df P w K mg base CX0 2 "number_bytes" ["number"] (Sp1 T RI (RM RU) (fun i => i.natAbs < 10 ^ 10) VamvsBase.showInt)
theorem ok_numb {f : Addr} {fd : FuncData} (g : Gf K mg c) (dC : DCodes T P w K mg base) (F : Fun K "number_bytes" "number_bytes" s_numb f fd) (hm : mg "number_bytes" = some (.ref f)) (b : Binds K fd ["number"] []) : DNumb T P w K mg base := by
  refine ok1 F hm b sc_numb fun cdv A outer s H E Q v1 i hr ht h1 hg hq => ?_
  refine wb_ret (T := T) (R := RM RU) (x := VamvsBase.showInt i) ?_ hq
  rw [← show_int]
  exact ev_c1 dC hr (by decide) ht (ev_strI g.str (by decide +kernel) (vr 0 h1) hg) (plain_int i hg).1
/-! ### listed -/
section
variable {X : Cx} {it : Expr} {bs sts : List Stmt} {σ : L2.St} {H : Hp} {D : Ends} {n m : Str} {p p1 p2 ep epos pos : Pos} {kk : Nat}
/-- for n, m in enumerate(a list) -/
theorem wb_forEn (j j2 : Nat) (hp : PO X) (hc : X.calm = true) (hN : X.N.Nodup) (hm : X.mg "enumerate" = none)
    (hit : We X it σ H fun v H1 => ∃ (l : Addr) (vs : List V) (W : Nat → L2.St → Hp → Prop), v = .ref l ∧ W 0 σ H1 ∧ (∀ i σ' H', i ≤ vs.length → W i σ' H' → SqL X.K H' l vs) ∧
      (∀ i v σ' H' t, vs[i]? = some v → W i σ' H' → H' t = none → Wb X bs { D with nx := W (i + 1), ct := W (i + 1), bk := fun σ' H' => Wb X sts D σ' H' } ((σ'.set j (some (.int (i : Int)))).set j2 (some v)) (upd H' t (.tup [.int (i : Int), v]))) ∧ ∀ σ' H', W vs.length σ' H' → Wb X sts D σ' H')
    (hg : Gl X "enumerate" := by rfl) (hi : X.N[j]? = some n := by rfl) (hx : Loc X.env.scope n := by first | exact .inl rfl | exact .inr rfl) (hf : X.fn n = true ∨ X.env.scope.names.lookup n = some .local := by exact .inl rfl)
    (hi2 : X.N[j2]? = some m := by rfl) (hx2 : Loc X.env.scope m := by first | exact .inl rfl | exact .inr rfl) (hf2 : X.fn m = true ∨ X.env.scope.names.lookup m = some .local := by exact .inl rfl) (hs : ∀ x, foldedSetIterable (.Call (.Name "enumerate" ep) [it] [] epos) X.env x = pure x := by intro _; rfl)
    (hn : (assignEach [.Name n p1, .Name m p2] X.env).length = 2 := by rfl) (hst : (assignEach [.Name n p1, .Name m p2] X.env).findIdx? (·.1) = none := by rfl) (g1 : (assignEach (.Name n p1 :: [.Name m p2]) X.env).map (·.2) = assign (.Name n p1) X.env :: (assignEach [.Name m p2] X.env).map (·.2) := by rfl)
    (g2 : (assignEach (.Name m p2 :: []) X.env).map (·.2) = assign (.Name m p2) X.env :: (assignEach [] X.env).map (·.2) := by rfl)
    (q5 : starEach [it] X.env = [(false, eval it X.env)] := by rfl) (q6 : starEach (it :: []) X.env = (false, eval it X.env) :: starEach [] X.env := by rfl) :
    Wb X (.For (.Tuple [.Name n p1, .Name m p2] kk p) (.Call (.Name "enumerate" ep) [it] [] epos) bs [] pos :: sts) D σ H :=
  wb_cons (Ws.of (ps_for hp hc (pi_enum hg hm wa q5) (pg_tup hc (pgs_cons (pg_name hN hi hx hf) (pgs_cons (pg_name hN hi2 hx2 hf2) pgs_nil g2) g1) hn hst) wb hs) (Wa.of (pa_cons we pa_nil q6) (hit.imp fun v H1 ⟨l, vs, W, e, h0, hl, turn, done⟩ => ⟨l, vs, by rw [e], hl 0 σ H1 (Nat.zero_le _) h0,
    for_it walk_enum W h0 hl (fun i x σ' H' H'' hi w ⟨t, a, b, ex, et, eh, ea, eb⟩ => by
      cases ea
      subst ex eh
      exact ⟨t, [.int (i : Int), b], rfl, SqT.of upd_same, rfl, _, [b], rfl, b, [], rfl, rfl, turn i b σ' H' t eb w et⟩) done⟩)))
end
abbrev s_listed : Stmt := top 76
def Nlisted : List Str := ["words", "found", "place", "word"]
theorem sc_listed : FnScope Nlisted ["words"] (defScope s_listed) := ⟨rfl, rfl, rfl, by decide +kernel, rfl, by decide +kernel, by decide +kernel⟩
theorem joined_snoc (sep : List UInt8) : ∀ (l : List (List UInt8)) (x : List UInt8), VamvsBase.joined sep (l ++ [x]) = if l = [] then x else VamvsBase.joined sep l ++ sep ++ x
  | [], x => rfl
  | [a], x => by
    rw [if_neg (by simp)]
    rfl
  | a :: b :: r, x => by
    rw [if_neg (by simp)]
    show a ++ sep ++ VamvsBase.joined sep ((b :: r) ++ [x]) = (a ++ sep ++ VamvsBase.joined sep (b :: r)) ++ sep ++ x
    rw [joined_snoc sep (b :: r) x, if_neg (by simp)]
    simp [List.append_assoc]
theorem joined_len (sep : List UInt8) (M : Nat) : ∀ (l : List (List UInt8)), (∀ x ∈ l, x.length ≤ M) → (VamvsBase.joined sep l).length ≤ l.length * (M + sep.length)
  | [], _ => Nat.zero_le _
  | [a], h => by
    have := h a List.mem_cons_self
    show a.length ≤ 1 * (M + sep.length)
    omega
  | a :: b :: r, h => by
    have h1 := h a List.mem_cons_self
    have h2 := joined_len sep M (b :: r) fun x hx => h x (List.mem_cons_of_mem _ hx)
    show (a ++ sep ++ VamvsBase.joined sep (b :: r)).length ≤ (b :: r).length.succ * (M + sep.length)
    rw [List.length_append, List.length_append, Nat.succ_mul]
    omega
abbrev DListed (T : List NTab) (P : Program) (w : World) (K : PySem.W.Frag) (mg : Str → Option Value) (base : Heap) : Prop := Df P w K mg base CX0 2 "listed" ["words"] (Sp1 T (RL K (RM RU)) (RM RU) (fun ws => ws.length ≤ 64 ∧ ∀ x ∈ ws, x.length ≤ 1000) Vamvsa.commas)
theorem plain_lit (s : String) (h : s.toList.all (fun c => decide (c.toNat < 256)) = true ∧ s.toList.length ≤ 1000000) : Plain8 (Str.ofString s) := by
  refine ⟨?_, ?_⟩
  · rw [Str.ofString_eq_toList]; simp only [List.length_map]; exact h.2
  · rw [Str.ofString_eq_toList]
    simp only [List.mem_map]
    rintro d ⟨e, he, rfl⟩
    exact of_decide_eq_true (List.all_eq_true.mp h.1 e he)
theorem ok_listed {f : Addr} {fd : FuncData} (g : Gf K mg c) (dC : DCodes T P w K mg base) (F : Fun K "listed" "listed" s_listed f fd) (hm : mg "listed" = some (.ref f)) (b : Binds K fd ["words"] []) : DListed T P w K mg base := by
  refine ok1 F hm b sc_listed fun cdv A outer s H E Q v1 words hr ht h1 hg hq => ?_
  refine wb_setN (T := T) (R := RU) (xs := []) 1 (evn_list es_nil) (fun l G vs u1 hG ra => ?_) sc_listed.nd
  cases ra
  obtain ⟨a, vs, rfl, h2, h3⟩ := h1
  refine wb_forEn 2 3 PassesOwn.never rfl sc_listed.nd g.enum (we_var (i := 0) rfl ⟨a, vs, fun i σ' H' => ∃ (G' : Hp) (ws : List V) (o1 o2 : Option V), σ' = [some (.ref a), some (.ref l), o1, o2] ∧ H' = upd G' l (.lst ws) ∧ G' l = none ∧ Xt T H G' ∧ All2 (RU G') ws (Vamvsa.commas (words.take i)), rfl, ⟨G, [], none, none, rfl, rfl, hG, u1, .nil⟩, fun i σ' H' _ ⟨G', ws, _, _, _, e, e2, e3, _⟩ => by
    subst e
    exact ((e3.trans (Xt.new e2)).seqL h2), fun i v σ' H' t hv w htn => ?_, fun σ' H' w => ?_⟩)
  · obtain ⟨G', ws, o1, o2, rfl, rfl, hl, u, hws⟩ := w
    obtain ⟨x, hx, hrx⟩ := h3.getL hv
    have hi : i < words.length := (List.getElem?_eq_some_iff.mp hx).1
    have hcl : (Vamvsa.commas (words.take i)).length ≤ 64 * 1002 := by
      refine Nat.le_trans (joined_len _ 1000 _ fun y hy => hg.2 y (List.mem_of_mem_take hy)) ?_
      exact Nat.mul_le_mul (by rw [List.length_take]; omega) (by decide)
    have htl : t ≠ l := fun z => by rw [z, upd_same] at htn; cases htn
    have htG : G' t = none := by rw [upd_ne htl] at htn; exact htn
    rw [upd_swap htl.symm]
    have x1 : Xt T G' (upd G' t (.tup [.int (i : Int), v])) := Xt.new htG
    have hl1 : upd G' t (.tup [.int (i : Int), v]) l = none := by rw [upd_ne htl.symm]; exact hl
    have hv1 : RM RU (upd G' t (.tup [.int (i : Int), v])) v x := Mono.mono (u.trans x1) hrx
    have wordIn : ∀ (D : Ends) (G2 : Hp) (ws2 : List V) (pre : List UInt8), (∀ σ2 H2, (∃ (G' : Hp) (ws : List V) (o1 o2 : Option V), σ2 = [some (.ref a), some (.ref l), o1, o2] ∧ H2 = upd G' l (.lst ws) ∧ G' l = none ∧ Xt T H G' ∧ All2 (RU G') ws (Vamvsa.commas (words.take (i + 1)))) → D.nx σ2 H2) → Xt T (upd G' t (.tup [.int (i : Int), v])) G2 → G2 l = none → All2 (RU G2) ws2 pre → pre.length ≤ 64 * 1002 + 2 → Vamvsa.commas (words.take (i + 1)) = pre ++ x →
        Wb (C0 P w K mg base Nlisted "listed" s_listed f cdv A outer s H E) ((suite (stm s_listed 1)).drop 1) D [some (.ref a), some (.ref l), some (.int (i : Int)), some v] (upd G2 l (.lst ws2)) := fun D G2 ws2 pre hD x2 hl2 hpre hlen he => by
      refine wb_expr (X := C0 P w K mg base Nlisted "listed" s_listed f cdv A outer s H E) ?_
      refine we_extendH (T := T) (R := RU) (xs := x) (fun Q H' q => we_var (i := 1) rfl q) hl2 ?_ (by rw [hpre.length]; have := hg.2 x (List.mem_of_getElem? hx); omega) fun us G3 u3 hl3 hus => wb_nil (hD _ _ ⟨G3, _, _, _, rfl, rfl, hl3, u.trans (x1.trans (x2.trans u3)), ?_⟩)
      · exact vr 3 (Mono.mono x2 hv1)
      · rw [he]
        exact (hpre.mono u3).append hus
    have hsn : Vamvsa.commas (words.take (i + 1)) = if words.take i = [] then x else Vamvsa.commas (words.take i) ++ VamvsBase.word ", " ++ x := by
      rw [take_snoc hx]
      exact joined_snoc _ _ _
    have hte : (words.take i = []) ↔ i = 0 := by
      constructor
      · intro z
        have := congrArg List.length z
        rw [List.length_take, List.length_nil] at this
        omega
      · intro z; rw [z]; rfl
    refine wb_cons (Ws.of (ps_if wt wb wb) (Wt.hide hl1 ((EvT.is (et_cmp (T := T) (x := (i : Int)) (y := (0 : Int)) cmp_gt (vr 2 (R := RI) rfl) ev_int) (k' := decide (0 < i)) (decide_eq_decide.mpr ⟨fun h => by omega, fun h => by omega⟩)).now fun G2 u2 hl2 => ?_)))
    by_cases h0 : 0 < i
    · rw [if_pos (decide_eq_true h0)]
      refine wb_expr (X := C0 P w K mg base Nlisted "listed" s_listed f cdv A outer s H E) ?_
      refine we_extendH (T := T) (R := RU) (xs := VamvsBase.word ", ") (fun Q H' q => we_var (i := 1) rfl q) hl2 ?_ (by rw [(hws.mono (x1.trans u2)).length]; show _ + 2 ≤ _; omega) fun us G3 u3 hl3 hus => wb_nil (wordIn _ G3 _ (Vamvsa.commas (words.take i) ++ VamvsBase.word ", ") (fun _ _ h => h) (u2.trans u3) hl3 ?_ (by rw [List.length_append]; show _ + 2 ≤ _; omega) ?_)
      · exact Ev.is (ev_c1 dC hr (by decide) ((u.trans (x1.trans u2)).tb ht) ev_str (plain_lit ", " (by decide +kernel))) (word_bytes ", ")
      · exact (hws.mono (x1.trans (u2.trans u3))).append hus
      · rw [hsn, if_neg (fun z => by rw [hte.mp z] at h0; omega)]
    · rw [if_neg (by rw [decide_eq_false h0]; decide)]
      have h0 : i = 0 := by omega
      refine wb_nil (wordIn _ G2 ws [] (fun _ _ h => h) u2 hl2 ?_ (Nat.zero_le _) ?_)
      · have e : Vamvsa.commas (words.take i) = [] := by rw [hte.mpr h0]; rfl
        rw [e] at hws
        exact hws.mono (x1.trans u2)
      · rw [hsn, if_pos (hte.mpr h0)]; rfl
  · obtain ⟨G', ws, o1, o2, rfl, rfl, hl, u, hws⟩ := w
    rw [h3.length, List.take_length] at hws
    exact wb_ret (T := T) (R := RM RU) (x := Vamvsa.commas words) (vr 1 ⟨l, ws, rfl, upd_same, hws.mono (Xt.new (T := T) hl)⟩) fun v' H3 u3 r => hq v' H3 (u.trans ((Xt.new hl).trans u3)) r
end G5
/-! S2: row_bytes, question_bytes, table_text. -/
namespace G5
open PySem PySem.Spec PyProof.Rows L2
variable {T : List NTab} {P : Program} {w : World} {K : PySem.W.Frag} {mg : Str → Option Value} {base : Heap} {c : Cs}
section
variable {X : Cx} {σ : L2.St} {H : Hp} {α β : Type} {R : Rp α} {S : Rp β} [Mono T R] [Mono T S] {scope : Scope} {elt it : Expr} {n : Str} {p pos : Pos} {j : Nat} {xs : List α} {x0 : α → β}
/-- [elt for n in a tuple] -/
theorem lx_lcT (hc : X.calm = true) (hN : X.N.Nodup) (hit : Ev T X (RTs X.K R) it σ H xs) (hz : xs.length ≤ 1000000) (ok : BlkOk X.N X.env.scope scope [(n, j)])
    (hg : ∀ (s : Shared) (H : Hp) (C : Addr) (cl : List (Str × Addr)) (fp : List Addr), PG (X.blk s H scope (compEnvC scope cl C X.env) fp) (.Name n p) (gName j))
    (he : ∀ (i : Nat) v x G, xs[i]? = some x → Xt T H G → R G v x → BEv T X scope S elt ((wipe σ [j]).set j (some v)) G (x0 x)) (hw : ∀ v, wipe ((wipe σ [j]).set j (some v)) [j] = wipe σ [j] := by intros; rfl) (hs : ∀ x, foldedSetIterable it X.env x = pure x := by intro _; rfl) :
    LcEv T X S (.ListComp elt [⟨.Name n p, it, [], 0⟩] scope pos) σ H (xs.map x0) := fun H1 e1 Q q =>
  lx (own := [(n, j)]) (pi_tup we) ok hg (fun _ _ _ _ _ => pts_nil) be_pe hs (hit H1 e1 _ fun v0 H2 e2 ⟨a, vs, h1, h2, h3⟩ => ⟨a, h1, ⟨vs, h2⟩, fun D hD =>
    lc_tup (K := X.K) (a := a) (xs := vs) (LcP T S H2 D xs (fun _ => true) x0) (LcP.zero hD) (fun i H' _ w => w.ext.seqT h2) (fun i v H' hi w => by
      obtain ⟨x, hx, hr⟩ := h3.getL hi
      exact ⟨hw v, lc_turn (tt := tYes) hx hz w (fun G us Q e3 hG k => k G (Xt.refl _) hG) fun G e3 _ => he i v x G hx ((e1.trans e2).trans e3) (Mono.mono e3 hr)⟩) fun H' w => by
      rw [h3.length] at w
      have z := w.fin
      rw [List.filter_eq_self.mpr (fun _ _ => rfl)] at z
      exact q _ H' (e2.trans z.1) z.2⟩)
end
abbrev s_rowb : Stmt := top 77
def Nrowb : List Str := ["line", "found", "values_told", "summed", "one"]
theorem sc_rowb : FnScope Nrowb ["line"] (defScope s_rowb) := ⟨rfl, rfl, rfl, by decide +kernel, rfl, by decide +kernel, by decide +kernel⟩
abbrev RowOk (r : Vamvsa.Row) : Prop := r.vs.length ≤ 4 ∧ (∀ v ∈ r.vs, v ≤ 9) ∧ -1000 ≤ r.m ∧ r.m ≤ 1000
abbrev DRowb (T : List NTab) (P : Program) (w : World) (K : PySem.W.Frag) (mg : Str → Option Value) (base : Heap) : Prop := Df P w K mg base CX0 3 "row_bytes" ["line"] (Sp1 T (RRow K) (RM RU) RowOk Vamvsa.showRow)
theorem show_nat (n : Nat) : VamvsBase.showInt (n : Int) = VamvsBase.showNat n := by
  unfold VamvsBase.showInt
  rw [if_neg (by omega), Int.natAbs_natCast]
theorem commas_len {l : List (List UInt8)} {M : Nat} (h : ∀ x ∈ l, x.length ≤ M) : (Vamvsa.commas l).length ≤ l.length * (M + 2) := joined_len _ M l h
theorem row_law (r : Vamvsa.Row) : (((VamvsBase.word "row " ++ Vamvsa.commas (r.vs.map fun (n : Nat) => VamvsBase.showInt (n : Int))) ++ VamvsBase.word " : ") ++ VamvsBase.showInt r.m ++ VamvsBase.word " ;") ++ [10] = Vamvsa.showRow r := by
  unfold Vamvsa.showRow Vamvsa.line
  rw [show (r.vs.map fun (n : Nat) => VamvsBase.showInt (n : Int)) = r.vs.map VamvsBase.showNat from List.map_congr_left fun n _ => show_nat n]
  simp only [List.append_assoc]
theorem row_len {r : Vamvsa.Row} (h : RowOk r) : (Vamvsa.showRow r).length ≤ 100 := by
  rw [← row_law]
  have h1 : (Vamvsa.commas (r.vs.map fun (n : Nat) => VamvsBase.showInt (n : Int))).length ≤ 4 * 13 := by
    refine Nat.le_trans (commas_len (M := 11) fun x hx => ?_) ?_
    · obtain ⟨n, hn, rfl⟩ := List.mem_map.mp hx
      have := h.2.1 n hn
      exact (plain_int _ (by omega)).2
    · rw [List.length_map]
      exact Nat.mul_le_mul_right _ h.1
  have h2 := (plain_int r.m (by have := h.2.2; omega)).2
  simp only [List.length_append]
  have e1 : (VamvsBase.word "row ").length = 4 := by decide +kernel
  have e2 : (VamvsBase.word " : ").length = 3 := by decide +kernel
  have e3 : (VamvsBase.word " ;").length = 2 := by decide +kernel
  rw [e1, e2, e3, List.length_singleton]
  omega
theorem ok_rowb {f : Addr} {fd : FuncData} (g : Gf K mg c) (dC : DCodes T P w K mg base) (dN : DNumb T P w K mg base) (dL : DListed T P w K mg base) (F : Fun K "row_bytes" "row_bytes" s_rowb f fd) (hm : mg "row_bytes" = some (.ref f)) (b : Binds K fd ["line"] []) : DRowb T P w K mg base := by
  refine ok1 F hm b sc_rowb fun cdv A outer s H E Q v1 r hr ht h1 hg hq => ?_
  obtain ⟨t, w1, w2, rfl, hsq, r1, r2⟩ := h1
  have r1 : RTs K RN H w1 r.vs := r1
  cases r2
  refine wb_cons (ws_asg2 2 3 rfl sc_rowb.nd (we_var (i := 0) rfl ⟨t, w1, .int r.m, rfl, hsq, ?_⟩))
  have hcm : ∀ x ∈ (r.vs.map fun (n : Nat) => VamvsBase.showInt (n : Int)), x.length ≤ 11 := fun x hx => by
    obtain ⟨n, hn, rfl⟩ := List.mem_map.mp hx
    have := hg.2.1 n hn
    exact (plain_int _ (by omega)).2
  have hcl := commas_len hcm
  rw [List.length_map] at hcl
  have hcl : (Vamvsa.commas (r.vs.map fun (n : Nat) => VamvsBase.showInt (n : Int))).length ≤ 52 := Nat.le_trans hcl (Nat.mul_le_mul_right _ hg.1)
  have e1 : (VamvsBase.word "row ").length = 4 := by decide +kernel
  have e2 : (VamvsBase.word " : ").length = 3 := by decide +kernel
  have e3 : (VamvsBase.word " ;").length = 2 := by decide +kernel
  have hil := (plain_int r.m (by have := hg.2.2; omega)).2
  refine wb_set (T := T) (R := RM RU) (x := VamvsBase.word "row " ++ Vamvsa.commas (r.vs.map fun (n : Nat) => VamvsBase.showInt (n : Int))) 1 ?_ (fun vf H1 u1 rf => ?_) sc_rowb.nd
  · refine ev_cat (Ev.is (ev_c1 dC hr (by decide) ht ev_str (plain_lit "row " (by decide +kernel))) (word_bytes "row ")) ?_ (by omega)
    refine ev_c1 (x1 := r.vs.map fun (n : Nat) => VamvsBase.showInt (n : Int)) dL hr (by decide) ht (Ev.to (R := RM (RM RU)) ?_ fun _ _ _ h => h.rl) ⟨by rw [List.length_map]; have := hg.1; omega, fun x hx => by have := hcm x hx; omega⟩
    refine LcEv.ev (lx_lcT (T := T) (R := RN) (S := RM RU) (xs := r.vs) (j := 4) (x0 := fun (n : Nat) => VamvsBase.showInt (n : Int)) rfl sc_rowb.nd (vr 2 r1) (by have := hg.1; omega) (blkOk_by (N := Nrowb) (sc := defScope s_rowb) (by decide +kernel))
      (fun _ _ _ _ _ => pg_name sc_rowb.nd rfl (Or.inl rfl)) (fun k v y G3 hy u3 hv3 => ?_)) rfl sc_rowb.nd
    intro s0 H0 C cl fp
    have := hg.2.1 y (List.mem_of_getElem? hy)
    exact ev_c1 dN hr (by decide) (u3.tb ht) (vr 4 (R := RI) hv3) (by omega)
  · refine wb_ret (T := T) (R := RM RU) (x := Vamvsa.showRow r) ?_ fun v' H2 u2 r => hq v' H2 (u1.trans u2) r
    rw [← row_law]
    refine ev_cat (ev_cat (ev_cat (ev_cat ?_ ?_ ?_) ?_ ?_) ?_ ?_) ?_ ?_
    · exact vr 1 rf
    · exact Ev.is (ev_c1 dC hr (by decide) (u1.tb ht) ev_str (plain_lit " : " (by decide +kernel))) (word_bytes " : ")
    · simp only [List.length_append]; omega
    · exact ev_c1 dN hr (by decide) (u1.tb ht) (vr 3 (R := RI) rfl) (by have := hg.2.2; omega)
    · simp only [List.length_append]; omega
    · exact Ev.is (ev_c1 dC hr (by decide) (u1.tb ht) ev_str (plain_lit " ;" (by decide +kernel))) (word_bytes " ;")
    · simp only [List.length_append]; omega
    · exact ev_list (es_cons (Ev.to (ev_gi g.gLINE) fun _ _ _ h => h) es_nil)
    · simp only [List.length_append, List.length_singleton]; omega
/-! ### question_bytes -/
def namesOf (cs : List (List UInt8)) (g : Nat) : List (List UInt8) := ((zipN cs).filter fun p => bitI g p.1).map (·.2)
theorem names_eq (cs : List (List UInt8)) (g : Nat) : namesOf cs g = (Vamvsa.columnsOf cs.length g).map fun i => cs.getD i [] := by
  unfold namesOf zipN Vamvsa.columnsOf
  rw [zip_range_getD [] cs, List.filter_map, List.map_map]
  congr 1
  apply List.filter_congr
  intro i _
  exact bitI_eq g i
theorem names_nil {n g : Nat} (hn : n ≤ 4) (hg : g < 2 ^ n) : Vamvsa.columnsOf n g = [] ↔ g = 0 := by
  have h : ((List.range 5).all fun n => (List.range (2 ^ n)).all fun g => decide (Vamvsa.columnsOf n g = []) == decide (g = 0)) = true := by decide +kernel
  have h2 := eq_of_beq (List.all_eq_true.mp (List.all_eq_true.mp h n (List.mem_range.mpr (by omega))) g (List.mem_range.mpr hg))
  exact decide_eq_decide.mp h2
abbrev AskOk (cs : List (List UInt8)) (a : Vamvsa.Ask) : Prop := cs.length ≤ 4 ∧ (∀ c ∈ cs, c.length ≤ 16) ∧ a.g < 2 ^ cs.length ∧ 1 ≤ a.k ∧ a.k ≤ 99
def askB (cs : List (List UInt8)) (a : Vamvsa.Ask) : List UInt8 := (((VamvsBase.word "ask " ++ Vamvsa.commas (namesOf cs a.g)) ++ (if (!decide (namesOf cs a.g = [])) = true then VamvsBase.word " " else [])) ++ (if 1 < a.k then (VamvsBase.word "times " ++ VamvsBase.showInt (a.k : Int)) ++ VamvsBase.word " " else []) ++ VamvsBase.word ";") ++ [10]
theorem ask_law2 {cs : List (List UInt8)} {a : Vamvsa.Ask} (h : AskOk cs a) : askB cs a = Vamvsa.showAsk cs a := by
  unfold askB Vamvsa.showAsk Vamvsa.line
  have e1 : VamvsBase.word "ask " = VamvsBase.word "ask" ++ [32] := by decide +kernel
  have e2 : VamvsBase.word " times " = [32] ++ VamvsBase.word "times " := by decide +kernel
  have e3 : VamvsBase.word " ;" = [32] ++ VamvsBase.word ";" := by decide +kernel
  have e4 : VamvsBase.word " " = [32] := by decide +kernel
  have hn : namesOf cs a.g = [] ↔ a.g = 0 := by
    rw [names_eq]
    rw [← names_nil h.1 h.2.2.1]
    exact List.map_eq_nil_iff
  rw [e1, e2, e3, e4, show_nat]
  by_cases q : a.g = 0
  · have hq := hn.mpr q
    rw [if_pos q, hq, if_neg (by simp)]
    have e5 : Vamvsa.commas [] = [] := rfl
    rw [e5]
    by_cases z : 1 < a.k
    · rw [if_pos z, if_neg (by omega)]
      simp only [List.append_assoc, List.nil_append, List.append_nil]
    · rw [if_neg z, if_pos (by omega)]
      simp only [List.append_assoc, List.nil_append, List.append_nil]
  · rw [if_neg q, if_pos (by rw [decide_eq_false (fun z => q (hn.mp z))]; rfl), ← names_eq]
    by_cases z : 1 < a.k
    · rw [if_pos z, if_neg (by omega)]
      simp only [List.append_assoc]
    · rw [if_neg z, if_pos (by omega)]
      simp only [List.append_assoc, List.nil_append, List.append_nil]
theorem names_len {cs : List (List UInt8)} {g : Nat} : (namesOf cs g).length ≤ cs.length := by
  unfold namesOf
  rw [List.length_map]
  refine Nat.le_trans (List.length_filter_le _ _) ?_
  rw [zipN_len]
  exact Nat.le_refl _
theorem names_mem {cs : List (List UInt8)} {g : Nat} {x : List UInt8} (h : x ∈ namesOf cs g) : x ∈ cs := by
  unfold namesOf zipN at h
  obtain ⟨p, hp, rfl⟩ := List.mem_map.mp h
  exact (List.of_mem_zip (List.mem_filter.mp hp).1).2
theorem ask_len {cs : List (List UInt8)} {a : Vamvsa.Ask} (h : AskOk cs a) : (Vamvsa.commas (namesOf cs a.g)).length ≤ 72 ∧ (askB cs a).length ≤ 200 := by
  have h1 : (Vamvsa.commas (namesOf cs a.g)).length ≤ 72 := by
    refine Nat.le_trans (commas_len (M := 16) fun x hx => h.2.1 x (names_mem hx)) ?_
    have := names_len (cs := cs) (g := a.g)
    have := h.1
    omega
  refine ⟨h1, ?_⟩
  have h2 := (plain_int (a.k : Int) (by have := h.2.2.2.2; omega)).2
  have e1 : (VamvsBase.word "ask ").length = 4 := by decide +kernel
  have e2 : (VamvsBase.word "times ").length = 6 := by decide +kernel
  have e3 : (VamvsBase.word " ").length = 1 := by decide +kernel
  have e4 : (VamvsBase.word ";").length = 1 := by decide +kernel
  unfold askB
  simp only [List.length_append, List.length_singleton, e1, e4]
  have s1 : (if (!decide (namesOf cs a.g = [])) = true then VamvsBase.word " " else []).length ≤ 1 := by split <;> first | exact Nat.le_of_eq e3 | exact Nat.zero_le _
  have s2 : (if 1 < a.k then (VamvsBase.word "times " ++ VamvsBase.showInt (a.k : Int)) ++ VamvsBase.word " " else []).length ≤ 18 := by
    split
    · simp only [List.length_append, e2, e3]; omega
    · exact Nat.zero_le _
  omega
abbrev s_queb : Stmt := top 78
def Nqueb : List Str := ["table", "question", "names", "found", "grouping", "times", "place", "name"]
theorem sc_queb : FnScope Nqueb ["table", "question"] (defScope s_queb) := ⟨rfl, rfl, rfl, by decide +kernel, rfl, by decide +kernel, by decide +kernel⟩
abbrev DQueb (T : List NTab) (P : Program) (w : World) (K : PySem.W.Frag) (mg : Str → Option Value) (base : Heap) (c : Cs) : Prop := Df P w K mg base CX0 3 "question_bytes" ["table", "question"] (Sp2 T (RTab K c) (RAsk K) (RM RU) (fun t a => AskOk t.cols a) fun t a => askB t.cols a)
theorem ok_queb {f : Addr} {fd : FuncData} (g : Gf K mg c) (dC : DCodes T P w K mg base) (dN : DNumb T P w K mg base) (dL : DListed T P w K mg base) (F : Fun K "question_bytes" "question_bytes" s_queb f fd) (hm : mg "question_bytes" = some (.ref f)) (b : Binds K fd ["table", "question"] []) : DQueb T P w K mg base c := by
  refine ok2 F hm b sc_queb fun cdv A outer s H E Q v1 v2 t a hr ht h1 h2 hg hq => ?_
  obtain ⟨tp, w1, w2, rfl, hsq, r1, r2⟩ := h2
  cases r1
  cases r2
  refine wb_cons (ws_asg2 4 5 rfl sc_queb.nd (we_var (i := 1) rfl ⟨tp, .int (a.g : Int), .int (a.k : Int), rfl, hsq, ?_⟩))
  obtain ⟨hcl, hal⟩ := ask_len hg
  have e1 : (VamvsBase.word "ask ").length = 4 := by decide +kernel
  have e2 : (VamvsBase.word "times ").length = 6 := by decide +kernel
  have e3 : (VamvsBase.word " ").length = 1 := by decide +kernel
  have e4 : (VamvsBase.word ";").length = 1 := by decide +kernel
  have hil := (plain_int (a.k : Int) (by have := hg.2.2.2.2; omega)).2
  have s1 : (if (!decide (namesOf t.cols a.g = [])) = true then VamvsBase.word " " else []).length ≤ 1 := by split <;> first | exact Nat.le_of_eq e3 | exact Nat.zero_le _
  refine wb_setLc (T := T) 2 (lx_lcEL (T := T) (R := RM RU) (S := RM RU) (j := 6) (j2 := 7) (xs := t.cols) (pr := fun p => bitI a.g p.1) (g := fun p => p.2) rfl sc_queb.nd g.enum (ev_fld (S := RTab K c) (R := RL K (RM RU)) (vr 0 h1) fun H1 v u r => r.cols g) (by have := hg.1; omega) (blkOk_by (N := Nqueb) (sc := defScope s_queb) (by decide +kernel))
    (fun _ _ _ _ _ => pg_name sc_queb.nd rfl (Or.inl rfl)) (fun _ _ _ _ _ => pg_name sc_queb.nd rfl (Or.inl rfl)) (fun i v x G hx u hv => ?_) (fun i v x G hx u hv hp => ?_)) rfl sc_queb.nd (fun vn H1 u1 rn => ?_)
  · intro s0 H0 C cl fp
    exact et_cmp cmp_eq (ev_and (ev_shr (by omega) (vr (T := T) 4 (R := RI) rfl) (vr (T := T) 6 (R := RI) rfl)) ev_int) ev_int
  · intro s0 H0 C cl fp
    exact vr (T := T) 7 hv
  have rn : RM (RM RU) H1 vn (namesOf t.cols a.g) := rn
  have hnl := names_len (cs := t.cols) (g := a.g)
  refine wb_set (T := T) (R := RM RU) (x := (VamvsBase.word "ask " ++ Vamvsa.commas (namesOf t.cols a.g)) ++ (if (!decide (namesOf t.cols a.g = [])) = true then VamvsBase.word " " else [])) 3 ?_ (fun vf H2 u2 rf => ?_) sc_queb.nd
  · refine ev_cat (ev_cat (Ev.is (ev_c1 dC hr (by decide) (u1.tb ht) ev_str (plain_lit "ask " (by decide +kernel))) (word_bytes "ask ")) ?_ ?_) ?_ ?_
    · exact ev_c1 dL hr (by decide) (u1.tb ht) (vr 2 rn.rl) ⟨by have := hg.1; omega, fun x hx => by have := hg.2.1 x (names_mem hx); omega⟩
    · omega
    · refine ev_if (et_cmp (y := ([] : List (List UInt8))) (cmp_neBs0 (u64 hr)) (vr 2 rn.rl) (Ev.to (R := RM (RM RU)) (ev_list es_nil) fun _ _ _ h => h.rl)) (fun k => ?_) fun k => ?_
      · rw [if_pos k]
        exact Ev.is (ev_c1 dC hr (by decide) (u1.tb ht) ev_str (plain_lit " " (by decide +kernel))) (word_bytes " ")
      · rw [if_neg (by rw [k]; decide)]
        exact ev_list es_nil
    · simp only [List.length_append]; omega
  have u12 := u1.trans u2
  have fin : ∀ (D : Ends) (H3 : Hp) (vf3 : V), D.rt = Q → Xt T H H3 → RM RU H3 vf3 (((VamvsBase.word "ask " ++ Vamvsa.commas (namesOf t.cols a.g)) ++ (if (!decide (namesOf t.cols a.g = [])) = true then VamvsBase.word " " else [])) ++ (if 1 < a.k then (VamvsBase.word "times " ++ VamvsBase.showInt (a.k : Int)) ++ VamvsBase.word " " else [])) →
      Wb (C0 P w K mg base Nqueb "question_bytes" s_queb f cdv A outer s H E) ((defBody s_queb).drop 4) D [some v1, some (.ref tp), some vn, some vf3, some (.int (a.g : Int)), some (.int (a.k : Int)), none, none] H3 := fun D H3 vf3 hD u3 r3 => by
    have hlen := hal
    unfold askB at hlen
    simp only [List.length_append, List.length_singleton] at hlen
    refine wb_ret (T := T) (R := RM RU) (x := askB t.cols a) ?_ fun v' H4 u4 r => by rw [hD]; exact hq v' H4 (u3.trans u4) r
    unfold askB
    refine ev_cat (ev_cat ?_ ?_ ?_) ?_ ?_
    · exact vr 3 r3
    · exact Ev.is (ev_c1 dC hr (by decide) (u3.tb ht) ev_str (plain_lit ";" (by decide +kernel))) (word_bytes ";")
    · simp only [List.length_append]; omega
    · exact ev_list (es_cons (Ev.to (ev_gi g.gLINE) fun _ _ _ h => h) es_nil)
    · simp only [List.length_append, List.length_singleton]; omega
  refine wb_if (T := T) (k := decide (1 < a.k)) (EvT.is (et_cmp (x := (a.k : Int)) (y := (1 : Int)) cmp_gt (vr 5 (R := RI) rfl) ev_int) (decide_eq_decide.mpr ⟨fun h => by omega, fun h => by omega⟩)) (fun kk H3 u3 => ?_) fun kk H3 u3 => wb_nil ?_
  · have kk := of_decide_eq_true kk
    refine wb_set (T := T) (R := RM RU) (x := ((((VamvsBase.word "ask " ++ Vamvsa.commas (namesOf t.cols a.g)) ++ (if (!decide (namesOf t.cols a.g = [])) = true then VamvsBase.word " " else [])) ++ VamvsBase.word "times ") ++ VamvsBase.showInt (a.k : Int)) ++ VamvsBase.word " ") 3 ?_ (fun vg H4 u4 rg => wb_nil (fin _ H4 vg rfl (u12.trans (u3.trans u4)) ?_)) sc_queb.nd
    · refine ev_cat (ev_cat (ev_cat ?_ ?_ ?_) ?_ ?_) ?_ ?_
      · exact vr 3 (Mono.mono u3 rf)
      · exact Ev.is (ev_c1 dC hr (by decide) ((u12.trans u3).tb ht) ev_str (plain_lit "times " (by decide +kernel))) (word_bytes "times ")
      · simp only [List.length_append]; omega
      · exact ev_c1 dN hr (by decide) ((u12.trans u3).tb ht) (vr 5 (R := RI) rfl) (by have := hg.2.2.2.2; omega)
      · simp only [List.length_append]; omega
      · exact Ev.is (ev_c1 dC hr (by decide) ((u12.trans u3).tb ht) ev_str (plain_lit " " (by decide +kernel))) (word_bytes " ")
      · simp only [List.length_append]; omega
    · rw [if_pos kk]
      simp only [List.append_assoc] at rg ⊢
      exact rg
  · have kk := of_decide_eq_false kk
    refine fin _ H3 vf rfl (u12.trans u3) ?_
    rw [if_neg kk, List.append_nil]
    exact Mono.mono u3 rf
/-! ### table_text -/
abbrev s_text : Stmt := top 79
def Ntext : List Str := ["table", "found", "line", "question"]
theorem sc_text : FnScope Ntext ["table"] (defScope s_text) := ⟨rfl, rfl, rfl, by decide +kernel, rfl, by decide +kernel, by decide +kernel⟩
theorem flat_len {α : Type} (f : α → List UInt8) (M : Nat) : ∀ l : List α, (∀ x ∈ l, (f x).length ≤ M) → (l.flatMap f).length ≤ l.length * M
  | [], _ => Nat.zero_le _
  | a :: r, h => by
    have h1 := h a List.mem_cons_self
    have h2 := flat_len f M r fun x hx => h x (List.mem_cons_of_mem _ hx)
    rw [List.flatMap_cons, List.length_append, List.length_cons, Nat.succ_mul]
    omega
theorem flat_snoc {α : Type} (f : α → List UInt8) {l : List α} {i : Nat} {x : α} (h : l[i]? = some x) : (l.take (i + 1)).flatMap f = (l.take i).flatMap f ++ f x := by
  rw [take_snoc h, List.flatMap_append, List.flatMap_cons, List.flatMap_nil, List.append_nil]
theorem ok_text {f : Addr} {fd : FuncData} (g : Gf K mg c) (dC : DCodes T P w K mg base) (dL : DListed T P w K mg base) (dR : DRowb T P w K mg base) (dQ : DQueb T P w K mg base c) (F : Fun K "table_text" "table_text" s_text f fd) (hm : mg "table_text" = some (.ref f)) (b : Binds K fd ["table"] []) :
    Df P w K mg base CX0 4 "table_text" ["table"] (Sp1 T (RTab K c) (RM RU) Good Vamvsa.shown) := by
  refine ok1 F hm b sc_text fun cdv A outer s H E Q v1 t hr ht h1 hg hq => ?_
  have e1 : (VamvsBase.word "columns ").length = 8 := by decide +kernel
  have e2 : (VamvsBase.word " ;").length = 2 := by decide +kernel
  have hcl : (Vamvsa.commas t.cols).length ≤ 72 := by
    refine Nat.le_trans (commas_len (M := 16) hg.names) ?_
    have := hg.cols
    omega
  have hhead : (((VamvsBase.word "columns " ++ Vamvsa.commas t.cols) ++ VamvsBase.word " ;") ++ [10]).length ≤ 100 := by
    simp only [List.length_append, List.length_singleton, e1, e2]; omega
  have hrow : ∀ r ∈ t.rows, RowOk r := fun r hr => ⟨by have := (hg.vals r hr).1; have := hg.cols; omega, (hg.vals r hr).2⟩
  have hask : ∀ a ∈ t.asks, AskOk t.cols a := fun a ha => ⟨hg.cols, hg.names, hg.asked a ha⟩
  have hrl : ∀ i, ((t.rows.take i).flatMap Vamvsa.showRow).length ≤ 16 * 100 := fun i => by
    refine Nat.le_trans (flat_len _ 100 _ fun x hx => row_len (hrow x (List.mem_of_mem_take hx))) ?_
    have := hg.rows
    exact Nat.mul_le_mul_right _ (by rw [List.length_take]; omega)
  have hal : ∀ i, ((t.asks.take i).flatMap (askB t.cols)).length ≤ 8 * 200 := fun i => by
    refine Nat.le_trans (flat_len _ 200 _ fun x hx => (ask_len (hask x (List.mem_of_mem_take hx))).2) ?_
    have := hg.asks
    exact Nat.mul_le_mul_right _ (by rw [List.length_take]; omega)
  refine wb_setN (T := T) (R := RU) (xs := ((VamvsBase.word "columns " ++ Vamvsa.commas t.cols) ++ VamvsBase.word " ;") ++ [10]) 1 ?_ (fun l G vs u1 hG hvs => ?_) sc_text.nd
  · refine evn_cat (ev_cat (ev_cat ?_ ?_ ?_) ?_ ?_) ?_ ?_
    · exact Ev.is (ev_c1 dC hr (by decide) ht ev_str (plain_lit "columns " (by decide +kernel))) (word_bytes "columns ")
    · exact ev_c1 dL hr (by decide) ht (ev_fld (S := RTab K c) (R := RL K (RM RU)) (vr 0 h1) fun H1 v u r => r.cols g) ⟨by have := hg.cols; omega, fun x hx => by have := hg.names x hx; omega⟩
    · omega
    · exact Ev.is (ev_c1 dC hr (by decide) ht ev_str (plain_lit " ;" (by decide +kernel))) (word_bytes " ;")
    · simp only [List.length_append]; omega
    · exact ev_list (es_cons (Ev.to (ev_gi g.gLINE) fun _ _ _ h => h) es_nil)
    · simp only [List.length_append, List.length_singleton]; omega
  refine wb_forG 2 PassesOwn.never rfl sc_text.nd (We.hide hG (Ev.now (T := T) (R := RL K (RRow K)) (x := t.rows) (ev_fld (S := RTab K c) (R := RL K (RRow K)) (vr 0 (Mono.mono u1 h1)) fun H1 v u r => r.lines g) fun v G2 u2 ⟨p, ps, e, hp, h3⟩ hn => ?_))
  refine ⟨p, ps, fun i σ' H' => ∃ G' ws, Xt T G2 G' ∧ G' l = none ∧ H' = upd G' l (.lst ws) ∧ All2 (RU G') ws ((((VamvsBase.word "columns " ++ Vamvsa.commas t.cols) ++ VamvsBase.word " ;") ++ [10]) ++ (t.rows.take i).flatMap Vamvsa.showRow) ∧ ∃ o1, σ' = [some v1, some (.ref l), o1, none], e, ⟨G2, vs, Xt.refl _, hn, rfl, ?_, none, rfl⟩, fun i σ' H' _ ⟨G', ws, k1, k2, k3, _⟩ => by
    subst k3
    exact ((k1.trans (Xt.new k2)).seqL hp), fun i v σ' H' hv w => ?_, fun σ' H' w => ?_⟩
  · rw [List.take_zero, List.flatMap_nil, List.append_nil]
    exact hvs.mono u2
  · obtain ⟨G', ws, k1, k2, rfl, k4, o1, rfl⟩ := w
    obtain ⟨x, hx, hrx⟩ := h3.getL hv
    have hxm := List.mem_of_getElem? hx
    have uG := u1.trans (u2.trans k1)
    refine wb_expr (X := C0 P w K mg base Ntext "table_text" s_text f cdv A outer s H E) ?_
    refine we_extendH (T := T) (R := RU) (xs := Vamvsa.showRow x) (fun Q H' q => we_var (i := 1) rfl q) k2 ?_ (by rw [k4.length, List.length_append]; have := hrl i; have := row_len (hrow x hxm); omega) fun us G3 u3 hl3 hus => wb_nil ⟨G3, _, k1.trans u3, hl3, rfl, ?_, _, rfl⟩
    · exact ev_c1 dR hr (by decide) (uG.tb ht) (vr 2 (R := RRow K) (Mono.mono k1 hrx)) (hrow x hxm)
    · rw [flat_snoc _ hx, ← List.append_assoc]
      exact (k4.mono u3).append hus
  · obtain ⟨G', ws, k1, k2, rfl, k4, o1, rfl⟩ := w
    rw [h3.length, List.take_length] at k4
    have uG := u1.trans (u2.trans k1)
    refine wb_forG 3 PassesOwn.never rfl sc_text.nd (We.hide k2 (Ev.now (T := T) (R := RL K (RAsk K)) (x := t.asks) (ev_fld (S := RTab K c) (R := RL K (RAsk K)) (vr 0 (Mono.mono uG h1)) fun H1 v u r => r.asks g) fun v G4 u4 ⟨p, ps, e, hp, h5⟩ hn => ?_))
    refine ⟨p, ps, fun i σ' H' => ∃ G' ws, Xt T G4 G' ∧ G' l = none ∧ H' = upd G' l (.lst ws) ∧ All2 (RU G') ws (((((VamvsBase.word "columns " ++ Vamvsa.commas t.cols) ++ VamvsBase.word " ;") ++ [10]) ++ t.rows.flatMap Vamvsa.showRow) ++ (t.asks.take i).flatMap (askB t.cols)) ∧ ∃ o2, σ' = [some v1, some (.ref l), o1, o2], e, ⟨G4, ws, Xt.refl _, hn, rfl, ?_, none, rfl⟩, fun i σ' H' _ ⟨G', ws, k1, k2, k3, _⟩ => by
      subst k3
      exact ((k1.trans (Xt.new k2)).seqL hp), fun i v σ' H' hv w => ?_, fun σ' H' w => ?_⟩
    · rw [List.take_zero, List.flatMap_nil, List.append_nil]
      exact k4.mono u4
    · obtain ⟨G5, ws5, k1', k2', rfl, k4', o2, rfl⟩ := w
      obtain ⟨x, hx, hrx⟩ := h5.getL hv
      have hxm := List.mem_of_getElem? hx
      have uG5 := uG.trans (u4.trans k1')
      refine wb_expr (X := C0 P w K mg base Ntext "table_text" s_text f cdv A outer s H E) ?_
      refine we_extendH (T := T) (R := RU) (xs := askB t.cols x) (fun Q H' q => we_var (i := 1) rfl q) k2' ?_ (by
        have h9 := hrl t.rows.length
        rw [List.take_length] at h9
        rw [k4'.length, List.length_append, List.length_append]; have := hal i; have := (ask_len (hask x hxm)).2; omega) fun us G3 u3 hl3 hus => wb_nil ⟨G3, _, k1'.trans u3, hl3, rfl, ?_, _, rfl⟩
      · exact ev_c2 dQ hr (by decide) (uG5.tb ht) (vr 0 (Mono.mono uG5 h1)) (vr 3 (R := RAsk K) (Mono.mono k1' hrx)) (hask x hxm)
      · rw [flat_snoc _ hx, ← List.append_assoc]
        exact (k4'.mono u3).append hus
    · obtain ⟨G5, ws5, k1', k2', rfl, k4', o2, rfl⟩ := w
      rw [h5.length, List.take_length] at k4'
      refine wb_ret (T := T) (R := RM RU) (x := Vamvsa.shown t) (vr 1 ⟨l, ws5, rfl, upd_same, ?_⟩) fun v' H3 u3 r => hq v' H3 (uG.trans (u4.trans (k1'.trans ((Xt.new k2').trans u3)))) r
      have e9 : Vamvsa.shown t = (((VamvsBase.word "columns " ++ Vamvsa.commas t.cols) ++ VamvsBase.word " ;") ++ [10] ++ t.rows.flatMap Vamvsa.showRow) ++ t.asks.flatMap (askB t.cols) := by
        unfold Vamvsa.shown Vamvsa.line
        have e10 : t.asks.flatMap (askB t.cols) = t.asks.flatMap (Vamvsa.showAsk t.cols) := by
          rw [List.flatMap_def, List.flatMap_def, List.map_congr_left fun a ha => ask_law2 (hask a ha)]
        rw [e10]
        simp only [List.append_assoc]
      rw [e9]
      exact k4'.mono (Xt.new (T := T) k2')
end G5
/-! R1: Refused, Stock, Holder made; ask_so, state_told, kept_told, questions_told. -/
namespace G5
open PySem PySem.Spec PyProof.Rows L2
variable {T : List NTab} {P : Program} {w : World} {K : PySem.W.Frag} {mg : Str → Option Value} {base : Heap} {c : Cs}
abbrev s_refinit : Stmt := clsSt (top 90) 0
def Nrefinit : List Str := ["self", "number"]
theorem sc_refinit : FnScope Nrefinit Nrefinit (defScope s_refinit) := ⟨rfl, rfl, rfl, by decide +kernel, rfl, by decide +kernel, by decide +kernel⟩
def refFs : List V → List (Str × V)
  | [x] => [("number", x)]
  | _ => []
abbrev MkRef (P : Program) (w : World) (K : PySem.W.Frag) (mg : Str → Option Value) (base : Heap) (c : Cs) : Prop := MkX P w K mg base 1 "Refused" c.refused 1 Nrefinit refFs
theorem mk_refused {f : Addr} {fd : FuncData} (g : Gf K mg c) (F : Fun K "__init__" "Refused.__init__" s_refinit f fd) (iC : PySem.W.findIn K (.ref c.refused) "__init__" = some (some (.ref f))) (tI : PySem.W.typeIn K (.ref f) = some (.type "function")) (b : Binds K fd Nrefinit []) : MkRef P w K mg base c := by
  refine ⟨f, fd, g.refusedAt, g.refusedC, iC, tI, b, F.ok sc_refinit (fun vs H Q E h => ?_) fun cdv A outer s H vs Q E hr h => ⟨_, wb, ?_⟩⟩
  · obtain ⟨a, G, us, rfl, hus, _⟩ := h
    rw [List.length_cons, hus]
    rfl
  obtain ⟨a, G, us, rfl, hus, hG, rfl, hq⟩ := h
  obtain ⟨x, rfl⟩ : ∃ x, us = [x] := by
    match us, hus with
    | [x], _ => exact ⟨x, rfl⟩
  refine wb_veinit g.verr g.veinit g.refusedC (fun Q q => we_var (i := 0) rfl q) upd_same ?_
  refine wb_ost1 (v := x) g.refusedC (g.refusedNo _ (by decide)) (fun Q q => we_var (i := 1) rfl q) (fun Q q => we_var (i := 0) rfl q) upd_same fun d hd ne => wb_nil ?_
  have hdG : G d = none := by rw [upd_ne ne] at hd; exact hd
  refine hq _ d ne hdG upd_same (by rw [upd_ne ne]; exact upd_same) fun b nb nd => ?_
  rw [upd_ne nb, upd_ne nd, upd_ne nb]
/-- what is told of a refusal that leaves a def; B what was known at its entry -/
def RE (T : List NTab) (c : Cs) (E : XK) (B : Hp) (n : Int) : Prop := ∀ d H', Xt T B H' → H' d = some (.xd (refFs [.int n])) → E (.ref c.refused) (some d) H'
theorem RE.up {E : XK} {B B' : Hp} {n : Int} (h : RE T c E B n) (u : Xt T B B') : RE T c E B' n := fun d H' u2 hd => h d H' (u.trans u2) hd
/-! ### ask_so -/
abbrev s_askso : Stmt := top 92
theorem sc_askso : FnScope ["holds", "number"] ["holds", "number"] (defScope s_askso) := ⟨rfl, rfl, rfl, by decide +kernel, rfl, by decide +kernel, by decide +kernel⟩
def SpSo (T : List NTab) (c : Cs) : Sp := fun vs H Q E => Tb T H ∧ ∃ k n, vs = [.bl k, .int n] ∧ (k = true → ∀ H', Xt T H H' → Q .non H') ∧ (k = false → RE T c E H n)
abbrev DSo (T : List NTab) (P : Program) (w : World) (K : PySem.W.Frag) (mg : Str → Option Value) (base : Heap) (c : Cs) : Prop := Df P w K mg base (L2.CX P w) 3 "ask_so" ["holds", "number"] (SpSo T c)
theorem ok_askso {f : Addr} {fd : FuncData} (g : Gf K mg c) (MR : MkRef P w K mg base c) (F : Fun K "ask_so" "ask_so" s_askso f fd) (hm : mg "ask_so" = some (.ref f)) (b : Binds K fd ["holds", "number"] []) : DSo T P w K mg base c := by
  refine okE F hm b sc_askso (fun vs H Q E h => by obtain ⟨_, k, n, rfl, _⟩ := h; rfl) fun cdv A outer s H vs Q E hr h => ?_
  obtain ⟨ht, k, n, rfl, hok, her⟩ := h
  refine wb_if (T := T) (et_not (et_val (vr 0 (R := RB) rfl))) (fun kk H1 u1 => ?_) fun kk H1 u1 => wb_nil (wb_nil (hok (by simpa using kk) H1 u1))
  have e : k = false := by simpa using kk
  refine wb_raise (T := T) rfl takeE MR hr (by decide) (by decide) ((ea_cons (T := T) (R := RI) (x := n) (vr 1 rfl) ea_nil) H1 (Xt.refl _) _ fun vs H2 u2 ⟨v, r, k1, k2, k3⟩ => ?_)
  subst k1 k3
  cases k2
  exact ⟨rfl, fun d H' u3 hd => her e d H' (u1.trans (u2.trans u3)) hd⟩
section
variable {X : Cx} {e1 e2 : Expr} {σ : L2.St} {H : Hp} {j : Nat} {pos p : Pos} {Q : VK} {E' : XK} {W : WX} {k : Bool} {n : Int}
/-- ask_so(holds, number) -/
theorem we_so (tk : Takes X W) (hW : ∀ cls d σ H, E' cls d H → W cls d σ H) (F : DSo T X.prog X.w X.K X.mg X.base c) (hr : Room j X.A) (hk : 3 ≤ j) (ht : Tb T H) (h1 : Ev T X RB e1 σ H k) (h2 : Ev T X RI e2 σ H n)
    (hok : k = true → ∀ H', Xt T H H' → Q .non H') (her : k = false → RE T c E' H n) (hg : Gl X "ask_so" := by rfl) (he : starEach (e1 :: [e2]) X.env = (false, eval e1 X.env) :: starEach [e2] X.env := by rfl) (he2 : starEach (e2 :: []) X.env = (false, eval e2 X.env) :: starEach [] X.env := by rfl) (hpl : (backTo pos (starEach [e2] X.env)).any (·.1) = false := by rfl) :
    We X (.Call (.Name "ask_so" p) [e1, e2] [] pos) σ H Q :=
  we_callE tk hW F hr hk ((ea_cons h1 (ea_cons h2 ea_nil he2) he) H (Xt.refl _) _ fun vs H2 u2 ⟨v, r, k1, k2, u, r', k3, k4, k5⟩ => by
    subst k1 k3 k5
    cases k2
    cases k4
    exact ⟨u2.tb ht, k, n, rfl, fun e H' u => hok e H' (u2.trans u), fun e => (her e).up u2⟩) hg (by decide) he hpl
end
/-! ### Stock, Holder -/
abbrev s_stkinit : Stmt := clsSt (top 3) 0
def postStk : List V → Hp → Hp → List (Str × V) → Prop := fun us G G2 fs => ∃ a l, us = [a] ∧ G l = none ∧ G2 = upd G l (.lst []) ∧ fs = [(("table" : Str), a), (("kept" : Str), .ref l), (("room" : Str), .int 1000), (("changes" : Str), .int 0)]
theorem sc_stkinit : FnScope ["self", "table"] ["self", "table"] (defScope s_stkinit) := ⟨rfl, rfl, rfl, by decide +kernel, rfl, by decide +kernel, by decide +kernel⟩
abbrev MkStk (P : Program) (w : World) (K : PySem.W.Frag) (mg : Str → Option Value) (base : Heap) (c : Cs) : Prop := Mkd P w K mg base CX0 1 "Stock" c.stock ["self", "table"] (SpI c.stock 1 postStk)
section
variable {X : Cx} {o e : Expr} {sts : List Stmt} {D : Ends} {σ : L2.St} {G H : Hp} {r dx C : Addr} {fs : List (Str × V)} {f : Str} {p p' pos : Pos} {v : V}
/-- self.f = e, e told outright -/
theorem wb_fldX (he : ∀ Q : VK, Q v H → We X e σ H Q) (ho : ∀ (Q : VK) H', Q (.ref r) H' → We X o σ H' Q) (hr : H r = some (.ins C dx fs)) (hcl : Cls X.K C) (hno : NoAttr X.K C f) (hl : fs.length < 1000)
    (q : Wb X sts D σ (upd H r (.ins C dx (putF f v fs)))) (hs : swapsWith e (some (.Attribute o f p')) pos.line X.env = pure false := by rfl) : Wb X (.Assign [.Attribute o f p'] e pos :: sts) D σ H :=
  wb_cons (Ws.of (ps_fld we we hs) (he _ (ho _ _ ⟨r, C, dx, fs, rfl, hr, hcl, hno, hl, q⟩)))
end
theorem mk_stk {f : Addr} {fd : FuncData} (g : Gf K mg c) (F : Fun K "__init__" "Stock.__init__" s_stkinit f fd) (M : Mk K c.stock f) (b : Binds K fd ["self", "table"] []) : MkStk P w K mg base c := by
  refine mk_of F g.stock.at' M b sc_stkinit rfl fun cdv A outer s H E Q x dx G us hl hr hH hx hd ne hq => ?_
  obtain ⟨a, rfl⟩ : ∃ a, us = [a] := by
    match us, hl with
    | [a], _ => exact ⟨a, rfl⟩
  refine wb_fldX (v := a) (fun Q q => we_var (i := 1) rfl q) (fun Q H' q => we_var (i := 0) rfl q) upd_same g.stock.cl (g.stock.no _ (by decide)) (by decide) ?_
  rw [upd_upd]
  refine wb_fldN hx hd ne (fun Q H' q => we_var (i := 0) rfl q) g.stock.cl (g.stock.no _ (by decide)) (show (1 : Nat) < 1000 by decide) fun l h1 n1 n1' => ?_
  refine wb_fldX (v := .int 1000) (fun Q q => We.of pe_int q) (fun Q H' q => we_var (i := 0) rfl q) upd_same g.stock.cl (g.stock.no _ (by decide)) (show (2 : Nat) < 1000 by decide) ?_
  rw [upd_upd]
  refine wb_fldX (v := .int 0) (fun Q q => We.of pe_int q) (fun Q H' q => we_var (i := 0) rfl q) upd_same g.stock.cl (g.stock.no _ (by decide)) (show (3 : Nat) < 1000 by decide) ?_
  rw [upd_upd]
  exact wb_nil (hq _ _ ⟨a, l, rfl, h1, rfl, rfl⟩ (by rw [upd_ne n1.symm]; exact hx) (by rw [upd_ne n1'.symm]; exact hd))
abbrev s_holdinit : Stmt := clsSt (top 91) 0
def postHold : List V → Hp → Hp → List (Str × V) → Prop := fun us G G2 fs => us = [] ∧ ∃ l, G l = none ∧ G2 = upd G l (.lst []) ∧ fs = [(("stock" : Str), .non), (("held" : Str), .ref l)]
theorem sc_holdinit : FnScope ["self"] ["self"] (defScope s_holdinit) := ⟨rfl, rfl, rfl, by decide +kernel, rfl, by decide +kernel, by decide +kernel⟩
abbrev MkHold (P : Program) (w : World) (K : PySem.W.Frag) (mg : Str → Option Value) (base : Heap) (c : Cs) : Prop := Mkd P w K mg base CX0 1 "Holder" c.holder ["self"] (SpI c.holder 0 postHold)
theorem mk_hold {f : Addr} {fd : FuncData} (g : Gf K mg c) (F : Fun K "__init__" "Holder.__init__" s_holdinit f fd) (M : Mk K c.holder f) (b : Binds K fd ["self"] []) : MkHold P w K mg base c := by
  refine mk_of F g.holder.at' M b sc_holdinit rfl fun cdv A outer s H E Q x dx G us hl hr hH hx hd ne hq => ?_
  cases us with
  | cons a r => cases hl
  | nil =>
    refine wb_fldX (v := .non) (fun Q q => We.of pe_non q) (fun Q H' q => we_var (i := 0) rfl q) upd_same g.holder.cl (g.holder.no _ (by decide)) (by decide) ?_
    rw [upd_upd]
    refine wb_fldN hx hd ne (fun Q H' q => we_var (i := 0) rfl q) g.holder.cl (g.holder.no _ (by decide)) (show (1 : Nat) < 1000 by decide) fun l h1 n1 n1' => ?_
    exact wb_nil (hq _ _ ⟨rfl, l, h1, rfl, rfl⟩ (by rw [upd_ne n1.symm]; exact hx) (by rw [upd_ne n1'.symm]; exact hd))
/-! ### what is told of a stock -/
abbrev DSizes (T : List NTab) (P : Program) (w : World) (K : PySem.W.Frag) (mg : Str → Option Value) (base : Heap) (c : Cs) : Prop := Df P w K mg base CX0 3 "all_sizes" ["table"] (Sp1 T (RTab K c) (RM RN) Good szs)
abbrev DPaid (T : List NTab) (P : Program) (w : World) (K : PySem.W.Frag) (mg : Str → Option Value) (base : Heap) (c : Cs) : Prop := Df P w K mg base CX0 7 "paid_for" ["stock", "sizes", "kept"] (Sp3 T (RNow K c) (RL K RN) (RL K RN) RN (fun n ss ks => GoodN n ∧ ss.length ≤ 16) paid1)
abbrev DLines (T : List NTab) (P : Program) (w : World) (K : PySem.W.Frag) (mg : Str → Option Value) (base : Heap) : Prop := Df P w K mg base CX0 1 "lines_of" ["sizes", "kept"] (Sp2 T (RL K RN) (RL K RN) RN (fun ss ks => ks.length ≤ 1000 ∧ ∀ k ∈ ks, k < ss.length) lines1)
theorem szs_len {t : Vamvsa.Table} (h : Good t) : (szs t).length ≤ 16 := by
  unfold szs Vamvsa.groupings Vamvsa.width
  rw [List.length_map, List.length_range]
  exact Nat.le_trans (Nat.pow_le_pow_right (by decide) h.cols) (by decide)
theorem kept_lt {n : Vamvsz.Now} (h : GoodN n) : ∀ k ∈ n.k, k < (szs n.t).length := fun k hk => by
  have h1 := h.k.subset hk
  unfold Vamvsa.groupings at h1
  unfold szs Vamvsa.groupings
  rw [List.length_map, List.length_range]
  exact List.mem_range.mp h1
theorem nats_ints_rl {H : Hp} {v : V} {xs : List Nat} (h : RM RN H v xs) : RM RI H v (xs.map fun (n : Nat) => (n : Int)) := by
  obtain ⟨a, vs, e, h1, h2⟩ := h
  refine ⟨a, vs, e, h1, ?_⟩
  rw [all2_nats h2, nats_ints]
  exact ints_all2 _
def told1 (n : Vamvsz.Now) : List Int := [1, (paid1 n (szs n.t) n.k : Int), (lines1 (szs n.t) n.k : Int)]
abbrev s_told : Stmt := top 95
theorem sc_told : FnScope ["stock", "sizes"] ["stock"] (defScope s_told) := ⟨rfl, rfl, rfl, by decide +kernel, rfl, by decide +kernel, by decide +kernel⟩
abbrev DTold (T : List NTab) (P : Program) (w : World) (K : PySem.W.Frag) (mg : Str → Option Value) (base : Heap) (c : Cs) : Prop := Df P w K mg base CX0 8 "state_told" ["stock"] (Sp1 T (RNow K c) (RM RI) GoodN told1)
theorem ok_told {f : Addr} {fd : FuncData} (g : Gf K mg c) (dS : DSizes T P w K mg base c) (dP : DPaid T P w K mg base c) (dL : DLines T P w K mg base) (F : Fun K "state_told" "state_told" s_told f fd) (hm : mg "state_told" = some (.ref f)) (b : Binds K fd ["stock"] []) : DTold T P w K mg base c := by
  refine ok1 F hm b sc_told fun cdv A outer s H E Q v1 n hr ht h1 hg hq => ?_
  refine wb_set (T := T) (R := RM RN) (x := szs n.t) 1 (ev_c1 dS hr (by decide) ht (ev_fld (S := RNow K c) (R := RTab K c) (vr 0 h1) fun H1 v u r => r.table g) hg.t) (fun vs H1 u1 rs => ?_) sc_told.nd
  refine wb_ret (T := T) (R := RM RI) (x := told1 n) ?_ fun v' H2 u2 r => hq v' H2 (u1.trans u2) r
  have h1' := Mono.mono u1 h1
  refine ev_list (es_cons ev_int (es_cons (Ev.to (R := RN) (x := paid1 n (szs n.t) n.k) ?_ fun _ _ _ h => h) (es_cons (Ev.to (R := RN) (x := lines1 (szs n.t) n.k) ?_ fun _ _ _ h => h) es_nil))) (show (3 : Nat) ≤ 1000 by decide)
  · exact ev_c3 dP hr (by decide) (u1.tb ht) (vr 0 h1') (vr 1 rs.rl) (ev_fld (S := RNow K c) (R := RL K RN) (vr 0 h1') fun H1 v u r => r.kept g) ⟨hg, szs_len hg.t⟩
  · exact ev_c2 dL hr (by decide) (u1.tb ht) (vr 1 rs.rl) (ev_fld (S := RNow K c) (R := RL K RN) (vr 0 h1') fun H1 v u r => r.kept g) ⟨by have := hg.klen; omega, kept_lt hg⟩
end G5
/-! R2: kept_told, questions_told. -/
namespace G5
open PySem PySem.Spec PyProof.Rows L2
variable {T : List NTab} {P : Program} {w : World} {K : PySem.W.Frag} {mg : Str → Option Value} {base : Heap} {c : Cs}
abbrev DReadby (T : List NTab) (P : Program) (w : World) (K : PySem.W.Frag) (mg : Str → Option Value) (base : Heap) : Prop := Df P w K mg base CX0 4 "read_by" ["sizes", "kept", "grouping"] (Sp3 T (RL K RN) (RL K RN) RN RO (fun ss _ _ => ss.length ≤ 16) readBy)
abbrev DWorth (T : List NTab) (P : Program) (w : World) (K : PySem.W.Frag) (mg : Str → Option Value) (base : Heap) (c : Cs) : Prop := Df P w K mg base CX0 7 "worth_of" ["stock", "sizes", "grouping"] (Sp3 T (RNow K c) (RL K RN) RN RI (fun n ss _ => GoodN n ∧ ss.length ≤ 16) worth1)
abbrev DCost (T : List NTab) (P : Program) (w : World) (K : PySem.W.Frag) (mg : Str → Option Value) (base : Heap) (c : Cs) : Prop := Df P w K mg base CX0 5 "cost_of" ["table", "sizes", "kept", "grouping"] (Sp4 T (RTab K c) (RL K RN) (RL K RN) RN RN pCost cost1)
def roI (o : Option Nat) : Int := match o with | none => -1 | some n => (n : Int)
def readers1 (n : Vamvsz.Now) (ss : List Nat) (g : Nat) : Nat := ((n.t.asks.map fun a => readBy ss n.k a.g).filter fun o => o == some g).length
def keptRow (n : Vamvsz.Now) (ss : List Nat) (g : Nat) : List Int := [(g : Int), (ss.getD g 0 : Int), (readers1 n ss g : Int), worth1 n ss g]
def keptT (n : Vamvsz.Now) (ss : List Nat) : List Int := (n.k.length : Int) :: n.k.flatMap (keptRow n ss)
theorem flatI_len {α : Type} (f : α → List Int) (M : Nat) : ∀ l : List α, (∀ x, (f x).length ≤ M) → (l.flatMap f).length ≤ l.length * M
  | [], _ => Nat.zero_le _
  | a :: r, h => by
    have h1 := h a
    have h2 := flatI_len f M r h
    rw [List.flatMap_cons, List.length_append, List.length_cons, Nat.succ_mul]
    omega
theorem flatI_snoc {α : Type} (f : α → List Int) {l : List α} {i : Nat} {x : α} (h : l[i]? = some x) : (l.take (i + 1)).flatMap f = (l.take i).flatMap f ++ f x := by
  rw [take_snoc h, List.flatMap_append, List.flatMap_cons, List.flatMap_nil, List.append_nil]
abbrev s_keptt : Stmt := top 106
def Nkeptt : List Str := ["stock", "sizes", "read", "found", "grouping", "readers", "own", "other"]
theorem sc_keptt : FnScope Nkeptt ["stock", "sizes"] (defScope s_keptt) := ⟨rfl, rfl, rfl, by decide +kernel, rfl, by decide +kernel, by decide +kernel⟩
abbrev DKeptt (T : List NTab) (P : Program) (w : World) (K : PySem.W.Frag) (mg : Str → Option Value) (base : Heap) (c : Cs) : Prop := Df P w K mg base CX0 8 "kept_told" ["stock", "sizes"] (Sp2 T (RNow K c) (RL K RN) (RM RI) (fun n ss => GoodN n ∧ ss.length ≤ 16 ∧ ∀ k ∈ n.k, k < ss.length) keptT)
theorem ok_keptt {f : Addr} {fd : FuncData} (g : Gf K mg c) (dR : DReadby T P w K mg base) (dW : DWorth T P w K mg base c) (F : Fun K "kept_told" "kept_told" s_keptt f fd) (hm : mg "kept_told" = some (.ref f)) (b : Binds K fd ["stock", "sizes"] []) : DKeptt T P w K mg base c := by
  refine ok2 F hm b sc_keptt fun cdv A outer s H E Q v1 v2 n ss hr ht h1 h2 hg hq => ?_
  refine wb_setLc (T := T) 2 (lx_lcP (T := T) (S := RO) (R := RN) (R2 := RN) (j := 4) (j2 := 6) (ps := n.t.asks.map fun (a : Vamvsa.Ask) => ((a.g, a.k) : Nat × Nat)) (g2 := fun p => readBy ss n.k p.1) rfl sc_keptt.nd (Ev.to (ev_fld (S := RTab K c) (R := RL K (RAsk K)) (ev_fld (S := RNow K c) (R := RTab K c) (vr 0 h1) fun H1 v u r => r.table g) fun H1 v u r => r.asks g) fun _ _ _ h => rl_asks h) (by rw [List.length_map]; have := hg.1.t.asks; omega) (blkOk_by (N := Nkeptt) (sc := defScope s_keptt) (by decide +kernel))
      (fun _ _ _ _ _ => pg_name sc_keptt.nd rfl (Or.inl rfl)) (fun _ _ _ _ _ => pg_name sc_keptt.nd rfl (Or.inl rfl)) (fun i w1 w2 x G hx u r1 r2 => ?_)) rfl sc_keptt.nd (fun vr' H1 u1 rr => ?_)
  · intro s0 H0 C cl fp
    exact ev_c3 dR hr (by decide) (u.tb ht) (vr 1 (Mono.mono u h2)) (ev_fld (S := RNow K c) (R := RL K RN) (vr 0 (Mono.mono u h1)) fun H1 v u r => r.kept g) (vr 4 (R := RN) r1) hg.2.1
  have rr : RM RO H1 vr' (n.t.asks.map fun a => readBy ss n.k a.g) := by rw [List.map_map] at rr; exact rr
  have h1' := Mono.mono u1 h1
  refine wb_set (T := T) (R := RM RI) (x := [(n.k.length : Int)]) 3 (ev_list (es_cons (ev_len g.len (ev_fld (S := RNow K c) (R := RL K RN) (vr 0 h1') fun H1 v u r => r.kept g)) es_nil)) (fun vf H2 u2 rf => ?_) sc_keptt.nd
  have u12 := u1.trans u2
  refine wb_forE (T := T) (R := RN) (xs := n.k) 4 PassesOwn.never rfl sc_keptt.nd (ev_fld (S := RNow K c) (R := RL K RN) (vr 0 (Mono.mono u12 h1)) fun H1 v u r => r.kept g)
    (fun i σ' H' => ∃ vf o1 o2, σ' = [some v1, some v2, some vr', some vf, o1, o2, none, none] ∧ RM RI H' vf ((n.k.length : Int) :: (n.k.take i).flatMap (keptRow n ss))) (fun H3 u => ⟨vf, none, none, rfl, by rw [List.take_zero]; exact Mono.mono u rf⟩) (fun i x v σ' H' u hx hv w => ?_) fun σ' H' u w => ?_
  · obtain ⟨vf, o1, o2, rfl, rf⟩ := w
    have hxm := List.mem_of_getElem? hx
    have uu := u12.trans u
    refine wb_set (T := T) (R := RI) (x := (readers1 n ss x : Int)) 5 ?_ (fun vc H3 u3 rc => ?_) sc_keptt.nd
    · refine Ev.is (x := ((((n.t.asks.map fun a => readBy ss n.k a.g).filter fun o => o == some x).map fun o => o).length : Int)) (ev_len g.len (Ev.to (R := RM RO) ?_ fun _ _ _ h => h.rl)) (by rw [List.map_id']; rfl)
      refine LcEv.ev (lx_lcI (T := T) (R := RO) (S := RO) (xs := n.t.asks.map fun a => readBy ss n.k a.g) (j := 7) (pr := fun o => o == some x) (g := fun o => o) rfl sc_keptt.nd (vr 2 (RM.rl (Mono.mono (u2.trans u) rr))) (by rw [List.length_map]; have := hg.1.t.asks; omega) (blkOk_by (N := Nkeptt) (sc := defScope s_keptt) (by decide +kernel))
        (fun _ _ _ _ _ => pg_name sc_keptt.nd rfl (Or.inl rfl)) (fun k v5 o G ho u5 hv5 => ?_) (fun k v5 o G ho u5 hv5 _ => ?_)) rfl sc_keptt.nd
      · intro s0 H0 C cl fp
        refine EvT.is (et_cmp (x := roI o) (y := (x : Int)) cmp_eq (vr (T := T) 7 (R := RI) hv5) (vr (T := T) 4 (R := RI) hv)) ?_
        cases o with
        | none => exact decide_eq_false (show ¬ (-1 : Int) = (x : Int) by omega)
        | some q =>
          show decide ((q : Int) = (x : Int)) = (some q == some x)
          rw [Bool.beq_eq_decide_eq]
          exact decide_eq_decide.mpr ⟨fun h => by rw [show q = x by omega], fun h => by rw [Option.some.inj h]⟩
      · intro s0 H0 C cl fp
        exact vr (T := T) 7 (R := RO) hv5
    · cases rc
      have hfl : ((n.k.length : Int) :: (n.k.take i).flatMap (keptRow n ss)).length ≤ 1 + 16 * 4 := by
        rw [List.length_cons]
        have := flatI_len (keptRow n ss) 4 (n.k.take i) fun _ => Nat.le_refl _
        have h9 := hg.1.klen
        rw [List.length_take] at this
        have : min i n.k.length * 4 ≤ 16 * 4 := Nat.mul_le_mul_right _ (by omega)
        omega
      have uu3 := uu.trans u3
      refine wb_set (T := T) (R := RM RI) (x := ((n.k.length : Int) :: (n.k.take i).flatMap (keptRow n ss)) ++ keptRow n ss x) 3 (ev_cat (vr 3 (Mono.mono u3 rf)) (ev_list (es_cons ?_ (es_cons ?_ (es_cons ?_ (es_cons ?_ es_nil)))) (show (4 : Nat) ≤ 1000 by decide)) (by show _ + 4 ≤ _; omega)) (fun vg H4 u4 rg => wb_nil ⟨u3.trans u4, vg, _, _, rfl, ?_⟩) sc_keptt.nd
      · exact vr 4 (R := RI) hv
      · exact Ev.to (R := RN) (ev_item (R := RN) (i := x) (l := ss) (vr 1 (Mono.mono uu3 h2)) (vr 4 (R := RI) hv) (get_getD (hg.2.2 x hxm))) fun _ _ _ h => h
      · exact vr 5 (R := RI) rfl
      · exact ev_c3 dW hr (by decide) (uu3.tb ht) (vr 0 (Mono.mono uu3 h1)) (vr 1 (Mono.mono uu3 h2)) (vr 4 (R := RN) hv) ⟨hg.1, hg.2.1⟩
      · rw [flatI_snoc _ hx]
        exact rg
  · obtain ⟨vf, o1, o2, rfl, rf⟩ := w
    rw [List.take_length] at rf
    exact wb_ret (T := T) (R := RM RI) (x := keptT n ss) (vr 3 rf) fun v' H3 u3 r => hq v' H3 (u12.trans (u.trans u3)) r
def quesRow (n : Vamvsz.Now) (ss : List Nat) (a : Nat × Nat) : List Int := [(a.1 : Int), (a.2 : Int), roI (readBy ss n.k a.1), (cost1 n.t ss n.k a.1 : Int)]
def quesT (n : Vamvsz.Now) (ss : List Nat) : List Int := (n.t.asks.length : Int) :: (n.t.asks.map fun (a : Vamvsa.Ask) => ((a.g, a.k) : Nat × Nat)).flatMap (quesRow n ss)
abbrev s_quest : Stmt := top 107
def Nquest : List Str := ["stock", "sizes", "found", "grouping", "own", "read"]
theorem sc_quest : FnScope Nquest ["stock", "sizes"] (defScope s_quest) := ⟨rfl, rfl, rfl, by decide +kernel, rfl, by decide +kernel, by decide +kernel⟩
abbrev DQuest (T : List NTab) (P : Program) (w : World) (K : PySem.W.Frag) (mg : Str → Option Value) (base : Heap) (c : Cs) : Prop := Df P w K mg base CX0 6 "questions_told" ["stock", "sizes"] (Sp2 T (RNow K c) (RL K RN) (RM RI) (fun n ss => GoodN n ∧ ss.length ≤ 16) quesT)
theorem ok_quest {f : Addr} {fd : FuncData} (g : Gf K mg c) (dR : DReadby T P w K mg base) (dC : DCost T P w K mg base c) (F : Fun K "questions_told" "questions_told" s_quest f fd) (hm : mg "questions_told" = some (.ref f)) (b : Binds K fd ["stock", "sizes"] []) : DQuest T P w K mg base c := by
  refine ok2 F hm b sc_quest fun cdv A outer s H E Q v1 v2 n ss hr ht h1 h2 hg hq => ?_
  refine wb_set (T := T) (R := RM RI) (x := [(n.t.asks.length : Int)]) 2 (ev_list (es_cons (ev_len g.len (ev_fld (S := RTab K c) (R := RL K (RAsk K)) (ev_fld (S := RNow K c) (R := RTab K c) (vr 0 h1) fun H1 v u r => r.table g) fun H1 v u r => r.asks g)) es_nil)) (fun vf H2 u2 rf => ?_) sc_quest.nd
  refine wb_forEP (T := T) (R := RN) (R2 := RN) (xs := n.t.asks.map fun (a : Vamvsa.Ask) => ((a.g, a.k) : Nat × Nat)) 3 4 PassesOwn.never rfl sc_quest.nd (Ev.to (ev_fld (S := RTab K c) (R := RL K (RAsk K)) (ev_fld (S := RNow K c) (R := RTab K c) (vr 0 (Mono.mono u2 h1)) fun H1 v u r => r.table g) fun H1 v u r => r.asks g) fun _ _ _ h => rl_asks h)
    (fun i σ' H' => ∃ vf o1 o2 o3, σ' = [some v1, some v2, some vf, o1, o2, o3] ∧ RM RI H' vf ((n.t.asks.length : Int) :: ((n.t.asks.map fun (a : Vamvsa.Ask) => ((a.g, a.k) : Nat × Nat)).take i).flatMap (quesRow n ss))) (fun H3 u => ⟨vf, none, none, none, rfl, by rw [List.take_zero]; exact Mono.mono u rf⟩) (fun i x w1 w2 σ' H' u hx hv1 hv2 w => ?_) fun σ' H' u w => ?_
  · obtain ⟨vf, o1, o2, o3, rfl, rf⟩ := w
    have uu := u2.trans u
    refine wb_set (T := T) (R := RO) (x := readBy ss n.k x.1) 5 (ev_c3 dR hr (by decide) (uu.tb ht) (vr 1 (Mono.mono uu h2)) (ev_fld (S := RNow K c) (R := RL K RN) (vr 0 (Mono.mono uu h1)) fun H1 v u r => r.kept g) (vr 3 (R := RN) hv1) hg.2) (fun vc H3 u3 rc => ?_) sc_quest.nd
    have hfl : ((n.t.asks.length : Int) :: ((n.t.asks.map fun (a : Vamvsa.Ask) => ((a.g, a.k) : Nat × Nat)).take i).flatMap (quesRow n ss)).length ≤ 1 + 8 * 4 := by
      rw [List.length_cons]
      have := flatI_len (quesRow n ss) 4 ((n.t.asks.map fun (a : Vamvsa.Ask) => ((a.g, a.k) : Nat × Nat)).take i) fun _ => Nat.le_refl _
      have h9 := hg.1.t.asks
      rw [List.length_take, List.length_map] at this
      have : min i n.t.asks.length * 4 ≤ 8 * 4 := Nat.mul_le_mul_right _ (by omega)
      omega
    have uu3 := uu.trans u3
    refine wb_set (T := T) (R := RM RI) (x := ((n.t.asks.length : Int) :: ((n.t.asks.map fun (a : Vamvsa.Ask) => ((a.g, a.k) : Nat × Nat)).take i).flatMap (quesRow n ss)) ++ quesRow n ss x) 2 (ev_cat (vr 2 (Mono.mono u3 rf)) (ev_list (es_cons ?_ (es_cons ?_ (es_cons ?_ (es_cons ?_ es_nil)))) (show (4 : Nat) ≤ 1000 by decide)) (by show _ + 4 ≤ _; omega)) (fun vg H4 u4 rg => wb_nil ⟨u3.trans u4, vg, _, _, _, rfl, ?_⟩) sc_quest.nd
    · exact vr 3 (R := RI) hv1
    · exact vr 4 (R := RI) hv2
    · exact vr 5 (R := RI) rc
    · refine Ev.to (R := RN) (x := cost1 n.t ss n.k x.1) ?_ fun _ _ _ h => h
      exact ev_c4 dC hr (by decide) (uu3.tb ht) (ev_fld (S := RNow K c) (R := RTab K c) (vr 0 (Mono.mono uu3 h1)) fun H1 v u r => r.table g) (vr 1 (Mono.mono uu3 h2)) (ev_fld (S := RNow K c) (R := RL K RN) (vr 0 (Mono.mono uu3 h1)) fun H1 v u r => r.kept g) (vr 3 (R := RN) hv1) ⟨hg.1.t.rows, hg.2⟩
    · rw [flatI_snoc _ hx]
      exact rg
  · obtain ⟨vf, o1, o2, o3, rfl, rf⟩ := w
    rw [List.take_length] at rf
    exact wb_ret (T := T) (R := RM RI) (x := quesT n ss) (vr 2 rf) fun v' H3 u3 r => hq v' H3 (u2.trans (u.trans u3)) r
end G5
/-! R3: what is held, laid over what stays; copied. -/
namespace G5
open PySem PySem.Spec PyProof.Rows L2
variable {T : List NTab} {P : Program} {w : World} {K : PySem.W.Frag} {mg : Str → Option Value} {base : Heap} {c : Cs}
/-- the same heap with fewer things taken as ours -/
theorem relay {m m' : Ov} {G : Hp} (h : Lay m G) (hs : ∀ p ∈ m', p ∈ m) (hn : (keys m').Nodup) : ∃ G', ov m G = ov m' G' ∧ Lay m' G' ∧ Xt T G G' ∧ ∀ a, a ∉ keys m' → G' a = ov m G a := by
  classical
  have hk : ∀ a ∈ keys m', a ∈ keys m := fun a ha => by
    obtain ⟨p, hp, rfl⟩ := List.mem_map.mp ha
    exact keys_mem (hs p hp)
  refine ⟨fun a => if a ∈ keys m' then none else ov m G a, ov_ext (fun a ha => (if_neg ha).symm) (fun p hp => ov_at h.nd (hs p hp)) hn, ⟨hn, fun a ha => if_pos ha, fun p hp => h.mo p (hs p hp)⟩, ⟨fun a o e n => ?_, fun t => ?_, fun a e => ?_⟩, fun a ha => if_neg ha⟩
  · have ha : a ∉ keys m := fun z => by rw [h.no a z] at e; cases e
    show (if a ∈ keys m' then none else ov m G a) = _
    rw [if_neg fun z => ha (hk a z), ov_off ha]
    exact e
  · refine tb_less (S := keys m') ((ov_xt h).tb t) (fun a ha => ?_) fun a ha => if_neg ha
    obtain ⟨p, hp, rfl⟩ := List.mem_map.mp ha
    exact ⟨p.2, ov_at h.nd (hs p hp), h.mo p (hs p hp)⟩
  · by_cases ha : a ∈ keys m'
    · exact h.no a (hk a ha)
    · have e : (if a ∈ keys m' then none else ov m G a) = none := e
      rw [if_neg ha] at e
      exact (ov_xt (T := T) h).fr a e
theorem perm6 {α : Type} (A N Hd L C Hc : List α) : (A ++ (N ++ (Hd ++ (L ++ (C ++ Hc))))).Perm (Hd ++ (A ++ (C ++ ((Hc ++ N) ++ L)))) := by
  classical
  exact List.perm_iff_count.mpr fun a => by simp only [List.count_append]; omega
/-! ### stocks -/
structure Stk where
  s : Addr
  ds : Addr
  t : Addr
  dt : Addr
  ll : Addr
  lq : Addr
  kv : V
  rv : List V
  qv : List V
  n : Vamvsz.Now
abbrev stkI (c : Cs) (x : Stk) : HO := .ins c.stock x.ds [("table", .ref x.t), ("kept", x.kv), ("room", .int (x.n.m.room : Int)), ("changes", .int (x.n.m.changes : Int))]
def Stk.cells (c : Cs) (x : Stk) : Ov := [(x.s, stkI c x), (x.ds, .own x.s), (x.ll, .lst x.rv), (x.lq, .lst x.qv)]
structure StkOk (K : PySem.W.Frag) (c : Cs) (G : Hp) (x : Stk) : Prop where
  tab : TabAt K c G x.t x.dt x.ll x.lq x.rv x.qv x.n.t
  kept : RL K RN G x.kv x.n.k
  good : GoodN x.n
theorem StkOk.mono {G G' : Hp} {x : Stk} (u : Xt T G G') (h : StkOk K c G x) : StkOk K c G' x := ⟨h.tab.mono u, Mono.mono u h.kept, h.good⟩
/-- a stock, to be read -/
theorem StkOk.now {G H : Hp} {x : Stk} (h : StkOk K c G x) (u : Xt T G H) (h1 : H x.s = some (stkI c x)) (h2 : H x.ll = some (.lst x.rv)) (h3 : H x.lq = some (.lst x.qv)) : RNow K c H (.ref x.s) x.n := by
  obtain ⟨cv, e1, e2⟩ := h.tab.ex
  exact ⟨x.s, x.ds, .ref x.t, x.kv, rfl, h1, ⟨x.t, x.dt, cv, .ref x.ll, .ref x.lq, rfl, u.ex _ _ e1 nt_ins, Mono.mono u e2, ⟨x.ll, x.rv, rfl, SqL.of h2, h.tab.rows.mono u⟩, ⟨x.lq, x.qv, rfl, SqL.of h3, h.tab.asks.mono u⟩⟩, Mono.mono u h.kept⟩
/-! ### copied -/
section
variable {X : Cx} {a : Expr} {σ : L2.St} {H : Hp} {p : Addr} {vs : List V} {Q : VK} {p2 pos : Pos}
/-- xs[:] -/
theorem we_sliceAll (ha : ∀ Q : VK, Q (.ref p) H → We X a σ H Q) (hl : SqL X.K H p vs) (q : ∀ l, H l = none → Q (.ref l) (upd H l (.lst vs))) : We X (.Subscript a (.Slice none none none p2) pos) σ H Q :=
  We.of (pe_slice sl_list we po_none po_none) (ha _ ⟨p, vs, rfl, hl, fun l hl0 => by
    have e : cutV vs none none = vs := by
      unfold cutV
      rw [HT.sIx_none, HT.sIx_none, List.drop_zero, Nat.sub_zero, List.take_length]
    rw [e]
    exact q l hl0⟩)
end
def SpCopy (T : List NTab) (K : PySem.W.Frag) (c : Cs) : Sp := fun vs H Q _ => ∃ s ds t dt l1 l2 lk cv rv qv kvs rm ch, vs = [.ref s] ∧ H s = some (.ins c.stock ds [("table", .ref t), ("kept", .ref lk), ("room", rm), ("changes", ch)]) ∧ H t = some (.ins c.table dt [("columns", cv), ("lines", .ref l1), ("questions", .ref l2)]) ∧
  H l1 = some (.lst rv) ∧ H l2 = some (.lst qv) ∧ SqL K H lk kvs ∧
  ∀ H' B s' ds' t' dt' ll lq lk', H' = ov [(s', .ins c.stock ds' [("table", .ref t'), ("kept", .ref lk'), ("room", rm), ("changes", ch)]), (ds', .own s'), (ll, .lst rv), (lq, .lst qv)] B → Lay [(s', .ins c.stock ds' [("table", .ref t'), ("kept", .ref lk'), ("room", rm), ("changes", ch)]), (ds', .own s'), (ll, .lst rv), (lq, .lst qv)] B →
    Xt T H B → B t' = some (.ins c.table dt' [("columns", cv), ("lines", .ref ll), ("questions", .ref lq)]) → B lk' = some (.lst kvs) → H t' = none → H lk' = none → Q (.ref s') H'
abbrev DCopy (T : List NTab) (P : Program) (w : World) (K : PySem.W.Frag) (mg : Str → Option Value) (base : Heap) (c : Cs) : Prop := Df P w K mg base CX0 3 "copied" ["stock"] (SpCopy T K c)
abbrev s_copied : Stmt := top 93
def Ncopied : List Str := ["stock", "table", "found"]
theorem sc_copied : FnScope Ncopied ["stock"] (defScope s_copied) := ⟨rfl, rfl, rfl, by decide +kernel, rfl, by decide +kernel, by decide +kernel⟩
theorem Lay.fresh {m : Ov} {G : Hp} {a : Addr} {o : HO} (h : Lay m G) (ha : ov m G a = none) (ho : MO o) : Lay ((a, o) :: m) G := by
  have hk : a ∉ keys m := fun z => by
    obtain ⟨q, hq, rfl⟩ := List.mem_map.mp z
    rw [ov_at h.nd hq] at ha
    cases ha
  exact h.cons hk (by rw [ov_off hk] at ha; exact ha) ho
theorem ok_copied {f : Addr} {fd : FuncData} (g : Gf K mg c) (MB : MkTab P w K mg base c) (MS : MkStk P w K mg base c) (F : Fun K "copied" "copied" s_copied f fd) (hm : mg "copied" = some (.ref f)) (b : Binds K fd ["stock"] []) : DCopy T P w K mg base c := by
  refine okN F hm b sc_copied (fun vs H Q E h => by obtain ⟨s, ds, t, dt, l1, l2, lk, cv, rv, qv, kvs, rm, ch, rfl, _⟩ := h; rfl) fun cdv A outer s0 H vs Q E hr h => ?_
  obtain ⟨s, ds, t, dt, l1, l2, lk, cv, rv, qv, kvs, rm, ch, rfl, hs, htb, hl1, hl2, hlk, hq⟩ := h
  refine wb_cons (Ws.of (ps_set sc_copied.nd (i := 1) rfl (.inl rfl) we) ?_)
  refine we_make0 MB hr (by decide) fun t' dt' G1 fs ht0 hdt0 ne ⟨_, a1, a2, a3, q1, q2, q3, eG, efs⟩ ht1 hdt1 => ?_
  subst efs eG
  -- what is new lies over H
  have L3 : Lay [(a3, .lst []), (a2, .lst []), (a1, .lst [])] H := ((Lay.nil.fresh (a := a1) (o := .lst []) q1 mo_lst).fresh (a := a2) (o := .lst []) q2 mo_lst).fresh (a := a3) (o := .lst []) q3 mo_lst
  have L4 : Lay [(dt', .own t'), (a3, .lst []), (a2, .lst []), (a1, .lst [])] H := L3.fresh hdt1 mo_own
  have L5 := L4.fresh (a := t') (o := .ins c.table dt' [("columns", .ref a1), ("lines", .ref a2), ("questions", .ref a3)]) (by
    show upd (ov [(a3, .lst []), (a2, .lst []), (a1, .lst [])] H) dt' (.own t') t' = none
    rw [upd_ne ne.symm]
    exact ht1) mo_ins
  have look : ∀ {m : Ov}, Lay m H → ∀ {a o}, H a = some o → NT o → ov m H a = some o := fun {m} L {a o} e n => (ov_xt (T := T) L).ex a o e n
  have getTab : ∀ {m : Ov} (L : Lay m H) {o1 o2 : Option V} {p1 p2 : Pos} (Q : VK), Q (.ref t) (ov m H) → We (C0 P w K mg base Ncopied "copied" s_copied f cdv A outer s0 H E) (.Attribute (.Name "stock" p1) "table" p2) [some (.ref s), o1, o2] (ov m H) Q := fun {m} L {o1 o2 p1 p2} Q q => we_fld (we_var (i := 0) rfl ⟨has_of g.stock (look L hs nt_ins) rfl (by decide), q⟩)
  -- table.columns = stock.table.columns
  refine wb_fldX (v := cv) (fun Q q => we_fld (getTab L5 _ ⟨has_of g.table (look L5 htb nt_ins) rfl (by decide), q⟩)) (fun Q H' q => we_var (i := 1) rfl q) upd_same g.table.cl (g.table.no _ (by decide)) (show (3 : Nat) < 1000 by decide) ?_
  have L6 := L5.set (u := .ins c.table dt' [("columns", cv), ("lines", .ref a2), ("questions", .ref a3)]) mo_ins
  rw [show upd (updI (upd (upd (upd H a1 (.lst [])) a2 (.lst [])) a3 (.lst [])) t' dt' c.table [("columns", .ref a1), ("lines", .ref a2), ("questions", .ref a3)]) t' (.ins c.table dt' (putF "columns" cv [("columns", .ref a1), ("lines", .ref a2), ("questions", .ref a3)])) = ov ((t', .ins c.table dt' [("columns", cv), ("lines", .ref a2), ("questions", .ref a3)]) :: [(dt', .own t'), (a3, .lst []), (a2, .lst []), (a1, .lst [])]) H from upd_upd]
  clear L5
  -- table.lines = stock.table.lines[:]
  refine wb_cons (Ws.of (ps_fld we we rfl) ?_)
  refine we_sliceAll (p := l1) (vs := rv) (fun Q q => we_fld (getTab L6 _ ⟨has_of g.table (look L6 htb nt_ins) rfl (by decide), q⟩)) (SqL.of (look L6 hl1 nt_lst)) fun ll hll => ?_
  have L7 := L6.fresh (a := ll) (o := .lst rv) hll mo_lst
  refine we_var (i := 1) rfl ⟨t', c.table, dt', _, rfl, ov_at L7.nd (List.mem_cons_of_mem _ List.mem_cons_self), g.table.cl, g.table.no _ (by decide), (show (3 : Nat) < 1000 by decide), ?_⟩
  obtain ⟨e8, L8⟩ := ov_upd (m1 := [(ll, .lst rv)]) (u := .ins c.table dt' [("columns", cv), ("lines", .ref ll), ("questions", .ref a3)]) L7 mo_ins
  show Wb _ _ _ _ (upd (ov ([(ll, .lst rv)] ++ (t', .ins c.table dt' [("columns", cv), ("lines", .ref a2), ("questions", .ref a3)]) :: [(dt', .own t'), (a3, .lst []), (a2, .lst []), (a1, .lst [])]) H) t' (.ins c.table dt' [("columns", cv), ("lines", .ref ll), ("questions", .ref a3)]))
  rw [e8]
  -- table.questions = stock.table.questions[:]
  refine wb_cons (Ws.of (ps_fld we we rfl) ?_)
  refine we_sliceAll (p := l2) (vs := qv) (fun Q q => we_fld (getTab L8 _ ⟨has_of g.table (look L8 htb nt_ins) rfl (by decide), q⟩)) (SqL.of (look L8 hl2 nt_lst)) fun lq hlq => ?_
  have L9 := L8.fresh (a := lq) (o := .lst qv) hlq mo_lst
  refine we_var (i := 1) rfl ⟨t', c.table, dt', _, rfl, ov_at L9.nd (List.mem_cons_of_mem _ (List.mem_cons_of_mem _ List.mem_cons_self)), g.table.cl, g.table.no _ (by decide), (show (3 : Nat) < 1000 by decide), ?_⟩
  obtain ⟨e10, L10⟩ := ov_upd (m1 := [(lq, .lst qv), (ll, .lst rv)]) (u := .ins c.table dt' [("columns", cv), ("lines", .ref ll), ("questions", .ref lq)]) L9 mo_ins
  show Wb _ _ _ _ (upd (ov ([(lq, .lst qv), (ll, .lst rv)] ++ (t', .ins c.table dt' [("columns", cv), ("lines", .ref ll), ("questions", .ref a3)]) :: [(dt', .own t'), (a3, .lst []), (a2, .lst []), (a1, .lst [])]) H) t' (.ins c.table dt' [("columns", cv), ("lines", .ref ll), ("questions", .ref lq)]))
  rw [e10]
  -- found = Stock(table)
  refine wb_cons (Ws.of (ps_set sc_copied.nd (i := 2) rfl (.inl rfl) we) ?_)
  refine we_make MS hr (by decide) (Wa.of (pa_cons we pa_nil rfl) (we_var (i := 1) rfl ⟨rfl, fun s' ds' G2 fs hs0 hds0 ne2 ⟨a, l0, ea, hl0, eG, efs⟩ hs1 hds1 => ?_⟩))
  cases ea
  subst efs eG
  have L11 := L10.fresh (a := l0) (o := .lst []) hl0 mo_lst
  have L12 := L11.fresh (a := ds') (o := .own s') hds1 mo_own
  have L13 := L12.fresh (a := s') (o := .ins c.stock ds' [("table", .ref t'), ("kept", .ref l0), ("room", .int 1000), ("changes", .int 0)]) (by
    show upd (ov _ H) ds' (.own s') s' = none
    rw [upd_ne ne2.symm]
    exact hs1) mo_ins
  -- found.kept = stock.kept[:]
  refine wb_cons (Ws.of (ps_fld we we rfl) ?_)
  refine we_sliceAll (p := lk) (vs := kvs) (fun Q q => we_fld (we_var (i := 0) rfl ⟨has_of g.stock (look L13 hs nt_ins) rfl (by decide), q⟩)) ((ov_xt (T := T) L13).seqL hlk) fun lk' hlk' => ?_
  have L14 := L13.fresh (a := lk') (o := .lst kvs) hlk' mo_lst
  refine we_var (i := 2) rfl ⟨s', c.stock, ds', _, rfl, ov_at L14.nd (List.mem_cons_of_mem _ List.mem_cons_self), g.stock.cl, g.stock.no _ (by decide), (show (4 : Nat) < 1000 by decide), ?_⟩
  obtain ⟨e15, L15⟩ := ov_upd (m1 := [(lk', .lst kvs)]) (u := .ins c.stock ds' [("table", .ref t'), ("kept", .ref lk'), ("room", .int 1000), ("changes", .int 0)]) L14 mo_ins
  refine Eq.mp (congrArg (Wb _ _ _ _) e15.symm) ?_
  -- found.room, found.changes
  refine wb_fldX (v := rm) (fun Q q => we_fld (we_var (i := 0) rfl ⟨has_of g.stock (look L15 hs nt_ins) rfl (by decide), q⟩)) (fun Q H' q => we_var (i := 2) rfl q) (ov_at L15.nd (List.mem_cons_of_mem _ List.mem_cons_self)) g.stock.cl (g.stock.no _ (by decide)) (show (4 : Nat) < 1000 by decide) ?_
  obtain ⟨e16, L16⟩ := ov_upd (m1 := [(lk', .lst kvs)]) (u := .ins c.stock ds' [("table", .ref t'), ("kept", .ref lk'), ("room", rm), ("changes", .int 0)]) L15 mo_ins
  refine Eq.mp (congrArg (Wb _ _ _ _) e16.symm) ?_
  refine wb_fldX (v := ch) (fun Q q => we_fld (we_var (i := 0) rfl ⟨has_of g.stock (look L16 hs nt_ins) rfl (by decide), q⟩)) (fun Q H' q => we_var (i := 2) rfl q) (ov_at L16.nd (List.mem_cons_of_mem _ List.mem_cons_self)) g.stock.cl (g.stock.no _ (by decide)) (show (4 : Nat) < 1000 by decide) ?_
  obtain ⟨e17, L17⟩ := ov_upd (m1 := [(lk', .lst kvs)]) (u := .ins c.stock ds' [("table", .ref t'), ("kept", .ref lk'), ("room", rm), ("changes", ch)]) L16 mo_ins
  refine Eq.mp (congrArg (Wb _ _ _ _) e17.symm) ?_
  refine wb_cons (Ws.of (ps_ret we) (we_var (i := 2) rfl ?_))
  obtain ⟨B, eB, LB, xB, offB⟩ := relay (T := T) (m' := [(s', .ins c.stock ds' [("table", .ref t'), ("kept", .ref lk'), ("room", rm), ("changes", ch)]), (ds', .own s'), (ll, .lst rv), (lq, .lst qv)]) L17 (fun p hp => by
    simp only [List.mem_cons, List.mem_append, List.mem_singleton, List.not_mem_nil, or_false] at hp ⊢
    rcases hp with h | h | h | h <;> subst h <;> simp) (by
    have h := L17.nd
    simp only [keys, List.map_append, List.map_cons, List.map_nil, List.cons_append, List.nil_append, List.nodup_cons, List.mem_cons, List.not_mem_nil, or_false, not_or] at h ⊢
    grind)
  have nd := L17.nd
  have inT : (t', HO.ins c.table dt' [("columns", cv), ("lines", .ref ll), ("questions", .ref lq)]) ∈ ([(lk', HO.lst kvs)] ++ (s', HO.ins c.stock ds' [("table", .ref t'), ("kept", .ref lk'), ("room", rm), ("changes", ch)]) :: (ds', HO.own s') :: (l0, HO.lst []) :: ([(lq, HO.lst qv), (ll, HO.lst rv)] ++ (t', HO.ins c.table dt' [("columns", cv), ("lines", .ref ll), ("questions", .ref lq)]) :: [(dt', HO.own t'), (a3, HO.lst []), (a2, HO.lst []), (a1, HO.lst [])])) := by simp
  have inK : (lk', HO.lst kvs) ∈ ([(lk', HO.lst kvs)] ++ (s', HO.ins c.stock ds' [("table", .ref t'), ("kept", .ref lk'), ("room", rm), ("changes", ch)]) :: (ds', HO.own s') :: (l0, HO.lst []) :: ([(lq, HO.lst qv), (ll, HO.lst rv)] ++ (t', HO.ins c.table dt' [("columns", cv), ("lines", .ref ll), ("questions", .ref lq)]) :: [(dt', HO.own t'), (a3, HO.lst []), (a2, HO.lst []), (a1, HO.lst [])])) := by simp
  refine hq _ B s' ds' t' dt' ll lq lk' eB LB xB ?_ ?_ (L17.no _ (keys_mem inT)) (L17.no _ (keys_mem inK))
  · rw [offB t' (by
      have h := nd
      simp only [keys, List.map_append, List.map_cons, List.map_nil, List.cons_append, List.nil_append, List.nodup_cons, List.mem_cons, List.not_mem_nil, or_false, not_or] at h ⊢
      grind)]
    exact ov_at nd inT
  · rw [offB lk' (by
      have h := nd
      simp only [keys, List.map_append, List.map_cons, List.map_nil, List.cons_append, List.nil_append, List.nodup_cons, List.mem_cons, List.not_mem_nil, or_false, not_or] at h ⊢
      grind)]
    exact ov_at nd inK
end G5
/-! R4: what is held; changed. -/
namespace G5
open PySem PySem.Spec PyProof.Rows L2
variable {T : List NTab} {P : Program} {w : World} {K : PySem.W.Frag} {mg : Str → Option Value} {base : Heap} {c : Cs}
theorem perm7 {α : Type} (A P2 N Hd L C Hc : List α) : (A ++ (P2 ++ (N ++ (Hd ++ (L ++ (C ++ Hc)))))).Perm (Hd ++ (A ++ (C ++ ((Hc ++ N) ++ (L ++ P2))))) := by
  classical
  exact List.perm_iff_count.mpr fun a => by simp only [List.count_append]; omega
structure Wd where
  h : Addr
  dh : Addr
  lh : Addr
  cur : Option Stk
  held : List Stk
def heldV (l : List Stk) : List V := l.map fun x => .ref x.s
def stockV : Option Stk → V
  | none => .non
  | some x => .ref x.s
abbrev hdI (c : Cs) (dh lh : Addr) (sv : V) : HO := .ins c.holder dh [("stock", sv), ("held", .ref lh)]
abbrev hdO (c : Cs) (h dh lh : Addr) (sv : V) : Ov := [(h, hdI c dh lh sv), (dh, .own h)]
def curC (c : Cs) : Option Stk → Ov
  | none => []
  | some x => x.cells c
def heldC (c : Cs) (l : List Stk) : Ov := l.flatMap (Stk.cells c)
def Wd.cells (c : Cs) (wd : Wd) : Ov := hdO c wd.h wd.dh wd.lh (stockV wd.cur) ++ ([(wd.lh, .lst (heldV wd.held))] ++ (curC c wd.cur ++ heldC c wd.held))
structure WdOk (T : List NTab) (K : PySem.W.Frag) (c : Cs) (H G : Hp) (wd : Wd) : Prop where
  h : H = ov (wd.cells c) G
  lay : Lay (wd.cells c) G
  cur : ∀ x, wd.cur = some x → StkOk K c G x
  held : ∀ x ∈ wd.held, StkOk K c G x
  len : wd.held.length ≤ 20
section
variable {H G H' : Hp} {wd : Wd} {x : Stk}
theorem WdOk.xt (p : WdOk T K c H G wd) : Xt T G H := by rw [p.h]; exact ov_xt p.lay
theorem WdOk.keep (p : WdOk T K c H G wd) (u : Xt T H H') : ∃ G', WdOk T K c H' G' wd ∧ Xt T G G' := by
  obtain ⟨rfl, h2, h3, h4, h5⟩ := p
  obtain ⟨G', e, l', x', _⟩ := regain h2 u
  exact ⟨G', ⟨e, l', fun x hx => (h3 x hx).mono x', fun x hx => (h4 x hx).mono x', h5⟩, x'⟩
theorem WdOk.tb (p : WdOk T K c H G wd) (t : Tb T H) : Tb T G := tb_less (S := keys (wd.cells c)) t (fun a ha => by
  obtain ⟨q, hq, rfl⟩ := List.mem_map.mp ha
  exact ⟨q.2, by rw [p.h]; exact ov_at p.lay.nd hq, p.lay.mo q hq⟩) fun a ha => by rw [p.h, ov_off ha]
theorem WdOk.go (p : WdOk T K c H G wd) {wd' : Wd} {H' G' : Hp} (p' : WdOk T K c H' G' wd') (u : Xt T G G') (t : Tb T H) : Tb T H' := p'.xt.tb (u.tb (p.tb t))
theorem WdOk.at' (p : WdOk T K c H G wd) {a : Addr} {o : HO} (h : (a, o) ∈ wd.cells c) : H a = some o := by rw [p.h]; exact ov_at p.lay.nd h
theorem WdOk.hold (p : WdOk T K c H G wd) : H wd.h = some (hdI c wd.dh wd.lh (stockV wd.cur)) := p.at' List.mem_cons_self
theorem WdOk.heldL (p : WdOk T K c H G wd) : H wd.lh = some (.lst (heldV wd.held)) := p.at' (List.mem_cons_of_mem _ (List.mem_cons_of_mem _ List.mem_cons_self))
theorem cell_in (hx : wd.cur = some x) {q : Addr × HO} (hq : q ∈ x.cells c) : q ∈ wd.cells c := by
  unfold Wd.cells
  refine List.mem_append_right _ (List.mem_append_right _ (List.mem_append_left _ ?_))
  rw [hx]
  exact hq
theorem WdOk.stk (p : WdOk T K c H G wd) (hx : wd.cur = some x) : H x.s = some (stkI c x) ∧ H x.ll = some (.lst x.rv) ∧ H x.lq = some (.lst x.qv) :=
  ⟨p.at' (cell_in hx (by unfold Stk.cells; simp)), p.at' (cell_in hx (by unfold Stk.cells; simp)), p.at' (cell_in hx (by unfold Stk.cells; simp))⟩
theorem WdOk.now (p : WdOk T K c H G wd) (hx : wd.cur = some x) : RNow K c H (.ref x.s) x.n :=
  (p.cur x hx).now p.xt (p.stk hx).1 (p.stk hx).2.1 (p.stk hx).2.2
/-- holder.stock -/
theorem WdOk.hasS (p : WdOk T K c H G wd) (g : Gf K mg c) (u : Xt T H H') : Has K "stock" H' (.ref wd.h) (stockV wd.cur) := has_of g.holder (u.ex _ _ p.hold nt_ins) rfl (by decide)
theorem WdOk.hasH (p : WdOk T K c H G wd) (g : Gf K mg c) (u : Xt T H H') : Has K "held" H' (.ref wd.h) (.ref wd.lh) := has_of g.holder (u.ex _ _ p.hold nt_ins) rfl (by decide)
/-- holder.stock.table, the table's value -/
theorem WdOk.hasT (p : WdOk T K c H G wd) (g : Gf K mg c) (hx : wd.cur = some x) (u : Xt T H H') : Has K "table" H' (.ref x.s) (.ref x.t) := has_of g.stock (u.ex _ _ (p.stk hx).1 nt_ins) rfl (by decide)
end
/-! ### changed -/
def SpChanged (T : List NTab) (K : PySem.W.Frag) (c : Cs) : Sp := fun vs H Q _ => Tb T H ∧ ∃ wd G x, vs = [.ref wd.h] ∧ WdOk T K c H G wd ∧ wd.cur = some x ∧
  ∀ H' G' y lh', Xt T G G' → y.n = x.n → WdOk T K c H' G' ⟨wd.h, wd.dh, lh', wd.cur, (wd.held ++ [y]).drop (wd.held.length + 1 - 20)⟩ → Q .non H'
abbrev DChanged (T : List NTab) (P : Program) (w : World) (K : PySem.W.Frag) (mg : Str → Option Value) (base : Heap) (c : Cs) : Prop := Df P w K mg base CX0 4 "changed" ["holder"] (SpChanged T K c)
abbrev s_changed : Stmt := top 94
theorem sc_changed : FnScope ["holder"] ["holder"] (defScope s_changed) := ⟨rfl, rfl, rfl, by decide +kernel, rfl, by decide +kernel, by decide +kernel⟩
theorem cut_last (vs : List V) : cutV vs (some (-20)) none = vs.drop (vs.length - 20) := by
  have e : HT.sIx vs.length 0 (some (-20)) = vs.length - 20 := by
    show (if (-20 : Int) < 0 then (-20 + (vs.length : Int)).toNat else min (-20 : Int).toNat vs.length) = _
    rw [if_pos (by decide)]
    omega
  unfold cutV
  rw [e, HT.sIx_none]
  refine List.take_of_length_le ?_
  rw [List.length_drop]
  exact Nat.le_refl _
theorem flat_sub {α β : Type} (f : α → List β) {l l' : List α} (h : l.Sublist l') : (l.flatMap f).Sublist (l'.flatMap f) := by
  induction h with
  | slnil => exact List.Sublist.refl _
  | cons a _ ih => rw [List.flatMap_cons]; exact ih.trans (List.sublist_append_right _ _)
  | cons_cons a _ ih => rw [List.flatMap_cons, List.flatMap_cons]; exact (List.Sublist.refl _).append ih
theorem ok_changed {f : Addr} {fd : FuncData} (g : Gf K mg c) (dC : DCopy T P w K mg base c) (F : Fun K "changed" "changed" s_changed f fd) (hm : mg "changed" = some (.ref f)) (b : Binds K fd ["holder"] []) : DChanged T P w K mg base c := by
  refine okN F hm b sc_changed (fun vs H Q E h => by obtain ⟨_, wd, G, x, rfl, _⟩ := h; rfl) fun cdv A outer s H vs Q E hr h => ?_
  obtain ⟨ht, wd, G, x, rfl, p, hx, hq⟩ := h
  obtain ⟨st1, st2, st3⟩ := p.stk hx
  obtain ⟨cv, tb1, tb2⟩ := (p.cur x hx).tab.ex
  obtain ⟨lk, kvs, ek, hk1, hk2⟩ := (p.cur x hx).kept
  refine wb_cons (Ws.of (ps_fld we we rfl) ?_)
  refine We.of (pe_slice sl_list we (po_some we) po_none) ?_
  refine We.of (pe_op op_cat we we) ?_
  refine we_fld (we_var (i := 0) rfl ⟨p.hasH g (Xt.refl _), ?_⟩)
  refine We.of (pe_lst (pa_cons we pa_nil rfl)) ?_
  refine we_callN dC hr (by decide) (Wa.of (pa_cons we pa_nil rfl) (we_fld (we_var (i := 0) rfl ⟨p.hasS g (Xt.refl _), ?_⟩)))
  rw [hx]
  refine ⟨x.s, x.ds, x.t, x.dt, x.ll, x.lq, lk, cv, x.rv, x.qv, kvs, .int (x.n.m.room : Int), .int (x.n.m.changes : Int), rfl, ?_, p.xt.ex _ _ tb1 nt_ins, st2, st3, p.xt.seqL hk1, fun H1 B s' ds' t' dt' ll lq lk' eH1 LB xB hBt hBk hnt hnk => ?_⟩
  · rw [st1]
    show some (HO.ins c.stock x.ds [(("table" : Str), V.ref x.t), (("kept" : Str), x.kv), (("room" : Str), V.int (x.n.m.room : Int)), (("changes" : Str), V.int (x.n.m.changes : Int))]) = _
    rw [ek]
  subst eH1
  have ep := p.h
  subst ep
  obtain ⟨G1, eB, L1, x1, off1⟩ := regain p.lay xB
  subst eB
  have LJ := Lay.join LB L1
  rw [← ov_app]
  refine ⟨by show 1 ≤ sizeLine; decide, fun p1 hp1 => ?_⟩
  have LP1 := LJ.fresh (a := p1) (o := .lst [V.ref s']) hp1 mo_lst
  refine ⟨wd.lh, p1, heldV wd.held, [V.ref s'], rfl, rfl, ?_, upd_same, ?_, fun p2 hp2 => ?_⟩
  · exact ov_at LP1.nd (List.mem_cons_of_mem _ (List.mem_append_right _ (List.mem_cons_of_mem _ (List.mem_cons_of_mem _ List.mem_cons_self))))
  · show (heldV wd.held).length + 1 ≤ _
    unfold heldV
    rw [List.length_map]
    have := p.len
    exact Nat.le_trans (show wd.held.length + 1 ≤ 21 by omega) (by decide)
  have LP2 := LP1.fresh (a := p2) (o := .lst (heldV wd.held ++ [V.ref s'])) hp2 mo_lst
  refine (ev_neg (T := T) (i := 20) (ev_gi g.gMOST_HELD)).now fun v H2 u2 ev => ?_
  cases ev
  obtain ⟨G2, e2, L2', x2, off2⟩ := regain LP2 u2
  subst e2
  refine ⟨-20, rfl, ?_⟩
  refine ⟨p2, heldV wd.held ++ [V.ref s'], rfl, SqL.of (ov_at L2'.nd List.mem_cons_self), fun p3 hp3 => ?_⟩
  have LP3 := L2'.fresh (a := p3) (o := .lst (cutV (heldV wd.held ++ [V.ref s']) (some (-20)) none)) hp3 mo_lst
  rw [cut_last] at LP3 ⊢
  -- the attribute set
  have hat : (wd.h, hdI c wd.dh wd.lh (stockV wd.cur)) ∈ ((p3, HO.lst ((heldV wd.held ++ [V.ref s']).drop ((heldV wd.held ++ [V.ref s']).length - 20))) :: (p2, HO.lst (heldV wd.held ++ [V.ref s'])) :: (p1, HO.lst [V.ref s']) :: ([(s', HO.ins c.stock ds' [("table", .ref t'), ("kept", .ref lk'), ("room", .int (x.n.m.room : Int)), ("changes", .int (x.n.m.changes : Int))]), (ds', HO.own s'), (ll, HO.lst x.rv), (lq, HO.lst x.qv)] ++ wd.cells c)) := by
    refine List.mem_cons_of_mem _ (List.mem_cons_of_mem _ (List.mem_cons_of_mem _ (List.mem_append_right _ List.mem_cons_self)))
  refine we_var (i := 0) rfl ⟨wd.h, c.holder, wd.dh, _, rfl, ov_at LP3.nd hat, g.holder.cl, g.holder.no _ (by decide), (show (2 : Nat) < 1000 by decide), wb_nil ?_⟩
  obtain ⟨e4, L4⟩ := ov_upd (a := wd.h) (o := hdI c wd.dh wd.lh (stockV wd.cur)) (u := hdI c wd.dh p3 (stockV wd.cur)) (m1 := (p3, HO.lst ((heldV wd.held ++ [V.ref s']).drop ((heldV wd.held ++ [V.ref s']).length - 20))) :: (p2, HO.lst (heldV wd.held ++ [V.ref s'])) :: (p1, HO.lst [V.ref s']) :: [(s', HO.ins c.stock ds' [("table", .ref t'), ("kept", .ref lk'), ("room", .int (x.n.m.room : Int)), ("changes", .int (x.n.m.changes : Int))]), (ds', HO.own s'), (ll, HO.lst x.rv), (lq, HO.lst x.qv)]) (m2 := (wd.dh, HO.own wd.h) :: ([(wd.lh, HO.lst (heldV wd.held))] ++ (curC c wd.cur ++ heldC c wd.held))) (G := G2) LP3 mo_ins
  refine Eq.mp (congrArg (Q .non) e4.symm) ?_
  let y : Stk := ⟨s', ds', t', dt', ll, lq, .ref lk', x.rv, x.qv, x.n⟩
  let wd' : Wd := ⟨wd.h, wd.dh, p3, wd.cur, (wd.held ++ [y]).drop (wd.held.length + 1 - 20)⟩
  have eheld : (heldV wd.held ++ [V.ref s']).drop ((heldV wd.held ++ [V.ref s']).length - 20) = heldV wd'.held := by
    show _ = ((wd.held ++ [y]).drop (wd.held.length + 1 - 20)).map fun x => V.ref x.s
    rw [List.map_drop, List.map_append]
    have : (heldV wd.held ++ [V.ref s']).length = wd.held.length + 1 := by
      unfold heldV
      rw [List.length_append, List.length_map]
      rfl
    rw [this]
    rfl
  have pm := perm7 [(p3, HO.lst ((heldV wd.held ++ [V.ref s']).drop ((heldV wd.held ++ [V.ref s']).length - 20)))] [(p2, HO.lst (heldV wd.held ++ [V.ref s'])), (p1, HO.lst [V.ref s'])] (y.cells c) (hdO c wd.h wd.dh p3 (stockV wd.cur)) [(wd.lh, HO.lst (heldV wd.held))] (curC c wd.cur) (heldC c wd.held)
  have L5 := L4.perm (m' := _) pm
  have sub : (wd'.cells c).Sublist (hdO c wd.h wd.dh p3 (stockV wd.cur) ++ ([(p3, HO.lst ((heldV wd.held ++ [V.ref s']).drop ((heldV wd.held ++ [V.ref s']).length - 20)))] ++ (curC c wd.cur ++ ((heldC c wd.held ++ y.cells c) ++ ([(wd.lh, HO.lst (heldV wd.held))] ++ [(p2, HO.lst (heldV wd.held ++ [V.ref s'])), (p1, HO.lst [V.ref s'])]))))) := by
    rw [eheld]
    refine (List.Sublist.refl _).append ((List.Sublist.refl _).append ((List.Sublist.refl _).append ?_))
    refine List.Sublist.trans ?_ (List.sublist_append_left _ _)
    have e9 : heldC c wd.held ++ y.cells c = (wd.held ++ [y]).flatMap (Stk.cells c) := by
      unfold heldC
      rw [List.flatMap_append, List.flatMap_cons, List.flatMap_nil, List.append_nil]
    rw [e9]
    exact flat_sub _ (List.drop_sublist _ _)
  obtain ⟨G3, e6, L6, x3, off3⟩ := relay (T := T) (m' := wd'.cells c) L5 (fun q hq => sub.subset hq) ((sub.map _).nodup L5.nd)
  have eF : ov ((p3, HO.lst ((heldV wd.held ++ [V.ref s']).drop ((heldV wd.held ++ [V.ref s']).length - 20))) :: (p2, HO.lst (heldV wd.held ++ [V.ref s'])) :: (p1, HO.lst [V.ref s']) :: [(s', HO.ins c.stock ds' [("table", .ref t'), ("kept", .ref lk'), ("room", .int (x.n.m.room : Int)), ("changes", .int (x.n.m.changes : Int))]), (ds', HO.own s'), (ll, HO.lst x.rv), (lq, HO.lst x.qv)] ++ (wd.h, hdI c wd.dh p3 (stockV wd.cur)) :: ((wd.dh, HO.own wd.h) :: ([(wd.lh, HO.lst (heldV wd.held))] ++ (curC c wd.cur ++ heldC c wd.held)))) G2 = ov (wd'.cells c) G3 := (ov_perm L4.nd pm).trans e6
  rw [eF]
  have x03 : Xt T G G3 := x1.trans (x2.trans x3)
  have x13 : Xt T G1 G3 := x2.trans x3
  have notin : ∀ {a : Addr}, ov (wd.cells c) G a = none → a ∉ keys (wd.cells c) := fun {a} h z => by
    obtain ⟨q, hq, rfl⟩ := List.mem_map.mp z
    rw [ov_at p.lay.nd hq] at h
    cases h
  have yok : StkOk K c G3 y := by
    refine ⟨⟨⟨cv, x13.ex _ _ (by rw [off1 t' (notin hnt)]; exact hBt) nt_ins, Mono.mono x03 tb2⟩, (p.cur x hx).tab.rows.mono x03, (p.cur x hx).tab.asks.mono x03⟩, ?_, (p.cur x hx).good⟩
    exact ⟨lk', kvs, rfl, SqL.of (x13.ex _ _ (by rw [off1 lk' (notin hnk)]; exact hBk) nt_lst), hk2.mono x03⟩
  refine hq _ G3 y p3 x03 rfl ⟨rfl, L6, fun z hz => (p.cur z hz).mono x03, fun z hz => ?_, ?_⟩
  · rcases List.mem_append.mp (List.mem_of_mem_drop hz) with q | q
    · exact (p.held z q).mono x03
    · rw [List.mem_singleton.mp q]; exact yok
  · show ((wd.held ++ [y]).drop (wd.held.length + 1 - 20)).length ≤ 20
    rw [List.length_drop, List.length_append, List.length_singleton]
    omega
end G5
/-! M4: what is computed is what the specification says: readers, costs, totals, worths, idle ones. -/
namespace G5
open PySem PySem.Spec PyProof.Rows L2
/-- a least one, by size and number -/
def Least (ss : List Nat) (S : Nat → Prop) : Option Nat → Prop
  | none => ∀ o, ¬ S o
  | some o => S o ∧ ∀ o', S o' → ss.getD o 0 < ss.getD o' 0 ∨ (ss.getD o 0 = ss.getD o' 0 ∧ o ≤ o')
theorem least_eq {ss : List Nat} {S : Nat → Prop} {a b : Option Nat} (ha : Least ss S a) (hb : Least ss S b) : a = b := by
  cases a with
  | none =>
    cases b with
    | none => rfl
    | some o => exact absurd hb.1 (ha o)
  | some o =>
    cases b with
    | none => exact absurd ha.1 (hb o)
    | some o' =>
      have h1 := ha.2 o' hb.1
      have h2 := hb.2 o ha.1
      have : o = o' := by omega
      rw [this]
theorem keyLe_iff {ss : List Nat} {a b : Nat} : keyLe ss a b = true ↔ ss.getD a 0 < ss.getD b 0 ∨ (ss.getD a 0 = ss.getD b 0 ∧ a ≤ b) := by
  unfold keyLe
  exact decide_eq_true_iff
theorem readable_sorted (ss : List Nat) (g : Nat) : (readable ss g).Pairwise fun a b => keyLe ss a b = true := by
  unfold readable
  refine List.pairwise_mergeSort (fun a b c h1 h2 => ?_) (fun a b => ?_) _
  · rw [keyLe_iff] at h1 h2 ⊢
    omega
  · rw [Bool.or_eq_true, keyLe_iff, keyLe_iff]
    omega
theorem mem_readable {ss : List Nat} {g o : Nat} : o ∈ readable ss g ↔ o < ss.length ∧ o &&& g = g := by
  unfold readable
  rw [(List.mergeSort_perm _ _).mem_iff, List.mem_filter, List.mem_range, bitAnd_nat]
  constructor
  · rintro ⟨h1, h2⟩
    exact ⟨h1, by have := of_decide_eq_true h2; omega⟩
  · rintro ⟨h1, h2⟩
    exact ⟨h1, decide_eq_true (by rw [h2])⟩
theorem readBy_least (ss ks : List Nat) (g : Nat) : Least ss (fun o => o < ss.length ∧ o &&& g = g ∧ o ∈ ks) (readBy ss ks g) := by
  cases e : readBy ss ks g with
  | none =>
    intro o ⟨h1, h2, h3⟩
    unfold readBy at e
    have := List.find?_eq_none.mp e o (mem_readable.mpr ⟨h1, h2⟩)
    exact this (by simpa using h3)
  | some o =>
    unfold readBy at e
    have hp := List.find?_some e
    obtain ⟨_, as, bs, hl, hno⟩ := List.find?_eq_some_iff_append.mp e
    have hm : o ∈ readable ss g := List.mem_of_find?_eq_some e
    obtain ⟨m1, m2⟩ := mem_readable.mp hm
    refine ⟨⟨m1, m2, by simpa using hp⟩, fun o' ⟨h1, h2, h3⟩ => ?_⟩
    have ho' := mem_readable.mpr ⟨h1, h2⟩
    have hs := readable_sorted ss g
    rw [hl] at ho' hs
    rcases List.mem_append.mp ho' with z | z
    · have := hno o' z
      have h4 : ks.contains o' = true := by simpa using h3
      rw [h4] at this
      cases this
    · rcases List.mem_cons.mp z with z | z
      · rw [z]; exact .inr ⟨rfl, Nat.le_refl _⟩
      · have := (List.pairwise_append.mp hs).2.1
        exact keyLe_iff.mp ((List.pairwise_cons.mp this).1 o' z)
theorem can_iff {n v g : Nat} (hn : n ≤ 4) (hv : v < 2 ^ n) (hg : g < 2 ^ n) : Vamvsa.canFrom n v g = decide (v &&& g = g) := by
  have h : ((List.range 5).all fun n => (List.range (2 ^ n)).all fun v => (List.range (2 ^ n)).all fun g => Vamvsa.canFrom n v g == decide (v &&& g = g)) = true := by decide +kernel
  exact eq_of_beq (List.all_eq_true.mp (List.all_eq_true.mp (List.all_eq_true.mp h n (List.mem_range.mpr (by omega))) v (List.mem_range.mpr hv)) g (List.mem_range.mpr hg))
theorem szs_at {t : Vamvsa.Table} {o : Nat} (h : o < 2 ^ t.cols.length) : (szs t).getD o 0 = Vamvsa.sizeOf_ t o := by
  unfold szs Vamvsa.groupings Vamvsa.width
  rw [List.getD_eq_getElem?_getD, List.getElem?_map, List.getElem?_range h]
  rfl
theorem szs_length (t : Vamvsa.Table) : (szs t).length = 2 ^ t.cols.length := by
  unfold szs Vamvsa.groupings Vamvsa.width
  rw [List.length_map, List.length_range]
theorem better_least (t : Vamvsa.Table) (hg : Good t) {g : Nat} (hgl : g < 2 ^ t.cols.length) : ∀ (l done : List Nat) (b : Option Nat), (∀ o ∈ l, o < 2 ^ t.cols.length) → (done ++ l).Pairwise (· < ·) →
    Least (szs t) (fun o => o ∈ done ∧ o < 2 ^ t.cols.length ∧ o &&& g = g) b → Least (szs t) (fun o => o ∈ done ++ l ∧ o < 2 ^ t.cols.length ∧ o &&& g = g) (l.foldl (Vamvsa.better t g) b)
  | [], done, b, _, _, h => by rw [List.append_nil]; exact h
  | v :: r, done, b, hl, hs, h => by
    have hv := hl v List.mem_cons_self
    have e : done ++ v :: r = (done ++ [v]) ++ r := by simp
    rw [List.foldl_cons, e]
    refine better_least t hg hgl r (done ++ [v]) _ (fun o ho => hl o (List.mem_cons_of_mem _ ho)) (by rw [← e]; exact hs) ?_
    have hlt : ∀ o ∈ done, o < v := fun o ho => (List.pairwise_append.mp hs).2.2 o ho v List.mem_cons_self
    unfold Vamvsa.better Vamvsa.width
    rw [can_iff hg.cols hv hgl]
    by_cases hc : v &&& g = g
    · rw [decide_eq_true hc, if_neg (by decide)]
      cases b with
      | none =>
        refine ⟨⟨List.mem_append_right _ (List.mem_singleton.mpr rfl), hv, hc⟩, fun o' ho' => ?_⟩
        rcases List.mem_append.mp ho'.1 with z | z
        · exact absurd ⟨z, ho'.2⟩ (h o')
        · rw [List.mem_singleton.mp z]; exact .inr ⟨rfl, Nat.le_refl _⟩
      | some u =>
        have hu := h.1
        show Least _ _ (if Vamvsa.sizeOf_ t v < Vamvsa.sizeOf_ t u then some v else some u)
        rw [← szs_at hv, ← szs_at hu.2.1]
        by_cases q : (szs t).getD v 0 < (szs t).getD u 0
        · rw [if_pos q]
          refine ⟨⟨List.mem_append_right _ (List.mem_singleton.mpr rfl), hv, hc⟩, fun o' ho' => ?_⟩
          rcases List.mem_append.mp ho'.1 with z | z
          · have := h.2 o' ⟨z, ho'.2⟩
            omega
          · rw [List.mem_singleton.mp z]; exact .inr ⟨rfl, Nat.le_refl _⟩
        · rw [if_neg q]
          refine ⟨⟨List.mem_append_left _ hu.1, hu.2⟩, fun o' ho' => ?_⟩
          rcases List.mem_append.mp ho'.1 with z | z
          · exact h.2 o' ⟨z, ho'.2⟩
          · rw [List.mem_singleton.mp z]
            have := hlt u hu.1
            omega
    · rw [decide_eq_false hc, if_pos rfl]
      cases b with
      | none =>
        intro o ⟨h1, h2, h3⟩
        rcases List.mem_append.mp h1 with z | z
        · exact h o ⟨z, h2, h3⟩
        · rw [List.mem_singleton.mp z] at h3; exact hc h3
      | some u =>
        refine ⟨⟨List.mem_append_left _ h.1.1, h.1.2⟩, fun o' ho' => ?_⟩
        rcases List.mem_append.mp ho'.1 with z | z
        · exact h.2 o' ⟨z, ho'.2⟩
        · rw [List.mem_singleton.mp z] at ho'; exact absurd ho'.2.2 hc
theorem rise_range (n : Nat) : (List.range n).Pairwise (· < ·) := List.pairwise_lt_range
theorem reader_law {t : Vamvsa.Table} (hg : Good t) (ks : List Nat) {g : Nat} (hgl : g < 2 ^ t.cols.length) : readBy (szs t) ks g = Vamvsa.reader t ks g := by
  have h1 := readBy_least (szs t) ks g
  have h2 := better_least t hg hgl (Vamvsa.sortedKept t ks) [] none (fun o ho => by
    unfold Vamvsa.sortedKept Vamvsa.groupings Vamvsa.width at ho
    exact List.mem_range.mp (List.mem_filter.mp ho).1) (by
    rw [List.nil_append]
    unfold Vamvsa.sortedKept Vamvsa.groupings
    exact (rise_range _).sublist List.filter_sublist) (fun o ⟨h, _⟩ => by cases h)
  have e : (fun o => o ∈ [] ++ Vamvsa.sortedKept t ks ∧ o < 2 ^ t.cols.length ∧ o &&& g = g) = fun o => o < (szs t).length ∧ o &&& g = g ∧ o ∈ ks := by
    funext o
    apply propext
    rw [szs_length, List.nil_append]
    unfold Vamvsa.sortedKept Vamvsa.groupings Vamvsa.width
    rw [List.mem_filter, List.mem_range]
    constructor
    · rintro ⟨⟨a, b⟩, d, f⟩
      exact ⟨a, f, by simpa using b⟩
    · rintro ⟨a, b, d⟩
      exact ⟨⟨a, by simpa using d⟩, a, b⟩
  rw [e] at h2
  exact least_eq h1 h2
theorem cost_law {t : Vamvsa.Table} (hg : Good t) (ks : List Nat) {g : Nat} (hgl : g < 2 ^ t.cols.length) : cost1 t (szs t) ks g = Vamvsa.costOf t ks g := by
  unfold cost1 Vamvsa.costOf
  have h1 := readBy_least (szs t) ks g
  rw [reader_law hg ks hgl] at h1 ⊢
  cases e : Vamvsa.reader t ks g with
  | none => rfl
  | some o =>
    rw [e] at h1
    exact szs_at (by rw [← szs_length]; exact h1.1.1)
theorem total_law {t : Vamvsa.Table} (hg : Good t) (ks : List Nat) : total1 t (szs t) ks = Vamvsa.total t ks := by
  unfold total1 Vamvsa.total
  rw [List.map_congr_left fun a ha => by rw [cost_law hg ks (hg.asked a ha).1]]
theorem sub_sorted {n : Nat} {k : List Nat} (h : k.Sublist (List.range n)) : (List.range n).filter (fun g => k.contains g) = k := by
  have h1 : ((List.range n).filter fun g => k.contains g).Pairwise (· < ·) := (rise_range n).sublist List.filter_sublist
  have h2 : k.Pairwise (· < ·) := (rise_range n).sublist h
  have hm : ∀ a, a ∈ (List.range n).filter (fun g => k.contains g) ↔ a ∈ k := fun a => by
    rw [List.mem_filter]
    exact ⟨fun z => by simpa using z.2, fun z => ⟨h.subset z, by simpa using z⟩⟩
  have perm : ((List.range n).filter fun g => k.contains g).Perm k := (List.perm_ext_iff_of_nodup (h1.imp fun h => Nat.ne_of_lt h) (h2.imp fun h => Nat.ne_of_lt h)).mpr hm
  exact perm.eq_of_pairwise (fun a b _ _ x y => absurd x (Nat.lt_asymm y)) h1 h2
theorem kept_law {n : Vamvsz.Now} (hg : GoodN n) : Vamvsa.sortedKept n.t n.k = n.k := by
  unfold Vamvsa.sortedKept
  have := hg.k
  unfold Vamvsa.groupings at this ⊢
  exact sub_sorted this
theorem room_law {n : Vamvsz.Now} (hg : GoodN n) : lines1 (szs n.t) n.k = Vamvsa.room n.t n.k := by
  unfold lines1 Vamvsa.room
  rw [kept_law hg]
  rw [List.map_congr_left fun k hk => szs_at (by rw [← szs_length]; exact kept_lt hg k hk)]
theorem paid_law {n : Vamvsz.Now} (hg : GoodN n) : paid1 n (szs n.t) n.k = Vamvsz.paid n := by
  unfold paid1 Vamvsz.paid Vamvsb.cost Vamvsb.upkeep Vamvsb.PER
  rw [total_law hg.t]
theorem told_law {n : Vamvsz.Now} (hg : GoodN n) : told1 n = 1 :: Vamvsz.nats [Vamvsz.paid n, Vamvsa.room n.t n.k] := by
  unfold told1
  rw [paid_law hg, room_law hg]
  rfl
/-! ### worths -/
theorem size_le {t : Vamvsa.Table} (g : Nat) : Vamvsa.sizeOf_ t g ≤ t.rows.length := by
  have put_len : ∀ (x : Vamvsa.Group) (l : List Vamvsa.Group), (Vamvsa.putGroup x l).length ≤ l.length + 1 := by
    intro x l
    induction l with
    | nil => exact Nat.le_refl _
    | cons y r ih =>
      unfold Vamvsa.putGroup
      split
      · rw [List.length_cons, List.length_cons]; omega
      · split
        · rw [List.length_cons, List.length_cons]; exact Nat.le_refl _
        · rw [List.length_cons, List.length_cons]; omega
  have key : ∀ (l acc : List Vamvsa.Group), (l.foldl (fun r x => Vamvsa.putGroup x r) acc).length ≤ acc.length + l.length := by
    intro l
    induction l with
    | nil => intro acc; exact Nat.le_refl _
    | cons x r ih =>
      intro acc
      rw [List.foldl_cons, List.length_cons]
      have h1 := ih (Vamvsa.putGroup x acc)
      have h2 := put_len x acc
      omega
  unfold Vamvsa.sizeOf_ Vamvsa.groupsOf Vamvsa.collect
  have := key (t.rows.map fun r => ⟨Vamvsa.keyOf (Vamvsa.width t) g r.vs, r.m, 1⟩) []
  rw [List.length_nil, List.length_map] at this
  omega
theorem cost_mono {t : Vamvsa.Table} (hg : Good t) {ks ks' : List Nat} (hs : ∀ k ∈ ks', k ∈ ks) {g : Nat} (hgl : g < 2 ^ t.cols.length) : cost1 t (szs t) ks g ≤ cost1 t (szs t) ks' g := by
  have h1 := readBy_least (szs t) ks g
  have h2 := readBy_least (szs t) ks' g
  unfold cost1
  cases e2 : readBy (szs t) ks' g with
  | none =>
    cases e1 : readBy (szs t) ks g with
    | none => exact Nat.le_refl _
    | some o =>
      rw [e1] at h1
      show (szs t).getD o 0 ≤ t.rows.length
      rw [szs_at (by rw [← szs_length]; exact h1.1.1)]
      exact size_le o
  | some o' =>
    rw [e2] at h2
    have hS : o' < (szs t).length ∧ o' &&& g = g ∧ o' ∈ ks := ⟨h2.1.1, h2.1.2.1, hs o' h2.1.2.2⟩
    cases e1 : readBy (szs t) ks g with
    | none => rw [e1] at h1; exact absurd hS (h1 o')
    | some o =>
      rw [e1] at h1
      have := h1.2 o' hS
      show (szs t).getD o 0 ≤ (szs t).getD o' 0
      omega
theorem sum_mono {α : Type} (f g : α → Nat) : ∀ l : List α, (∀ x ∈ l, f x ≤ g x) → (l.map f).sum ≤ (l.map g).sum
  | [], _ => Nat.le_refl _
  | a :: r, h => by
    rw [List.map_cons, List.map_cons, List.sum_cons, List.sum_cons]
    exact Nat.add_le_add (h a List.mem_cons_self) (sum_mono f g r fun x hx => h x (List.mem_cons_of_mem _ hx))
theorem total_mono {t : Vamvsa.Table} (hg : Good t) {ks ks' : List Nat} (hs : ∀ k ∈ ks', k ∈ ks) : total1 t (szs t) ks ≤ total1 t (szs t) ks' :=
  sum_mono _ _ _ fun a ha => Nat.mul_le_mul_left _ (cost_mono hg hs (hg.asked a ha).1)
theorem worth_law {n : Vamvsz.Now} (hg : GoodN n) (g : Nat) : worth1 n (szs n.t) g = (Vamvsz.worth n g : Int) := by
  have h := total_mono hg.t (ks := n.k) (ks' := n.k.filter fun x => x != g) fun k hk => (List.mem_filter.mp hk).1
  unfold worth1 Vamvsz.worth
  rw [← total_law hg.t, ← total_law hg.t]
  exact (Int.ofNat_sub h).symm
theorem idle_law {n : Vamvsz.Now} (hg : GoodN n) : idle1 n (szs n.t) = Vamvsz.idle n := by
  unfold idle1 Vamvsz.idle Vamvsb.PER
  apply List.filter_congr
  intro g _
  rw [worth_law hg]
  exact decide_eq_decide.mpr ⟨fun h => by omega, fun h => by omega⟩
theorem filter_range_get {α : Type} (p : α → Bool) : ∀ (l : List α), ((List.range l.length).filter fun i => (l[i]?).any p).length = (l.filter p).length := by
  intro l
  have h : ∀ (l : List α) (k : Nat), ((List.range' k l.length).filter fun i => (l[i - k]?).any p).length = (l.filter p).length := by
    intro l
    induction l with
    | nil => intro k; rfl
    | cons a r ih =>
      intro k
      rw [List.length_cons, List.range'_succ, List.filter_cons, Nat.sub_self, List.filter_cons]
      have e : ((List.range' (k + 1) r.length).filter fun i => ((a :: r)[i - k]?).any p) = (List.range' (k + 1) r.length).filter fun i => (r[i - (k + 1)]?).any p := by
        apply List.filter_congr
        intro i hi
        have := (List.mem_range'_1.mp hi).1
        rw [show i - k = (i - (k + 1)) + 1 by omega]
        rfl
      rw [e]
      show (if (p a) = true then _ else _ : List Nat).length = _
      by_cases q : p a = true
      · rw [if_pos q, if_pos q, List.length_cons, List.length_cons, ih]
      · rw [if_neg q, if_neg q, ih]
  have := h l 0
  rw [← List.range_eq_range'] at this
  exact this
theorem readers_law {n : Vamvsz.Now} (hg : GoodN n) (g : Nat) : readers1 n (szs n.t) g = (Vamvsz.readers n g).length := by
  unfold readers1 Vamvsz.readers
  rw [filter_range_get (fun a : Vamvsa.Ask => Vamvsa.reader n.t n.k a.g == some g), List.filter_map, List.length_map]
  congr 1
  apply List.filter_congr
  intro a ha
  show (readBy (szs n.t) n.k a.g == some g) = _
  rw [reader_law hg.t n.k (hg.t.asked a ha).1]
end G5
/-! M5: the best set. -/
namespace G5
open PySem PySem.Spec PyProof.Rows L2
open Vamvsb (State Item Price)
/-! ### sets by numbers -/
theorem bit_test (n i : Nat) : (n / 2 ^ i % 2 == 1) = n.testBit i := by
  rw [Nat.testBit_eq_decide_div_mod_eq, Bool.beq_eq_decide_eq]
theorem mem1_lt {n L : Nat} (h : n < 2 ^ L) (hL : L ≤ 16) : mem1 n = (List.range L).filter fun g => n / 2 ^ g % 2 == 1 :=
  range_tail n L (Nat.div_eq_of_lt h) 16 hL
theorem mem1_add {k i : Nat} (h : k < 2 ^ i) (hi : i < 16) : mem1 (2 ^ i + k) = mem1 k ++ [i] := by
  have h2 : 2 ^ i + k < 2 ^ (i + 1) := by rw [Nat.pow_succ]; omega
  rw [mem1_lt h2 (by omega), mem1_lt h (by omega), List.range_succ, List.filter_append]
  congr 1
  · apply List.filter_congr
    intro j hj
    have hj := List.mem_range.mp hj
    rw [bit_test, bit_test, Nat.testBit_two_pow_add_gt hj]
  · rw [List.filter_cons, bit_test, Nat.testBit_two_pow_add_eq, Nat.testBit_lt_two_pow h]
    rfl
theorem mem1_zero : mem1 0 = [] := by decide +kernel
theorem mem1_mem {k o : Nat} (ho : o < 16) : (mem1 k).contains o = (k &&& 2 ^ o != 0) := by
  have e : (mem1 k).contains o = k.testBit o := by
    unfold mem1
    rw [Bool.eq_iff_iff]
    simp only [List.contains_iff_mem, List.mem_filter, List.mem_range]
    rw [bit_test]
    exact ⟨fun h => h.2, fun h => ⟨ho, h⟩⟩
  rw [e, Bool.eq_iff_iff, bne_iff_ne, ne_eq]
  constructor
  · intro h z
    have := congrArg (fun n => Nat.testBit n o) z
    simp only [Nat.testBit_and, h, Nat.testBit_two_pow_self, Nat.zero_testBit] at this
    cases this
  · intro h
    cases q : k.testBit o with
    | true => rfl
    | false =>
      refine absurd (Nat.eq_of_testBit_eq fun j => ?_) h
      rw [Nat.testBit_and, Nat.testBit_two_pow, Nat.zero_testBit]
      by_cases z : o = j
      · rw [← z, q]; rfl
      · rw [decide_eq_false z, Bool.and_false]
theorem bySets_snoc (ss : List Nat) (s : Nat) : bySets (ss ++ [s]) = bySets ss ++ (bySets ss).map fun l => l + s := by
  unfold bySets
  rw [List.foldl_append]
  rfl
theorem lines1_app (ss : List Nat) (s : Nat) : ∀ ks : List Nat, (∀ k ∈ ks, k < ss.length) → lines1 (ss ++ [s]) ks = lines1 ss ks := by
  intro ks h
  unfold lines1
  rw [List.map_congr_left (g := fun k => ss.getD k 0) fun k hk => by rw [List.getD_eq_getElem?_getD, List.getD_eq_getElem?_getD, List.getElem?_append_left (h k hk)]]
theorem mem1_bound {k L : Nat} (h : k < 2 ^ L) (hL : L ≤ 16) : ∀ o ∈ mem1 k, o < L := fun o ho => by
  rw [mem1_lt h hL] at ho
  exact List.mem_range.mp (List.mem_filter.mp ho).1
theorem bySets_at_aux : ∀ (L : Nat) (ss : List Nat), ss.length = L → L ≤ 16 → ∀ k, k < 2 ^ L → (bySets ss).getD k 0 = lines1 ss (mem1 k)
  | 0, ss, hl, _, k, hk => by
    have hs : ss = [] := List.length_eq_zero_iff.mp hl
    subst hs
    have : k = 0 := by simpa using hk
    subst this
    rw [mem1_zero]
    rfl
  | L + 1, ss0, hl, hL, k, hk => by
    obtain ⟨ss, s, rfl⟩ : ∃ ss s, ss0 = ss ++ [s] := by
      have hne : ss0 ≠ [] := fun z => by rw [z] at hl; cases hl
      exact ⟨ss0.dropLast, ss0.getLast hne, (List.dropLast_concat_getLast hne).symm⟩
    have hl : ss.length = L := by rw [List.length_append, List.length_singleton] at hl; omega
    have hlen := bySets_len ss
    rw [hl] at hlen
    rw [bySets_snoc]
    rcases Nat.lt_or_ge k (2 ^ L) with q | q
    · rw [List.getD_eq_getElem?_getD, List.getElem?_append_left (by rw [hlen]; exact q), ← List.getD_eq_getElem?_getD, bySets_at_aux L ss hl (by omega) k q, lines1_app ss s _ fun o ho => by rw [hl]; exact mem1_bound q (by omega) o ho]
    · obtain ⟨k', rfl⟩ : ∃ k', k = 2 ^ L + k' := ⟨k - 2 ^ L, by omega⟩
      have hk' : k' < 2 ^ L := by rw [Nat.pow_succ] at hk; omega
      have ih := bySets_at_aux L ss hl (by omega) k' hk'
      rw [List.getD_eq_getElem?_getD, List.getElem?_append_right (by rw [hlen]; omega), hlen, Nat.add_sub_cancel_left, List.getElem?_map, mem1_add hk' (by omega)]
      have hget : (bySets ss)[k']? = some (lines1 ss (mem1 k')) := by
        rw [← ih]
        exact get_getD (by rw [hlen]; exact hk')
      rw [hget]
      show lines1 ss (mem1 k') + s = lines1 (ss ++ [s]) (mem1 k' ++ [L])
      have e1 := lines1_app ss s (mem1 k') fun o ho => by rw [hl]; exact mem1_bound hk' (by omega) o ho
      unfold lines1 at e1 ⊢
      rw [List.map_append, List.sum_append, e1, List.map_cons, List.map_nil, List.sum_cons, List.sum_nil, List.getD_eq_getElem?_getD, ← hl, List.getElem?_append_right (Nat.le_refl _), Nat.sub_self]
      rfl
theorem bySets_at {ss : List Nat} (h : ss.length ≤ 16) {k : Nat} (hk : k < 2 ^ ss.length) : (bySets ss).getD k 0 = lines1 ss (mem1 k) := bySets_at_aux _ ss rfl h k hk
theorem counts_at {L : Nat} (h : L ≤ 16) {k : Nat} (hk : k < 2 ^ L) : (bySets (List.replicate L 1)).getD k 0 = (mem1 k).length := by
  rw [bySets_at (by rw [List.length_replicate]; exact h) (by rw [List.length_replicate]; exact hk)]
  unfold lines1
  rw [List.map_congr_left (g := fun _ => 1) fun o ho => by
    have := mem1_bound hk h o ho
    rw [List.getD_eq_getElem?_getD, List.getElem?_replicate, if_pos this]
    rfl]
  have : ∀ l : List Nat, (l.map fun _ => 1).sum = l.length := fun l => by
    induction l with
    | nil => rfl
    | cons a r ih => rw [List.map_cons, List.sum_cons, ih, List.length_cons]; omega
  exact this _
/-! ### costs of a set -/
theorem tog_sum (f : Nat → Nat) : ∀ (qs l : List (Nat × Nat)), Once l → ((qs.foldl putT l).map fun p => p.2 * f p.1).sum = (l.map fun p => p.2 * f p.1).sum + (qs.map fun p => p.2 * f p.1).sum
  | [], l, _ => rfl
  | p :: r, l, hl0 => by
    rw [List.foldl_cons, tog_sum f r (putT l p) (once_put hl0), List.map_cons, List.sum_cons]
    have key : ∀ l : List (Nat × Nat), Once l → ((putT l p).map fun p => p.2 * f p.1).sum = (l.map fun p => p.2 * f p.1).sum + p.2 * f p.1 := fun l hl => by
      unfold putT
      by_cases e : (l.any fun q => decide (q.1 = p.1)) = true
      · rw [if_pos e]
        induction l with
        | nil => cases e
        | cons a s ih =>
          have h1 := List.nodup_cons.mp (show (a.1 :: s.map (·.1)).Nodup from hl)
          rw [List.map_cons, List.map_cons, List.sum_cons, List.map_cons, List.sum_cons]
          by_cases z : a.1 = p.1
          · rw [if_pos z]
            have hs : (s.map fun q => if q.1 = p.1 then (q.1, q.2 + p.2) else q) = s := by
              have : (s.map fun q => if q.1 = p.1 then (q.1, q.2 + p.2) else q) = s.map id := by
                apply List.map_congr_left
                intro q hq
                rw [if_neg fun y => h1.1 (by rw [z, ← y]; exact List.mem_map_of_mem (f := (·.1)) hq)]
                rfl
              rw [this, List.map_id]
            rw [hs]
            show (a.2 + p.2) * f a.1 + _ = a.2 * f a.1 + _ + p.2 * f p.1
            rw [z, Nat.add_mul]
            omega
          · rw [if_neg z]
            rw [List.any_cons, decide_eq_false z, Bool.false_or] at e
            rw [ih h1.2 e]
            omega
      · rw [if_neg e, List.map_append, List.sum_append]
        rfl
    rw [key l hl0]
    omega
theorem setCost_law {t : Vamvsa.Table} {ss : List Nat} (hss : ss.length ≤ 16) {k : Nat} (hk : k < 2 ^ ss.length) : setCost (rows1 t ss) t.rows.length k = total1 t ss (mem1 k) := by
  unfold setCost rows1 total1
  rw [List.map_map]
  have own : ∀ g, own1 t.rows.length k (row1 ss g) = cost1 t ss (mem1 k) g := fun g => by
    unfold own1 row1 cost1 readBy
    rw [List.find?_map]
    have e : (readable ss g).find? ((fun p : Nat × Nat => k &&& p.1 != 0) ∘ fun o => (2 ^ o, ss.getD o 0)) = (readable ss g).find? fun o => (mem1 k).contains o := by
      have : ∀ l : List Nat, (∀ o ∈ l, o < 16) → l.find? ((fun p : Nat × Nat => k &&& p.1 != 0) ∘ fun o => (2 ^ o, ss.getD o 0)) = l.find? fun o => (mem1 k).contains o := by
        intro l
        induction l with
        | nil => intro _; rfl
        | cons a r ih =>
          intro h
          rw [List.find?_cons, List.find?_cons, mem1_mem (h a List.mem_cons_self), ih fun o ho => h o (List.mem_cons_of_mem _ ho)]
          rfl
      exact this _ fun o ho => by have := (mem_readable.mp ho).1; omega
    rw [e]
    cases (readable ss g).find? fun o => (mem1 k).contains o <;> rfl
  have e1 : ((fun r : Nat × List (Nat × Nat) => r.1 * own1 t.rows.length k r.2) ∘ fun p : Nat × Nat => (p.2, row1 ss p.1)) = fun p => p.2 * cost1 t ss (mem1 k) p.1 := by
    funext p
    show p.2 * own1 t.rows.length k (row1 ss p.1) = _
    rw [own]
  rw [e1]
  unfold tog
  rw [tog_sum (cost1 t ss (mem1 k)) _ [] List.nodup_nil]
  rw [List.map_nil, List.sum_nil, Nat.zero_add, List.map_map]
  rfl
/-! ### the least of all sets -/
/-- cost, lines, number -/
abbrev Tri := Nat × Nat × Nat
def triLe (a b : Tri) : Prop := a.1 < b.1 ∨ (a.1 = b.1 ∧ (a.2.1 < b.2.1 ∨ (a.2.1 = b.2.1 ∧ a.2.2 ≤ b.2.2)))
theorem triLe_eq {a b : Tri} (h1 : triLe a b) (h2 : triLe b a) : a = b := by
  obtain ⟨a1, a2, a3⟩ := a
  obtain ⟨b1, b2, b3⟩ := b
  unfold triLe at h1 h2
  simp only at h1 h2
  have : a1 = b1 ∧ a2 = b2 ∧ a3 = b3 := by omega
  obtain ⟨rfl, rfl, rfl⟩ := this
  rfl
def triOf (n : Vamvsz.Now) (k : Nat) : Tri := (paid1 n (szs n.t) (mem1 k), lines1 (szs n.t) (mem1 k), k)
/-- whether a set may be -/
def May (n : Vamvsz.Now) (k : Nat) : Prop := k = 0 ∨ lines1 (szs n.t) (mem1 k) ≤ n.m.room
theorem step_law {n : Vamvsz.Now} (hg : GoodN n) {b : Tri} {k : Nat} (hk : k < 2 ^ (szs n.t).length) : bestStep n (szs n.t) b k = if lines1 (szs n.t) (mem1 k) ≤ n.m.room ∧ lessP ((triOf n k).1, (triOf n k).2.1) (b.1, b.2.1) = true then triOf n k else b := by
  have h16 := szs_len hg.t
  unfold bestStep triOf
  rw [bySets_at h16 hk, counts_at h16 hk, setCost_law h16 hk]
  have e : 2 * n.m.changes * (mem1 k).length + total1 n.t (szs n.t) (mem1 k) = paid1 n (szs n.t) (mem1 k) := by unfold paid1; omega
  show (if lines1 (szs n.t) (mem1 k) ≤ n.m.room ∧ 2 * n.m.changes * (mem1 k).length ≤ b.1 then (if lessP (2 * n.m.changes * (mem1 k).length + total1 n.t (szs n.t) (mem1 k), lines1 (szs n.t) (mem1 k)) (b.1, b.2.1) = true then _ else b) else b) = _
  rw [e]
  by_cases h1 : lines1 (szs n.t) (mem1 k) ≤ n.m.room
  · by_cases h2 : 2 * n.m.changes * (mem1 k).length ≤ b.1
    · rw [if_pos ⟨h1, h2⟩]
      by_cases h3 : lessP (paid1 n (szs n.t) (mem1 k), lines1 (szs n.t) (mem1 k)) (b.1, b.2.1) = true
      · rw [if_pos h3, if_pos ⟨h1, h3⟩]
      · rw [if_neg h3, if_neg fun z => h3 z.2]
    · rw [if_neg fun z => h2 z.2, if_neg]
      rintro ⟨_, h3⟩
      unfold lessP at h3
      simp only [Bool.or_eq_true, Bool.and_eq_true, decide_eq_true_eq, beq_iff_eq] at h3
      omega
  · rw [if_neg fun z => h1 z.1, if_neg fun z => h1 z.1]
theorem lessP_iff {a b : Nat × Nat} : lessP a b = true ↔ a.1 < b.1 ∨ (a.1 = b.1 ∧ a.2 < b.2) := by
  unfold lessP
  simp only [Bool.or_eq_true, Bool.and_eq_true, decide_eq_true_eq, beq_iff_eq]
theorem best_least {n : Vamvsz.Now} (hg : GoodN n) : ∀ i, i < 2 ^ (szs n.t).length → ∃ j, j ≤ i ∧ May n j ∧ bestN n (szs n.t) i = triOf n j ∧ ∀ k, k ≤ i → May n k → triLe (triOf n j) (triOf n k)
  | 0, h => by
    refine ⟨0, Nat.le_refl _, .inl rfl, ?_, fun k hk _ => ?_⟩
    · show (setCost _ _ 0, 0, 0) = _
      rw [setCost_law (szs_len hg.t) h]
      unfold triOf paid1 lines1
      rw [mem1_zero]
      rfl
    · have : k = 0 := by omega
      subst this
      exact .inr ⟨rfl, .inr ⟨rfl, Nat.le_refl _⟩⟩
  | i + 1, h => by
    obtain ⟨j, hj, hm, he, hl⟩ := best_least hg i (by omega)
    have es : bestN n (szs n.t) (i + 1) = bestStep n (szs n.t) (bestN n (szs n.t) i) (i + 1) := rfl
    rw [es, step_law hg h, he]
    have tj : (triOf n j).2.2 = j := rfl
    have tk : (triOf n (i + 1)).2.2 = i + 1 := rfl
    by_cases q : lines1 (szs n.t) (mem1 (i + 1)) ≤ n.m.room ∧ lessP ((triOf n (i + 1)).1, (triOf n (i + 1)).2.1) ((triOf n j).1, (triOf n j).2.1) = true
    · rw [if_pos q]
      refine ⟨i + 1, Nat.le_refl _, .inr q.1, rfl, fun k hk hkm => ?_⟩
      have q2 := lessP_iff.mp q.2
      rcases Nat.lt_or_ge i k with z | z
      · have : k = i + 1 := by omega
        subst this
        exact .inr ⟨rfl, .inr ⟨rfl, Nat.le_refl _⟩⟩
      · have := hl k z hkm
        unfold triLe at this ⊢
        simp only at q2
        omega
    · rw [if_neg q]
      refine ⟨j, by omega, hm, rfl, fun k hk hkm => ?_⟩
      rcases Nat.lt_or_ge i k with z | z
      · have : k = i + 1 := by omega
        subst this
        have hr : lines1 (szs n.t) (mem1 (i + 1)) ≤ n.m.room := by
          rcases hkm with y | y
          · omega
          · exact y
        have q2 : ¬ lessP ((triOf n (i + 1)).1, (triOf n (i + 1)).2.1) ((triOf n j).1, (triOf n j).2.1) = true := fun y => q ⟨hr, y⟩
        rw [lessP_iff] at q2
        unfold triLe
        simp only at q2
        omega
      · exact hl k z hkm
/-! ### the specification's walk -/
def leaves : List Item → State → List State
  | [], s => [s]
  | x :: r, s => leaves r s ++ leaves r (Vamvsb.add s x)
theorem walk_leaves {A : Type} (f : A → State → A) : ∀ (l : List Item) (s : State) (a : A), Vamvsb.walk f l s a = (leaves l s).foldl f a
  | [], s, a => rfl
  | x :: r, s, a => by
    show Vamvsb.walk f r (Vamvsb.add s x) (Vamvsb.walk f r s a) = _
    rw [walk_leaves f r s a, walk_leaves f r, leaves, List.foldl_append]
/-- a state by its number -/
structure StOf (t : Vamvsa.Table) (s : State) (k : Nat) : Prop where
  kept : s.kept = mem1 k
  code : s.code = k
  room : s.room = lines1 (szs t) (mem1 k)
  reads : s.reads = t.asks.map fun a => cost1 t (szs t) (mem1 k) a.g
theorem item_at {t : Vamvsa.Table} {i : Nat} (hi : i < 2 ^ t.cols.length) : (Vamvsb.items t)[i]? = some ⟨i, (szs t).getD i 0, t.asks.map fun a => Vamvsa.canFrom t.cols.length i a.g⟩ := by
  unfold Vamvsb.items Vamvsa.groupings Vamvsa.width
  rw [List.getElem?_map, List.getElem?_range hi, szs_at hi]
  rfl
theorem cost_add {t : Vamvsa.Table} (hg : Good t) {ks : List Nat} {i g : Nat} (hi : i < 2 ^ t.cols.length) (hgl : g < 2 ^ t.cols.length) : cost1 t (szs t) (ks ++ [i]) g = if i &&& g = g then Nat.min (cost1 t (szs t) ks g) ((szs t).getD i 0) else cost1 t (szs t) ks g := by
  have h1 := readBy_least (szs t) ks g
  have h2 := readBy_least (szs t) (ks ++ [i]) g
  have hil : i < (szs t).length := by rw [szs_length]; exact hi
  have hle : (szs t).getD i 0 ≤ t.rows.length := by rw [szs_at hi]; exact size_le i
  by_cases hc : i &&& g = g
  · rw [if_pos hc]
    unfold cost1
    cases e2 : readBy (szs t) (ks ++ [i]) g with
    | none =>
      rw [e2] at h2
      exact absurd ⟨hil, hc, List.mem_append_right _ (List.mem_singleton.mpr rfl)⟩ (h2 i)
    | some o' =>
      rw [e2] at h2
      have hi2 := h2.2 i ⟨hil, hc, List.mem_append_right _ (List.mem_singleton.mpr rfl)⟩
      cases e1 : readBy (szs t) ks g with
      | none =>
        rw [e1] at h1
        show (szs t).getD o' 0 = Nat.min t.rows.length ((szs t).getD i 0)
        rcases List.mem_append.mp h2.1.2.2 with z | z
        · exact absurd ⟨h2.1.1, h2.1.2.1, z⟩ (h1 o')
        · rw [List.mem_singleton.mp z]
          exact (Nat.min_eq_right hle).symm
      | some o =>
        rw [e1] at h1
        show (szs t).getD o' 0 = Nat.min ((szs t).getD o 0) ((szs t).getD i 0)
        have ho2 := h2.2 o ⟨h1.1.1, h1.1.2.1, List.mem_append_left _ h1.1.2.2⟩
        have hmin : Nat.min ((szs t).getD o 0) ((szs t).getD i 0) = min ((szs t).getD o 0) ((szs t).getD i 0) := rfl
        rw [hmin]
        rcases List.mem_append.mp h2.1.2.2 with z | z
        · have := h1.2 o' ⟨h2.1.1, h2.1.2.1, z⟩
          omega
        · rw [List.mem_singleton.mp z] at ho2 ⊢
          omega
  · rw [if_neg hc]
    have e : (fun o => o < (szs t).length ∧ o &&& g = g ∧ o ∈ ks ++ [i]) = fun o => o < (szs t).length ∧ o &&& g = g ∧ o ∈ ks := by
      funext o
      apply propext
      constructor
      · rintro ⟨a, b, d⟩
        rcases List.mem_append.mp d with z | z
        · exact ⟨a, b, z⟩
        · rw [List.mem_singleton.mp z] at b; exact absurd b hc
      · rintro ⟨a, b, d⟩
        exact ⟨a, b, List.mem_append_left _ d⟩
    rw [e] at h2
    unfold cost1
    rw [least_eq h2 h1]
theorem st_add {t : Vamvsa.Table} (hg : Good t) {s : State} {k i : Nat} (h : StOf t s k) (hk : k < 2 ^ i) (hi : i < 2 ^ t.cols.length) : StOf t (Vamvsb.add s ⟨i, (szs t).getD i 0, t.asks.map fun a => Vamvsa.canFrom t.cols.length i a.g⟩) (2 ^ i + k) := by
  have hi16 : i < 16 := by have := szs_len hg; rw [szs_length] at this; omega
  refine ⟨?_, ?_, ?_, ?_⟩
  · show s.kept ++ [i] = _
    rw [h.kept, mem1_add hk hi16]
  · show s.code + 2 ^ i = _
    rw [h.code]
    omega
  · show s.room + (szs t).getD i 0 = _
    rw [h.room, mem1_add hk hi16]
    unfold lines1
    rw [List.map_append, List.sum_append, List.map_cons, List.map_nil, List.sum_cons, List.sum_nil, Nat.add_zero]
  · show ((s.reads.zip (t.asks.map fun a => Vamvsa.canFrom t.cols.length i a.g)).map fun y => if y.2 = true then Nat.min y.1 ((szs t).getD i 0) else y.1) = _
    rw [h.reads, List.zip_map', List.map_map]
    apply List.map_congr_left
    intro a ha
    have hgl := (hg.asked a ha).1
    show (if Vamvsa.canFrom t.cols.length i a.g = true then Nat.min (cost1 t (szs t) (mem1 k) a.g) ((szs t).getD i 0) else cost1 t (szs t) (mem1 k) a.g) = _
    rw [mem1_add hk hi16, cost_add hg hi hgl, can_iff hg.cols hi hgl]
    by_cases q : i &&& a.g = a.g
    · rw [if_pos (decide_eq_true q), if_pos q]
    · rw [if_neg (by rw [decide_eq_false q]; decide), if_neg q]
theorem leaves_all {t : Vamvsa.Table} (hg : Good t) : ∀ (d i k : Nat) (s : State), i + d = 2 ^ t.cols.length → StOf t s k → k < 2 ^ i →
    (∀ s' ∈ leaves ((Vamvsb.items t).drop i) s, ∃ k', StOf t s' k' ∧ k' < 2 ^ (2 ^ t.cols.length)) ∧ ∀ k', k' < 2 ^ (2 ^ t.cols.length) → k' % 2 ^ i = k → ∃ s' ∈ leaves ((Vamvsb.items t).drop i) s, StOf t s' k'
  | 0, i, k, s, he, h, hk => by
    have hl : (Vamvsb.items t).length = 2 ^ t.cols.length := by unfold Vamvsb.items Vamvsa.groupings Vamvsa.width; rw [List.length_map, List.length_range]
    have hd : (Vamvsb.items t).drop i = [] := List.drop_eq_nil_of_le (by omega)
    rw [hd]
    have ei : i = 2 ^ t.cols.length := by omega
    refine ⟨fun s' hs => ⟨k, by rw [List.mem_singleton.mp hs]; exact h, by rw [← ei]; exact hk⟩, fun k' hk' hm => ⟨s, List.mem_singleton.mpr rfl, ?_⟩⟩
    rw [ei, Nat.mod_eq_of_lt hk'] at hm
    rw [hm]
    exact h
  | d + 1, i, k, s, he, h, hk => by
    have hi : i < 2 ^ t.cols.length := by omega
    rw [drop_get (item_at hi)]
    have h2 := st_add hg h hk hi
    have hk2 : 2 ^ i + k < 2 ^ (i + 1) := by rw [Nat.pow_succ]; omega
    obtain ⟨a1, a2⟩ := leaves_all hg d (i + 1) k s (by omega) h (by rw [Nat.pow_succ]; omega)
    obtain ⟨b1, b2⟩ := leaves_all hg d (i + 1) (2 ^ i + k) _ (by omega) h2 hk2
    refine ⟨fun s' hs => ?_, fun k' hk' hm => ?_⟩
    · rcases List.mem_append.mp hs with z | z
      · exact a1 s' z
      · exact b1 s' z
    · have hp := Nat.two_pow_pos i
      have hmm : k' % 2 ^ (i + 1) = k ∨ k' % 2 ^ (i + 1) = 2 ^ i + k := by
        have h3 : k' % 2 ^ (i + 1) % 2 ^ i = k := by rw [Nat.pow_succ, Nat.mod_mul_right_mod]; exact hm
        have h4 : k' % 2 ^ (i + 1) < 2 ^ (i + 1) := Nat.mod_lt _ (Nat.two_pow_pos _)
        rw [Nat.pow_succ] at h4
        rcases Nat.lt_or_ge (k' % 2 ^ (i + 1)) (2 ^ i) with z | z
        · rw [Nat.mod_eq_of_lt z] at h3; exact .inl h3
        · right
          rw [Nat.mod_eq_sub_mod z, Nat.mod_eq_of_lt (by rw [Nat.pow_succ] at z ⊢; omega)] at h3
          omega
      rcases hmm with z | z
      · obtain ⟨s', q1, q2⟩ := a2 k' hk' z
        exact ⟨s', List.mem_append_left _ q1, q2⟩
      · obtain ⟨s', q1, q2⟩ := b2 k' hk' z
        exact ⟨s', List.mem_append_right _ q1, q2⟩
theorem st_zero {t : Vamvsa.Table} : StOf t (Vamvsb.firstState t) 0 := by
  refine ⟨by rw [mem1_zero]; rfl, rfl, by rw [mem1_zero]; rfl, ?_⟩
  show (t.asks.map fun _ => t.rows.length) = _
  apply List.map_congr_left
  intro a _
  rw [mem1_zero]
  unfold cost1 readBy
  rw [List.find?_eq_none.mpr fun o _ => by simp]
theorem price_of {n : Vamvsz.Now} {s : State} {k : Nat} (h : StOf n.t s k) : ((Vamvsb.priceOf n.t n.m s).cost, (Vamvsb.priceOf n.t n.m s).room, (Vamvsb.priceOf n.t n.m s).code) = triOf n k ∧ (Vamvsb.priceOf n.t n.m s).kept = mem1 k := by
  refine ⟨?_, h.kept⟩
  unfold Vamvsb.priceOf Vamvsb.stateCost Vamvsb.readCost Vamvsb.upkeep Vamvsb.PER triOf paid1 total1
  rw [h.reads, h.kept, h.room, h.code]
  have e : ((n.t.asks.map fun a => cost1 n.t (szs n.t) (mem1 k) a.g).zip n.t.asks) = n.t.asks.map fun a => (cost1 n.t (szs n.t) (mem1 k) a.g, a) := by
    have h9 : ((n.t.asks.map fun a => cost1 n.t (szs n.t) (mem1 k) a.g).zip (n.t.asks.map fun a => a)) = n.t.asks.map fun a => (cost1 n.t (szs n.t) (mem1 k) a.g, a) := List.zip_map'
    rw [List.map_id'] at h9
    exact h9
  rw [e, List.map_map]
  rfl
theorem less_iff {a b : Price} : Vamvsb.priceLess a b = true ↔ ¬ triLe (b.cost, b.room, b.code) (a.cost, a.room, a.code) := by
  unfold Vamvsb.priceLess triLe
  simp only [Bool.or_eq_true, Bool.and_eq_true, decide_eq_true_eq, beq_iff_eq]
  omega
theorem tri_trans {a b d : Tri} (h1 : triLe a b) (h2 : triLe b d) : triLe a d := by
  unfold triLe at *
  omega
theorem tri_refl (a : Tri) : triLe a a := .inr ⟨rfl, .inr ⟨rfl, Nat.le_refl _⟩⟩
theorem tri_total {a b : Tri} (h : ¬ triLe a b) : triLe b a := by
  unfold triLe at *
  omega
abbrev pTri (p : Price) : Tri := (p.cost, p.room, p.code)
/-- the fold over the leaves -/
abbrev pF (n : Vamvsz.Now) (b : Price) (s : State) : Price := if n.m.room < s.room then b else Vamvsb.lesser b (Vamvsb.priceOf n.t n.m s)
theorem fold_least {n : Vamvsz.Now} : ∀ (l : List State) (b r : Price), l.foldl (pF n) b = r →
    (r = b ∨ ∃ s ∈ l, s.room ≤ n.m.room ∧ r = Vamvsb.priceOf n.t n.m s) ∧ triLe (pTri r) (pTri b) ∧ ∀ s ∈ l, s.room ≤ n.m.room → triLe (pTri r) (pTri (Vamvsb.priceOf n.t n.m s))
  | [], b, r, h => by
    have h : b = r := h
    subst h
    exact ⟨.inl rfl, tri_refl _, fun s hs => by cases hs⟩
  | s :: l, b, r, h => by
    rw [List.foldl_cons] at h
    obtain ⟨h1, h2, h3⟩ := fold_least (n := n) l _ r h
    unfold pF at h1 h2
    by_cases q : n.m.room < s.room
    · rw [if_pos q] at h1 h2
      refine ⟨?_, h2, fun s' hs hr => ?_⟩
      · rcases h1 with z | ⟨s', z1, z2⟩
        · exact .inl z
        · exact .inr ⟨s', List.mem_cons_of_mem _ z1, z2⟩
      · rcases List.mem_cons.mp hs with z | z
        · rw [z] at hr; omega
        · exact h3 s' z hr
    · rw [if_neg q] at h1 h2
      unfold Vamvsb.lesser at h1 h2
      by_cases q2 : Vamvsb.priceLess (Vamvsb.priceOf n.t n.m s) b = true
      · rw [if_pos q2] at h1 h2
        have q3 := tri_total (less_iff.mp q2)
        refine ⟨.inr ?_, tri_trans h2 q3, fun s' hs hr => ?_⟩
        · rcases h1 with z | ⟨s', z1, z2⟩
          · exact ⟨s, List.mem_cons_self, by omega, z⟩
          · exact ⟨s', List.mem_cons_of_mem _ z1, z2⟩
        · rcases List.mem_cons.mp hs with z | z
          · rw [z]; exact h2
          · exact h3 s' z hr
      · rw [if_neg q2] at h1 h2
        have q3 : triLe (pTri b) (pTri (Vamvsb.priceOf n.t n.m s)) := Classical.byContradiction fun z => q2 (less_iff.mpr z)
        refine ⟨?_, h2, fun s' hs hr => ?_⟩
        · rcases h1 with z | ⟨s', z1, z2⟩
          · exact .inl z
          · exact .inr ⟨s', List.mem_cons_of_mem _ z1, z2⟩
        · rcases List.mem_cons.mp hs with z | z
          · rw [z]; exact tri_trans h2 q3
          · exact h3 s' z hr
/-- the best set is the specification's -/
theorem best_law {n : Vamvsz.Now} (hg : GoodN n) : bestN n (szs n.t) (2 ^ (szs n.t).length - 1) = pTri (Vamvsz.best n) ∧ mem1 (Vamvsz.best n).code = (Vamvsz.best n).kept ∧ (Vamvsz.best n).code < 65536 := by
  have h16 := szs_len hg.t
  have hL : 2 ^ (szs n.t).length = 2 ^ (2 ^ n.t.cols.length) := by rw [szs_length]
  have hpos := Nat.two_pow_pos (szs n.t).length
  obtain ⟨j, hj, hjm, hje, hjl⟩ := best_least hg (2 ^ (szs n.t).length - 1) (by omega)
  obtain ⟨a1, a2⟩ := leaves_all hg.t (2 ^ n.t.cols.length) 0 0 _ (by omega) st_zero (by decide)
  rw [List.drop_zero] at a1 a2
  have eb : Vamvsz.best n = (leaves (Vamvsb.items n.t) (Vamvsb.firstState n.t)).foldl (pF n) (Vamvsb.priceOf n.t n.m (Vamvsb.firstState n.t)) := by
    unfold Vamvsz.best Vamvsb.bestSet
    exact walk_leaves _ _ _ _
  obtain ⟨f1, f2, f3⟩ := fold_least (n := n) (leaves (Vamvsb.items n.t) (Vamvsb.firstState n.t)) (Vamvsb.priceOf n.t n.m (Vamvsb.firstState n.t)) _ eb.symm
  obtain ⟨p0, _⟩ := price_of (n := n) (st_zero (t := n.t))
  -- the result is some set's
  have fr : ∃ k, k < 2 ^ (szs n.t).length ∧ May n k ∧ pTri (Vamvsz.best n) = triOf n k ∧ (Vamvsz.best n).kept = mem1 k := by
    rcases f1 with z | ⟨s, hs, hr, z⟩
    · rw [z]
      exact ⟨0, hpos, .inl rfl, p0, (price_of st_zero).2⟩
    · obtain ⟨k, hst, hk⟩ := a1 s hs
      rw [z]
      refine ⟨k, by rw [hL]; exact hk, .inr (by rw [← hst.room]; exact hr), (price_of hst).1, (price_of hst).2⟩
  obtain ⟨k, hk, hkm, hke, hkk⟩ := fr
  have ecode : (Vamvsz.best n).code = k := congrArg (fun z : Tri => z.2.2) hke
  have l1 : triLe (triOf n k) (triOf n j) := by
    rw [← hke]
    rcases hjm with z | z
    · rw [z, ← p0]; exact f2
    · obtain ⟨s, hs, hst⟩ := a2 j (by rw [← hL]; omega) (Nat.mod_one j)
      rw [← (price_of hst).1]
      exact f3 s hs (by rw [hst.room]; exact z)
  have l2 := hjl k (by omega) hkm
  have := triLe_eq l2 l1
  refine ⟨by rw [hje, this, hke], by rw [ecode, hkk], ?_⟩
  rw [ecode]
  exact Nat.lt_of_lt_of_le hk (Nat.le_trans (Nat.pow_le_pow_right (by decide) h16) (by decide))
end G5
/-! R5: what is held, changed in its places; ask_question, ask_grouping; times. -/
namespace G5
open PySem PySem.Spec PyProof.Rows L2
variable {T : List NTab} {P : Program} {w : World} {K : PySem.W.Frag} {mg : Str → Option Value} {base : Heap} {c : Cs}
def lstA (a : VamvsBase.Answer) : List Int := a.value :: a.rest
def Wd.obj (wd : Wd) : Vamvsz.Obj := wd.cur.map fun x => ⟨x.n, (wd.held.map (·.n)).reverse⟩
section
variable {H G : Hp} {wd : Wd} {x : Stk}
theorem WdOk.setLq (p : WdOk T K c H G wd) (hx : wd.cur = some x) {qv : List V} {n : Vamvsz.Now} (hm : n.m = x.n.m) (ok : StkOk K c G { x with qv := qv, n := n }) : WdOk T K c (upd H x.lq (.lst qv)) G ⟨wd.h, wd.dh, wd.lh, some { x with qv := qv, n := n }, wd.held⟩ := by
  obtain ⟨h, dh, lh, cur, held⟩ := wd
  have hx : cur = some x := hx
  subst hx
  have ep := p.h
  subst ep
  obtain ⟨e1, e2⟩ := ov_upd (a := x.lq) (o := .lst x.qv) (u := .lst qv) (m1 := hdO c h dh lh (.ref x.s) ++ ([(lh, .lst (heldV held))] ++ [(x.s, stkI c x), (x.ds, .own x.s), (x.ll, .lst x.rv)])) (m2 := heldC c held) (G := G) (by
    have := p.lay
    unfold Wd.cells at this
    simpa [Stk.cells, curC, stockV] using this) mo_lst
  have e0 : hdO c h dh lh (.ref x.s) ++ ([(lh, HO.lst (heldV held))] ++ [(x.s, stkI c x), (x.ds, .own x.s), (x.ll, .lst x.rv)]) ++ (x.lq, .lst x.qv) :: heldC c held = Wd.cells c ⟨h, dh, lh, some x, held⟩ := by simp [Wd.cells, Stk.cells, curC, stockV]
  have e9 : hdO c h dh lh (.ref x.s) ++ ([(lh, HO.lst (heldV held))] ++ [(x.s, stkI c x), (x.ds, .own x.s), (x.ll, .lst x.rv)]) ++ (x.lq, .lst qv) :: heldC c held = Wd.cells c ⟨h, dh, lh, some { x with qv := qv, n := n }, held⟩ := by simp [Wd.cells, Stk.cells, curC, stockV, stkI, hm]
  rw [e0, e9] at e1
  rw [e9] at e2
  exact ⟨e1, e2, fun z hz => by cases hz; exact ok, p.held, p.len⟩
theorem WdOk.setLl (p : WdOk T K c H G wd) (hx : wd.cur = some x) {rv : List V} {n : Vamvsz.Now} (hm : n.m = x.n.m) (ok : StkOk K c G { x with rv := rv, n := n }) : WdOk T K c (upd H x.ll (.lst rv)) G ⟨wd.h, wd.dh, wd.lh, some { x with rv := rv, n := n }, wd.held⟩ := by
  obtain ⟨h, dh, lh, cur, held⟩ := wd
  have hx : cur = some x := hx
  subst hx
  have ep := p.h
  subst ep
  obtain ⟨e1, e2⟩ := ov_upd (a := x.ll) (o := .lst x.rv) (u := .lst rv) (m1 := hdO c h dh lh (.ref x.s) ++ ([(lh, .lst (heldV held))] ++ [(x.s, stkI c x), (x.ds, .own x.s)])) (m2 := (x.lq, .lst x.qv) :: heldC c held) (G := G) (by
    have := p.lay
    unfold Wd.cells at this
    simpa [Stk.cells, curC, stockV] using this) mo_lst
  have e0 : hdO c h dh lh (.ref x.s) ++ ([(lh, HO.lst (heldV held))] ++ [(x.s, stkI c x), (x.ds, .own x.s)]) ++ (x.ll, .lst x.rv) :: (x.lq, .lst x.qv) :: heldC c held = Wd.cells c ⟨h, dh, lh, some x, held⟩ := by simp [Wd.cells, Stk.cells, curC, stockV]
  have e9 : hdO c h dh lh (.ref x.s) ++ ([(lh, HO.lst (heldV held))] ++ [(x.s, stkI c x), (x.ds, .own x.s)]) ++ (x.ll, .lst rv) :: (x.lq, .lst x.qv) :: heldC c held = Wd.cells c ⟨h, dh, lh, some { x with rv := rv, n := n }, held⟩ := by simp [Wd.cells, Stk.cells, curC, stockV, stkI, hm]
  rw [e0, e9] at e1
  rw [e9] at e2
  exact ⟨e1, e2, fun z hz => by cases hz; exact ok, p.held, p.len⟩
theorem WdOk.setIns (p : WdOk T K c H G wd) (hx : wd.cur = some x) {kv : V} {n : Vamvsz.Now} (ok : StkOk K c G { x with kv := kv, n := n }) : WdOk T K c (upd H x.s (stkI c { x with kv := kv, n := n })) G ⟨wd.h, wd.dh, wd.lh, some { x with kv := kv, n := n }, wd.held⟩ := by
  obtain ⟨h, dh, lh, cur, held⟩ := wd
  have hx : cur = some x := hx
  subst hx
  have ep := p.h
  subst ep
  obtain ⟨e1, e2⟩ := ov_upd (a := x.s) (o := stkI c x) (u := stkI c { x with kv := kv, n := n }) (m1 := hdO c h dh lh (.ref x.s) ++ [(lh, .lst (heldV held))]) (m2 := [(x.ds, .own x.s), (x.ll, .lst x.rv), (x.lq, .lst x.qv)] ++ heldC c held) (G := G) (by
    have := p.lay
    unfold Wd.cells at this
    simpa [Stk.cells, curC, stockV] using this) mo_ins
  have e0 : hdO c h dh lh (.ref x.s) ++ [(lh, HO.lst (heldV held))] ++ (x.s, stkI c x) :: ([(x.ds, .own x.s), (x.ll, .lst x.rv), (x.lq, .lst x.qv)] ++ heldC c held) = Wd.cells c ⟨h, dh, lh, some x, held⟩ := by simp [Wd.cells, Stk.cells, curC, stockV]
  have e9 : hdO c h dh lh (.ref x.s) ++ [(lh, HO.lst (heldV held))] ++ (x.s, stkI c { x with kv := kv, n := n }) :: ([(x.ds, .own x.s), (x.ll, .lst x.rv), (x.lq, .lst x.qv)] ++ heldC c held) = Wd.cells c ⟨h, dh, lh, some { x with kv := kv, n := n }, held⟩ := by simp [Wd.cells, Stk.cells, curC, stockV, stkI]
  rw [e0, e9] at e1
  rw [e9] at e2
  exact ⟨e1, e2, fun z hz => by cases hz; exact ok, p.held, p.len⟩
theorem held_law (held : List Stk) (y : Stk) : (((held ++ [y]).drop (held.length + 1 - 20)).map (·.n)).reverse = (y.n :: (held.map (·.n)).reverse).take 20 := by
  rw [List.map_drop, List.reverse_drop, List.map_append, List.length_append, List.length_map, List.reverse_append]
  show ((y.n :: (held.map (·.n)).reverse)).take _ = _
  show ((y.n :: (held.map (·.n)).reverse)).take (held.length + 1 - (held.length + 1 - 20)) = _
  rcases Nat.lt_or_ge 20 (held.length + 1) with q | q
  · rw [show held.length + 1 - (held.length + 1 - 20) = 20 by omega]
  · rw [List.take_of_length_le (by rw [List.length_cons, List.length_reverse, List.length_map]; omega), List.take_of_length_le (by rw [List.length_cons, List.length_reverse, List.length_map]; omega)]
end
section
variable {X : Cx} {e : Expr} {σ : L2.St} {H G : Hp} {wd : Wd} {x : Stk} {pos : Pos}
/-- holder.stock, read -/
theorem ev_stock (g : Gf X.K X.mg c) (p : WdOk T X.K c H G wd) (hx : wd.cur = some x) (h : Ev T X RV e σ H (.ref wd.h)) (hb : attributeBase e "stock" X.env (eval e X.env) = eval e X.env := by rfl) : Ev T X (RNow X.K c) (.Attribute e "stock" pos) σ H x.n :=
  ev_fld (S := RV) (R := RNow X.K c) (y := .ref wd.h) h (fun H1 v u e => by
    cases e
    have h1 := p.hasS g u
    rw [hx] at h1
    exact ⟨_, h1, Mono.mono u (p.now hx)⟩) hb
theorem ev_stockV (g : Gf X.K X.mg c) (p : WdOk T X.K c H G wd) (hx : wd.cur = some x) (h : Ev T X RV e σ H (.ref wd.h)) (hb : attributeBase e "stock" X.env (eval e X.env) = eval e X.env := by rfl) : Ev T X RV (.Attribute e "stock" pos) σ H (.ref x.s) :=
  ev_fld (S := RV) (R := RV) (y := .ref wd.h) h (fun H1 v u e => by
    cases e
    have h1 := p.hasS g u
    rw [hx] at h1
    exact ⟨_, h1, rfl⟩) hb
end
/-! ### ask_question, ask_grouping -/
def SpAsk (T : List NTab) (K : PySem.W.Frag) (c : Cs) (ok : Vamvsz.Now → Int → Bool) (n : Int) : Sp := fun vs H Q E => Tb T H ∧ ∃ wd G x q, vs = [.ref wd.h, .int q] ∧ WdOk T K c H G wd ∧ wd.cur = some x ∧ (ok x.n q = true → ∀ H', Xt T H H' → Q .non H') ∧ (ok x.n q = false → RE T c E H n)
def okQ (n : Vamvsz.Now) (q : Int) : Bool := decide ((0 : Int) ≤ q) && decide (q < (n.t.asks.length : Int))
def okG (n : Vamvsz.Now) (q : Int) : Bool := decide ((0 : Int) ≤ q) && decide (q < ((2 ^ n.t.cols.length : Nat) : Int))
abbrev DAskQ (T : List NTab) (P : Program) (w : World) (K : PySem.W.Frag) (mg : Str → Option Value) (base : Heap) (c : Cs) : Prop := Df P w K mg base (L2.CX P w) 4 "ask_question" ["holder", "number"] (SpAsk T K c okQ (-3))
abbrev DAskG (T : List NTab) (P : Program) (w : World) (K : PySem.W.Frag) (mg : Str → Option Value) (base : Heap) (c : Cs) : Prop := Df P w K mg base (L2.CX P w) 4 "ask_grouping" ["holder", "number"] (SpAsk T K c okG (-2))
abbrev DCount (T : List NTab) (P : Program) (w : World) (K : PySem.W.Frag) (mg : Str → Option Value) (base : Heap) (c : Cs) : Prop := Df P w K mg base CX0 1 "grouping_count" ["table"] (Sp1 T (RTab K c) RN Good fun t => 2 ^ t.cols.length)
abbrev s_askq : Stmt := top 96
abbrev s_askg : Stmt := top 97
theorem sc_askq : FnScope ["holder", "number"] ["holder", "number"] (defScope s_askq) := ⟨rfl, rfl, rfl, by decide +kernel, rfl, by decide +kernel, by decide +kernel⟩
theorem sc_askg : FnScope ["holder", "number"] ["holder", "number"] (defScope s_askg) := ⟨rfl, rfl, rfl, by decide +kernel, rfl, by decide +kernel, by decide +kernel⟩
theorem ok_askq {f : Addr} {fd : FuncData} (g : Gf K mg c) (dS : DSo T P w K mg base c) (F : Fun K "ask_question" "ask_question" s_askq f fd) (hm : mg "ask_question" = some (.ref f)) (b : Binds K fd ["holder", "number"] []) : DAskQ T P w K mg base c := by
  refine okE F hm b sc_askq (fun vs H Q E h => by obtain ⟨_, wd, G, x, q, rfl, _⟩ := h; rfl) fun cdv A outer s H vs Q E hr h => ?_
  obtain ⟨ht, wd, G, x, q, rfl, p, hx, hok, her⟩ := h
  refine wb_expr (X := CxE P w K mg base ["holder", "number"] "ask_question" s_askq f cdv A outer s H E) ?_
  refine we_so (T := T) (c := c) (E' := E) (k := okQ x.n q) (n := -3) takeE (fun _ _ _ _ h => h) dS hr (by decide) ht ?_ (ev_gi g.gNO_QUESTION) (fun k H' u => wb_nil (hok k H' u)) her
  exact ev_chain (i := 0) (j := q) (k := (x.n.t.asks.length : Int)) op_leI op_ltI ev_int (vr 1 (R := RI) rfl) (ev_len (R := RAsk K) (xs := x.n.t.asks) g.len (ev_fld (S := RTab K c) (R := RL K (RAsk K)) (ev_fld (S := RNow K c) (R := RTab K c) (ev_stock g p hx (vr 0 rfl)) fun H1 v u r => r.table g) fun H1 v u r => r.asks g))
theorem ok_askg {f : Addr} {fd : FuncData} (g : Gf K mg c) (dC : DCount T P w K mg base c) (dS : DSo T P w K mg base c) (F : Fun K "ask_grouping" "ask_grouping" s_askg f fd) (hm : mg "ask_grouping" = some (.ref f)) (b : Binds K fd ["holder", "number"] []) : DAskG T P w K mg base c := by
  refine okE F hm b sc_askg (fun vs H Q E h => by obtain ⟨_, wd, G, x, q, rfl, _⟩ := h; rfl) fun cdv A outer s H vs Q E hr h => ?_
  obtain ⟨ht, wd, G, x, q, rfl, p, hx, hok, her⟩ := h
  refine wb_expr (X := CxE P w K mg base ["holder", "number"] "ask_grouping" s_askg f cdv A outer s H E) ?_
  refine we_so (T := T) (c := c) (E' := E) (k := okG x.n q) (n := -2) takeE (fun _ _ _ _ h => h) dS hr (by decide) ht ?_ (ev_gi g.gNO_GROUPING) (fun k H' u => wb_nil (hok k H' u)) her
  exact ev_chain (i := 0) (j := q) (k := ((2 ^ x.n.t.cols.length : Nat) : Int)) op_leI op_ltI ev_int (vr 1 (R := RI) rfl) (Ev.to (R := RN) (x := 2 ^ x.n.t.cols.length) (ev_c1 dC hr (by decide) ht (ev_fld (S := RNow K c) (R := RTab K c) (ev_stock g p hx (vr 0 rfl)) fun H1 v u r => r.table g) (p.cur x hx).good.t) fun _ _ _ h => h)
/-! ### deeds -/
def SpDeed (T : List NTab) (K : PySem.W.Frag) (c : Cs) (pre : Wd → List Int → List Int → Prop) (call : List Int → List Int → Vamvsz.Call) : Sp := fun vs H Q E => Tb T H ∧ ∃ wd G nv rv nums row, vs = [.ref wd.h, nv, rv] ∧ WdOk T K c H G wd ∧ RM RI G nv nums ∧ RM RI G rv row ∧ pre wd nums row ∧
  (∀ v H' G' wd', wd'.h = wd.h → Xt T G G' → WdOk T K c H' G' wd' → wd'.obj = (Vamvsz.step wd.obj (call nums row)).1 → RM RI H' v (lstA (Vamvsz.step wd.obj (call nums row)).2) → Q v H') ∧
  (∀ n, Vamvsz.step wd.obj (call nums row) = (wd.obj, VamvsBase.one n) → RE T c E H n)
abbrev DDeed (T : List NTab) (P : Program) (w : World) (K : PySem.W.Frag) (mg : Str → Option Value) (base : Heap) (c : Cs) (k : Nat) (n : Str) (pre : Wd → List Int → List Int → Prop) (call : List Int → List Int → Vamvsz.Call) : Prop := Df P w K mg base (L2.CX P w) k n ["holder", "numbers", "row"] (SpDeed T K c pre call)
theorem deed_len {pre : Wd → List Int → List Int → Prop} {call : List Int → List Int → Vamvsz.Call} : ∀ vs H Q E, SpDeed T K c pre call vs H Q E → vs.length = 3 := fun vs H Q E h => by
  obtain ⟨_, wd, G, nv, rv, nums, row, rfl, _⟩ := h
  rfl
/-- there is a table; so many numbers -/
def Has1 (k : Nat) : Wd → List Int → List Int → Prop := fun wd nums _ => wd.cur ≠ none ∧ nums.length = k
section
variable {X : Cx} {o : Expr} {σ : L2.St} {H G : Hp} {wd : Wd} {x : Stk} {sts : List Stmt} {D : Ends} {j : Nat} {pos p1 p2 pos' : Pos} {Q : VK}
/-- changed(holder) -/
theorem we_changed (F : DChanged T X.prog X.w X.K X.mg X.base c) (hr : Room j X.A) (hk : 4 ≤ j) (ht : Tb T H) (p : WdOk T X.K c H G wd) (hx : wd.cur = some x) (ho : ∀ Q : VK, Q (.ref wd.h) H → We X o σ H Q)
    (q : ∀ H' G' y lh', Xt T G G' → y.n = x.n → WdOk T X.K c H' G' ⟨wd.h, wd.dh, lh', some x, (wd.held ++ [y]).drop (wd.held.length + 1 - 20)⟩ → Q .non H')
    (hg : Gl X "changed" := by rfl) (he : starEach (o :: []) X.env = (false, eval o X.env) :: starEach [] X.env := by rfl) (hpl : (backTo pos (starEach [] X.env)).any (·.1) = false := by rfl) : We X (.Call (.Name "changed" p1) [o] [] pos) σ H Q :=
  we_callN F hr hk (Wa.of (pa_cons we pa_nil he) (ho _ ⟨ht, wd, G, x, rfl, p, hx, fun H' G' y lh' u e q2 => q H' G' y lh' u e (by rw [hx] at q2; exact q2)⟩)) hg (by decide) he hpl
/-- return state_told(holder.stock) -/
theorem wb_told (g : Gf X.K X.mg c) (F : DTold T X.prog X.w X.K X.mg X.base c) (hr : Room j X.A) (hk : 8 ≤ j) (ht : Tb T H) (p : WdOk T X.K c H G wd) (hx : wd.cur = some x) (ho : Ev T X RV o σ H (.ref wd.h)) (q : ∀ v H' G', Xt T G G' → WdOk T X.K c H' G' wd → RM RI H' v (1 :: Vamvsz.nats [Vamvsz.paid x.n, Vamvsa.room x.n.t x.n.k]) → D.rt v H')
    (hg : Gl X "state_told" := by rfl) (hb : attributeBase o "stock" X.env (eval o X.env) = eval o X.env := by rfl) (he : starEach (.Attribute o "stock" p2 :: []) X.env = (false, eval (.Attribute o "stock" p2) X.env) :: starEach [] X.env := by rfl) (hpl : (backTo pos (starEach [] X.env)).any (·.1) = false := by rfl) : Wb X (.Return (some (.Call (.Name "state_told" p1) [.Attribute o "stock" p2] [] pos)) pos' :: sts) D σ H := by
  refine wb_ret (T := T) (R := RM RI) (x := told1 x.n) (ev_c1 F hr hk ht (ev_stock g p hx ho hb) (p.cur x hx).good rfl hg (by decide) he hpl) fun v H' u r => ?_
  obtain ⟨G', p', u'⟩ := p.keep u
  rw [told_law (p.cur x hx).good] at r
  exact q v H' G' u' p' r
/-- a, b = numbers -/
theorem ws_num2 {n m : Str} {e : Expr} {a b : Int} {q1 q2 q3 : Pos} {kk : Nat} (i j : Nat) (hc : X.calm = true) (hN : X.N.Nodup) (h : Ev T X (RL X.K RI) e σ H [a, b]) (q : ∀ H', Xt T H H' → D.nx ((σ.set i (some (.int a))).set j (some (.int b))) H')
    (hi : X.N[i]? = some n := by rfl) (hx : Loc X.env.scope n := by first | exact .inl rfl | exact .inr rfl) (hf : X.fn n = true ∨ X.env.scope.names.lookup n = some .local := by exact .inl rfl)
    (hi2 : X.N[j]? = some m := by rfl) (hx2 : Loc X.env.scope m := by first | exact .inl rfl | exact .inr rfl) (hf2 : X.fn m = true ∨ X.env.scope.names.lookup m = some .local := by exact .inl rfl)
    (hn : (assignEach [.Name n q1, .Name m q2] X.env).length = 2 := by rfl) (hst : (assignEach [.Name n q1, .Name m q2] X.env).findIdx? (·.1) = none := by rfl) (g1 : (assignEach (.Name n q1 :: [.Name m q2]) X.env).map (·.2) = assign (.Name n q1) X.env :: (assignEach [.Name m q2] X.env).map (·.2) := by rfl)
    (g2 : (assignEach (.Name m q2 :: []) X.env).map (·.2) = assign (.Name m q2) X.env :: (assignEach [] X.env).map (·.2) := by rfl)
    (hs : swapsWithSole [.Tuple [.Name n q1, .Name m q2] kk q3] e pos.line X.env = pure false := by rfl) (hw : swappedStores [.Tuple [.Name n q1, .Name m q2] kk q3] e X.env = pure none := by rfl)
    (h1 : (assignEach [.Tuple [.Name n q1, .Name m q2] kk q3] X.env).map (·.2) = [assign (.Tuple [.Name n q1, .Name m q2] kk q3) X.env] := by rfl) : Ws X (.Assign [.Tuple [.Name n q1, .Name m q2] kk q3] e pos) D σ H :=
  Ws.of (ps_asg we (pg_lst hc (pgs_cons (pg_name hN hi hx hf) (pgs_cons (pg_name hN hi2 hx2 hf2) pgs_nil g2) g1) hn hst) hs hw h1) (h.now fun v H1 u ⟨l, vs, e1, e2, e3⟩ => by
    rw [all2_ints e3] at e2
    exact ⟨l, _, e1, e2, rfl, .int a, [.int b], rfl, .int b, [], rfl, rfl, q H1 u⟩)
end
theorem index_iff {q : Int} {n : Nat} : VamvsBase.index q n = if (decide ((0 : Int) ≤ q) && decide (q < (n : Int))) = true then some q.toNat else none := by
  unfold VamvsBase.index
  by_cases h : 0 ≤ q ∧ q < (n : Int)
  · rw [if_pos h, if_pos (by rw [decide_eq_true h.1, decide_eq_true h.2]; rfl)]
  · rw [if_neg h, if_neg]
    intro z
    rw [Bool.and_eq_true] at z
    exact h ⟨of_decide_eq_true z.1, of_decide_eq_true z.2⟩
theorem set_zip {α : Type} (f : α → α) : ∀ (l : List α) (i k : Nat) (x : α), l[i]? = some x → (l.zipIdx k).map (fun p => if p.2 = k + i then f p.1 else p.1) = l.set i (f x)
  | [], i, k, x, h => by simp at h
  | a :: r, 0, k, x, h => by
    have e : a = x := by simpa using h
    subst e
    rw [List.zipIdx_cons, List.map_cons, List.set_cons_zero, if_pos (by show k = k + 0; omega)]
    congr 1
    have : ((r.zipIdx (k + 1)).map fun p => if p.2 = k + 0 then f p.1 else p.1) = (r.zipIdx (k + 1)).map (·.1) := by
      apply List.map_congr_left
      intro p hp
      have := (List.mem_zipIdx hp).1
      rw [if_neg (by omega)]
    rw [this, List.zipIdx_map_fst]
  | a :: r, i + 1, k, x, h => by
    rw [List.zipIdx_cons, List.map_cons, List.set_cons_succ, if_neg (by show ¬ k = k + (i + 1); omega)]
    congr 1
    have := set_zip f r i (k + 1) x (by simpa using h)
    rw [show k + 1 + i = k + (i + 1) by omega] at this
    exact this
end G5
/-! M6: the specification's calls, case by case. -/
namespace G5
open PySem PySem.Spec PyProof.Rows L2
open Vamvsz (Now Held)
def nAsks (n : Now) (asks : List Vamvsa.Ask) : Now := ⟨⟨n.t.cols, n.t.rows, asks⟩, n.k, n.m⟩
def nRows (n : Now) (rows : List Vamvsa.Row) : Now := ⟨⟨n.t.cols, rows, n.t.asks⟩, n.k, n.m⟩
def nKept (n : Now) (k : List Nat) : Now := ⟨n.t, k, n.m⟩
def nTerms (n : Now) (r ch : Nat) : Now := ⟨n.t, n.k, ⟨r, ch⟩⟩
def okT (k : Int) : Bool := decide ((1 : Int) ≤ k) && decide (k ≤ (99 : Int))
theorem okQ_iff {n : Now} {q : Int} : okQ n q = true ↔ 0 ≤ q ∧ q < (n.t.asks.length : Int) := by unfold okQ; rw [Bool.and_eq_true, decide_eq_true_iff, decide_eq_true_iff]
theorem okG_iff {n : Now} {q : Int} : okG n q = true ↔ 0 ≤ q ∧ q < ((2 ^ n.t.cols.length : Nat) : Int) := by unfold okG; rw [Bool.and_eq_true, decide_eq_true_iff, decide_eq_true_iff]
theorem okT_iff {k : Int} : okT k = true ↔ 1 ≤ k ∧ k ≤ 99 := by unfold okT; rw [Bool.and_eq_true, decide_eq_true_iff, decide_eq_true_iff]
theorem index_yes {q : Int} {n : Nat} (h : 0 ≤ q ∧ q < (n : Int)) : VamvsBase.index q n = some q.toNat := if_pos h
theorem index_no {q : Int} {n : Nat} (h : ¬ (0 ≤ q ∧ q < (n : Int))) : VamvsBase.index q n = none := if_neg h
theorem bfalse {b : Bool} (h : b = false) {p : Prop} (hp : b = true ↔ p) : ¬ p := fun z => by rw [hp.mpr z] at h; cases h
variable {n : Now} {past : List Now}
theorem times_no (q k : Int) (h : okQ n q = false) : Vamvsz.timesCall ⟨n, past⟩ q k = (some ⟨n, past⟩, VamvsBase.one (-3)) := by
  unfold Vamvsz.timesCall
  rw [index_no (bfalse h okQ_iff)]
theorem times_bad (q k : Int) (h : okQ n q = true) (h2 : okT k = false) : Vamvsz.timesCall ⟨n, past⟩ q k = (some ⟨n, past⟩, VamvsBase.one (-4)) := by
  unfold Vamvsz.timesCall
  rw [index_yes (okQ_iff.mp h)]
  show Vamvsz.withTimes _ k _ = _
  unfold Vamvsz.withTimes Vamvsa.TIMES
  have := bfalse h2 okT_iff
  rw [if_pos (by omega)]
theorem times_yes (i kn : Nat) {a : Vamvsa.Ask} (h : n.t.asks[i]? = some a) (h2 : okT (kn : Int) = true) : Vamvsz.timesCall ⟨n, past⟩ (i : Int) (kn : Int) = Vamvsz.changed ⟨n, past⟩ (nAsks n (n.t.asks.set i ⟨a.g, kn⟩)) := by
  have hi := (List.getElem?_eq_some_iff.mp h).1
  have h3 := okT_iff.mp h2
  unfold Vamvsz.timesCall
  rw [index_yes ⟨by omega, by show (i : Int) < (n.t.asks.length : Int); omega⟩]
  show Vamvsz.withTimes _ (kn : Int) _ = _
  unfold Vamvsz.withTimes Vamvsa.TIMES
  rw [if_neg (by omega), Int.toNat_natCast, Int.toNat_natCast]
  have e := set_zip (fun a : Vamvsa.Ask => (⟨a.g, kn⟩ : Vamvsa.Ask)) n.t.asks i 0 a h
  simp only [Nat.zero_add] at e
  unfold nAsks
  rw [← e]
theorem ask_no (q k : Int) (h : okG n q = false) : Vamvsz.askCall ⟨n, past⟩ q k = (some ⟨n, past⟩, VamvsBase.one (-2)) := by
  unfold Vamvsz.askCall
  rw [show VamvsBase.index q (2 ^ Vamvsa.width n.t) = none from index_no (bfalse h okG_iff)]
theorem ask_bad (q k : Int) (h : okG n q = true) (h2 : okT k = false) : Vamvsz.askCall ⟨n, past⟩ q k = (some ⟨n, past⟩, VamvsBase.one (-4)) := by
  unfold Vamvsz.askCall
  rw [show VamvsBase.index q (2 ^ Vamvsa.width n.t) = some q.toNat from index_yes (okG_iff.mp h)]
  show Vamvsz.withTimes _ k _ = _
  unfold Vamvsz.withTimes Vamvsa.TIMES
  have := bfalse h2 okT_iff
  rw [if_pos (by omega)]
theorem ask_full (q k : Int) (h : okG n q = true) (h2 : okT k = true) (h3 : ¬ n.t.asks.length < 8) : Vamvsz.askCall ⟨n, past⟩ q k = (some ⟨n, past⟩, VamvsBase.one (-6)) := by
  unfold Vamvsz.askCall
  rw [show VamvsBase.index q (2 ^ Vamvsa.width n.t) = some q.toNat from index_yes (okG_iff.mp h)]
  show Vamvsz.withTimes _ k _ = _
  unfold Vamvsz.withTimes Vamvsa.TIMES
  have := okT_iff.mp h2
  rw [if_neg (by omega)]
  show (if Vamvsa.ASKS ≤ n.t.asks.length then _ else _) = _
  unfold Vamvsa.ASKS
  rw [if_pos (by omega)]
theorem ask_yes (gn kn : Nat) (h : okG n (gn : Int) = true) (h2 : okT (kn : Int) = true) (h3 : n.t.asks.length < 8) : Vamvsz.askCall ⟨n, past⟩ (gn : Int) (kn : Int) = Vamvsz.changed ⟨n, past⟩ (nAsks n (n.t.asks ++ [⟨gn, kn⟩])) := by
  unfold Vamvsz.askCall
  rw [show VamvsBase.index (gn : Int) (2 ^ Vamvsa.width n.t) = some (gn : Int).toNat from index_yes (okG_iff.mp h)]
  show Vamvsz.withTimes _ (kn : Int) _ = _
  unfold Vamvsz.withTimes Vamvsa.TIMES
  have := okT_iff.mp h2
  rw [if_neg (by omega)]
  show (if Vamvsa.ASKS ≤ n.t.asks.length then _ else _) = _
  unfold Vamvsa.ASKS
  rw [if_neg (by omega), Int.toNat_natCast, Int.toNat_natCast]
  rfl
theorem drop_no (q : Int) (h : okQ n q = false) : Vamvsz.dropCall ⟨n, past⟩ q = (some ⟨n, past⟩, VamvsBase.one (-3)) := by
  unfold Vamvsz.dropCall
  rw [index_no (bfalse h okQ_iff)]
theorem drop_yes (i : Nat) (h : okQ n (i : Int) = true) : Vamvsz.dropCall ⟨n, past⟩ (i : Int) = Vamvsz.changed ⟨n, past⟩ (nAsks n (n.t.asks.eraseIdx i)) := by
  unfold Vamvsz.dropCall
  rw [index_yes (okQ_iff.mp h), Int.toNat_natCast]
  rfl
def okV (v : Int) : Bool := decide ((0 : Int) ≤ v) && decide (v ≤ (9 : Int))
theorem okV_iff {v : Int} : okV v = true ↔ 0 ≤ v ∧ v ≤ 9 := by unfold okV; rw [Bool.and_eq_true, decide_eq_true_iff, decide_eq_true_iff]
theorem row_bad (m : Int) (l : List Int) (h : ¬ (l.length = n.t.cols.length ∧ (∀ v ∈ l, okV v = true) ∧ -1000 ≤ m ∧ m ≤ 1000)) : Vamvsz.rowCall ⟨n, past⟩ m l = (some ⟨n, past⟩, VamvsBase.one (-4)) := by
  unfold Vamvsz.rowCall
  show (if l.length ≠ n.t.cols.length ∨ l.any (fun v => decide (v < 0 ∨ (Vamvsa.VALUE : Int) < v)) = true ∨ m < -(Vamvsa.SIZE : Int) ∨ (Vamvsa.SIZE : Int) < m then _ else _) = _
  unfold Vamvsa.VALUE Vamvsa.SIZE
  rw [if_pos]
  apply Classical.byContradiction
  intro z
  apply h
  refine ⟨Classical.byContradiction fun y => z (.inl y), fun v hv => Classical.byContradiction fun y => z (.inr (.inl ?_)), by omega, by omega⟩
  refine List.any_eq_true.mpr ⟨v, hv, decide_eq_true ?_⟩
  have : ¬ (0 ≤ v ∧ v ≤ 9) := fun q => y (okV_iff.mpr q)
  omega
theorem row_full (m : Int) (l : List Int) (h : l.length = n.t.cols.length ∧ (∀ v ∈ l, okV v = true) ∧ -1000 ≤ m ∧ m ≤ 1000) (h2 : ¬ n.t.rows.length < 16) : Vamvsz.rowCall ⟨n, past⟩ m l = (some ⟨n, past⟩, VamvsBase.one (-6)) := by
  unfold Vamvsz.rowCall
  show (if l.length ≠ n.t.cols.length ∨ l.any (fun v => decide (v < 0 ∨ (Vamvsa.VALUE : Int) < v)) = true ∨ m < -(Vamvsa.SIZE : Int) ∨ (Vamvsa.SIZE : Int) < m then _ else if Vamvsa.ROWS ≤ n.t.rows.length then _ else _) = _
  unfold Vamvsa.VALUE Vamvsa.SIZE Vamvsa.ROWS
  rw [if_neg, if_pos (by omega)]
  rintro (z | z | z | z)
  · exact z h.1
  · obtain ⟨v, hv, z⟩ := List.any_eq_true.mp z
    have := okV_iff.mp (h.2.1 v hv)
    have := of_decide_eq_true z
    omega
  · omega
  · omega
theorem row_yes (m : Int) (l : List Int) (h : l.length = n.t.cols.length ∧ (∀ v ∈ l, okV v = true) ∧ -1000 ≤ m ∧ m ≤ 1000) (h2 : n.t.rows.length < 16) : Vamvsz.rowCall ⟨n, past⟩ m l = Vamvsz.changed ⟨n, past⟩ (nRows n (n.t.rows ++ [⟨l.map fun v => v.toNat, m⟩])) := by
  unfold Vamvsz.rowCall
  show (if l.length ≠ n.t.cols.length ∨ l.any (fun v => decide (v < 0 ∨ (Vamvsa.VALUE : Int) < v)) = true ∨ m < -(Vamvsa.SIZE : Int) ∨ (Vamvsa.SIZE : Int) < m then _ else if Vamvsa.ROWS ≤ n.t.rows.length then _ else _) = _
  unfold Vamvsa.VALUE Vamvsa.SIZE Vamvsa.ROWS
  rw [if_neg, if_neg (by omega)]
  · rfl
  rintro (z | z | z | z)
  · exact z h.1
  · obtain ⟨v, hv, z⟩ := List.any_eq_true.mp z
    have := okV_iff.mp (h.2.1 v hv)
    have := of_decide_eq_true z
    omega
  · omega
  · omega
theorem keep_no (q v : Int) (h : okG n q = false) : Vamvsz.keepCall ⟨n, past⟩ q v = (some ⟨n, past⟩, VamvsBase.one (-2)) := by
  unfold Vamvsz.keepCall
  rw [show VamvsBase.index q (2 ^ Vamvsa.width n.t) = none from index_no (bfalse h okG_iff)]
theorem keep_bad (q v : Int) (h : okG n q = true) (h2 : ¬ (v = 0 ∨ v = 1)) : Vamvsz.keepCall ⟨n, past⟩ q v = (some ⟨n, past⟩, VamvsBase.one (-4)) := by
  unfold Vamvsz.keepCall
  rw [show VamvsBase.index q (2 ^ Vamvsa.width n.t) = some q.toNat from index_yes (okG_iff.mp h)]
  show (if v ≠ 0 ∧ v ≠ 1 then _ else _) = _
  rw [if_pos (by omega)]
theorem keep_yes (gn vn : Nat) (h : okG n (gn : Int) = true) (h2 : vn = 0 ∨ vn = 1) : Vamvsz.keepCall ⟨n, past⟩ (gn : Int) (vn : Int) = Vamvsz.changed ⟨n, past⟩ (nKept n ((Vamvsa.groupings n.t).filter fun h => if h = gn then decide (vn = 1) else n.k.contains h)) := by
  unfold Vamvsz.keepCall
  rw [show VamvsBase.index (gn : Int) (2 ^ Vamvsa.width n.t) = some (gn : Int).toNat from index_yes (okG_iff.mp h)]
  show (if (vn : Int) ≠ 0 ∧ (vn : Int) ≠ 1 then _ else _) = _
  rw [if_neg (by omega), Int.toNat_natCast]
  unfold nKept
  have e : decide ((vn : Int) = 1) = decide (vn = 1) := decide_eq_decide.mpr ⟨fun h => by omega, fun h => by omega⟩
  rw [e]
def okM (r ch : Int) : Bool := (decide ((0 : Int) ≤ r) && decide (r ≤ (1000 : Int))) && (decide ((0 : Int) ≤ ch) && decide (ch ≤ (1000 : Int)))
theorem okM_iff {r ch : Int} : okM r ch = true ↔ (0 ≤ r ∧ r ≤ 1000) ∧ 0 ≤ ch ∧ ch ≤ 1000 := by unfold okM; simp only [Bool.and_eq_true, decide_eq_true_iff]
theorem terms_bad (r ch : Int) (h : okM r ch = false) : Vamvsz.termsCall ⟨n, past⟩ r ch = (some ⟨n, past⟩, VamvsBase.one (-5)) := by
  unfold Vamvsz.termsCall Vamvsz.ROOM Vamvsz.CHANGES
  have := bfalse h okM_iff
  rw [if_pos (by omega)]
theorem terms_yes (rn cn : Nat) (h : okM (rn : Int) (cn : Int) = true) : Vamvsz.termsCall ⟨n, past⟩ (rn : Int) (cn : Int) = Vamvsz.changed ⟨n, past⟩ (nTerms n rn cn) := by
  unfold Vamvsz.termsCall Vamvsz.ROOM Vamvsz.CHANGES
  have := okM_iff.mp h
  rw [if_neg (by omega)]
  rfl
end G5
/-! R6: the deeds times, ask, drop. -/
namespace G5
open PySem PySem.Spec PyProof.Rows L2
variable {T : List NTab} {P : Program} {w : World} {K : PySem.W.Frag} {mg : Str → Option Value} {base : Heap} {c : Cs}
section
variable {H G : Hp} {wd : Wd} {x : Stk}
theorem WdOk.dn {α : Type} {R : Rp α} [Dn R] {v : V} {y : α} (p : WdOk T K c H G wd) (h : R H v y) : R G v y := by
  have := p.lay.less
  rw [← p.h] at this
  exact Dn.dn this h
theorem Wd.objS (hx : wd.cur = some x) : wd.obj = some ⟨x.n, (wd.held.map (·.n)).reverse⟩ := by
  unfold Wd.obj
  rw [hx]
  rfl
theorem ixN_nat {n i : Nat} (h : i < n) : ixN n (i : Int) = some i := by
  unfold ixN
  rw [if_pos (by omega), if_pos (by omega)]
  simp
/-- what a change answers -/
theorem fin_ok {call : Vamvsz.Call} {Q : VK} (hok : ∀ v H' G' wd', wd'.h = wd.h → Xt T G G' → WdOk T K c H' G' wd' → wd'.obj = (Vamvsz.step wd.obj call).1 → RM RI H' v (lstA (Vamvsz.step wd.obj call).2) → Q v H') {n : Vamvsz.Now}
    (hs : Vamvsz.step wd.obj call = Vamvsz.changed ⟨x.n, (wd.held.map (·.n)).reverse⟩ n) {y x2 : Stk} (hy : y.n = x.n) (h2 : x2.n = n) {H' G' : Hp} {lh' : Addr} (u : Xt T G G') (p : WdOk T K c H' G' ⟨wd.h, wd.dh, lh', some x2, (wd.held ++ [y]).drop (wd.held.length + 1 - 20)⟩) {v : V} (r : RM RI H' v (1 :: Vamvsz.nats [Vamvsz.paid x2.n, Vamvsa.room x2.n.t x2.n.k])) : Q v H' := by
  rw [hs] at hok
  refine hok v H' G' ⟨wd.h, wd.dh, lh', some x2, (wd.held ++ [y]).drop (wd.held.length + 1 - 20)⟩ rfl u p ?_ ?_
  · unfold Wd.obj Vamvsz.changed Vamvsz.PAST
    show some (⟨x2.n, (((wd.held ++ [y]).drop (wd.held.length + 1 - 20)).map (·.n)).reverse⟩ : Vamvsz.Held) = _
    rw [held_law, h2, hy]
  · rw [h2] at r
    exact r
theorem cur_some (h : wd.cur ≠ none) : ∃ x, wd.cur = some x := by
  cases e : wd.cur with
  | none => exact absurd e h
  | some x => exact ⟨x, rfl⟩
theorem WdOk.has (p : WdOk T K c H G wd) (hx : wd.cur = some x) : ∃ cv, G x.t = some (.ins c.table x.dt [("columns", cv), ("lines", .ref x.ll), ("questions", .ref x.lq)]) ∧ RL K (RM RU) G cv x.n.t.cols := (p.cur x hx).tab.ex
end
theorem good_asks {n : Vamvsz.Now} (hg : GoodN n) {asks : List Vamvsa.Ask} (h1 : asks.length ≤ 8) (h2 : ∀ a ∈ asks, a.g < 2 ^ n.t.cols.length ∧ 1 ≤ a.k ∧ a.k ≤ 99) : GoodN (nAsks n asks) :=
  ⟨⟨hg.t.cols, hg.t.names, hg.t.rows, hg.t.vals, h1, h2⟩, hg.k, hg.room, hg.changes⟩
section
variable {X : Cx} {e : Expr} {σ : L2.St} {H G : Hp} {wd : Wd} {x : Stk} {pos p1 p2 : Pos}
/-- holder.stock.table.questions, the list itself -/
theorem ev_quesV (g : Gf X.K X.mg c) (p : WdOk T X.K c H G wd) (hx : wd.cur = some x) (h : Ev T X RV e σ H (.ref wd.h)) (hb : attributeBase e "stock" X.env (eval e X.env) = eval e X.env := by rfl) (hb2 : attributeBase (.Attribute e "stock" p1) "table" X.env (eval (.Attribute e "stock" p1) X.env) = eval (.Attribute e "stock" p1) X.env := by rfl)
    (hb3 : attributeBase (.Attribute (.Attribute e "stock" p1) "table" p2) "questions" X.env (eval (.Attribute (.Attribute e "stock" p1) "table" p2) X.env) = eval (.Attribute (.Attribute e "stock" p1) "table" p2) X.env := by rfl) : Ev T X RV (.Attribute (.Attribute (.Attribute e "stock" p1) "table" p2) "questions" pos) σ H (.ref x.lq) :=
  ev_fld (S := RV) (R := RV) (y := .ref x.t) (ev_fld (S := RV) (R := RV) (y := .ref x.s) (ev_stockV g p hx h hb) (fun H1 v u e => by
    cases e
    exact ⟨_, p.hasT g hx u, rfl⟩) hb2) (fun H1 v u e => by
    cases e
    obtain ⟨cv, e1, _⟩ := p.has hx
    exact ⟨_, has_of g.table ((p.xt.trans u).ex _ _ e1 nt_ins) rfl (by decide), rfl⟩) hb3
theorem we_quesV {Q : VK} (g : Gf X.K X.mg c) (p : WdOk T X.K c H G wd) (hx : wd.cur = some x) (h : ∀ Q : VK, Q (.ref wd.h) H → We X e σ H Q) (q : Q (.ref x.lq) H) (hb : attributeBase e "stock" X.env (eval e X.env) = eval e X.env := by rfl) (hb2 : attributeBase (.Attribute e "stock" p1) "table" X.env (eval (.Attribute e "stock" p1) X.env) = eval (.Attribute e "stock" p1) X.env := by rfl)
    (hb3 : attributeBase (.Attribute (.Attribute e "stock" p1) "table" p2) "questions" X.env (eval (.Attribute (.Attribute e "stock" p1) "table" p2) X.env) = eval (.Attribute (.Attribute e "stock" p1) "table" p2) X.env := by rfl) : We X (.Attribute (.Attribute (.Attribute e "stock" p1) "table" p2) "questions" pos) σ H Q :=
  we_fld (we_fld (we_fld (h _ ⟨by have := p.hasS g (Xt.refl H); rw [hx] at this; exact this, p.hasT g hx (Xt.refl H), by
    obtain ⟨cv, e1, _⟩ := p.has hx
    exact has_of g.table (p.xt.ex _ _ e1 nt_ins) rfl (by decide), q⟩) hb) hb2) hb3
end
abbrev s_times : Stmt := top 100
def Ntimes : List Str := ["holder", "numbers", "row", "questions", "q", "k"]
theorem sc_times : FnScope Ntimes ["holder", "numbers", "row"] (defScope s_times) := ⟨rfl, rfl, rfl, by decide +kernel, rfl, by decide +kernel, by decide +kernel⟩
def cTimes (nums _row : List Int) : Vamvsz.Call := .times (nums.getD 0 0) (nums.getD 1 0)
theorem ok_times {f : Addr} {fd : FuncData} (g : Gf K mg c) (dQ : DAskQ T P w K mg base c) (dS : DSo T P w K mg base c) (dC : DChanged T P w K mg base c) (dT : DTold T P w K mg base c) (F : Fun K "times" "times" s_times f fd) (hm : mg "times" = some (.ref f)) (b : Binds K fd ["holder", "numbers", "row"] []) :
    DDeed T P w K mg base c 9 "times" (Has1 2) cTimes := by
  refine okE F hm b sc_times deed_len fun cdv A outer s H vs Q E hr h => ?_
  obtain ⟨ht, wd, G, nv, rv, nums, row, rfl, p, hnv, hrv, ⟨hcur, hlen⟩, hok, her⟩ := h
  obtain ⟨x, hx⟩ := cur_some hcur
  obtain ⟨q, k, rfl⟩ : ∃ q k, nums = [q, k] := by
    match nums, hlen with
    | [a, b], _ => exact ⟨a, b, rfl⟩
  have hg := (p.cur x hx).good
  have estep : Vamvsz.step wd.obj (cTimes [q, k] row) = Vamvsz.timesCall ⟨x.n, (wd.held.map (·.n)).reverse⟩ q k := by rw [Wd.objS hx]; rfl
  refine wb_cons (ws_num2 (T := T) 4 5 rfl sc_times.nd (Ev.to (R := RM RI) (vr 1 (Mono.mono p.xt hnv)) fun _ _ _ h => h.rl) fun H1 u1 => ?_)
  obtain ⟨G1, p1, x1⟩ := p.keep u1
  have t1 := u1.tb ht
  refine wb_expr (X := CxE P w K mg base Ntimes "times" s_times f cdv A outer s H E) ?_
  refine we_callE takeE (fun _ _ _ _ h => h) dQ hr (by decide) (((ea_cons (T := T) (R := RV) (x := .ref wd.h) (vr 0 rfl) (ea_cons (R := RI) (x := q) (vr 4 rfl) ea_nil))) H1 (Xt.refl _) _ fun vs H2 u2 ⟨v, r1, k1, k2, u', r', k3, k4, k5⟩ => ?_)
  subst k1 k3 k5
  cases k2
  cases k4
  obtain ⟨G2, p2, x2⟩ := p1.keep u2
  refine ⟨u2.tb t1, wd, G2, x, q, rfl, p2, hx, fun kq H3 u3 => ?_, fun kq => RE.up (her (-3) ?_) (u1.trans u2)⟩
  rotate_left
  · rw [estep, times_no q k kq, Wd.objS hx]
  obtain ⟨G3, p3, x3⟩ := p2.keep u3
  have t3 := u3.tb (u2.tb t1)
  refine wb_expr (X := CxE P w K mg base Ntimes "times" s_times f cdv A outer s H E) ?_
  refine we_so (T := T) (c := c) (E' := E) (k := okT k) (n := -4) takeE (fun _ _ _ _ h => h) dS hr (by decide) t3 ?_ (ev_gi g.gBAD) (fun kk H4 u4 => ?_) fun kk => RE.up (her (-4) ?_) (u1.trans (u2.trans u3))
  · exact ev_chain (i := 1) (j := k) (k := 99) op_leI op_leI ev_int (vr 5 (R := RI) rfl) (ev_gi g.gMOST_TIMES)
  rotate_left
  · rw [estep, times_bad q k kq kk, Wd.objS hx]
  have kq' := okQ_iff.mp kq
  have kk' := okT_iff.mp kk
  obtain ⟨i, rfl⟩ : ∃ i : Nat, q = (i : Int) := ⟨q.toNat, by omega⟩
  obtain ⟨kn, rfl⟩ : ∃ kn : Nat, k = (kn : Int) := ⟨k.toNat, by omega⟩
  have hi : i < x.n.t.asks.length := by omega
  have hai : x.n.t.asks[i]? = some x.n.t.asks[i] := List.getElem?_eq_getElem hi
  have estep2 := estep.trans (times_yes (past := (wd.held.map (·.n)).reverse) i kn hai kk)
  obtain ⟨G4, p4, x4⟩ := p3.keep u4
  have t4 := u4.tb t3
  refine wb_expr (X := CxE P w K mg base Ntimes "times" s_times f cdv A outer s H E) ?_
  refine we_changed dC hr (by decide) t4 p4 hx (fun Q q => we_var (i := 0) rfl q) fun H5 G5 y lh' x5 hy p5 => ?_
  have t5 := p4.go p5 x5 t4
  refine wb_set (T := T) (R := RV) (x := .ref x.lq) 3 (ev_quesV g p5 rfl (vr 0 rfl)) (fun vq H6 u6 e6 => ?_) sc_times.nd
  cases e6
  obtain ⟨G6, p6, x6⟩ := p5.keep u6
  have t6 := u6.tb t5
  refine wb_cons (Ws.of (ps_asg we (pg_sub we we set_list)) ?_)
  refine Ev.now (T := T) (R := RP K RN RN) (x := (x.n.t.asks[i].g, kn)) ?_ fun v H7 u7 r7 => ?_
  · refine ev_pair ?_ ?_
    · refine ev_fst (pr := (x.n.t.asks[i].g, x.n.t.asks[i].k)) (S := RN) (R := RN) ?_ ev_int
      refine ev_item (R := RP K RN RN) (i := i) (l := x.n.t.asks.map fun (a : Vamvsa.Ask) => ((a.g, a.k) : Nat × Nat)) ?_ (vr 4 (R := RI) rfl) (by rw [List.getElem?_map, hai]; rfl)
      exact vr 3 (rl_asks ⟨x.lq, x.qv, rfl, SqL.of (p6.stk rfl).2.2, (p6.cur x rfl).tab.asks.mono p6.xt⟩)
    · exact vr 5 (R := RN) rfl
  obtain ⟨G7, p7, x7⟩ := p6.keep u7
  have t7 := u7.tb t6
  have hql : x.qv.length = x.n.t.asks.length := (p7.cur x rfl).tab.asks.length
  refine we_var (i := 3) rfl (we_var (i := 4) rfl ⟨x.lq, x.qv, (i : Int), i, rfl, rfl, (p7.stk rfl).2.2, ixN_nat (by omega), ?_⟩)
  have hgn : GoodN (nAsks x.n (x.n.t.asks.set i ⟨x.n.t.asks[i].g, kn⟩)) := by
    refine good_asks hg (by rw [List.length_set]; exact hg.t.asks) fun a ha => ?_
    rcases List.mem_or_eq_of_mem_set ha with z | z
    · exact hg.t.asked a z
    · rw [z]
      exact ⟨(hg.t.asked _ (List.getElem_mem hi)).1, by show 1 ≤ kn; omega, by show kn ≤ 99; omega⟩
  have p8 := p7.setLq (x := x) rfl (qv := x.qv.set i v) (n := nAsks x.n (x.n.t.asks.set i ⟨x.n.t.asks[i].g, kn⟩)) rfl ⟨⟨(p7.cur x rfl).tab.ex, (p7.cur x rfl).tab.rows, (p7.cur x rfl).tab.asks.set i (p7.dn (R := RAsk K) r7)⟩, (p7.cur x rfl).kept, hgn⟩
  have xall : Xt T G G7 := x1.trans (x2.trans (x3.trans (x4.trans (x5.trans (x6.trans x7)))))
  have t8 := p8.xt.tb (xall.tb (p.tb ht))
  refine wb_told (T := T) g dT hr (by decide) t8 p8 rfl (vr 0 (R := RV) rfl) fun v9 H9 G9 x9 p9 r9 => ?_
  exact fin_ok hok estep2 hy rfl (xall.trans x9) p9 r9
end G5
/-! R7: the deeds ask, drop, terms, add_row. -/
namespace G5
open PySem PySem.Spec PyProof.Rows L2
variable {T : List NTab} {P : Program} {w : World} {K : PySem.W.Frag} {mg : Str → Option Value} {base : Heap} {c : Cs}
abbrev s_ask : Stmt := top 101
def Nask : List Str := ["holder", "numbers", "row", "g", "k"]
theorem sc_ask : FnScope Nask ["holder", "numbers", "row"] (defScope s_ask) := ⟨rfl, rfl, rfl, by decide +kernel, rfl, by decide +kernel, by decide +kernel⟩
def cAsk (nums _row : List Int) : Vamvsz.Call := .ask (nums.getD 0 0) (nums.getD 1 0)
theorem ok_ask {f : Addr} {fd : FuncData} (g : Gf K mg c) (dG : DAskG T P w K mg base c) (dS : DSo T P w K mg base c) (dC : DChanged T P w K mg base c) (dT : DTold T P w K mg base c) (F : Fun K "ask" "ask" s_ask f fd) (hm : mg "ask" = some (.ref f)) (b : Binds K fd ["holder", "numbers", "row"] []) :
    DDeed T P w K mg base c 9 "ask" (Has1 2) cAsk := by
  refine okE F hm b sc_ask deed_len fun cdv A outer s H vs Q E hr h => ?_
  obtain ⟨ht, wd, G, nv, rv, nums, row, rfl, p, hnv, hrv, ⟨hcur, hlen⟩, hok, her⟩ := h
  obtain ⟨x, hx⟩ := cur_some hcur
  obtain ⟨q, k, rfl⟩ : ∃ q k, nums = [q, k] := by
    match nums, hlen with
    | [a, b], _ => exact ⟨a, b, rfl⟩
  have hg := (p.cur x hx).good
  have estep : Vamvsz.step wd.obj (cAsk [q, k] row) = Vamvsz.askCall ⟨x.n, (wd.held.map (·.n)).reverse⟩ q k := by rw [Wd.objS hx]; rfl
  refine wb_cons (ws_num2 (T := T) 3 4 rfl sc_ask.nd (Ev.to (R := RM RI) (vr 1 (Mono.mono p.xt hnv)) fun _ _ _ h => h.rl) fun H1 u1 => ?_)
  obtain ⟨G1, p1, x1⟩ := p.keep u1
  have t1 := u1.tb ht
  refine wb_expr (X := CxE P w K mg base Nask "ask" s_ask f cdv A outer s H E) ?_
  refine we_callE takeE (fun _ _ _ _ h => h) dG hr (by decide) (((ea_cons (T := T) (R := RV) (x := .ref wd.h) (vr 0 rfl) (ea_cons (R := RI) (x := q) (vr 3 rfl) ea_nil))) H1 (Xt.refl _) _ fun vs H2 u2 ⟨v, r1, k1, k2, u', r', k3, k4, k5⟩ => ?_)
  subst k1 k3 k5
  cases k2
  cases k4
  obtain ⟨G2, p2, x2⟩ := p1.keep u2
  refine ⟨u2.tb t1, wd, G2, x, q, rfl, p2, hx, fun kq H3 u3 => ?_, fun kq => RE.up (her (-2) ?_) (u1.trans u2)⟩
  rotate_left
  · rw [estep, ask_no q k kq, Wd.objS hx]
  obtain ⟨G3, p3, x3⟩ := p2.keep u3
  have t3 := u3.tb (u2.tb t1)
  refine wb_expr (X := CxE P w K mg base Nask "ask" s_ask f cdv A outer s H E) ?_
  refine we_so (T := T) (c := c) (E' := E) (k := okT k) (n := -4) takeE (fun _ _ _ _ h => h) dS hr (by decide) t3 ?_ (ev_gi g.gBAD) (fun kk H4 u4 => ?_) fun kk => RE.up (her (-4) ?_) (u1.trans (u2.trans u3))
  · exact ev_chain (i := 1) (j := k) (k := 99) op_leI op_leI ev_int (vr 4 (R := RI) rfl) (ev_gi g.gMOST_TIMES)
  rotate_left
  · rw [estep, ask_bad q k kq kk, Wd.objS hx]
  obtain ⟨G4, p4, x4⟩ := p3.keep u4
  have t4 := u4.tb t3
  refine wb_expr (X := CxE P w K mg base Nask "ask" s_ask f cdv A outer s H E) ?_
  refine we_so (T := T) (c := c) (E' := E) (k := decide (x.n.t.asks.length < 8)) (n := -6) takeE (fun _ _ _ _ h => h) dS hr (by decide) t4 ?_ (ev_gi g.gFULL) (fun kl H5 u5 => ?_) fun kl => RE.up (her (-6) ?_) (u1.trans (u2.trans (u3.trans u4)))
  · exact Ev.is (ev_cmp (x := (x.n.t.asks.length : Int)) (y := (8 : Int)) cmp_lt (ev_len (R := RAsk K) (xs := x.n.t.asks) g.len (ev_fld (S := RTab K c) (R := RL K (RAsk K)) (ev_fld (S := RNow K c) (R := RTab K c) (ev_stock g p4 hx (vr 0 rfl)) fun H1 v u r => r.table g) fun H1 v u r => r.asks g)) (ev_gi g.gMOST_QUESTIONS)) (decide_eq_decide.mpr ⟨fun h => by omega, fun h => by omega⟩)
  rotate_left
  · rw [estep, ask_full q k kq kk (of_decide_eq_false kl), Wd.objS hx]
  have kl := of_decide_eq_true kl
  have kq' := okG_iff.mp kq
  have kk' := okT_iff.mp kk
  obtain ⟨gn, rfl⟩ : ∃ i : Nat, q = (i : Int) := ⟨q.toNat, by omega⟩
  obtain ⟨kn, rfl⟩ : ∃ kn : Nat, k = (kn : Int) := ⟨k.toNat, by omega⟩
  have estep2 := estep.trans (ask_yes (past := (wd.held.map (·.n)).reverse) gn kn kq kk kl)
  obtain ⟨G5, p5, x5⟩ := p4.keep u5
  have t5 := u5.tb t4
  refine wb_expr (X := CxE P w K mg base Nask "ask" s_ask f cdv A outer s H E) ?_
  refine we_changed dC hr (by decide) t5 p5 hx (fun Q q => we_var (i := 0) rfl q) fun H6 G6 y lh' x6 hy p6 => ?_
  have t6 := p5.go p6 x6 t5
  refine wb_expr (X := CxE P w K mg base Nask "ask" s_ask f cdv A outer s H E) ?_
  refine we_appendW (l := x.lq) (we_quesV g p6 rfl (fun Q q => we_var (i := 0) rfl q) ⟨rfl, x.qv, (p6.stk rfl).2.2, ?_⟩)
  refine Ev.now (T := T) (R := RP K RN RN) (x := (gn, kn)) ?_ fun v H7 u7 r7 => ?_
  · refine ev_pair ?_ ?_
    · exact vr 3 (R := RN) rfl
    · exact vr 4 (R := RN) rfl
  obtain ⟨G7, p7, x7⟩ := p6.keep u7
  have hql : x.qv.length = x.n.t.asks.length := (p7.cur x rfl).tab.asks.length
  refine ⟨x.qv, (p7.stk rfl).2.2, by omega, ?_⟩
  have hgn : GoodN (nAsks x.n (x.n.t.asks ++ [⟨gn, kn⟩])) := by
    refine good_asks hg (by rw [List.length_append, List.length_singleton]; omega) fun a ha => ?_
    rcases List.mem_append.mp ha with z | z
    · exact hg.t.asked a z
    · rw [List.mem_singleton.mp z]
      exact ⟨by show gn < _; have := kq'.2; omega, by show 1 ≤ kn; omega, by show kn ≤ 99; omega⟩
  have hq8 : All2 (RAsk K G7) (x.qv ++ [v]) (x.n.t.asks ++ [(⟨gn, kn⟩ : Vamvsa.Ask)]) :=
    All2.snoc (R := RAsk K G7) (b := (⟨gn, kn⟩ : Vamvsa.Ask)) (p7.cur x rfl).tab.asks (p7.dn (R := RAsk K) (y := ⟨gn, kn⟩) r7)
  have p8 := p7.setLq (x := x) rfl (qv := x.qv ++ [v]) (n := nAsks x.n (x.n.t.asks ++ [(⟨gn, kn⟩ : Vamvsa.Ask)])) rfl ⟨⟨(p7.cur x rfl).tab.ex, (p7.cur x rfl).tab.rows, hq8⟩, (p7.cur x rfl).kept, hgn⟩
  have xall : Xt T G G7 := x1.trans (x2.trans (x3.trans (x4.trans (x5.trans (x6.trans x7)))))
  have t8 := p8.xt.tb (xall.tb (p.tb ht))
  refine wb_told (T := T) g dT hr (by decide) t8 p8 rfl (vr 0 (R := RV) rfl) fun v9 H9 G9 x9 p9 r9 => ?_
  exact fin_ok hok estep2 hy rfl (xall.trans x9) p9 r9
/-! ### drop -/
abbrev s_drop : Stmt := top 102
theorem sc_drop : FnScope ["holder", "numbers", "row"] ["holder", "numbers", "row"] (defScope s_drop) := ⟨rfl, rfl, rfl, by decide +kernel, rfl, by decide +kernel, by decide +kernel⟩
def cDrop (nums _row : List Int) : Vamvsz.Call := .drop (nums.getD 0 0)
theorem All2.mem_erase {α β : Type} {R : α → β → Prop} : True := trivial
theorem ok_drop {f : Addr} {fd : FuncData} (g : Gf K mg c) (dQ : DAskQ T P w K mg base c) (dC : DChanged T P w K mg base c) (dT : DTold T P w K mg base c) (F : Fun K "drop" "drop" s_drop f fd) (hm : mg "drop" = some (.ref f)) (b : Binds K fd ["holder", "numbers", "row"] []) :
    DDeed T P w K mg base c 9 "drop" (Has1 1) cDrop := by
  refine okE F hm b sc_drop deed_len fun cdv A outer s H vs Q E hr h => ?_
  obtain ⟨ht, wd, G, nv, rv, nums, row, rfl, p, hnv, hrv, ⟨hcur, hlen⟩, hok, her⟩ := h
  obtain ⟨x, hx⟩ := cur_some hcur
  obtain ⟨q, rfl⟩ : ∃ q, nums = [q] := by
    match nums, hlen with
    | [a], _ => exact ⟨a, rfl⟩
  have hg := (p.cur x hx).good
  have estep : Vamvsz.step wd.obj (cDrop [q] row) = Vamvsz.dropCall ⟨x.n, (wd.held.map (·.n)).reverse⟩ q := by rw [Wd.objS hx]; rfl
  have enum0 : ∀ {H' : Hp} {p1 p2 p3 : Pos} {j : Nat}, RM RI H' nv [q] → Ev T (CxE P w K mg base ["holder", "numbers", "row"] "drop" s_drop f cdv A outer s H E) RI (.Subscript (.Name "numbers" p1) (.Constant (.int 0) j p2) p3) [some (.ref wd.h), some nv, some rv] H' q := fun {H' p1 p2 p3 j} h => ev_item (R := RI) (i := 0) (l := [q]) (vr 1 h.rl) ev_int rfl
  refine wb_expr (X := CxE P w K mg base ["holder", "numbers", "row"] "drop" s_drop f cdv A outer s H E) ?_
  refine we_callE takeE (fun _ _ _ _ h => h) dQ hr (by decide) (((ea_cons (T := T) (R := RV) (x := .ref wd.h) (vr 0 rfl) (ea_cons (R := RI) (x := q) (enum0 (Mono.mono p.xt hnv)) ea_nil))) H (Xt.refl _) _ fun vs H2 u2 ⟨v, r1, k1, k2, u', r', k3, k4, k5⟩ => ?_)
  subst k1 k3 k5
  cases k2
  cases k4
  obtain ⟨G2, p2, x2⟩ := p.keep u2
  refine ⟨u2.tb ht, wd, G2, x, q, rfl, p2, hx, fun kq H3 u3 => ?_, fun kq => RE.up (her (-3) ?_) u2⟩
  rotate_left
  · rw [estep, drop_no q kq, Wd.objS hx]
  obtain ⟨G3, p3, x3⟩ := p2.keep u3
  have t3 := u3.tb (u2.tb ht)
  have kq' := okQ_iff.mp kq
  obtain ⟨i, rfl⟩ : ∃ i : Nat, q = (i : Int) := ⟨q.toNat, by omega⟩
  have hi : i < x.n.t.asks.length := by omega
  have estep2 := estep.trans (drop_yes (past := (wd.held.map (·.n)).reverse) i kq)
  refine wb_expr (X := CxE P w K mg base ["holder", "numbers", "row"] "drop" s_drop f cdv A outer s H E) ?_
  refine we_changed dC hr (by decide) t3 p3 hx (fun Q q => we_var (i := 0) rfl q) fun H6 G6 y lh' x6 hy p6 => ?_
  have t6 := p3.go p6 x6 t3
  have x06 := x2.trans (x3.trans x6)
  refine wb_expr (X := CxE P w K mg base ["holder", "numbers", "row"] "drop" s_drop f cdv A outer s H E) ?_
  refine We.of (pe_bm PySem.F.plainAttrs_list PySem.F.slot_list_pop PySem.F.type_list_pop mt_popAt we (pa_cons we pa_nil rfl) rfl rfl rfl rfl rfl) ?_
  refine we_quesV g p6 rfl (fun Q q => we_var (i := 0) rfl q) ⟨.inl ⟨rfl, _, SqL.of (p6.stk rfl).2.2⟩, ?_⟩
  refine (enum0 (Mono.mono (x06.trans p6.xt) hnv)).now fun v H7 u7 r7 => ?_
  cases r7
  obtain ⟨G7, p7, x7⟩ := p6.keep u7
  have hql : x.qv.length = x.n.t.asks.length := (p7.cur x rfl).tab.asks.length
  have hix := (ixN_seq (ixN_nat (n := x.qv.length) (i := i) (by omega))).1
  have h8 := hg.t.asks
  refine ⟨x.lq, x.qv, (i : Int), i, x.qv[i]'(by omega), rfl, rfl, (p7.stk rfl).2.2, by omega, by omega, hix, List.getElem?_eq_getElem _, ?_⟩
  have hgn : GoodN (nAsks x.n (x.n.t.asks.eraseIdx i)) := by
    refine good_asks hg (Nat.le_trans (List.length_eraseIdx_le _ _) hg.t.asks) fun a ha => hg.t.asked a (List.mem_of_mem_eraseIdx ha)
  have p8 := p7.setLq (x := x) rfl (qv := x.qv.eraseIdx i) (n := nAsks x.n (x.n.t.asks.eraseIdx i)) rfl ⟨⟨(p7.cur x rfl).tab.ex, (p7.cur x rfl).tab.rows, (p7.cur x rfl).tab.asks.eraseIdx i⟩, (p7.cur x rfl).kept, hgn⟩
  have xall : Xt T G G7 := x06.trans x7
  have t8 := p8.xt.tb (xall.tb (p.tb ht))
  refine wb_told (T := T) g dT hr (by decide) t8 p8 rfl (vr 0 (R := RV) rfl) fun v9 H9 G9 x9 p9 r9 => ?_
  exact fin_ok hok estep2 hy rfl (xall.trans x9) p9 r9
/-! ### terms -/
abbrev s_terms : Stmt := top 105
def Nterms : List Str := ["holder", "numbers", "row", "r", "c"]
theorem sc_terms : FnScope Nterms ["holder", "numbers", "row"] (defScope s_terms) := ⟨rfl, rfl, rfl, by decide +kernel, rfl, by decide +kernel, by decide +kernel⟩
def cTerms (nums _row : List Int) : Vamvsz.Call := .terms (nums.getD 0 0) (nums.getD 1 0)
theorem ok_terms {f : Addr} {fd : FuncData} (g : Gf K mg c) (dS : DSo T P w K mg base c) (dC : DChanged T P w K mg base c) (dT : DTold T P w K mg base c) (F : Fun K "terms" "terms" s_terms f fd) (hm : mg "terms" = some (.ref f)) (b : Binds K fd ["holder", "numbers", "row"] []) :
    DDeed T P w K mg base c 9 "terms" (Has1 2) cTerms := by
  refine okE F hm b sc_terms deed_len fun cdv A outer s H vs Q E hr h => ?_
  obtain ⟨ht, wd, G, nv, rv, nums, row, rfl, p, hnv, hrv, ⟨hcur, hlen⟩, hok, her⟩ := h
  obtain ⟨x, hx⟩ := cur_some hcur
  obtain ⟨q, k, rfl⟩ : ∃ q k, nums = [q, k] := by
    match nums, hlen with
    | [a, b], _ => exact ⟨a, b, rfl⟩
  have hg := (p.cur x hx).good
  have estep : Vamvsz.step wd.obj (cTerms [q, k] row) = Vamvsz.termsCall ⟨x.n, (wd.held.map (·.n)).reverse⟩ q k := by rw [Wd.objS hx]; rfl
  refine wb_cons (ws_num2 (T := T) 3 4 rfl sc_terms.nd (Ev.to (R := RM RI) (vr 1 (Mono.mono p.xt hnv)) fun _ _ _ h => h.rl) fun H1 u1 => ?_)
  obtain ⟨G1, p1, x1⟩ := p.keep u1
  have t1 := u1.tb ht
  refine wb_expr (X := CxE P w K mg base Nterms "terms" s_terms f cdv A outer s H E) ?_
  refine we_so (T := T) (c := c) (E' := E) (k := okM q k) (n := -5) takeE (fun _ _ _ _ h => h) dS hr (by decide) t1 ?_ (ev_gi g.gBAD_TERMS) (fun kk H4 u4 => ?_) fun kk => RE.up (her (-5) ?_) u1
  · exact ev_andB (ev_chain (i := 0) (j := q) (k := 1000) op_leI op_leI ev_int (vr 3 (R := RI) rfl) (ev_gi g.gMOST_TERM)) fun _ => ev_chain (i := 0) (j := k) (k := 1000) op_leI op_leI ev_int (vr 4 (R := RI) rfl) (ev_gi g.gMOST_TERM)
  rotate_left
  · rw [estep, terms_bad q k kk, Wd.objS hx]
  have kk' := okM_iff.mp kk
  obtain ⟨rn, rfl⟩ : ∃ i : Nat, q = (i : Int) := ⟨q.toNat, by omega⟩
  obtain ⟨cn, rfl⟩ : ∃ kn : Nat, k = (kn : Int) := ⟨k.toNat, by omega⟩
  have estep2 := estep.trans (terms_yes (past := (wd.held.map (·.n)).reverse) rn cn kk)
  obtain ⟨G4, p4, x4⟩ := p1.keep u4
  have t4 := u4.tb t1
  refine wb_expr (X := CxE P w K mg base Nterms "terms" s_terms f cdv A outer s H E) ?_
  refine we_changed dC hr (by decide) t4 p4 hx (fun Q q => we_var (i := 0) rfl q) fun H6 G6 y lh' x6 hy p6 => ?_
  have t6 := p4.go p6 x6 t4
  have hgn : GoodN (nTerms x.n rn cn) := ⟨hg.t, hg.k, by show rn ≤ 1000; omega, by show cn ≤ 1000; omega⟩
  have hgn1 : GoodN (nTerms x.n rn x.n.m.changes) := ⟨hg.t, hg.k, by show rn ≤ 1000; omega, hg.changes⟩
  refine wb_cons (Ws.of (ps_fld we we rfl) (we_var (i := 3) rfl (we_fld (we_var (i := 0) rfl ⟨p6.hasS g (Xt.refl H6), x.s, c.stock, x.ds, _, rfl, (p6.stk rfl).1, g.stock.cl, g.stock.no _ (by decide), (show (4 : Nat) < 1000 by decide), ?_⟩))))
  have p7 := p6.setIns (x := x) rfl (kv := x.kv) (n := nTerms x.n rn x.n.m.changes) ⟨(p6.cur x rfl).tab, (p6.cur x rfl).kept, hgn1⟩
  show Wb _ _ _ _ (upd H6 x.s (stkI c { x with kv := x.kv, n := nTerms x.n rn x.n.m.changes }))
  refine wb_cons (Ws.of (ps_fld we we rfl) (we_var (i := 4) rfl (we_fld (we_var (i := 0) rfl ⟨p7.hasS g (Xt.refl _), x.s, c.stock, x.ds, _, rfl, (p7.stk rfl).1, g.stock.cl, g.stock.no _ (by decide), (show (4 : Nat) < 1000 by decide), ?_⟩))))
  have p8 := p7.setIns (x := { x with kv := x.kv, n := nTerms x.n rn x.n.m.changes }) rfl (kv := x.kv) (n := nTerms x.n rn cn) ⟨(p6.cur x rfl).tab, (p6.cur x rfl).kept, hgn⟩
  show Wb _ _ _ _ (upd (upd H6 x.s (stkI c { x with kv := x.kv, n := nTerms x.n rn x.n.m.changes })) x.s (stkI c { x with kv := x.kv, n := nTerms x.n rn cn }))
  have xall : Xt T G G6 := x1.trans (x4.trans x6)
  have t8 := p8.xt.tb (xall.tb (p.tb ht))
  refine wb_told (T := T) g dT hr (by decide) t8 p8 rfl (vr 0 (R := RV) rfl) fun v9 H9 G9 x9 p9 r9 => ?_
  exact fin_ok hok estep2 hy rfl (xall.trans x9) p9 r9
/-! ### add_row -/
abbrev s_addrow : Stmt := top 103
def Naddrow : List Str := ["holder", "numbers", "row", "table", "value"]
theorem sc_addrow : FnScope Naddrow ["holder", "numbers", "row"] (defScope s_addrow) := ⟨rfl, rfl, rfl, by decide +kernel, rfl, by decide +kernel, by decide +kernel⟩
def cRow (nums row : List Int) : Vamvsz.Call := .row (nums.getD 0 0) row
/-- one number; a list of so many at most -/
def HasR (k : Nat) : Wd → List Int → List Int → Prop := fun wd nums row => wd.cur ≠ none ∧ nums.length = k ∧ row.length ≤ 1000000
section
variable {X : Cx} {a : Expr} {σ : L2.St} {H : Hp} {pos p : Pos}
theorem ev_abs {i : Int} (hm : X.mg "abs" = none) (hv : bootBuiltins "abs" = some (.builtin "abs")) (ha : Ev T X RI a σ H i) (hg : Gl X "abs" := by rfl) (he : starEach (a :: []) X.env = (false, eval a X.env) :: starEach [] X.env := by rfl) (hpl : (backTo pos (starEach [] X.env)).any (·.1) = false := by rfl) :
    Ev T X RI (.Call (.Name "abs" p) [a] [] pos) σ H (if i < 0 then -i else i) := ev_b1 call_abs hm hv ha (fun H1 v e r Q q => ⟨i, by rw [show v = V.int i from r], q _ H1 (Xt.refl _) rfl⟩) hg (by decide) (by decide) he hpl
end
theorem ints_toNat {H : Hp} : ∀ {vs : List V} {xs : List Int}, All2 (RI H) vs xs → (∀ v ∈ xs, 0 ≤ v) → All2 (RN H) vs (xs.map fun v => v.toNat)
  | _, _, .nil, _ => .nil
  | _, _, .cons (b := b) h t, hv => by
    refine .cons ?_ (ints_toNat t fun v h => hv v (List.mem_cons_of_mem _ h))
    have := hv b List.mem_cons_self
    show _ = V.int ((b.toNat : Nat) : Int)
    rw [Int.toNat_of_nonneg this]
    exact h
theorem ok_addrow {f : Addr} {fd : FuncData} (g : Gf K mg c) (dS : DSo T P w K mg base c) (dC : DChanged T P w K mg base c) (dT : DTold T P w K mg base c) (F : Fun K "add_row" "add_row" s_addrow f fd) (hm : mg "add_row" = some (.ref f)) (b : Binds K fd ["holder", "numbers", "row"] []) :
    DDeed T P w K mg base c 9 "add_row" (HasR 1) cRow := by
  refine okE F hm b sc_addrow deed_len fun cdv A outer s H vs Q E hr h => ?_
  obtain ⟨ht, wd, G, nv, rv, nums, row, rfl, p, hnv, hrv, ⟨hcur, hlen, hrl⟩, hok, her⟩ := h
  obtain ⟨x, hx⟩ := cur_some hcur
  obtain ⟨m, rfl⟩ : ∃ q, nums = [q] := by
    match nums, hlen with
    | [a], _ => exact ⟨a, rfl⟩
  have hg := (p.cur x hx).good
  have estep : Vamvsz.step wd.obj (cRow [m] row) = Vamvsz.rowCall ⟨x.n, (wd.held.map (·.n)).reverse⟩ m row := by rw [Wd.objS hx]; rfl
  obtain ⟨cv, tb1, tb2⟩ := p.has hx
  refine wb_set (T := T) (R := RV) (x := .ref x.t) 3 (ev_fld (S := RV) (R := RV) (y := .ref x.s) (ev_stockV g p hx (vr 0 rfl)) fun H1 v u e => by
    cases e
    exact ⟨_, p.hasT g hx u, rfl⟩) (fun vt H1 u1 et => ?_) sc_addrow.nd
  cases et
  have bad : ¬ (row.length = x.n.t.cols.length ∧ (∀ v ∈ row, okV v = true) ∧ -1000 ≤ m ∧ m ≤ 1000) → ∀ {H' : Hp}, Xt T H H' → RE T c E H' (-4) := fun hb {H'} u => RE.up (her (-4) (by rw [estep, row_bad m row hb, Wd.objS hx])) u
  obtain ⟨G1, p1, x1⟩ := p.keep u1
  have t1 := u1.tb ht
  refine wb_expr (X := CxE P w K mg base Naddrow "add_row" s_addrow f cdv A outer s H E) ?_
  refine we_so (T := T) (c := c) (E' := E) (k := decide (row.length = x.n.t.cols.length)) (n := -4) takeE (fun _ _ _ _ h => h) dS hr (by decide) t1 ?_ (ev_gi g.gBAD) (fun k1 H2 u2 => ?_) fun k1 => bad (fun z => of_decide_eq_false k1 z.1) u1
  · refine Ev.is (ev_cmp (x := (row.length : Int)) (y := (x.n.t.cols.length : Int)) cmp_eq (ev_len (R := RI) (xs := row) g.len (Ev.to (R := RM RI) (vr 2 (Mono.mono (x1.trans p1.xt) hrv)) fun _ _ _ h => h.rl)) (ev_len (R := RM RU) (xs := x.n.t.cols) g.len (ev_fld (S := RV) (R := RL K (RM RU)) (y := .ref x.t) (vr 3 rfl) fun H1 v u e => ?_))) (decide_eq_decide.mpr ⟨fun h => by omega, fun h => by omega⟩)
    cases e
    have := x1.trans (p1.xt.trans u)
    exact ⟨cv, has_of g.table (this.ex _ _ tb1 nt_ins) rfl (by decide), Mono.mono this tb2⟩
  have k1 := of_decide_eq_true k1
  obtain ⟨G2, p2, x2⟩ := p1.keep u2
  have t2 := u2.tb t1
  refine wb_expr (X := CxE P w K mg base Naddrow "add_row" s_addrow f cdv A outer s H E) ?_
  refine we_so (T := T) (c := c) (E' := E) (k := decide (((row.filter fun v => !okV v).map fun v => v) = [])) (n := -4) takeE (fun _ _ _ _ h => h) dS hr (by decide) t2 ?_ (ev_gi g.gBAD) (fun k2 H3 u3 => ?_) fun k2 => bad (fun z => ?_) (u1.trans u2)
  · refine ev_cmp (cmp_eqI (u64 hr)) (Ev.to (R := RM RI) ?_ fun _ _ _ h => h.rl) (Ev.to (R := RM RI) (ev_list es_nil) fun _ _ _ h => h.rl)
    refine LcEv.ev (lx_lcI (T := T) (R := RI) (S := RI) (xs := row) (j := 4) (pr := fun v => !okV v) (g := fun v => v) rfl sc_addrow.nd (Ev.to (R := RM RI) (vr 2 (Mono.mono ((x1.trans x2).trans p2.xt) hrv)) fun _ _ _ h => h.rl) hrl (blkOk_by (N := Naddrow) (sc := defScope s_addrow) (by decide +kernel))
      (fun _ _ _ _ _ => pg_name sc_addrow.nd rfl (Or.inl rfl)) (fun k v5 o G ho u5 hv5 => ?_) (fun k v5 o G ho u5 hv5 _ => ?_)) rfl sc_addrow.nd
    · intro s0 H0 C cl fp
      exact et_not (et_chain (i := 0) (j := o) (k := 9) op_leI op_leI ev_int (vr (T := T) 4 (R := RI) hv5) (ev_gi g.gMOST_VALUE))
    · intro s0 H0 C cl fp
      exact vr (T := T) 4 (R := RI) hv5
  rotate_left
  · refine of_decide_eq_false k2 ?_
    rw [List.map_id', List.filter_eq_nil_iff]
    intro v hv
    rw [z.2.1 v hv]
    decide
  have k2 : ∀ v ∈ row, okV v = true := fun v hv => by
    have := of_decide_eq_true k2
    rw [List.map_id', List.filter_eq_nil_iff] at this
    have := this v hv
    simpa using this
  obtain ⟨G3, p3, x3⟩ := p2.keep u3
  have t3 := u3.tb t2
  have x03 := x1.trans (x2.trans x3)
  have enum0 : ∀ {H' : Hp} {p1 p2 p3 : Pos} {j : Nat}, RM RI H' nv [m] → Ev T (CxE P w K mg base Naddrow "add_row" s_addrow f cdv A outer s H E) RI (.Subscript (.Name "numbers" p1) (.Constant (.int 0) j p2) p3) [some (.ref wd.h), some nv, some rv, some (.ref x.t), none] H' m := fun {H' p1 p2 p3 j} h => ev_item (R := RI) (i := 0) (l := [m]) (vr 1 h.rl) ev_int rfl
  refine wb_expr (X := CxE P w K mg base Naddrow "add_row" s_addrow f cdv A outer s H E) ?_
  refine we_so (T := T) (c := c) (E' := E) (k := decide ((if m < 0 then -m else m) ≤ (1000 : Int))) (n := -4) takeE (fun _ _ _ _ h => h) dS hr (by decide) t3 ?_ (ev_gi g.gBAD) (fun k3 H4 u4 => ?_) fun k3 => bad (fun z => of_decide_eq_false k3 (by split <;> omega)) (u1.trans (u2.trans u3))
  · exact ev_cmp cmp_le (ev_abs g.abs (by decide +kernel) (enum0 (Mono.mono (x03.trans p3.xt) hnv))) (ev_gi g.gMOST_SUMMED)
  have k3 : -1000 ≤ m ∧ m ≤ 1000 := by
    have := of_decide_eq_true k3
    by_cases z : m < 0
    · rw [if_pos z] at this; omega
    · rw [if_neg z] at this; omega
  obtain ⟨G4, p4, x4⟩ := p3.keep u4
  have t4 := u4.tb t3
  have hall : row.length = x.n.t.cols.length ∧ (∀ v ∈ row, okV v = true) ∧ -1000 ≤ m ∧ m ≤ 1000 := ⟨k1, k2, k3⟩
  refine wb_expr (X := CxE P w K mg base Naddrow "add_row" s_addrow f cdv A outer s H E) ?_
  refine we_so (T := T) (c := c) (E' := E) (k := decide (x.n.t.rows.length < 16)) (n := -6) takeE (fun _ _ _ _ h => h) dS hr (by decide) t4 ?_ (ev_gi g.gFULL) (fun k4 H5 u5 => ?_) fun k4 => RE.up (her (-6) ?_) (u1.trans (u2.trans (u3.trans u4)))
  · refine Ev.is (ev_cmp (x := (x.n.t.rows.length : Int)) (y := (16 : Int)) cmp_lt (ev_len (R := RRow K) (xs := x.n.t.rows) g.len (ev_fld (S := RV) (R := RL K (RRow K)) (y := .ref x.t) (vr 3 rfl) fun H1 v u e => ?_)) (ev_gi g.gMOST_ROWS)) (decide_eq_decide.mpr ⟨fun h => by omega, fun h => by omega⟩)
    cases e
    have := x03.trans (x4.trans (p4.xt.trans u))
    exact ⟨.ref x.ll, has_of g.table (this.ex _ _ tb1 nt_ins) rfl (by decide), x.ll, x.rv, rfl, SqL.of (u.ex _ _ (p4.stk hx).2.1 nt_lst), (p4.cur x hx).tab.rows.mono (p4.xt.trans u)⟩
  rotate_left
  · rw [estep, row_full m row hall (of_decide_eq_false k4), Wd.objS hx]
  have k4 := of_decide_eq_true k4
  have estep2 := estep.trans (row_yes (past := (wd.held.map (·.n)).reverse) m row hall k4)
  obtain ⟨G5, p5, x5⟩ := p4.keep u5
  have t5 := u5.tb t4
  refine wb_expr (X := CxE P w K mg base Naddrow "add_row" s_addrow f cdv A outer s H E) ?_
  refine we_changed dC hr (by decide) t5 p5 hx (fun Q q => we_var (i := 0) rfl q) fun H6 G6 y lh' x6 hy p6 => ?_
  have t6 := p5.go p6 x6 t5
  have x06 := x03.trans (x4.trans (x5.trans x6))
  refine wb_expr (X := CxE P w K mg base Naddrow "add_row" s_addrow f cdv A outer s H E) ?_
  refine we_appendW (l := x.ll) (we_fld (we_var (i := 3) rfl ⟨has_of g.table ((x06.trans p6.xt).ex _ _ tb1 nt_ins) rfl (by decide), rfl, x.rv, (p6.stk rfl).2.1, ?_⟩))
  refine Ev.now (T := T) (R := RP K (RTs K RI) RI) (x := (row, m)) ?_ fun v H7 u7 r7 => ?_
  · refine ev_pair ?_ ?_
    · refine ev_tupleL g.tuple (by decide +kernel) ?_
      exact Ev.to (R := RM RI) (vr 2 (Mono.mono (x06.trans p6.xt) hrv)) fun _ _ _ h => h.rl
    · exact enum0 (Mono.mono (x06.trans p6.xt) hnv)
  obtain ⟨G7, p7, x7⟩ := p6.keep u7
  have hql : x.rv.length = x.n.t.rows.length := (p7.cur x rfl).tab.rows.length
  refine ⟨x.rv, (p7.stk rfl).2.1, by omega, ?_⟩
  have hnn : ∀ v ∈ row, (0 : Int) ≤ v := fun v hv => (okV_iff.mp (k2 v hv)).1
  have hgn : GoodN (nRows x.n (x.n.t.rows ++ [⟨row.map fun v => v.toNat, m⟩])) := by
    refine ⟨⟨hg.t.cols, hg.t.names, by show (x.n.t.rows ++ _).length ≤ 16; rw [List.length_append, List.length_singleton]; omega, fun r hr => ?_, hg.t.asks, hg.t.asked⟩, hg.k, hg.room, hg.changes⟩
    rcases List.mem_append.mp (show r ∈ x.n.t.rows ++ _ from hr) with z | z
    · exact hg.t.vals r z
    · rw [List.mem_singleton.mp z]
      refine ⟨by show (row.map fun v => v.toNat).length = x.n.t.cols.length; rw [List.length_map]; exact k1, fun u hu => ?_, k3.1, k3.2⟩
      obtain ⟨v, hv, rfl⟩ := List.mem_map.mp hu
      have := okV_iff.mp (k2 v hv)
      omega
  have r7G : RRow K G7 v ⟨row.map fun v => v.toNat, m⟩ := by
    obtain ⟨a, v1, v2, e1, e2, ⟨a1, vs1, e3, e4, e5⟩, e6⟩ := p7.dn (R := RP K (RTs K RI) RI) r7
    exact ⟨a, v1, v2, e1, e2, ⟨a1, vs1, e3, e4, ints_toNat e5 hnn⟩, e6⟩
  have hr8 : All2 (RRow K G7) (x.rv ++ [v]) (x.n.t.rows ++ [(⟨row.map fun v => v.toNat, m⟩ : Vamvsa.Row)]) :=
    All2.snoc (R := RRow K G7) (b := (⟨row.map fun v => v.toNat, m⟩ : Vamvsa.Row)) (p7.cur x rfl).tab.rows r7G
  have p8 := p7.setLl (x := x) rfl (rv := x.rv ++ [v]) (n := nRows x.n (x.n.t.rows ++ [(⟨row.map fun v => v.toNat, m⟩ : Vamvsa.Row)])) rfl ⟨⟨(p7.cur x rfl).tab.ex, hr8, (p7.cur x rfl).tab.asks⟩, (p7.cur x rfl).kept, hgn⟩
  have xall : Xt T G G7 := x06.trans x7
  have t8 := p8.xt.tb (xall.tb (p.tb ht))
  refine wb_told (T := T) g dT hr (by decide) t8 p8 rfl (vr 0 (R := RV) rfl) fun v9 H9 G9 x9 p9 r9 => ?_
  exact fin_ok hok estep2 hy rfl (xall.trans x9) p9 r9
end G5
/-! R8: the deeds shown, report. -/
namespace G5
open PySem PySem.Spec PyProof.Rows L2
variable {T : List NTab} {P : Program} {w : World} {K : PySem.W.Frag} {mg : Str → Option Value} {base : Heap} {c : Cs}
/-- a call that looks -/
theorem fin_look {H G H' : Hp} {wd : Wd} {call : Vamvsz.Call} {Q : VK} (hok : ∀ v H' G' wd', wd'.h = wd.h → Xt T G G' → WdOk T K c H' G' wd' → wd'.obj = (Vamvsz.step wd.obj call).1 → RM RI H' v (lstA (Vamvsz.step wd.obj call).2) → Q v H') {a : VamvsBase.Answer}
    (hs : Vamvsz.step wd.obj call = (wd.obj, a)) (p : WdOk T K c H G wd) (u : Xt T H H') {v : V} (r : RM RI H' v (lstA a)) : Q v H' := by
  obtain ⟨G', p', x'⟩ := p.keep u
  rw [hs] at hok
  exact hok v H' G' wd rfl x' p' rfl r
theorem shown_len {t : Vamvsa.Table} (hg : Good t) : (Vamvsa.shown t).length ≤ 10000 := by
  have e1 : (VamvsBase.word "columns ").length = 8 := by decide +kernel
  have e2 : (VamvsBase.word " ;").length = 2 := by decide +kernel
  have hcl : (Vamvsa.commas t.cols).length ≤ 72 := by
    refine Nat.le_trans (commas_len (M := 16) hg.names) ?_
    have := hg.cols
    omega
  have hrow : ∀ r ∈ t.rows, RowOk r := fun r hr => ⟨by have := (hg.vals r hr).1; have := hg.cols; omega, (hg.vals r hr).2⟩
  have hask : ∀ a ∈ t.asks, AskOk t.cols a := fun a ha => ⟨hg.cols, hg.names, hg.asked a ha⟩
  have h1 : (t.rows.flatMap Vamvsa.showRow).length ≤ 16 * 100 := by
    refine Nat.le_trans (flat_len _ 100 _ fun x hx => row_len (hrow x hx)) ?_
    exact Nat.mul_le_mul_right _ hg.rows
  have e10 : t.asks.flatMap (askB t.cols) = t.asks.flatMap (Vamvsa.showAsk t.cols) := by
    rw [List.flatMap_def, List.flatMap_def, List.map_congr_left fun a ha => ask_law2 (hask a ha)]
  have h2 : (t.asks.flatMap (Vamvsa.showAsk t.cols)).length ≤ 8 * 200 := by
    rw [← e10]
    refine Nat.le_trans (flat_len _ 200 _ fun x hx => (ask_len (hask x hx)).2) ?_
    exact Nat.mul_le_mul_right _ hg.asks
  have e9 : Vamvsa.shown t = (((VamvsBase.word "columns " ++ Vamvsa.commas t.cols) ++ VamvsBase.word " ;") ++ [10] ++ t.rows.flatMap Vamvsa.showRow) ++ t.asks.flatMap (Vamvsa.showAsk t.cols) := by
    unfold Vamvsa.shown Vamvsa.line
    simp only [List.append_assoc]
  rw [e9]
  simp only [List.length_append, List.length_singleton, e1, e2]
  omega
theorem rm_bytes {H : Hp} {v : V} {b : List UInt8} (h : RM RU H v b) : RM RI H v (b.map fun c => (c.toNat : Int)) := by
  obtain ⟨l, vs, e, hl, h2⟩ := h
  refine ⟨l, vs, e, hl, ?_⟩
  clear e hl
  induction h2 with
  | nil => exact .nil
  | cons a _ ih => exact .cons a ih
abbrev s_shown : Stmt := top 99
def Nshown : List Str := ["holder", "numbers", "row", "text"]
theorem sc_shown : FnScope Nshown ["holder", "numbers", "row"] (defScope s_shown) := ⟨rfl, rfl, rfl, by decide +kernel, rfl, by decide +kernel, by decide +kernel⟩
def cShown (_nums _row : List Int) : Vamvsz.Call := .shown
abbrev DText (T : List NTab) (P : Program) (w : World) (K : PySem.W.Frag) (mg : Str → Option Value) (base : Heap) (c : Cs) : Prop := Df P w K mg base CX0 4 "table_text" ["table"] (Sp1 T (RTab K c) (RM RU) Good Vamvsa.shown)
theorem ok_shown {f : Addr} {fd : FuncData} (g : Gf K mg c) (dX : DText T P w K mg base c) (F : Fun K "shown" "shown" s_shown f fd) (hm : mg "shown" = some (.ref f)) (b : Binds K fd ["holder", "numbers", "row"] []) :
    DDeed T P w K mg base c 9 "shown" (Has1 0) cShown := by
  refine okE F hm b sc_shown deed_len fun cdv A outer s H vs Q E hr h => ?_
  obtain ⟨ht, wd, G, nv, rv, nums, row, rfl, p, hnv, hrv, ⟨hcur, hlen⟩, hok, her⟩ := h
  obtain ⟨x, hx⟩ := cur_some hcur
  have hg := (p.cur x hx).good
  have estep : Vamvsz.step wd.obj (cShown nums row) = (wd.obj, VamvsBase.textAnswer (Vamvsa.shown x.n.t)) := by rw [Wd.objS hx]; rfl
  refine wb_set (T := T) (R := RM RU) (x := Vamvsa.shown x.n.t) 3 (ev_c1 dX hr (by decide) ht (ev_fld (S := RNow K c) (R := RTab K c) (ev_stock g p hx (vr 0 (R := RV) rfl)) fun H1 v u r => r.table g) hg.t) (fun vt H1 u1 rt => ?_) sc_shown.nd
  refine wb_ret (T := T) (R := RM RI) (x := [((Vamvsa.shown x.n.t).length : Int)] ++ (Vamvsa.shown x.n.t).map fun c => (c.toNat : Int)) ?_ fun v' H2 u2 r => fin_look hok estep p (u1.trans u2) r
  refine ev_cat (ev_list (es_cons ?_ es_nil) (show (1 : Nat) ≤ 1000 by decide)) ?_ ?_
  · exact ev_len g.len (vr 3 (R := RL K RU) rt.rl)
  · exact vr 3 (R := RM RI) (rm_bytes rt)
  · have := shown_len hg.t
    rw [List.length_map]
    show 1 + _ ≤ _
    omega
/-! ### report -/
theorem rm_nats {H : Hp} {v : V} {b : List Nat} (h : RM RN H v b) : RM RI H v (Vamvsz.nats b) := by
  obtain ⟨l, vs, e, hl, h2⟩ := h
  refine ⟨l, vs, e, hl, ?_⟩
  clear e hl
  unfold Vamvsz.nats
  induction h2 with
  | nil => exact .nil
  | cons a _ ih => exact .cons a ih
def repT (n : Vamvsz.Now) (ss : List Nat) : List Int := ((([(paid1 n ss n.k : Int), (total1 n.t ss n.k : Int)] ++ [(lines1 ss n.k : Int), (n.m.room : Int)] ++ keptT n ss) ++ quesT n ss) ++ [((idle1 n ss).length : Int)]) ++ Vamvsz.nats (idle1 n ss)
theorem keptT_law {n : Vamvsz.Now} (hg : GoodN n) : keptT n (szs n.t) = (n.k.length : Int) :: n.k.flatMap fun g => Vamvsz.nats [g, Vamvsa.sizeOf_ n.t g, (Vamvsz.readers n g).length, Vamvsz.worth n g] := by
  unfold keptT
  congr 1
  rw [List.flatMap_def, List.flatMap_def, List.map_congr_left fun k hk => ?_]
  unfold keptRow
  rw [szs_at (by rw [← szs_length]; exact kept_lt hg k hk), readers_law hg, worth_law hg]
  rfl
theorem quesT_law {n : Vamvsz.Now} (hg : GoodN n) : quesT n (szs n.t) = (n.t.asks.length : Int) :: n.t.asks.flatMap fun a => [(a.g : Int), (a.k : Int), match Vamvsa.reader n.t n.k a.g with
  | none => -1
  | some v => (v : Int), (Vamvsa.costOf n.t n.k a.g : Int)] := by
  unfold quesT
  congr 1
  rw [List.flatMap_def, List.flatMap_def, List.map_map, List.map_congr_left fun a ha => ?_]
  have hb := (hg.t.asked a ha).1
  show quesRow n (szs n.t) (a.g, a.k) = _
  unfold quesRow
  rw [reader_law hg.t n.k hb, cost_law hg.t n.k hb]
  unfold roI
  cases Vamvsa.reader n.t n.k a.g <;> rfl
theorem rep_law {n : Vamvsz.Now} (hg : GoodN n) : repT n (szs n.t) = lstA (Vamvsz.reportAnswer n) := by
  unfold repT
  rw [keptT_law hg, quesT_law hg, paid_law hg, total_law hg.t, room_law hg, idle_law hg]
  unfold lstA Vamvsz.reportAnswer Vamvsz.listRow Vamvsz.nats
  simp only [List.append_assoc, List.cons_append, List.nil_append, List.map_cons, List.map_nil]
  rfl
abbrev s_report : Stmt := top 108
def Nreport : List Str := ["holder", "numbers", "row", "stock", "sizes", "idle", "found"]
theorem sc_report : FnScope Nreport ["holder", "numbers", "row"] (defScope s_report) := ⟨rfl, rfl, rfl, by decide +kernel, rfl, by decide +kernel, by decide +kernel⟩
def cReport (_nums _row : List Int) : Vamvsz.Call := .report
abbrev DIdle (T : List NTab) (P : Program) (w : World) (K : PySem.W.Frag) (mg : Str → Option Value) (base : Heap) (c : Cs) : Prop := Df P w K mg base CX0 8 "idle_ones" ["stock", "sizes"] (Sp2 T (RNow K c) (RL K RN) (RM RN) (fun n ss => GoodN n ∧ ss.length ≤ 16) idle1)
abbrev DCosts (T : List NTab) (P : Program) (w : World) (K : PySem.W.Frag) (mg : Str → Option Value) (base : Heap) (c : Cs) : Prop := Df P w K mg base CX0 6 "all_costs" ["table", "sizes", "kept"] (Sp3 T (RTab K c) (RL K RN) (RL K RN) RN pSs total1)
theorem ok_report {f : Addr} {fd : FuncData} (g : Gf K mg c) (dS : DSizes T P w K mg base c) (dI : DIdle T P w K mg base c) (dP : DPaid T P w K mg base c) (dA : DCosts T P w K mg base c) (dL : DLines T P w K mg base) (dK : DKeptt T P w K mg base c) (dQ : DQuest T P w K mg base c)
    (F : Fun K "report" "report" s_report f fd) (hm : mg "report" = some (.ref f)) (b : Binds K fd ["holder", "numbers", "row"] []) :
    DDeed T P w K mg base c 9 "report" (Has1 0) cReport := by
  refine okE F hm b sc_report deed_len fun cdv A outer s H vs Q E hr h => ?_
  obtain ⟨ht, wd, G, nv, rv, nums, row, rfl, p, hnv, hrv, ⟨hcur, hlen⟩, hok, her⟩ := h
  obtain ⟨x, hx⟩ := cur_some hcur
  have hg := (p.cur x hx).good
  have estep : Vamvsz.step wd.obj (cReport nums row) = (wd.obj, Vamvsz.reportAnswer x.n) := by rw [Wd.objS hx]; rfl
  have hss := szs_len hg.t
  have hkl := hg.klen
  have hal := hg.t.asks
  refine wb_set (T := T) (R := RNow K c) (x := x.n) 3 (ev_stock g p hx (vr 0 (R := RV) rfl)) (fun v3 H1 u1 r3 => ?_) sc_report.nd
  refine wb_set (T := T) (R := RM RN) (x := szs x.n.t) 4 (ev_c1 dS hr (by decide) (u1.tb ht) (ev_fld (S := RNow K c) (R := RTab K c) (vr 3 r3) fun H1 v u r => r.table g) hg.t) (fun v4 H2 u2 r4 => ?_) sc_report.nd
  have r32 := Mono.mono u2 r3
  have t2 := (u1.trans u2).tb ht
  refine wb_set (T := T) (R := RM RN) (x := idle1 x.n (szs x.n.t)) 5 (ev_c2 dI hr (by decide) t2 (vr 3 r32) (vr 4 r4.rl) ⟨hg, hss⟩) (fun v5 H3 u3 r5 => ?_) sc_report.nd
  have r33 := Mono.mono u3 r32
  have r43 := Mono.mono u3 r4
  have t3 := u3.tb t2
  refine wb_set (T := T) (R := RM RI) (x := [(paid1 x.n (szs x.n.t) x.n.k : Int), (total1 x.n.t (szs x.n.t) x.n.k : Int)]) 6 (ev_list (es_cons (Ev.to (R := RN) (x := paid1 x.n (szs x.n.t) x.n.k) ?_ fun _ _ _ h => h) (es_cons (Ev.to (R := RN) (x := total1 x.n.t (szs x.n.t) x.n.k) ?_ fun _ _ _ h => h) es_nil)) (show (2 : Nat) ≤ 1000 by decide)) (fun v6 H4 u4 r6 => ?_) sc_report.nd
  · exact ev_c3 dP hr (by decide) t3 (vr 3 r33) (vr 4 r43.rl) (ev_fld (S := RNow K c) (R := RL K RN) (vr 3 r33) fun H1 v u r => r.kept g) ⟨hg, hss⟩
  · exact ev_c3 dA hr (by decide) t3 (ev_fld (S := RNow K c) (R := RTab K c) (vr 3 r33) fun H1 v u r => r.table g) (vr 4 r43.rl) (ev_fld (S := RNow K c) (R := RL K RN) (vr 3 r33) fun H1 v u r => r.kept g) ⟨hg.t, hss⟩
  have r34 := Mono.mono u4 r33
  have r44 := Mono.mono u4 r43
  have r54 := Mono.mono u4 r5
  have t4 := u4.tb t3
  have hkt : (keptT x.n (szs x.n.t)).length ≤ 100 := by
    have := flatI_len (keptRow x.n (szs x.n.t)) 4 x.n.k fun _ => Nat.le_refl _
    show (_ :: _ : List Int).length ≤ _
    rw [List.length_cons]
    omega
  have hqt : (quesT x.n (szs x.n.t)).length ≤ 100 := by
    have := flatI_len (quesRow x.n (szs x.n.t)) 4 (x.n.t.asks.map fun (a : Vamvsa.Ask) => ((a.g, a.k) : Nat × Nat)) fun _ => Nat.le_refl _
    rw [List.length_map] at this
    show (_ :: _ : List Int).length ≤ _
    rw [List.length_cons]
    omega
  have hid : (idle1 x.n (szs x.n.t)).length ≤ 16 := Nat.le_trans (List.length_filter_le _ _) (by omega)
  refine wb_set (T := T) (R := RM RI) (x := [(paid1 x.n (szs x.n.t) x.n.k : Int), (total1 x.n.t (szs x.n.t) x.n.k : Int)] ++ [(lines1 (szs x.n.t) x.n.k : Int), (x.n.m.room : Int)] ++ keptT x.n (szs x.n.t)) 6 (ev_cat (ev_cat (vr 6 r6) (ev_list (es_cons (Ev.to (R := RN) (x := lines1 (szs x.n.t) x.n.k) ?_ fun _ _ _ h => h) (es_cons ?_ es_nil)) (show (2 : Nat) ≤ 1000 by decide)) (show (4 : Nat) ≤ 1000000 by decide)) ?_ ?_) (fun v7 H5 u5 r7 => ?_) sc_report.nd
  · exact ev_c2 dL hr (by decide) t4 (vr 4 r44.rl) (ev_fld (S := RNow K c) (R := RL K RN) (vr 3 r34) fun H1 v u r => r.kept g) ⟨by omega, kept_lt hg⟩
  · exact ev_fld (S := RNow K c) (R := RI) (vr 3 r34) fun H1 v u r => r.room g
  · exact ev_c2 dK hr (by decide) t4 (vr 3 r34) (vr 4 r44.rl) ⟨hg, hss, kept_lt hg⟩
  · simp only [List.length_append, List.length_cons, List.length_nil]; omega
  have r35 := Mono.mono u5 r34
  have r45 := Mono.mono u5 r44
  have r55 := Mono.mono u5 r54
  have t5 := u5.tb t4
  refine wb_ret (T := T) (R := RM RI) (x := repT x.n (szs x.n.t)) (ev_cat (ev_cat (ev_cat (vr 6 r7) ?_ ?_) (ev_list (es_cons ?_ es_nil) (show (1 : Nat) ≤ 1000 by decide)) ?_) ?_ ?_) fun v' H6 u6 r => fin_look hok estep p (u1.trans (u2.trans (u3.trans (u4.trans (u5.trans u6))))) (by rw [rep_law hg] at r; exact r)
  · exact ev_c2 dQ hr (by decide) t5 (vr 3 r35) (vr 4 r45.rl) ⟨hg, hss⟩
  · simp only [List.length_append, List.length_cons, List.length_nil]; omega
  · exact ev_len g.len (vr 5 (R := RL K RN) r55.rl)
  · simp only [List.length_append, List.length_cons, List.length_nil]; omega
  · exact vr 5 (R := RM RI) (rm_nats r55)
  · unfold Vamvsz.nats; simp only [List.length_append, List.length_cons, List.length_nil, List.length_map]; omega
end G5
/-! R9: the deed advise. -/
namespace G5
open PySem PySem.Spec PyProof.Rows L2
variable {T : List NTab} {P : Program} {w : World} {K : PySem.W.Frag} {mg : Str → Option Value} {base : Heap} {c : Cs}
section
variable {X : Cx} {a : Expr} {σ : L2.St} {H : Hp} {pos p : Pos}
theorem ev_intB {b : Bool} (hm : X.mg "int" = none) (ha : Ev T X RB a σ H b) (hg : Gl X "int" := by rfl) (he : starEach (a :: []) X.env = (false, eval a X.env) :: starEach [] X.env := by rfl) (hpl : (backTo pos (starEach [] X.env)).any (·.1) = false := by rfl) :
    Ev T X RI (.Call (.Name "int" p) [a] [] pos) σ H (if b = true then 1 else 0) := ev_t1 call_int1 hm rfl ha (fun H1 v e r Q q => .inr ⟨b, by rw [show v = V.bl b from r], q _ H1 (Xt.refl _) rfl⟩) hg (by decide) (by decide) he hpl
end
def advT (n : Vamvsz.Now) (b : Vamvsb.Price) : List Int := ((([(b.cost : Int), (paid1 n (szs n.t) n.k : Int), if decide ((lines1 (szs n.t) n.k : Int) ≤ (n.m.room : Int)) = true then 1 else 0] ++ [((Vamvsz.dropsFor n b.kept).length : Int)]) ++ Vamvsz.nats (Vamvsz.dropsFor n b.kept)) ++ [((Vamvsz.putsFor n b.kept).length : Int)]) ++ Vamvsz.nats (Vamvsz.putsFor n b.kept)
theorem adv_law {n : Vamvsz.Now} (hg : GoodN n) : advT n (Vamvsz.best n) = lstA (Vamvsz.looked n .advise) := by
  have e : (if decide ((Vamvsa.room n.t n.k : Int) ≤ (n.m.room : Int)) = true then (1 : Int) else 0) = ((if Vamvsz.fits n = true then 1 else 0 : Nat) : Int) := by
    unfold Vamvsz.fits
    by_cases z : Vamvsa.room n.t n.k ≤ n.m.room
    · rw [if_pos (decide_eq_true (by omega)), if_pos (decide_eq_true z)]; rfl
    · rw [if_neg (by rw [decide_eq_true_iff]; omega), if_neg (by rw [decide_eq_true_iff]; exact z)]; rfl
  unfold advT
  rw [paid_law hg, room_law hg, e]
  unfold lstA Vamvsz.looked Vamvsz.listRow Vamvsz.nats
  simp only [List.append_assoc, List.cons_append, List.nil_append, List.map_cons, List.map_nil]
abbrev s_advise : Stmt := top 109
def Nadvise : List Str := ["holder", "numbers", "row", "stock", "sizes", "best", "wanted", "less", "more", "is_room", "found", "grouping"]
theorem sc_advise : FnScope Nadvise ["holder", "numbers", "row"] (defScope s_advise) := ⟨rfl, rfl, rfl, by decide +kernel, rfl, by decide +kernel, by decide +kernel⟩
def cAdvise (_nums _row : List Int) : Vamvsz.Call := .advise
abbrev DBest (T : List NTab) (P : Program) (w : World) (K : PySem.W.Frag) (mg : Str → Option Value) (base : Heap) (c : Cs) : Prop := Df P w K mg base CX0 5 "best_set" ["stock", "sizes"] (Sp2 T (RNow K c) (RL K RN) (RBest c) (fun n ss => GoodN n ∧ ss.length ≤ 16) fun n ss => bestN n ss (2 ^ ss.length - 1))
abbrev DMem (T : List NTab) (P : Program) (w : World) (K : PySem.W.Frag) (mg : Str → Option Value) (base : Heap) : Prop := Df P w K mg base CX0 1 "members_of" ["number"] (Sp1 T RN (RM RN) (fun n => n < 65536) mem1)
theorem ok_advise {f : Addr} {fd : FuncData} (g : Gf K mg c) (dS : DSizes T P w K mg base c) (dB : DBest T P w K mg base c) (dM : DMem T P w K mg base) (dP : DPaid T P w K mg base c) (dL : DLines T P w K mg base)
    (F : Fun K "advise" "advise" s_advise f fd) (hm : mg "advise" = some (.ref f)) (b : Binds K fd ["holder", "numbers", "row"] []) :
    DDeed T P w K mg base c 9 "advise" (Has1 0) cAdvise := by
  refine okE F hm b sc_advise deed_len fun cdv A outer s H vs Q E hr h => ?_
  obtain ⟨ht, wd, G, nv, rv, nums, row, rfl, p, hnv, hrv, ⟨hcur, hlen⟩, hok, her⟩ := h
  obtain ⟨x, hx⟩ := cur_some hcur
  have hg := (p.cur x hx).good
  have estep : Vamvsz.step wd.obj (cAdvise nums row) = (wd.obj, Vamvsz.looked x.n .advise) := by rw [Wd.objS hx]; rfl
  have hss := szs_len hg.t
  have hkl := hg.klen
  obtain ⟨bl1, bl2, bl3⟩ := best_law hg
  refine wb_set (T := T) (R := RNow K c) (x := x.n) 3 (ev_stock g p hx (vr 0 (R := RV) rfl)) (fun v3 H1 u1 r3 => ?_) sc_advise.nd
  refine wb_set (T := T) (R := RM RN) (x := szs x.n.t) 4 (ev_c1 dS hr (by decide) (u1.tb ht) (ev_fld (S := RNow K c) (R := RTab K c) (vr 3 r3) fun H1 v u r => r.table g) hg.t) (fun v4 H2 u2 r4 => ?_) sc_advise.nd
  have r32 := Mono.mono u2 r3
  have t2 := (u1.trans u2).tb ht
  refine wb_set (T := T) (R := RBest c) (x := pTri (Vamvsz.best x.n)) 5 (Ev.is (ev_c2 dB hr (by decide) t2 (vr 3 r32) (vr 4 r4.rl) ⟨hg, hss⟩) bl1) (fun v5 H3 u3 r5 => ?_) sc_advise.nd
  have r33 := Mono.mono u3 r32
  have r43 := Mono.mono u3 r4
  have t3 := u3.tb t2
  refine wb_set (T := T) (R := RM RN) (x := (Vamvsz.best x.n).kept) 6 (Ev.is (ev_c1 dM hr (by decide) t3 (ev_fld (S := RBest c) (R := RN) (y := pTri (Vamvsz.best x.n)) (x := (Vamvsz.best x.n).code) (vr 5 r5) fun H1 v u r => r.number g) bl3) bl2) (fun v6 H4 u4 r6 => ?_) sc_advise.nd
  have r34 := Mono.mono u4 r33
  have r44 := Mono.mono u4 r43
  have r54 := Mono.mono u4 r5
  have t4 := u4.tb t3
  have hbk : (Vamvsz.best x.n).kept.length ≤ 16 := by
    rw [← bl2]
    unfold mem1
    refine Nat.le_trans (List.length_filter_le _ _) ?_
    rw [List.length_range]; exact Nat.le_refl _
  refine wb_setLc (T := T) 7 (lx_lcI (T := T) (R := RN) (S := RN) (xs := x.n.k) (j := 11) (pr := fun g => !(Vamvsz.best x.n).kept.contains g) (g := fun x => x) rfl sc_advise.nd (ev_fld (S := RNow K c) (R := RL K RN) (vr 3 r34) fun H1 v u r => r.kept g) (by omega) (blkOk_by (N := Nadvise) (sc := defScope s_advise) (by decide +kernel))
    (fun _ _ _ _ _ => pg_name sc_advise.nd rfl (Or.inl rfl)) (fun i v x G hx u2 hv => ?_) (fun i v x G hx u hv _ => ?_)) rfl sc_advise.nd (fun v7 H5 u5 r7 => ?_)
  · intro s0 H0 C cl fp
    exact et_cmp cmp_notInN (vr (T := T) 11 (R := RN) hv) (vr (T := T) 6 (R := RL K RN) (Mono.mono u2 r6).rl)
  · intro s0 H0 C cl fp
    exact vr (T := T) 11 (R := RN) hv
  replace r7 : RM RN H5 v7 (Vamvsz.dropsFor x.n (Vamvsz.best x.n).kept) := by rw [List.map_id'] at r7; exact r7
  have r35 := Mono.mono u5 r34
  have r45 := Mono.mono u5 r44
  have r55 := Mono.mono u5 r54
  have r65 := Mono.mono u5 r6
  have t5 := u5.tb t4
  refine wb_setLc (T := T) 8 (lx_lcI (T := T) (R := RN) (S := RN) (xs := (Vamvsz.best x.n).kept) (j := 11) (pr := fun g => !x.n.k.contains g) (g := fun x => x) rfl sc_advise.nd (vr 6 (R := RL K RN) r65.rl) (by omega) (blkOk_by (N := Nadvise) (sc := defScope s_advise) (by decide +kernel))
    (fun _ _ _ _ _ => pg_name sc_advise.nd rfl (Or.inl rfl)) (fun i v x G hx u2 hv => ?_) (fun i v x G hx u hv _ => ?_)) rfl sc_advise.nd (fun v8 H6 u6 r8 => ?_)
  · intro s0 H0 C cl fp
    exact et_cmp cmp_notInN (vr (T := T) 11 (R := RN) hv) (ev_fld (S := RNow K c) (R := RL K RN) (vr (T := T) 3 (Mono.mono u2 r35)) fun H1 v u r => r.kept g)
  · intro s0 H0 C cl fp
    exact vr (T := T) 11 (R := RN) hv
  replace r8 : RM RN H6 v8 (Vamvsz.putsFor x.n (Vamvsz.best x.n).kept) := by rw [List.map_id'] at r8; exact r8
  have r36 := Mono.mono u6 r35
  have r46 := Mono.mono u6 r45
  have r56 := Mono.mono u6 r55
  have r76 := Mono.mono u6 r7
  have t6 := u6.tb t5
  refine wb_set (T := T) (R := RI) (x := if decide ((lines1 (szs x.n.t) x.n.k : Int) ≤ (x.n.m.room : Int)) = true then 1 else 0) 9 (ev_intB g.int (ev_cmp cmp_le (Ev.to (R := RN) (x := lines1 (szs x.n.t) x.n.k) ?_ fun _ _ _ h => h) ?_)) (fun v9 H7 u7 r9 => ?_) sc_advise.nd
  · exact ev_c2 dL hr (by decide) t6 (vr 4 r46.rl) (ev_fld (S := RNow K c) (R := RL K RN) (vr 3 r36) fun H1 v u r => r.kept g) ⟨by omega, kept_lt hg⟩
  · exact ev_fld (S := RNow K c) (R := RI) (vr 3 r36) fun H1 v u r => r.room g
  have r37 := Mono.mono u7 r36
  have r47 := Mono.mono u7 r46
  have r57 := Mono.mono u7 r56
  have r77 := Mono.mono u7 r76
  have r87 := Mono.mono u7 r8
  have t7 := u7.tb t6
  refine wb_set (T := T) (R := RM RI) (x := [((Vamvsz.best x.n).cost : Int), (paid1 x.n (szs x.n.t) x.n.k : Int), if decide ((lines1 (szs x.n.t) x.n.k : Int) ≤ (x.n.m.room : Int)) = true then 1 else 0]) 10 (ev_list (es_cons ?_ (es_cons (Ev.to (R := RN) (x := paid1 x.n (szs x.n.t) x.n.k) ?_ fun _ _ _ h => h) (es_cons ?_ es_nil))) (show (3 : Nat) ≤ 1000 by decide)) (fun v10 H8 u8 r10 => ?_) sc_advise.nd
  · exact ev_fld (S := RBest c) (R := RI) (y := pTri (Vamvsz.best x.n)) (x := ((Vamvsz.best x.n).cost : Int)) (vr 5 r57) fun H1 v u r => r.paid g
  · exact ev_c3 dP hr (by decide) t7 (vr 3 r37) (vr 4 r47.rl) (ev_fld (S := RNow K c) (R := RL K RN) (vr 3 r37) fun H1 v u r => r.kept g) ⟨hg, hss⟩
  · exact vr 9 (R := RI) r9
  have r78 := Mono.mono u8 r77
  have r88 := Mono.mono u8 r87
  have hd1 : (Vamvsz.dropsFor x.n (Vamvsz.best x.n).kept).length ≤ 16 := Nat.le_trans (List.length_filter_le _ _) (by omega)
  have hd2 : (Vamvsz.putsFor x.n (Vamvsz.best x.n).kept).length ≤ 16 := Nat.le_trans (List.length_filter_le _ _) (by omega)
  refine wb_ret (T := T) (R := RM RI) (x := advT x.n (Vamvsz.best x.n)) (ev_cat (ev_cat (ev_cat (ev_cat (vr 10 r10) (ev_list (es_cons ?_ es_nil) (show (1 : Nat) ≤ 1000 by decide)) ?_) ?_ ?_) (ev_list (es_cons ?_ es_nil) (show (1 : Nat) ≤ 1000 by decide)) ?_) ?_ ?_) fun v' H9 u9 r => fin_look hok estep p (u1.trans (u2.trans (u3.trans (u4.trans (u5.trans (u6.trans (u7.trans (u8.trans u9)))))))) (by rw [adv_law hg] at r; exact r)
  · exact ev_len g.len (vr 7 (R := RL K RN) r78.rl)
  · simp only [List.length_cons, List.length_nil]; omega
  · exact vr 7 (R := RM RI) (rm_nats r78)
  · unfold Vamvsz.nats; simp only [List.length_append, List.length_cons, List.length_nil, List.length_map]; omega
  · exact ev_len g.len (vr 8 (R := RL K RN) r88.rl)
  · unfold Vamvsz.nats; simp only [List.length_append, List.length_cons, List.length_nil, List.length_map]; omega
  · exact vr 8 (R := RM RI) (rm_nats r88)
  · unfold Vamvsz.nats; simp only [List.length_append, List.length_cons, List.length_nil, List.length_map]; omega
end G5
/-! R10: members_of once more, its list new; the deed take_best. Printed by gen_r10.py. -/
namespace G5
open PySem PySem.Spec PyProof.Rows L2
variable {T : List NTab} {P : Program} {w : World} {K : PySem.W.Frag} {mg : Str → Option Value} {base : Heap} {c : Cs}
def SpMem (T : List NTab) : Sp := fun vs H Q _ => Tb T H ∧ ∃ v1 n, vs = [v1] ∧ RN H v1 n ∧ n < 65536 ∧ ∀ l H', Xt T H H' → H l = none → H' l = some (.lst ((mem1 n).map fun (k : Nat) => V.int (k : Int))) → Q (.ref l) H'
abbrev DMemN (T : List NTab) (P : Program) (w : World) (K : PySem.W.Frag) (mg : Str → Option Value) (base : Heap) : Prop := Df P w K mg base CX0 1 "members_of" ["number"] (SpMem T)
theorem ok_membersN {f : Addr} {fd : FuncData} (F : Fun K "members_of" "members_of" s_members f fd) (hm : mg "members_of" = some (.ref f)) (b : Binds K fd ["number"] []) : DMemN T P w K mg base := by
  refine okN F hm b sc_members (fun vs H Q E h => by obtain ⟨_, v1, n, rfl, _⟩ := h; rfl) fun cdv A outer s H vs Q E hr h => ?_
  obtain ⟨ht, v1, n, rfl, h1, hg, hq⟩ := h
  refine wb_setN (T := T) (R := RN) (xs := []) 1 (evn_list es_nil) (fun l G vs u1 hG ra => ?_) sc_members.nd
  refine wb_set (T := T) (R := RI) (x := 0) 2 ev_int (fun fv H1 u2 rf => ?_) sc_members.nd
  cases rf
  cases ra
  have hl0 : H l = none := u1.fr l hG
  refine wb_while PassesOwn.never (fun m σ' H' => ∃ i : Nat, i ≤ 16 ∧ m = 20 - i ∧ σ' = [some v1, some (.ref l), some (.int (i : Int))] ∧ Xt T H H' ∧ H' l = some (.lst (((List.range i).filter fun g => n / 2 ^ g % 2 == 1).map fun (k : Nat) => V.int (k : Int)))) 20
    ⟨0, by decide, rfl, rfl, u1.trans ((Xt.new hG).trans u2), u2.ex _ _ upd_same nt_lst⟩ fun m σ' H' W => ?_
  obtain ⟨i, hi, rfl, rfl, u3, hl⟩ := W
  have ec : EvT T (C0 P w K mg base Nmembers "members_of" s_members f cdv A outer s H E) (match stm s_members 2 with | .While c _ _ _ => c | _ => .Constant .none 0 ⟨0, 0, 0, 0⟩) [some v1, some (.ref l), some (.int (i : Int))] H' (decide (0 < n / 2 ^ i)) := by
    refine EvT.is (et_cmp (x := (n : Int) / 2 ^ ((i : Nat) : Int).toNat) (y := (0 : Int)) cmp_gt (ev_shr (by omega) (vr (T := T) 0 (R := RI) h1) (vr 2 (R := RI) rfl)) ev_int) ?_
    rw [shr_nat]
    exact decide_eq_decide.mpr ⟨fun h => by omega, fun h => by omega⟩
  refine ec.now fun H2 u4 => ?_
  by_cases hz : 0 < n / 2 ^ i
  · rw [if_pos (decide_eq_true hz)]
    have hi16 : i < 16 := by
      rcases Nat.lt_or_ge i 16 with q | q
      · exact q
      · have e : i = 16 := by omega
        subst e
        rw [Nat.div_eq_of_lt (show n < 2 ^ 16 from hg)] at hz
        omega
    have fin : ∀ (D : Ends) (H3 : Hp), (∀ σ2 H2, (∃ m', m' < 20 - i ∧ ∃ i : Nat, i ≤ 16 ∧ m' = 20 - i ∧ σ2 = [some v1, some (.ref l), some (.int (i : Int))] ∧ Xt T H H2 ∧ H2 l = some (.lst (((List.range i).filter fun g => n / 2 ^ g % 2 == 1).map fun (k : Nat) => V.int (k : Int)))) → D.nx σ2 H2) → Xt T H H3 →
        H3 l = some (.lst (((List.range (i + 1)).filter fun g => n / 2 ^ g % 2 == 1).map fun (k : Nat) => V.int (k : Int))) →
        Wb (C0 P w K mg base Nmembers "members_of" s_members f cdv A outer s H E) ((suite (stm s_members 2)).drop 1) D [some v1, some (.ref l), some (.int (i : Int))] H3 := fun D H3 hD u5 hl5 => by
      refine wb_augI (T := T) 2 rfl ev_int (fun H4 u6 => wb_nil (hD _ _ ⟨20 - (i + 1), by omega, i + 1, by omega, rfl, ?_, u5.trans u6, u6.ex _ _ hl5 nt_lst⟩)) sc_members.nd
      rfl
    refine wb_if (T := T) (k := n / 2 ^ i % 2 == 1) (EvT.is (et_cmp (x := Builtin.bitAnd ((n : Int) / 2 ^ ((i : Nat) : Int).toNat) 1) (y := (1 : Int)) cmp_eq (ev_and (ev_shr (by omega) (vr (T := T) 0 (R := RI) h1) (vr 2 (R := RI) rfl)) ev_int) ev_int) (bitI_eq n i)) (fun kk H3 u5 => ?_) fun kk H3 u5 => ?_
    · refine wb_expr (we_append (T := T) (R := RN) (x := i) (vs := ((List.range i).filter fun g => n / 2 ^ g % 2 == 1).map fun (k : Nat) => V.int (k : Int)) (l := l) (fun Q q => we_var (i := 1) rfl q) ((u4.trans u5).ex _ _ hl nt_lst) (vr 2 (R := RN) rfl) (by
        rw [List.length_map]
        exact Nat.le_trans (List.length_filter_le _ _) (by rw [List.length_range]; omega)) fun v H4 u6 r => ?_)
      cases r
      refine wb_nil (fin _ _ (fun _ _ h => h) (((u3.trans (u4.trans (u5.trans u6)))).mutL hl0 ((u4.trans (u5.trans u6)).ex _ _ hl nt_lst)) ?_)
      rw [upd_same, List.range_succ, List.filter_append, List.map_append, List.filter_cons, kk]
      rfl
    · refine wb_nil (fin _ _ (fun _ _ h => h) (u3.trans (u4.trans u5)) ?_)
      rw [(u4.trans u5).ex _ _ hl nt_lst, List.range_succ, List.filter_append, List.filter_cons, kk]
      simp
  · rw [if_neg (by rw [decide_eq_false hz]; decide)]
    have e0 : n / 2 ^ i = 0 := Nat.le_zero.mp (Nat.not_lt.mp hz)
    have em : mem1 n = (List.range i).filter fun g => n / 2 ^ g % 2 == 1 := range_tail n i e0 16 hi
    refine wb_ret (T := T) (R := RV) (x := .ref l) (vr 1 rfl) fun v' H3 u5 r => ?_
    cases r
    refine hq l H3 (u3.trans (u4.trans u5)) hl0 ?_
    rw [em]
    exact (u4.trans u5).ex _ _ hl nt_lst
theorem WdOk.newL {H G H' G' : Hp} {wd : Wd} (p : WdOk T K c H G wd) (p' : WdOk T K c H' G' wd) {l : Addr} (hl : H l = none) : G' l = H' l := by
  have hn : l ∉ keys (wd.cells c) := fun z => by
    obtain ⟨q, hq, e⟩ := List.mem_map.mp z
    have := p.at' (a := q.1) (o := q.2) hq
    rw [e, hl] at this
    cases this
  rw [p'.h, ov_off hn]
theorem best_sub {n : Vamvsz.Now} (hg : GoodN n) : (Vamvsz.best n).kept.Sublist (List.range (2 ^ n.t.cols.length)) := by
  obtain ⟨b1, b2, b3⟩ := best_law hg
  have hpos : 0 < 2 ^ (szs n.t).length := Nat.two_pow_pos _
  obtain ⟨j, hj, _, e, _⟩ := best_least hg (2 ^ (szs n.t).length - 1) (by omega)
  have ej : (Vamvsz.best n).code = j := by
    rw [b1] at e
    exact congrArg (fun (t : Tri) => t.2.2) e
  rw [← b2, ej, mem1_lt (n := j) (L := (szs n.t).length) (by omega) (szs_len hg.t), szs_length]
  exact List.filter_sublist
abbrev s_takeb : Stmt := top 110
def Ntakeb : List Str := ["holder", "numbers", "row", "stock"]
theorem sc_takeb : FnScope Ntakeb ["holder", "numbers", "row"] (defScope s_takeb) := ⟨rfl, rfl, rfl, by decide +kernel, rfl, by decide +kernel, by decide +kernel⟩
def cTakeb (_nums _row : List Int) : Vamvsz.Call := .take_
theorem ok_takeb {f : Addr} {fd : FuncData} (g : Gf K mg c) (dS : DSizes T P w K mg base c) (dB : DBest T P w K mg base c) (dM : DMemN T P w K mg base) (dC : DChanged T P w K mg base c) (dT : DTold T P w K mg base c)
    (F : Fun K "take_best" "take_best" s_takeb f fd) (hm : mg "take_best" = some (.ref f)) (b : Binds K fd ["holder", "numbers", "row"] []) :
    DDeed T P w K mg base c 9 "take_best" (Has1 0) cTakeb := by
  refine okE F hm b sc_takeb deed_len fun cdv A outer s H vs Q E hr h => ?_
  obtain ⟨ht, wd, G, nv, rv, nums, row, rfl, p, hnv, hrv, ⟨hcur, hlen⟩, hok, her⟩ := h
  obtain ⟨x, hx⟩ := cur_some hcur
  have hg := (p.cur x hx).good
  have estep : Vamvsz.step wd.obj (cTakeb nums row) = Vamvsz.changed ⟨x.n, (wd.held.map (·.n)).reverse⟩ (nKept x.n (Vamvsz.best x.n).kept) := by rw [Wd.objS hx]; rfl
  obtain ⟨bl1, bl2, bl3⟩ := best_law hg
  refine wb_expr (X := CxE P w K mg base Ntakeb "take_best" s_takeb f cdv A outer s H E) ?_
  refine we_changed dC hr (by decide) ht p hx (fun Q q => we_var (i := 0) rfl q) fun H6 G6 y lh' x6 hy p6 => ?_
  have t6 := p.go p6 x6 ht
  refine wb_set (T := T) (R := RV) (x := .ref x.s) 3 (ev_stockV g p6 rfl (vr 0 (R := RV) rfl)) (fun v3 H7 u7 r3 => ?_) sc_takeb.nd
  cases r3
  obtain ⟨G7, p7, x7⟩ := p6.keep u7
  have t7 := u7.tb t6
  have r3 : RNow K c H7 (.ref x.s) x.n := p7.now rfl
  refine wb_cons (Ws.of (ps_fld we we rfl) (we_callN dM hr (by decide) (Wa.of (pa_cons we pa_nil rfl) ((ev_fld (T := T) (S := RBest c) (R := RN) (y := pTri (Vamvsz.best x.n)) (x := (Vamvsz.best x.n).code) (Ev.is (ev_c2 dB hr (by decide) t7 (vr 3 r3) (Ev.to (ev_c1 dS hr (by decide) t7 (ev_fld (S := RNow K c) (R := RTab K c) (vr 3 r3) fun H1 v u r => r.table g) hg.t) fun _ _ _ h => h.rl) ⟨hg, szs_len hg.t⟩) bl1) fun H1 v u r => r.number g) H7 (Xt.refl _) _ fun v H8 u8 r8 => ⟨u8.tb t7, v, (Vamvsz.best x.n).code, rfl, r8, bl3, fun l H9 u9 hn hl => ?_⟩))))
  rw [bl2] at hl
  obtain ⟨G8, p8, x8⟩ := p7.keep u8
  obtain ⟨G9, p9, x9⟩ := p8.keep u9
  have hlG : G9 l = some (.lst ((Vamvsz.best x.n).kept.map fun (k : Nat) => V.int (k : Int))) := (p8.newL p9 hn).trans hl
  have hkv : RL K RN G9 (.ref l) (Vamvsz.best x.n).kept := ⟨l, _, rfl, SqL.of hlG, nats_all2 _⟩
  refine we_var (i := 3) rfl ⟨x.s, c.stock, x.ds, _, rfl, (p9.stk rfl).1, g.stock.cl, g.stock.no _ (by decide), (show (4 : Nat) < 1000 by decide), ?_⟩
  have hgn : GoodN (nKept x.n (Vamvsz.best x.n).kept) := ⟨hg.t, best_sub hg, hg.room, hg.changes⟩
  have p10 := p9.setIns (x := x) rfl (kv := .ref l) (n := nKept x.n (Vamvsz.best x.n).kept) ⟨(p9.cur x rfl).tab, hkv, hgn⟩
  show Wb _ _ _ _ (upd H9 x.s (stkI c { x with kv := .ref l, n := nKept x.n (Vamvsz.best x.n).kept }))
  have xall : Xt T G G9 := x6.trans (x7.trans (x8.trans x9))
  have t10 := p10.xt.tb (xall.tb (p.tb ht))
  have r10 : RNow K c _ (.ref x.s) (nKept x.n (Vamvsz.best x.n).kept) := p10.now rfl
  refine wb_ret (T := T) (R := RM RI) (x := told1 (nKept x.n (Vamvsz.best x.n).kept)) (ev_c1 dT hr (by decide) t10 (vr 3 r10) hgn) fun v11 H11 u11 r11 => ?_
  obtain ⟨G11, p11, x11⟩ := p10.keep u11
  rw [told_law hgn] at r11
  exact fin_ok hok estep hy rfl (xall.trans x11) p11 r11
end G5
/-! M7: keep's sorted list. -/
namespace G5
theorem sorted_unique : ∀ {l1 l2 : List Int}, l1.Perm l2 → l1.Pairwise (· ≤ ·) → l2.Pairwise (· ≤ ·) → l1 = l2
  | [], l2, h, _, _ => (List.nil_perm.mp h).symm ▸ rfl
  | a :: l1, l2, h, h1, h2 => by
    cases l2 with
    | nil => exact absurd h.length_eq (by simp)
    | cons b l2 =>
      have e : a = b := by
        have ha := h.mem_iff.mp (List.mem_cons_self (a := a) (l := l1))
        have hb := h.mem_iff.mpr (List.mem_cons_self (a := b) (l := l2))
        have k1 : b ≤ a := by
          rcases List.mem_cons.mp ha with z | z
          · omega
          · exact (List.pairwise_cons.mp h2).1 a z
        have k2 : a ≤ b := by
          rcases List.mem_cons.mp hb with z | z
          · omega
          · exact (List.pairwise_cons.mp h1).1 b z
        omega
      subst e
      rw [sorted_unique ((List.perm_cons a).mp h) (List.pairwise_cons.mp h1).2 (List.pairwise_cons.mp h2).2]
/-- what is kept after keep g v -/
def keepL (n : Vamvsz.Now) (gn vn : Nat) : List Nat := (Vamvsa.groupings n.t).filter fun h => if h = gn then decide (vn = 1) else n.k.contains h
theorem keep_count {N : Nat} {k : List Nat} (hk : k.Sublist (List.range N)) {gn vn : Nat} (hg : gn < N) (hv : vn = 0 ∨ vn = 1) (a : Nat) :
    (k.filter (fun o => o != gn) ++ List.replicate vn gn).count a = ((List.range N).filter fun h => if h = gn then decide (vn = 1) else k.contains h).count a := by
  have nd : ∀ l : List Nat, l.Sublist (List.range N) → l.count a = if a ∈ l then 1 else 0 := fun l hl => by
    have h1 : l.Nodup := (List.nodup_range).sublist hl
    by_cases z : a ∈ l
    · rw [if_pos z, h1.count, if_pos z]
    · rw [if_neg z, List.count_eq_zero.mpr z]
  rw [List.count_append, nd _ (List.filter_sublist.trans hk), nd _ List.filter_sublist, List.count_replicate]
  by_cases e : a = gn
  · subst e
    rcases hv with rfl | rfl <;> simp [hg]
  · have hin : a ∈ k → a < N := fun h => List.mem_range.mp (hk.subset h)
    by_cases z : a ∈ k
    · have h3 := hin z
      simp [e, z, h3, Ne.symm e]
    · simp [e, z, Ne.symm e]
theorem keep_sorted {n : Vamvsz.Now} (hg : GoodN n) {gn vn : Nat} (h1 : gn < 2 ^ n.t.cols.length) (hv : vn = 0 ∨ vn = 1) {out : List Int} (hp : out.Perm ((n.k.filter (fun o => o != gn) ++ List.replicate vn gn).map fun (k : Nat) => (k : Int))) (hs : out.Pairwise (· ≤ ·)) : out = (keepL n gn vn).map fun (k : Nat) => (k : Int) := by
  refine sorted_unique (hp.trans ?_) hs ?_
  · refine List.Perm.map _ (List.perm_iff_count.mpr fun a => ?_)
    exact keep_count hg.k h1 hv a
  · refine List.pairwise_map.mpr ?_
    have q : (keepL n gn vn).Pairwise (· < ·) := (List.pairwise_lt_range (n := 2 ^ n.t.cols.length)).sublist List.filter_sublist
    exact q.imp fun {x y} h => by omega
end G5
/-! R11: the deed keep. -/
namespace G5
open PySem PySem.Spec PyProof.Rows L2
variable {T : List NTab} {P : Program} {w : World} {K : PySem.W.Frag} {mg : Str → Option Value} {base : Heap} {c : Cs}
theorem nats_back {H : Hp} {vs : List V} {xs : List Nat} (h : All2 (RN H) vs xs) : vs = (xs.map fun (k : Nat) => (k : Int)).map V.int := by
  induction h with
  | nil => rfl
  | cons a _ ih => rw [ih]; exact congrArg (· :: _) a
section
variable {X : Cx} {a : Expr} {σ : L2.St} {H : Hp} {pos p : Pos} {Q : VK} {xs : List Nat}
/-- sorted(a), a list of whole numbers; the list is new -/
theorem we_sortedN (hm : X.mg "sorted" = none) (ha : Ev T X (RL X.K RN) a σ H xs) (q : ∀ l (out : List Int) H1, Xt T H H1 → H1 l = none → out.Perm (xs.map fun (k : Nat) => (k : Int)) → out.Pairwise (· ≤ ·) → Q (.ref l) (upd H1 l (.lst (out.map V.int))))
    (hg : Gl X "sorted" := by rfl) (he : starEach (a :: []) X.env = (false, eval a X.env) :: starEach [] X.env := by rfl) (hpl : (backTo pos (starEach [] X.env)).any (·.1) = false := by rfl) : We X (.Call (.Name "sorted" p) [a] [] pos) σ H Q :=
  We.of (pe_callB cr_sortedI hg hm rfl (pa_cons we pa_nil he) (by decide) (by decide) he hpl) (ha H (Xt.refl _) _ fun v H2 e2 ⟨a, vs, h1, h2, h3⟩ => ⟨a, xs.map fun (k : Nat) => (k : Int), by rw [h1], by rw [← nats_back h3]; exact h2, fun ns' p k1 k2 k3 => q p ns' H2 e2 k3 k1 k2⟩)
end
abbrev s_keep : Stmt := top 104
def Nkeep : List Str := ["holder", "numbers", "row", "rest", "g", "v", "other"]
theorem sc_keep : FnScope Nkeep ["holder", "numbers", "row"] (defScope s_keep) := ⟨rfl, rfl, rfl, by decide +kernel, rfl, by decide +kernel, by decide +kernel⟩
def cKeep (nums _row : List Int) : Vamvsz.Call := .keep (nums.getD 0 0) (nums.getD 1 0)
theorem ok_keep {f : Addr} {fd : FuncData} (g : Gf K mg c) (dG : DAskG T P w K mg base c) (dS : DSo T P w K mg base c) (dC : DChanged T P w K mg base c) (dT : DTold T P w K mg base c) (F : Fun K "keep" "keep" s_keep f fd) (hm : mg "keep" = some (.ref f)) (b : Binds K fd ["holder", "numbers", "row"] []) :
    DDeed T P w K mg base c 9 "keep" (Has1 2) cKeep := by
  refine okE F hm b sc_keep deed_len fun cdv A outer s H vs Q E hr h => ?_
  obtain ⟨ht, wd, G, nv, rv, nums, row, rfl, p, hnv, hrv, ⟨hcur, hlen⟩, hok, her⟩ := h
  obtain ⟨x, hx⟩ := cur_some hcur
  obtain ⟨q, k, rfl⟩ : ∃ q k, nums = [q, k] := by
    match nums, hlen with
    | [a, b], _ => exact ⟨a, b, rfl⟩
  have hg := (p.cur x hx).good
  have estep : Vamvsz.step wd.obj (cKeep [q, k] row) = Vamvsz.keepCall ⟨x.n, (wd.held.map (·.n)).reverse⟩ q k := by rw [Wd.objS hx]; rfl
  refine wb_cons (ws_num2 (T := T) 4 5 rfl sc_keep.nd (Ev.to (R := RM RI) (vr 1 (Mono.mono p.xt hnv)) fun _ _ _ h => h.rl) fun H1 u1 => ?_)
  obtain ⟨G1, p1, x1⟩ := p.keep u1
  have t1 := u1.tb ht
  refine wb_expr (X := CxE P w K mg base Nkeep "keep" s_keep f cdv A outer s H E) ?_
  refine we_callE takeE (fun _ _ _ _ h => h) dG hr (by decide) (((ea_cons (T := T) (R := RV) (x := .ref wd.h) (vr 0 rfl) (ea_cons (R := RI) (x := q) (vr 4 rfl) ea_nil))) H1 (Xt.refl _) _ fun vs H2 u2 ⟨v, r1, k1, k2, u', r', k3, k4, k5⟩ => ?_)
  subst k1 k3 k5
  cases k2
  cases k4
  obtain ⟨G2, p2, x2⟩ := p1.keep u2
  refine ⟨u2.tb t1, wd, G2, x, q, rfl, p2, hx, fun kq H3 u3 => ?_, fun kq => RE.up (her (-2) ?_) (u1.trans u2)⟩
  rotate_left
  · rw [estep, keep_no q k kq, Wd.objS hx]
  obtain ⟨G3, p3, x3⟩ := p2.keep u3
  have t3 := u3.tb (u2.tb t1)
  refine wb_expr (X := CxE P w K mg base Nkeep "keep" s_keep f cdv A outer s H E) ?_
  refine we_so (T := T) (c := c) (E' := E) (k := ([0, 1] : List Int).contains k) (n := -4) takeE (fun _ _ _ _ h => h) dS hr (by decide) t3 ?_ (ev_gi g.gBAD) (fun kk H4 u4 => ?_) fun kk => RE.up (her (-4) ?_) (u1.trans (u2.trans u3))
  · refine ev_cmp (x := k) (y := ([0, 1] : List Int)) cmp_inTI (vr 5 (R := RI) rfl) (Ev.to (R := RP K RI RI) (x := ((0 : Int), (1 : Int))) (ev_pair ev_int ev_int) fun H' v u h => ?_)
    obtain ⟨a, v1, v2, e1, e2, e3, e4⟩ := h
    exact ⟨a, [v1, v2], e1, e2, .cons e3 (.cons e4 .nil)⟩
  rotate_left
  · rw [estep, keep_bad q k kq (fun z => by
      rcases z with rfl | rfl
      · exact absurd kk (by decide)
      · exact absurd kk (by decide)), Wd.objS hx]
  have kq' := okG_iff.mp kq
  have kk' : k = 0 ∨ k = 1 := by
    rcases List.mem_cons.mp (List.contains_iff_mem.mp kk) with z | z
    · exact .inl z
    · exact .inr (List.mem_singleton.mp z)
  obtain ⟨gn, rfl⟩ : ∃ i : Nat, q = (i : Int) := ⟨q.toNat, by omega⟩
  obtain ⟨kn, rfl⟩ : ∃ kn : Nat, k = (kn : Int) := ⟨k.toNat, by omega⟩
  have kn' : kn = 0 ∨ kn = 1 := by omega
  have gn' : gn < 2 ^ x.n.t.cols.length := by have := kq'.2; omega
  have estep2 := estep.trans (keep_yes (past := (wd.held.map (·.n)).reverse) gn kn kq kn')
  obtain ⟨G4, p4, x4⟩ := p3.keep u4
  have t4 := u4.tb t3
  refine wb_expr (X := CxE P w K mg base Nkeep "keep" s_keep f cdv A outer s H E) ?_
  refine we_changed dC hr (by decide) t4 p4 hx (fun Q q => we_var (i := 0) rfl q) fun H6 G6 y lh' x6 hy p6 => ?_
  have t6 := p4.go p6 x6 t4
  have hkl := hg.klen
  refine wb_setLc (T := T) 3 (lx_lcI (T := T) (R := RN) (S := RN) (xs := x.n.k) (j := 6) (pr := fun o => o != gn) (g := fun x => x) rfl sc_keep.nd (ev_fld (S := RNow K c) (R := RL K RN) (ev_stock g p6 rfl (vr 0 (R := RV) rfl)) fun H1 v u r => r.kept g) (by omega) (blkOk_by (N := Nkeep) (sc := defScope s_keep) (by decide +kernel))
    (fun _ _ _ _ _ => pg_name sc_keep.nd rfl (Or.inl rfl)) (fun i v z G hx u2 hv => ?_) (fun i v x G hx u hv _ => ?_)) rfl sc_keep.nd (fun v3 H7 u7 r7 => ?_)
  · intro s0 H0 C cl fp
    refine EvT.is (et_cmp (x := (z : Int)) (y := (gn : Int)) cmp_ne (vr (T := T) 6 (R := RI) hv) (vr (T := T) 4 (R := RI) rfl)) ?_
    by_cases e : z = gn
    · subst e; simp
    · have : ¬ (z : Int) = (gn : Int) := by omega
      simp [e, this]
  · intro s0 H0 C cl fp
    exact vr (T := T) 6 (R := RN) hv
  replace r7 : RM RN H7 v3 (x.n.k.filter fun o => o != gn) := by rw [List.map_id'] at r7; exact r7
  obtain ⟨G7, p7, x7⟩ := p6.keep u7
  have t7 := u7.tb t6
  have hfl : (x.n.k.filter fun o => o != gn).length ≤ 16 := Nat.le_trans (List.length_filter_le _ _) (by omega)
  refine wb_cons (Ws.of (ps_fld we we rfl) (we_sortedN (T := T) (xs := (x.n.k.filter fun o => o != gn) ++ List.replicate kn gn) g.sorted ?_ fun l out H8 u8 hn hp hs => ?_))
  · refine Ev.to (R := RM RN) (ev_cat (vr 3 (R := RM RN) r7) (Ev.is (ev_rep (R := RN) (xs := [gn]) (k := kn) (ev_list (es_cons (vr 4 (R := RN) rfl) es_nil)) (vr 5 (R := RI) rfl) (by omega) (by rw [List.length_singleton]; omega)) List.flatten_replicate_singleton) ?_) fun _ _ _ h => h.rl
    rw [List.length_replicate]; omega
  have eo : out = (keepL x.n gn kn).map fun (k : Nat) => (k : Int) := keep_sorted hg gn' kn' hp hs
  subst eo
  obtain ⟨G9, p9, x9⟩ := p7.keep (u8.trans (Xt.new (T := T) hn))
  have hlG : G9 l = some (.lst ((keepL x.n gn kn).map fun (k : Nat) => V.int (k : Int))) := by
    have e9 : (upd H8 l (.lst (((keepL x.n gn kn).map fun (k : Nat) => (k : Int)).map V.int))) l = some (.lst ((keepL x.n gn kn).map fun (k : Nat) => V.int (k : Int))) := by
      rw [upd_same, List.map_map]; rfl
    exact (p7.newL p9 (u8.fr l hn)).trans e9
  have hkv : RL K RN G9 (.ref l) (keepL x.n gn kn) := ⟨l, _, rfl, SqL.of hlG, nats_all2 _⟩
  refine we_fld (we_var (i := 0) rfl ⟨p9.hasS g (Xt.refl _), x.s, c.stock, x.ds, _, rfl, (p9.stk rfl).1, g.stock.cl, g.stock.no _ (by decide), (show (4 : Nat) < 1000 by decide), ?_⟩)
  have hgn : GoodN (nKept x.n (keepL x.n gn kn)) := ⟨hg.t, List.filter_sublist, hg.room, hg.changes⟩
  have p10 := p9.setIns (x := x) rfl (kv := .ref l) (n := nKept x.n (keepL x.n gn kn)) ⟨(p9.cur x rfl).tab, hkv, hgn⟩
  have xall : Xt T G G9 := x1.trans (x2.trans (x3.trans (x4.trans (x6.trans (x7.trans x9)))))
  have t10 := p10.xt.tb (xall.tb (p.tb ht))
  refine wb_told (T := T) g dT hr (by decide) t10 p10 rfl (vr 0 (R := RV) rfl) fun v9 H9 G9 x9 p9 r9 => ?_
  exact fin_ok hok estep2 hy rfl (xall.trans x9) p9 r9
end G5
/-! Fw15: a list of anything compared with the empty list. -/
namespace G5
open PySem PySem.Spec PyProof.Rows L2
/-- xs != [], whatever xs holds -/
def rNeNil (K : PySem.W.Frag) : R2 := fun x y H Q => ∃ a b xs, x = .ref a ∧ y = .ref b ∧ SqL K H a xs ∧ SqL K H b [] ∧ Q (.bl (!xs.isEmpty)) H
theorem op_neNil {X : Cx} (hu : X.A.units < cLine) : OpR X (compareOp .NotEq) (rNeNil X.K) := by
  intro pins s σ H x y v u Q I rx ry h
  obtain ⟨a, b, xs, rfl, rfl, ha, hb, q⟩ := h
  obtain ⟨us, r1, p1, _⟩ := I.list ha
  obtain ⟨ws, r2, p2, _⟩ := I.list hb
  cases (show v = Value.ref a from rx)
  cases (show u = Value.ref b from ry)
  cases r2
  cases r1 with
  | nil => exact SeqAt.RcNeAt.lists (e := fun _ => true) p1.isList p2.isList rfl hu (fun j h1 h2 => absurd h1 (Nat.not_lt_zero j)) _ _ _ _ ⟨.bl false, H, I, rfl, q⟩
  | cons _ _ => exact SeqAt.RcNeAt.lists_lengths p1.isList p2.isList rfl hu _ _ _ _ ⟨.bl true, H, I, rfl, q⟩
end G5
/-! R12: what undo does to what is held. -/
namespace G5
open PySem PySem.Spec PyProof.Rows L2
variable {T : List NTab} {P : Program} {w : World} {K : PySem.W.Frag} {mg : Str → Option Value} {base : Heap} {c : Cs}
/-- the last of what is held is taken back; what was held now is left behind -/
theorem WdOk.pop {H G : Hp} {h dh lh : Addr} {x y : Stk} {held : List Stk} (p : WdOk T K c H G ⟨h, dh, lh, some x, held ++ [y]⟩) :
    ∃ G', WdOk T K c (upd (upd H lh (.lst (heldV held))) h (hdI c dh lh (.ref y.s))) G' ⟨h, dh, lh, some y, held⟩ ∧ Xt T G G' := by
  have ep := p.h
  have lay := p.lay
  have hy : StkOk K c G y := p.held y (List.mem_append.mpr (.inr List.mem_cons_self))
  have hc : Wd.cells c ⟨h, dh, lh, some x, held ++ [y]⟩ = [(h, hdI c dh lh (.ref x.s)), (dh, HO.own h)] ++ (lh, HO.lst (heldV (held ++ [y]))) :: (x.cells c ++ (heldC c held ++ y.cells c)) := by
    simp [Wd.cells, hdO, curC, heldC, stockV]
  rw [hc] at ep lay
  subst ep
  obtain ⟨e1, l1⟩ := ov_upd (a := lh) (o := .lst (heldV (held ++ [y]))) (u := .lst (heldV held)) (m1 := [(h, hdI c dh lh (.ref x.s)), (dh, HO.own h)]) (m2 := x.cells c ++ (heldC c held ++ y.cells c)) (G := G) lay mo_lst
  obtain ⟨e2, l2⟩ := ov_upd (a := h) (o := hdI c dh lh (.ref x.s)) (u := hdI c dh lh (.ref y.s)) (m1 := []) (m2 := (dh, HO.own h) :: ((lh, HO.lst (heldV held)) :: (x.cells c ++ (heldC c held ++ y.cells c)))) (G := G) l1 mo_ins
  have hsub : ∀ q ∈ Wd.cells c ⟨h, dh, lh, some y, held⟩, q ∈ ([] ++ (h, hdI c dh lh (.ref y.s)) :: ((dh, HO.own h) :: ((lh, HO.lst (heldV held)) :: (x.cells c ++ (heldC c held ++ y.cells c))))) := fun q hq => by
    simp only [Wd.cells, hdO, curC, stockV, List.mem_append, List.mem_cons, List.not_mem_nil, or_false] at hq ⊢
    rcases hq with (z | z) | z | z | z
    · exact .inr (.inl z)
    · exact .inr (.inr (.inl z))
    · exact .inr (.inr (.inr (.inl z)))
    · exact .inr (.inr (.inr (.inr (.inr (.inr z)))))
    · exact .inr (.inr (.inr (.inr (.inr (.inl z)))))
  have hnd : (keys (Wd.cells c ⟨h, dh, lh, some y, held⟩)).Nodup := by
    have s1 : (keys ([(h, hdI c dh lh (.ref y.s)), (dh, HO.own h), (lh, HO.lst (heldV held))] ++ (heldC c held ++ y.cells c))).Nodup := by
      refine List.Nodup.sublist ?_ l2.nd
      refine List.Sublist.map _ ?_
      exact .cons₂ _ (.cons₂ _ (.cons₂ _ (List.sublist_append_right _ _)))
    refine List.Nodup.perm s1 (keys_perm ?_)
    have : Wd.cells c ⟨h, dh, lh, some y, held⟩ = [(h, hdI c dh lh (.ref y.s)), (dh, HO.own h), (lh, HO.lst (heldV held))] ++ (y.cells c ++ heldC c held) := by simp [Wd.cells, hdO, curC, stockV]
    rw [this]
    exact List.Perm.append_left _ List.perm_append_comm
  obtain ⟨G', e3, l3, x3, _⟩ := relay (T := T) l2 hsub hnd
  refine ⟨G', ⟨?_, l3, fun z hz => ?_, fun z hz => (p.held z (List.mem_append.mpr (.inl hz))).mono x3, ?_⟩, x3⟩
  · rw [e1]
    exact e2.trans e3
  · cases hz
    exact hy.mono x3
  · have := p.len
    simp at this
    show held.length ≤ 20
    omega
end G5
/-! R13: the deed undo. -/
namespace G5
open PySem PySem.Spec PyProof.Rows L2
variable {T : List NTab} {P : Program} {w : World} {K : PySem.W.Frag} {mg : Str → Option Value} {base : Heap} {c : Cs}
theorem cmp_held {X : Cx} {H G : Hp} {wd : Wd} (hu : X.A.units < cLine) (p : WdOk T X.K c H G wd) : Cmp T X .NotEq RV (RL X.K RN) H (.ref wd.lh) ([] : List Nat) (!(heldV wd.held).isEmpty) := ⟨_, op_neNil hu, fun H1 e1 v u r r' Q q => by
  cases r
  obtain ⟨b, vs, h1, h2, h3⟩ := r'
  cases h3
  exact ⟨_, b, _, rfl, h1, SqL.of (e1.ex _ _ p.heldL nt_lst), h2, q⟩⟩
abbrev s_undo : Stmt := top 111
theorem sc_undo : FnScope ["holder", "numbers", "row"] ["holder", "numbers", "row"] (defScope s_undo) := ⟨rfl, rfl, rfl, by decide +kernel, rfl, by decide +kernel, by decide +kernel⟩
def cUndo (_nums _row : List Int) : Vamvsz.Call := .undo
theorem ok_undo {f : Addr} {fd : FuncData} (g : Gf K mg c) (dS : DSo T P w K mg base c) (dT : DTold T P w K mg base c) (F : Fun K "undo" "undo" s_undo f fd) (hm : mg "undo" = some (.ref f)) (b : Binds K fd ["holder", "numbers", "row"] []) :
    DDeed T P w K mg base c 9 "undo" (Has1 0) cUndo := by
  refine okE F hm b sc_undo deed_len fun cdv A outer s H vs Q E hr h => ?_
  obtain ⟨ht, wd, G, nv, rv, nums, row, rfl, p, hnv, hrv, ⟨hcur, hlen⟩, hok, her⟩ := h
  obtain ⟨x, hx⟩ := cur_some hcur
  refine wb_expr (X := CxE P w K mg base ["holder", "numbers", "row"] "undo" s_undo f cdv A outer s H E) ?_
  refine we_so (T := T) (c := c) (E' := E) (k := !(heldV wd.held).isEmpty) (n := -8) takeE (fun _ _ _ _ h => h) dS hr (by decide) ht ?_ (ev_gi g.gNONE_HELD) (fun kk H4 u4 => ?_) fun kk => her (-8) ?_
  · exact ev_cmp (cmp_held (Nat.lt_of_le_of_lt (Nat.le_add_right _ 64) (u64 hr)) p) (ev_fld (S := RV) (R := RV) (y := .ref wd.h) (vr 0 (R := RV) rfl) fun H1 v u e => by cases e; exact ⟨_, p.hasH g u, rfl⟩) (Ev.to (R := RM RN) (ev_list es_nil) fun _ _ _ h => h.rl)
  rotate_left
  · have e0 : wd.held = [] := by
      cases e : wd.held with
      | nil => rfl
      | cons a l => rw [e] at kk; exact absurd kk (by simp [heldV])
    rw [Wd.objS hx, e0]; rfl
  obtain ⟨h0, dh, lh, cur, held⟩ := wd
  have hx : cur = some x := hx
  subst hx
  obtain ⟨l, y, e0⟩ : ∃ l y, held = l ++ [y] := by
    rcases List.eq_nil_or_concat held with e | ⟨l, y, e⟩
    · subst e; exact absurd kk (by simp [heldV])
    · exact ⟨l, y, by rw [e]; simp⟩
  subst e0
  obtain ⟨G4, p4, x4⟩ := p.keep u4
  obtain ⟨G5, p5, x5⟩ := p4.pop
  have estep : Vamvsz.step (Wd.obj ⟨h0, dh, lh, some x, l ++ [y]⟩) (cUndo nums row) = (some ⟨y.n, (l.map (·.n)).reverse⟩, ⟨1, Vamvsz.nats [Vamvsz.paid y.n, Vamvsa.room y.n.t y.n.k]⟩) := by
    have e9 : Wd.obj ⟨h0, dh, lh, some x, l ++ [y]⟩ = some ⟨x.n, y.n :: (l.map (·.n)).reverse⟩ := by simp [Wd.obj]
    rw [e9]; rfl
  have t5 := p5.xt.tb ((x4.trans x5).tb (p.tb ht))
  refine wb_cons (Ws.of (ps_fld we we rfl) (We.of (pe_bm0 PySem.F.plainAttrs_list PySem.F.slot_list_pop PySem.F.type_list_pop mt_pop we rfl rfl) (we_fld (we_var (i := 0) rfl ⟨p4.hasH g (Xt.refl _), .inl ⟨rfl, _, SqL.of p4.heldL⟩, ⟨lh, _, .ref y.s, rfl, rfl, p4.heldL, by simp [heldV], ?_⟩⟩))))
  have ed : (heldV (l ++ [y])).dropLast = heldV l := by simp [heldV]
  show We _ _ _ (upd H4 lh (.lst (heldV (l ++ [y])).dropLast)) _
  rw [ed]
  refine we_var (i := 0) rfl ⟨h0, c.holder, dh, [("stock", .ref x.s), ("held", .ref lh)], rfl, ?_, g.holder.cl, g.holder.no _ (by decide), (show (2 : Nat) < 1000 by decide), ?_⟩
  · have e1 : h0 ≠ lh := fun z => by
      have k1 := p4.hold
      have k2 := p4.heldL
      rw [show (Wd.mk h0 dh lh (some x) (l ++ [y])).h = lh from z] at k1
      rw [k1] at k2
      cases k2
    rw [upd_ne e1]
    exact p4.hold
  · show Wb _ _ _ _ (upd (upd H4 lh (.lst (heldV l))) h0 (hdI c dh lh (.ref y.s)))
    refine wb_told (T := T) g dT hr (by decide) t5 p5 rfl (vr 0 (R := RV) rfl) fun v9 H9 G9 x9 p9 r9 => ?_
    refine hok v9 H9 G9 ⟨h0, dh, lh, some y, l⟩ rfl (x4.trans (x5.trans x9)) p9 ?_ ?_
    · rw [estep]; rfl
    · rw [estep]; exact r9
end G5
/-! Fw16: an instance put aside around a statement. -/
namespace G5
open PySem PySem.Spec PyProof.Rows L2
abbrev asideEndsI (r dx C : Addr) (fs : List (Str × V)) (D : Ends) : Ends where
  nx := fun σ G2 => G2 r = none → G2 dx = none → D.nx σ (updI G2 r dx C fs)
  rt := fun v G2 => G2 r = none → G2 dx = none → D.rt v (updI G2 r dx C fs)
  bk := fun σ G2 => G2 r = none → G2 dx = none → D.bk σ (updI G2 r dx C fs)
  ct := fun σ G2 => G2 r = none → G2 dx = none → D.ct σ (updI G2 r dx C fs)
theorem Ws.hideI {X : Cx} {st : Stmt} {σ : L2.St} {G : Hp} {r dx C : Addr} {fs : List (Str × V)} {D : Ends} (hr : G r = none) (hd : G dx = none) (h : Ws X st (asideEndsI r dx C fs D) σ G) : Ws X st D σ (updI G r dx C fs) := fun pins s I => by
  obtain ⟨z1, ne, ho, od, hod, hdc, mk⟩ := instPart (I.hok r _ upd_same)
  have hr' : (upd G dx (.own r)) r = none := by rw [upd_ne ne.symm]; exact hr
  obtain ⟨A, I1⟩ := aside I hr' plain_ins (fun _ z => nomatch z) ho (fun _ z => nomatch z)
  obtain ⟨A2, I2⟩ := aside I1 hd plain_own (fun a z => by cases z; exact hr) hod hdc
  have key : ∀ {σ' : L2.St} {G2 : Hp} {s1 : Shared}, Inv X (pins ++ [(r, PySem.W.instObj C dx)] ++ [(dx, od)]) σ' G2 s1 → G2 r = none ∧ G2 dx = none ∧ Inv X pins σ' (updI G2 r dx C fs) s1 := fun {σ' G2 s1} I3 => by
    have hod2 := (I3.pin (dx, od) (List.mem_append_right _ (List.mem_append_right _ (List.mem_cons_self ..)))).1
    have ho2 := (I3.pin (r, _) (List.mem_append_right _ (List.mem_append_left _ (List.mem_append_right _ (List.mem_cons_self ..))))).1
    have hr2 : G2 r = none := (I3.pin (r, _) (List.mem_append_right _ (List.mem_append_left _ (List.mem_append_right _ (List.mem_cons_self ..))))).2.1
    obtain ⟨h2, I4⟩ := back A2 I3 (u := .own r) ⟨_, hod2⟩
    obtain ⟨h3, I5⟩ := back A I4 (u := .ins C dx fs) (mk _ _ ho2 hod2 (by rw [upd_ne ne]; exact upd_same))
    exact ⟨hr2, h2, I5⟩
  refine thn (h _ s I2) fun f s1 q => ?_
  cases f with
  | next => obtain ⟨σ', G2, I3, q⟩ := q; obtain ⟨k1, k2, I4⟩ := key I3; exact ⟨σ', _, I4, q k1 k2⟩
  | brk => obtain ⟨σ', G2, I3, q⟩ := q; obtain ⟨k1, k2, I4⟩ := key I3; exact ⟨σ', _, I4, q k1 k2⟩
  | cont => obtain ⟨σ', G2, I3, q⟩ := q; obtain ⟨k1, k2, I4⟩ := key I3; exact ⟨σ', _, I4, q k1 k2⟩
  | ret u => obtain ⟨v, σ', G2, I3, rr, q⟩ := q; obtain ⟨k1, k2, I4⟩ := key I3; exact ⟨v, σ', _, I4, rr, q k1 k2⟩
end G5
/-! Fw17: a list of cells put aside around a statement. -/
namespace G5
open PySem PySem.Spec PyProof.Rows L2
abbrev asideOv (m : Ov) (D : Ends) : Ends where
  nx := fun σ G2 => Lay m G2 → D.nx σ (ov m G2)
  rt := fun v G2 => Lay m G2 → D.rt v (ov m G2)
  bk := fun σ G2 => Lay m G2 → D.bk σ (ov m G2)
  ct := fun σ G2 => Lay m G2 → D.ct σ (ov m G2)
theorem SP.impE {X : Cx} {pins : List (Addr × Obj)} {D D' : Ends} {f : Flow} {s : Shared} (h1 : ∀ σ H, D.nx σ H → D'.nx σ H) (h2 : ∀ v H, D.rt v H → D'.rt v H) (h3 : ∀ σ H, D.bk σ H → D'.bk σ H) (h4 : ∀ σ H, D.ct σ H → D'.ct σ H) (q : SP X pins D f s) : SP X pins D' f s := by
  cases f with
  | next => obtain ⟨σ', G2, I3, q⟩ := q; exact ⟨σ', _, I3, h1 _ _ q⟩
  | brk => obtain ⟨σ', G2, I3, q⟩ := q; exact ⟨σ', _, I3, h3 _ _ q⟩
  | cont => obtain ⟨σ', G2, I3, q⟩ := q; exact ⟨σ', _, I3, h4 _ _ q⟩
  | ret u => obtain ⟨v, σ', G2, I3, rr, q⟩ := q; exact ⟨v, σ', _, I3, rr, h2 _ _ q⟩
theorem Ws.impE {X : Cx} {st : Stmt} {σ : L2.St} {G : Hp} {D D' : Ends} (h1 : ∀ σ H, D.nx σ H → D'.nx σ H) (h2 : ∀ v H, D.rt v H → D'.rt v H) (h3 : ∀ σ H, D.bk σ H → D'.bk σ H) (h4 : ∀ σ H, D.ct σ H → D'.ct σ H) (h : Ws X st D σ G) : Ws X st D' σ G := fun pins s I =>
  thn (h _ s I) fun f s1 q => SP.impE h1 h2 h3 h4 q
end G5
/-! Fw18: cells of lists and of instances put aside around a statement. -/
namespace G5
open PySem PySem.Spec PyProof.Rows L2
inductive Cel where
  | lst (l : Addr) (vs : List V)
  | ins (r dx C : Addr) (fs : List (Str × V))
def flatC : List Cel → Ov
  | [] => []
  | .lst l vs :: cs => (l, .lst vs) :: flatC cs
  | .ins r dx C fs :: cs => (r, .ins C dx fs) :: (dx, .own r) :: flatC cs
theorem Lay.tailC {p : Addr × HO} {m : Ov} {G : Hp} (h : Lay (p :: m) G) : Lay m G :=
  ⟨(List.nodup_cons.mp h.nd).2, fun a ha => h.no a (List.mem_cons_of_mem _ ha), fun q hq => h.mo q (List.mem_cons_of_mem _ hq)⟩
theorem Lay.consC {a : Addr} {o : HO} {m : Ov} {G : Hp} (h : Lay m G) (ha : a ∉ keys m) (hn : G a = none) (ho : MO o) : Lay ((a, o) :: m) G :=
  ⟨List.nodup_cons.mpr ⟨ha, h.nd⟩, fun b hb => by
    rcases List.mem_cons.mp hb with z | z
    · subst z; exact hn
    · exact h.no b z, fun q hq => by
    rcases List.mem_cons.mp hq with z | z
    · subst z; exact ho
    · exact h.mo q z⟩
theorem Lay.headC {a : Addr} {o : HO} {m : Ov} {G : Hp} (h : Lay ((a, o) :: m) G) : a ∉ keys m ∧ G a = none ∧ MO o := ⟨(List.nodup_cons.mp h.nd).1, h.no a List.mem_cons_self, h.mo _ List.mem_cons_self⟩
theorem lay0 (G : Hp) : Lay [] G := ⟨List.nodup_nil, fun a ha => (nomatch ha), fun p hp => (nomatch hp)⟩
theorem Ws.hideOv {X : Cx} {st : Stmt} {σ : L2.St} {G : Hp} : ∀ (cs : List Cel) (D : Ends), Lay (flatC cs) G → Ws X st (asideOv (flatC cs) D) σ G → Ws X st D σ (ov (flatC cs) G)
  | [], D, hl, h => Ws.impE (D := asideOv (flatC []) D) (fun σ H q => q (lay0 H)) (fun σ H q => q (lay0 H)) (fun σ H q => q (lay0 H)) (fun σ H q => q (lay0 H)) h
  | .lst l vs :: cs, D, hl, h => by
    obtain ⟨k1, k2, k3⟩ := Lay.headC hl
    have kk : ∀ {G2 : Hp}, Lay (flatC cs) G2 → ov (flatC cs) G2 l = none → Lay (flatC (.lst l vs :: cs)) G2 := fun {G2} a b => Lay.consC a k1 (by rw [ov_off k1] at b; exact b) k3
    refine Ws.hide (by rw [ov_off k1]; exact k2) (Ws.hideOv cs _ (Lay.tailC hl) (Ws.impE (D := asideOv (flatC (.lst l vs :: cs)) D) (fun σ H q a b => q (kk a b)) (fun σ H q a b => q (kk a b)) (fun σ H q a b => q (kk a b)) (fun σ H q a b => q (kk a b)) h))
  | .ins r dx C fs :: cs, D, hl, h => by
    obtain ⟨k1, k2, k3⟩ := Lay.headC hl
    obtain ⟨j1, j2, j3⟩ := Lay.headC (Lay.tailC hl)
    have k1' : r ∉ keys (flatC cs) := fun z => k1 (List.mem_cons_of_mem _ z)
    have kk : ∀ {G2 : Hp}, Lay (flatC cs) G2 → ov (flatC cs) G2 r = none → ov (flatC cs) G2 dx = none → Lay (flatC (.ins r dx C fs :: cs)) G2 := fun {G2} a b e => Lay.consC (Lay.consC a j1 (by rw [ov_off j1] at e; exact e) j3) k1 (by rw [ov_off k1'] at b; exact b) k3
    refine Ws.hideI (by rw [ov_off k1']; exact k2) (by rw [ov_off j1]; exact j2) (Ws.hideOv cs _ (Lay.tailC (Lay.tailC hl)) (Ws.impE (D := asideOv (flatC (.ins r dx C fs :: cs)) D) (fun σ H q a b e => q (kk a b e)) (fun σ H q a b e => q (kk a b e)) (fun σ H q a b e => q (kk a b e)) (fun σ H q a b e => q (kk a b e)) h))
end G5
/-! Fw19: try: body, except x as n: suite. -/
namespace G5
open PySem PySem.Spec PyProof.Rows L2
theorem ws_try {X : Cx} {x n : Str} {cv : Value} {i : Nat} {body suite : List Stmt} {b₀ : Stmt} {np pos pos' : Pos} {ts : Addr → Value → Option Addr → TS} {Wout : WX} {D : Ends} {σ : L2.St} {H : Hp} (hs : X.stack = X.env :: X.outer) (hf : X.env.frame = some X.env.locals) (hN : X.N.Nodup) (hi : X.N[i]? = some n) (hln : X.env.kindOf n = some .local) (hc : Names X x cv) (tk : Takes X Wout)
    (hsu : ∀ (a : Addr) (oe : Obj) (cls : Value) (d : Option Addr) (pn : List (Addr × Obj)), Zc cls d oe → (∃ vs, oe.data = .fields vs) → PSs (X.suite a ((a, oe) :: pn)) (b₀ :: suite) (ts a cls d))
    (h : ∀ pn xe, Takes (X.tr pn xe) (wAs X.K cv i ts Wout D) → Wb (X.tr pn xe) body D σ H) : Ws X (.Try body [.ExceptHandler (some (.Name x np)) (some n) (b₀ :: suite) pos'] [] [] pos) D σ H :=
  Ws.of (ps_try_as (tb := fun W D σ H => ∀ pn xe, Takes (X.tr pn xe) W → Wb (X.tr pn xe) body D σ H) hs hf hN hi hln hc tk (fun W pn xe t po => ⟨fun pins s σ H D I h => h pn xe t pins s I⟩) hsu) h
end G5
/-! R14: all that is held put aside. -/
namespace G5
open PySem PySem.Spec PyProof.Rows L2
variable {T : List NTab} {P : Program} {w : World} {K : PySem.W.Frag} {mg : Str → Option Value} {base : Heap} {c : Cs}
def stkCel (c : Cs) (x : Stk) : List Cel := [.ins x.s x.ds c.stock [("table", .ref x.t), ("kept", x.kv), ("room", .int (x.n.m.room : Int)), ("changes", .int (x.n.m.changes : Int))], .lst x.ll x.rv, .lst x.lq x.qv]
def wdCel (c : Cs) (wd : Wd) : List Cel := .ins wd.h wd.dh c.holder [("stock", stockV wd.cur), ("held", .ref wd.lh)] :: .lst wd.lh (heldV wd.held) :: ((match wd.cur with
  | none => []
  | some x => stkCel c x) ++ wd.held.flatMap (stkCel c))
theorem flatC_app : ∀ a b : List Cel, flatC (a ++ b) = flatC a ++ flatC b
  | [], b => rfl
  | .lst l vs :: a, b => congrArg (_ :: ·) (flatC_app a b)
  | .ins r dx C fs :: a, b => congrArg (fun z => _ :: _ :: z) (flatC_app a b)
theorem flat_stk (x : Stk) : flatC (stkCel c x) = x.cells c := rfl
theorem flat_held : ∀ l : List Stk, flatC (l.flatMap (stkCel c)) = heldC c l
  | [] => rfl
  | x :: l => by
    rw [List.flatMap_cons, flatC_app, flat_held l, flat_stk]
    rfl
theorem flat_wd (wd : Wd) : flatC (wdCel c wd) = wd.cells c := by
  obtain ⟨h, dh, lh, cur, held⟩ := wd
  cases cur with
  | none => show _ :: _ :: _ :: flatC (held.flatMap (stkCel c)) = _; rw [flat_held]; rfl
  | some x => show _ :: _ :: _ :: flatC (stkCel c x ++ held.flatMap (stkCel c)) = _; rw [flatC_app, flat_held, flat_stk]; rfl
end G5
/-! Fw20: calls within a try: what is wished of an exception, at slots of the right number. -/
namespace G5
open PySem PySem.Spec PyProof.Rows L2
variable {T : List NTab}
/-- a wish that holds whatever the slots are -/
abbrev EL (n : Nat) (W : WX) : XK := fun cls d H' => ∀ σ' : L2.St, σ'.length = n → W cls d σ' H'
section
variable {X : Cx} {e : Expr} {es : List Expr} {σ : L2.St} {H : Hp} {k j : Nat} {n : Str} {ps : List Str} {pos p : Pos} {Q : VK} {W : WX} {sp : Sp}
theorem passesL (tk : Takes X W) : Passes (L2.CX X.prog X.w) X (EL X.N.length W) := fun pins σ1 H1 s1 e1 s2 I c1 =>
  tk e1 s2 (XE.of_call I (fun cls d H2 h => h σ1 I.len) c1)
/-- a call of a def that may raise, within a try -/
theorem we_callT (tk : Takes X W) (F : Df X.prog X.w X.K X.mg X.base (L2.CX X.prog X.w) k n ps sp) (hr : Room j X.A) (hk : k ≤ j) (h : Wa X (e :: es) σ H fun vs H1 => sp vs H1 Q (EL X.N.length W))
    (hg : Gl X n := by rfl) (hdb : (n == ("__debug__" : Str)) = false := by decide) (he : starEach (e :: es) X.env = (false, eval e X.env) :: starEach es X.env := by rfl) (hpl : (backTo pos (starEach es X.env)).any (·.1) = false := by rfl) : We X (.Call (.Name n p) (e :: es) [] pos) σ H Q := by
  obtain ⟨f, fd, hm, hkp, hb, hF⟩ := F.ex
  refine We.of (pe_call (ds := []) (dvs := []) hF (hr.mono hk) hg hm hkp hb .nil (passesL tk) wa hdb he hpl) ?_
  intro pos' pins s I
  refine thn (h pos' pins s I) fun us s1 ⟨vs, H1, I1, r, q⟩ => ⟨vs, H1, I1, r, show sp (vs ++ []) H1 Q _ by rw [List.append_nil]; exact q⟩
/-- a def that a name of the frame holds, called within a try -/
theorem we_callLT {i : Nat} {x : Str} {f : Addr} {fd : FuncData} (tk : Takes X W) (F : FnOk X.prog X.w X.K X.mg X.base (L2.CX X.prog X.w) k f fd ps sp) (hkp : PySem.W.keepIn X.K (.ref f) = true) (hb : Binds X.K fd ps []) (hr : Room j X.A) (hk : k ≤ j) (hs : σ[i]? = some (some (.ref f))) (h : Wa X (e :: es) σ H fun vs H1 => sp vs H1 Q (EL X.N.length W))
    (hN : X.N[i]? = some x := by rfl) (hv : Vis X.env.scope x := by first | exact Or.inl rfl | exact Or.inr (Or.inl rfl) | exact Or.inr (Or.inr rfl)) (hdb : (x == ("__debug__" : Str)) = false := by decide) (hcd : (x == ("__classdict__" : Str)) = false := by decide)
    (he : starEach (e :: es) X.env = (false, eval e X.env) :: starEach es X.env := by rfl) (hpl : (backTo pos (starEach es X.env)).any (·.1) = false := by rfl) : We X (.Call (.Name x p) (e :: es) [] pos) σ H Q := by
  refine We.of (pe_callL (i := i) (ds := []) (dvs := []) F (hr.mono hk) hN hv hkp hb .nil (passesL tk) wa hdb hcd he hpl) ⟨hs, ?_⟩
  intro pos' pins s I
  refine thn (h pos' pins s I) fun us s1 ⟨vs, H1, I1, r, q⟩ => ⟨vs, H1, I1, r, show sp (vs ++ []) H1 Q _ by rw [List.append_nil]; exact q⟩
end
theorem Ws.hideWd {X : Cx} {st : Stmt} {D : Ends} {σ : L2.St} {G : Hp} {c : Cs} {wd : Wd} (hl : Lay (wd.cells c) G) (h : Ws X st (asideOv (wd.cells c) D) σ G) : Ws X st D σ (ov (wd.cells c) G) := by
  have e := flat_wd (c := c) wd
  rw [← e] at hl h ⊢
  exact Ws.hideOv _ D hl h
end G5
/-! R15: the deed load. -/
namespace G5
open PySem PySem.Spec PyProof.Rows L2
variable {T : List NTab} {P : Program} {w : World} {K : PySem.W.Frag} {mg : Str → Option Value} {base : Heap} {c : Cs}
abbrev s_load : Stmt := top 98
def Nload : List Str := ["holder", "numbers", "row", "table", "fault"]
theorem sc_load : FnScope Nload ["holder", "numbers", "row"] (defScope s_load) := ⟨rfl, rfl, rfl, by decide +kernel, rfl, by decide +kernel, by decide +kernel⟩
def HasB : Wd → List Int → List Int → Prop := fun _ _ row => ∀ b ∈ row, 0 ≤ b ∧ b ≤ 255
def cLoad (_nums row : List Int) : Vamvsz.Call := .load (VamvszNeutral.bytesOf row)
theorem rl_bytes {H : Hp} {v : V} {row : List Int} (h : RM RI H v row) (hb : ∀ b ∈ row, 0 ≤ b ∧ b ≤ 255) : RL K RU H v (VamvszNeutral.bytesOf row) := by
  obtain ⟨a, vs, e, h1, h2⟩ := h
  refine ⟨a, vs, e, SqL.of h1, ?_⟩
  clear h1 e
  induction h2 with
  | nil => exact .nil
  | @cons u b l m h t ih =>
    have hb0 := hb b List.mem_cons_self
    refine .cons ?_ (ih fun z hz => hb z (List.mem_cons_of_mem _ hz))
    have h : u = .int b := h
    show u = .int ((UInt8.ofNat b.toNat).toNat : Int)
    have e : (UInt8.ofNat b.toNat).toNat = b.toNat := by
      rw [UInt8.toNat_ofNat']
      omega
    rw [h, e]
    congr 1
    omega
def tsLoad (c : Cs) : Addr → Value → Option Addr → TS := fun a cls d => tRet (tLst (tCons (tC (.int 0)) (tCons (tXf a cls d c.fault "code" (tVar 4)) (tCons (tXf a cls d c.fault "place" (tVar 4)) tNil))))
theorem step_load {o : Vamvsz.Obj} {b : List UInt8} {tb : Vamvsa.Table} (h : Vamvsa.read b = .ok tb) : Vamvsz.step o (.load b) = (some ⟨⟨tb, [], ⟨1000, 0⟩⟩, []⟩, ⟨1, Vamvsz.nats [tb.cols.length, tb.rows.length, tb.asks.length]⟩) := by
  show (match Vamvsa.read b with
    | .ok t => ((some ⟨⟨t, [], ⟨Vamvsz.ROOM, 0⟩⟩, []⟩, ⟨1, Vamvsz.nats [Vamvsa.width t, t.rows.length, t.asks.length]⟩) : Vamvsz.Obj × VamvsBase.Answer)
    | .error f => (o, VamvsBase.faulty f)) = _
  rw [h]
  rfl
theorem step_loadE {o : Vamvsz.Obj} {b : List UInt8} {f : VamvsBase.Fault} (h : Vamvsa.read b = .error f) : Vamvsz.step o (.load b) = (o, VamvsBase.faulty f) := by
  show (match Vamvsa.read b with
    | .ok t => ((some ⟨⟨t, [], ⟨Vamvsz.ROOM, 0⟩⟩, []⟩, ⟨1, Vamvsz.nats [Vamvsa.width t, t.rows.length, t.asks.length]⟩) : Vamvsz.Obj × VamvsBase.Answer)
    | .error f => (o, VamvsBase.faulty f)) = _
  rw [h]
/-- what is left of the addresses of a load -/
theorem load_nd {x dx l h dh lh lh' ll lq : Addr} {o1 o2 o3 o4 o5 o6 o7 o8 o9 o10 : HO} {rest : Ov} (hn : (keys ((lh', o1) :: (x, o2) :: (dx, o3) :: (l, o4) :: (h, o5) :: (dh, o6) :: (lh, o7) :: (rest ++ [(ll, o8), (lq, o9)]))).Nodup) :
    (∀ p1 p2 p3 p4 p5 p6 p7 : HO, (keys [(h, p1), (dh, p2), (lh', p3), (x, p4), (dx, p5), (ll, p6), (lq, p7)]).Nodup) ∧ l ∉ ([h, dh, lh', x, dx, ll, lq] : List Addr) := by
  have hs : (keys ((lh', o1) :: (x, o2) :: (dx, o3) :: (l, o4) :: (h, o5) :: (dh, o6) :: [(ll, o8), (lq, o9)])).Nodup := by
    refine List.Nodup.sublist (List.Sublist.map _ ?_) hn
    exact .cons₂ _ (.cons₂ _ (.cons₂ _ (.cons₂ _ (.cons₂ _ (.cons₂ _ (.cons _ (List.sublist_append_right _ _)))))))
  simp only [keys, List.map_cons, List.map_nil, List.nodup_cons, List.mem_cons, List.not_mem_nil, or_false, not_or, List.nodup_nil, not_false_eq_true, and_true] at hs ⊢
  obtain ⟨⟨a1, a2, a3, a4, a5, a6, a7⟩, ⟨b1, b2, b3, b4, b5, b6⟩, ⟨c1, c2, c3, c4, c5⟩, ⟨d1, d2, d3, d4⟩, ⟨e1, e2, e3⟩, ⟨f1, f2⟩, g1⟩ := hs
  refine ⟨fun _ _ _ _ _ _ _ => ⟨⟨e1, Ne.symm a4, Ne.symm b3, Ne.symm c2, e2, e3⟩, ⟨Ne.symm a5, Ne.symm b4, Ne.symm c3, f1, f2⟩, ⟨a1, a2, a6, a7⟩, ⟨b1, b5, b6⟩, ⟨c4, c5⟩, g1⟩, d1, d2, Ne.symm a3, Ne.symm b2, Ne.symm c1, d3, d4⟩
theorem ok_load {f : Addr} {fd : FuncData} (g : Gf K mg c) (MS : MkStk P w K mg base c) (dR : DRead T P w K mg base c) (F : Fun K "load" "load" s_load f fd) (hm : mg "load" = some (.ref f)) (b : Binds K fd ["holder", "numbers", "row"] []) :
    DDeed T P w K mg base c 9 "load" HasB cLoad := by
  refine okE F hm b sc_load deed_len fun cdv A outer s H vs Q E hr h => ?_
  obtain ⟨ht, ⟨h, dh, lh, cur, held⟩, G, nv, rv, nums, row, rfl, p, hnv, hrv, hrow, hok, her⟩ := h
  have tG : Tb T G := p.tb ht
  obtain ⟨eH, lay, hcur, hheld, hlen⟩ := p
  subst eH
  refine wb_cons (Ws.hideWd lay ?_)
  refine ws_try (cv := .ref c.fault) (i := 4) (Wout := fun _ _ _ _ => False) (ts := tsLoad c) rfl rfl sc_load.nd rfl rfl ⟨rfl, by decide, .inl g.faultAt⟩ takes0 (fun a oe cls d pn hz hf => ?_) (fun pn xe tk => ?_)
  · exact pss_one (ps_ret (pe_lst (pa_cons pe_int (pa_cons (pe_xf g.faultX (g.faultNo _ (by decide)) hz hf (pv 4)) (pa_cons (pe_xf g.faultX (g.faultNo _ (by decide)) hz hf (pv 4)) pa_nil)))))
  refine wb_cons (Ws.of (ps_set sc_load.nd (i := 3) rfl (.inl rfl) we) ?_)
  refine we_callT tk dR hr (by decide) ((ea_cons (T := T) (R := RL K RU) (x := VamvszNeutral.bytesOf row) (vr 2 (rl_bytes hrv hrow)) ea_nil) G (Xt.refl _) _ fun vs H1 u1 ⟨v, r1, k1, k2, k3⟩ => ?_)
  subst k1 k3
  refine ⟨u1.tb tG, v, _, rfl, k2, fun tb etb H2 G2 t dt ll lq rv2 qv eH2 l2 x2 hn ta => ?_, fun fl efl d H' u hd σ' hl' => ?_⟩
  · subst eH2
    refine wb_nil fun hl => ?_
    have L0 : Lay (Wd.cells c ⟨h, dh, lh, cur, held⟩ ++ [(ll, .lst rv2), (lq, .lst qv)]) G2 := Lay.join hl l2
    rw [← ov_app]
    refine wb_cons (Ws.of (ps_fld we we rfl) ?_)
    refine we_make MS hr (by decide) (Wa.of (pa_cons we pa_nil rfl) (we_var (i := 3) rfl ⟨rfl, fun x dx G3 fs hx hdx ne ⟨a, l, ea, hl0, eG, efs⟩ hx3 hdx3 => ?_⟩))
    cases ea
    subst efs eG
    have L1 := L0.fresh (a := l) (o := .lst []) hl0 mo_lst
    have L2 := L1.fresh (a := dx) (o := .own x) hdx3 mo_own
    have L3 := L2.fresh (a := x) (o := .ins c.stock dx [("table", .ref t), ("kept", .ref l), ("room", .int 1000), ("changes", .int 0)]) (by
      show upd (ov _ G2) dx (.own x) x = none
      rw [upd_ne ne.symm]
      exact hx3) mo_ins
    have L3 : Lay ([(x, .ins c.stock dx [("table", .ref t), ("kept", .ref l), ("room", .int 1000), ("changes", .int 0)]), (dx, .own x), (l, .lst [])] ++ (h, hdI c dh lh (stockV cur)) :: ((dh, .own h) :: (lh, .lst (heldV held)) :: ((curC c cur ++ heldC c held) ++ [(ll, .lst rv2), (lq, .lst qv)]))) G2 := L3
    refine we_var (i := 0) rfl ⟨h, c.holder, dh, [("stock", stockV cur), ("held", .ref lh)], rfl, ov_at L3.nd (List.mem_append_right _ List.mem_cons_self), g.holder.cl, g.holder.no _ (by decide), (show (2 : Nat) < 1000 by decide), ?_⟩
    obtain ⟨e4, L4⟩ := ov_upd (u := hdI c dh lh (.ref x)) L3 mo_ins
    refine Eq.mp (congrArg (Wb _ _ _ _) e4.symm) ?_
    refine wb_cons (Ws.of (ps_fld we (pe_lst pa_nil) rfl) ⟨Nat.zero_le _, fun lh' hlh' => ?_⟩)
    have L5 := L4.fresh (a := lh') (o := .lst []) hlh' mo_lst
    have L5 : Lay ([(lh', .lst []), (x, .ins c.stock dx [("table", .ref t), ("kept", .ref l), ("room", .int 1000), ("changes", .int 0)]), (dx, .own x), (l, .lst [])] ++ (h, hdI c dh lh (.ref x)) :: ((dh, .own h) :: (lh, .lst (heldV held)) :: ((curC c cur ++ heldC c held) ++ [(ll, .lst rv2), (lq, .lst qv)]))) G2 := L5
    refine we_var (i := 0) rfl ⟨h, c.holder, dh, [("stock", .ref x), ("held", .ref lh)], rfl, ov_at L5.nd (List.mem_append_right _ List.mem_cons_self), g.holder.cl, g.holder.no _ (by decide), (show (2 : Nat) < 1000 by decide), ?_⟩
    obtain ⟨e6, L6⟩ := ov_upd (u := hdI c dh lh' (.ref x)) L5 mo_ins
    refine Eq.mp (congrArg (Wb _ _ _ _) e6.symm) ?_
    clear e4 e6 L0 L1 L2 L3 L4 L5
    obtain ⟨nd7, nl⟩ := load_nd (o10 := .lst []) L6.nd
    obtain ⟨G6, e7, L7, x7, off7⟩ := relay (T := T) (m' := Wd.cells c ⟨h, dh, lh', some ⟨x, dx, t, dt, ll, lq, .ref l, rv2, qv, ⟨tb, [], ⟨1000, 0⟩⟩⟩, []⟩) L6 (fun q hq => by
      have hq : q ∈ [(h, hdI c dh lh' (.ref x)), (dh, HO.own h), (lh', HO.lst []), (x, .ins c.stock dx [("table", .ref t), ("kept", .ref l), ("room", .int 1000), ("changes", .int 0)]), (dx, .own x), (ll, .lst rv2), (lq, .lst qv)] := hq
      simp only [List.mem_cons, List.mem_append, List.not_mem_nil, or_false] at hq ⊢
      rcases hq with z | z | z | z | z | z | z <;> subst z <;> simp) (nd7 _ _ _ _ _ _ _)
    have hl6 : G6 l = some (.lst []) := (off7 l nl).trans (ov_at L6.nd (List.mem_append_left _ (by simp)))
    have hgn : GoodN ⟨tb, [], ⟨1000, 0⟩⟩ := ⟨read_good etb, List.nil_sublist _, Nat.le_refl _, Nat.zero_le _⟩
    have p7 : WdOk T K c _ G6 ⟨h, dh, lh', some ⟨x, dx, t, dt, ll, lq, .ref l, rv2, qv, ⟨tb, [], ⟨1000, 0⟩⟩⟩, []⟩ := ⟨e7, L7, fun z hz => by cases hz; exact ⟨ta.mono x7, ⟨l, [], rfl, SqL.of hl6, .nil⟩, hgn⟩, fun z hz => (nomatch hz), Nat.zero_le _⟩
    obtain ⟨cv, c1, c2⟩ := (p7.cur _ rfl).tab.ex
    have htab : RTab K c _ (.ref t) tb := ⟨t, dt, cv, .ref ll, .ref lq, rfl, p7.xt.ex _ _ c1 nt_ins, Mono.mono p7.xt c2, ⟨ll, rv2, rfl, SqL.of (p7.stk rfl).2.1, (p7.cur _ rfl).tab.rows.mono p7.xt⟩, ⟨lq, qv, rfl, SqL.of (p7.stk rfl).2.2, (p7.cur _ rfl).tab.asks.mono p7.xt⟩⟩
    refine wb_ret (T := T) (R := RM RI) (x := [1, (tb.cols.length : Int), (tb.rows.length : Int), (tb.asks.length : Int)]) (ev_list (es_cons ev_int (es_cons (ev_len (R := RM RU) g.len (ev_fld (S := RTab K c) (vr 3 htab) fun H1 v u r => r.cols g)) (es_cons (ev_len (R := RRow K) g.len (ev_fld (S := RTab K c) (vr 3 htab) fun H1 v u r => r.lines g)) (es_cons (ev_len (R := RAsk K) g.len (ev_fld (S := RTab K c) (vr 3 htab) fun H1 v u r => r.asks g)) es_nil))))) fun v' H8 u8 r8 => ?_
    obtain ⟨G8, p8, x8⟩ := p7.keep u8
    refine hok v' H8 G8 ⟨h, dh, lh', some ⟨x, dx, t, dt, ll, lq, .ref l, rv2, qv, ⟨tb, [], ⟨1000, 0⟩⟩⟩, []⟩ rfl (u1.trans (x2.trans (x7.trans x8))) p8 ?_ ?_
    · rw [show cLoad nums row = .load (VamvszNeutral.bytesOf row) from rfl, step_load etb]
      rfl
    · rw [show cLoad nums row = .load (VamvszNeutral.bytesOf row) from rfl, step_load etb]
      exact r8
  · refine ⟨true, g.faultE, fun _ a ha => ?_, fun z => (nomatch z)⟩
    have hs : (σ'.set 4 (some (.ref a)))[4]? = some (some (.ref a)) := by
      rw [List.getElem?_set_self]
      rw [hl']
      exact (show (4 : Nat) < 5 by decide)
    refine ⟨_, hs, rfl, rfl, d, _, _, rfl, hd, rfl, _, hs, rfl, rfl, d, _, _, rfl, hd, rfl, (by show 3 ≤ sizeLine; decide), fun q hq hl => ?_⟩
    have x9 : Xt T G (upd H' q (.lst [.int 0, .int (fl.code : Int), .int (fl.place : Int)])) := (u1.trans u).trans (Xt.new hq)
    refine hok (.ref q) _ _ ⟨h, dh, lh, cur, held⟩ rfl x9 ⟨rfl, hl, fun z hz => (hcur z hz).mono x9, fun z hz => (hheld z hz).mono x9, hlen⟩ ?_ ?_
    · rw [show cLoad nums row = .load (VamvszNeutral.bytesOf row) from rfl, step_loadE efl]
    · rw [show cLoad nums row = .load (VamvszNeutral.bytesOf row) from rfl, step_loadE efl]
      exact ⟨q, _, rfl, (ov_xt (T := T) hl).ex _ _ upd_same nt_lst, .cons rfl (.cons rfl (.cons rfl .nil))⟩
end G5
/-! R16: answer. -/
namespace G5
open PySem PySem.Spec PyProof.Rows L2
variable {T : List NTab} {P : Program} {w : World} {K : PySem.W.Frag} {mg : Str → Option Value} {base : Heap} {c : Cs}
/-- the calls by their numbers -/
def dcall : Nat → List Int → List Int → Vamvsz.Call
  | 0 => cLoad
  | 1 => cShown
  | 2 => cTimes
  | 3 => cAsk
  | 4 => cDrop
  | 5 => cRow
  | 6 => cKeep
  | 7 => cTerms
  | 8 => cReport
  | 9 => cAdvise
  | 10 => cTakeb
  | _ => cUndo
/-- what a call hands over -/
def dshape : Nat → List Int → List Int → Prop
  | 0 => fun _ row => ∀ b ∈ row, 0 ≤ b ∧ b ≤ 255
  | 1 => fun nums _ => nums.length = 0
  | 2 => fun nums _ => nums.length = 2
  | 3 => fun nums _ => nums.length = 2
  | 4 => fun nums _ => nums.length = 1
  | 5 => fun nums row => nums.length = 1 ∧ row.length ≤ 1000000
  | 6 => fun nums _ => nums.length = 2
  | 7 => fun nums _ => nums.length = 2
  | _ => fun nums _ => nums.length = 0
def DeedAt (T : List NTab) (P : Program) (w : World) (K : PySem.W.Frag) (mg : Str → Option Value) (base : Heap) (c : Cs) (n : Nat) (name : Str) : Prop := ∃ pre call, DDeed T P w K mg base c 9 name pre call ∧ ∀ wd nums row, dshape n nums row → (n = 0 ∨ wd.cur ≠ none) → pre wd nums row ∧ call nums row = dcall n nums row
abbrev Deeds (T : List NTab) (P : Program) (w : World) (K : PySem.W.Frag) (mg : Str → Option Value) (base : Heap) (c : Cs) : Prop := ∀ n name, deedsL[n]? = some name → DeedAt T P w K mg base c n name
theorem deeds_of (d0 : DDeed T P w K mg base c 9 "load" HasB cLoad) (d1 : DDeed T P w K mg base c 9 "shown" (Has1 0) cShown) (d2 : DDeed T P w K mg base c 9 "times" (Has1 2) cTimes) (d3 : DDeed T P w K mg base c 9 "ask" (Has1 2) cAsk) (d4 : DDeed T P w K mg base c 9 "drop" (Has1 1) cDrop)
    (d5 : DDeed T P w K mg base c 9 "add_row" (HasR 1) cRow) (d6 : DDeed T P w K mg base c 9 "keep" (Has1 2) cKeep) (d7 : DDeed T P w K mg base c 9 "terms" (Has1 2) cTerms) (d8 : DDeed T P w K mg base c 9 "report" (Has1 0) cReport) (d9 : DDeed T P w K mg base c 9 "advise" (Has1 0) cAdvise)
    (d10 : DDeed T P w K mg base c 9 "take_best" (Has1 0) cTakeb) (d11 : DDeed T P w K mg base c 9 "undo" (Has1 0) cUndo) : Deeds T P w K mg base c := by
  intro n name h
  have no : ∀ {k : Nat} {wd : Wd}, (k + 1 = 0 ∨ wd.cur ≠ none) → wd.cur ≠ none := fun z => z.resolve_left (Nat.succ_ne_zero _)
  match n, h with
  | 0, h => cases h; exact ⟨_, _, d0, fun wd nums row hs _ => ⟨hs, rfl⟩⟩
  | 1, h => cases h; exact ⟨_, _, d1, fun wd nums row hs hc => ⟨⟨no hc, hs⟩, rfl⟩⟩
  | 2, h => cases h; exact ⟨_, _, d2, fun wd nums row hs hc => ⟨⟨no hc, hs⟩, rfl⟩⟩
  | 3, h => cases h; exact ⟨_, _, d3, fun wd nums row hs hc => ⟨⟨no hc, hs⟩, rfl⟩⟩
  | 4, h => cases h; exact ⟨_, _, d4, fun wd nums row hs hc => ⟨⟨no hc, hs⟩, rfl⟩⟩
  | 5, h => cases h; exact ⟨_, _, d5, fun wd nums row hs hc => ⟨⟨no hc, hs.1, hs.2⟩, rfl⟩⟩
  | 6, h => cases h; exact ⟨_, _, d6, fun wd nums row hs hc => ⟨⟨no hc, hs⟩, rfl⟩⟩
  | 7, h => cases h; exact ⟨_, _, d7, fun wd nums row hs hc => ⟨⟨no hc, hs⟩, rfl⟩⟩
  | 8, h => cases h; exact ⟨_, _, d8, fun wd nums row hs hc => ⟨⟨no hc, hs⟩, rfl⟩⟩
  | 9, h => cases h; exact ⟨_, _, d9, fun wd nums row hs hc => ⟨⟨no hc, hs⟩, rfl⟩⟩
  | 10, h => cases h; exact ⟨_, _, d10, fun wd nums row hs hc => ⟨⟨no hc, hs⟩, rfl⟩⟩
  | 11, h => cases h; exact ⟨_, _, d11, fun wd nums row hs hc => ⟨⟨no hc, hs⟩, rfl⟩⟩
  | n + 12, h => cases h
theorem step_none : ∀ {n : Nat} {nums row : List Int}, n ≠ 0 → Vamvsz.step none (dcall n nums row) = (none, VamvsBase.one (-1))
  | 0, _, _, h => absurd rfl h
  | 1, _, _, _ => rfl
  | 2, _, _, _ => rfl
  | 3, _, _, _ => rfl
  | 4, _, _, _ => rfl
  | 5, _, _, _ => rfl
  | 6, _, _, _ => rfl
  | 7, _, _, _ => rfl
  | 8, _, _, _ => rfl
  | 9, _, _, _ => rfl
  | 10, _, _, _ => rfl
  | _ + 11, _, _, _ => rfl
section
variable {X : Cx} {e1 e2 : Expr} {σ : L2.St} {H : Hp} {j : Nat} {pos p : Pos} {Q : VK} {W : WX} {k : Bool} {n : Int}
/-- ask_so(holds, number) within a try -/
theorem we_soT (tk : Takes X W) (F : DSo T X.prog X.w X.K X.mg X.base c) (hr : Room j X.A) (hk : 3 ≤ j) (ht : Tb T H) (h1 : Ev T X RB e1 σ H k) (h2 : Ev T X RI e2 σ H n)
    (hok : k = true → ∀ H', Xt T H H' → Q .non H') (her : k = false → RE T c (EL X.N.length W) H n) (hg : Gl X "ask_so" := by rfl) (he : starEach (e1 :: [e2]) X.env = (false, eval e1 X.env) :: starEach [e2] X.env := by rfl) (he2 : starEach (e2 :: []) X.env = (false, eval e2 X.env) :: starEach [] X.env := by rfl) (hpl : (backTo pos (starEach [e2] X.env)).any (·.1) = false := by rfl) :
    We X (.Call (.Name "ask_so" p) [e1, e2] [] pos) σ H Q :=
  we_callT tk F hr hk ((ea_cons h1 (ea_cons h2 ea_nil he2) he) H (Xt.refl _) _ fun vs H2 u2 ⟨v, r, k1, k2, u, r', k3, k4, k5⟩ => by
    subst k1 k3 k5
    cases k2
    cases k4
    exact ⟨u2.tb ht, k, n, rfl, fun e H' u => hok e H' (u2.trans u), fun e => (her e).up u2⟩) hg (by decide) he hpl
end
def tsAns (c : Cs) : Addr → Value → Option Addr → TS := fun a cls d => tRet (tLst (tCons (tXf a cls d c.refused "number" (tVar 5)) tNil))
theorem refuse_ok (g : Gf K mg c) {H G B : Hp} {wd : Wd} {call : Vamvsz.Call} {Q : VK} {D : Ends} {n : Int} (hD : ∀ v H', Q v H' → D.rt v H') (p : WdOk T K c H G wd) (u : Xt T H B) (hs : Vamvsz.step wd.obj call = (wd.obj, VamvsBase.one n))
    (hok : ∀ v H' G' wd', wd'.h = wd.h → Xt T G G' → WdOk T K c H' G' wd' → wd'.obj = (Vamvsz.step wd.obj call).1 → RM RI H' v (lstA (Vamvsz.step wd.obj call).2) → Q v H') :
    RE T c (EL 6 (wAs K (.ref c.refused) 5 (tsAns c) (fun _ _ _ _ => False) D)) B n := by
  intro d H' u2 hd σ' hl
  refine ⟨true, g.refusedE, fun _ a ha => ?_, fun z => (nomatch z)⟩
  have hs5 : (σ'.set 5 (some (.ref a)))[5]? = some (some (.ref a)) := by
    rw [List.getElem?_set_self]
    rw [hl]
    exact (show (5 : Nat) < 6 by decide)
  refine ⟨_, hs5, rfl, rfl, d, _, _, rfl, hd, rfl, (by show 1 ≤ sizeLine; decide), fun q hq => hD _ _ ?_⟩
  obtain ⟨G', p', x'⟩ := p.keep (u.trans (u2.trans (Xt.new hq)))
  rw [hs] at hok
  exact hok _ _ G' wd rfl x' p' rfl ⟨q, _, rfl, upd_same, .cons rfl .nil⟩
abbrev s_answer : Stmt := top 115
def Nanswer : List Str := ["holder", "number", "numbers", "row", "deed", "refused"]
theorem sc_answer : FnScope Nanswer ["holder", "number", "numbers", "row"] (defScope s_answer) := ⟨rfl, rfl, rfl, by decide +kernel, rfl, by decide +kernel, by decide +kernel⟩
def SpAns (T : List NTab) (K : PySem.W.Frag) (c : Cs) : Sp := fun vs H Q _ => Tb T H ∧ ∃ wd G n nv rv nums row, vs = [.ref wd.h, .int ((n : Nat) : Int), nv, rv] ∧ WdOk T K c H G wd ∧ RM RI G nv nums ∧ RM RI G rv row ∧ n < 12 ∧ dshape n nums row ∧
  ∀ v H' G' wd', wd'.h = wd.h → Xt T G G' → WdOk T K c H' G' wd' → wd'.obj = (Vamvsz.step wd.obj (dcall n nums row)).1 → RM RI H' v (lstA (Vamvsz.step wd.obj (dcall n nums row)).2) → Q v H'
abbrev DAns (T : List NTab) (P : Program) (w : World) (K : PySem.W.Frag) (mg : Str → Option Value) (base : Heap) (c : Cs) : Prop := Df P w K mg base CX0 10 "answer" ["holder", "number", "numbers", "row"] (SpAns T K c)
instance {m : Str → Option Value} : Mono T (RDf m) := ⟨fun _ h => h⟩
theorem ok_answer {f : Addr} {fd : FuncData} (g : Gf K mg c) (dS : DSo T P w K mg base c) (DD : Deeds T P w K mg base c) (F : Fun K "answer" "answer" s_answer f fd) (hm : mg "answer" = some (.ref f)) (b : Binds K fd ["holder", "number", "numbers", "row"] []) : DAns T P w K mg base c := by
  refine okN F hm b sc_answer (fun vs H Q E h => by obtain ⟨_, wd, G, n, nv, rv, nums, row, rfl, _⟩ := h; rfl) fun cdv A outer s H vs Q E hr h => ?_
  obtain ⟨ht, wd, G, n, nv, rv, nums, row, rfl, p, hnv, hrv, hn, hsh, hok⟩ := h
  refine wb_cons (ws_try (cv := .ref c.refused) (i := 5) (Wout := fun _ _ _ _ => False) (ts := tsAns c) rfl rfl sc_answer.nd rfl rfl ⟨rfl, by decide, .inl g.refusedAt⟩ takes0 (fun a oe cls d pn hz hf => ?_) (fun pn xe tk => ?_))
  · exact pss_one (ps_ret (pe_lst (pa_cons (pe_xf g.refusedX (g.refusedNo _ (by decide)) hz hf (pv 5)) pa_nil)))
  have rf : ∀ {B : Hp} {m : Int} {D : Ends}, (∀ v H', Q v H' → D.rt v H') → Xt T H B → Vamvsz.step wd.obj (dcall n nums row) = (wd.obj, VamvsBase.one m) → RE T c (EL 6 (wAs K (.ref c.refused) 5 (tsAns c) (fun _ _ _ _ => False) D)) B m := fun hD u hs => refuse_ok g hD p u hs hok
  refine wb_expr (X := (C0 P w K mg base Nanswer "answer" s_answer f cdv A outer s H E).tr pn xe) ?_
  refine we_soT (T := T) (c := c) tk dS hr (by decide) ht (k := decide ((n : Int) = 0) || !decide (stockV wd.cur = .non)) (n := -1) ?_ (ev_gi g.gNO_TABLE) (fun kk H1 u1 => ?_) fun kk => rf (fun _ _ h => h) (Xt.refl _) ?_
  · refine ev_orB (ev_cmp (x := (n : Int)) (y := (0 : Int)) cmp_eq (vr 1 (R := RI) rfl) ev_int) fun _ => ev_isNotN (ev_fld (S := RV) (R := RV) (y := .ref wd.h) (vr 0 (R := RV) rfl) fun H1 v u e => ?_)
    cases e
    exact ⟨_, p.hasS g u, rfl⟩
  rotate_left
  · rw [Bool.or_eq_false_iff] at kk
    have k1 : n ≠ 0 := fun z => by subst z; exact absurd kk.1 (by decide)
    have k2 : wd.cur = none := by
      cases e : wd.cur with
      | none => rfl
      | some x => rw [e] at kk; exact absurd kk.2 (by simp [stockV])
    have k3 : wd.obj = none := by unfold Wd.obj; rw [k2]; rfl
    rw [k3, step_none k1]
  have hcase : n = 0 ∨ wd.cur ≠ none := by
    rcases Bool.or_eq_true_iff.mp kk with z | z
    · left
      have := of_decide_eq_true z
      omega
    · right
      intro y
      rw [y] at z
      exact absurd z (by simp [stockV])
  obtain ⟨G1, p1, x1⟩ := p.keep u1
  obtain ⟨name, hname⟩ : ∃ name, deedsL[n]? = some name := ⟨_, List.getElem?_eq_getElem (show n < deedsL.length from hn)⟩
  obtain ⟨da, hda, hdt⟩ := g.gDEEDS
  refine wb_set (T := T) (R := RDf mg) (x := name) 4 (ev_itemT (i := n) (l := deedsL) (ev_gr (v := .non) hda fun H1 _ => hdt H1) (vr 1 (R := RI) rfl) hname) (fun v H2 u2 ⟨f1, ev, hf1⟩ => ?_) sc_answer.nd
  subst ev
  obtain ⟨pre, call, dd, hpre⟩ := DD n name hname
  obtain ⟨f2, fd2, hm2, hkp, hb2, hF⟩ := dd.ex
  cases hf1.symm.trans hm2
  obtain ⟨hp1, hc1⟩ := hpre wd nums row hsh hcase
  obtain ⟨G2, p2, x2⟩ := p1.keep u2
  refine wb_cons (Ws.of (ps_ret we) ?_)
  refine we_callLT (i := 4) tk hF hkp hb2 hr (by decide) rfl (((ea_cons (T := T) (R := RV) (x := .ref wd.h) (vr 0 rfl) (ea_cons (R := RV) (x := nv) (vr 2 rfl) (ea_cons (R := RV) (x := rv) (vr 3 rfl) ea_nil)))) H2 (Xt.refl _) _ fun vs H3 u3 ⟨v, r1, k1, k2, u', r', k3, k4, u'', r'', k5, k6, k7⟩ => ?_)
  subst k1 k3 k5 k7
  cases k2
  cases k4
  cases k6
  obtain ⟨G3, p3, x3⟩ := p2.keep u3
  have x03 := x1.trans (x2.trans x3)
  refine ⟨u3.tb (u2.tb (u1.tb ht)), wd, G3, nv, rv, nums, row, rfl, p3, Mono.mono x03 hnv, Mono.mono x03 hrv, hp1, fun v' H' G' wd' e1 e2 e3 e4 e5 => ?_, fun m hs => rf (fun _ _ h => h) (u1.trans (u2.trans u3)) (by rw [← hc1]; exact hs)⟩
  rw [hc1] at e4 e5
  exact hok v' H' G' wd' e1 (x03.trans e2) e3 e4 e5
end G5
/-! R17: call_at. -/
namespace G5
open PySem PySem.Spec PyProof.Rows L2
variable {T : List NTab} {P : Program} {w : World} {K : PySem.W.Frag} {mg : Str → Option Value} {base : Heap} {c : Cs}
/-- the call that stands at a place -/
structure CAt (l : List Int) (p n : Nat) (nums row : List Int) (q : Nat) : Prop where
  num : l[p]? = some (n : Int)
  ex : ∃ m r : Nat, callsL[n]? = some ((m : Int), (r : Int)) ∧ p + 1 + m ≤ l.length ∧ nums = (l.drop (p + 1)).take m ∧
    ((r = 0 ∧ row = [] ∧ q = p + 1 + m) ∨ ∃ k : Nat, 0 < r ∧ l[p + 1 + m]? = some (k : Int) ∧ p + 1 + m + 1 + k ≤ l.length ∧ row = (l.drop (p + 1 + m + 1)).take k ∧ q = p + 1 + m + 1 + k)
abbrev s_callat : Stmt := top 114
def Ncallat : List Str := ["calls", "place", "number", "many", "rows", "end", "numbers", "row"]
theorem sc_callat : FnScope Ncallat ["calls", "place"] (defScope s_callat) := ⟨rfl, rfl, rfl, by decide +kernel, rfl, by decide +kernel, by decide +kernel⟩
def SpAt (T : List NTab) (K : PySem.W.Frag) : Sp := fun vs H Q _ => Tb T H ∧ ∃ v1 l p n nums row q, vs = [v1, .int ((p : Nat) : Int)] ∧ RL K RI H v1 l ∧ l.length ≤ 1000000 ∧ CAt l p n nums row q ∧
  ∀ a nv rv H', Xt T H H' → SqT K H' a [.int (n : Int), nv, rv, .int (q : Int)] → RM RI H' nv nums → RM RI H' rv row → Q (.ref a) H'
abbrev DAt (T : List NTab) (P : Program) (w : World) (K : PySem.W.Frag) (mg : Str → Option Value) (base : Heap) : Prop := Df P w K mg base CX0 1 "call_at" ["calls", "place"] (SpAt T K)
theorem ok_callat {f : Addr} {fd : FuncData} (g : Gf K mg c) (F : Fun K "call_at" "call_at" s_callat f fd) (hm : mg "call_at" = some (.ref f)) (b : Binds K fd ["calls", "place"] []) : DAt T P w K mg base := by
  refine okN F hm b sc_callat (fun vs H Q E h => by obtain ⟨_, v1, l, p, n, nums, row, q, rfl, _⟩ := h; rfl) fun cdv A outer s H vs Q E hr h => ?_
  obtain ⟨ht, v1, l, p, n, nums, row, q, rfl, h1, hl, ⟨hnum, m, r, hsh, hm1, hnums, hrow⟩, hq⟩ := h
  obtain ⟨ca, hca, hct⟩ := g.gCALLS
  refine wb_set (T := T) (R := RI) (x := (n : Int)) 2 (ev_item (R := RI) (i := p) (l := l) (vr 0 h1) (vr 1 (R := RI) rfl) hnum) (fun vn H1 u1 en => ?_) sc_callat.nd
  cases en
  refine wb_cons (ws_asg2 3 4 rfl sc_callat.nd ((ev_itemT (T := T) (R := RP K RI RI) (x := ((m : Int), (r : Int))) (i := n) (l := callsL) (ev_gr (v := .non) hca fun H1 _ => hct H1) (vr 2 (R := RI) rfl) hsh).now fun v H2 u2 ⟨t, w1, w2, e, hsq, r1, r2⟩ => ⟨t, w1, w2, e, hsq, ?_⟩))
  cases r1
  cases r2
  have u02 := u1.trans u2
  refine wb_set (T := T) (R := RI) (x := ((p + 1 + m : Nat) : Int)) 5 (Ev.is (ev_add (ev_add (vr 1 (R := RI) rfl) ev_int) (vr 3 (R := RI) rfl)) (by push_cast; rfl)) (fun ve H3 u3 ee => ?_) sc_callat.nd
  cases ee
  have u03 := u02.trans u3
  have c1 : cut l (some (((p : Nat) : Int) + 1)) (some ((p + 1 + m : Nat) : Int)) = nums := by
    rw [show ((p : Nat) : Int) + 1 = ((p + 1 : Nat) : Int) by omega, cut_nat l (p + 1) (p + 1 + m) hm1 (by omega), hnums, Nat.add_sub_cancel_left]
  refine wb_set (T := T) (R := RM RI) (x := nums) 6 (Ev.is (ev_slice (R := RI) (vr 0 (Mono.mono u03 h1)) (eo_some (ev_add (vr 1 (R := RI) rfl) ev_int)) (eo_some (vr 5 (R := RI) rfl))) c1) (fun vns H4 u4 rn => ?_) sc_callat.nd
  have u04 := u03.trans u4
  refine wb_set (T := T) (R := RM RI) (x := []) 7 (ev_list es_nil) (fun vrw H5 u5 rr => ?_) sc_callat.nd
  have u05 := u04.trans u5
  have rn5 := Mono.mono (T := T) u5 rn
  refine wb_if (T := T) (k := decide ((0 : Int) < (r : Int))) (et_cmp (x := (r : Int)) (y := (0 : Int)) cmp_gt (vr 4 (R := RI) rfl) ev_int) (fun kk H6 u6 => ?_) fun kk H6 u6 => ?_
  · have kk := of_decide_eq_true kk
    obtain ⟨k, _, hk1, hk2, hk3, hk4⟩ : ∃ k : Nat, 0 < r ∧ l[p + 1 + m]? = some (k : Int) ∧ p + 1 + m + 1 + k ≤ l.length ∧ row = (l.drop (p + 1 + m + 1)).take k ∧ q = p + 1 + m + 1 + k := by
      rcases hrow with ⟨z, _⟩ | z
      · omega
      · exact z
    have u06 := u05.trans u6
    have c2 : cut l (some (((p + 1 + m : Nat) : Int) + 1)) (some (((p + 1 + m : Nat) : Int) + 1 + (k : Int))) = row := by
      rw [show ((p + 1 + m : Nat) : Int) + 1 + (k : Int) = ((p + 1 + m + 1 + k : Nat) : Int) by omega, show ((p + 1 + m : Nat) : Int) + 1 = ((p + 1 + m + 1 : Nat) : Int) by omega, cut_nat l (p + 1 + m + 1) (p + 1 + m + 1 + k) hk2 (by omega), hk3, Nat.add_sub_cancel_left]
    refine wb_set (T := T) (R := RM RI) (x := row) 7 (Ev.is (ev_slice (R := RI) (vr 0 (Mono.mono u06 h1)) (eo_some (ev_add (vr 5 (R := RI) rfl) ev_int)) (eo_some (ev_add (ev_add (vr 5 (R := RI) rfl) ev_int) (ev_item (R := RI) (i := p + 1 + m) (l := l) (vr 0 (Mono.mono u06 h1)) (vr 5 (R := RI) rfl) hk1)))) c2) (fun vrw2 H7 u7 rr2 => ?_) sc_callat.nd
    have hrl : row.length = k := by
      rw [hk3, List.length_take, List.length_drop]
      omega
    refine wb_set (T := T) (R := RI) (x := (q : Int)) 5 (Ev.is (ev_add (ev_add (vr 5 (R := RI) rfl) ev_int) (ev_len (R := RI) g.len (vr 7 rr2.rl))) (by rw [hrl, hk4]; push_cast; rfl)) (fun ve2 H8 u8 ee2 => ?_) sc_callat.nd
    cases ee2
    have rr8 := Mono.mono (T := T) u8 rr2
    have rn8 := Mono.mono (T := T) (u6.trans (u7.trans u8)) rn5
    refine wb_nil (wb_cons (Ws.of (ps_ret we) (We.of (pe_tup wa) ((ea_cons (T := T) (R := RI) (x := (n : Int)) (vr 2 rfl) (ea_cons (R := RM RI) (x := nums) (vr 6 rn8) (ea_cons (R := RM RI) (x := row) (vr 7 rr8) (ea_cons (R := RI) (x := (q : Int)) (vr 5 rfl) ea_nil)))) H8 (Xt.refl _) _ fun vs H9 u9 ⟨w1, s1, e1, z1, w2, s2, e2, z2, w3, s3, e3, z3, w4, s4, e4, z4, e5⟩ => ?_))))
    subst e1 e2 e3 e4 e5
    cases z1
    cases z4
    refine ⟨by show 4 ≤ sizeLine; decide, fun a ha => hq a w2 w3 _ (u06.trans (u7.trans (u8.trans (u9.trans (Xt.new ha))))) (SqT.of upd_same) (Mono.mono (Xt.new (T := T) ha) z2) (Mono.mono (Xt.new (T := T) ha) z3)⟩
  · have kk := of_decide_eq_false kk
    obtain ⟨_, hk3, hk4⟩ : r = 0 ∧ row = [] ∧ q = p + 1 + m := by
      rcases hrow with z | ⟨k, z, _⟩
      · exact z
      · omega
    have rr6 := Mono.mono (T := T) u6 rr
    have rn6 := Mono.mono (T := T) u6 rn5
    rw [← hk3] at rr6
    rw [← hk4]
    refine wb_nil (wb_cons (Ws.of (ps_ret we) (We.of (pe_tup wa) ((ea_cons (T := T) (R := RI) (x := (n : Int)) (vr 2 rfl) (ea_cons (R := RM RI) (x := nums) (vr 6 rn6) (ea_cons (R := RM RI) (x := row) (vr 7 rr6) (ea_cons (R := RI) (x := (q : Int)) (vr 5 rfl) ea_nil)))) H6 (Xt.refl _) _ fun vs H9 u9 ⟨w1, s1, e1, z1, w2, s2, e2, z2, w3, s3, e3, z3, w4, s4, e4, z4, e5⟩ => ?_))))
    subst e1 e2 e3 e4 e5
    cases z1
    cases z4
    refine ⟨by show 4 ≤ sizeLine; decide, fun a ha => hq a w2 w3 _ (u05.trans (u6.trans (u9.trans (Xt.new ha)))) (SqT.of upd_same) (Mono.mono (Xt.new (T := T) ha) z2) (Mono.mono (Xt.new (T := T) ha) z3)⟩
end G5
/-! M8: the list of calls, call by call. -/
namespace G5
open PySem PySem.Spec PyProof.Rows L2
theorem whole_id (c : List (List Int)) : PyVamvsz.whole c = c := by
  unfold PyVamvsz.whole
  split <;> rfl
theorem shape_iff {p : Int} {m r : Nat} (h : PyVamvsz.shape p = some (m, r)) : ∃ n : Nat, n < 12 ∧ p = (n : Int) ∧ callsL[n]? = some ((m : Int), (r : Int)) ∧ r ≤ 1 := by
  unfold PyVamvsz.shape at h
  by_cases h0 : p = 0
  · rw [if_pos h0] at h
    cases h
    exact ⟨0, by decide, h0, rfl, by decide⟩
  rw [if_neg h0] at h
  by_cases h1 : p = 1
  · rw [if_pos h1] at h
    cases h
    exact ⟨1, by decide, h1, rfl, by decide⟩
  rw [if_neg h1] at h
  by_cases h2 : p = 2
  · rw [if_pos h2] at h
    cases h
    exact ⟨2, by decide, h2, rfl, by decide⟩
  rw [if_neg h2] at h
  by_cases h3 : p = 3
  · rw [if_pos h3] at h
    cases h
    exact ⟨3, by decide, h3, rfl, by decide⟩
  rw [if_neg h3] at h
  by_cases h4 : p = 4
  · rw [if_pos h4] at h
    cases h
    exact ⟨4, by decide, h4, rfl, by decide⟩
  rw [if_neg h4] at h
  by_cases h5 : p = 5
  · rw [if_pos h5] at h
    cases h
    exact ⟨5, by decide, h5, rfl, by decide⟩
  rw [if_neg h5] at h
  by_cases h6 : p = 6
  · rw [if_pos h6] at h
    cases h
    exact ⟨6, by decide, h6, rfl, by decide⟩
  rw [if_neg h6] at h
  by_cases h7 : p = 7
  · rw [if_pos h7] at h
    cases h
    exact ⟨7, by decide, h7, rfl, by decide⟩
  rw [if_neg h7] at h
  by_cases h8 : p = 8
  · rw [if_pos h8] at h
    cases h
    exact ⟨8, by decide, h8, rfl, by decide⟩
  rw [if_neg h8] at h
  by_cases h9 : p = 9
  · rw [if_pos h9] at h
    cases h
    exact ⟨9, by decide, h9, rfl, by decide⟩
  rw [if_neg h9] at h
  by_cases h10 : p = 10
  · rw [if_pos h10] at h
    cases h
    exact ⟨10, by decide, h10, rfl, by decide⟩
  rw [if_neg h10] at h
  by_cases h11 : p = 11
  · rw [if_pos h11] at h
    cases h
    exact ⟨11, by decide, h11, rfl, by decide⟩
  rw [if_neg h11] at h
  cases h
/-- how a call is told -/
def CTold (n : Nat) (nums row : List Int) (c : List (List Int)) : Prop := ∃ m r : Nat, callsL[n]? = some ((m : Int), (r : Int)) ∧ nums.length = m ∧ ((r = 0 ∧ row = [] ∧ c = [(n : Int) :: nums]) ∨ (r = 1 ∧ c = [(n : Int) :: nums, row]))
theorem flat_call {l : List Int} {p : Nat} (hp : p < l.length) {c : List (List Int)} {t : List Int} (h : PyFlat.call PyVamvsz.shape (l.drop p) = some (c, t)) :
    ∃ (n : Nat) (nums row : List Int) (q : Nat), n < 12 ∧ CAt l p n nums row q ∧ p < q ∧ q ≤ l.length ∧ t = l.drop q ∧ CTold n nums row c := by
  rw [List.drop_eq_getElem_cons hp] at h
  unfold PyFlat.call at h
  cases hs : PyVamvsz.shape l[p] with
  | none => simp only [hs] at h; cases h
  | some mr =>
    obtain ⟨m, r⟩ := mr
    simp only [hs] at h
    obtain ⟨n, hn, hpn, hsh, hr⟩ := shape_iff hs
    have hnum : l[p]? = some (n : Int) := by rw [List.getElem?_eq_getElem hp, hpn]
    by_cases hl : (l.drop (p + 1)).length < m
    · rw [if_pos hl] at h; cases h
    rw [if_neg hl] at h
    rw [List.length_drop] at hl
    have hlen : ((l.drop (p + 1)).take m).length = m := by rw [List.length_take, List.length_drop]; omega
    rw [List.drop_drop, hpn] at h
    rcases Nat.le_one_iff_eq_zero_or_eq_one.mp hr with e | e
    · subst e
      have h : some ([(n : Int) :: (l.drop (p + 1)).take m], l.drop (p + 1 + m)) = some (c, t) := h
      cases h
      exact ⟨n, _, [], p + 1 + m, hn, ⟨hnum, m, 0, hsh, by omega, rfl, .inl ⟨rfl, rfl, rfl⟩⟩, by omega, by omega, rfl, m, 0, hsh, hlen, .inl ⟨rfl, rfl, rfl⟩⟩
    · subst e
      by_cases hq : p + 1 + m < l.length
      · rw [List.drop_eq_getElem_cons hq] at h
        by_cases hk : 0 ≤ l[p + 1 + m] ∧ (l[p + 1 + m]).toNat ≤ (l.drop (p + 1 + m + 1)).length
        · have h : (match (match (if 0 ≤ l[p + 1 + m] ∧ (l[p + 1 + m]).toNat ≤ (l.drop (p + 1 + m + 1)).length then some ((l.drop (p + 1 + m + 1)).take (l[p + 1 + m]).toNat, (l.drop (p + 1 + m + 1)).drop (l[p + 1 + m]).toNat) else none) with
              | none => none
              | some (x, s) => match (some (([] : List (List Int)), s)) with
                | none => none
                | some (xs, t) => some (x :: xs, t)) with
            | none => none
            | some (xs, t) => some (((n : Int) :: (l.drop (p + 1)).take m) :: xs, t)) = some (c, t) := h
          rw [if_pos hk] at h
          have h : some ([(n : Int) :: (l.drop (p + 1)).take m, (l.drop (p + 1 + m + 1)).take (l[p + 1 + m]).toNat], (l.drop (p + 1 + m + 1)).drop (l[p + 1 + m]).toNat) = some (c, t) := h
          rw [List.drop_drop] at h
          cases h
          obtain ⟨hk0, hk1⟩ := hk
          rw [List.length_drop] at hk1
          refine ⟨n, _, _, p + 1 + m + 1 + (l[p + 1 + m]).toNat, hn, ⟨hnum, m, 1, hsh, by omega, rfl, .inr ⟨(l[p + 1 + m]).toNat, by decide, ?_, by omega, rfl, rfl⟩⟩, by omega, by omega, rfl, m, 1, hsh, hlen, .inr ⟨rfl, rfl⟩⟩
          rw [List.getElem?_eq_getElem hq, Int.toNat_of_nonneg hk0]
        · exfalso
          have h : (match (match (if 0 ≤ l[p + 1 + m] ∧ (l[p + 1 + m]).toNat ≤ (l.drop (p + 1 + m + 1)).length then some ((l.drop (p + 1 + m + 1)).take (l[p + 1 + m]).toNat, (l.drop (p + 1 + m + 1)).drop (l[p + 1 + m]).toNat) else none) with
              | none => none
              | some (x, s) => match (some (([] : List (List Int)), s)) with
                | none => none
                | some (xs, t) => some (x :: xs, t)) with
            | none => none
            | some (xs, t) => some (((n : Int) :: (l.drop (p + 1)).take m) :: xs, t)) = some (c, t) := h
          rw [if_neg hk] at h
          cases h
      · rw [List.drop_eq_nil_of_le (by omega)] at h
        cases h
theorem each_mem {lo hi : Int} {row : List Int} (h : row.all (PyInside.within lo hi) = true) : ∀ b ∈ row, lo ≤ b ∧ b ≤ hi := fun b hb => by
  have := List.all_eq_true.mp h b hb
  unfold PyInside.within at this
  rw [Bool.and_eq_true, decide_eq_true_iff, decide_eq_true_iff] at this
  exact this
theorem len0 {l : List Int} (h : l.length = 0) : l = [] := List.eq_nil_of_length_eq_zero h
theorem len1 {l : List Int} (h : l.length = 1) : ∃ a, l = [a] := by
  match l, h with
  | [a], _ => exact ⟨a, rfl⟩
theorem len2 {l : List Int} (h : l.length = 2) : ∃ a b, l = [a, b] := by
  match l, h with
  | [a, b], _ => exact ⟨a, b, rfl⟩
theorem told_call {n : Nat} {nums row : List Int} {c : List (List Int)} (hn : n < 12) (hc : CTold n nums row c) (hb : PyInside.call PyVamvsz.bound c = true) : dshape n nums row ∧ VamvszNeutral.callOf c = some (dcall n nums row) := by
  obtain ⟨m, r, hsh, hlen, hc⟩ := hc
  match n, hn, hsh, hc with
  | 0, _, hsh, hc =>
    have e : ((0 : Int), (1 : Int)) = ((m : Int), (r : Int)) := Option.some.inj hsh
    have em : m = 0 := by have := congrArg Prod.fst e; simp only at this; omega
    have er : r = 1 := by have := congrArg Prod.snd e; simp only at this; omega
    subst em er
    obtain rfl : c = [(0 : Int) :: nums, row] := by
      rcases hc with ⟨z, _⟩ | ⟨_, z⟩
      · exact absurd z (by decide)
      · exact z
    obtain rfl := len0 hlen
    have hb2 : (PyInside.each (PyVamvsz.bound 0).1 [] && PyInside.lists (PyVamvsz.bound 0).2 [row]) = true := hb
    have e9 : (PyVamvsz.bound 0).2 = [(0, 255, 0, 8192)] := rfl
    rw [e9, Bool.and_eq_true] at hb2
    have hb3 : (decide (0 ≤ row.length) && decide (row.length ≤ 8192) && row.all (PyInside.within 0 255) && true) = true := hb2.2
    rw [Bool.and_true, Bool.and_eq_true] at hb3
    have hm := each_mem hb3.2
    refine ⟨hm, ?_⟩
    show (if NeutralIO.bytes row = true then some (Vamvsz.Call.load (VamvszNeutral.bytesOf row)) else none) = _
    rw [if_pos]
    · rfl
    · unfold NeutralIO.bytes
      refine List.all_eq_true.mpr fun b hb => ?_
      rw [Bool.and_eq_true, decide_eq_true_iff, decide_eq_true_iff]
      exact hm b hb
  | 1, _, hsh, hc =>
    have e : ((0 : Int), (0 : Int)) = ((m : Int), (r : Int)) := Option.some.inj hsh
    have em : m = 0 := by have := congrArg Prod.fst e; simp only at this; omega
    have er : r = 0 := by have := congrArg Prod.snd e; simp only at this; omega
    subst em er
    obtain ⟨rfl, rfl⟩ : row = [] ∧ c = [(1 : Int) :: nums] := by
      rcases hc with ⟨_, z⟩ | ⟨z, _⟩
      · exact z
      · exact absurd z (by decide)
    obtain rfl := len0 hlen
    exact ⟨rfl, rfl⟩
  | 2, _, hsh, hc =>
    have e : ((2 : Int), (0 : Int)) = ((m : Int), (r : Int)) := Option.some.inj hsh
    have em : m = 2 := by have := congrArg Prod.fst e; simp only at this; omega
    have er : r = 0 := by have := congrArg Prod.snd e; simp only at this; omega
    subst em er
    obtain ⟨rfl, rfl⟩ : row = [] ∧ c = [(2 : Int) :: nums] := by
      rcases hc with ⟨_, z⟩ | ⟨z, _⟩
      · exact z
      · exact absurd z (by decide)
    obtain ⟨a, b, rfl⟩ := len2 hlen
    exact ⟨rfl, rfl⟩
  | 3, _, hsh, hc =>
    have e : ((2 : Int), (0 : Int)) = ((m : Int), (r : Int)) := Option.some.inj hsh
    have em : m = 2 := by have := congrArg Prod.fst e; simp only at this; omega
    have er : r = 0 := by have := congrArg Prod.snd e; simp only at this; omega
    subst em er
    obtain ⟨rfl, rfl⟩ : row = [] ∧ c = [(3 : Int) :: nums] := by
      rcases hc with ⟨_, z⟩ | ⟨z, _⟩
      · exact z
      · exact absurd z (by decide)
    obtain ⟨a, b, rfl⟩ := len2 hlen
    exact ⟨rfl, rfl⟩
  | 4, _, hsh, hc =>
    have e : ((1 : Int), (0 : Int)) = ((m : Int), (r : Int)) := Option.some.inj hsh
    have em : m = 1 := by have := congrArg Prod.fst e; simp only at this; omega
    have er : r = 0 := by have := congrArg Prod.snd e; simp only at this; omega
    subst em er
    obtain ⟨rfl, rfl⟩ : row = [] ∧ c = [(4 : Int) :: nums] := by
      rcases hc with ⟨_, z⟩ | ⟨z, _⟩
      · exact z
      · exact absurd z (by decide)
    obtain ⟨a, rfl⟩ := len1 hlen
    exact ⟨rfl, rfl⟩
  | 5, _, hsh, hc =>
    have e : ((1 : Int), (1 : Int)) = ((m : Int), (r : Int)) := Option.some.inj hsh
    have em : m = 1 := by have := congrArg Prod.fst e; simp only at this; omega
    have er : r = 1 := by have := congrArg Prod.snd e; simp only at this; omega
    subst em er
    obtain rfl : c = [(5 : Int) :: nums, row] := by
      rcases hc with ⟨z, _⟩ | ⟨_, z⟩
      · exact absurd z (by decide)
      · exact z
    obtain ⟨a, rfl⟩ := len1 hlen
    have hb2 : (PyInside.each (PyVamvsz.bound 5).1 [a] && PyInside.lists (PyVamvsz.bound 5).2 [row]) = true := hb
    have e9 : (PyVamvsz.bound 5).2 = [(-1000000000000000000, 1000000000000000000, 0, 2000)] := rfl
    rw [e9, Bool.and_eq_true] at hb2
    have hb3 : (decide (0 ≤ row.length) && decide (row.length ≤ 2000) && row.all (PyInside.within (-1000000000000000000) 1000000000000000000) && true) = true := hb2.2
    simp only [Bool.and_true, Bool.and_eq_true, decide_eq_true_eq] at hb3
    exact ⟨⟨rfl, by have := hb3.1.2; omega⟩, rfl⟩
  | 6, _, hsh, hc =>
    have e : ((2 : Int), (0 : Int)) = ((m : Int), (r : Int)) := Option.some.inj hsh
    have em : m = 2 := by have := congrArg Prod.fst e; simp only at this; omega
    have er : r = 0 := by have := congrArg Prod.snd e; simp only at this; omega
    subst em er
    obtain ⟨rfl, rfl⟩ : row = [] ∧ c = [(6 : Int) :: nums] := by
      rcases hc with ⟨_, z⟩ | ⟨z, _⟩
      · exact z
      · exact absurd z (by decide)
    obtain ⟨a, b, rfl⟩ := len2 hlen
    exact ⟨rfl, rfl⟩
  | 7, _, hsh, hc =>
    have e : ((2 : Int), (0 : Int)) = ((m : Int), (r : Int)) := Option.some.inj hsh
    have em : m = 2 := by have := congrArg Prod.fst e; simp only at this; omega
    have er : r = 0 := by have := congrArg Prod.snd e; simp only at this; omega
    subst em er
    obtain ⟨rfl, rfl⟩ : row = [] ∧ c = [(7 : Int) :: nums] := by
      rcases hc with ⟨_, z⟩ | ⟨z, _⟩
      · exact z
      · exact absurd z (by decide)
    obtain ⟨a, b, rfl⟩ := len2 hlen
    exact ⟨rfl, rfl⟩
  | 8, _, hsh, hc =>
    have e : ((0 : Int), (0 : Int)) = ((m : Int), (r : Int)) := Option.some.inj hsh
    have em : m = 0 := by have := congrArg Prod.fst e; simp only at this; omega
    have er : r = 0 := by have := congrArg Prod.snd e; simp only at this; omega
    subst em er
    obtain ⟨rfl, rfl⟩ : row = [] ∧ c = [(8 : Int) :: nums] := by
      rcases hc with ⟨_, z⟩ | ⟨z, _⟩
      · exact z
      · exact absurd z (by decide)
    obtain rfl := len0 hlen
    exact ⟨rfl, rfl⟩
  | 9, _, hsh, hc =>
    have e : ((0 : Int), (0 : Int)) = ((m : Int), (r : Int)) := Option.some.inj hsh
    have em : m = 0 := by have := congrArg Prod.fst e; simp only at this; omega
    have er : r = 0 := by have := congrArg Prod.snd e; simp only at this; omega
    subst em er
    obtain ⟨rfl, rfl⟩ : row = [] ∧ c = [(9 : Int) :: nums] := by
      rcases hc with ⟨_, z⟩ | ⟨z, _⟩
      · exact z
      · exact absurd z (by decide)
    obtain rfl := len0 hlen
    exact ⟨rfl, rfl⟩
  | 10, _, hsh, hc =>
    have e : ((0 : Int), (0 : Int)) = ((m : Int), (r : Int)) := Option.some.inj hsh
    have em : m = 0 := by have := congrArg Prod.fst e; simp only at this; omega
    have er : r = 0 := by have := congrArg Prod.snd e; simp only at this; omega
    subst em er
    obtain ⟨rfl, rfl⟩ : row = [] ∧ c = [(10 : Int) :: nums] := by
      rcases hc with ⟨_, z⟩ | ⟨z, _⟩
      · exact z
      · exact absurd z (by decide)
    obtain rfl := len0 hlen
    exact ⟨rfl, rfl⟩
  | 11, _, hsh, hc =>
    have e : ((0 : Int), (0 : Int)) = ((m : Int), (r : Int)) := Option.some.inj hsh
    have em : m = 0 := by have := congrArg Prod.fst e; simp only at this; omega
    have er : r = 0 := by have := congrArg Prod.snd e; simp only at this; omega
    subst em er
    obtain ⟨rfl, rfl⟩ : row = [] ∧ c = [(11 : Int) :: nums] := by
      rcases hc with ⟨_, z⟩ | ⟨z, _⟩
      · exact z
      · exact absurd z (by decide)
    obtain rfl := len0 hlen
    exact ⟨rfl, rfl⟩
theorem calls_next {l : List Int} {p f : Nat} {raw : List (List (List Int))} (hp : p < l.length) (h : PyFlat.calls PyVamvsz.shape f (l.drop p) = some raw) (hb : PyInside.calls PyVamvsz.bound raw = true) :
    ∃ (n : Nat) (nums row : List Int) (q f' : Nat) (c : List (List Int)) (raw' : List (List (List Int))), n < 12 ∧ CAt l p n nums row q ∧ p < q ∧ q ≤ l.length ∧ raw = c :: raw' ∧ PyFlat.calls PyVamvsz.shape f' (l.drop q) = some raw' ∧ PyInside.calls PyVamvsz.bound raw' = true ∧ dshape n nums row ∧ VamvszNeutral.callOf c = some (dcall n nums row) := by
  have e0 := List.drop_eq_getElem_cons hp
  cases f with
  | zero => rw [e0] at h; cases h
  | succ f =>
    have h : (match PyFlat.call PyVamvsz.shape (l.drop p) with
      | none => none
      | some (c, t) => match PyFlat.calls PyVamvsz.shape f t with
        | none => none
        | some cs => some (c :: cs)) = some raw := by
      rw [e0] at h ⊢
      exact h
    cases hc : PyFlat.call PyVamvsz.shape (l.drop p) with
    | none => simp only [hc] at h; cases h
    | some ct =>
      obtain ⟨c, t⟩ := ct
      simp only [hc] at h
      cases hcs : PyFlat.calls PyVamvsz.shape f t with
      | none => simp only [hcs] at h; cases h
      | some cs =>
        simp only [hcs] at h
        cases h
        obtain ⟨n, nums, row, q, hn, hat, hpq, hql, rfl, hct⟩ := flat_call hp hc
        have hb2 : (PyInside.call PyVamvsz.bound c && PyInside.calls PyVamvsz.bound cs) = true := hb
        rw [Bool.and_eq_true] at hb2
        obtain ⟨k1, k2⟩ := told_call hn hct hb2.1
        exact ⟨n, nums, row, q, f, c, cs, hn, hat, hpq, hql, rfl, hcs, hb2.2, k1, k2⟩
theorem calls_end {f : Nat} {raw : List (List (List Int))} (h : PyFlat.calls PyVamvsz.shape f [] = some raw) : raw = [] := by
  cases f <;> cases h <;> rfl
theorem told_cons {o : Vamvsz.Obj} {c : List (List Int)} {raw : List (List (List Int))} {k : Vamvsz.Call} (h : VamvszNeutral.callOf c = some k) : PyFlat.told (PyFlat.played VamvszNeutral.step o (c :: raw)) =
    ((lstA (Vamvsz.step o k).2).length : Int) :: (lstA (Vamvsz.step o k).2 ++ PyFlat.told (PyFlat.played VamvszNeutral.step (Vamvsz.step o k).1 raw)) := by
  have e : VamvszNeutral.step o c = ((Vamvsz.step o k).1, lstA (Vamvsz.step o k).2) := by
    unfold VamvszNeutral.step
    rw [h]
    rfl
  show PyFlat.told ((VamvszNeutral.step o c).2 :: PyFlat.played VamvszNeutral.step (VamvszNeutral.step o c).1 raw) = _
  rw [e]
  unfold PyFlat.told
  rw [List.flatMap_cons]
  rfl
theorem asked_open {l : List Int} (h : PyVamvsz.answers_asked l = true) : ∃ raw, PyFlat.calls PyVamvsz.shape l.length l = some raw ∧ PyInside.calls PyVamvsz.bound raw = true ∧ PyVamvsz.answers l = PyFlat.told (PyFlat.played VamvszNeutral.step none raw) ∧ (PyVamvsz.answers l).length ≤ 10000000 := by
  unfold PyVamvsz.answers_asked at h
  cases hc : PyFlat.calls PyVamvsz.shape l.length l with
  | none => simp only [hc] at h; cases h
  | some raw =>
    simp only [hc, Bool.and_eq_true] at h
    refine ⟨raw, rfl, h.1.1.2, ?_, of_decide_eq_true h.2⟩
    unfold PyVamvsz.answers PyVamvsz.calls
    simp only [hc]
    have : raw.map PyVamvsz.whole = raw := by
      rw [List.map_congr_left fun a _ => whole_id a, List.map_id']
    rw [this]
    rfl
end G5
/-! R18: answers. -/
namespace G5
open PySem PySem.Spec PyProof.Rows L2
variable {T : List NTab} {P : Program} {w : World} {K : PySem.W.Frag} {mg : Str → Option Value} {base : Heap} {c : Cs}
section
variable {X : Cx} {e : Expr} {σ : L2.St} {H : Hp} {D : Ends} {n m n3 n4 : Str} {pos p p1 p2 p3 p4 : Pos} {kk : Nat}
/-- a, b, c, d = a tuple of four -/
theorem ws_asg4 (i j i3 i4 : Nat) (hc : X.calm = true) (hN : X.N.Nodup) (h : We X e σ H fun v H1 => ∃ t v1 v2 v3 v4, v = .ref t ∧ SqT X.K H1 t [v1, v2, v3, v4] ∧ D.nx ((((σ.set i (some v1)).set j (some v2)).set i3 (some v3)).set i4 (some v4)) H1)
    (hi : X.N[i]? = some n := by rfl) (hx : Loc X.env.scope n := by first | exact .inl rfl | exact .inr rfl) (hf : X.fn n = true ∨ X.env.scope.names.lookup n = some .local := by exact .inl rfl)
    (hi2 : X.N[j]? = some m := by rfl) (hx2 : Loc X.env.scope m := by first | exact .inl rfl | exact .inr rfl) (hf2 : X.fn m = true ∨ X.env.scope.names.lookup m = some .local := by exact .inl rfl)
    (hi3 : X.N[i3]? = some n3 := by rfl) (hx3 : Loc X.env.scope n3 := by first | exact .inl rfl | exact .inr rfl) (hf3 : X.fn n3 = true ∨ X.env.scope.names.lookup n3 = some .local := by exact .inl rfl)
    (hi4 : X.N[i4]? = some n4 := by rfl) (hx4 : Loc X.env.scope n4 := by first | exact .inl rfl | exact .inr rfl) (hf4 : X.fn n4 = true ∨ X.env.scope.names.lookup n4 = some .local := by exact .inl rfl)
    (hn : (assignEach [.Name n p1, .Name m p2, .Name n3 p3, .Name n4 p4] X.env).length = 4 := by rfl) (hst : (assignEach [.Name n p1, .Name m p2, .Name n3 p3, .Name n4 p4] X.env).findIdx? (·.1) = none := by rfl)
    (g1 : (assignEach (.Name n p1 :: [.Name m p2, .Name n3 p3, .Name n4 p4]) X.env).map (·.2) = assign (.Name n p1) X.env :: (assignEach [.Name m p2, .Name n3 p3, .Name n4 p4] X.env).map (·.2) := by rfl)
    (g2 : (assignEach (.Name m p2 :: [.Name n3 p3, .Name n4 p4]) X.env).map (·.2) = assign (.Name m p2) X.env :: (assignEach [.Name n3 p3, .Name n4 p4] X.env).map (·.2) := by rfl)
    (g3 : (assignEach (.Name n3 p3 :: [.Name n4 p4]) X.env).map (·.2) = assign (.Name n3 p3) X.env :: (assignEach [.Name n4 p4] X.env).map (·.2) := by rfl)
    (g4 : (assignEach (.Name n4 p4 :: []) X.env).map (·.2) = assign (.Name n4 p4) X.env :: (assignEach [] X.env).map (·.2) := by rfl)
    (hs : swapsWithSole [.Tuple [.Name n p1, .Name m p2, .Name n3 p3, .Name n4 p4] kk p] e pos.line X.env = pure false := by rfl) (hw : swappedStores [.Tuple [.Name n p1, .Name m p2, .Name n3 p3, .Name n4 p4] kk p] e X.env = pure none := by rfl)
    (h1 : (assignEach [.Tuple [.Name n p1, .Name m p2, .Name n3 p3, .Name n4 p4] kk p] X.env).map (·.2) = [assign (.Tuple [.Name n p1, .Name m p2, .Name n3 p3, .Name n4 p4] kk p) X.env] := by rfl) : Ws X (.Assign [.Tuple [.Name n p1, .Name m p2, .Name n3 p3, .Name n4 p4] kk p] e pos) D σ H :=
  Ws.of (ps_asg we (pg_tup hc (pgs_cons (pg_name hN hi hx hf) (pgs_cons (pg_name hN hi2 hx2 hf2) (pgs_cons (pg_name hN hi3 hx3 hf3) (pgs_cons (pg_name hN hi4 hx4 hf4) pgs_nil g4) g3) g2) g1) hn hst) hs hw h1)
    (h.imp fun v H1 ⟨t, v1, v2, v3, v4, e1, e2, q⟩ => ⟨t, [v1, v2, v3, v4], e1, e2, rfl, v1, [v2, v3, v4], rfl, v2, [v3, v4], rfl, v3, [v4], rfl, v4, [], rfl, rfl, q⟩)
end
abbrev s_answers : Stmt := top 116
def Nanswers : List Str := ["calls", "holder", "found", "place", "number", "numbers", "row", "result"]
theorem sc_answers : FnScope Nanswers ["calls"] (defScope s_answers) := ⟨rfl, rfl, rfl, by decide +kernel, rfl, by decide +kernel, by decide +kernel⟩
def SpTop (T : List NTab) (K : PySem.W.Frag) : Sp := fun vs H Q _ => Tb T H ∧ ∃ v1 l, vs = [v1] ∧ RL K RI H v1 l ∧ l.length ≤ 1000000 ∧ PyVamvsz.answers_asked l = true ∧ ∀ v H', RM RI H' v (PyVamvsz.answers l) → Q v H'
theorem ok_answers {f : Addr} {fd : FuncData} (g : Gf K mg c) (MH : MkHold P w K mg base c) (dC : DAt T P w K mg base) (dA : DAns T P w K mg base c) (F : Fun K "answers" "answers" s_answers f fd) : FnOk P w K mg base CX0 11 f fd ["calls"] (SpTop T K) := by
  refine F.ok sc_answers (fun vs H Q E h => by obtain ⟨_, v1, l, rfl, _⟩ := h; rfl) fun cdv A outer s H vs Q E hr h => ⟨_, wb, ?_⟩
  show Wb (C0 P w K mg base Nanswers "answers" s_answers f cdv A outer s H E) (defBody s_answers) { nx := fun _ H' => Q .non H', rt := Q } (start Nanswers vs) H
  obtain ⟨ht, v1, l, rfl, h1, hl, hask, hq⟩ := h
  obtain ⟨raw0, hraw0, hb0, elaw, hshort⟩ := asked_open hask
  refine wb_cons (Ws.of (ps_set sc_answers.nd (i := 1) rfl (.inl rfl) we) ?_)
  refine we_make0 MH hr (by decide) fun x dx G2 fs hx hdx ne ⟨_, l2, hl2, eG, efs⟩ hx2 hdx2 => ?_
  subst eG efs
  have L1 : Lay [(l2, HO.lst [])] H := Lay.nil.fresh (a := l2) (o := .lst []) hl2 mo_lst
  have L2 := L1.fresh (a := dx) (o := .own x) hdx2 mo_own
  have L3 : Lay (Wd.cells c ⟨x, dx, l2, none, []⟩) H := L2.fresh (a := x) (o := .ins c.holder dx [("stock", .non), ("held", .ref l2)]) (by
    show upd (upd H l2 (.lst [])) dx (.own x) x = none
    rw [upd_ne ne.symm]
    exact hx2) mo_ins
  have p0 : WdOk T K c (ov (Wd.cells c ⟨x, dx, l2, none, []⟩) H) H ⟨x, dx, l2, none, []⟩ := ⟨rfl, L3, fun z hz => (nomatch hz), fun z hz => (nomatch hz), Nat.zero_le _⟩
  show Wb _ _ _ _ (ov (Wd.cells c ⟨x, dx, l2, none, []⟩) H)
  refine wb_setN (T := T) (R := RI) (xs := []) 2 (evn_list es_nil) (fun lf H1 vs u1 hf1 ra => ?_) sc_answers.nd
  cases ra
  obtain ⟨G1, p1, x1⟩ := p0.keep u1
  refine wb_cons (Ws.hide hf1 (ws_set (T := T) (R := RI) (x := 0) 3 ev_int (fun v H2 u2 ev hf2 => ?_) sc_answers.nd))
  cases ev
  obtain ⟨G2, p2, x2⟩ := p1.keep u2
  refine wb_while PassesOwn.never (fun M σ' H' => ∃ (p : Nat) (wd : Wd) (H3 G : Hp) (out : List Int) (fu : Nat) (raw : List (List (List Int))) (o4 o5 o6 o7 : Option V), p ≤ l.length ∧ M = l.length - p ∧ σ' = [some v1, some (.ref x), some (.ref lf), some (.int (p : Int)), o4, o5, o6, o7] ∧ wd.h = x ∧ WdOk T K c H3 G wd ∧ Xt T H G ∧ H3 lf = none ∧
    H' = upd H3 lf (.lst (out.map V.int)) ∧ PyFlat.calls PyVamvsz.shape fu (l.drop p) = some raw ∧ PyInside.calls PyVamvsz.bound raw = true ∧ PyVamvsz.answers l = out ++ PyFlat.told (PyFlat.played VamvszNeutral.step wd.obj raw)) l.length
    ⟨0, ⟨x, dx, l2, none, []⟩, H2, G2, [], l.length, raw0, none, none, none, none, Nat.zero_le _, rfl, rfl, rfl, p2, x1.trans x2, hf2, rfl, hraw0, hb0, elaw⟩ fun M σ' H' W => ?_
  obtain ⟨p, wd, H3, G, out, fu, raw, o4, o5, o6, o7, hp, rfl, rfl, hwd, p3, xG, hf3, rfl, hraw, hb, hlaw⟩ := W
  have h1' : RL K RI H3 v1 l := Mono.mono (T := T) (xG.trans p3.xt) h1
  refine Wt.hide hf3 ((EvT.is (et_cmp (T := T) (x := (p : Int)) (y := (l.length : Int)) cmp_lt (vr 3 (R := RI) rfl) (ev_len (R := RI) g.len (vr 0 h1'))) (k' := decide (p < l.length)) (decide_eq_decide.mpr ⟨fun h => by omega, fun h => by omega⟩)).now fun H4 u4 hf4 => ?_)
  obtain ⟨G4, p4, x4⟩ := p3.keep u4
  have xG4 := xG.trans x4
  by_cases hlt : p < l.length
  · rw [if_pos (decide_eq_true hlt)]
    obtain ⟨n, nums, row, q, f', cc, raw', hn, hat, hpq, hql, rfl, hraw', hb', hsh, hcall⟩ := calls_next hlt hraw hb
    rw [told_cons hcall] at hlaw
    obtain ⟨e4, lay4, hcur, hheld, hlen⟩ := p4
    subst e4
    have tG4 : Tb T G4 := xG4.tb ht
    refine wb_cons (Ws.hide hf4 (Ws.hideWd lay4 (ws_asg4 4 5 6 3 rfl sc_answers.nd ?_)))
    refine we_callN dC hr (by decide) (((ea_cons (T := T) (R := RV) (x := v1) (vr 0 rfl) (ea_cons (R := RI) (x := (p : Int)) (vr 3 rfl) ea_nil))) G4 (Xt.refl _) _ fun vs H5 u5 ⟨v, r1, k1, k2, u', r', k3, k4, k5⟩ => ?_)
    subst k1 k3 k5
    cases k2
    cases k4
    refine ⟨u5.tb tG4, v1, l, p, n, nums, row, q, rfl, Mono.mono (T := T) (xG4.trans u5) h1, hl, hat, fun a nv rv H6 u6 hsq hnv hrv => ?_⟩
    refine ⟨a, _, nv, rv, _, rfl, hsq, fun lay6 hf6 => ?_⟩
    have x46 := u5.trans u6
    have p6 : WdOk T K c (ov (wd.cells c) H6) H6 wd := ⟨rfl, lay6, fun z hz => (hcur z hz).mono x46, fun z hz => (hheld z hz).mono x46, hlen⟩
    have t6 : Tb T (ov (wd.cells c) H6) := p6.xt.tb (x46.tb tG4)
    -- result = answer(holder, number, numbers, row)
    refine wb_cons (Ws.hide hf6 (Ws.of (ps_set sc_answers.nd (i := 7) rfl (.inl rfl) we) ?_))
    refine we_callN dA hr (by decide) (((ea_cons (T := T) (R := RV) (x := .ref x) (vr 1 rfl) (ea_cons (R := RI) (x := (n : Int)) (vr 4 rfl) (ea_cons (R := RV) (x := nv) (vr 5 rfl) (ea_cons (R := RV) (x := rv) (vr 6 rfl) ea_nil))))) _ (Xt.refl _) _ fun vs H7 u7 ⟨w1, r1, k1, z1, w2, r2, k2, z2, w3, r3, k3, z3, w4, r4, k4, z4, k5⟩ => ?_)
    subst k1 k2 k3 k4 k5
    cases z1
    cases z2
    cases z3
    cases z4
    obtain ⟨G7, p7, x7⟩ := p6.keep u7
    refine ⟨u7.tb t6, wd, G7, n, nv, rv, nums, row, by rw [hwd], p7, Mono.mono x7 hnv, Mono.mono x7 hrv, hn, hsh, fun vr8 H8 G8 wd8 e8 x8 p8 eo8 r8 hf8 => ?_⟩
    -- found.append(len(result))
    have hsh2 : out.length + (1 + (lstA (Vamvsz.step wd.obj (dcall n nums row)).2).length) ≤ 10000000 := by
      rw [hlaw, List.length_append, List.length_cons, List.length_append] at hshort
      omega
    show Wb (C0 P w K mg base Nanswers "answers" s_answers f cdv A outer s H E) _ _ _ _
    refine wb_expr (X := C0 P w K mg base Nanswers "answers" s_answers f cdv A outer s H E) ?_
    refine we_appendH (T := T) (R := RI) (x := ((lstA (Vamvsz.step wd.obj (dcall n nums row)).2).length : Int)) (fun Q H' q => we_var (i := 2) rfl q) hf8 (ev_len (R := RI) g.len (vr 7 r8.rl)) (by rw [List.length_map]; omega) fun v9 H9 u9 hf9 r9 => ?_
    cases r9
    obtain ⟨G9, p9, x9⟩ := p8.keep u9
    -- found.extend(result)
    refine wb_expr (X := C0 P w K mg base Nanswers "answers" s_answers f cdv A outer s H E) ?_
    refine we_extendH (T := T) (R := RI) (xs := lstA (Vamvsz.step wd.obj (dcall n nums row)).2) (fun Q H' q => we_var (i := 2) rfl q) hf9 (vr 7 (Mono.mono u9 r8)) (by rw [List.length_append, List.length_map, List.length_singleton]; omega) fun us H10 u10 hf10 r10 => ?_
    obtain ⟨G10, p10, x10⟩ := p9.keep u10
    have e10 := all2_ints r10
    subst e10
    refine wb_nil ⟨l.length - q, by omega, q, wd8, H10, G10, out ++ (((lstA (Vamvsz.step wd.obj (dcall n nums row)).2).length : Int) :: lstA (Vamvsz.step wd.obj (dcall n nums row)).2), f', raw', _, _, _, _, hql, rfl, rfl, e8.trans hwd, p10, xG4.trans (x46.trans (x7.trans (x8.trans (x9.trans x10)))), hf10, ?_, hraw', hb', ?_⟩
    · simp
    · rw [hlaw, eo8]
      simp
  · rw [if_neg (by rw [decide_eq_false hlt]; decide)]
    have ep : l.drop p = [] := List.drop_eq_nil_of_le (by omega)
    rw [ep] at hraw
    have er := calls_end hraw
    subst er
    have ea : PyVamvsz.answers l = out := by
      rw [hlaw]
      simp [PyFlat.played, PyFlat.told]
    refine wb_ret (T := T) (R := RM RI) (x := out) (vr 2 ⟨lf, _, rfl, upd_same, ints_all2 out⟩) fun v' H5 u5 r => hq v' H5 (by rw [ea]; exact r)
end G5
/-! E1: the call of the row's def from outside, with the table of one def's code objects. -/
namespace G5
open PySem PySem.Spec PyProof.Rows L2
open PySem.W (WData)
section
variable {P : Program} {w : World} {K : PySem.W.Frag} {mg mb : Str → Option Value} {s : Shared} {Pt cc : Addr}
/-- what the outside leaves to a call: names, tables -/
structure Out (w : World) (K : PySem.W.Frag) (mg mb : Str → Option Value) (s : Shared) (cc Pt : Addr) : Prop where
  kin : K.In s.heap
  ns : s.heap.Ns mainGlobals mg
  bn : s.heap.Ns builtinsNs mb
  bb : ∀ x : Str, x ≠ "__name__" → mb x = bootBuiltins x
  lim : s.heap.NoLimit
  gens : s.gens = #[]
  tab : s.heap.get? Pt = some (PySem.W.tabObj #[])
  notK : K.lookup Pt = none
  code : PySem.W.CodeHd s.heap cc Pt
  bm : ∃ (b : Addr) (ob : Obj), mg "__builtins__" = some (.ref b) ∧ b ≠ builtinsNs ∧ s.heap.get? b = some ob ∧ ob.cls = .type "module" ∧ ob.dict = some builtinsNs ∧ ob.data = .plain
/-- what is tracked: the arguments, the table -/
def outH (K : PySem.W.Frag) (s : Shared) (Pt : Addr) (A : List Addr) : Hp := upd (argH K s.heap A) Pt (.tbl #[])
variable {A : List Addr}
theorem out_tab : outH K s Pt A Pt = some (.tbl #[]) := upd_same
theorem out_off {b : Addr} (h : b ≠ Pt) : outH K s Pt A b = argH K s.heap A b := upd_ne h
theorem Out.argPt (o : Out w K mg mb s cc Pt) (ar : ∀ a ∈ A, ArgOb s.heap A a) : argH K s.heap A Pt = none := by
  cases q : argH K s.heap A Pt with
  | none => rfl
  | some u =>
    exfalso
    have e0 := o.tab
    obtain ⟨_, vs, _, _, z⟩ := argH_is ar q
    have e1 : ∃ c, s.heap.get? Pt = some { cls := .type c, data := .seq vs.toArray } := by
      rcases z with z | z
      · exact ⟨_, z.1⟩
      · exact ⟨_, z.1⟩
    obtain ⟨c1, e1⟩ := e1
    rw [e0] at e1
    have e2 := congrArg Obj.cls (Option.some.inj e1)
    cases e2
theorem Out.hok (o : Out w K mg mb s cc Pt) (ar : ∀ a ∈ A, ArgOb s.heap A a) : HOk P w (outH K s Pt A) s.heap := fun b u e => by
  by_cases hb : b = Pt
  · subst hb
    rw [out_tab] at e
    cases e
    exact o.tab
  · rw [out_off hb] at e
    have up : ∀ {d : Addr} {v : HO}, argH K s.heap A d = some v → outH K s Pt A d = some v := fun {d v} q => (out_off (ne_of_none q (o.argPt ar))).trans q
    exact (argH_ok (P := P) (w := w) ar b u e).stay (fun _ _ _ q => q) (fun _ q => up q) fun _ _ q => up q
/-- what is not a list, a tuple, the table: not tracked -/
theorem Out.free (o : Out w K mg mb s cc Pt) (ar : ∀ a ∈ A, ArgOb s.heap A a) {b : Addr} {ob : Obj} (e : s.heap.get? b = some ob) (h1 : ∀ its n, ob.data ≠ .seq its n) (h2 : ob ≠ PySem.W.tabObj #[]) : outH K s Pt A b = none := by
  have hb : b ≠ Pt := fun z => by
    rw [z, o.tab] at e
    exact h2 (Option.some.inj e).symm
  rw [out_off hb]
  cases q : argH K s.heap A b with
  | none => rfl
  | some u =>
    exfalso
    obtain ⟨_, vs, _, _, z⟩ := argH_is ar q
    rcases z with z | z
    · rw [z.1] at e
      exact h1 _ _ (congrArg Obj.data (Option.some.inj e)).symm
    · rw [z.1] at e
      exact h1 _ _ (congrArg Obj.data (Option.some.inj e)).symm
theorem Out.known (o : Out w K mg mb s cc Pt) (ar : ∀ a ∈ A, ArgOb s.heap A a) {b : Addr} {ob : Obj} (e : K.lookup b = some ob) : outH K s Pt A b = none := by
  have hb : b ≠ Pt := fun z => by rw [z, o.notK] at e; cases e
  rw [out_off hb]
  cases q : argH K s.heap A b with
  | none => rfl
  | some u =>
    have := (argH_is ar q).1
    rw [e] at this
    cases this
abbrev ground (K : PySem.W.Frag) (s : Shared) (Pt : Addr) (A : List Addr) : Heap := hidT s.heap (outH K s Pt A)
theorem Out.nsG (o : Out w K mg mb s cc Pt) (ar : ∀ a ∈ A, ArgOb s.heap A a) {b : Addr} {m : Str → Option Value} (h : s.heap.Ns b m) : (ground K s Pt A).Ns b m := by
  obtain ⟨ob, es, ep, e, d, r⟩ := h
  refine ⟨ob, es, ep, hidT_get e (o.free ar e (fun its n z => ?_) fun z => ?_), d, r⟩
  · rw [d] at z
    cases z
  · rw [z] at d
    cases d
theorem Out.kinG (o : Out w K mg mb s cc Pt) (ar : ∀ a ∈ A, ArgOb s.heap A a) : K.In (ground K s Pt A) := fun b ob e => hidT_get (o.kin b ob e) (o.known ar e)
theorem Out.tabB (o : Out w K mg mb s cc Pt) (ar : ∀ a ∈ A, ArgOb s.heap A a) : LamX.TabB (ground K s Pt A) mg cc Pt := by
  refine ⟨?_, ?_, fun z => ?_⟩
  · obtain ⟨ob, us, f1, t1, f2, t2, f3, t3, t4, e1, r1, r2, r⟩ := o.code
    refine ⟨ob, us, f1, t1, f2, t2, f3, t3, t4, hidT_get e1 (o.free ar e1 (fun its n z => ?_) fun z => ?_), r1, r2, r⟩
    · rw [r2] at z
      cases z
    · rw [z] at r1
      cases r1
  · obtain ⟨bm, ob, b1, b2, b3, b4, b5, b6⟩ := o.bm
    refine ⟨bm, ob, b1, b2, fun z => ?_, fun z => ?_, hidT_get b3 (o.free ar b3 (fun its n z => ?_) fun z => ?_), b4, b5, b6⟩
    · obtain ⟨od, es, ep, e, d, _⟩ := o.ns
      rw [← z, b3] at e
      cases e
      rw [b6] at d
      cases d
    · have e := o.tab
      rw [← z, b3] at e
      rw [Option.some.inj e] at b4
      cases b4
    · rw [b6] at z
      cases z
    · rw [z] at b4
      cases b4
  · obtain ⟨od, es, ep, e, d, _⟩ := o.ns
    rw [z, o.tab] at e
    cases e
    cases d
theorem Out.env0 (o : Out w K mg mb s cc Pt) (ar : ∀ a ∈ A, ArgOb s.heap A a) : Env0 P w K mg (ground K s Pt A) callerA [] s (outH K s Pt A) := by
  have hm : L2.Mod K mg (ground K s Pt A) := by
    obtain ⟨mc, q1, q2⟩ := o.lim
    exact ⟨o.kinG ar, o.nsG ar o.ns, ⟨mb, o.nsG ar o.bn, o.bb⟩, mc, o.nsG ar q1, q2⟩
  exact ⟨rfl, hm, fun b ob e => of_hidT e, Nat.le_of_eq (hidT_size _ _), trivial, fun b hb => absurd (show b ∈ ([] : List Addr) from hb) (by simp), o.hok ar, .of_eq o.gens⟩
/-- the call, told as data -/
theorem Out.call {k : Nat} {fa : Addr} {fd : FuncData} {x : Str} {sp : Sp} {vals : List Value} {ns out : List Int} {R : PySem.W.WRecords} {cl : Str → Option Addr} (o : Out w K mg mb s cc Pt)
    (hwl : PySem.W.WellAll w.params s.heap vals [WData.list (ns.map WData.int)]) (hwt : (WData.list (ns.map WData.int)).weight ≤ 1048576) (hr : Room k callerA)
    (hF : ∀ base : Heap, K.In base → base.Ns mainGlobals mg → LamX.TabB base mg cc Pt → FnOk P w K mg base CX0 k fa fd [x] sp)
    (hbind : ∀ (s' : Shared) (us : List Value), us.length = 1 → BindsTo s' fd ⟨us, []⟩ (([x] : List Str).zip us))
    (hsp : ∀ (H : Hp) (a : Addr), H Pt = some (.tbl #[]) → SqL K H a (ns.map V.int) → sp [.ref a] H (fun v H' => RM RI H' v out) fun _ _ _ => False) :
    codeAny (model P w) callerA (.call (.ref fa) ⟨vals, []⟩) (fun r s' => ∃ u as, r = .ok (.ret u) ∧ PySem.W.ReadsW R cl s'.heap u (WData.list (out.map WData.int)) as ∧ OldK s.heap s'.heap ∧ s'.os = s.os ∧ AllBare s'.gens) s := by
  have hpl : plWs [WData.list (ns.map WData.int)] = true := by
    show (plWs (ns.map WData.int) && true) = true
    rw [plWs_map fun _ => rfl]
    rfl
  obtain ⟨A, ho, ar⟩ := area_all _ vals hwl hpl fun d hd => by
    rw [List.mem_singleton.mp hd]
    exact hwt
  have nP := o.argPt ar
  have tell : ∀ {xs : List V}, DwAll K (argH K s.heap A) xs [WData.list (ns.map WData.int)] → ∃ a, xs = [V.ref a] ∧ SqL K (outH K s Pt A) a (ns.map V.int) := fun {xs} h => by
    cases h with
    | cons h1 h2 =>
      cases h2
      cases h1 with
      | lst hs ha =>
        rw [ints_dw ns _ ha] at hs
        exact ⟨_, rfl, (Xt.new (T := []) nP).seqL hs⟩
  obtain ⟨a, exs, hS⟩ := tell (dw_all o.kin ar _ vals hwl hpl ho)
  have hlen : vals.length = 1 := wellAll_len hwl
  have run := (hF _ (o.kinG ar) (o.nsG ar o.ns) (o.tabB ar)).run callerA [] s (outH K s Pt A) ⟨vals, []⟩ vals (vals.map toV) _ _ hr (o.env0 ar) (hbind s vals hlen) (vals_toV ho) (by rw [exs]; exact hsp _ a out_tab hS)
  refine codeAny_mono run fun r s' hq => ?_
  cases r with
  | error e => exact False.elim hq
  | ok fl =>
    cases fl with
    | next => exact False.elim hq
    | brk => exact False.elim hq
    | cont => exact False.elim hq
    | ret u =>
      obtain ⟨v, H', os, bare, un, hok', rv, q⟩ := hq
      have keep : ∀ b ob, b ≠ Pt → s.heap.get? b = some ob → s'.heap.get? b = some ob := fun b ob nb e => by
        cases q2 : outH K s Pt A b with
        | none => exact un.keep b ob e q2 (fun z => absurd (show b ∈ ([] : List Addr) from z) (by simp)) (by simp)
        | some u2 =>
          rw [out_off nb] at q2
          rcases argH_only ar b with z | ⟨ob2, u3, z⟩
          · rw [q2] at z
            cases z
          · have z1 : outH K s Pt A b = some (.frz ob2 u3) := (out_off nb).trans z
            have k1 := (o.hok (P := P) ar b _ z1).1
            have k2 := (hok' b _ (un.frzs b ob2 _ z1)).1
            rw [e] at k1
            cases k1
            exact k2
      have hKin : K.In s'.heap := fun b ob e => keep b ob (fun z => by rw [z, o.notK] at e; cases e) (o.kin b ob e)
      obtain ⟨more, hmore⟩ := un.tbls Pt #[] out_tab
      have htab : s'.heap.get? Pt = some (PySem.W.tabObj (#[] ++ more)) := hok' Pt _ hmore
      obtain ⟨l, us, rfl, hl, hus⟩ := (show RM RI H' v out from q)
      rw [all2_ints hus] at hl
      obtain ⟨as, hrd⟩ := Dw.reads (R := R) (cl := cl) hok' hKin (WData.list (out.map WData.int)) _ u (.lst (SqL.of hl) (dw_ints out)) rv
      refine ⟨u, as, rfl, hrd, ⟨fun b ob e => ?_, fun b ob e => ?_⟩, os, bare⟩
      · by_cases hb : b = Pt
        · subst hb
          rw [o.tab] at e
          cases e
          exact .inr (.inl ⟨(o.code.tab o.tab).isCodeTable, rfl, #[], more, rfl, htab⟩)
        · exact .inl (keep b ob hb e)
      · by_cases hb : b = Pt
        · subst hb
          exact ⟨_, htab⟩
        · exact ⟨ob, keep b ob hb e⟩
end
abbrev row : PySem.W.OpenSpec := PySem.Challenge.rw_readyanswers_s01_answers
/-- the one table: of readable's lambda -/
def lamTab (Pt : Addr) : List NTab := [(Pt, fun _ _ => ("readable.<locals>.<lambda>" : Str))]
/-- the goal of the head, from the promise of the row's def -/
theorem walk_tab {k : Nat} {q : Program} {loose : List Str} {XP : (Str → Option Value) → Heap → Prop} {YP : World → Heap → Prop} {d : DefRec} {K : Params → PySem.W.Frag} {x : Str} (hwell : row.wellSaid = true) (hr : Room k callerA) (hY : ∀ (w : World) (h : Heap), YP w h → (K w.params).In h)
    (F : ∀ (w : World) (mg : Str → Option Value) (fa : Addr) (h : Heap), YP w h → (K w.params).In h → h.Ns mainGlobals mg → mg d.name = some (.ref fa) →
      (∀ (y : Str) (c1 P1 : Addr), ((PyProof.Rows.recsOf q).find? (fun e => e.name == y)).isSome = true → PySem.W.tabIn (K w.params) y = some (c1, P1) → PySem.W.CodeHd h c1 P1 ∧ h.get? P1 = some (PySem.W.tabObj #[])) →
      ∃ (fd : FuncData) (cc Pt : Addr), h.get? Pt = some (PySem.W.tabObj #[]) ∧ (K w.params).lookup Pt = none ∧ PySem.W.CodeHd h cc Pt ∧ (∀ (s' : Shared) (us : List Value), us.length = 1 → BindsTo s' fd ⟨us, []⟩ (([x] : List Str).zip us)) ∧
        ∀ base : Heap, (K w.params).In base → base.Ns mainGlobals mg → LamX.TabB base mg cc Pt → FnOk row.prog w (K w.params) mg base CX0 k fa fd [x] (SpTop (lamTab Pt) (K w.params))) :
    PySem.W.WalkOS q loose XP YP row d [] (fun f vs => PySem.call f vs) := by
  intro w s₀ s₁ mg mb G Y fa o pm cd doc dV kV ho hd hcd hD hmg hg args vals as hpre hlay hrd hwl hlo
  obtain ⟨a, e1, e2⟩ := PySem.W.os_pre_some hpre
  obtain ⟨e3, hwi⟩ := PySem.W.Codec.encAll_of_decAll row.args args a e1
  subst e3
  obtain ⟨fd, cc, Pt, t1, t2, t3, hb, hF⟩ := F w mg fa _ Y (hY w _ Y) G.T.g hmg fun y c1 P1 hs ht => by
    obtain ⟨e, he⟩ := Option.isSome_iff_exists.mp hs
    exact PySem.W.tab_of G.T (hY w _ Y) he ht
  have hout : Out w (K w.params) mg mb s₁ cc Pt := ⟨hY w _ Y, G.T.g, G.T.b, G.T.builtins, G.T.nolimit, hg, t1, t2, t3, G.T.bmain⟩
  have hlen : a.1.length ≤ 17000 := by
    have h1 : ((PySem.W.Codec.inLen 0 17000 a.1 && a.1.all (PySem.W.Codec.inInt (-1000000000000000000) 1000000000000000000)) && true) = true := hwi
    rw [Bool.and_eq_true, Bool.and_eq_true] at h1
    exact (PySem.W.Codec.inNat_iff.mp h1.1.1).2
  have hask : PyVamvsz.answers_asked a.1 = true := e2
  have hw : (WData.list (a.1.map WData.int)).weight ≤ 1048576 := layable_weight hlay _ (List.mem_cons_self ..)
  refine PySem.W.enter_call (codeAny_mono (hout.call (R := []) (cl := classAt s₀.heap) (ns := a.1) (out := PyVamvsz.answers a.1) hwl hw hr hF hb fun H p hp hs => ?_) fun r' s' hq => ?_)
  · refine ⟨fun t ht => ?_, .ref p, a.1, rfl, ⟨p, _, rfl, hs, ints_all2 a.1⟩, by omega, hask, fun v H' r => r⟩
    rw [List.mem_singleton.mp ht]
    exact NdefX.TabN.nil hp
  · obtain ⟨u, as', rfl, h1, h2, h3, h4⟩ := hq
    exact ⟨.inl ⟨u, _, as', rfl, fun _ => rfl, h1, (PySem.W.OpenSpec.post_iff hwell hwi _ _).mpr rfl, fun z => Bool.noConfusion (show false = true from z)⟩, h2, h3, h4⟩
end G5
/-! Z1: all defs as the top leaves them; the row's def from them. -/
namespace G5
open PySem PySem.Spec PyProof.Rows L2
/-- a def that the top leaves under its name -/
def TopDef (K : PySem.W.Frag) (mg : Str → Option Value) (n : Str) (st : Stmt) (ps : List Str) : Prop := ∃ f fd, Fun K n n st f fd ∧ mg n = some (.ref f) ∧ Binds K fd ps []
/-- the __init__ of a class; of an exception's class -/
def TopIni (K : PySem.W.Frag) (q : Str) (st : Stmt) (ps : List Str) (C : Addr) : Prop := ∃ f fd, Fun K "__init__" q st f fd ∧ Mk K C f ∧ Binds K fd ps []
def TopExc (K : PySem.W.Frag) (q : Str) (st : Stmt) (ps : List Str) (C : Addr) : Prop := ∃ f fd, Fun K "__init__" q st f fd ∧ PySem.W.findIn K (.ref C) "__init__" = some (some (.ref f)) ∧ PySem.W.typeIn K (.ref f) = some (.type "function") ∧ Binds K fd ps []
/-- readable, its code object -/
def TopLam (K : PySem.W.Frag) (mg : Str → Option Value) (cc : Addr) : Prop := ∃ f fd, Fun K "readable" "readable" s_readable f fd ∧ mg "readable" = some (.ref f) ∧ Binds K fd ["sizes", "grouping"] [] ∧ fd.code = .ref cc
structure Tops (K : PySem.W.Frag) (mg : Str → Option Value) (c : Cs) (cc : Addr) : Prop where
  m_best : TopIni K "Best.__init__" s_bestinit ["self", "paid", "lines", "number"] c.best
  m_fault : TopExc K "Fault.__init__" s_faultinit Nfaultinit c.fault
  m_tok : TopIni K "Token.__init__" s_tokinit Ntokinit c.token
  m_rd : TopIni K "Reader.__init__" s_rdinit Nrdinit c.reader
  m_tab : TopIni K "Table.__init__" s_tabinit ["self"] c.table
  m_refused : TopExc K "Refused.__init__" s_refinit Nrefinit c.refused
  m_stk : TopIni K "Stock.__init__" s_stkinit ["self", "table"] c.stock
  m_hold : TopIni K "Holder.__init__" s_holdinit ["self"] c.holder
  d_count : TopDef K mg "grouping_count" s_count ["table"]
  d_group : TopDef K mg "group_of" s_group ["line", "grouping"]
  d_size : TopDef K mg "size_of" s_size ["table", "grouping"]
  d_sizes : TopDef K mg "all_sizes" s_sizes ["table"]
  d_readby : TopDef K mg "read_by" s_readby ["sizes", "kept", "grouping"]
  d_cost : TopDef K mg "cost_of" s_cost ["table", "sizes", "kept", "grouping"]
  d_costs : TopDef K mg "all_costs" s_costs ["table", "sizes", "kept"]
  d_linesof : TopDef K mg "lines_of" s_linesof ["sizes", "kept"]
  d_paid : TopDef K mg "paid_for" s_paid ["stock", "sizes", "kept"]
  d_worth : TopDef K mg "worth_of" s_worth ["stock", "sizes", "grouping"]
  d_idle : TopDef K mg "idle_ones" s_idle ["stock", "sizes"]
  d_linesby : TopDef K mg "lines_by_sets" s_linesby ["sizes"]
  d_setcosts : TopDef K mg "set_costs" s_setcosts ["rows", "many", "number"]
  d_countsby : TopDef K mg "counts_by_sets" s_countsby ["sizes"]
  d_members : TopDef K mg "members_of" s_members ["number"]
  d_together : TopDef K mg "together" s_together ["questions"]
  d_reading : TopDef K mg "reading_rows" s_reading ["stock", "sizes"]
  d_bestset : TopDef K mg "best_set" s_bestset ["stock", "sizes"]
  d_codes : TopDef K mg "codes" s_codes ["word"]
  d_letter : TopDef K mg "is_letter" s_letter ["byte"]
  d_digit : TopDef K mg "is_digit" s_digit ["byte"]
  d_begin : TopDef K mg "begin_of" s_begin ["text", "at"]
  d_wordof : TopDef K mg "word_of" s_wordof ["told"]
  d_nameat : TopDef K mg "name_at" s_nameat ["text", "at"]
  d_numat : TopDef K mg "number_at" s_numat ["text", "at"]
  d_tokat : TopDef K mg "token_at" s_tokat ["text", "at"]
  d_tokensof : TopDef K mg "tokens_of" s_tokensof ["text"]
  d_here : TopDef K mg "here" s_here ["reader"]
  d_ishere : TopDef K mg "is_here" s_ishere ["reader", "what"]
  d_need : TopDef K mg "need" s_need Nneed
  d_take : TopDef K mg "take" s_take ["reader", "what"]
  d_takeif : TopDef K mg "take_if" s_takeif ["reader", "what"]
  d_taken : TopDef K mg "take_number" s_taken Ntaken
  d_cols : TopDef K mg "take_columns" s_cols Ncols
  d_row : TopDef K mg "take_row" s_row ["reader", "table"]
  d_grp : TopDef K mg "take_grouping" s_grp ["reader", "table"]
  d_que : TopDef K mg "take_question" s_que ["reader", "table"]
  d_read : TopDef K mg "read_table" s_read ["text"]
  d_numb : TopDef K mg "number_bytes" s_numb ["number"]
  d_listed : TopDef K mg "listed" s_listed ["words"]
  d_rowb : TopDef K mg "row_bytes" s_rowb ["line"]
  d_queb : TopDef K mg "question_bytes" s_queb ["table", "question"]
  d_text : TopDef K mg "table_text" s_text ["table"]
  d_askso : TopDef K mg "ask_so" s_askso ["holds", "number"]
  d_told : TopDef K mg "state_told" s_told ["stock"]
  d_keptt : TopDef K mg "kept_told" s_keptt ["stock", "sizes"]
  d_quest : TopDef K mg "questions_told" s_quest ["stock", "sizes"]
  d_copied : TopDef K mg "copied" s_copied ["stock"]
  d_changed : TopDef K mg "changed" s_changed ["holder"]
  d_askq : TopDef K mg "ask_question" s_askq ["holder", "number"]
  d_askg : TopDef K mg "ask_grouping" s_askg ["holder", "number"]
  d_times : TopDef K mg "times" s_times ["holder", "numbers", "row"]
  d_ask : TopDef K mg "ask" s_ask ["holder", "numbers", "row"]
  d_drop : TopDef K mg "drop" s_drop ["holder", "numbers", "row"]
  d_terms : TopDef K mg "terms" s_terms ["holder", "numbers", "row"]
  d_addrow : TopDef K mg "add_row" s_addrow ["holder", "numbers", "row"]
  d_shown : TopDef K mg "shown" s_shown ["holder", "numbers", "row"]
  d_report : TopDef K mg "report" s_report ["holder", "numbers", "row"]
  d_advise : TopDef K mg "advise" s_advise ["holder", "numbers", "row"]
  d_takeb : TopDef K mg "take_best" s_takeb ["holder", "numbers", "row"]
  d_keep : TopDef K mg "keep" s_keep ["holder", "numbers", "row"]
  d_undo : TopDef K mg "undo" s_undo ["holder", "numbers", "row"]
  d_load : TopDef K mg "load" s_load ["holder", "numbers", "row"]
  d_answer : TopDef K mg "answer" s_answer ["holder", "number", "numbers", "row"]
  d_callat : TopDef K mg "call_at" s_callat ["calls", "place"]
  d_readable : TopLam K mg cc
theorem all_top {P : Program} {w : World} {K : PySem.W.Frag} {mg : Str → Option Value} {base : Heap} {c : Cs} {cc Pt fa : Addr} {fa' : FuncData} (g : Gf K mg c) (A : Tops K mg c cc) (TB : LamX.TabB base mg cc Pt) (F0 : Fun K "answers" "answers" s_answers fa fa') : FnOk P w K mg base CX0 11 fa fa' ["calls"] (SpTop (lamTab Pt) K) := by
  obtain ⟨f, fd, F, M, b⟩ := A.m_best
  have m_best := mk_best (T := lamTab Pt) (P := P) (w := w) (mg := mg) (base := base) g F M b
  obtain ⟨f, fd, F, i1, i2, b⟩ := A.m_fault
  have m_fault := mk_fault (P := P) (w := w) (mg := mg) (base := base) g F i1 i2 b
  obtain ⟨f, fd, F, M, b⟩ := A.m_tok
  have m_tok := mk_tok (T := lamTab Pt) (P := P) (w := w) (mg := mg) (base := base) g F M b
  obtain ⟨f, fd, F, M, b⟩ := A.m_rd
  have m_rd := mk_rd (T := lamTab Pt) (P := P) (w := w) (mg := mg) (base := base) g F M b
  obtain ⟨f, fd, F, M, b⟩ := A.m_tab
  have m_tab := mk_tab (P := P) (w := w) (mg := mg) (base := base) g F M b
  obtain ⟨f, fd, F, i1, i2, b⟩ := A.m_refused
  have m_refused := mk_refused (P := P) (w := w) (mg := mg) (base := base) g F i1 i2 b
  obtain ⟨f, fd, F, M, b⟩ := A.m_stk
  have m_stk := mk_stk (P := P) (w := w) (mg := mg) (base := base) g F M b
  obtain ⟨f, fd, F, M, b⟩ := A.m_hold
  have m_hold := mk_hold (P := P) (w := w) (mg := mg) (base := base) g F M b
  obtain ⟨f, fd, F, hm, b⟩ := A.d_count
  have d_count := ok_count (T := lamTab Pt) (P := P) (w := w) (base := base) g  F hm b
  obtain ⟨f, fd, F, hm, b⟩ := A.d_group
  have d_group := ok_group (T := lamTab Pt) (P := P) (w := w) (base := base) g  F hm b
  obtain ⟨f, fd, F, hm, b⟩ := A.d_size
  have d_size := ok_size (T := lamTab Pt) (P := P) (w := w) (base := base) g d_group F hm b
  obtain ⟨f, fd, F, hm, b⟩ := A.d_sizes
  have d_sizes := ok_sizes (T := lamTab Pt) (P := P) (w := w) (base := base) g d_count d_size F hm b
  obtain ⟨f, fd, F, hm, b, hc⟩ := A.d_readable
  have d_readable := ok_readable (T := lamTab Pt) (P := P) (w := w) (base := base) g F hm b ⟨cc, Pt, _, hc, TB, List.mem_singleton.mpr rfl, rfl, fun p hp _ => by rw [List.mem_singleton.mp hp]⟩
  obtain ⟨f, fd, F, hm, b⟩ := A.d_readby
  have d_readby := ok_readby (T := lamTab Pt) (P := P) (w := w) (base := base) g d_readable F hm b
  obtain ⟨f, fd, F, hm, b⟩ := A.d_cost
  have d_cost := ok_cost (T := lamTab Pt) (P := P) (w := w) (base := base) g d_readby F hm b
  obtain ⟨f, fd, F, hm, b⟩ := A.d_costs
  have d_costs := ok_costs (T := lamTab Pt) (P := P) (w := w) (base := base) g d_cost F hm b
  obtain ⟨f, fd, F, hm, b⟩ := A.d_linesof
  have d_linesof := ok_linesof (T := lamTab Pt) (P := P) (w := w) (base := base) g  F hm b
  obtain ⟨f, fd, F, hm, b⟩ := A.d_paid
  have d_paid := ok_paid (T := lamTab Pt) (P := P) (w := w) (base := base) g d_costs F hm b
  obtain ⟨f, fd, F, hm, b⟩ := A.d_worth
  have d_worth := ok_worth (T := lamTab Pt) (P := P) (w := w) (base := base) g d_costs F hm b
  obtain ⟨f, fd, F, hm, b⟩ := A.d_idle
  have d_idle := ok_idle (T := lamTab Pt) (P := P) (w := w) (base := base) g d_worth F hm b
  obtain ⟨f, fd, F, hm, b⟩ := A.d_linesby
  have d_linesby := ok_linesby (T := lamTab Pt) (P := P) (w := w) (base := base) g  F hm b
  obtain ⟨f, fd, F, hm, b⟩ := A.d_setcosts
  have d_setcosts := ok_setcosts (T := lamTab Pt) (P := P) (w := w) (base := base) g  F hm b
  obtain ⟨f, fd, F, hm, b⟩ := A.d_countsby
  have d_countsby := ok_countsby (T := lamTab Pt) (P := P) (w := w) (base := base) g d_linesby F hm b
  obtain ⟨f, fd, F, hm, b⟩ := A.d_members
  have d_members := ok_members (T := lamTab Pt) (P := P) (w := w) (base := base) g  F hm b
  obtain ⟨f, fd, F, hm, b⟩ := A.d_together
  have d_together := ok_together (T := lamTab Pt) (P := P) (w := w) (base := base) g  F hm b
  obtain ⟨f, fd, F, hm, b⟩ := A.d_reading
  have d_reading := ok_reading (T := lamTab Pt) (P := P) (w := w) (base := base) g d_readable d_together F hm b
  obtain ⟨f, fd, F, hm, b⟩ := A.d_bestset
  have d_bestset := ok_bestset (T := lamTab Pt) (P := P) (w := w) (base := base) g d_linesby d_countsby d_reading d_setcosts m_best F hm b
  obtain ⟨f, fd, F, hm, b⟩ := A.d_codes
  have d_codes := ok_codes (T := lamTab Pt) (P := P) (w := w) (base := base) g  F hm b
  obtain ⟨f, fd, F, hm, b⟩ := A.d_letter
  have d_letter := ok_letter (T := lamTab Pt) (P := P) (w := w) (base := base) g  F hm b
  obtain ⟨f, fd, F, hm, b⟩ := A.d_digit
  have d_digit := ok_digit (T := lamTab Pt) (P := P) (w := w) (base := base) g  F hm b
  obtain ⟨f, fd, F, hm, b⟩ := A.d_begin
  have d_begin := ok_begin (T := lamTab Pt) (P := P) (w := w) (base := base) g  F hm b
  obtain ⟨f, fd, F, hm, b⟩ := A.d_wordof
  have d_wordof := ok_wordof (T := lamTab Pt) (P := P) (w := w) (base := base) g d_codes F hm b
  obtain ⟨f, fd, F, hm, b⟩ := A.d_nameat
  have d_nameat := ok_nameat (T := lamTab Pt) (P := P) (w := w) (base := base) g d_letter d_digit d_wordof m_fault m_tok F hm b
  obtain ⟨f, fd, F, hm, b⟩ := A.d_numat
  have d_numat := ok_numat (T := lamTab Pt) (P := P) (w := w) (base := base) g d_digit m_fault m_tok F hm b
  obtain ⟨f, fd, F, hm, b⟩ := A.d_tokat
  have d_tokat := ok_tokat (T := lamTab Pt) (P := P) (w := w) (base := base) g d_letter d_digit d_nameat d_numat m_fault m_tok F hm b
  obtain ⟨f, fd, F, hm, b⟩ := A.d_tokensof
  have d_tokensof := ok_tokensof (T := lamTab Pt) (P := P) (w := w) (base := base) g d_begin d_tokat m_fault m_tok F hm b
  obtain ⟨f, fd, F, hm, b⟩ := A.d_here
  have d_here := ok_here (T := lamTab Pt) (P := P) (w := w) (base := base) g  F hm b
  obtain ⟨f, fd, F, hm, b⟩ := A.d_ishere
  have d_ishere := ok_ishere (T := lamTab Pt) (P := P) (w := w) (base := base) g d_here F hm b
  obtain ⟨f, fd, F, hm, b⟩ := A.d_need
  have d_need := ok_need (T := lamTab Pt) (P := P) (w := w) (base := base) g d_here m_fault F hm b
  obtain ⟨f, fd, F, hm, b⟩ := A.d_take
  have d_take := ok_take (T := lamTab Pt) (P := P) (w := w) (base := base) g d_ishere d_need F hm b
  obtain ⟨f, fd, F, hm, b⟩ := A.d_takeif
  have d_takeif := ok_takeif (T := lamTab Pt) (P := P) (w := w) (base := base) g d_ishere F hm b
  obtain ⟨f, fd, F, hm, b⟩ := A.d_taken
  have d_taken := ok_taken (T := lamTab Pt) (P := P) (w := w) (base := base) g d_here d_ishere d_need d_take F hm b
  obtain ⟨f, fd, F, hm, b⟩ := A.d_cols
  have d_cols := ok_cols (T := lamTab Pt) (P := P) (w := w) (base := base) g d_here d_ishere d_need d_take d_takeif F hm b
  obtain ⟨f, fd, F, hm, b⟩ := A.d_row
  have d_row := ok_row (T := lamTab Pt) (P := P) (w := w) (base := base) g d_need d_take d_takeif d_taken F hm b
  obtain ⟨f, fd, F, hm, b⟩ := A.d_grp
  have d_grp := ok_grp (T := lamTab Pt) (P := P) (w := w) (base := base) g d_here d_ishere d_need d_take d_takeif F hm b
  obtain ⟨f, fd, F, hm, b⟩ := A.d_que
  have d_que := ok_que (T := lamTab Pt) (P := P) (w := w) (base := base) g d_need d_take d_takeif d_taken d_grp F hm b
  obtain ⟨f, fd, F, hm, b⟩ := A.d_read
  have d_read := ok_read (T := lamTab Pt) (P := P) (w := w) (base := base) g d_tokensof m_rd m_tab d_ishere d_need d_cols d_row d_que F hm b
  obtain ⟨f, fd, F, hm, b⟩ := A.d_numb
  have d_numb := ok_numb (T := lamTab Pt) (P := P) (w := w) (base := base) g d_codes F hm b
  obtain ⟨f, fd, F, hm, b⟩ := A.d_listed
  have d_listed := ok_listed (T := lamTab Pt) (P := P) (w := w) (base := base) g d_codes F hm b
  obtain ⟨f, fd, F, hm, b⟩ := A.d_rowb
  have d_rowb := ok_rowb (T := lamTab Pt) (P := P) (w := w) (base := base) g d_codes d_numb d_listed F hm b
  obtain ⟨f, fd, F, hm, b⟩ := A.d_queb
  have d_queb := ok_queb (T := lamTab Pt) (P := P) (w := w) (base := base) g d_codes d_numb d_listed F hm b
  obtain ⟨f, fd, F, hm, b⟩ := A.d_text
  have d_text := ok_text (T := lamTab Pt) (P := P) (w := w) (base := base) g d_codes d_listed d_rowb d_queb F hm b
  obtain ⟨f, fd, F, hm, b⟩ := A.d_askso
  have d_askso := ok_askso (T := lamTab Pt) (P := P) (w := w) (base := base) g m_refused F hm b
  obtain ⟨f, fd, F, hm, b⟩ := A.d_told
  have d_told := ok_told (T := lamTab Pt) (P := P) (w := w) (base := base) g d_sizes d_paid d_linesof F hm b
  obtain ⟨f, fd, F, hm, b⟩ := A.d_keptt
  have d_keptt := ok_keptt (T := lamTab Pt) (P := P) (w := w) (base := base) g d_readby d_worth F hm b
  obtain ⟨f, fd, F, hm, b⟩ := A.d_quest
  have d_quest := ok_quest (T := lamTab Pt) (P := P) (w := w) (base := base) g d_readby d_cost F hm b
  obtain ⟨f, fd, F, hm, b⟩ := A.d_copied
  have d_copied := ok_copied (T := lamTab Pt) (P := P) (w := w) (base := base) g m_tab m_stk F hm b
  obtain ⟨f, fd, F, hm, b⟩ := A.d_changed
  have d_changed := ok_changed (T := lamTab Pt) (P := P) (w := w) (base := base) g d_copied F hm b
  obtain ⟨f, fd, F, hm, b⟩ := A.d_askq
  have d_askq := ok_askq (T := lamTab Pt) (P := P) (w := w) (base := base) g d_askso F hm b
  obtain ⟨f, fd, F, hm, b⟩ := A.d_askg
  have d_askg := ok_askg (T := lamTab Pt) (P := P) (w := w) (base := base) g d_count d_askso F hm b
  obtain ⟨f, fd, F, hm, b⟩ := A.d_times
  have d_times := ok_times (T := lamTab Pt) (P := P) (w := w) (base := base) g d_askq d_askso d_changed d_told F hm b
  obtain ⟨f, fd, F, hm, b⟩ := A.d_ask
  have d_ask := ok_ask (T := lamTab Pt) (P := P) (w := w) (base := base) g d_askg d_askso d_changed d_told F hm b
  obtain ⟨f, fd, F, hm, b⟩ := A.d_drop
  have d_drop := ok_drop (T := lamTab Pt) (P := P) (w := w) (base := base) g d_askq d_changed d_told F hm b
  obtain ⟨f, fd, F, hm, b⟩ := A.d_terms
  have d_terms := ok_terms (T := lamTab Pt) (P := P) (w := w) (base := base) g d_askso d_changed d_told F hm b
  obtain ⟨f, fd, F, hm, b⟩ := A.d_addrow
  have d_addrow := ok_addrow (T := lamTab Pt) (P := P) (w := w) (base := base) g d_askso d_changed d_told F hm b
  obtain ⟨f, fd, F, hm, b⟩ := A.d_shown
  have d_shown := ok_shown (T := lamTab Pt) (P := P) (w := w) (base := base) g d_text F hm b
  obtain ⟨f, fd, F, hm, b⟩ := A.d_report
  have d_report := ok_report (T := lamTab Pt) (P := P) (w := w) (base := base) g d_sizes d_idle d_paid d_costs d_linesof d_keptt d_quest F hm b
  obtain ⟨f, fd, F, hm, b⟩ := A.d_advise
  have d_advise := ok_advise (T := lamTab Pt) (P := P) (w := w) (base := base) g d_sizes d_bestset d_members d_paid d_linesof F hm b
  obtain ⟨f, fd, F, hm, b⟩ := A.d_members
  have d_membersN := ok_membersN (T := lamTab Pt) (P := P) (w := w) (base := base) F hm b
  obtain ⟨f, fd, F, hm, b⟩ := A.d_takeb
  have d_takeb := ok_takeb (T := lamTab Pt) (P := P) (w := w) (base := base) g d_sizes d_bestset d_membersN d_changed d_told F hm b
  obtain ⟨f, fd, F, hm, b⟩ := A.d_keep
  have d_keep := ok_keep (T := lamTab Pt) (P := P) (w := w) (base := base) g d_askg d_askso d_changed d_told F hm b
  obtain ⟨f, fd, F, hm, b⟩ := A.d_undo
  have d_undo := ok_undo (T := lamTab Pt) (P := P) (w := w) (base := base) g d_askso d_told F hm b
  obtain ⟨f, fd, F, hm, b⟩ := A.d_load
  have d_load := ok_load (T := lamTab Pt) (P := P) (w := w) (base := base) g m_stk d_read F hm b
  have DD : Deeds (lamTab Pt) P w K mg base c := deeds_of d_load d_shown d_times d_ask d_drop d_addrow d_keep d_terms d_report d_advise d_takeb d_undo
  obtain ⟨f, fd, F, hm, b⟩ := A.d_answer
  have d_answer := ok_answer (T := lamTab Pt) (P := P) (w := w) (base := base) g d_askso DD F hm b
  obtain ⟨f, fd, F, hm, b⟩ := A.d_callat
  have d_callat := ok_callat (T := lamTab Pt) (P := P) (w := w) (base := base) g  F hm b
  exact ok_answers (T := lamTab Pt) g m_hold d_callat d_answer F0
end G5
/-! Z2: from what the written part says to what the texts ask of the top. -/
namespace G5
open PySem PySem.Spec PyProof.Rows L2
section
variable {K : PySem.W.Frag} {h : Heap} {mg : Str → Option Value} {f C a cc : Addr} {n q : Str} {st : Stmt} {ps : List Str} {oc : Value} {od an : Option Addr} {osl : Array (Option Value)} {kV doc pm cdv ct : Value}
/-- how a def's arguments bind -/
def Bd (n q : Str) (st : Stmt) (ps : List Str) : Prop := ∀ (kV doc pm : Value) (an : Option Addr) (cdv ct : Value) (us : List Value), us.length = ps.length → bindArgs (PySem.W.fnOf n q (defArgs st) (defBody st) (defScope st) .none kV doc pm an cdv ct) ⟨us, []⟩ = pure (ps.zip us)
theorem topDef (X : K.In h) (G : h.Ns mainGlobals mg) (hb : Bd n n st ps) (e : PySem.W.nsIn K mainGlobals n = some (some (.ref f))) (l : K.lookup f = some ⟨oc, od, .func (PySem.W.fnOf n n (defArgs st) (defBody st) (defScope st) .none kV doc pm an cdv ct), osl⟩)
    (c1 : PySem.W.codeIn K cdv n = true) (k1 : PySem.W.keepIn K (.ref f) = true) : TopDef K mg n st ps :=
  have F := fun_mk l c1 k1
  ⟨f, _, F, PySem.W.mg_of X G e, F.binds hb⟩
theorem topLam (X : K.In h) (G : h.Ns mainGlobals mg) (hb : Bd "readable" "readable" s_readable ["sizes", "grouping"]) (e : PySem.W.nsIn K mainGlobals "readable" = some (some (.ref f))) (l : K.lookup f = some ⟨oc, od, .func (PySem.W.fnOf "readable" "readable" (defArgs s_readable) (defBody s_readable) (defScope s_readable) .none kV doc pm an (.ref cc) ct), osl⟩)
    (c1 : PySem.W.codeIn K (.ref cc) "readable" = true) (k1 : PySem.W.keepIn K (.ref f) = true) : TopLam K mg cc :=
  have F := fun_mk l c1 k1
  ⟨f, _, F, PySem.W.mg_of X G e, F.binds hb, rfl⟩
theorem tab_is {P : Addr} {o2 : Value} {o3 : Option Addr} {o4 : Array (Option Value)} {vs : Array Value} {fd : FuncData} (e : PySem.W.nsIn K mainGlobals n = some (some (.ref f))) (l : K.lookup f = some ⟨oc, od, .func fd, osl⟩) (hc : fd.code = .ref cc) (l2 : K.lookup cc = some ⟨o2, o3, .fields vs, o4⟩) (hv : vs[11]? = some (.ref P)) : PySem.W.tabIn K n = some (cc, P) := by
  unfold PySem.W.tabIn
  simp only [e, l, hc, l2, hv]
theorem ci {i : Int} {t : Tok} (X : K.In h) (G : h.Ns mainGlobals mg) (e : PySem.W.nsIn K mainGlobals n = some (some (.int i t))) : ∃ t, mg n = some (.int i t) := ⟨t, PySem.W.mg_of X G e⟩
theorem cs {i : Str} {t : Tok} (X : K.In h) (G : h.Ns mainGlobals mg) (e : PySem.W.nsIn K mainGlobals n = some (some (.str i t))) : ∃ t, mg n = some (.str i t) := ⟨t, PySem.W.mg_of X G e⟩
theorem tup_mk {its : Array Value} {m : Nat} {xs : List V} (l : K.lookup a = some ⟨.type "tuple", od, .seq its m, osl⟩) (hz : its.size ≤ sizeLine) (hv : Vals xs its.toList) : ∀ H, SqT K H a xs := fun H => .inr ⟨_, its, m, l, rfl, rfl, hz, hv⟩
theorem pair_mk {i j : Int} {t u : Tok} {m : Nat} (X : K.In h) (l : K.lookup a = some ⟨.type "tuple", od, .seq #[.int i t, .int j u] m, osl⟩) : ∀ H, RP K RI RI H (.ref a) (i, j) := fun H =>
  ⟨a, .int i, .int j, rfl, tup_mk (xs := [.int i, .int j]) l (by show 2 ≤ sizeLine; decide) (.cons ⟨t, rfl⟩ (.cons ⟨u, rfl⟩ .nil)) H, rfl, rfl⟩
theorem tupS {its : Array Value} {m : Nat} {xs : List V} (X : K.In h) (G : h.Ns mainGlobals mg) (e : PySem.W.nsIn K mainGlobals n = some (some (.ref a))) (l : K.lookup a = some ⟨.type "tuple", od, .seq its m, osl⟩) (hz : its.size ≤ sizeLine) (hv : Vals xs its.toList) : ∃ a, mg n = some (.ref a) ∧ ∀ H, SqT K H a xs :=
  ⟨a, PySem.W.mg_of X G e, tup_mk l hz hv⟩
theorem no0 : ∀ g ∈ ([] : List Str), NoAttr K C g := fun g hg => (nomatch hg)
theorem no1 {fs : List Str} (e : PySem.W.findIn K (.ref C) n = some none) (r : ∀ g ∈ fs, NoAttr K C g) : ∀ g ∈ n :: fs, NoAttr K C g := fun g hg => by
  rcases List.mem_cons.mp hg with z | z
  · rw [z]; exact e
  · exact r g z
theorem kl_mk {fs : List Str} (X : K.In h) (G : h.Ns mainGlobals mg) (e : PySem.W.nsIn K mainGlobals n = some (some (.ref C))) (pg : PySem.W.plainGet K C Str.empty = true) (hd : PySem.W.hasDictIn K C = true) (po : PySem.W.plainOver K C = true) (sa : PySem.W.findIn K (.ref C) "__setattr__" = some (some (.builtin "object.__setattr__"))) (no : ∀ g ∈ fs, NoAttr K C g) : Kl K mg n C fs :=
  ⟨⟨pg, hd, po, sa⟩, PySem.W.mg_of X G e, no⟩
/-- an exception's class of ours -/
structure ExcC (K : PySem.W.Frag) (mg : Str → Option Value) (n : Str) (C : Addr) (fs : List Str) : Prop where
  at' : mg n = some (.ref C)
  oex : OexC K C
  xf : XfC K C
  ex : PySem.W.exmOne K (.ref C) (.ref C) = some true
  no : ∀ g ∈ fs, PySem.W.findIn K (.ref C) g = some none
theorem exc_mk {fs : List Str} {nm q2 : Str} {N : Addr} {bs : List Value} {sn : List Str} {sub : List Value} {ab : Bool} {col : Option Bool} {dd : Option Addr} {m0 m1 m2 m3 m5 : Option Value} (X : K.In h) (G : h.Ns mainGlobals mg) (e : PySem.W.nsIn K mainGlobals n = some (some (.ref C)))
    (l : K.lookup C = some (excClassObj nm q2 C N bs [.type "ValueError", .type "Exception", .type "BaseException", .type "object"] true sn sub ab col dd m0 m1 m2 m3 m5 "ValueError.__new__"))
    (sa : PySem.W.findIn K (.ref C) "__setattr__" = some (some (.builtin "object.__setattr__"))) (ga : PySem.W.findIn K (.ref C) "__getattribute__" = some (some (.builtin "BaseException.__getattribute__"))) (gg : PySem.W.findIn K (.ref C) "__getattr__" = some none)
    (b1 : PySem.W.subIn K (.ref C) (.type "BaseException") = some true) (t1 : PySem.W.typeIn K (.ref C) = some (.type "type")) (k1 : PySem.W.keepIn K (.ref C) = true) (d1 : PySem.W.hasDictIn K C = true) (i1 : PySem.W.isClsIn K C = true) (s1 : PySem.W.subIn K (.ref C) (.ref C) = some true) (no : ∀ g ∈ fs, NoAttr K C g) : ExcC K mg n C fs := by
  refine ⟨PySem.W.mg_of X G e, ⟨⟨nm, q2, N, bs, _, sn, sub, ab, col, dd, m0, m1, m2, m3, m5, l, by decide +kernel⟩, sa, b1, t1, k1⟩, ⟨ga, gg, b1, d1⟩, ?_, no⟩
  have h1 : (PySem.W.subIn K (.ref C) (.type "BaseException") == some true) = true := by rw [b1]; rfl
  have h2 : ((PySem.W.clsIn K C).isSome && PySem.W.typeIn K (.ref C) == some (.type "type")) = true := by
    rw [show (PySem.W.clsIn K C).isSome = true from i1, t1]
    rfl
  unfold PySem.W.exmOne PySem.W.kitCls
  simp only [h1, h2, if_true]
  exact s1
theorem topIni {n2 : Str} {fs : List Str} (kl : Kl K mg n2 C fs) (hb : Bd "__init__" q st ps) (i : PySem.W.findIn K (.ref C) "__init__" = some (some (.ref f))) (fn : PySem.W.isFn K (.ref f) = true) (l : K.lookup f = some ⟨oc, od, .func (PySem.W.fnOf "__init__" q (defArgs st) (defBody st) (defScope st) .none kV doc pm an cdv ct), osl⟩)
    (c1 : PySem.W.codeIn K cdv q = true) (k1 : PySem.W.keepIn K (.ref f) = true) (m1 : PySem.W.makesIn K C = true) (k2 : PySem.W.keepIn K (.ref C) = true) : TopIni K q st ps C :=
  have F := fun_mk l c1 k1
  ⟨f, _, F, ⟨m1, i, fn, k2⟩, F.binds hb⟩
theorem topExc {n2 : Str} {fs : List Str} (kl : ExcC K mg n2 C fs) (hb : Bd "__init__" q st ps) (i : PySem.W.findIn K (.ref C) "__init__" = some (some (.ref f))) (t : PySem.W.typeIn K (.ref f) = some (.type "function")) (l : K.lookup f = some ⟨oc, od, .func (PySem.W.fnOf "__init__" q (defArgs st) (defBody st) (defScope st) .none kV doc pm an cdv ct), osl⟩)
    (c1 : PySem.W.codeIn K cdv q = true) (k1 : PySem.W.keepIn K (.ref f) = true) : TopExc K q st ps C :=
  have F := fun_mk l c1 k1
  ⟨f, _, F, i, t, F.binds hb⟩
theorem df_mk (X : K.In h) (G : h.Ns mainGlobals mg) (e : PySem.W.nsIn K mainGlobals n = some (some (.ref f))) : ∀ H, RDf mg H (.ref f) n := fun H => ⟨f, rfl, PySem.W.mg_of X G e⟩
/-- what stands in a list, whatever is tracked -/
inductive AllH {α : Type} (R : Rp α) : List V → List α → Prop
  | nil : AllH R [] []
  | cons {v : V} {x : α} {vs : List V} {xs : List α} : (∀ H, R H v x) → AllH R vs xs → AllH R (v :: vs) (x :: xs)
theorem AllH.at {α : Type} {R : Rp α} {vs : List V} {xs : List α} (h : AllH R vs xs) (H : Hp) : All2 (R H) vs xs := by
  induction h with
  | nil => exact .nil
  | cons h _ ih => exact .cons (h H) ih
theorem rts_mk {α : Type} {R : Rp α} {its : Array Value} {m : Nat} {vs : List V} {xs : List α} (X : K.In h) (G : h.Ns mainGlobals mg) (e : PySem.W.nsIn K mainGlobals n = some (some (.ref a))) (l : K.lookup a = some ⟨.type "tuple", od, .seq its m, osl⟩) (hz : its.size ≤ sizeLine) (hv : Vals vs its.toList) (r : AllH R vs xs) :
    ∃ a, mg n = some (.ref a) ∧ ∀ H, RTs K R H (.ref a) xs := ⟨a, PySem.W.mg_of X G e, fun H => ⟨a, vs, rfl, tup_mk l hz hv H, r.at H⟩⟩
end
-- binds
theorem b_best : Bd "__init__" "Best.__init__" s_bestinit ["self", "paid", "lines", "number"] := fun _ _ _ _ _ _ us hl => match us, hl with | [_, _, _, _], _ => rfl
theorem b_fault : Bd "__init__" "Fault.__init__" s_faultinit Nfaultinit := fun _ _ _ _ _ _ us hl => match us, hl with | [_, _, _], _ => rfl
theorem b_tok : Bd "__init__" "Token.__init__" s_tokinit Ntokinit := fun _ _ _ _ _ _ us hl => match us, hl with | [_, _, _, _], _ => rfl
theorem b_rd : Bd "__init__" "Reader.__init__" s_rdinit Nrdinit := fun _ _ _ _ _ _ us hl => match us, hl with | [_, _], _ => rfl
theorem b_tab : Bd "__init__" "Table.__init__" s_tabinit ["self"] := fun _ _ _ _ _ _ us hl => match us, hl with | [_], _ => rfl
theorem b_refused : Bd "__init__" "Refused.__init__" s_refinit Nrefinit := fun _ _ _ _ _ _ us hl => match us, hl with | [_, _], _ => rfl
theorem b_stk : Bd "__init__" "Stock.__init__" s_stkinit ["self", "table"] := fun _ _ _ _ _ _ us hl => match us, hl with | [_, _], _ => rfl
theorem b_hold : Bd "__init__" "Holder.__init__" s_holdinit ["self"] := fun _ _ _ _ _ _ us hl => match us, hl with | [_], _ => rfl
theorem b_count : Bd "grouping_count" "grouping_count" s_count ["table"] := fun _ _ _ _ _ _ us hl => match us, hl with | [_], _ => rfl
theorem b_group : Bd "group_of" "group_of" s_group ["line", "grouping"] := fun _ _ _ _ _ _ us hl => match us, hl with | [_, _], _ => rfl
theorem b_size : Bd "size_of" "size_of" s_size ["table", "grouping"] := fun _ _ _ _ _ _ us hl => match us, hl with | [_, _], _ => rfl
theorem b_sizes : Bd "all_sizes" "all_sizes" s_sizes ["table"] := fun _ _ _ _ _ _ us hl => match us, hl with | [_], _ => rfl
theorem b_readable : Bd "readable" "readable" s_readable ["sizes", "grouping"] := fun _ _ _ _ _ _ us hl => match us, hl with | [_, _], _ => rfl
theorem b_readby : Bd "read_by" "read_by" s_readby ["sizes", "kept", "grouping"] := fun _ _ _ _ _ _ us hl => match us, hl with | [_, _, _], _ => rfl
theorem b_cost : Bd "cost_of" "cost_of" s_cost ["table", "sizes", "kept", "grouping"] := fun _ _ _ _ _ _ us hl => match us, hl with | [_, _, _, _], _ => rfl
theorem b_costs : Bd "all_costs" "all_costs" s_costs ["table", "sizes", "kept"] := fun _ _ _ _ _ _ us hl => match us, hl with | [_, _, _], _ => rfl
theorem b_linesof : Bd "lines_of" "lines_of" s_linesof ["sizes", "kept"] := fun _ _ _ _ _ _ us hl => match us, hl with | [_, _], _ => rfl
theorem b_paid : Bd "paid_for" "paid_for" s_paid ["stock", "sizes", "kept"] := fun _ _ _ _ _ _ us hl => match us, hl with | [_, _, _], _ => rfl
theorem b_worth : Bd "worth_of" "worth_of" s_worth ["stock", "sizes", "grouping"] := fun _ _ _ _ _ _ us hl => match us, hl with | [_, _, _], _ => rfl
theorem b_idle : Bd "idle_ones" "idle_ones" s_idle ["stock", "sizes"] := fun _ _ _ _ _ _ us hl => match us, hl with | [_, _], _ => rfl
theorem b_linesby : Bd "lines_by_sets" "lines_by_sets" s_linesby ["sizes"] := fun _ _ _ _ _ _ us hl => match us, hl with | [_], _ => rfl
theorem b_setcosts : Bd "set_costs" "set_costs" s_setcosts ["rows", "many", "number"] := fun _ _ _ _ _ _ us hl => match us, hl with | [_, _, _], _ => rfl
theorem b_countsby : Bd "counts_by_sets" "counts_by_sets" s_countsby ["sizes"] := fun _ _ _ _ _ _ us hl => match us, hl with | [_], _ => rfl
theorem b_members : Bd "members_of" "members_of" s_members ["number"] := fun _ _ _ _ _ _ us hl => match us, hl with | [_], _ => rfl
theorem b_together : Bd "together" "together" s_together ["questions"] := fun _ _ _ _ _ _ us hl => match us, hl with | [_], _ => rfl
theorem b_reading : Bd "reading_rows" "reading_rows" s_reading ["stock", "sizes"] := fun _ _ _ _ _ _ us hl => match us, hl with | [_, _], _ => rfl
theorem b_bestset : Bd "best_set" "best_set" s_bestset ["stock", "sizes"] := fun _ _ _ _ _ _ us hl => match us, hl with | [_, _], _ => rfl
theorem b_codes : Bd "codes" "codes" s_codes ["word"] := fun _ _ _ _ _ _ us hl => match us, hl with | [_], _ => rfl
theorem b_letter : Bd "is_letter" "is_letter" s_letter ["byte"] := fun _ _ _ _ _ _ us hl => match us, hl with | [_], _ => rfl
theorem b_digit : Bd "is_digit" "is_digit" s_digit ["byte"] := fun _ _ _ _ _ _ us hl => match us, hl with | [_], _ => rfl
theorem b_begin : Bd "begin_of" "begin_of" s_begin ["text", "at"] := fun _ _ _ _ _ _ us hl => match us, hl with | [_, _], _ => rfl
theorem b_wordof : Bd "word_of" "word_of" s_wordof ["told"] := fun _ _ _ _ _ _ us hl => match us, hl with | [_], _ => rfl
theorem b_nameat : Bd "name_at" "name_at" s_nameat ["text", "at"] := fun _ _ _ _ _ _ us hl => match us, hl with | [_, _], _ => rfl
theorem b_numat : Bd "number_at" "number_at" s_numat ["text", "at"] := fun _ _ _ _ _ _ us hl => match us, hl with | [_, _], _ => rfl
theorem b_tokat : Bd "token_at" "token_at" s_tokat ["text", "at"] := fun _ _ _ _ _ _ us hl => match us, hl with | [_, _], _ => rfl
theorem b_tokensof : Bd "tokens_of" "tokens_of" s_tokensof ["text"] := fun _ _ _ _ _ _ us hl => match us, hl with | [_], _ => rfl
theorem b_here : Bd "here" "here" s_here ["reader"] := fun _ _ _ _ _ _ us hl => match us, hl with | [_], _ => rfl
theorem b_ishere : Bd "is_here" "is_here" s_ishere ["reader", "what"] := fun _ _ _ _ _ _ us hl => match us, hl with | [_, _], _ => rfl
theorem b_need : Bd "need" "need" s_need Nneed := fun _ _ _ _ _ _ us hl => match us, hl with | [_, _, _], _ => rfl
theorem b_take : Bd "take" "take" s_take ["reader", "what"] := fun _ _ _ _ _ _ us hl => match us, hl with | [_, _], _ => rfl
theorem b_takeif : Bd "take_if" "take_if" s_takeif ["reader", "what"] := fun _ _ _ _ _ _ us hl => match us, hl with | [_, _], _ => rfl
theorem b_taken : Bd "take_number" "take_number" s_taken Ntaken := fun _ _ _ _ _ _ us hl => match us, hl with | [_, _, _], _ => rfl
theorem b_cols : Bd "take_columns" "take_columns" s_cols Ncols := fun _ _ _ _ _ _ us hl => match us, hl with | [_, _], _ => rfl
theorem b_row : Bd "take_row" "take_row" s_row ["reader", "table"] := fun _ _ _ _ _ _ us hl => match us, hl with | [_, _], _ => rfl
theorem b_grp : Bd "take_grouping" "take_grouping" s_grp ["reader", "table"] := fun _ _ _ _ _ _ us hl => match us, hl with | [_, _], _ => rfl
theorem b_que : Bd "take_question" "take_question" s_que ["reader", "table"] := fun _ _ _ _ _ _ us hl => match us, hl with | [_, _], _ => rfl
theorem b_read : Bd "read_table" "read_table" s_read ["text"] := fun _ _ _ _ _ _ us hl => match us, hl with | [_], _ => rfl
theorem b_numb : Bd "number_bytes" "number_bytes" s_numb ["number"] := fun _ _ _ _ _ _ us hl => match us, hl with | [_], _ => rfl
theorem b_listed : Bd "listed" "listed" s_listed ["words"] := fun _ _ _ _ _ _ us hl => match us, hl with | [_], _ => rfl
theorem b_rowb : Bd "row_bytes" "row_bytes" s_rowb ["line"] := fun _ _ _ _ _ _ us hl => match us, hl with | [_], _ => rfl
theorem b_queb : Bd "question_bytes" "question_bytes" s_queb ["table", "question"] := fun _ _ _ _ _ _ us hl => match us, hl with | [_, _], _ => rfl
theorem b_text : Bd "table_text" "table_text" s_text ["table"] := fun _ _ _ _ _ _ us hl => match us, hl with | [_], _ => rfl
theorem b_askso : Bd "ask_so" "ask_so" s_askso ["holds", "number"] := fun _ _ _ _ _ _ us hl => match us, hl with | [_, _], _ => rfl
theorem b_told : Bd "state_told" "state_told" s_told ["stock"] := fun _ _ _ _ _ _ us hl => match us, hl with | [_], _ => rfl
theorem b_keptt : Bd "kept_told" "kept_told" s_keptt ["stock", "sizes"] := fun _ _ _ _ _ _ us hl => match us, hl with | [_, _], _ => rfl
theorem b_quest : Bd "questions_told" "questions_told" s_quest ["stock", "sizes"] := fun _ _ _ _ _ _ us hl => match us, hl with | [_, _], _ => rfl
theorem b_copied : Bd "copied" "copied" s_copied ["stock"] := fun _ _ _ _ _ _ us hl => match us, hl with | [_], _ => rfl
theorem b_changed : Bd "changed" "changed" s_changed ["holder"] := fun _ _ _ _ _ _ us hl => match us, hl with | [_], _ => rfl
theorem b_askq : Bd "ask_question" "ask_question" s_askq ["holder", "number"] := fun _ _ _ _ _ _ us hl => match us, hl with | [_, _], _ => rfl
theorem b_askg : Bd "ask_grouping" "ask_grouping" s_askg ["holder", "number"] := fun _ _ _ _ _ _ us hl => match us, hl with | [_, _], _ => rfl
theorem b_times : Bd "times" "times" s_times ["holder", "numbers", "row"] := fun _ _ _ _ _ _ us hl => match us, hl with | [_, _, _], _ => rfl
theorem b_ask : Bd "ask" "ask" s_ask ["holder", "numbers", "row"] := fun _ _ _ _ _ _ us hl => match us, hl with | [_, _, _], _ => rfl
theorem b_drop : Bd "drop" "drop" s_drop ["holder", "numbers", "row"] := fun _ _ _ _ _ _ us hl => match us, hl with | [_, _, _], _ => rfl
theorem b_terms : Bd "terms" "terms" s_terms ["holder", "numbers", "row"] := fun _ _ _ _ _ _ us hl => match us, hl with | [_, _, _], _ => rfl
theorem b_addrow : Bd "add_row" "add_row" s_addrow ["holder", "numbers", "row"] := fun _ _ _ _ _ _ us hl => match us, hl with | [_, _, _], _ => rfl
theorem b_shown : Bd "shown" "shown" s_shown ["holder", "numbers", "row"] := fun _ _ _ _ _ _ us hl => match us, hl with | [_, _, _], _ => rfl
theorem b_report : Bd "report" "report" s_report ["holder", "numbers", "row"] := fun _ _ _ _ _ _ us hl => match us, hl with | [_, _, _], _ => rfl
theorem b_advise : Bd "advise" "advise" s_advise ["holder", "numbers", "row"] := fun _ _ _ _ _ _ us hl => match us, hl with | [_, _, _], _ => rfl
theorem b_takeb : Bd "take_best" "take_best" s_takeb ["holder", "numbers", "row"] := fun _ _ _ _ _ _ us hl => match us, hl with | [_, _, _], _ => rfl
theorem b_keep : Bd "keep" "keep" s_keep ["holder", "numbers", "row"] := fun _ _ _ _ _ _ us hl => match us, hl with | [_, _, _], _ => rfl
theorem b_undo : Bd "undo" "undo" s_undo ["holder", "numbers", "row"] := fun _ _ _ _ _ _ us hl => match us, hl with | [_, _, _], _ => rfl
theorem b_load : Bd "load" "load" s_load ["holder", "numbers", "row"] := fun _ _ _ _ _ _ us hl => match us, hl with | [_, _, _], _ => rfl
theorem b_answer : Bd "answer" "answer" s_answer ["holder", "number", "numbers", "row"] := fun _ _ _ _ _ _ us hl => match us, hl with | [_, _, _, _], _ => rfl
theorem b_callat : Bd "call_at" "call_at" s_callat ["calls", "place"] := fun _ _ _ _ _ _ us hl => match us, hl with | [_, _], _ => rfl
theorem b_answers : Bd "answers" "answers" s_answers ["calls"] := fun _ _ _ _ _ _ us hl => match us, hl with | [_], _ => rfl
end G5
/-! Z3: the top's names together; the head's goal from them. -/
namespace G5
open PySem PySem.Spec PyProof.Rows L2
section
variable {K : PySem.W.Frag} {h : Heap} {mg : Str → Option Value}
theorem gf_mk {c_stock c_best c_token c_reader c_table c_holder c_fault c_refused : Addr} {t_gTABLE t_gFOR t_gMOST_TEXT t_gMOST_NAME t_gMOST_NUMBER t_gLINE t_gREMARK t_gNO_SIZE t_gNO_TOKEN t_gNOT_ALLOWED t_gMOST_COLUMNS t_gMOST_ROWS t_gMOST_QUESTIONS t_gMOST_VALUE t_gMOST_SUMMED t_gMOST_TIMES t_gTOO_MANY t_gTOLD_BEFORE t_gASKED_BEFORE t_gOUT_OF_RANGE t_gNO_COLUMN t_gNO_TABLE t_gNO_GROUPING t_gNO_QUESTION t_gBAD t_gBAD_TERMS t_gFULL t_gNONE_HELD t_gMOST_HELD t_gMOST_TERM t_gSIGNS t_gNAME t_gNUMBER t_gEND : Tok} (X : K.In h) (G : h.Ns mainGlobals mg)
    (a_len : PySem.W.nsIn K mainGlobals "len" = some none)
    (a_set : PySem.W.nsIn K mainGlobals "set" = some none)
    (a_tuple : PySem.W.nsIn K mainGlobals "tuple" = some none)
    (a_enum : PySem.W.nsIn K mainGlobals "enumerate" = some none)
    (a_range : PySem.W.nsIn K mainGlobals "range" = some none)
    (a_sorted : PySem.W.nsIn K mainGlobals "sorted" = some none)
    (a_sum : PySem.W.nsIn K mainGlobals "sum" = some none)
    (a_list : PySem.W.nsIn K mainGlobals "list" = some none)
    (a_ord : PySem.W.nsIn K mainGlobals "ord" = some none)
    (a_str : PySem.W.nsIn K mainGlobals "str" = some none)
    (a_int : PySem.W.nsIn K mainGlobals "int" = some none)
    (a_abs : PySem.W.nsIn K mainGlobals "abs" = some none)
    (a_verr : PySem.W.nsIn K mainGlobals "ValueError" = some none)
    (a_stock : Kl K mg "Stock" c_stock ["table", "kept", "room", "changes"])
    (a_best : Kl K mg "Best" c_best ["paid", "lines", "number"])
    (a_token : Kl K mg "Token" c_token ["what", "told", "place"])
    (a_reader : Kl K mg "Reader" c_reader ["tokens", "at"])
    (a_table : Kl K mg "Table" c_table ["columns", "lines", "questions"])
    (a_holder : Kl K mg "Holder" c_holder ["stock", "held"])
    (a_gTABLE : PySem.W.nsIn K mainGlobals "TABLE" = some (some (.int (-1) t_gTABLE)))
    (a_gFOR : PySem.W.nsIn K mainGlobals "FOR_EACH" = some (some (.int (2) t_gFOR)))
    (a_gMOST_TEXT : PySem.W.nsIn K mainGlobals "MOST_TEXT" = some (some (.int (4096) t_gMOST_TEXT)))
    (a_gMOST_NAME : PySem.W.nsIn K mainGlobals "MOST_NAME" = some (some (.int (16) t_gMOST_NAME)))
    (a_gMOST_NUMBER : PySem.W.nsIn K mainGlobals "MOST_NUMBER" = some (some (.int (1000000000) t_gMOST_NUMBER)))
    (a_gLINE : PySem.W.nsIn K mainGlobals "LINE" = some (some (.int (10) t_gLINE)))
    (a_gREMARK : PySem.W.nsIn K mainGlobals "REMARK" = some (some (.int (35) t_gREMARK)))
    (a_gNO_SIZE : PySem.W.nsIn K mainGlobals "NO_SIZE" = some (some (.int (1) t_gNO_SIZE)))
    (a_gNO_TOKEN : PySem.W.nsIn K mainGlobals "NO_TOKEN" = some (some (.int (2) t_gNO_TOKEN)))
    (a_gNOT_ALLOWED : PySem.W.nsIn K mainGlobals "NOT_ALLOWED" = some (some (.int (3) t_gNOT_ALLOWED)))
    (a_gMOST_COLUMNS : PySem.W.nsIn K mainGlobals "MOST_COLUMNS" = some (some (.int (4) t_gMOST_COLUMNS)))
    (a_gMOST_ROWS : PySem.W.nsIn K mainGlobals "MOST_ROWS" = some (some (.int (16) t_gMOST_ROWS)))
    (a_gMOST_QUESTIONS : PySem.W.nsIn K mainGlobals "MOST_QUESTIONS" = some (some (.int (8) t_gMOST_QUESTIONS)))
    (a_gMOST_VALUE : PySem.W.nsIn K mainGlobals "MOST_VALUE" = some (some (.int (9) t_gMOST_VALUE)))
    (a_gMOST_SUMMED : PySem.W.nsIn K mainGlobals "MOST_SUMMED" = some (some (.int (1000) t_gMOST_SUMMED)))
    (a_gMOST_TIMES : PySem.W.nsIn K mainGlobals "MOST_TIMES" = some (some (.int (99) t_gMOST_TIMES)))
    (a_gTOO_MANY : PySem.W.nsIn K mainGlobals "TOO_MANY" = some (some (.int (4) t_gTOO_MANY)))
    (a_gTOLD_BEFORE : PySem.W.nsIn K mainGlobals "TOLD_BEFORE" = some (some (.int (5) t_gTOLD_BEFORE)))
    (a_gASKED_BEFORE : PySem.W.nsIn K mainGlobals "ASKED_BEFORE" = some (some (.int (6) t_gASKED_BEFORE)))
    (a_gOUT_OF_RANGE : PySem.W.nsIn K mainGlobals "OUT_OF_RANGE" = some (some (.int (7) t_gOUT_OF_RANGE)))
    (a_gNO_COLUMN : PySem.W.nsIn K mainGlobals "NO_COLUMN" = some (some (.int (8) t_gNO_COLUMN)))
    (a_gNO_TABLE : PySem.W.nsIn K mainGlobals "NO_TABLE" = some (some (.int (-1) t_gNO_TABLE)))
    (a_gNO_GROUPING : PySem.W.nsIn K mainGlobals "NO_GROUPING" = some (some (.int (-2) t_gNO_GROUPING)))
    (a_gNO_QUESTION : PySem.W.nsIn K mainGlobals "NO_QUESTION" = some (some (.int (-3) t_gNO_QUESTION)))
    (a_gBAD : PySem.W.nsIn K mainGlobals "BAD" = some (some (.int (-4) t_gBAD)))
    (a_gBAD_TERMS : PySem.W.nsIn K mainGlobals "BAD_TERMS" = some (some (.int (-5) t_gBAD_TERMS)))
    (a_gFULL : PySem.W.nsIn K mainGlobals "FULL" = some (some (.int (-6) t_gFULL)))
    (a_gNONE_HELD : PySem.W.nsIn K mainGlobals "NONE_HELD" = some (some (.int (-8) t_gNONE_HELD)))
    (a_gMOST_HELD : PySem.W.nsIn K mainGlobals "MOST_HELD" = some (some (.int (20) t_gMOST_HELD)))
    (a_gMOST_TERM : PySem.W.nsIn K mainGlobals "MOST_TERM" = some (some (.int (1000) t_gMOST_TERM)))
    (a_gSIGNS : PySem.W.nsIn K mainGlobals "SIGNS" = some (some (.str ",:;-" t_gSIGNS)))
    (a_gNAME : PySem.W.nsIn K mainGlobals "NAME" = some (some (.str "a name" t_gNAME)))
    (a_gNUMBER : PySem.W.nsIn K mainGlobals "NUMBER" = some (some (.str "a number" t_gNUMBER)))
    (a_gEND : PySem.W.nsIn K mainGlobals "END" = some (some (.str "the end" t_gEND)))
    (a_gBLANKS : ∃ a, mg "BLANKS" = some (.ref a) ∧ ∀ H, SqT K H a [.int 32, .int 9, .int 10])
    (a_gWORDS : ∃ a, mg "WORDS" = some (.ref a) ∧ ∀ H, SqT K H a [.str "columns", .str "row", .str "ask", .str "times"])
    (a_veinit : PySem.W.findCls K (.type "ValueError") (.type "type") "__init__" = some (.val (.builtin "ValueError.__init__")))
    (a_gCALLS : ∃ a, mg "CALLS" = some (.ref a) ∧ ∀ H, RTs K (RP K RI RI) H (.ref a) callsL)
    (a_gDEEDS : ∃ a, mg "DEEDS" = some (.ref a) ∧ ∀ H, RTs K (RDf mg) H (.ref a) deedsL)
    (x_fault : ExcC K mg "Fault" c_fault ["code", "place"])
    (x_refused : ExcC K mg "Refused" c_refused ["number"]) : Gf K mg ⟨c_stock, c_best, c_token, c_reader, c_table, c_holder, c_fault, c_refused⟩ :=
  { len := PySem.W.mg_none_of X G a_len
    set := PySem.W.mg_none_of X G a_set
    tuple := PySem.W.mg_none_of X G a_tuple
    enum := PySem.W.mg_none_of X G a_enum
    range := PySem.W.mg_none_of X G a_range
    sorted := PySem.W.mg_none_of X G a_sorted
    sum := PySem.W.mg_none_of X G a_sum
    list := PySem.W.mg_none_of X G a_list
    ord := PySem.W.mg_none_of X G a_ord
    str := PySem.W.mg_none_of X G a_str
    int := PySem.W.mg_none_of X G a_int
    abs := PySem.W.mg_none_of X G a_abs
    verr := PySem.W.mg_none_of X G a_verr
    stock := a_stock
    best := a_best
    token := a_token
    reader := a_reader
    table := a_table
    holder := a_holder
    gTABLE := ⟨_, PySem.W.mg_of X G a_gTABLE⟩
    gFOR := ⟨_, PySem.W.mg_of X G a_gFOR⟩
    gMOST_TEXT := ⟨_, PySem.W.mg_of X G a_gMOST_TEXT⟩
    gMOST_NAME := ⟨_, PySem.W.mg_of X G a_gMOST_NAME⟩
    gMOST_NUMBER := ⟨_, PySem.W.mg_of X G a_gMOST_NUMBER⟩
    gLINE := ⟨_, PySem.W.mg_of X G a_gLINE⟩
    gREMARK := ⟨_, PySem.W.mg_of X G a_gREMARK⟩
    gNO_SIZE := ⟨_, PySem.W.mg_of X G a_gNO_SIZE⟩
    gNO_TOKEN := ⟨_, PySem.W.mg_of X G a_gNO_TOKEN⟩
    gNOT_ALLOWED := ⟨_, PySem.W.mg_of X G a_gNOT_ALLOWED⟩
    gMOST_COLUMNS := ⟨_, PySem.W.mg_of X G a_gMOST_COLUMNS⟩
    gMOST_ROWS := ⟨_, PySem.W.mg_of X G a_gMOST_ROWS⟩
    gMOST_QUESTIONS := ⟨_, PySem.W.mg_of X G a_gMOST_QUESTIONS⟩
    gMOST_VALUE := ⟨_, PySem.W.mg_of X G a_gMOST_VALUE⟩
    gMOST_SUMMED := ⟨_, PySem.W.mg_of X G a_gMOST_SUMMED⟩
    gMOST_TIMES := ⟨_, PySem.W.mg_of X G a_gMOST_TIMES⟩
    gTOO_MANY := ⟨_, PySem.W.mg_of X G a_gTOO_MANY⟩
    gTOLD_BEFORE := ⟨_, PySem.W.mg_of X G a_gTOLD_BEFORE⟩
    gASKED_BEFORE := ⟨_, PySem.W.mg_of X G a_gASKED_BEFORE⟩
    gOUT_OF_RANGE := ⟨_, PySem.W.mg_of X G a_gOUT_OF_RANGE⟩
    gNO_COLUMN := ⟨_, PySem.W.mg_of X G a_gNO_COLUMN⟩
    gNO_TABLE := ⟨_, PySem.W.mg_of X G a_gNO_TABLE⟩
    gNO_GROUPING := ⟨_, PySem.W.mg_of X G a_gNO_GROUPING⟩
    gNO_QUESTION := ⟨_, PySem.W.mg_of X G a_gNO_QUESTION⟩
    gBAD := ⟨_, PySem.W.mg_of X G a_gBAD⟩
    gBAD_TERMS := ⟨_, PySem.W.mg_of X G a_gBAD_TERMS⟩
    gFULL := ⟨_, PySem.W.mg_of X G a_gFULL⟩
    gNONE_HELD := ⟨_, PySem.W.mg_of X G a_gNONE_HELD⟩
    gMOST_HELD := ⟨_, PySem.W.mg_of X G a_gMOST_HELD⟩
    gMOST_TERM := ⟨_, PySem.W.mg_of X G a_gMOST_TERM⟩
    gSIGNS := ⟨_, PySem.W.mg_of X G a_gSIGNS⟩
    gNAME := ⟨_, PySem.W.mg_of X G a_gNAME⟩
    gNUMBER := ⟨_, PySem.W.mg_of X G a_gNUMBER⟩
    gEND := ⟨_, PySem.W.mg_of X G a_gEND⟩
    gBLANKS := a_gBLANKS
    gWORDS := a_gWORDS
    veinit := a_veinit
    faultC := x_fault.oex
    faultNo := x_fault.no
    refusedC := x_refused.oex
    refusedNo := x_refused.no
    faultAt := x_fault.at'
    refusedAt := x_refused.at'
    faultX := x_fault.xf
    refusedX := x_refused.xf
    faultE := x_fault.ex
    refusedE := x_refused.ex
    gCALLS := a_gCALLS
    gDEEDS := a_gDEEDS }
theorem end_mk {P : Program} {w : World} {c : Cs} {cc Pt fa f0 : Addr} {oc : Value} {od an : Option Addr} {osl : Array (Option Value)} {kV doc pm cdv ct : Value} (X : K.In h) (G : h.Ns mainGlobals mg) (hmg : mg "answers" = some (.ref fa)) (g : Gf K mg c) (A : Tops K mg c cc)
    (ht : PySem.W.CodeHd h cc Pt ∧ h.get? Pt = some (PySem.W.tabObj #[])) (hn : K.lookup Pt = none) (e0 : PySem.W.nsIn K mainGlobals "answers" = some (some (.ref f0)))
    (l0 : K.lookup f0 = some ⟨oc, od, .func (PySem.W.fnOf "answers" "answers" (defArgs s_answers) (defBody s_answers) (defScope s_answers) .none kV doc pm an cdv ct), osl⟩) (c0 : PySem.W.codeIn K cdv "answers" = true) (k0 : PySem.W.keepIn K (.ref f0) = true) :
    ∃ (fd : FuncData) (cc Pt : Addr), h.get? Pt = some (PySem.W.tabObj #[]) ∧ K.lookup Pt = none ∧ PySem.W.CodeHd h cc Pt ∧ (∀ (s' : Shared) (us : List Value), us.length = 1 → BindsTo s' fd ⟨us, []⟩ ((["calls"] : List Str).zip us)) ∧
      ∀ base : Heap, K.In base → base.Ns mainGlobals mg → LamX.TabB base mg cc Pt → FnOk P w K mg base CX0 11 fa fd ["calls"] (SpTop (lamTab Pt) K) := by
  have e := hmg.symm.trans (PySem.W.mg_of X G e0)
  cases e
  exact ⟨_, cc, Pt, ht.2, hn, ht.1, fun s' us hu => .of_eq (b_answers _ _ _ _ _ _ us hu), fun base b1 b2 b3 => all_top g A b3 (fun_mk l0 c0 k0)⟩
end
end G5
open PySem PySem.W PyProof.Rows
set_option maxHeartbeats 8000000 in
theorem PySem.Challenge.cw_readyanswers_s01_answers_holds : PySem.Challenge.rw_readyanswers_s01_answers.Holds := by
  w_on; k_headS; (case hw => exact ⟨[.list [.int 1]], by decide +kernel, by decide +kernel⟩)
  k_fillS
  refine G5.walk_tab (k := 11) (x := "calls") (by decide +kernel) ⟨rfl, by decide, by decide⟩ (fun w h Y => PySem.W.kIn_of Y) ?F
  intro w mg fa h Y KX G hmg TT
  have k_stock := G5.kl_mk (n := "Stock") (fs := ["table", "kept", "room", "changes"]) KX G (by k_is) (by k_is) (by k_is) (by k_is) (by k_is) (G5.no1 (n := "table") (by k_is) (G5.no1 (n := "kept") (by k_is) (G5.no1 (n := "room") (by k_is) (G5.no1 (n := "changes") (by k_is) G5.no0))))
  have k_best := G5.kl_mk (n := "Best") (fs := ["paid", "lines", "number"]) KX G (by k_is) (by k_is) (by k_is) (by k_is) (by k_is) (G5.no1 (n := "paid") (by k_is) (G5.no1 (n := "lines") (by k_is) (G5.no1 (n := "number") (by k_is) G5.no0)))
  have k_token := G5.kl_mk (n := "Token") (fs := ["what", "told", "place"]) KX G (by k_is) (by k_is) (by k_is) (by k_is) (by k_is) (G5.no1 (n := "what") (by k_is) (G5.no1 (n := "told") (by k_is) (G5.no1 (n := "place") (by k_is) G5.no0)))
  have k_reader := G5.kl_mk (n := "Reader") (fs := ["tokens", "at"]) KX G (by k_is) (by k_is) (by k_is) (by k_is) (by k_is) (G5.no1 (n := "tokens") (by k_is) (G5.no1 (n := "at") (by k_is) G5.no0))
  have k_table := G5.kl_mk (n := "Table") (fs := ["columns", "lines", "questions"]) KX G (by k_is) (by k_is) (by k_is) (by k_is) (by k_is) (G5.no1 (n := "columns") (by k_is) (G5.no1 (n := "lines") (by k_is) (G5.no1 (n := "questions") (by k_is) G5.no0)))
  have k_holder := G5.kl_mk (n := "Holder") (fs := ["stock", "held"]) KX G (by k_is) (by k_is) (by k_is) (by k_is) (by k_is) (G5.no1 (n := "stock") (by k_is) (G5.no1 (n := "held") (by k_is) G5.no0))
  have x_fault := G5.exc_mk (n := "Fault") (fs := ["code", "place"]) KX G (by k_is) (by k_is) (by k_is) (by k_is) (by k_is) (by k_is) (by k_is) (by k_is) (by k_is) (by k_is) (by k_is) (G5.no1 (n := "code") (by k_is) (G5.no1 (n := "place") (by k_is) G5.no0))
  have x_refused := G5.exc_mk (n := "Refused") (fs := ["number"]) KX G (by k_is) (by k_is) (by k_is) (by k_is) (by k_is) (by k_is) (by k_is) (by k_is) (by k_is) (by k_is) (by k_is) (G5.no1 (n := "number") (by k_is) G5.no0)
  have v_gBLANKS := G5.tupS (n := "BLANKS") (xs := [.int 32, .int 9, .int 10]) KX G (by k_is) (by k_is) (by show 3 ≤ sizeLine; decide) (.cons ⟨_, rfl⟩ (.cons ⟨_, rfl⟩ (.cons ⟨_, rfl⟩ .nil)))
  have v_gWORDS := G5.tupS (n := "WORDS") (xs := [.str "columns", .str "row", .str "ask", .str "times"]) KX G (by k_is) (by k_is) (by show 4 ≤ sizeLine; decide) (.cons ⟨_, rfl⟩ (.cons ⟨_, rfl⟩ (.cons ⟨_, rfl⟩ (.cons ⟨_, rfl⟩ .nil))))
  have v_gCALLS := G5.rts_mk (n := "CALLS") (R := G5.RP _ G5.RI G5.RI) (xs := G5.callsL) (vs := [.ref _, .ref _, .ref _, .ref _, .ref _, .ref _, .ref _, .ref _, .ref _, .ref _, .ref _, .ref _]) KX G (by k_is) (by k_is) (by show 12 ≤ sizeLine; decide) (.cons rfl (.cons rfl (.cons rfl (.cons rfl (.cons rfl (.cons rfl (.cons rfl (.cons rfl (.cons rfl (.cons rfl (.cons rfl (.cons rfl .nil)))))))))))) (.cons (G5.pair_mk KX (by k_is)) (.cons (G5.pair_mk KX (by k_is)) (.cons (G5.pair_mk KX (by k_is)) (.cons (G5.pair_mk KX (by k_is)) (.cons (G5.pair_mk KX (by k_is)) (.cons (G5.pair_mk KX (by k_is)) (.cons (G5.pair_mk KX (by k_is)) (.cons (G5.pair_mk KX (by k_is)) (.cons (G5.pair_mk KX (by k_is)) (.cons (G5.pair_mk KX (by k_is)) (.cons (G5.pair_mk KX (by k_is)) (.cons (G5.pair_mk KX (by k_is)) .nil))))))))))))
  have v_gDEEDS := G5.rts_mk (n := "DEEDS") (R := G5.RDf mg) (xs := G5.deedsL) (vs := [.ref _, .ref _, .ref _, .ref _, .ref _, .ref _, .ref _, .ref _, .ref _, .ref _, .ref _, .ref _]) KX G (by k_is) (by k_is) (by show 12 ≤ sizeLine; decide) (.cons rfl (.cons rfl (.cons rfl (.cons rfl (.cons rfl (.cons rfl (.cons rfl (.cons rfl (.cons rfl (.cons rfl (.cons rfl (.cons rfl .nil)))))))))))) (.cons (G5.df_mk KX G (by k_is)) (.cons (G5.df_mk KX G (by k_is)) (.cons (G5.df_mk KX G (by k_is)) (.cons (G5.df_mk KX G (by k_is)) (.cons (G5.df_mk KX G (by k_is)) (.cons (G5.df_mk KX G (by k_is)) (.cons (G5.df_mk KX G (by k_is)) (.cons (G5.df_mk KX G (by k_is)) (.cons (G5.df_mk KX G (by k_is)) (.cons (G5.df_mk KX G (by k_is)) (.cons (G5.df_mk KX G (by k_is)) (.cons (G5.df_mk KX G (by k_is)) .nil))))))))))))
  have g := G5.gf_mk KX G (by k_is) (by k_is) (by k_is) (by k_is) (by k_is) (by k_is) (by k_is) (by k_is) (by k_is) (by k_is) (by k_is) (by k_is) (by k_is) k_stock k_best k_token k_reader k_table k_holder (by k_is) (by k_is) (by k_is) (by k_is) (by k_is) (by k_is) (by k_is) (by k_is) (by k_is) (by k_is) (by k_is) (by k_is) (by k_is) (by k_is) (by k_is) (by k_is) (by k_is) (by k_is) (by k_is) (by k_is) (by k_is) (by k_is) (by k_is) (by k_is) (by k_is) (by k_is) (by k_is) (by k_is) (by k_is) (by k_is) (by k_is) (by k_is) (by k_is) (by k_is) v_gBLANKS v_gWORDS (by k_is) v_gCALLS v_gDEEDS x_fault x_refused
  have m_best := G5.topIni k_best G5.b_best (by k_is) (by k_is) (by k_is) (by k_is) (by k_is) (by k_is) (by k_is)
  have m_fault := G5.topExc x_fault G5.b_fault (by k_is) (by k_is) (by k_is) (by k_is) (by k_is)
  have m_tok := G5.topIni k_token G5.b_tok (by k_is) (by k_is) (by k_is) (by k_is) (by k_is) (by k_is) (by k_is)
  have m_rd := G5.topIni k_reader G5.b_rd (by k_is) (by k_is) (by k_is) (by k_is) (by k_is) (by k_is) (by k_is)
  have m_tab := G5.topIni k_table G5.b_tab (by k_is) (by k_is) (by k_is) (by k_is) (by k_is) (by k_is) (by k_is)
  have m_refused := G5.topExc x_refused G5.b_refused (by k_is) (by k_is) (by k_is) (by k_is) (by k_is)
  have m_stk := G5.topIni k_stock G5.b_stk (by k_is) (by k_is) (by k_is) (by k_is) (by k_is) (by k_is) (by k_is)
  have m_hold := G5.topIni k_holder G5.b_hold (by k_is) (by k_is) (by k_is) (by k_is) (by k_is) (by k_is) (by k_is)
  have d_count := G5.topDef KX G G5.b_count (by k_is) (by k_is) (by k_is) (by k_is)
  have d_group := G5.topDef KX G G5.b_group (by k_is) (by k_is) (by k_is) (by k_is)
  have d_size := G5.topDef KX G G5.b_size (by k_is) (by k_is) (by k_is) (by k_is)
  have d_sizes := G5.topDef KX G G5.b_sizes (by k_is) (by k_is) (by k_is) (by k_is)
  have d_readable := G5.topLam KX G G5.b_readable (by k_is) (by k_is) (by k_is) (by k_is)
  have d_readby := G5.topDef KX G G5.b_readby (by k_is) (by k_is) (by k_is) (by k_is)
  have d_cost := G5.topDef KX G G5.b_cost (by k_is) (by k_is) (by k_is) (by k_is)
  have d_costs := G5.topDef KX G G5.b_costs (by k_is) (by k_is) (by k_is) (by k_is)
  have d_linesof := G5.topDef KX G G5.b_linesof (by k_is) (by k_is) (by k_is) (by k_is)
  have d_paid := G5.topDef KX G G5.b_paid (by k_is) (by k_is) (by k_is) (by k_is)
  have d_worth := G5.topDef KX G G5.b_worth (by k_is) (by k_is) (by k_is) (by k_is)
  have d_idle := G5.topDef KX G G5.b_idle (by k_is) (by k_is) (by k_is) (by k_is)
  have d_linesby := G5.topDef KX G G5.b_linesby (by k_is) (by k_is) (by k_is) (by k_is)
  have d_setcosts := G5.topDef KX G G5.b_setcosts (by k_is) (by k_is) (by k_is) (by k_is)
  have d_countsby := G5.topDef KX G G5.b_countsby (by k_is) (by k_is) (by k_is) (by k_is)
  have d_members := G5.topDef KX G G5.b_members (by k_is) (by k_is) (by k_is) (by k_is)
  have d_together := G5.topDef KX G G5.b_together (by k_is) (by k_is) (by k_is) (by k_is)
  have d_reading := G5.topDef KX G G5.b_reading (by k_is) (by k_is) (by k_is) (by k_is)
  have d_bestset := G5.topDef KX G G5.b_bestset (by k_is) (by k_is) (by k_is) (by k_is)
  have d_codes := G5.topDef KX G G5.b_codes (by k_is) (by k_is) (by k_is) (by k_is)
  have d_letter := G5.topDef KX G G5.b_letter (by k_is) (by k_is) (by k_is) (by k_is)
  have d_digit := G5.topDef KX G G5.b_digit (by k_is) (by k_is) (by k_is) (by k_is)
  have d_begin := G5.topDef KX G G5.b_begin (by k_is) (by k_is) (by k_is) (by k_is)
  have d_wordof := G5.topDef KX G G5.b_wordof (by k_is) (by k_is) (by k_is) (by k_is)
  have d_nameat := G5.topDef KX G G5.b_nameat (by k_is) (by k_is) (by k_is) (by k_is)
  have d_numat := G5.topDef KX G G5.b_numat (by k_is) (by k_is) (by k_is) (by k_is)
  have d_tokat := G5.topDef KX G G5.b_tokat (by k_is) (by k_is) (by k_is) (by k_is)
  have d_tokensof := G5.topDef KX G G5.b_tokensof (by k_is) (by k_is) (by k_is) (by k_is)
  have d_here := G5.topDef KX G G5.b_here (by k_is) (by k_is) (by k_is) (by k_is)
  have d_ishere := G5.topDef KX G G5.b_ishere (by k_is) (by k_is) (by k_is) (by k_is)
  have d_need := G5.topDef KX G G5.b_need (by k_is) (by k_is) (by k_is) (by k_is)
  have d_take := G5.topDef KX G G5.b_take (by k_is) (by k_is) (by k_is) (by k_is)
  have d_takeif := G5.topDef KX G G5.b_takeif (by k_is) (by k_is) (by k_is) (by k_is)
  have d_taken := G5.topDef KX G G5.b_taken (by k_is) (by k_is) (by k_is) (by k_is)
  have d_cols := G5.topDef KX G G5.b_cols (by k_is) (by k_is) (by k_is) (by k_is)
  have d_row := G5.topDef KX G G5.b_row (by k_is) (by k_is) (by k_is) (by k_is)
  have d_grp := G5.topDef KX G G5.b_grp (by k_is) (by k_is) (by k_is) (by k_is)
  have d_que := G5.topDef KX G G5.b_que (by k_is) (by k_is) (by k_is) (by k_is)
  have d_read := G5.topDef KX G G5.b_read (by k_is) (by k_is) (by k_is) (by k_is)
  have d_numb := G5.topDef KX G G5.b_numb (by k_is) (by k_is) (by k_is) (by k_is)
  have d_listed := G5.topDef KX G G5.b_listed (by k_is) (by k_is) (by k_is) (by k_is)
  have d_rowb := G5.topDef KX G G5.b_rowb (by k_is) (by k_is) (by k_is) (by k_is)
  have d_queb := G5.topDef KX G G5.b_queb (by k_is) (by k_is) (by k_is) (by k_is)
  have d_text := G5.topDef KX G G5.b_text (by k_is) (by k_is) (by k_is) (by k_is)
  have d_askso := G5.topDef KX G G5.b_askso (by k_is) (by k_is) (by k_is) (by k_is)
  have d_told := G5.topDef KX G G5.b_told (by k_is) (by k_is) (by k_is) (by k_is)
  have d_keptt := G5.topDef KX G G5.b_keptt (by k_is) (by k_is) (by k_is) (by k_is)
  have d_quest := G5.topDef KX G G5.b_quest (by k_is) (by k_is) (by k_is) (by k_is)
  have d_copied := G5.topDef KX G G5.b_copied (by k_is) (by k_is) (by k_is) (by k_is)
  have d_changed := G5.topDef KX G G5.b_changed (by k_is) (by k_is) (by k_is) (by k_is)
  have d_askq := G5.topDef KX G G5.b_askq (by k_is) (by k_is) (by k_is) (by k_is)
  have d_askg := G5.topDef KX G G5.b_askg (by k_is) (by k_is) (by k_is) (by k_is)
  have d_times := G5.topDef KX G G5.b_times (by k_is) (by k_is) (by k_is) (by k_is)
  have d_ask := G5.topDef KX G G5.b_ask (by k_is) (by k_is) (by k_is) (by k_is)
  have d_drop := G5.topDef KX G G5.b_drop (by k_is) (by k_is) (by k_is) (by k_is)
  have d_terms := G5.topDef KX G G5.b_terms (by k_is) (by k_is) (by k_is) (by k_is)
  have d_addrow := G5.topDef KX G G5.b_addrow (by k_is) (by k_is) (by k_is) (by k_is)
  have d_shown := G5.topDef KX G G5.b_shown (by k_is) (by k_is) (by k_is) (by k_is)
  have d_report := G5.topDef KX G G5.b_report (by k_is) (by k_is) (by k_is) (by k_is)
  have d_advise := G5.topDef KX G G5.b_advise (by k_is) (by k_is) (by k_is) (by k_is)
  have d_takeb := G5.topDef KX G G5.b_takeb (by k_is) (by k_is) (by k_is) (by k_is)
  have d_keep := G5.topDef KX G G5.b_keep (by k_is) (by k_is) (by k_is) (by k_is)
  have d_undo := G5.topDef KX G G5.b_undo (by k_is) (by k_is) (by k_is) (by k_is)
  have d_load := G5.topDef KX G G5.b_load (by k_is) (by k_is) (by k_is) (by k_is)
  have d_answer := G5.topDef KX G G5.b_answer (by k_is) (by k_is) (by k_is) (by k_is)
  have d_callat := G5.topDef KX G G5.b_callat (by k_is) (by k_is) (by k_is) (by k_is)
  have A : G5.Tops _ mg (G5.Cs.mk _ _ _ _ _ _ _ _) _ := ⟨m_best, m_fault, m_tok, m_rd, m_tab, m_refused, m_stk, m_hold, d_count, d_group, d_size, d_sizes, d_readby, d_cost, d_costs, d_linesof, d_paid, d_worth, d_idle, d_linesby, d_setcosts, d_countsby, d_members, d_together, d_reading, d_bestset, d_codes, d_letter, d_digit, d_begin, d_wordof, d_nameat, d_numat, d_tokat, d_tokensof, d_here, d_ishere, d_need, d_take, d_takeif, d_taken, d_cols, d_row, d_grp, d_que, d_read, d_numb, d_listed, d_rowb, d_queb, d_text, d_askso, d_told, d_keptt, d_quest, d_copied, d_changed, d_askq, d_askg, d_times, d_ask, d_drop, d_terms, d_addrow, d_shown, d_report, d_advise, d_takeb, d_keep, d_undo, d_load, d_answer, d_callat, d_readable⟩
  exact G5.end_mk KX G hmg g A (TT "readable" _ _ (by decide +kernel) (G5.tab_is (by k_is) (by k_is) rfl (by k_is) rfl)) (by rfl) (by k_is) (by k_is) (by k_is) (by k_is)
#print axioms PySem.Challenge.cw_readyanswers_s01_answers_holds
