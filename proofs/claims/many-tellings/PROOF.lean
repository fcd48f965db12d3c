import PyProof.Rows.All
import Wide.All
import OpenK.AllK
import Wide.FinOn
import HandS.ForMost
import HandS.Slots
import HandS.SlotsOwn
import HandS.Defaults
import HandS.Lambda
import HandS.Star
import HandS.IsInst
import HandS.WordsExc
import HandS.Zip
import HandS.Walk
import KE.GoesEnum
import HandS.HeadHook1
import HandS.HeadHook2
import HandS.HeadHook3
import HandS.HeadHook4
import PySem.Challenge.RW_drawnpanel_k40_whole_many_tellings
import OpenK.KOps
import HandS.Conv
import HandS.DictComp
import HandS.Dict
import HandS.SortKw
import KE.DataMinKey
import KE.KDictKeyed
import KE.KDictOf
import HandS.Style
import HandS.Iter
import KE.KDictWalk
import HandS.ExcOwn
import HandS.Zip0
import KE.KeyNested
import HandS.TupSets
import HandS.TryMany
import HandS.TupAny
import HandS.DictTup
import KE.KStateDown
import KE.KNestM
import Lean
import HandS.Ends
import HandS.More
import HandS.Words
import HandS.Head0
import HandS.Head1
import HandS.Head2
import HandS.HeadEnd
import HandS.EndBits
import HandS.EndTab
import HandS.HeadWalk
set_option Elab.async false
set_option linter.all false
set_option maxRecDepth 100000
set_option maxHeartbeats 1000000
/-! Pan: a symbolic walk over the hand layer. Gr: how heaps grow; Pr: what is known of a value, kept as the heap grows; EE, ET, EA: an expression, a test, arguments at given slots and heap; SS, S1: a block, a statement. -/
namespace Pan
open PySem PySem.Spec PyProof.Rows L2

section
variable (T : List (Addr × Str))
/-- the heap has grown: what was tracked stands (tables may be longer), the tables stay good, nothing vanishes -/
structure Gr (H H' : Hp) : Prop where
  ext : LamX.ExtN H H'
  tab : LamX.Tabs T H → LamX.Tabs T H'
  old : ∀ b, H' b = none → H b = none
/-- what is known of a value -/
structure Pr where
  p : V → Hp → Prop
  st : ∀ v H H', Gr T H H' → p v H → p v H'
end
section
variable {T : List (Addr × Str)} {H H' H1 H2 H3 : Hp}
theorem Gr.refl (H : Hp) : Gr T H H := ⟨LamX.ExtN.refl H, id, fun _ h => h⟩
theorem Gr.trans (a : Gr T H H1) (b : Gr T H1 H2) : Gr T H H2 := ⟨a.ext.trans b.ext, fun t => b.tab (a.tab t), fun c h => a.old c (b.old c h)⟩
theorem Gr.of_same (s : Same H H') : Gr T H H' := ⟨LamX.ExtN.of s, fun t => t.ext s, fun _ h => s.free h⟩
theorem same_new {p : Addr} {o : HO} (h : H p = none) : Same H (upd H p o) := fun a u e => (upd_ne (ne_of_none e h)).trans e
theorem Gr.new {p : Addr} {o : HO} (h : H p = none) : Gr T H (upd H p o) := .of_same (same_new h)
/-- the object at p is neither a table nor a code object -/
def Calm (H : Hp) (p : Addr) : Prop := (∃ o, H p = some o ∧ ∀ ps, o ≠ .tbl ps) ∧ ∀ c q, H c = some (LamX.CodeO c q) → c ≠ p
theorem tabs_upd {p : Addr} {o : HO} (t : LamX.Tabs T H) (c : Calm H p) : LamX.Tabs T (upd H p o) := by
  obtain ⟨⟨u, hu, nu⟩, nc⟩ := c
  intro z hz
  obtain ⟨ps, a1, a2, a3⟩ := t z hz
  have n1 : z.1 ≠ p := fun e => by
    rw [e, hu] at a1
    exact nu ps (Option.some.inj a1)
  refine ⟨ps, (upd_ne n1).trans a1, a2, fun pos cv hc => ?_⟩
  obtain ⟨d, e1, e2⟩ := a3 pos cv hc
  exact ⟨d, e1, (upd_ne (nc d _ e2)).trans e2⟩
/-- an object that the heap H does not track may change -/
theorem Gr.mut {p : Addr} {o : HO} (g : Gr T H H') (h : H p = none) (c : Calm H' p) : Gr T H (upd H' p o) := by
  refine ⟨fun a u ha hn => ?_, fun t => tabs_upd (g.tab t) c, fun b hb => ?_⟩
  · rw [upd_ne (ne_of_none ha h)]
    exact g.ext a u ha hn
  · by_cases e : b = p
    · rw [e]
      exact h
    · rw [upd_ne e] at hb
      exact g.old b hb
theorem calm_of {p : Addr} {o : HO} (h : H p = some o) (h1 : ∀ ps, o ≠ .tbl ps) (h2 : ∀ φ, o ≠ .ext φ) : Calm H p := by
  refine ⟨⟨o, h, h1⟩, fun c q hc e => ?_⟩
  rw [e, h] at hc
  unfold LamX.CodeO at hc
  exact h2 _ (Option.some.inj hc)
theorem calm_lst {p : Addr} {xs : List V} (h : H p = some (.lst xs)) : Calm H p := calm_of h (fun _ z => nomatch z) fun _ z => nomatch z
theorem calm_dK {p : Addr} {xs : List (Key × V)} (h : H p = some (.dK xs)) : Calm H p := calm_of h (fun _ z => nomatch z) fun _ z => nomatch z
theorem calm_dT {p : Addr} {xs : List (List Key × V)} (h : H p = some (.dT xs)) : Calm H p := calm_of h (fun _ z => nomatch z) fun _ z => nomatch z
theorem Gr.lst {p : Addr} {xs : List V} (g : Gr T H H') (h : H p = some (.lst xs)) : H' p = some (.lst xs) := g.ext p _ h fun _ z => nomatch z
theorem Gr.tup {p : Addr} {xs : List V} (g : Gr T H H') (h : H p = some (.tup xs)) : H' p = some (.tup xs) := g.ext p _ h fun _ z => nomatch z
theorem Gr.dK {p : Addr} {xs : List (Key × V)} (g : Gr T H H') (h : H p = some (.dK xs)) : H' p = some (.dK xs) := g.ext p _ h fun _ z => nomatch z
theorem Gr.dT {p : Addr} {xs : List (List Key × V)} (g : Gr T H H') (h : H p = some (.dT xs)) : H' p = some (.dT xs) := g.ext p _ h fun _ z => nomatch z
theorem Gr.frz {p : Addr} {o : Obj} {u : HO} (g : Gr T H H') (h : H p = some (.frz o u)) : H' p = some (.frz o u) := g.ext p _ h fun _ z => nomatch z
theorem Gr.rd {p : Addr} {u : HO} (g : Gr T H H') (n : ∀ ps, u ≠ .tbl ps) (h : Rd H p u) : Rd H' p u := by
  rcases h with h | ⟨o, h⟩
  · exact .inl (g.ext p _ h n)
  · exact .inr ⟨o, g.frz h⟩
theorem Gr.sqL {K : PySem.W.Frag} {p : Addr} {xs : List V} (g : Gr T H H') (h : SqL K H p xs) : SqL K H' p xs := by
  rcases h with h | h
  · exact .inl (g.rd (fun _ z => nomatch z) h)
  · exact .inr h
theorem Gr.sqT {K : PySem.W.Frag} {p : Addr} {xs : List V} (g : Gr T H H') (h : SqT K H p xs) : SqT K H' p xs := by
  rcases h with h | h
  · exact .inl (g.rd (fun _ z => nomatch z) h)
  · exact .inr h

/-! ### what is known of values -/
/-- it is v -/
def eqP (v : V) : Pr T := ⟨fun u _ => u = v, fun _ _ _ _ h => h⟩
/-- all of a list -/
def All2 {α : Type} (R : α → Pr T) : List V → List α → Hp → Prop
  | [], [], _ => True
  | v :: vs, x :: xs, H => (R x).p v H ∧ All2 R vs xs H
  | _, _, _ => False
theorem All2.st {α : Type} {R : α → Pr T} (g : Gr T H H') : ∀ {vs : List V} {xs : List α}, All2 R vs xs H → All2 R vs xs H'
  | [], [], _ => trivial
  | _ :: _, _ :: _, h => ⟨(R _).st _ _ _ g h.1, All2.st g h.2⟩
  | [], _ :: _, h => h.elim
  | _ :: _, [], h => h.elim
theorem All2.length {α : Type} {R : α → Pr T} : ∀ {vs : List V} {xs : List α}, All2 R vs xs H → vs.length = xs.length
  | [], [], _ => rfl
  | _ :: _, _ :: _, h => congrArg (· + 1) (All2.length h.2)
  | [], _ :: _, h => h.elim
  | _ :: _, [], h => h.elim
theorem All2.get {α : Type} {R : α → Pr T} : ∀ {vs : List V} {xs : List α} {i : Nat} {v : V}, All2 R vs xs H → vs[i]? = some v → ∃ x, xs[i]? = some x ∧ (R x).p v H
  | [], [], i, v, _, e => by simp at e
  | u :: _, x :: _, 0, v, h, e => ⟨x, rfl, by rw [← Option.some.inj e]; exact h.1⟩
  | _ :: vs, _ :: xs, i + 1, v, h, e => All2.get (i := i) (vs := vs) (xs := xs) h.2 e
  | [], _ :: _, _, _, h, _ => h.elim
  | _ :: _, [], _, _, h, _ => h.elim
theorem All2.get2 {α : Type} {R : α → Pr T} : ∀ {vs : List V} {xs : List α} {i : Nat} {x : α}, All2 R vs xs H → xs[i]? = some x → ∃ v, vs[i]? = some v ∧ (R x).p v H
  | [], [], i, v, _, e => by simp at e
  | u :: _, x :: _, 0, v, h, e => ⟨u, rfl, by rw [← Option.some.inj e]; exact h.1⟩
  | _ :: vs, _ :: xs, i + 1, v, h, e => All2.get2 (i := i) (vs := vs) (xs := xs) h.2 e
  | [], _ :: _, _, _, h, _ => h.elim
  | _ :: _, [], _, _, h, _ => h.elim
theorem All2.snoc {α : Type} {R : α → Pr T} {v : V} {x : α} : ∀ {vs : List V} {xs : List α}, All2 R vs xs H → (R x).p v H → All2 R (vs ++ [v]) (xs ++ [x]) H
  | [], [], _, h => ⟨h, trivial⟩
  | _ :: _, _ :: _, a, h => ⟨a.1, All2.snoc a.2 h⟩
  | [], _ :: _, h, _ => h.elim
  | _ :: _, [], h, _ => h.elim
theorem All2.set {α : Type} {R : α → Pr T} {v : V} {x : α} (h : (R x).p v H) : ∀ {vs : List V} {xs : List α} (i : Nat), All2 R vs xs H → All2 R (vs.set i v) (xs.set i x) H
  | [], [], _, a => a
  | _ :: _, _ :: _, 0, a => ⟨h, a.2⟩
  | _ :: _, _ :: _, i + 1, a => ⟨a.1, All2.set h i a.2⟩
  | [], _ :: _, _, a => a.elim
  | _ :: _, [], _, a => a.elim
theorem All2.map {α β : Type} {R : β → Pr T} {f : α → β} : ∀ {vs : List V} {xs : List α}, All2 (fun x => R (f x)) vs xs H → All2 R vs (xs.map f) H
  | [], [], _ => trivial
  | _ :: _, _ :: _, h => ⟨h.1, All2.map h.2⟩
  | [], _ :: _, h => h.elim
  | _ :: _, [], h => h.elim
theorem All2.imp {α β : Type} {R : β → Pr T} {S : α → Pr T} {f : α → β} (k : ∀ v x, (S x).p v H → (R (f x)).p v H) : ∀ {vs : List V} {xs : List α}, All2 S vs xs H → All2 R vs (xs.map f) H
  | [], [], _ => trivial
  | _ :: _, _ :: _, h => ⟨k _ _ h.1, All2.imp k h.2⟩
  | [], _ :: _, h => h.elim
  | _ :: _, [], h => h.elim
theorem All2.take {α : Type} {R : α → Pr T} : ∀ {vs : List V} {xs : List α} (n : Nat), All2 R vs xs H → All2 R (vs.take n) (xs.take n) H
  | [], [], n, _ => by simp [All2]
  | _ :: _, _ :: _, 0, _ => trivial
  | _ :: _, _ :: _, n + 1, h => ⟨h.1, All2.take n h.2⟩
  | [], _ :: _, _, h => h.elim
  | _ :: _, [], _, h => h.elim
theorem All2.drop {α : Type} {R : α → Pr T} : ∀ {vs : List V} {xs : List α} (n : Nat), All2 R vs xs H → All2 R (vs.drop n) (xs.drop n) H
  | [], [], n, _ => by simp [All2]
  | _ :: _, _ :: _, 0, h => h
  | _ :: vs, _ :: xs, n + 1, h => All2.drop (vs := vs) (xs := xs) n h.2
  | [], _ :: _, _, h => h.elim
  | _ :: _, [], _, h => h.elim
theorem All2.app {α : Type} {R : α → Pr T} : ∀ {vs us : List V} {xs ys : List α}, All2 R vs xs H → All2 R us ys H → All2 R (vs ++ us) (xs ++ ys) H
  | [], _, [], _, _, h => h
  | _ :: _, _, _ :: _, _, a, h => ⟨a.1, All2.app a.2 h⟩
  | [], _, _ :: _, _, h, _ => h.elim
  | _ :: _, _, [], _, h, _ => h.elim
/-- an int -/
def intP (i : Int) : Pr T := eqP (.int i)
theorem ints_all : ∀ {vs : List V} {ns : List Int}, All2 (T := T) intP vs ns H → vs = ns.map V.int
  | [], [], _ => rfl
  | v :: vs, n :: ns, h => by
    have e : v = V.int n := h.1
    rw [e, ints_all h.2]
    rfl
  | [], _ :: _, h => h.elim
  | _ :: _, [], h => h.elim
theorem all_ints : ∀ (ns : List Int), All2 (T := T) intP (ns.map V.int) ns H
  | [] => trivial
  | _ :: ns => ⟨rfl, all_ints ns⟩
/-- a tuple, a list of these -/
def tupP (K : PySem.W.Frag) {α : Type} (R : α → Pr T) (xs : List α) : Pr T :=
  ⟨fun v H => ∃ a vs, v = .ref a ∧ SqT K H a vs ∧ All2 R vs xs H, fun _ _ _ g ⟨a, vs, e, h, k⟩ => ⟨a, vs, e, g.sqT h, k.st g⟩⟩
def lstP (K : PySem.W.Frag) {α : Type} (R : α → Pr T) (xs : List α) : Pr T :=
  ⟨fun v H => ∃ a vs, v = .ref a ∧ SqL K H a vs ∧ All2 R vs xs H, fun _ _ _ g ⟨a, vs, e, h, k⟩ => ⟨a, vs, e, g.sqL h, k.st g⟩⟩
/-- a tuple of ints; a fraction -/
abbrev itP (K : PySem.W.Frag) (ns : List Int) : Pr T := tupP K intP ns
abbrev frP (K : PySem.W.Frag) (q : Int × Int) : Pr T := itP K [q.1, q.2]
/-- values that satisfy predicates one by one -/
def Sat : List (Pr T) → List V → Hp → Prop
  | [], [], _ => True
  | P :: Ps, v :: vs, H => P.p v H ∧ Sat Ps vs H
  | _, _, _ => False
theorem Sat.st (g : Gr T H H') : ∀ {Ps : List (Pr T)} {vs : List V}, Sat Ps vs H → Sat Ps vs H'
  | [], [], _ => trivial
  | P :: _, _ :: _, h => ⟨P.st _ _ _ g h.1, Sat.st g h.2⟩
  | [], _ :: _, h => h.elim
  | _ :: _, [], h => h.elim
theorem Sat.len : ∀ {Ps : List (Pr T)} {vs : List V}, Sat Ps vs H → vs.length = Ps.length
  | [], [], _ => rfl
  | _ :: _, _ :: _, h => congrArg (· + 1) (Sat.len h.2)
  | [], _ :: _, h => h.elim
  | _ :: _, [], h => h.elim
theorem sat_size {Ps : List (Pr T)} {vs : List V} (hl : Nat.ble Ps.length 1000 = true) (h : Sat Ps vs H) : vs.length ≤ sizeLine := by
  rw [h.len]
  exact Nat.le_trans (Nat.le_of_ble_eq_true hl) (by decide)
theorem Sat.app : ∀ {Ps Qs : List (Pr T)} {vs us : List V}, Sat Ps vs H → Sat Qs us H → Sat (Ps ++ Qs) (vs ++ us) H
  | [], _, [], _, _, h => h
  | _ :: _, _, _ :: _, _, a, h => ⟨a.1, Sat.app a.2 h⟩
  | [], _, _ :: _, _, h, _ => h.elim
  | _ :: _, _, [], _, h, _ => h.elim
end

/-! ### judgements -/
section
variable (T : List (Addr × Str))
def EE (X : Cx) (e : Expr) (σ : L2.St) (H : Hp) (P : Pr T) : Prop := PE X e fun σ' H1 Q => σ' = σ ∧ Gr T H H1 ∧ ∀ v H2, Gr T H1 H2 → P.p v H2 → Q v H2
def ET (X : Cx) (e : Expr) (σ : L2.St) (H : Hp) (b : Bool) : Prop := PT X e fun σ' H1 Q => σ' = σ ∧ Gr T H H1 ∧ ∀ H2, Gr T H1 H2 → Q b H2
def EW (X : Cx) (e : Expr) (σ : L2.St) (H : Hp) (b : Bool) : Prop := PW X e fun σ' H1 Q => σ' = σ ∧ Gr T H H1 ∧ ∀ H2, Gr T H1 H2 → Q b H2
def EA (X : Cx) (es : List Expr) (σ : L2.St) (H : Hp) (Ps : List (Pr T)) : Prop := PA X es fun σ' H1 Q => σ' = σ ∧ Gr T H H1 ∧ ∀ vs H2, Gr T H1 H2 → Sat Ps vs H2 → Q vs H2
def SS (_ : List (Addr × Str)) (X : Cx) (sts : List Stmt) (σ : L2.St) (H : Hp) (D : Ends) : Prop := PSs X sts fun D' σ' H' => D' = D ∧ σ' = σ ∧ H' = H
def S1 (_ : List (Addr × Str)) (X : Cx) (st : Stmt) (σ : L2.St) (H : Hp) (D : Ends) : Prop := PS X st fun D' σ' H' => D' = D ∧ σ' = σ ∧ H' = H
end
section
variable {T : List (Addr × Str)} {X : Cx} {e a b c : Expr} {es : List Expr} {σ : L2.St} {H : Hp} {P : Pr T} {Ps : List (Pr T)} {pos : Pos} {D : Ends} {st : Stmt} {sts rest : List Stmt} {k : Bool}
theorem EE.of {t : TE} (h : PE X e t) (q : ∀ H1, Gr T H H1 → ∀ Q : VK, (∀ v H2, Gr T H1 H2 → P.p v H2 → Q v H2) → t σ H1 Q) : EE T X e σ H P :=
  ⟨fun pins s σ' H1 Q I ⟨e1, g, r⟩ => by rw [e1] at I ⊢; exact h.run pins s σ H1 Q I (q H1 g Q r)⟩
theorem ET.of {t : TT} (h : PT X e t) (q : ∀ H1, Gr T H H1 → ∀ Q : Bool → Hp → Prop, (∀ H2, Gr T H1 H2 → Q k H2) → t σ H1 Q) : ET T X e σ H k :=
  ⟨fun pins s σ' H1 Q I ⟨e1, g, r⟩ => by rw [e1] at I ⊢; exact h.run pins s σ H1 Q I (q H1 g Q r)⟩
theorem EW.of {t : TT} (h : PW X e t) (q : ∀ H1, Gr T H H1 → ∀ Q : Bool → Hp → Prop, (∀ H2, Gr T H1 H2 → Q k H2) → t σ H1 Q) : EW T X e σ H k :=
  ⟨fun w pins s σ' H1 Q I ⟨e1, g, r⟩ => by rw [e1] at I ⊢; exact h.run w pins s σ H1 Q I (q H1 g Q r)⟩
theorem EA.of {t : TA} (h : PA X es t) (q : ∀ H1, Gr T H H1 → ∀ Q : List V → Hp → Prop, (∀ vs H2, Gr T H1 H2 → Sat Ps vs H2 → Q vs H2) → t σ H1 Q) : EA T X es σ H Ps :=
  ⟨fun w pins s σ' H1 Q I ⟨e1, g, r⟩ => by rw [e1] at I ⊢; exact h.run w pins s σ H1 Q I (q H1 g Q r)⟩
theorem SS.of {t : TS} (h : PSs X sts t) (q : t D σ H) : SS T X sts σ H D :=
  ⟨fun pins s σ' H1 D' I ⟨e1, e2, e3⟩ => by rw [e2, e3] at I; rw [e1]; exact h.run pins s σ H D I q⟩
theorem S1.of {t : TS} (h : PS X st t) (q : t D σ H) : S1 T X st σ H D :=
  ⟨fun pins s σ' H1 D' I ⟨e1, e2, e3⟩ => by rw [e2, e3] at I; rw [e1]; exact h.run pins s σ H D I q⟩
end
/-! ### expressions -/
section
variable {T : List (Addr × Str)} {X : Cx} {e a b c : Expr} {es : List Expr} {σ : L2.St} {H : Hp} {P P1 P2 : Pr T} {Ps : List (Pr T)} {pos : Pos} {i j k : Int} {v : V} {t u : Bool}
theorem EE.imp {P' : Pr T} (h : EE T X e σ H P) (q : ∀ v H1, Gr T H H1 → P.p v H1 → P'.p v H1) : EE T X e σ H P' :=
  EE.of h fun H1 g Q r => ⟨rfl, g, fun v H2 g2 hv => r v H2 g2 (q v H2 (g.trans g2) hv)⟩
theorem EE.mono {H' : Hp} (h : EE T X e σ H P) (g : Gr T H H') : EE T X e σ H' P := EE.of h fun _ g1 _ r => ⟨rfl, g.trans g1, r⟩
theorem ET.mono {H' : Hp} (h : ET T X e σ H t) (g : Gr T H H') : ET T X e σ H' t := ET.of h fun _ g1 _ r => ⟨rfl, g.trans g1, r⟩
theorem EA.mono {H' : Hp} (h : EA T X es σ H Ps) (g : Gr T H H') : EA T X es σ H' Ps := EA.of h fun _ g1 _ r => ⟨rfl, g.trans g1, r⟩
theorem ee_int {n : Int} {z : Nat} : EE T X (.Constant (.int n) z pos) σ H (intP n) := EE.of pe_int fun H1 _ _ r => r _ H1 (.refl _) rfl
theorem ee_str {n : Str} {z : Nat} : EE T X (.Constant (.str n) z pos) σ H (eqP (.str n)) := EE.of pe_str fun H1 _ _ r => r _ H1 (.refl _) rfl
theorem ee_bl {n : Bool} {z : Nat} : EE T X (.Constant (.bool n) z pos) σ H (eqP (.bl n)) := EE.of pe_bl fun H1 _ _ r => r _ H1 (.refl _) rfl
theorem ee_non {z : Nat} : EE T X (.Constant .none z pos) σ H (eqP .non) := EE.of pe_non fun H1 _ _ r => r _ H1 (.refl _) rfl
/-- a name in slot n -/
theorem ee_var (n : Nat) {x : Str} (hs : σ[n]? = some (some v)) (hp : P.p v H) (hN : X.N[n]? = some x := by rfl) (hv : Vis X.env.scope x := by first | exact Or.inl rfl | exact Or.inr (Or.inl rfl) | exact Or.inr (Or.inr rfl))
    (hd : (x == ("__debug__" : Str)) = false := by decide) (hcd : (x == ("__classdict__" : Str)) = false := by decide) : EE T X (.Name x pos) σ H P :=
  EE.of (pe_var (i := n) hN hv hd hcd) fun H1 g Q r => ⟨v, hs, r v H1 (.refl _) (P.st _ _ _ g hp)⟩
/-- .. told by its value -/
theorem ee_v (n : Nat) {x : Str} (hs : σ[n]? = some (some v)) (hN : X.N[n]? = some x := by rfl) (hv : Vis X.env.scope x := by first | exact Or.inl rfl | exact Or.inr (Or.inl rfl) | exact Or.inr (Or.inr rfl))
    (hd : (x == ("__debug__" : Str)) = false := by decide) (hcd : (x == ("__classdict__" : Str)) = false := by decide) : EE T X (.Name x pos) σ H (eqP v) := ee_var n hs rfl hN hv hd hcd
/-- a constant of the module -/
theorem ee_glob {x : Str} {w : Value} (hm : X.mg x = some w) (r : RelV v w) (hp : P.p v H) (hg : Gl X x := by rfl) (hd : (x == ("__debug__" : Str)) = false := by decide) : EE T X (.Name x pos) σ H P :=
  EE.of (pe_glob hg hm r hd) fun H1 g Q q => q v H1 (.refl _) (P.st _ _ _ g hp)
/-- an operation on two values, told by what it gives -/
theorem ee_op {op : Operator} {r : R2} (ho : OpR X (binaryOp op) r) (ha : EE T X a σ H P1) (hb : EE T X b σ H P2)
    (q : ∀ x y H1, Gr T H H1 → P1.p x H1 → P2.p y H1 → ∀ Q : VK, (∀ v H2, Gr T H1 H2 → P.p v H2 → Q v H2) → r x y H1 Q) : EE T X (.BinOp a op b pos) σ H P :=
  EE.of (pe_op ho ha hb) fun H1 g Q z => ⟨rfl, g, fun x H2 g2 hx => ⟨rfl, g.trans g2, fun y H3 g3 hy => q x y H3 ((g.trans g2).trans g3) (P1.st _ _ _ g3 hx) hy Q fun v H4 g4 hv => z v H4 ((g2.trans g3).trans g4) hv⟩⟩
theorem ee_add (ha : EE T X a σ H (intP i)) (hb : EE T X b σ H (intP j)) : EE T X (.BinOp a .Add b pos) σ H (intP (i + j)) :=
  ee_op op_add ha hb fun x y H1 _ hx hy Q z => ⟨i, j, hx, hy, z _ H1 (.refl _) rfl⟩
theorem ee_sub (ha : EE T X a σ H (intP i)) (hb : EE T X b σ H (intP j)) : EE T X (.BinOp a .Sub b pos) σ H (intP (i - j)) :=
  ee_op op_sub ha hb fun x y H1 _ hx hy Q z => ⟨i, j, hx, hy, z _ H1 (.refl _) rfl⟩
theorem ee_mul (hc : CMul i j) (ha : EE T X a σ H (intP i)) (hb : EE T X b σ H (intP j)) : EE T X (.BinOp a .Mult b pos) σ H (intP (i * j)) :=
  ee_op op_mul ha hb fun x y H1 _ hx hy Q z => ⟨i, j, hx, hy, hc, z _ H1 (.refl _) rfl⟩
theorem ee_div (hc : CDiv i j) (ha : EE T X a σ H (intP i)) (hb : EE T X b σ H (intP j)) : EE T X (.BinOp a .FloorDiv b pos) σ H (intP (i / j)) :=
  ee_op op_fdiv ha hb fun x y H1 _ hx hy Q z => ⟨i, j, hx, hy, hc, z _ H1 (.refl _) rfl⟩
theorem ee_mod (hc : 0 < j) (ha : EE T X a σ H (intP i)) (hb : EE T X b σ H (intP j)) : EE T X (.BinOp a .Mod b pos) σ H (intP (i % j)) :=
  ee_op op_mod ha hb fun x y H1 _ hx hy Q z => ⟨i, j, hx, hy, hc, z _ H1 (.refl _) rfl⟩
theorem ee_neg (ha : EE T X a σ H (intP i)) : EE T X (.UnaryOp .USub a pos) σ H (intP (-i)) :=
  EE.of (pe_un un_neg ha) fun H1 g Q z => ⟨rfl, g, fun x H2 g2 hx => ⟨i, hx, z _ H2 g2 rfl⟩⟩
/-- a comparison of two values, told by its answer -/
theorem ee_cmp {op : CmpOp} {r : R2} (ho : OpR X (compareOp op) r) (hm : behindInMarks op b = false) (ha : EE T X a σ H P1) (hb : EE T X b σ H P2)
    (q : ∀ x y H1, Gr T H H1 → P1.p x H1 → P2.p y H1 → ∀ Q : VK, (∀ H2, Gr T H1 H2 → Q (.bl t) H2) → r x y H1 Q) : EE T X (.Compare a [op] [b] pos) σ H (eqP (.bl t)) :=
  EE.of (pe_cmpR ho ha hb hm) fun H1 g Q z => ⟨rfl, g, fun x H2 g2 hx => ⟨rfl, g.trans g2, fun y H3 g3 hy => q x y H3 ((g.trans g2).trans g3) (P1.st _ _ _ g3 hx) hy Q fun H4 g4 => z _ H4 ((g2.trans g3).trans g4) rfl⟩⟩
theorem ee_lt (ha : EE T X a σ H (intP i)) (hb : EE T X b σ H (intP j)) : EE T X (.Compare a [.Lt] [b] pos) σ H (eqP (.bl (decide (i < j)))) :=
  ee_cmp op_lt (nomark _) ha hb fun x y H1 _ hx hy Q z => ⟨i, j, hx, hy, z H1 (.refl _)⟩
theorem ee_le (ha : EE T X a σ H (intP i)) (hb : EE T X b σ H (intP j)) : EE T X (.Compare a [.LtE] [b] pos) σ H (eqP (.bl (decide (i ≤ j)))) :=
  ee_cmp op_le (nomark _) ha hb fun x y H1 _ hx hy Q z => ⟨i, j, hx, hy, z H1 (.refl _)⟩
theorem ee_gt (ha : EE T X a σ H (intP i)) (hb : EE T X b σ H (intP j)) : EE T X (.Compare a [.Gt] [b] pos) σ H (eqP (.bl (decide (j < i)))) :=
  ee_cmp op_gt (nomark _) ha hb fun x y H1 _ hx hy Q z => ⟨i, j, hx, hy, z H1 (.refl _)⟩
/-- == and != of scalars -/
theorem ee_eqS {x y : V} (hs : scal x y = true) (ha : EE T X a σ H (eqP x)) (hb : EE T X b σ H (eqP y)) : EE T X (.Compare a [.Eq] [b] pos) σ H (eqP (.bl (decide (x = y)))) :=
  ee_cmp op_eq (nomark _) ha hb fun x' y' H1 _ hx hy Q z => by
    obtain rfl : x' = x := hx
    obtain rfl : y' = y := hy
    exact ⟨hs, z H1 (.refl _)⟩
theorem ee_neS {x y : V} (hs : scal x y = true) (ha : EE T X a σ H (eqP x)) (hb : EE T X b σ H (eqP y)) : EE T X (.Compare a [.NotEq] [b] pos) σ H (eqP (.bl (!decide (x = y)))) :=
  ee_cmp op_ne (nomark _) ha hb fun x' y' H1 _ hx hy Q z => by
    obtain rfl : x' = x := hx
    obtain rfl : y' = y := hy
    exact ⟨hs, z H1 (.refl _)⟩
/-- is None, is not None; t: whether it is None -/
theorem ee_isN {z : Nat} {p2 : Pos} (hP : ∀ v H1, P.p v H1 → decide (v = V.non) = t) (ha : EE T X a σ H P) : EE T X (.Compare a [.Is] [.Constant .none z p2] pos) σ H (eqP (.bl t)) :=
  ee_cmp op_isN (nomark _) ha ee_non fun x y H1 _ hx hy Q z => ⟨hy, by rw [hP x H1 hx]; exact z H1 (.refl _)⟩
theorem ee_notN {z : Nat} {p2 : Pos} (hP : ∀ v H1, P.p v H1 → decide (v = V.non) = t) (ha : EE T X a σ H P) : EE T X (.Compare a [.IsNot] [.Constant .none z p2] pos) σ H (eqP (.bl (!t))) :=
  ee_cmp op_notN (nomark _) ha ee_non fun x y H1 _ hx hy Q z => ⟨hy, by rw [hP x H1 hx]; exact z H1 (.refl _)⟩
/-- one int in another two: a <= b <= c -/
theorem ee_chainLe (ha : EE T X a σ H (intP i)) (hb : EE T X b σ H (intP j)) (hc : EE T X c σ H (intP k)) (hm : lastMarks [CmpOp.LtE, CmpOp.LtE] [b, c] = false := by with_unfolding_all rfl) :
    EE T X (.Compare a [.LtE, .LtE] [b, c] pos) σ H (eqP (.bl (decide (i ≤ j) && decide (j ≤ k)))) :=
  EE.of (pe_chain op_le op_le ha hb hc hm) fun H1 g Q z => ⟨rfl, g, fun x H2 g2 hx => ⟨rfl, g.trans g2, fun y H3 g3 hy => ⟨i, j, hx, hy, decide (i ≤ j), rfl, by
    have g13 := g2.trans g3
    by_cases h : i ≤ j
    · rw [if_pos (decide_eq_true h)]
      refine ⟨rfl, g.trans g13, fun w H4 g4 hw => ⟨j, k, hy, hw, ?_⟩⟩
      have q := z _ H4 (g13.trans g4) rfl
      rw [decide_eq_true h, Bool.true_and] at q
      exact q
    · have q := z _ H3 g13 rfl
      rw [decide_eq_false h, Bool.false_and] at q
      rw [decide_eq_false h, if_neg Bool.false_ne_true]
      exact q⟩⟩⟩
/-! ### tests -/
theorem et_val (h : EE T X e σ H (eqP (.bl t))) (he : ∀ whole, isTrue e X.env whole = (do let v ← whole; standAt e.pos; holding [v] (truthy v)) := by intro _; rfl) : ET T X e σ H t := ET.of (pt_val h he) fun H1 g Q z => ⟨rfl, g, fun v H2 g2 hv => ⟨t, hv, z H2 g2⟩⟩
/-- a comparison as a test -/
theorem et_cmpO {op : CmpOp} {r : R2} (ho : OpR X (compareOp op) r) (hm : behindInMarks op b = false) (ha : EE T X a σ H P1) (hb : EE T X b σ H P2)
    (q : ∀ x y H1, Gr T H H1 → P1.p x H1 → P2.p y H1 → ∀ Q : VK, (∀ H2, Gr T H1 H2 → Q (.bl t) H2) → r x y H1 Q) : ET T X (.Compare a [op] [b] pos) σ H t :=
  ET.of (pt_cmpR ho ha hb hm) fun H1 g Q z => ⟨rfl, g, fun x H2 g2 hx => ⟨rfl, g.trans g2, fun y H3 g3 hy => q x y H3 ((g.trans g2).trans g3) (P1.st _ _ _ g3 hx) hy _ fun H4 g4 => ⟨t, rfl, z H4 ((g2.trans g3).trans g4)⟩⟩⟩
theorem et_lt (ha : EE T X a σ H (intP i)) (hb : EE T X b σ H (intP j)) : ET T X (.Compare a [.Lt] [b] pos) σ H (decide (i < j)) :=
  et_cmpO op_lt (nomark _) ha hb fun x y H1 _ hx hy Q z => ⟨i, j, hx, hy, z H1 (.refl _)⟩
theorem et_gt (ha : EE T X a σ H (intP i)) (hb : EE T X b σ H (intP j)) : ET T X (.Compare a [.Gt] [b] pos) σ H (decide (j < i)) :=
  et_cmpO op_gt (nomark _) ha hb fun x y H1 _ hx hy Q z => ⟨i, j, hx, hy, z H1 (.refl _)⟩
theorem et_eqS {x y : V} (hs : scal x y = true) (ha : EE T X a σ H (eqP x)) (hb : EE T X b σ H (eqP y)) : ET T X (.Compare a [.Eq] [b] pos) σ H (decide (x = y)) :=
  et_cmpO op_eq (nomark _) ha hb fun x' y' H1 _ hx hy Q z => by
    obtain rfl : x' = x := hx
    obtain rfl : y' = y := hy
    exact ⟨hs, z H1 (.refl _)⟩
theorem et_neS {x y : V} (hs : scal x y = true) (ha : EE T X a σ H (eqP x)) (hb : EE T X b σ H (eqP y)) : ET T X (.Compare a [.NotEq] [b] pos) σ H (!decide (x = y)) :=
  et_cmpO op_ne (nomark _) ha hb fun x' y' H1 _ hx hy Q z => by
    obtain rfl : x' = x := hx
    obtain rfl : y' = y := hy
    exact ⟨hs, z H1 (.refl _)⟩
theorem et_isN {z : Nat} {p2 : Pos} (hP : ∀ v H1, P.p v H1 → decide (v = V.non) = t) (ha : EE T X a σ H P) : ET T X (.Compare a [.Is] [.Constant .none z p2] pos) σ H t :=
  et_cmpO op_isN (nomark _) ha ee_non fun x y H1 _ hx hy Q z => ⟨hy, by rw [hP x H1 hx]; exact z H1 (.refl _)⟩
theorem et_notN {z : Nat} {p2 : Pos} (hP : ∀ v H1, P.p v H1 → decide (v = V.non) = t) (ha : EE T X a σ H P) : ET T X (.Compare a [.IsNot] [.Constant .none z p2] pos) σ H (!t) :=
  et_cmpO op_notN (nomark _) ha ee_non fun x y H1 _ hx hy Q z => ⟨hy, by rw [hP x H1 hx]; exact z H1 (.refl _)⟩
theorem et_chainLe (ha : EE T X a σ H (intP i)) (hb : EE T X b σ H (intP j)) (hc : EE T X c σ H (intP k)) (hm : lastMarks [CmpOp.LtE, CmpOp.LtE] [b, c] = false := by with_unfolding_all rfl) :
    ET T X (.Compare a [.LtE, .LtE] [b, c] pos) σ H (decide (i ≤ j) && decide (j ≤ k)) :=
  ET.of (pt_chain op_le op_le ha hb hc hm) fun H1 g Q z => ⟨rfl, g, fun x H2 g2 hx => ⟨rfl, g.trans g2, fun y H3 g3 hy => ⟨i, j, hx, hy, decide (i ≤ j), rfl, by
    have g13 := g2.trans g3
    by_cases h : i ≤ j
    · rw [if_pos (decide_eq_true h)]
      refine ⟨rfl, g.trans g13, fun w H4 g4 hw => ⟨j, k, hy, hw, ?_⟩⟩
      have q := z H4 (g13.trans g4)
      rw [decide_eq_true h, Bool.true_and] at q
      exact ⟨_, rfl, q⟩
    · have q := z H3 g13
      rw [decide_eq_false h, Bool.false_and] at q
      rw [decide_eq_false h, if_neg Bool.false_ne_true]
      exact ⟨_, rfl, q⟩⟩⟩⟩
theorem et_not (h : ET T X e σ H t) : ET T X (.UnaryOp .Not e pos) σ H (!t) := ET.of (pt_not h) fun H1 g Q z => ⟨rfl, g, fun H2 g2 => z H2 g2⟩
theorem ew_and1 (h : ET T X e σ H t) : EW T X (.BoolOp .And [e] pos) σ H t := EW.of (pw_and1 h) fun H1 g Q z => ⟨rfl, g, z⟩
theorem ew_or1 (h : ET T X e σ H t) : EW T X (.BoolOp .Or [e] pos) σ H t := EW.of (pw_or1 h) fun H1 g Q z => ⟨rfl, g, z⟩
theorem ew_and {rest : List Expr} (h : ET T X a σ H t) (h2 : t = true → ∀ H1, Gr T H H1 → EW T X (.BoolOp .And (b :: rest) pos) σ H1 u) : EW T X (.BoolOp .And (a :: b :: rest) pos) σ H (t && u) := by
  cases t with
  | true => exact EW.of (pw_and h (h2 rfl H (.refl _))) fun H1 g Q z => ⟨rfl, g, fun H2 g2 => iteT ⟨rfl, g.trans g2, fun H3 g3 => z H3 (g2.trans g3)⟩⟩
  | false => exact EW.of (pw_and h ⟨fun w pins s σ' H' Q I q => (q : False).elim⟩) fun H1 g Q z => ⟨rfl, g, fun H2 g2 => iteF (z H2 g2)⟩
theorem ew_or {rest : List Expr} (h : ET T X a σ H t) (h2 : t = false → ∀ H1, Gr T H H1 → EW T X (.BoolOp .Or (b :: rest) pos) σ H1 u) : EW T X (.BoolOp .Or (a :: b :: rest) pos) σ H (t || u) := by
  cases t with
  | true => exact EW.of (pw_or h ⟨fun w pins s σ' H' Q I q => (q : False).elim⟩) fun H1 g Q z => ⟨rfl, g, fun H2 g2 => iteT (z H2 g2)⟩
  | false => exact EW.of (pw_or h (h2 rfl H (.refl _))) fun H1 g Q z => ⟨rfl, g, fun H2 g2 => iteF ⟨rfl, g.trans g2, fun H3 g3 => z H3 (g2.trans g3)⟩⟩
theorem et_w (h : EW T X e σ H t) : ET T X e σ H t := ET.of (PW.pt h) fun H1 g Q z => ⟨rfl, g, z⟩
/-- and, or, not as values -/
theorem ee_one {op : BoolOp} (h : EE T X a σ H P) : EE T X (.BoolOp op [a] pos) σ H P := EE.of (pe_one h) fun H1 g Q z => ⟨rfl, g, z⟩
theorem ee_and {rest : List Expr} (h : EE T X a σ H (eqP (.bl t))) (h2 : t = true → EE T X (.BoolOp .And (b :: rest) pos) σ H (eqP (.bl u))) : EE T X (.BoolOp .And (a :: b :: rest) pos) σ H (eqP (.bl (t && u))) := by
  cases t with
  | true => exact EE.of (pe_and h (h2 rfl)) fun H1 g Q z => ⟨rfl, g, fun v H2 g2 hv => ⟨true, hv, iteT ⟨rfl, g.trans g2, fun w H3 g3 hw => z w H3 (g2.trans g3) hw⟩⟩⟩
  | false => exact EE.of (pe_and h ⟨fun pins s σ' H' Q I q => (q : False).elim⟩) fun H1 g Q z => ⟨rfl, g, fun v H2 g2 hv => ⟨false, hv, iteF (z _ H2 g2 rfl)⟩⟩
theorem ee_or {rest : List Expr} (h : EE T X a σ H (eqP (.bl t))) (h2 : t = false → EE T X (.BoolOp .Or (b :: rest) pos) σ H (eqP (.bl u))) : EE T X (.BoolOp .Or (a :: b :: rest) pos) σ H (eqP (.bl (t || u))) := by
  cases t with
  | true => exact EE.of (pe_or h ⟨fun pins s σ' H' Q I q => (q : False).elim⟩) fun H1 g Q z => ⟨rfl, g, fun v H2 g2 hv => ⟨true, hv, iteT (z _ H2 g2 rfl)⟩⟩
  | false => exact EE.of (pe_or h (h2 rfl)) fun H1 g Q z => ⟨rfl, g, fun v H2 g2 hv => ⟨false, hv, iteF ⟨rfl, g.trans g2, fun w H3 g3 hw => z w H3 (g2.trans g3) hw⟩⟩⟩
theorem ee_not (h : EE T X a σ H (eqP (.bl t))) : EE T X (.UnaryOp .Not a pos) σ H (eqP (.bl (!t))) := EE.of (pe_not h) fun H1 g Q z => ⟨rfl, g, fun v H2 g2 hv => ⟨t, hv, z _ H2 g2 rfl⟩⟩
/-- a if c else b -/
theorem ee_if (h : ET T X c σ H t) (h1 : t = true → EE T X a σ H P) (h2 : t = false → EE T X b σ H P) : EE T X (.IfExp c a b pos) σ H P := by
  cases t with
  | true => exact EE.of (pe_ifExp h (h1 rfl) (tb := fun _ _ _ => False) ⟨fun pins s σ' H' Q I q => q.elim⟩) fun H1 g Q z => ⟨rfl, g, fun H2 g2 => iteT ⟨rfl, g.trans g2, fun w H3 g3 hw => z w H3 (g2.trans g3) hw⟩⟩
  | false => exact EE.of (pe_ifExp h (ta := fun _ _ _ => False) ⟨fun pins s σ' H' Q I q => q.elim⟩ (h2 rfl)) fun H1 g Q z => ⟨rfl, g, fun H2 g2 => iteF ⟨rfl, g.trans g2, fun w H3 g3 hw => z w H3 (g2.trans g3) hw⟩⟩
/-! ### arguments, displays, calls -/
theorem ea_nil : EA T X [] σ H [] := EA.of pa_nil fun H1 g Q z => z [] H1 (.refl _) trivial
theorem ea_cons (h : EE T X e σ H P) (hr : EA T X es σ H Ps) (hs : starEach (e :: es) X.env = (false, eval e X.env) :: starEach es X.env := by rfl) : EA T X (e :: es) σ H (P :: Ps) :=
  EA.of (pa_cons h hr hs) fun H1 g Q z => ⟨rfl, g, fun v H2 g2 hv => ⟨rfl, g.trans g2, fun vs H3 g3 hvs => z _ H3 (g2.trans g3) ⟨P.st _ _ _ g3 hv, hvs⟩⟩⟩
/-- *e in a display or a call, e a list or a tuple -/
theorem ea_star {p2 : Pos} (h : EE T X e σ H P) (hx : ∀ v H1, P.p v H1 → ∃ q xs, v = V.ref q ∧ (SqT X.K H1 q xs ∨ SqL X.K H1 q xs) ∧ Sat Ps xs H1) {Ps2 : List (Pr T)} (hr : EA T X es σ H Ps2)
    (hs : starEach (.Starred e p2 :: es) X.env = (true, eval e X.env) :: starEach es X.env := by rfl) : EA T X (.Starred e p2 :: es) σ H (Ps ++ Ps2) := by
  exact EA.of (StX.pa_star h hr hs) fun H1 g Q z => ⟨rfl, g, fun v H2 g2 hv => by
    obtain ⟨q, xs, e1, e2, e3⟩ := hx v H2 hv
    exact ⟨q, xs, e1, e2, rfl, g.trans g2, fun vs H3 g3 hvs => z _ H3 (g2.trans g3) (Sat.app (e3.st g3) hvs)⟩⟩
end
section
variable {T : List (Addr × Str)} {X : Cx} {e a b c : Expr} {es : List Expr} {σ : L2.St} {H : Hp} {P P1 P2 : Pr T} {Ps : List (Pr T)} {pos p1 apos : Pos} {i j k : Int} {v : V} {t u : Bool} {x : Str}
/-- a new tuple, a new list of these -/
theorem ee_tup {z : Nat} (h : EA T X es σ H Ps) (q : ∀ vs H1 p, Gr T H H1 → Sat Ps vs H1 → H1 p = some (.tup vs) → P.p (.ref p) H1) (hl : Nat.ble Ps.length 1000 = true := by rfl) : EE T X (.Tuple es z pos) σ H P :=
  EE.of (pe_tup h) fun H1 g Q r => ⟨rfl, g, fun vs H2 g2 hv => ⟨sat_size hl hv, fun p hp => r _ _ (g2.trans (.new hp)) (q vs _ p ((g.trans g2).trans (.new hp)) (hv.st (.new hp)) upd_same)⟩⟩
end
section
variable {T : List (Addr × Str)}
/-- a list or a dict: what may change -/
def Chg : HO → Prop
  | .lst _ => True
  | .dK _ => True
  | .dT _ => True
  | _ => False
/-- the heap without D -/
def del (H : Hp) (D : Addr) : Hp := fun b => if b = D then none else H b
theorem del_upd {H : Hp} {D : Addr} {o : HO} (h : H D = none) : del (upd H D o) D = H := by
  funext b
  by_cases k : b = D
  · rw [k, h]; exact if_pos rfl
  · rw [show del (upd H D o) D b = upd H D o b from if_neg k, upd_ne k]
theorem del_same {H : Hp} {D : Addr} : del H D D = none := if_pos rfl
theorem del_ne {H : Hp} {D b : Addr} (h : b ≠ D) : del H D b = H b := if_neg h
theorem calm_chg {H : Hp} {D : Addr} {o : HO} (h : H D = some o) (c : Chg o) : Calm H D := calm_of h (fun ps e => by rw [e] at c; exact c) (fun f e => by rw [e] at c; exact c)
theorem Gr.del {H : Hp} {D : Addr} : Gr T (Pan.del H D) H := Gr.of_same fun a u e => by
  by_cases k : a = D
  · rw [k, del_same] at e
    exact nomatch e
  · rwa [del_ne k] at e
theorem Gr.toDel {H0 H : Hp} {D : Addr} {o : HO} (g : Gr T H0 H) (h0 : H0 D = none) (h : H D = some o) (c : Chg o) : Gr T H0 (Pan.del H D) := by
  refine ⟨fun a u ha hn => ?_, fun t => ?_, fun b hb => ?_⟩
  · rw [del_ne (ne_of_none ha h0)]
    exact g.ext a u ha hn
  · have t' := g.tab t
    intro z hz
    obtain ⟨ps, a1, a2, a3⟩ := t' z hz
    obtain ⟨⟨u, hu, nu⟩, nc⟩ := calm_chg h c
    refine ⟨ps, (del_ne fun e => ?_).trans a1, a2, fun pos cv hc => ?_⟩
    · rw [e, hu] at a1
      exact nu ps (Option.some.inj a1)
    · obtain ⟨d, e1, e2⟩ := a3 pos cv hc
      exact ⟨d, e1, (del_ne (nc d _ e2)).trans e2⟩
  · by_cases k : b = D
    · rw [k]
      exact h0
    · rw [del_ne k] at hb
      exact g.old b hb
end
section
variable {T : List (Addr × Str)} {X : Cx} {e a b c : Expr} {es : List Expr} {σ : L2.St} {H : Hp} {P P1 P2 : Pr T} {Ps : List (Pr T)} {pos p1 apos : Pos} {i j k : Int} {v : V} {t u : Bool} {x : Str}
/-- a new list, not tracked before; R: of its members, and the heap without it -/
def NewL (T : List (Addr × Str)) (X : Cx) (e : Expr) (σ : L2.St) (H : Hp) (R : List V → Hp → Prop) : Prop :=
  PE X e fun σ' H1 Q => σ' = σ ∧ Gr T H H1 ∧ ∀ p xs H2, Gr T H1 H2 → H1 p = none → H2 p = some (.lst xs) → R xs (del H2 p) → Q (.ref p) H2
theorem NewL.of {te : TE} {R : List V → Hp → Prop} (h : PE X e te) (q : ∀ H1, Gr T H H1 → ∀ Q : VK, (∀ p xs H2, Gr T H1 H2 → H1 p = none → H2 p = some (.lst xs) → R xs (del H2 p) → Q (.ref p) H2) → te σ H1 Q) : NewL T X e σ H R :=
  ⟨fun pins s σ' H1 Q I ⟨e1, g, r⟩ => by rw [e1] at I ⊢; exact h.run pins s σ H1 Q I (q H1 g Q r)⟩
theorem ee_new {R : List V → Hp → Prop} (h : NewL T X e σ H R) (q : ∀ p xs H1, Gr T H H1 → H1 p = some (.lst xs) → R xs (del H1 p) → P.p (.ref p) H1) : EE T X e σ H P :=
  EE.of h fun H1 g Q r => ⟨rfl, g, fun p xs H2 g2 _ hp hR => r _ H2 g2 (q p xs H2 (g.trans g2) hp hR)⟩
theorem nl_lst (h : EA T X es σ H Ps) (hl : Nat.ble Ps.length 1000 = true := by rfl) : NewL T X (.List es pos) σ H (fun vs H1 => Sat Ps vs H1) :=
  NewL.of (pe_lst h) fun H1 g Q r => ⟨rfl, g, fun vs H2 g2 hv => ⟨sat_size hl hv, fun p hp => r p vs _ (g2.trans (.new hp)) (g2.old p hp) upd_same (by rw [del_upd hp]; exact hv)⟩⟩
/-! ### subscripts -/
theorem ee_ixT {α : Type} {R : α → Pr T} {xs : List α} {y : α} (n : Nat) (he : xs[n]? = some y) (ha : EE T X a σ H (tupP X.K R xs)) (hb : EE T X b σ H (intP (n : Int))) (hs : PlainIx b := by intro _ _; rfl) : EE T X (.Subscript a b pos) σ H (R y) :=
  EE.of (pe_ix ix_tup ha hb hs) fun H1 g Q r => ⟨rfl, g, fun x H2 g2 hx => ⟨rfl, g.trans g2, fun y' H3 g3 hy => by
    obtain ⟨p, vs, e1, h1, h2⟩ := (tupP X.K R xs).st _ _ _ g3 hx
    obtain ⟨w, hw, hr⟩ := h2.get2 he
    exact ⟨p, vs, n, w, e1, hy, h1, atI_nat hw, r w H3 (g2.trans g3) hr⟩⟩⟩
theorem ee_ixL {α : Type} {R : α → Pr T} {xs : List α} {y : α} (n : Nat) (he : xs[n]? = some y) (ha : EE T X a σ H (lstP X.K R xs)) (hb : EE T X b σ H (intP (n : Int))) (hs : PlainIx b := by intro _ _; rfl) : EE T X (.Subscript a b pos) σ H (R y) :=
  EE.of (pe_ix ix_list ha hb hs) fun H1 g Q r => ⟨rfl, g, fun x H2 g2 hx => ⟨rfl, g.trans g2, fun y' H3 g3 hy => by
    obtain ⟨p, vs, e1, h1, h2⟩ := (lstP X.K R xs).st _ _ _ g3 hx
    obtain ⟨w, hw, hr⟩ := h2.get2 he
    exact ⟨p, vs, n, w, e1, hy, h1, atI_nat hw, r w H3 (g2.trans g3) hr⟩⟩⟩
/-! ### calls -/
/-- a call of a def of the module by its positional promise -/
theorem pe_callR {CX : CXT} {n : Nat} {f : Addr} {sp : Sp} {E : XK} {t : TA} (F : FnR X.prog X.w X.K X.mg X.base CX n f sp) (hr : Room n X.A) (hx : Passes CX X E) (hm : X.mg x = some (.ref f)) (hk : PySem.W.keepIn X.K (.ref f) = true) (ha : PA X (e :: es) t)
    (hg : Gl X x := by rfl) (hdb : (x == ("__debug__" : Str)) = false := by decide) (he : starEach (e :: es) X.env = (false, eval e X.env) :: starEach es X.env := by rfl) (hpl : (backTo pos (starEach es X.env)).any (·.1) = false := by rfl) :
    PE X (.Call (.Name x p1) (e :: es) [] pos) (fun σ H Q => t σ H fun vs H1 => sp vs H1 Q E) := by
  refine ⟨fun pins s σ H Q I h => ?_⟩
  refine wpAny_Call_Name_kw (ld_glob I hg hm ?_ hdb)
  refine PySem.W.callWith_K (h₀ := X.base) I.ok.mod.kin hk (thn (ha.run pos pins s σ H _ I h) fun us s1 ⟨vs, H1, I1, r, q⟩ => ⟨I1.kIn, ?_⟩) he hpl
  exact wpAny_call (run_fnR F hr hx I1 r q)
/-- the usual promise: for some a of which ok holds, arguments Ps a; the answer is R a, the heap has grown -/
def prom (T : List (Addr × Str)) {α : Type} (ok : α → Prop) (Ps : α → List (Pr T)) (R : α → Pr T) : Sp := fun vs H Q _ => ∃ a : α, ok a ∧ Sat (Ps a) vs H ∧ ∀ v H', Gr T H H' → (R a).p v H' → Q v H'
/-- the same of a def that wants good tables -/
def promT (T : List (Addr × Str)) {α : Type} (ok : α → Prop) (Ps : α → List (Pr T)) (R : α → Pr T) : Sp := fun vs H Q _ => LamX.Tabs T H ∧ ∃ a : α, ok a ∧ Sat (Ps a) vs H ∧ ∀ v H', Gr T H H' → (R a).p v H' → Q v H'
theorem ee_call {α : Type} {ok : α → Prop} {Qs : α → List (Pr T)} {R : α → Pr T} {n m : Nat} {f : Addr} (F : FnR X.prog X.w X.K X.mg X.base CX0 n f (prom T ok Qs R)) (hm : X.mg x = some (.ref f)) (hk : PySem.W.keepIn X.K (.ref f) = true)
    (hr : Room m X.A) (z : α) (hz : ok z) (ha : EA T X (e :: es) σ H (Qs z)) (hnm : n ≤ m := by decide) (hg : Gl X x := by rfl) (hdb : (x == ("__debug__" : Str)) = false := by decide)
    (he : starEach (e :: es) X.env = (false, eval e X.env) :: starEach es X.env := by rfl) (hpl : (backTo pos (starEach es X.env)).any (·.1) = false := by rfl) : EE T X (.Call (.Name x p1) (e :: es) [] pos) σ H (R z) :=
  EE.of (pe_callR F (hr.mono hnm) pass0 hm hk ha hg hdb he hpl) fun H1 g Q r => ⟨rfl, g, fun vs H2 g2 hv => ⟨z, hz, hv, fun v H3 g3 hv3 => r v H3 (g2.trans g3) hv3⟩⟩
theorem ee_callT {α : Type} {ok : α → Prop} {Qs : α → List (Pr T)} {R : α → Pr T} {n m : Nat} {f : Addr} (F : FnR X.prog X.w X.K X.mg X.base CX0 n f (promT T ok Qs R)) (hm : X.mg x = some (.ref f)) (hk : PySem.W.keepIn X.K (.ref f) = true)
    (hr : Room m X.A) (hT : LamX.Tabs T H) (z : α) (hz : ok z) (ha : EA T X (e :: es) σ H (Qs z)) (hnm : n ≤ m := by decide) (hg : Gl X x := by rfl) (hdb : (x == ("__debug__" : Str)) = false := by decide)
    (he : starEach (e :: es) X.env = (false, eval e X.env) :: starEach es X.env := by rfl) (hpl : (backTo pos (starEach es X.env)).any (·.1) = false := by rfl) : EE T X (.Call (.Name x p1) (e :: es) [] pos) σ H (R z) :=
  EE.of (pe_callR F (hr.mono hnm) pass0 hm hk ha hg hdb he hpl) fun H1 g Q r => ⟨rfl, g, fun vs H2 g2 hv => ⟨(g.trans g2).tab hT, z, hz, hv, fun v H3 g3 hv3 => r v H3 (g2.trans g3) hv3⟩⟩
/-- a call of a built-in function, of a built-in type -/
theorem ee_bltn {id : String} {r : List V → Hp → VK → Prop} (hc : CallR X (.builtin id) r) (hm : X.mg x = none) (hv : bootBuiltins x = some (.builtin id)) (ha : EA T X (e :: es) σ H Ps)
    (q : ∀ vs H1, Gr T H H1 → Sat Ps vs H1 → ∀ Q : VK, (∀ v H2, Gr T H1 H2 → P.p v H2 → Q v H2) → r vs H1 Q) (hg : Gl X x := by rfl) (hn : x ≠ "__name__" := by decide) (hdb : (x == ("__debug__" : Str)) = false := by decide)
    (he : starEach (e :: es) X.env = (false, eval e X.env) :: starEach es X.env := by rfl) (hpl : (backTo pos (starEach es X.env)).any (·.1) = false := by rfl) : EE T X (.Call (.Name x p1) (e :: es) [] pos) σ H P :=
  EE.of (pe_callB hc hg hm hv ha hn hdb he hpl) fun H1 g Q z => ⟨rfl, g, fun vs H2 g2 hvs => q vs H2 (g.trans g2) hvs Q fun v H3 g3 => z v H3 (g2.trans g3)⟩
theorem ee_type {id : String} {r : List V → Hp → VK → Prop} (hc : CallR X (.type id) r) (hm : X.mg x = none) (hv : bootBuiltins x = some (.type id)) (ha : EA T X (e :: es) σ H Ps)
    (q : ∀ vs H1, Gr T H H1 → Sat Ps vs H1 → ∀ Q : VK, (∀ v H2, Gr T H1 H2 → P.p v H2 → Q v H2) → r vs H1 Q) (hg : Gl X x := by rfl) (hn : x ≠ "__name__" := by decide) (hdb : (x == ("__debug__" : Str)) = false := by decide)
    (he : starEach (e :: es) X.env = (false, eval e X.env) :: starEach es X.env := by rfl) (hpl : (backTo pos (starEach es X.env)).any (·.1) = false := by rfl) : EE T X (.Call (.Name x p1) (e :: es) [] pos) σ H P :=
  EE.of (pe_callTy hc hg hm hv ha hn hdb he hpl) fun H1 g Q z => ⟨rfl, g, fun vs H2 g2 hvs => q vs H2 (g.trans g2) hvs Q fun v H3 g3 => z v H3 (g2.trans g3)⟩
theorem sat1 {P : Pr T} {vs : List V} (h : Sat [P] vs H) : ∃ v, vs = [v] ∧ P.p v H := by
  cases vs with
  | nil => exact h.elim
  | cons v r => cases r with
    | nil => exact ⟨v, rfl, h.1⟩
    | cons _ _ => exact h.2.elim
theorem sat2 {P P' : Pr T} {vs : List V} (h : Sat [P, P'] vs H) : ∃ v w, vs = [v, w] ∧ P.p v H ∧ P'.p w H := by
  cases vs with
  | nil => exact h.elim
  | cons v r =>
    obtain ⟨w, e, hw⟩ := sat1 h.2
    rw [e]
    exact ⟨v, w, rfl, h.1, hw⟩
theorem sat3 {P P' P'' : Pr T} {vs : List V} (h : Sat [P, P', P''] vs H) : ∃ v w z, vs = [v, w, z] ∧ P.p v H ∧ P'.p w H ∧ P''.p z H := by
  cases vs with
  | nil => exact h.elim
  | cons v r =>
    obtain ⟨w, z, e, hw⟩ := sat2 h.2
    rw [e]
    exact ⟨v, w, z, rfl, h.1, hw⟩
theorem sat4 {P P' P'' P3 : Pr T} {vs : List V} (h : Sat [P, P', P'', P3] vs H) : ∃ v w z y, vs = [v, w, z, y] ∧ P.p v H ∧ P'.p w H ∧ P''.p z H ∧ P3.p y H := by
  cases vs with
  | nil => exact h.elim
  | cons v r =>
    obtain ⟨w, z, y, e, hw⟩ := sat3 h.2
    rw [e]
    exact ⟨v, w, z, y, rfl, h.1, hw⟩
theorem ee_abs {x : Str} (hm : X.mg x = none) (ha : EE T X a σ H (intP i)) (hv : bootBuiltins x = some (.builtin "abs") := by decide +kernel) (hg : Gl X x := by rfl) (hn : x ≠ "__name__" := by decide) (hdb : (x == ("__debug__" : Str)) = false := by decide)
    (he : starEach [a] X.env = (false, eval a X.env) :: starEach [] X.env := by rfl) : EE T X (.Call (.Name x p1) [a] [] pos) σ H (intP (if i < 0 then -i else i)) :=
  ee_bltn call_abs hm hv (ea_cons ha ea_nil he) (fun vs H1 _ hs Q z => by
    obtain ⟨v, e, h⟩ := sat1 hs
    exact ⟨i, by rw [e]; exact congrArg (fun y => [y]) h, z _ H1 (.refl _) rfl⟩) hg hn hdb he
/-! ### statements -/
variable {D : Ends} {st : Stmt} {sts rest s2 : List Stmt} {tg : Expr}
theorem ss_nil (h : D.nx σ H) : SS T X [] σ H D := SS.of pss_nil h
theorem ss_cons (h : S1 T X st σ H { D with nx := fun σ' H' => SS T X rest σ' H' D }) : SS T X (st :: rest) σ H D :=
  SS.of (pss_cons h (u := fun D' σ' H' => D' = D ∧ SS T X rest σ' H' D) ⟨fun pins s σ' H' D' I ⟨e1, q⟩ => by rw [e1]; exact q.run pins s σ' H' D I ⟨rfl, rfl, rfl⟩⟩) ⟨by
    show ({ D with nx := _ } : Ends) = _
    congr 1
    funext σ' H'
    exact propext ⟨fun q => q.2, fun q => ⟨rfl, q⟩⟩, rfl, rfl⟩
theorem ss_one (h : S1 T X st σ H D) : SS T X [st] σ H D := SS.of (pss_one h) ⟨rfl, rfl, rfl⟩
theorem s1_ret (h : EE T X e σ H P) (q : ∀ v H1, Gr T H H1 → P.p v H1 → D.rt v H1) : S1 T X (.Return (some e) pos) σ H D := S1.of (ps_ret h) ⟨rfl, .refl _, fun v H1 g hv => q v H1 g hv⟩
theorem s1_expr (h : EE T X e σ H P) (q : ∀ v H1, Gr T H H1 → P.p v H1 → D.nx σ H1) (hs : swapsWith e none pos.line X.env = pure false := by rfl) : S1 T X (.Expr e pos) σ H D := S1.of (ps_expr h hs) ⟨rfl, .refl _, fun v H1 g hv => q v H1 g hv⟩
theorem s1_if {p q : List Stmt} (h : ET T X c σ H t) (h1 : t = true → ∀ H1, Gr T H H1 → SS T X p σ H1 D) (h2 : t = false → ∀ H1, Gr T H H1 → SS T X q σ H1 D) : S1 T X (.If c p q pos) σ H D :=
  S1.of (ps_if h (t := fun D' σ' H' => D' = D ∧ SS T X p σ' H' D) (u := fun D' σ' H' => D' = D ∧ SS T X q σ' H' D) ⟨fun pins s σ' H' D' I ⟨e1, z⟩ => by rw [e1]; exact z.run pins s σ' H' D I ⟨rfl, rfl, rfl⟩⟩ ⟨fun pins s σ' H' D' I ⟨e1, z⟩ => by rw [e1]; exact z.run pins s σ' H' D I ⟨rfl, rfl, rfl⟩⟩)
    ⟨rfl, .refl _, fun H1 g => by
      cases t with
      | true => exact iteT ⟨rfl, h1 rfl H1 g⟩
      | false => exact iteF ⟨rfl, h2 rfl H1 g⟩⟩
theorem s1_set (n : Nat) (h : EE T X e σ H P) (q : ∀ v H1, Gr T H H1 → P.p v H1 → D.nx (σ.set n (some v)) H1) (hN : X.N.Nodup) (hi : X.N[n]? = some x) (hx : Loc X.env.scope x)
    (hs : swapsWith e (some (.Name x p1)) pos.line X.env = pure false) (hf : X.fn x = true ∨ X.env.scope.names.lookup x = some .local) : S1 T X (.Assign [.Name x p1] e pos) σ H D :=
  S1.of (ps_set hN hi hx h hs hf) ⟨rfl, .refl _, fun v H1 g hv => q v H1 g hv⟩
/-- x = e, and on -/
theorem ss_set (n : Nat) (h : EE T X e σ H P) (hN : X.N.Nodup) (q : ∀ v H1, Gr T H H1 → P.p v H1 → SS T X rest (σ.set n (some v)) H1 D) (hi : X.N[n]? = some x := by rfl) (hx : Loc X.env.scope x := by first | exact Or.inl rfl | exact Or.inr rfl)
    (hs : swapsWith e (some (.Name x p1)) pos.line X.env = pure false := by rfl) (hf : X.fn x = true ∨ X.env.scope.names.lookup x = some .local := by first | exact .inl rfl | exact .inr rfl) : SS T X (.Assign [.Name x p1] e pos :: rest) σ H D :=
  ss_cons (s1_set n h q hN hi hx hs hf)
/-- x = a new list -/
theorem ss_setL {R : List V → Hp → Prop} (n : Nat) (h : NewL T X e σ H R) (hN : X.N.Nodup) (q : ∀ p xs H1, Gr T H H1 → H p = none → H1 p = some (.lst xs) → R xs (del H1 p) → SS T X rest (σ.set n (some (.ref p))) H1 D) (hi : X.N[n]? = some x := by rfl) (hx : Loc X.env.scope x := by first | exact Or.inl rfl | exact Or.inr rfl)
    (hs : swapsWith e (some (.Name x p1)) pos.line X.env = pure false := by rfl) (hf : X.fn x = true ∨ X.env.scope.names.lookup x = some .local := by first | exact .inl rfl | exact .inr rfl) : SS T X (.Assign [.Name x p1] e pos :: rest) σ H D :=
  ss_cons (S1.of (ps_set hN hi hx h hs hf) ⟨rfl, .refl _, fun p xs H1 g hp h1 hR => q p xs H1 g hp h1 hR⟩)
/-- x, y = a, b -/
theorem ss_par {y : Str} {kt k2 : Nat} {px py pt pt2 : Pos} (n m : Nat) (ha : EE T X a σ H P1) (hb : EE T X b σ H P2) (hN : X.N.Nodup) (q : ∀ v w H1, Gr T H H1 → P1.p v H1 → P2.p w H1 → SS T X rest ((σ.set n (some v)).set m (some w)) H1 D)
    (hc : X.calm = true := by rfl) (hi : X.N[n]? = some x := by rfl) (hj : X.N[m]? = some y := by rfl) (hij : n ≠ m := by decide) (hx : X.env.scope.names.lookup x = some .local := by rfl) (hy : X.env.scope.names.lookup y = some .local := by rfl)
    (hw : swappedStores [.Tuple [.Name x px, .Name y py] kt pt] (.Tuple [a, b] k2 pt2) X.env = pure (some [x, y]) := by rfl) (hs : swapsWithSole [.Tuple [.Name x px, .Name y py] kt pt] (.Tuple [a, b] k2 pt2) pos.line X.env = pure false := by rfl)
    (he : starEach [a, b] X.env = (false, eval a X.env) :: starEach [b] X.env := by rfl) (he2 : starEach [b] X.env = (false, eval b X.env) :: starEach [] X.env := by rfl) : SS T X (.Assign [.Tuple [.Name x px, .Name y py] kt pt] (.Tuple [a, b] k2 pt2) pos :: rest) σ H D :=
  ss_cons (S1.of (ps_par hc hN hi hj hij hx hy (ea_cons ha (ea_cons hb ea_nil he2) he) hw hs) ⟨rfl, .refl _, fun vs H1 g hv => by
    obtain ⟨v, w, e, h1, h2⟩ := sat2 hv
    exact ⟨v, w, e, q v w H1 g h1 h2⟩⟩)
theorem ss_ret (h : EE T X e σ H P) (q : ∀ v H1, Gr T H H1 → P.p v H1 → D.rt v H1) : SS T X (.Return (some e) pos :: rest) σ H D := ss_cons (s1_ret h q)
theorem ss_expr (h : EE T X e σ H P) (q : ∀ v H1, Gr T H H1 → P.p v H1 → SS T X rest σ H1 D) (hs : swapsWith e none pos.line X.env = pure false := by rfl) : SS T X (.Expr e pos :: rest) σ H D := ss_cons (s1_expr h q hs)
/-- what follows a block within another -/
abbrev thenD (T : List (Addr × Str)) (X : Cx) (rest : List Stmt) (D : Ends) : Ends := { D with nx := fun σ' H' => SS T X rest σ' H' D }
theorem ss_if {p q : List Stmt} (h : ET T X c σ H t) (h1 : t = true → ∀ H1, Gr T H H1 → SS T X p σ H1 (thenD T X rest D)) (h2 : t = false → ∀ H1, Gr T H H1 → SS T X q σ H1 (thenD T X rest D)) : SS T X (.If c p q pos :: rest) σ H D := ss_cons (s1_if h h1 h2)
/-- an if without else -/
theorem ss_when {p : List Stmt} (h : ET T X c σ H t) (h1 : t = true → ∀ H1, Gr T H H1 → SS T X p σ H1 (thenD T X rest D)) (h2 : t = false → ∀ H1, Gr T H H1 → SS T X rest σ H1 D) : SS T X (.If c p [] pos :: rest) σ H D :=
  ss_cons (s1_if h h1 fun e H1 g => ss_nil (h2 e H1 g))
theorem ss_then (h : SS T X rest σ H D) : SS T X [] σ H (thenD T X rest D) := ss_nil h
/-- while: W with a number that falls -/
theorem ss_while {tb : List Stmt} (W : Nat → L2.St → Hp → Prop) (m0 : Nat) (h0 : W m0 σ H) (hp : PassesOwn (model X.prog X.w) X.A X.env X.xe)
    (hs : ∀ m σ' H', W m σ' H' → ∃ b, ET T X c σ' H' b ∧ (b = true → ∀ H1, Gr T H' H1 → SS T X tb σ' H1 { D with nx := fun σ2 H2 => ∃ m', m' < m ∧ W m' σ2 H2, ct := fun σ2 H2 => ∃ m', m' < m ∧ W m' σ2 H2, bk := fun σ2 H2 => SS T X rest σ2 H2 D }) ∧ (b = false → ∀ H1, Gr T H' H1 → SS T X rest σ' H1 D)) : SS T X (.While c tb [] pos :: rest) σ H D := by
  refine ss_cons (S1.of (ps_while (tc := fun σ' H' Q => ∃ b, ET T X c σ' H' b ∧ ∀ H1, Gr T H' H1 → Q b H1) (tb := fun D' σ' H' => SS T X tb σ' H' D') hp ⟨fun pins s σ' H' Q I ⟨b, hb, q⟩ => hb.run pins s σ' H' Q I ⟨rfl, .refl _, q⟩⟩ ⟨fun pins s σ' H' D' I q => q.run pins s σ' H' D' I ⟨rfl, rfl, rfl⟩⟩) ?_)
  refine ⟨W, ⟨m0, h0⟩, fun m σ' H' w => ?_⟩
  obtain ⟨b, hb, h1, h2⟩ := hs m σ' H' w
  refine ⟨b, hb, fun H1 g => ?_⟩
  cases b with
  | true => exact iteT ⟨fun σ2 H2 => ∃ m', m' < m ∧ W m' σ2 H2, fun _ _ z => z, h1 rfl H1 g⟩
  | false => exact iteF (h2 rfl H1 g)
end
/-! ### defs -/
section
variable {T : List (Addr × Str)} {P : Program} {w : World} {K : PySem.W.Frag} {mg : Str → Option Value} {base : Heap} {x qual : Str} {params : Arguments} {body : List Stmt} {scope : Scope} {f : Addr} {fd : FuncData} {N ps : List Str} {k : Nat}
/-- a def keeps the usual promise -/
theorem fn_prom {α : Type} {ok : α → Prop} {Ps : α → List (Pr T)} {R : α → Pr T} (F : FunD K x qual params body scope [] [] f fd) (S : FnScope N ps scope) (hb : Binds K fd ps []) (hl : ∀ a, (Ps a).length = ps.length)
    (h : ∀ (cdv : Value) (A : Around) (outer : List Env) (s : Shared) (H : Hp) (vs : List V) (E : XK) (a : α) (D : Ends), Room k (A.deeper (envOfC qual scope s.heap.objs.size f cdv)) → ok a → Sat (Ps a) vs H → (∀ v H', Gr T H H' → (R a).p v H' → D.rt v H') → (∀ σ' H', Gr T H H' → (R a).p .non H' → D.nx σ' H') →
      SS T (cxOf CX0 P w K mg base N qual scope f cdv A outer s H E).nox body (start N vs) H D) : FnR P w K mg base CX0 (k + 1) f (prom T ok Ps R) := by
  have G : FnOk P w K mg base CX0 (k + 1) f fd ps (prom T ok Ps R) := F.ok S (fun vs H Q E ⟨a, _, hs, _⟩ => hs.len.trans (hl a)) fun cdv A outer s H vs Q E hr ⟨a, hok, hs, q⟩ =>
    ⟨_, PSs.nox (h cdv A outer s H vs E a { nx := fun _ H' => Q .non H', rt := Q } hr hok hs q fun _ H' g r => q _ H' g r), rfl, rfl, rfl⟩
  intro A outer s H us vs Q E hr e0 r hs
  exact G.raw hb .nil A outer s H us vs Q E hr e0 r (by show prom T ok Ps R (vs ++ []) H Q E; rw [List.append_nil]; exact hs)
end
end Pan
set_option maxHeartbeats 1000000
/-! Loops and comprehensions over what is walked. -/
namespace Pan
open PySem PySem.Spec PyProof.Rows L2
section
variable {T : List (Addr × Str)}
/-- the i-th of these -/
def atP {α : Type} (R : α → Pr T) (xs : List α) (i : Nat) : Pr T := ⟨fun v H => ∃ x, xs[i]? = some x ∧ (R x).p v H, fun _ _ _ g ⟨x, e, h⟩ => ⟨x, e, (R x).st _ _ _ g h⟩⟩
/-- a pair -/
def pairP (K : PySem.W.Frag) (P1 P2 : Pr T) : Pr T := ⟨fun v H => ∃ a x y, v = .ref a ∧ SqT K H a [x, y] ∧ P1.p x H ∧ P2.p y H, fun _ _ _ g ⟨a, x, y, e, h, h1, h2⟩ => ⟨a, x, y, e, g.sqT h, P1.st _ _ _ g h1, P2.st _ _ _ g h2⟩⟩
/-- what is known does not rest on a list or a dict -/
class Solid (P : Pr T) : Prop where
  s : ∀ v H D o, H D = some o → Chg o → P.p v H → P.p v (del H D)
theorem rd_del {H : Hp} {D p : Addr} {o u : HO} (h : H D = some o) (c : Chg o) (n : u ≠ o) (r : Rd H p u) : Rd (del H D) p u := by
  have e : p ≠ D := fun e => by
    rw [e] at r
    rcases r with r | ⟨q, r⟩
    · rw [h] at r
      exact n (Option.some.inj r).symm
    · rw [h] at r
      rw [Option.some.inj r] at c
      exact c
  rcases r with r | ⟨q, r⟩
  · exact .inl ((del_ne e).trans r)
  · exact .inr ⟨q, (del_ne e).trans r⟩
theorem sqT_del {K : PySem.W.Frag} {H : Hp} {D p : Addr} {o : HO} {xs : List V} (h : H D = some o) (c : Chg o) (r : SqT K H p xs) : SqT K (del H D) p xs := by
  rcases r with r | r
  · exact .inl (rd_del h c (fun e => by rw [← e] at c; exact c) r)
  · exact .inr r
theorem All2.del {α : Type} {R : α → Pr T} [hR : ∀ x, Solid (R x)] {H : Hp} {D : Addr} {o : HO} (h : H D = some o) (c : Chg o) : ∀ {vs : List V} {xs : List α}, All2 R vs xs H → All2 R vs xs (del H D)
  | [], [], _ => trivial
  | _ :: _, x :: _, a => ⟨(hR x).s _ _ _ _ h c a.1, All2.del h c a.2⟩
  | [], _ :: _, a => a.elim
  | _ :: _, [], a => a.elim
instance (v : V) : Solid (T := T) (eqP v) := ⟨fun _ _ _ _ _ _ h => h⟩
instance (i : Int) : Solid (T := T) (intP i) := ⟨fun _ _ _ _ _ _ h => h⟩
instance {K : PySem.W.Frag} {α : Type} {R : α → Pr T} {xs : List α} [∀ x, Solid (R x)] : Solid (tupP K R xs) := ⟨fun _ _ _ _ h c ⟨a, vs, e, h1, h2⟩ => ⟨a, vs, e, sqT_del h c h1, h2.del h c⟩⟩
instance {K : PySem.W.Frag} {P1 P2 : Pr T} [h1 : Solid P1] [h2 : Solid P2] : Solid (pairP K P1 P2) := ⟨fun _ _ _ _ h c ⟨a, x, y, e, h3, h4, h5⟩ => ⟨a, x, y, e, sqT_del h c h3, h1.s _ _ _ _ h c h4, h2.s _ _ _ _ h c h5⟩⟩
instance {α : Type} {R : α → Pr T} {xs : List α} {i : Nat} [h1 : ∀ x, Solid (R x)] : Solid (atP R xs i) := ⟨fun _ _ _ _ h c ⟨x, e, h3⟩ => ⟨x, e, (h1 x).s _ _ _ _ h c h3⟩⟩
/-- anything -/
def anyP : Pr T := ⟨fun _ _ => True, fun _ _ _ _ _ => trivial⟩
instance : Solid (T := T) anyP := ⟨fun _ _ _ _ _ _ _ => trivial⟩
/-- a list or a dict is settled -/
theorem Gr.settle {H0 H : Hp} {D : Addr} {o : HO} (g : Gr T H0 H) (h0 : H0 D = none) (h : H D = some o) (c : Chg o) : Gr T (upd H0 D o) H := by
  refine ⟨fun a u ha hn => ?_, fun t => g.tab fun z hz => ?_, fun b hb => ?_⟩
  · by_cases k : a = D
    · rw [k, upd_same] at ha
      rw [k, h, ha]
    · rw [upd_ne k] at ha
      exact g.ext a u ha hn
  · obtain ⟨ps, a1, a2, a3⟩ := t z hz
    have k : z.1 ≠ D := fun e => by
      rw [e, upd_same] at a1
      rw [Option.some.inj a1] at c
      exact c
    refine ⟨ps, by rwa [upd_ne k] at a1, a2, fun pos cv hc => ?_⟩
    obtain ⟨d, e1, e2⟩ := a3 pos cv hc
    refine ⟨d, e1, ?_⟩
    have k2 : d ≠ D := fun e => by
      rw [e, upd_same] at e2
      rw [Option.some.inj e2] at c
      exact c
    rwa [upd_ne k2] at e2
  · have k : b ≠ D := fun e => by
      rw [e, h] at hb
      exact nomatch hb
    rw [upd_ne k]
    exact g.old b hb
end
/-- what is walked: the members xs, one by one; from the heap Hb on, of which Base holds, nothing but growth is asked -/
def Src (T : List (Addr × Str)) {α : Type} (X : Cx) (tg iter : Expr) (σ : L2.St) (H : Hp) (Base : Hp → Hp → Prop) (xs : List α) (R : α → Pr T) : Prop :=
  PI X tg iter fun σ' H1 Rr => σ' = σ ∧ Gr T H H1 ∧ ∀ J H2 Hb, Gr T H1 H2 → Base Hb H2 → Walk J xs.length (fun H' => Gr T Hb H') (fun i H' v H3 => Gr T H' H3 ∧ ∃ x, xs[i]? = some x ∧ (R x).p v H3) → Rr J H2
/-- from the heap behind the iterable on; from H0 on; from any on -/
abbrev bNow : Hp → Hp → Prop := fun Hb H2 => Hb = H2
abbrev bOld (H0 : Hp) : Hp → Hp → Prop := fun Hb _ => Hb = H0
abbrev bAny : Hp → Hp → Prop := fun _ _ => True
section
variable {T : List (Addr × Str)} {X : Cx} {e a b tg iter : Expr} {σ : L2.St} {H : Hp} {pos p1 p2 : Pos} {α β : Type} {R : α → Pr T} {S : β → Pr T} {xs : List α} {ys : List β}
theorem Src.of {wi : TI} {B : Hp → Hp → Prop} (h : PI X tg iter wi) (q : ∀ H1, Gr T H H1 → ∀ Rr : It → Hp → Prop, (∀ J H2 Hb, Gr T H1 H2 → B Hb H2 → Walk J xs.length (fun H' => Gr T Hb H') (fun i H' v H3 => Gr T H' H3 ∧ ∃ x, xs[i]? = some x ∧ (R x).p v H3) → Rr J H2) → wi σ H1 Rr) : Src T X tg iter σ H B xs R :=
  ⟨fun pins s σ' H1 Rr I ⟨e1, g, r⟩ => by rw [e1] at I ⊢; exact h.run pins s σ H1 Rr I (q H1 g Rr r)⟩
theorem src_list (h : EE T X iter σ H (lstP X.K R xs)) : Src T X tg iter σ H bNow xs R :=
  Src.of (pi_list h) fun H1 g Rr r => ⟨rfl, g, fun v H2 g2 ⟨l, vs, e1, h1, h2⟩ => ⟨l, e1, ⟨vs, h1⟩, r _ H2 H2 g2 rfl (by
    rw [← h2.length]
    exact walk_list.mono (fun H' g' => g'.sqL h1) fun i H' v H3 hi g' ⟨e3, hv⟩ => by
      rw [e3]
      obtain ⟨x, hx, hR⟩ := h2.get hv
      exact ⟨.refl _, x, hx, (R x).st _ _ _ g' hR⟩)⟩⟩
theorem src_tup (h : EE T X iter σ H (tupP X.K R xs)) : Src T X tg iter σ H bNow xs R :=
  Src.of (pi_tup h) fun H1 g Rr r => ⟨rfl, g, fun v H2 g2 ⟨l, vs, e1, h1, h2⟩ => ⟨l, e1, ⟨vs, h1⟩, r _ H2 H2 g2 rfl (by
    rw [← h2.length]
    exact walk_tup.mono (fun H' g' => g'.sqT h1) fun i H' v H3 hi g' ⟨e3, hv⟩ => by
      rw [e3]
      obtain ⟨x, hx, hR⟩ := h2.get hv
      exact ⟨.refl _, x, hx, (R x).st _ _ _ g' hR⟩)⟩⟩
/-- a list that is known ahead, at the heap H0 -/
theorem src_listB {H0 : Hp} {l : Addr} {vs : List V} (h : EE T X iter σ H (eqP (.ref l))) (g0 : Gr T H0 H) (h1 : SqL X.K H0 l vs) (h2 : All2 R vs xs H0) : Src T X tg iter σ H (bOld H0) xs R :=
  Src.of (pi_list h) fun H1 g Rr r => ⟨rfl, g, fun v H2 g2 e1 => ⟨l, e1, ⟨vs, ((g0.trans g).trans g2).sqL h1⟩, r _ H2 H0 g2 rfl (by
    rw [← h2.length]
    exact walk_list.mono (fun H' g' => g'.sqL h1) fun i H' v H3 hi g' ⟨e3, hv⟩ => by
      rw [e3]
      obtain ⟨x, hx, hR⟩ := h2.get hv
      exact ⟨.refl _, x, hx, (R x).st _ _ _ g' hR⟩)⟩⟩
theorem src_rangeB {B : Hp → Hp → Prop} {m : Int} (hm : X.mg "range" = none) (h : EE T X a σ H (intP m)) (h0 : 0 ≤ m ∧ m < 1000000) (hg : Gl X "range" := by rfl) (hs : starEach [a] X.env = (false, eval a X.env) :: starEach [] X.env := by rfl)
    (hB : ∀ H2, ∃ Hb, B Hb H2) : Src T X tg (.Call (.Name "range" p1) [a] [] pos) σ H B (List.range m.toNat) (fun i => intP (i : Int)) :=
  Src.of (pi_range1 hg hm (ea_cons h ea_nil hs) (hs := hs)) fun H1 g Rr r => ⟨rfl, g, fun vs H2 g2 hv => by
    obtain ⟨v, e1, e2⟩ := sat1 hv
    obtain ⟨Hb, hb⟩ := hB H2
    refine ⟨m, by rw [e1]; exact congrArg (fun y => [y]) e2, by omega, by omega, r _ H2 Hb g2 hb ?_⟩
    rw [List.length_range]
    refine walk_range.mono (fun _ _ => trivial) fun i H' v H3 hi g' ⟨e3, hv⟩ => ?_
    rw [e3, hv]
    refine ⟨.refl _, i, by simp [hi], ?_⟩
    show V.int (0 + (i : Int)) = V.int i
    rw [Int.zero_add]⟩
theorem src_range {m : Int} (hm : X.mg "range" = none) (h : EE T X a σ H (intP m)) (h0 : 0 ≤ m ∧ m < 1000000) (hg : Gl X "range" := by rfl) (hs : starEach [a] X.env = (false, eval a X.env) :: starEach [] X.env := by rfl) :
    Src T X tg (.Call (.Name "range" p1) [a] [] pos) σ H bNow (List.range m.toNat) (fun i => intP (i : Int)) := src_rangeB hm h h0 hg hs fun H2 => ⟨H2, rfl⟩
theorem src_rangeO (H0 : Hp) {m : Int} (hm : X.mg "range" = none) (h : EE T X a σ H (intP m)) (h0 : 0 ≤ m ∧ m < 1000000) (hg : Gl X "range" := by rfl) (hs : starEach [a] X.env = (false, eval a X.env) :: starEach [] X.env := by rfl) :
    Src T X tg (.Call (.Name "range" p1) [a] [] pos) σ H (bOld H0) (List.range m.toNat) (fun i => intP (i : Int)) := src_rangeB hm h h0 hg hs fun H2 => ⟨H0, rfl⟩
theorem zipIdx_at {i : Nat} {x : α} (h : xs[i]? = some x) : xs.zipIdx[i]? = some (x, i) := by simp [h]
theorem src_enumL {z : Nat} {elts : List Expr} (hm : X.mg "enumerate" = none) (h : EE T X a σ H (lstP X.K R xs)) (hg : Gl X "enumerate" := by rfl) (hs : starEach [a] X.env = (false, eval a X.env) :: starEach [] X.env := by rfl) :
    Src T X (.Tuple elts z p2) (.Call (.Name "enumerate" p1) [a] [] pos) σ H bNow xs.zipIdx (fun xi => pairP X.K (intP (xi.2 : Int)) (R xi.1)) :=
  Src.of (pi_enum hg hm (ea_cons h ea_nil hs) hs) fun H1 g Rr r => ⟨rfl, g, fun vs H2 g2 hv => by
    obtain ⟨v, e1, l, us, e2, h1, h2⟩ := sat1 hv
    refine ⟨l, us, by rw [e1, e2], h1, r _ H2 H2 g2 rfl ?_⟩
    rw [List.length_zipIdx, ← h2.length]
    refine walk_enum.mono (fun H' g' => g'.sqL h1) fun i H' v H3 hi g' ⟨t, x, y, e3, e4, e5, e6, e7⟩ => ?_
    have g3 : Gr T H' H3 := by rw [e5]; exact .new e4
    obtain ⟨y', hy, hR⟩ := h2.get e7
    refine ⟨g3, (y', i), zipIdx_at hy, t, x, y, e3, .of (by rw [e5]; exact upd_same), (Option.some.inj e6).symm, (R y').st _ _ _ (g'.trans g3) hR⟩⟩
theorem zip_at {i : Nat} {x : α} {y : β} (h : xs[i]? = some x) (h' : ys[i]? = some y) : (xs.zip ys)[i]? = some (x, y) := by
  rw [List.getElem?_zip_eq_some]
  exact ⟨h, h'⟩
theorem src_zip {z : Nat} {elts : List Expr} (hm : X.mg "zip" = none) (h : EE T X a σ H (lstP X.K R xs)) (h' : EE T X b σ H (lstP X.K S ys)) (hg : Gl X "zip" := by rfl) (hs : starEach [a, b] X.env = (false, eval a X.env) :: starEach [b] X.env := by rfl)
    (hs2 : starEach [b] X.env = (false, eval b X.env) :: starEach [] X.env := by rfl) (hpl : (backTo pos (starEach [b] X.env)).any (·.1) = false := by rfl) :
    Src T X (.Tuple elts z p2) (.Call (.Name "zip" p1) [a, b] [] pos) σ H bNow (xs.zip ys) (fun xy => pairP X.K (R xy.1) (S xy.2)) :=
  Src.of (RZ.pi_zipA hg hm (ea_cons h (ea_cons h' ea_nil hs2) hs) hs hpl) fun H1 g Rr r => ⟨rfl, g, fun vs H2 g2 hv => by
    obtain ⟨v, w, e1, ⟨l, us, e2, h1, h2⟩, l', us', e2', h1', h2'⟩ := sat2 hv
    refine ⟨l, l', us, us', by rw [e1, e2, e2'], .inl ⟨h1, h1', r _ H2 H2 g2 rfl ?_⟩⟩
    refine (walk_zip (by rw [List.length_zip, h2.length, h2'.length])).mono (fun H' g' => ⟨g'.sqL h1, g'.sqL h1'⟩) fun i H' v H3 hi g' ⟨t, x, y, e3, e4, e5, e6, e7⟩ => ?_
    have g3 : Gr T H' H3 := by rw [e5]; exact .new e4
    obtain ⟨x', hx, hR⟩ := h2.get e6
    obtain ⟨y', hy, hS⟩ := h2'.get e7
    exact ⟨g3, (x', y'), zip_at hx hy, t, x, y, e3, .of (by rw [e5]; exact upd_same), (R x').st _ _ _ (g'.trans g3) hR, (S y').st _ _ _ (g'.trans g3) hS⟩⟩
theorem walk_zipT {K : PySem.W.Frag} {a b : Addr} {xs ys : List V} {n : Nat} (hn : n = min xs.length ys.length) : Walk (RZ.ItzT K a b) n (fun H => SqT K H a xs ∧ SqT K H b ys) (YPair (fun i => xs[i]?) (fun i => ys[i]?)) := by
  subst hn
  refine ⟨fun i _ hi q => ?_, fun _ q => ⟨xs, ys, q.1, q.2, by omega⟩, fun i H v H' _ q y => ?_⟩
  · have h1 : i < xs.length := by omega
    have h2 : i < ys.length := by omega
    exact ⟨xs, ys, xs[i], ys[i], q.1, q.2, by simp [h1], by simp [h2]⟩
  · obtain ⟨t, x, z, h1, h2, h3, h4, h5⟩ := y
    exact ⟨t, x, z, h1, h2, h3, h4 xs q.1, h5 ys q.2⟩
theorem src_zipT {z : Nat} {elts : List Expr} (hm : X.mg "zip" = none) (h : EE T X a σ H (tupP X.K R xs)) (h' : EE T X b σ H (tupP X.K S ys)) (hg : Gl X "zip" := by rfl) (hs : starEach [a, b] X.env = (false, eval a X.env) :: starEach [b] X.env := by rfl)
    (hs2 : starEach [b] X.env = (false, eval b X.env) :: starEach [] X.env := by rfl) (hpl : (backTo pos (starEach [b] X.env)).any (·.1) = false := by rfl) :
    Src T X (.Tuple elts z p2) (.Call (.Name "zip" p1) [a, b] [] pos) σ H bNow (xs.zip ys) (fun xy => pairP X.K (R xy.1) (S xy.2)) :=
  Src.of (RZ.pi_zipA hg hm (ea_cons h (ea_cons h' ea_nil hs2) hs) hs hpl) fun H1 g Rr r => ⟨rfl, g, fun vs H2 g2 hv => by
    obtain ⟨v, w, e1, ⟨l, us, e2, h1, h2⟩, l', us', e2', h1', h2'⟩ := sat2 hv
    refine ⟨l, l', us, us', by rw [e1, e2, e2'], .inr ⟨h1, h1', r _ H2 H2 g2 rfl ?_⟩⟩
    refine (walk_zipT (by rw [List.length_zip, h2.length, h2'.length])).mono (fun H' g' => ⟨g'.sqT h1, g'.sqT h1'⟩) fun i H' v H3 hi g' ⟨t, x, y, e3, e4, e5, e6, e7⟩ => ?_
    have g3 : Gr T H' H3 := by rw [e5]; exact .new e4
    obtain ⟨x', hx, hR⟩ := h2.get e6
    obtain ⟨y', hy, hS⟩ := h2'.get e7
    exact ⟨g3, (x', y'), zip_at hx hy, t, x, y, e3, .of (by rw [e5]; exact upd_same), (R x').st _ _ _ (g'.trans g3) hR, (S y').st _ _ _ (g'.trans g3) hS⟩⟩
end
/-- weaker ends -/
theorem SSm {T : List (Addr × Str)} {X : Cx} {sts : List Stmt} {σ : L2.St} {H : Hp} {D D' : Ends} (h : SS T X sts σ H D) (h1 : ∀ σ' H', D.nx σ' H' → D'.nx σ' H') (h2 : ∀ v H', D.rt v H' → D'.rt v H') (h3 : ∀ σ' H', D.bk σ' H' → D'.bk σ' H') (h4 : ∀ σ' H', D.ct σ' H' → D'.ct σ' H') : SS T X sts σ H D' := by
  refine ⟨fun pins s σ' H' D2 I ⟨e1, e2, e3⟩ => ?_⟩
  subst e2 e3
  rw [e1]
  refine thn (h.run pins s σ' H' D I ⟨rfl, rfl, rfl⟩) fun f s' q => ?_
  cases f with
  | next => obtain ⟨a, b, c, d⟩ := q; exact ⟨a, b, c, h1 _ _ d⟩
  | brk => obtain ⟨a, b, c, d⟩ := q; exact ⟨a, b, c, h3 _ _ d⟩
  | cont => obtain ⟨a, b, c, d⟩ := q; exact ⟨a, b, c, h4 _ _ d⟩
  | ret u => obtain ⟨v, a, b, c, r, d⟩ := q; exact ⟨v, a, b, c, r, h2 _ _ d⟩
/-! ### for -/
section
variable {T : List (Addr × Str)} {X : Cx} {tg iter : Expr} {σ : L2.St} {H : Hp} {pos p1 p2 p3 : Pos} {B : Hp → Hp → Prop} {α : Type} {xs : List α} {R : α → Pr T} {body rest : List Stmt} {D : Ends}
theorem ss_for_core {g : TG} (hs : Src T X tg iter σ H B xs R) (hg : PG X tg g) (hp : PassesOwn (model X.prog X.w) X.A X.env X.xe) (hc : X.calm = true) (Pv : Hp → Nat → L2.St → Hp → Prop) (hG : ∀ Hb i σ' H', Pv Hb i σ' H' → Gr T Hb H')
    (h0 : ∀ Hb H2, Gr T H H2 → B Hb H2 → Pv Hb 0 σ H2) (hst : ∀ Hb i x v σ' H' H3, xs[i]? = some x → Pv Hb i σ' H' → Gr T H' H3 → (R x).p v H3 → g v σ' H3 fun σ2 H4 => SS T X body σ2 H4 { D with nx := Pv Hb (i + 1), ct := Pv Hb (i + 1), bk := fun σ2 H2 => SS T X rest σ2 H2 D })
    (hd : ∀ Hb σ' H', Pv Hb xs.length σ' H' → SS T X rest σ' H' D) (hf : ∀ x, foldedSetIterable iter X.env x = pure x) : SS T X (.For tg iter body [] pos :: rest) σ H D := by
  refine ss_cons (S1.of (ps_for (g := g) (tb := fun D' σ' H' => SS T X body σ' H' D') hp hc hs hg ⟨fun pins s σ' H' D' I q => q.run pins s σ' H' D' I ⟨rfl, rfl, rfl⟩⟩ hf) ?_)
  refine ⟨rfl, .refl _, fun J H2 Hb g2 hB hw => ?_⟩
  exact for_it (g := g) (tb := fun D' σ' H' => SS T X body σ' H' D') (D := { D with nx := fun σ' H' => SS T X rest σ' H' D }) hw (Pv Hb) (h0 Hb H2 g2 hB) (fun i σ' H' _ p => hG Hb i σ' H' p) (fun i v σ' H' H3 hi p ⟨g3, x, hx, hv⟩ => hst Hb i x v σ' H' H3 hx p g3 hv) fun σ' H' p => hd Hb σ' H' p
/-- for x in ..: x in slot j; the heap grows from turn to turn -/
theorem ss_for (j : Nat) {x : Str} (hs : Src T X (.Name x p1) iter σ H bNow xs R) (hp : PassesOwn (model X.prog X.w) X.A X.env X.xe) (hN : X.N.Nodup) (Pv : Nat → L2.St → Hp → Prop) (h0 : ∀ H2, Gr T H H2 → Pv 0 σ H2)
    (hst : ∀ i y v σ' H' H3, xs[i]? = some y → Pv i σ' H' → Gr T H H' → Gr T H' H3 → (R y).p v H3 → SS T X body (σ'.set j (some v)) H3 { D with nx := fun σ2 H2 => Gr T H3 H2 ∧ Pv (i + 1) σ2 H2, ct := fun σ2 H2 => Gr T H3 H2 ∧ Pv (i + 1) σ2 H2, bk := fun σ2 H2 => SS T X rest σ2 H2 D })
    (hd : ∀ σ' H', Gr T H H' → Pv xs.length σ' H' → SS T X rest σ' H' D) (hc : X.calm = true := by rfl) (hi : X.N[j]? = some x := by rfl) (hx : Loc X.env.scope x := by first | exact Or.inl rfl | exact Or.inr rfl)
    (hf : X.fn x = true ∨ X.env.scope.names.lookup x = some .local := by first | exact .inl rfl | exact .inr rfl) (hfs : ∀ x, foldedSetIterable iter X.env x = pure x := by intro _; rfl) : SS T X (.For (.Name x p1) iter body [] pos :: rest) σ H D := by
  refine ss_for_core (g := gName j) hs (pg_name hN hi hx hf) hp hc (fun Hb i σ' H' => Gr T Hb H' ∧ Gr T H Hb ∧ Pv i σ' H') (fun _ _ _ _ q => q.1) (fun Hb H2 g e => by
    obtain rfl : Hb = H2 := e
    exact ⟨.refl _, g, h0 _ g⟩) ?_ (fun Hb σ' H' q => hd σ' H' (q.2.1.trans q.1) q.2.2) hfs
  intro Hb i y v σ' H' H3 hy ⟨g1, g2, pv⟩ g3 hv
  have h := hst i y v σ' H' H3 hy pv (g2.trans g1) g3 hv
  refine SSm h (fun σ2 H2 q => ⟨(g1.trans g3).trans q.1, g2, q.2⟩) (fun _ _ q => q) (fun _ _ q => q) fun σ2 H2 q => ⟨(g1.trans g3).trans q.1, g2, q.2⟩
/-- .. from the heap H0 on, which the source knows -/
theorem ss_forB {H0 : Hp} (j : Nat) {x : Str} (hs : Src T X (.Name x p1) iter σ H (bOld H0) xs R) (hp : PassesOwn (model X.prog X.w) X.A X.env X.xe) (hN : X.N.Nodup) (Pv : Nat → L2.St → Hp → Prop) (h0 : ∀ H2, Gr T H H2 → Pv 0 σ H2) (hG : ∀ i σ' H', Pv i σ' H' → Gr T H0 H')
    (hst : ∀ i y v σ' H' H3, xs[i]? = some y → Pv i σ' H' → Gr T H' H3 → (R y).p v H3 → SS T X body (σ'.set j (some v)) H3 { D with nx := Pv (i + 1), ct := Pv (i + 1), bk := fun σ2 H2 => SS T X rest σ2 H2 D })
    (hd : ∀ σ' H', Pv xs.length σ' H' → SS T X rest σ' H' D) (hc : X.calm = true := by rfl) (hi : X.N[j]? = some x := by rfl) (hx : Loc X.env.scope x := by first | exact Or.inl rfl | exact Or.inr rfl)
    (hf : X.fn x = true ∨ X.env.scope.names.lookup x = some .local := by first | exact .inl rfl | exact .inr rfl) (hfs : ∀ x, foldedSetIterable iter X.env x = pure x := by intro _; rfl) : SS T X (.For (.Name x p1) iter body [] pos :: rest) σ H D :=
  ss_for_core (g := gName j) hs (pg_name hN hi hx hf) hp hc (fun Hb i σ' H' => Hb = H0 ∧ Pv i σ' H') (fun Hb i σ' H' q => by rw [q.1]; exact hG _ _ _ q.2) (fun Hb H2 g e => ⟨e, h0 _ g⟩) (fun Hb i y v σ' H' H3 hy ⟨e, pv⟩ g3 hv => SSm (hst i y v σ' H' H3 hy pv g3 hv) (fun _ _ q => ⟨e, q⟩) (fun _ _ q => q) (fun _ _ q => q) fun _ _ q => ⟨e, q⟩)
    (fun Hb σ' H' q => hd σ' H' q.2) hfs
theorem g_pair {K : PySem.W.Frag} {P1 P2 : Pr T} {j k : Nat} {v : V} {Q : L2.St → Hp → Prop} (h : (pairP K P1 P2).p v H) (q : ∀ x y, P1.p x H → P2.p y H → Q ((σ.set j (some x)).set k (some y)) H) : gTup K 2 (gCons (gName j) (gCons (gName k) gNil)) v σ H Q := by
  obtain ⟨a, x, y, e, h1, h2, h3⟩ := h
  exact ⟨a, [x, y], e, h1, rfl, x, [y], rfl, y, [], rfl, rfl, q x y h2 h3⟩
/-- for x, y in .. -/
theorem ss_for2 {P1 P2 : α → Pr T} (j k : Nat) {x y : Str} {z : Nat} {p4 p5 : Pos} (hs : Src T X (.Tuple [.Name x p1, .Name y p4] z p5) iter σ H bNow xs (fun a => pairP X.K (P1 a) (P2 a))) (hp : PassesOwn (model X.prog X.w) X.A X.env X.xe) (hN : X.N.Nodup) (Pv : Nat → L2.St → Hp → Prop) (h0 : ∀ H2, Gr T H H2 → Pv 0 σ H2)
    (hst : ∀ i y v w σ' H' H3, xs[i]? = some y → Pv i σ' H' → Gr T H H' → Gr T H' H3 → (P1 y).p v H3 → (P2 y).p w H3 → SS T X body ((σ'.set j (some v)).set k (some w)) H3 { D with nx := fun σ2 H2 => Gr T H3 H2 ∧ Pv (i + 1) σ2 H2, ct := fun σ2 H2 => Gr T H3 H2 ∧ Pv (i + 1) σ2 H2, bk := fun σ2 H2 => SS T X rest σ2 H2 D })
    (hd : ∀ σ' H', Gr T H H' → Pv xs.length σ' H' → SS T X rest σ' H' D) (hc : X.calm = true := by rfl) (hi : X.N[j]? = some x := by rfl) (hi2 : X.N[k]? = some y := by rfl) (hx : Loc X.env.scope x := by first | exact Or.inl rfl | exact Or.inr rfl) (hy : Loc X.env.scope y := by first | exact Or.inl rfl | exact Or.inr rfl)
    (hf : X.fn x = true ∨ X.env.scope.names.lookup x = some .local := by first | exact .inl rfl | exact .inr rfl) (hf2 : X.fn y = true ∨ X.env.scope.names.lookup y = some .local := by first | exact .inl rfl | exact .inr rfl) (hfs : ∀ x, foldedSetIterable iter X.env x = pure x := by intro _; rfl)
    (hn : (assignEach [.Name x p1, .Name y p4] X.env).length = 2 := by rfl) (hst0 : (assignEach [.Name x p1, .Name y p4] X.env).findIdx? (·.1) = none := by rfl)
    (hs1 : (assignEach [.Name x p1, .Name y p4] X.env).map (·.2) = assign (.Name x p1) X.env :: (assignEach [.Name y p4] X.env).map (·.2) := by rfl) (hs2 : (assignEach [.Name y p4] X.env).map (·.2) = assign (.Name y p4) X.env :: (assignEach [] X.env).map (·.2) := by rfl) :
    SS T X (.For (.Tuple [.Name x p1, .Name y p4] z p5) iter body [] pos :: rest) σ H D := by
  refine ss_for_core (g := gTup X.K 2 (gCons (gName j) (gCons (gName k) gNil))) hs (pg_tup hc (pgs_cons (pg_name hN hi hx hf) (pgs_cons (pg_name hN hi2 hy hf2) pgs_nil hs2) hs1) hn hst0) hp hc (fun Hb i σ' H' => Gr T Hb H' ∧ Gr T H Hb ∧ Pv i σ' H') (fun _ _ _ _ q => q.1) (fun Hb H2 g e => by
    obtain rfl : Hb = H2 := e
    exact ⟨.refl _, g, h0 _ g⟩) ?_ (fun Hb σ' H' q => hd σ' H' (q.2.1.trans q.1) q.2.2) hfs
  intro Hb i y v σ' H' H3 hy ⟨g1, g2, pv⟩ g3 hv
  refine g_pair hv fun a b ha hb => ?_
  exact SSm (hst i y a b σ' H' H3 hy pv (g2.trans g1) g3 ha hb) (fun σ2 H2 q => ⟨(g1.trans g3).trans q.1, g2, q.2⟩) (fun _ _ q => q) (fun _ _ q => q) fun σ2 H2 q => ⟨(g1.trans g3).trans q.1, g2, q.2⟩
end
/-! ### comprehensions -/
section
variable {T : List (Addr × Str)} {X : Cx} {tg iter elt c tg1 iter1 : Expr} {ifs ifs1 : List Expr} {σ : L2.St} {H : Hp} {pos p1 p2 p3 : Pos} {α β : Type} {xs : List α} {R : α → Pr T} {scope : Scope} {own : List (Str × Nat)}
/-- the value of e, known without the list or dict at D -/
def EN (T : List (Addr × Str)) (X : Cx) (e : Expr) (σ : L2.St) (H : Hp) (D : Addr) (P : Pr T) : Prop := PE X e fun σ' H1 Q => σ' = σ ∧ Gr T H H1 ∧ ∀ v H2, Gr T H1 H2 → P.p v (del H2 D) → Q v H2
theorem EE.en {e : Expr} {P : Pr T} [hS : Solid P] {D : Addr} {o : HO} (h : EE T X e σ H P) (hD : H D = some o) (c : Chg o) : EN T X e σ H D P :=
  ⟨fun pins s σ' H1 Q I ⟨e1, g, r⟩ => by
    rw [e1] at I ⊢
    refine h.run pins s σ H1 Q I ⟨rfl, g, fun v H2 g2 hv => r v H2 g2 (hS.s _ _ _ o ?_ c hv)⟩
    exact (g.trans g2).ext D o hD fun ps e => by rw [e] at c; exact c⟩
theorem del_comm {H : Hp} {a b : Addr} : del (del H a) b = del (del H b) a := by
  funext c
  unfold del
  split <;> split <;> rfl
theorem NewL.en {e : Expr} {γ : Type} {Rr : γ → Pr T} [hR : ∀ x, Solid (Rr x)] {zs : List γ} {D : Addr} {o : HO} (h : NewL T X e σ H fun vs H1 => All2 Rr vs zs H1) (hD : H D = some o) (c : Chg o) : EN T X e σ H D (lstP X.K Rr zs) :=
  ⟨fun pins s σ' H1 Q I ⟨e1, g, r⟩ => by
    rw [e1] at I ⊢
    refine h.run pins s σ H1 Q I ⟨rfl, g, fun p xs H2 g2 hn hp hS => ?_⟩
    have d1 := g.ext D o hD fun ps e => by rw [e] at c; exact c
    have d2 := g2.ext D o d1 fun ps e => by rw [e] at c; exact c
    have np : p ≠ D := fun e => by
      rw [e, d1] at hn
      exact nomatch hn
    have h3 : All2 Rr xs zs (del (del H2 p) D) := All2.del ((del_ne np.symm).trans d2) c hS
    rw [del_comm] at h3
    exact r _ H2 g2 ⟨p, xs, rfl, .inl (.inl ((del_ne np).trans hp)), h3.st .del⟩⟩
/-- the tests of a comprehension -/
def ETs (T : List (Addr × Str)) (X : Cx) (ifs : List Expr) (σ : L2.St) (H : Hp) (b : Bool) : Prop := PTs X ifs fun σ' H1 Q => σ' = σ ∧ Gr T H H1 ∧ ∀ H2, Gr T H1 H2 → Q b H2
theorem ets_nil : ETs T X [] σ H true := ⟨fun pins s σ' H' Q I ⟨e1, g, q⟩ => pts_nil.run pins s σ' H' Q I (q H' (.refl _))⟩
theorem ets_one {b : Bool} (h : ET T X c σ H b) : ETs T X [c] σ H b := ⟨fun pins s σ' H' Q I q => (pts_one h).run pins s σ' H' Q I q⟩
abbrev bl (X : Cx) (scope : Scope) (s : Shared) (H : Hp) (C : Addr) (cl : List (Str × Addr)) (fp : List Addr) : Cx := X.blk s H scope (compEnvC scope cl C X.env) fp
/-- a comprehension: a new list, as a value or at once stored into a name -/
structure NewC (T : List (Addr × Str)) (X : Cx) (e : Expr) (σ : L2.St) (H : Hp) (S : List V → Hp → Prop) : Prop where
  nl : NewL T X e σ H S
  set : ∀ {i : Nat} {y : Str} {py spos : Pos} {D : Ends}, X.N[i]? = some y → X.env.scope.names.lookup y = some .local → swapsWith e (some (.Name y py)) spos.line X.env = pure true →
    (∀ p xs H1, Gr T H H1 → H p = none → H1 p = some (.lst xs) → S xs (del H1 p) → D.nx (σ.set i (some (.ref p))) H1) → S1 T X (.Assign [.Name y py] e spos) σ H D
theorem NewC.of {te : TE} {e : Expr} {S : List V → Hp → Prop} (h : PE X e te) (hs : ∀ {i : Nat} {y : Str} {py spos : Pos}, X.N[i]? = some y → X.env.scope.names.lookup y = some .local → swapsWith e (some (.Name y py)) spos.line X.env = pure true → PS X (.Assign [.Name y py] e spos) (tAsg te (gName i)))
    (q : ∀ H1, Gr T H H1 → ∀ Q : VK, (∀ p xs H2, Gr T H1 H2 → H1 p = none → H2 p = some (.lst xs) → S xs (del H2 p) → Q (.ref p) H2) → te σ H1 Q) : NewC T X e σ H S :=
  ⟨NewL.of h q, fun hy hl hsw r => S1.of (hs hy hl hsw) (q H (.refl _) _ fun p xs H2 g hp h2 hS => r p xs H2 g hp h2 hS)⟩
def rdTs (T : List (Addr × Str)) (X : Cx) (scope : Scope) (ifs : List Expr) : TT := fun σ' H' Q => ∃ b, (∀ s H C cl fp, ETs T (bl X scope s H C cl fp) ifs σ' H' b) ∧ ∀ H2, Gr T H' H2 → Q b H2
def rdE (T : List (Addr × Str)) (X : Cx) (scope : Scope) (elt : Expr) : TE := fun σ' H' Q => ∃ (D : Addr) (P : Pr T), (∀ s H C cl fp, EN T (bl X scope s H C cl fp) elt σ' H' D P) ∧ ∀ v H2, Gr T H' H2 → P.p v (del H2 D) → Q v H2
theorem pts_rd {s : Shared} {C : Addr} {cl : List (Str × Addr)} {fp : List Addr} : PTs (bl X scope s H C cl fp) ifs (rdTs T X scope ifs) := ⟨fun pins s' σ' H' Q I ⟨b, h, q⟩ => (h _ _ _ _ _).run pins s' σ' H' Q I ⟨rfl, .refl _, q⟩⟩
theorem pe_rd {s : Shared} {C : Addr} {cl : List (Str × Addr)} {fp : List Addr} : PE (bl X scope s H C cl fp) elt (rdE T X scope elt) := ⟨fun pins s' σ' H' Q I ⟨D, P, h, q⟩ => (h _ _ _ _ _).run pins s' σ' H' Q I ⟨rfl, .refl _, q⟩⟩
theorem nc_lc_core {g : TG} {Ro : α → Pr T} {keep : α → Bool} {Bd : α → L2.St → L2.St → Hp → Prop} (hs : Src T X tg iter σ H bNow xs R) (hl : xs.length ≤ 1000) (hc : X.calm = true) (hN : X.N.Nodup) (ok : BlkOk X.N X.env.scope scope own)
    (hg : ∀ s H C cl fp, PG (bl X scope s H C cl fp) tg g) (hB : ∀ x v σ' H' Q, (R x).p v H' → (∀ σ2, Bd x σ' σ2 H' → Q σ2 H') → g v σ' H' Q) (hw : ∀ x σ2 H', Bd x (wipe σ (own.map (·.2))) σ2 H' → wipe σ2 (own.map (·.2)) = wipe σ (own.map (·.2)))
    (hi : ∀ x σ2 H', x ∈ xs → Gr T H H' → Bd x (wipe σ (own.map (·.2))) σ2 H' → ∀ s H C cl fp, ETs T (bl X scope s H C cl fp) ifs σ2 H' (keep x))
    (he : ∀ x σ2 H' H2 D ls, x ∈ xs → Gr T H H' → Bd x (wipe σ (own.map (·.2))) σ2 H' → Gr T H' H2 → keep x = true → H D = none → H2 D = some (.lst ls) → ∀ s H C cl fp, EN T (bl X scope s H C cl fp) elt σ2 H2 D (Ro x))
    (hf : ∀ x, foldedSetIterable iter X.env x = pure x := by intro _; rfl) : NewC T X (.ListComp elt [⟨tg, iter, ifs, 0⟩] scope pos) σ H (fun vs H1 => All2 Ro vs (xs.filter keep) H1) := by
  refine NewC.of (pe_lc hc hN hs ok hg (fun _ _ _ _ _ => pts_rd (T := T)) (fun _ _ _ _ _ => pe_rd (T := T)) hf) (fun hy hl hsw => ps_setLc hc hN hy hl hsw hs ok hg (fun _ _ _ _ _ => pts_rd (T := T)) (fun _ _ _ _ _ => pe_rd (T := T)) hf) ?_
  intro H1 g1 Q r
  refine ⟨rfl, g1, fun J H2 Hb g2 hb hw' D hD => ?_⟩
  obtain rfl : Hb = H2 := hb
  refine lc_it (g := g) (tt := rdTs T X scope ifs) (te := rdE T X scope elt) (vs := own.map (·.2)) (σ := σ) (D := D) (Qd := Q (.ref D)) hw' (fun i H' => i ≤ xs.length ∧ ∃ Hc acc, Gr T Hb Hc ∧ Hc D = none ∧ Gr T Hc H' ∧ H' D = some (.lst acc) ∧ All2 Ro acc ((xs.take i).filter keep) Hc) ⟨Nat.zero_le _, Hb, [], .refl _, hD, .new hD, upd_same, by simp [All2]⟩ (fun i H' _ p => by
    obtain ⟨_, Hc, acc, c1, c2, c3, c4, c5⟩ := p
    exact c1.trans c3) ?_ fun H' p => ?_
  · intro i v H' H3 hi' ⟨_, Hc, acc, c1, c2, c3, c4, c5⟩ ⟨g3, x, hx, hv⟩
    have hm : x ∈ xs := List.mem_of_getElem? hx
    have gH : Gr T H H3 := ((g1.trans g2).trans c1).trans (c3.trans g3)
    have d3 := g3.lst c4
    refine hB x v _ H3 _ hv fun σ2 hbd => ⟨hw x σ2 H3 hbd, keep x, hi x σ2 H3 hm gH hbd, fun H4 g4 => ?_⟩
    have d4 := g4.lst d3
    have et : xs.take (i + 1) = xs.take i ++ [x] := by rw [List.take_add_one, hx]; rfl
    cases hk : keep x with
    | true =>
      refine iteT ⟨D, Ro x, he x σ2 H3 H4 D acc hm gH hbd g4 hk ((g1.trans g2).old D hD) d4, fun y H5 g5 hy => ?_⟩
      have d5 := g5.lst d4
      have gc : Gr T Hc (del H5 D) := (((c3.trans g3).trans g4).trans g5).toDel c2 d5 trivial
      refine ⟨acc, d5, ?_, hi', del H5 D, acc ++ [y], c1.trans gc, del_same, ?_, upd_same, ?_⟩
      · have h1 : acc.length = _ := c5.length
        have h2 : ((xs.take i).filter keep).length ≤ (xs.take i).length := List.length_filter_le _ _
        rw [List.length_take] at h2
        have : (1000 : Nat) < sizeLine := by decide
        omega
      · have e : upd H5 D (.lst (acc ++ [y])) = upd (del H5 D) D (.lst (acc ++ [y])) := by
          funext b
          by_cases k : b = D
          · rw [k, upd_same, upd_same]
          · rw [upd_ne k, upd_ne k, del_ne k]
        rw [e]
        exact .new del_same
      · rw [et, List.filter_append]
        have e : [x].filter keep = [x] := by simp [hk]
        rw [e]
        exact (c5.st gc).snoc hy
    | false =>
      refine iteF ⟨hi', Hc, acc, c1, c2, (c3.trans g3).trans g4, d4, ?_⟩
      rw [et, List.filter_append]
      have e : [x].filter keep = [] := by simp [hk]
      rw [e, List.append_nil]
      exact c5
  · obtain ⟨_, Hc, acc, c1, c2, c3, c4, c5⟩ := p
    rw [List.take_length] at c5
    exact r D acc H' ((g2.trans c1).trans c3) (g2.old D hD) c4 (c5.st (c3.toDel c2 c4 trivial))
def rdI (T : List (Addr × Str)) {β : Type} (X : Cx) (scope : Scope) (tg iter : Expr) (_ : β → Pr T) : TI := fun σ' H' Rr => ∃ (ys : List β) (S : β → Pr T) (H0 : Hp), (∀ s H C cl fp, Src T (bl X scope s H C cl fp) tg iter σ' H' (bOld H0) ys S) ∧ ∀ J H2, Gr T H' H2 → Walk J ys.length (fun H3 => Gr T H0 H3) (fun i H3 v H4 => Gr T H3 H4 ∧ ∃ x, ys[i]? = some x ∧ (S x).p v H4) → Rr J H2
theorem pi_rd {S0 : β → Pr T} {s : Shared} {C : Addr} {cl : List (Str × Addr)} {fp : List Addr} : PI (bl X scope s H C cl fp) tg1 iter1 (rdI T X scope tg1 iter1 S0) :=
  ⟨fun pins s' σ' H' Rr I ⟨ys, S, H0, h, q⟩ => (h _ _ _ _ _).run pins s' σ' H' Rr I ⟨rfl, .refl _, fun J H2 Hb g hb w => q J H2 g (by
    obtain rfl : Hb = H0 := hb
    exact w)⟩⟩
theorem nc_lc2_core {g g1 : TG} {vs1 : List Nat} {ys : α → List β} {S : α → β → Pr T} {Ro : α → β → Pr T} {keep : α → β → Bool} {Bd : α → L2.St → L2.St → Hp → Prop} {Bd1 : α → β → L2.St → L2.St → Hp → Prop} (hs : Src T X tg iter σ H bNow xs R) (hl : (xs.flatMap ys).length ≤ 1000) (hc : X.calm = true) (hN : X.N.Nodup) (ok : BlkOk X.N X.env.scope scope own) (hv : ∀ i ∈ vs1, i ∈ own.map (·.2))
    (hg : ∀ s H C cl fp, PG (bl X scope s H C cl fp) tg g) (hB : ∀ x v σ' H' Q, (R x).p v H' → (∀ σ2, Bd x σ' σ2 H' → Q σ2 H') → g v σ' H' Q) (hw : ∀ x σ2 H', Bd x (wipe σ (own.map (·.2))) σ2 H' → wipe σ2 (own.map (·.2)) = wipe σ (own.map (·.2)))
    (hBd : ∀ x σ1 σ2 H' D ls, H' D = some (.lst ls) → Bd x σ1 σ2 H' → Bd x σ1 σ2 (del H' D))
    (hs1 : ∀ x σ2 H' H2, x ∈ xs → Gr T H H' → Bd x (wipe σ (own.map (·.2))) σ2 H' → Gr T H' H2 → ∀ s H C cl fp, Src T (bl X scope s H C cl fp) tg1 iter1 σ2 H2 (bOld H') (ys x) (S x))
    (hg1 : ∀ s H C cl fp, PG (bl X scope s H C cl fp) tg1 g1) (hB1 : ∀ x y v σ' H' Q, (S x y).p v H' → (∀ σ2, Bd1 x y σ' σ2 H' → Q σ2 H') → g1 v σ' H' Q)
    (hw1 : ∀ x y σ2 σ3 H' H2, Bd x (wipe σ (own.map (·.2))) σ2 H' → Bd1 x y (wipe σ2 vs1) σ3 H2 → wipe σ3 vs1 = wipe σ2 vs1)
    (hi : ∀ x y σ2 σ3 H' H2, x ∈ xs → y ∈ ys x → Gr T H H' → Bd x (wipe σ (own.map (·.2))) σ2 H' → Gr T H' H2 → Bd1 x y (wipe σ2 vs1) σ3 H2 → ∀ s H C cl fp, ETs T (bl X scope s H C cl fp) ifs σ3 H2 (keep x y))
    (he : ∀ x y σ2 σ3 H' H2 H3 D ls, x ∈ xs → y ∈ ys x → Gr T H H' → Bd x (wipe σ (own.map (·.2))) σ2 H' → Gr T H' H2 → Bd1 x y (wipe σ2 vs1) σ3 H2 → Gr T H2 H3 → keep x y = true → H3 D = some (.lst ls) → ∀ s H C cl fp, EN T (bl X scope s H C cl fp) elt σ3 H3 D (Ro x y))
    (hf : ∀ x, foldedSetIterable iter X.env x = pure x := by intro _; rfl) (hf1 : ∀ env x, foldedSetIterable iter1 env x = pure x := by intro _ _; rfl) :
    NewC T X (.ListComp elt [⟨tg, iter, [], 0⟩, ⟨tg1, iter1, ifs, 0⟩] scope pos) σ H (fun vs H1 => All2 (fun xy : α × β => Ro xy.1 xy.2) vs (xs.flatMap fun x => ((ys x).filter (keep x)).map fun y => (x, y)) H1) := by
  refine NewC.of (pe_lc2 hc hN hs ok hv hg (fun _ _ _ _ _ => pts_nil) (fun _ _ _ _ _ => pi_rd (T := T) (S0 := fun _ : β => anyP)) hg1 (fun _ _ _ _ _ => pts_rd (T := T)) (fun _ _ _ _ _ => pe_rd (T := T)) hf hf1)
    (fun hy hl hsw => ps_setLc2 hc hN hy hl hsw hs ok hv hg (fun _ _ _ _ _ => pts_nil) (fun _ _ _ _ _ => pi_rd (T := T) (S0 := fun _ : β => anyP)) hg1 (fun _ _ _ _ _ => pts_rd (T := T)) (fun _ _ _ _ _ => pe_rd (T := T)) hf hf1) ?_
  intro H1 gg1 Q r
  refine ⟨rfl, gg1, fun J H2 Hb g2 hb hw' D hD => ?_⟩
  obtain rfl : Hb = H2 := hb
  let res : List α → List (α × β) := fun zs => zs.flatMap fun x => ((ys x).filter (keep x)).map fun y => (x, y)
  let In : List (α × β) → Hp → Prop := fun zs H' => ∃ Hc acc, Gr T Hb Hc ∧ Hc D = none ∧ Gr T Hc H' ∧ H' D = some (.lst acc) ∧ All2 (fun xy : α × β => Ro xy.1 xy.2) acc zs Hc
  have gIn : ∀ {zs H' H''}, In zs H' → Gr T H' H'' → In zs H'' := fun ⟨Hc, acc, c1, c2, c3, c4, c5⟩ g => ⟨Hc, acc, c1, c2, c3.trans g, g.lst c4, c5⟩
  have bIn : ∀ {zs H'}, In zs H' → Gr T Hb H' := fun ⟨Hc, acc, c1, c2, c3, c4, c5⟩ => c1.trans c3
  have len : ∀ x ∈ xs, ∀ (i j : Nat), xs[i]? = some x → j < (ys x).length → (res (xs.take i)).length + (((ys x).take j).filter (keep x)).length < sizeLine := by
    intro x hx i j hi' hj
    have h0 : (1000 : Nat) < sizeLine := by decide
    have h1 : (((ys x).take j).filter (keep x)).length ≤ j := Nat.le_trans (List.length_filter_le _ _) (by rw [List.length_take]; omega)
    have h2 : ∀ zs : List α, (res zs).length ≤ (zs.flatMap ys).length := fun zs => by
      induction zs with
      | nil => exact Nat.le_refl _
      | cons z zs ih =>
        have e1 : res (z :: zs) = (((ys z).filter (keep z)).map fun y => (z, y)) ++ res zs := rfl
        have h3 : ((ys z).filter (keep z)).length ≤ (ys z).length := List.length_filter_le _ _
        rw [e1, List.length_append, List.flatMap_cons, List.length_append, List.length_map]
        omega
    have h4 := h2 (xs.take i)
    have h5 : (xs.flatMap ys).length = ((xs.take i).flatMap ys).length + ((xs.drop i).flatMap ys).length := by
      rw [← List.length_append, ← List.flatMap_append, List.take_append_drop]
    have h6 : xs.drop i = x :: xs.drop (i + 1) := by
      have hlt : i < xs.length := by
        rcases Nat.lt_or_ge i xs.length with z | z
        · exact z
        · rw [List.getElem?_eq_none z] at hi'
          exact nomatch hi'
      rw [List.drop_eq_getElem_cons hlt]
      rw [List.getElem?_eq_getElem hlt] at hi'
      rw [Option.some.inj hi']
    rw [h6, List.flatMap_cons, List.length_append] at h5
    omega
  refine ⟨fun i m H' => m = xs.length - i ∧ i ≤ xs.length ∧ In (res (xs.take i)) H', ⟨xs.length, by simp, Nat.zero_le _, Hb, [], .refl _, hD, .new hD, upd_same, by simp [res, All2]⟩, ?_⟩
  rintro i m H' ⟨rfl, hi', p⟩
  by_cases hlt : i < xs.length
  · refine .inr ⟨hw'.goes i H' hlt (bIn p), fun H' => i + 1 ≤ xs.length ∧ In (res (xs.take (i + 1))) H', fun H' p' => ⟨xs.length - (i + 1), by omega, rfl, p'.1, p'.2⟩, fun v H3 y => ?_⟩
    obtain ⟨g3, x, hx, hv'⟩ := hw'.yields i H' v H3 hlt (bIn p) y
    have hm : x ∈ xs := List.mem_of_getElem? hx
    have p3 := gIn p g3
    have gH : Gr T H H3 := (gg1.trans g2).trans (bIn p3)
    have et : xs.take (i + 1) = xs.take i ++ [x] := by rw [List.take_add_one, hx]; rfl
    refine hB x v _ H3 _ hv' fun σ2 hbd => ⟨hw x σ2 H3 hbd, ?_⟩
    have p3' := p3
    obtain ⟨Hc3, acc3, k1, k2, k3, k4, k5⟩ := p3'
    have gD : Gr T Hb (del H3 D) := (k1.trans k3).toDel hD k4 trivial
    have gHD := (gg1.trans g2).trans gD
    have hbd' := hBd _ _ _ _ _ _ k4 hbd
    refine (?_ : rdI T X scope tg1 iter1 (fun _ : β => anyP) σ2 H3 _)
    refine ⟨ys x, S x, del H3 D, hs1 x σ2 (del H3 D) H3 hm gHD hbd' Gr.del, fun J1 H4 g4 w1 => ?_⟩
    have p4 := gIn p3 g4
    let Row : Nat → List (α × β) := fun j => res (xs.take i) ++ (((ys x).take j).filter (keep x)).map fun y => (x, y)
    refine ⟨fun j k H' => k = (ys x).length - j ∧ j ≤ (ys x).length ∧ Gr T (del H3 D) H' ∧ In (Row j) H', ⟨(ys x).length, by simp, Nat.zero_le _, Gr.del.trans g4, by
      show In (res (xs.take i) ++ (((ys x).take 0).filter (keep x)).map fun y => (x, y)) H4
      rw [List.take_zero, List.filter_nil, List.map_nil, List.append_nil]
      exact p4⟩, ?_⟩
    rintro j k H5 ⟨rfl, hj, g5, p5⟩
    by_cases hjl : j < (ys x).length
    · refine .inr ⟨w1.goes j H5 hjl g5, fun H' => j + 1 ≤ (ys x).length ∧ Gr T (del H3 D) H' ∧ In (Row (j + 1)) H', fun H' p' => ⟨(ys x).length - (j + 1), by omega, rfl, p'.1, p'.2.1, p'.2.2⟩, fun v' H6 y' => ?_⟩
      obtain ⟨g6, y, hy, hvy⟩ := w1.yields j H5 v' H6 hjl g5 y'
      have hmy : y ∈ ys x := List.mem_of_getElem? hy
      have ety : (ys x).take (j + 1) = (ys x).take j ++ [y] := by rw [List.take_add_one, hy]; rfl
      refine hB1 x y v' _ H6 _ hvy fun σ3 hbd1 => ⟨hw1 x y σ2 σ3 H3 H6 hbd hbd1, keep x y, hi x y σ2 σ3 (del H3 D) H6 hm hmy gHD hbd' (g5.trans g6) hbd1, fun H7 g7 => ?_⟩
      obtain ⟨Hc, acc, c1, c2, c3, c4, c5⟩ := gIn (gIn p5 g6) g7
      cases hk : keep x y with
      | true =>
        refine iteT ⟨D, Ro x y, he x y σ2 σ3 (del H3 D) H6 H7 D acc hm hmy gHD hbd' (g5.trans g6) hbd1 g7 hk c4, fun u H8 g8 hu => ?_⟩
        have d8 := g8.lst c4
        have gc : Gr T Hc (del H8 D) := (c3.trans g8).toDel c2 d8 trivial
        have eR : Row (j + 1) = Row j ++ [(x, y)] := by
          show res (xs.take i) ++ (((ys x).take (j + 1)).filter (keep x)).map (fun y => (x, y)) = _
          rw [ety, List.filter_append]
          have e : [y].filter (keep x) = [y] := by simp [hk]
          rw [e, List.map_append, ← List.append_assoc]
          rfl
        refine ⟨acc, d8, ?_, hjl, (((g5.trans g6).trans g7).trans g8).mut del_same (calm_chg d8 trivial), del H8 D, acc ++ [u], c1.trans gc, del_same, ?_, upd_same, ?_⟩
        · have h1 : acc.length = (Row j).length := c5.length
          have h2 := len x hm i j hx hjl
          have h3 : (Row j).length = (res (xs.take i)).length + (((ys x).take j).filter (keep x)).length := by
            show (res (xs.take i) ++ _).length = _
            rw [List.length_append, List.length_map]
          omega
        · have e : upd H8 D (.lst (acc ++ [u])) = upd (del H8 D) D (.lst (acc ++ [u])) := by
            funext b
            by_cases k : b = D
            · rw [k, upd_same, upd_same]
            · rw [upd_ne k, upd_ne k, del_ne k]
          rw [e]
          exact .new del_same
        · rw [eR]
          exact (c5.st gc).snoc hu
      | false =>
        refine iteF ⟨hjl, ((g5.trans g6).trans g7), Hc, acc, c1, c2, c3, c4, ?_⟩
        have eR : Row (j + 1) = Row j := by
          show res (xs.take i) ++ (((ys x).take (j + 1)).filter (keep x)).map (fun y => (x, y)) = _
          rw [ety, List.filter_append]
          have e : [y].filter (keep x) = [] := by simp [hk]
          rw [e, List.append_nil]
        rw [eR]
        exact c5
    · have e : j = (ys x).length := by omega
      subst e
      refine .inl ⟨w1.stops H5 g5, hlt, ?_⟩
      rw [et]
      have e2 : res (xs.take i ++ [x]) = Row (ys x).length := by
        show (xs.take i ++ [x]).flatMap _ = _
        rw [List.flatMap_append]
        show res (xs.take i) ++ _ = res (xs.take i) ++ _
        rw [List.take_length]
        simp
      rw [e2]
      exact p5
  · have e : i = xs.length := by omega
    subst e
    rw [List.take_length] at p
    obtain ⟨Hc, acc, c1, c2, c3, c4, c5⟩ := p
    exact .inl ⟨hw'.stops H' (c1.trans c3), r D acc H' ((g2.trans c1).trans c3) (g2.old D hD) c4 (c5.st (c3.toDel c2 c4 trivial))⟩
/-- what a name target binds -/
abbrev BdN (R : α → Pr T) (j : Nat) : α → L2.St → L2.St → Hp → Prop := fun x σ1 σ2 H' => ∃ v, σ2 = σ1.set j (some v) ∧ (R x).p v H'
abbrev BdP (R1 R2 : α → Pr T) (j k : Nat) : α → L2.St → L2.St → Hp → Prop := fun x σ1 σ2 H' => ∃ v w, σ2 = (σ1.set j (some v)).set k (some w) ∧ (R1 x).p v H' ∧ (R2 x).p w H'
/-- [elt for x in iter ifs] -/
theorem nc_lc (j : Nat) {x : Str} {Ro : α → Pr T} {keep : α → Bool} (hs : Src T X (.Name x p1) iter σ H bNow xs R) (hl : xs.length ≤ 1000) (hN : X.N.Nodup) (ok : BlkOk X.N X.env.scope scope [(x, j)])
    (hi : ∀ y v H', y ∈ xs → Gr T H H' → (R y).p v H' → ∀ s H C cl fp, ETs T (bl X scope s H C cl fp) ifs ((wipe σ [j]).set j (some v)) H' (keep y))
    (he : ∀ y v H' D ls, y ∈ xs → Gr T H H' → (R y).p v H' → keep y = true → H' D = some (.lst ls) → ∀ s H C cl fp, EN T (bl X scope s H C cl fp) elt ((wipe σ [j]).set j (some v)) H' D (Ro y))
    (hg : ∀ s H C cl fp, PG (bl X scope s H C cl fp) (.Name x p1) (gName j)) (hc : X.calm = true := by rfl) (hw : ∀ v, wipe ((wipe σ [j]).set j (some v)) [j] = wipe σ [j] := by intro _; rfl)
    (hf : ∀ x, foldedSetIterable iter X.env x = pure x := by intro _; rfl) : NewC T X (.ListComp elt [⟨.Name x p1, iter, ifs, 0⟩] scope pos) σ H (fun vs H1 => All2 Ro vs (xs.filter keep) H1) :=
  nc_lc_core (Bd := BdN R j) hs hl hc hN ok hg (fun x v σ' H' Q hv q => q _ ⟨v, rfl, hv⟩) (fun x σ2 H' ⟨v, e, _⟩ => by rw [e]; exact hw v) (fun x σ2 H' hx g ⟨v, e, hv⟩ => by rw [e]; exact hi x v H' hx g hv)
    (fun x σ2 H' H2 D ls hx g ⟨v, e, hv⟩ g2 hk _ hD => by rw [e]; exact he x v H2 D ls hx (g.trans g2) ((R x).st _ _ _ g2 hv) hk hD) hf
theorem nc_lcD (j : Nat) {x : Str} {Ro : α → Pr T} {keep : α → Bool} (hs : Src T X (.Name x p1) iter σ H bNow xs R) (hl : xs.length ≤ 1000) (hN : X.N.Nodup) (ok : BlkOk X.N X.env.scope scope [(x, j)])
    (hi : ∀ y v H', y ∈ xs → Gr T H H' → (R y).p v H' → ∀ s H C cl fp, ETs T (bl X scope s H C cl fp) ifs ((wipe σ [j]).set j (some v)) H' (keep y))
    (he : ∀ y v H' D ls, y ∈ xs → Gr T H H' → (R y).p v H' → keep y = true → H D = none → H' D = some (.lst ls) → ∀ s H C cl fp, EN T (bl X scope s H C cl fp) elt ((wipe σ [j]).set j (some v)) H' D (Ro y))
    (hg : ∀ s H C cl fp, PG (bl X scope s H C cl fp) (.Name x p1) (gName j)) (hc : X.calm = true := by rfl) (hw : ∀ v, wipe ((wipe σ [j]).set j (some v)) [j] = wipe σ [j] := by intro _; rfl)
    (hf : ∀ x, foldedSetIterable iter X.env x = pure x := by intro _; rfl) : NewC T X (.ListComp elt [⟨.Name x p1, iter, ifs, 0⟩] scope pos) σ H (fun vs H1 => All2 Ro vs (xs.filter keep) H1) :=
  nc_lc_core (Bd := BdN R j) hs hl hc hN ok hg (fun x v σ' H' Q hv q => q _ ⟨v, rfl, hv⟩) (fun x σ2 H' ⟨v, e, _⟩ => by rw [e]; exact hw v) (fun x σ2 H' hx g ⟨v, e, hv⟩ => by rw [e]; exact hi x v H' hx g hv)
    (fun x σ2 H' H2 D ls hx g ⟨v, e, hv⟩ g2 hk hn hD => by rw [e]; exact he x v H2 D ls hx (g.trans g2) ((R x).st _ _ _ g2 hv) hk hn hD) hf
theorem nc_lcP (j k : Nat) {x y : Str} {z : Nat} {p4 p5 : Pos} {R1 R2 : α → Pr T} {Ro : α → Pr T} {keep : α → Bool} (hs : Src T X (.Tuple [.Name x p1, .Name y p4] z p5) iter σ H bNow xs (fun a => pairP X.K (R1 a) (R2 a))) (hl : xs.length ≤ 1000) (hN : X.N.Nodup) (ok : BlkOk X.N X.env.scope scope [(x, j), (y, k)])
    (hi : ∀ y v w H', y ∈ xs → Gr T H H' → (R1 y).p v H' → (R2 y).p w H' → ∀ s H C cl fp, ETs T (bl X scope s H C cl fp) ifs (((wipe σ [j, k]).set j (some v)).set k (some w)) H' (keep y))
    (he : ∀ y v w H' D ls, y ∈ xs → Gr T H H' → (R1 y).p v H' → (R2 y).p w H' → keep y = true → H' D = some (.lst ls) → ∀ s H C cl fp, EN T (bl X scope s H C cl fp) elt (((wipe σ [j, k]).set j (some v)).set k (some w)) H' D (Ro y))
    (hg : ∀ s H C cl fp, PG (bl X scope s H C cl fp) (.Tuple [.Name x p1, .Name y p4] z p5) (gTup X.K 2 (gCons (gName j) (gCons (gName k) gNil)))) (hc : X.calm = true := by rfl) (hw : ∀ v w, wipe (((wipe σ [j, k]).set j (some v)).set k (some w)) [j, k] = wipe σ [j, k] := by intro _ _; rfl)
    (hf : ∀ x, foldedSetIterable iter X.env x = pure x := by intro _; rfl) : NewC T X (.ListComp elt [⟨.Tuple [.Name x p1, .Name y p4] z p5, iter, ifs, 0⟩] scope pos) σ H (fun vs H1 => All2 Ro vs (xs.filter keep) H1) :=
  nc_lc_core (Bd := BdP R1 R2 j k) hs hl hc hN ok hg (fun x v σ' H' Q hv q => g_pair hv fun a b ha hb => q _ ⟨a, b, rfl, ha, hb⟩) (fun x σ2 H' ⟨v, w, e, _⟩ => by rw [e]; exact hw v w) (fun x σ2 H' hx g ⟨v, w, e, hv, hw⟩ => by rw [e]; exact hi x v w H' hx g hv hw)
    (fun x σ2 H' H2 D ls hx g ⟨v, w, e, hv, hw⟩ g2 hk _ hD => by rw [e]; exact he x v w H2 D ls hx (g.trans g2) ((R1 x).st _ _ _ g2 hv) ((R2 x).st _ _ _ g2 hw) hk hD) hf
/-- what is known at an earlier heap -/
def atB (F : Hp) (P : Pr T) : Pr T := ⟨fun v H => P.p v F ∧ Gr T F H, fun _ _ _ g h => ⟨h.1, h.2.trans g⟩⟩
theorem EE.en2 {e : Expr} {P : Pr T} {D : Addr} {o : HO} (h : EE T X e σ H P) (hD : H D = some o) (c : Chg o) (hS : ∀ v H2, H2 D = some o → P.p v H2 → P.p v (del H2 D)) : EN T X e σ H D P :=
  ⟨fun pins s σ' H1 Q I ⟨e1, g, r⟩ => by
    rw [e1] at I ⊢
    refine h.run pins s σ H1 Q I ⟨rfl, g, fun v H2 g2 hv => r v H2 g2 (hS v H2 ?_ hv)⟩
    exact (g.trans g2).ext D o hD fun ps e => by rw [e] at c; exact c⟩
end
end Pan
set_option maxHeartbeats 1000000
namespace Pan
open PySem PySem.Spec PyProof.Rows L2
abbrev prg : Program := PySem.Challenge.pw_drawnpanel_k40_whole_many_tellings
def top (i : Nat) : Stmt := prg.main.body.getD i (.Pass ⟨0, 0, 0, 0⟩)
def gDef (x : Str) (i : Nat) : He.DefD := ⟨(x, none), x, x, defArgs (top i), defBody (top i), defScope (top i), [], []⟩
def mDef (C m q : Str) (i j : Nat) : He.DefD := ⟨(C, some m), m, q, defArgs (inClass (top i) j), defBody (inClass (top i) j), defScope (inClass (top i) j), [], []⟩
def fn : List He.DefD := [
  gDef "lowest" 9,
  gDef "plus" 10,
  gDef "minus" 11,
  gDef "times" 12,
  gDef "over" 13,
  gDef "is_less" 14,
  gDef "total" 15,
  mDef "Table" "__init__" "Table.__init__" 16 1,
  mDef "Table" "bad_line" "Table.bad_line" 16 2,
  mDef "Table" "column" "Table.column" 16 3,
  mDef "Table" "exchange" "Table.exchange" 16 4,
  mDef "Table" "mixed" "Table.mixed" 16 5,
  mDef "Table" "solve" "Table.solve" 16 6,
  mDef "Table" "unknowns" "Table.unknowns" 16 7,
  mDef "Table" "multipliers" "Table.multipliers" 16 8,
  gDef "is_integer" 21,
  gDef "are_integers" 22,
  gDef "is_trait" 23,
  gDef "are_people" 24,
  mDef "Pool" "__init__" "Pool.__init__" 25 1,
  mDef "Pool" "__len__" "Pool.__len__" 25 5,
  gDef "check_pool" 26,
  gDef "check_person" 27,
  gDef "spots_of" 28,
  gDef "count_of" 29,
  gDef "keeps_quotas" 30,
  gDef "groups_of" 31,
  gDef "panels_of" 32,
  gDef "chances_of" 34,
  mDef "Step" "__init__" "Step.__init__" 36 1,
  mDef "Step" "row_for" "Step.row_for" 36 2,
  mDef "Levels" "__init__" "Levels.__init__" 37 1,
  gDef "levels_of" 38,
  gDef "check_few" 42,
  gDef "rows_of" 43,
  gDef "told_people" 44,
  mDef "Told" "__init__" "Told.__init__" 45 1,
  mDef "Told" "chances" "Told.chances" 45 2,
  mDef "Told" "chance" "Told.chance" 45 3,
  mDef "Told" "tellings" "Told.tellings" 45 4,
  mDef "Told" "best" "Told.best" 45 5,
  gDef "is_better" 46,
  gDef "tellings" 47,
  gDef "best_telling" 48,
  gDef "who_gains" 49,
  gDef "_law_number" 51,
  gDef "_law_told" 52,
  gDef "_law_rows" 53,
  gDef "_law_keeps" 54,
  gDef "_law_drawn" 55,
  gDef "law" 56]
def fa : List He.Fa := [
  .glo "lowest",
  .glo "plus",
  .glo "minus",
  .glo "times",
  .glo "over",
  .glo "is_less",
  .glo "total",
  .glo "is_integer",
  .glo "are_integers",
  .glo "is_trait",
  .glo "are_people",
  .glo "check_pool",
  .glo "check_person",
  .glo "spots_of",
  .glo "count_of",
  .glo "keeps_quotas",
  .glo "groups_of",
  .glo "panels_of",
  .glo "chances_of",
  .glo "levels_of",
  .glo "check_few",
  .glo "rows_of",
  .glo "told_people",
  .glo "is_better",
  .glo "tellings",
  .glo "best_telling",
  .glo "who_gains",
  .glo "_law_number",
  .glo "_law_told",
  .glo "_law_rows",
  .glo "_law_keeps",
  .glo "_law_drawn",
  .glo "law",
  .glo "NONE",
  .glo "ONE",
  .glo "PanelError",
  .glo "BadPerson",
  .glo "TooLarge",
  .glo "Table",
  .glo "Pool",
  .glo "Step",
  .glo "Levels",
  .glo "Told",
  .int "MAX_PEOPLE" 8,
  .int "MAX_TRAITS" 3,
  .int "MAX_VALUES" 3,
  .int "MAX_FEW" 6,
  .int "MAX_TELLINGS" 9,
  .free "abs",
  .free "len",
  .free "list",
  .free "tuple",
  .free "range",
  .free "enumerate",
  .free "min",
  .free "max",
  .free "zip",
  .free "isinstance",
  .free "int",
  .free "bool",
  .free "all",
  .free "sorted",
  .free "dict",
  .free "sum",
  .mkr "Table",
  .mkr "Pool",
  .mkr "Step",
  .mkr "Levels",
  .mkr "Told",
  .meth "Table" "bad_line",
  .meth "Table" "column",
  .meth "Table" "exchange",
  .meth "Table" "mixed",
  .meth "Table" "solve",
  .meth "Table" "unknowns",
  .meth "Table" "multipliers",
  .meth "Pool" "__len__",
  .meth "Step" "row_for",
  .meth "Told" "chances",
  .meth "Told" "chance",
  .meth "Told" "tellings",
  .meth "Told" "best",
  .exc "BadPerson",
  .exc "TooLarge",
  .exm "BadPerson" "TooLarge" false,
  .exm "BadPerson" "BadPerson" true,
  .exm "TooLarge" "TooLarge" true]
def sclsB (K : PySem.W.Frag) (x : Str) : Bool := PySem.W.plainGet K (He.ga K x) Str.empty && (PySem.W.isClsIn K (He.ga K x) && (PySem.W.plainOver K (He.ga K x) && He.eqO (PySem.W.findIn K (.ref (He.ga K x)) "__setattr__") (some (some (.builtin "object.__setattr__")))))
theorem sclsB_ok {K : PySem.W.Frag} {x : Str} (h : sclsB K x = true) : SlX.SCls K (He.ga K x) := by
  obtain ⟨c1, c⟩ := He.ba h
  obtain ⟨c2, c⟩ := He.ba c
  obtain ⟨c3, c4⟩ := He.ba c
  exact ⟨c1, c2, c3, He.eqO_ok c4⟩
def slotB (K : PySem.W.Frag) (x f : Str) (i : Nat) : Bool := He.eqO (PySem.W.findIn K (.ref (He.ga K x)) f) (some (some (.ref (He.ma K (He.ga K x) f)))) && (He.eqO (PySem.W.specialIn K (.ref (He.ma K (He.ga K x) f)) "__get__") (some (some (.builtin "member_descriptor.__get__"))) &&
  (decide (PySem.W.takesIn K (.ref (He.ma K (He.ga K x) f)) = some true) && (decide (PySem.W.typeIn K (.ref (He.ma K (He.ga K x) f)) = some (.type "member_descriptor")) && (decide (PySem.W.slotIn K (He.ma K (He.ga K x) f) (He.ga K x) = some i) && decide (i < 1000)))))
theorem slotB_ok {K : PySem.W.Frag} {x f : Str} {i : Nat} (h : slotB K x f i = true) : SlX.Slot1 K (He.ga K x) f (He.ma K (He.ga K x) f) i := by
  obtain ⟨c1, c⟩ := He.ba h
  obtain ⟨c2, c⟩ := He.ba c
  obtain ⟨c3, c⟩ := He.ba c
  obtain ⟨c4, c⟩ := He.ba c
  obtain ⟨c5, c6⟩ := He.ba c
  exact ⟨He.eqO_ok c1, He.eqO_ok c2, of_decide_eq_true c3, of_decide_eq_true c4, of_decide_eq_true c5, of_decide_eq_true c6⟩
def sisiB (K : PySem.W.Frag) (x : Str) : Bool := He.eqO (PySem.W.findIn K (.ref (He.ga K x)) "__class__") (some (some (.builtin "object.__class__"))) && (He.eqO (PySem.W.specialIn K (.builtin "object.__class__") "__get__") (some (some (.builtin "getset_descriptor.__get__"))) &&
  (decide (PySem.W.takesIn K (.builtin "object.__class__") = some true) && (decide (PySem.W.mroIn K (He.ga K x) (.type "object") = some true) && decide (PySem.W.kitOne K (.ref (He.ga K x)) (.ref (He.ga K x)) = some true))))
theorem sisiB_ok {K : PySem.W.Frag} {x : Str} (h : sisiB K x = true) : SlX.SIsi K (He.ga K x) ∧ PySem.W.kitOne K (.ref (He.ga K x)) (.ref (He.ga K x)) = some true := by
  obtain ⟨c1, c⟩ := He.ba h
  obtain ⟨c2, c⟩ := He.ba c
  obtain ⟨c3, c⟩ := He.ba c
  obtain ⟨c4, c5⟩ := He.ba c
  exact ⟨⟨He.eqO_ok c1, He.eqO_ok c2, of_decide_eq_true c3, of_decide_eq_true c4⟩, of_decide_eq_true c5⟩
def slotL : List (Str × Str × Nat) := [("Table", "basic", 0), ("Table", "costs", 1), ("Table", "free", 2), ("Table", "lines", 3), ("Table", "many", 4), ("Table", "sides", 5), ("Pool", "bounds", 0), ("Pool", "many", 1), ("Pool", "rows", 2), ("Step", "lottery", 0), ("Step", "value", 1), ("Step", "weights", 2), ("Levels", "lottery", 0), ("Levels", "steps", 1), ("Told", "base", 0), ("Told", "found", 1)]
def clsL : List Str := ["Table", "Pool", "Step", "Levels", "Told"]
def exB (K : PySem.W.Frag) : Bool := He.tupB K "NONE" [.int 0, .int 1] && (He.tupB K "ONE" [.int 1, .int 1] && (clsL.all (sclsB K) && (sisiB K "Pool" && slotL.all fun q => slotB K q.1 q.2.1 q.2.2)))
/-- what the top has written, by names -/
structure Wd (K : PySem.W.Frag) (mg : Str → Option Value) : Prop where
  fact : ∀ (i : Nat) (f : He.Fa), fa[i]? = some f → f.ok K = true
  defs : ∀ (i : Nat) (d : He.DefD), fn[i]? = some d → ∃ fd, FunD K d.name d.qual d.params d.body d.scope (d.dvs K) (d.kws K) (He.fAd K d.at_) fd
  ex : exB K = true
  mgs : ∃ h : Heap, K.In h ∧ h.Ns mainGlobals mg
/-- a def of the module -/
structure Gf (K : PySem.W.Frag) (mg : Str → Option Value) (x : Str) : Prop where
  mg : mg x = some (.ref (He.ga K x))
  kp : PySem.W.keepIn K (.ref (He.ga K x)) = true
section
variable {K : PySem.W.Frag} {mg : Str → Option Value} (W : Wd K mg)
include W
theorem Wd.glo_ {x : Str} (i : Nat) (h : fa[i]? = some (.glo x)) : mg x = some (.ref (He.ga K x)) := by
  obtain ⟨h', X, G⟩ := W.mgs
  exact He.glo_ok X G (W.fact i _ h)
theorem Wd.free_ {x : Str} (i : Nat) (h : fa[i]? = some (.free x)) : mg x = none := by
  obtain ⟨h', X, G⟩ := W.mgs
  exact He.free_ok X G (W.fact i _ h)
theorem Wd.int_ {x : Str} {n : Int} (i : Nat) (h : fa[i]? = some (.int x n)) : ∃ t, mg x = some (.int n t) := by
  obtain ⟨h', X, G⟩ := W.mgs
  exact He.int_ok X G (W.fact i _ h)
theorem Wd.ex4 : (He.tupB K "NONE" [.int 0, .int 1] = true ∧ He.tupB K "ONE" [.int 1, .int 1] = true) ∧ clsL.all (sclsB K) = true ∧ sisiB K "Pool" = true ∧ (slotL.all fun q => slotB K q.1 q.2.1 q.2.2) = true := by
  obtain ⟨c1, c⟩ := He.ba W.ex
  obtain ⟨c2, c⟩ := He.ba c
  obtain ⟨c3, c⟩ := He.ba c
  obtain ⟨c4, c5⟩ := He.ba c
  exact ⟨⟨c1, c2⟩, c3, c4, c5⟩
theorem Wd.NONE_ (H : Hp) : SqT K H (He.ga K "NONE") [.int 0, .int 1] := He.tupB_ok W.ex4.1.1 H
theorem Wd.ONE_ (H : Hp) : SqT K H (He.ga K "ONE") [.int 1, .int 1] := He.tupB_ok W.ex4.1.2 H
theorem Wd.scls_ {C : Str} (h : C ∈ clsL) : SlX.SCls K (He.ga K C) := sclsB_ok (List.all_eq_true.mp W.ex4.2.1 C h)
theorem Wd.slot_ {q : Str × Str × Nat} (h : q ∈ slotL) : SlX.Slot1 K (He.ga K q.1) q.2.1 (He.ma K (He.ga K q.1) q.2.1) q.2.2 := slotB_ok (List.all_eq_true.mp W.ex4.2.2.2 q h)
theorem Wd.isPool : SlX.SIsi K (He.ga K "Pool") ∧ PySem.W.kitOne K (.ref (He.ga K "Pool")) (.ref (He.ga K "Pool")) = some true := sisiB_ok W.ex4.2.2.1
theorem Wd.g_lowest : Gf K mg "lowest" := ⟨W.glo_ 0 rfl, let ⟨_, h⟩ := W.defs 0 (gDef "lowest" 9) rfl; h.kp⟩
theorem Wd.g_plus : Gf K mg "plus" := ⟨W.glo_ 1 rfl, let ⟨_, h⟩ := W.defs 1 (gDef "plus" 10) rfl; h.kp⟩
theorem Wd.g_minus : Gf K mg "minus" := ⟨W.glo_ 2 rfl, let ⟨_, h⟩ := W.defs 2 (gDef "minus" 11) rfl; h.kp⟩
theorem Wd.g_times : Gf K mg "times" := ⟨W.glo_ 3 rfl, let ⟨_, h⟩ := W.defs 3 (gDef "times" 12) rfl; h.kp⟩
theorem Wd.g_over : Gf K mg "over" := ⟨W.glo_ 4 rfl, let ⟨_, h⟩ := W.defs 4 (gDef "over" 13) rfl; h.kp⟩
theorem Wd.g_is_less : Gf K mg "is_less" := ⟨W.glo_ 5 rfl, let ⟨_, h⟩ := W.defs 5 (gDef "is_less" 14) rfl; h.kp⟩
theorem Wd.g_total : Gf K mg "total" := ⟨W.glo_ 6 rfl, let ⟨_, h⟩ := W.defs 6 (gDef "total" 15) rfl; h.kp⟩
theorem Wd.g_is_integer : Gf K mg "is_integer" := ⟨W.glo_ 7 rfl, let ⟨_, h⟩ := W.defs 15 (gDef "is_integer" 21) rfl; h.kp⟩
theorem Wd.g_are_integers : Gf K mg "are_integers" := ⟨W.glo_ 8 rfl, let ⟨_, h⟩ := W.defs 16 (gDef "are_integers" 22) rfl; h.kp⟩
theorem Wd.g_is_trait : Gf K mg "is_trait" := ⟨W.glo_ 9 rfl, let ⟨_, h⟩ := W.defs 17 (gDef "is_trait" 23) rfl; h.kp⟩
theorem Wd.g_are_people : Gf K mg "are_people" := ⟨W.glo_ 10 rfl, let ⟨_, h⟩ := W.defs 18 (gDef "are_people" 24) rfl; h.kp⟩
theorem Wd.g_check_pool : Gf K mg "check_pool" := ⟨W.glo_ 11 rfl, let ⟨_, h⟩ := W.defs 21 (gDef "check_pool" 26) rfl; h.kp⟩
theorem Wd.g_check_person : Gf K mg "check_person" := ⟨W.glo_ 12 rfl, let ⟨_, h⟩ := W.defs 22 (gDef "check_person" 27) rfl; h.kp⟩
theorem Wd.g_spots_of : Gf K mg "spots_of" := ⟨W.glo_ 13 rfl, let ⟨_, h⟩ := W.defs 23 (gDef "spots_of" 28) rfl; h.kp⟩
theorem Wd.g_count_of : Gf K mg "count_of" := ⟨W.glo_ 14 rfl, let ⟨_, h⟩ := W.defs 24 (gDef "count_of" 29) rfl; h.kp⟩
theorem Wd.g_keeps_quotas : Gf K mg "keeps_quotas" := ⟨W.glo_ 15 rfl, let ⟨_, h⟩ := W.defs 25 (gDef "keeps_quotas" 30) rfl; h.kp⟩
theorem Wd.g_groups_of : Gf K mg "groups_of" := ⟨W.glo_ 16 rfl, let ⟨_, h⟩ := W.defs 26 (gDef "groups_of" 31) rfl; h.kp⟩
theorem Wd.g_panels_of : Gf K mg "panels_of" := ⟨W.glo_ 17 rfl, let ⟨_, h⟩ := W.defs 27 (gDef "panels_of" 32) rfl; h.kp⟩
theorem Wd.g_chances_of : Gf K mg "chances_of" := ⟨W.glo_ 18 rfl, let ⟨_, h⟩ := W.defs 28 (gDef "chances_of" 34) rfl; h.kp⟩
theorem Wd.g_levels_of : Gf K mg "levels_of" := ⟨W.glo_ 19 rfl, let ⟨_, h⟩ := W.defs 32 (gDef "levels_of" 38) rfl; h.kp⟩
theorem Wd.g_check_few : Gf K mg "check_few" := ⟨W.glo_ 20 rfl, let ⟨_, h⟩ := W.defs 33 (gDef "check_few" 42) rfl; h.kp⟩
theorem Wd.g_rows_of : Gf K mg "rows_of" := ⟨W.glo_ 21 rfl, let ⟨_, h⟩ := W.defs 34 (gDef "rows_of" 43) rfl; h.kp⟩
theorem Wd.g_told_people : Gf K mg "told_people" := ⟨W.glo_ 22 rfl, let ⟨_, h⟩ := W.defs 35 (gDef "told_people" 44) rfl; h.kp⟩
theorem Wd.g_is_better : Gf K mg "is_better" := ⟨W.glo_ 23 rfl, let ⟨_, h⟩ := W.defs 41 (gDef "is_better" 46) rfl; h.kp⟩
theorem Wd.g_tellings : Gf K mg "tellings" := ⟨W.glo_ 24 rfl, let ⟨_, h⟩ := W.defs 42 (gDef "tellings" 47) rfl; h.kp⟩
theorem Wd.g_best_telling : Gf K mg "best_telling" := ⟨W.glo_ 25 rfl, let ⟨_, h⟩ := W.defs 43 (gDef "best_telling" 48) rfl; h.kp⟩
theorem Wd.g_who_gains : Gf K mg "who_gains" := ⟨W.glo_ 26 rfl, let ⟨_, h⟩ := W.defs 44 (gDef "who_gains" 49) rfl; h.kp⟩
theorem Wd.g_law_number : Gf K mg "_law_number" := ⟨W.glo_ 27 rfl, let ⟨_, h⟩ := W.defs 45 (gDef "_law_number" 51) rfl; h.kp⟩
theorem Wd.g_law_told : Gf K mg "_law_told" := ⟨W.glo_ 28 rfl, let ⟨_, h⟩ := W.defs 46 (gDef "_law_told" 52) rfl; h.kp⟩
theorem Wd.g_law_rows : Gf K mg "_law_rows" := ⟨W.glo_ 29 rfl, let ⟨_, h⟩ := W.defs 47 (gDef "_law_rows" 53) rfl; h.kp⟩
theorem Wd.g_law_keeps : Gf K mg "_law_keeps" := ⟨W.glo_ 30 rfl, let ⟨_, h⟩ := W.defs 48 (gDef "_law_keeps" 54) rfl; h.kp⟩
theorem Wd.g_law_drawn : Gf K mg "_law_drawn" := ⟨W.glo_ 31 rfl, let ⟨_, h⟩ := W.defs 49 (gDef "_law_drawn" 55) rfl; h.kp⟩
theorem Wd.g_law : Gf K mg "law" := ⟨W.glo_ 32 rfl, let ⟨_, h⟩ := W.defs 50 (gDef "law" 56) rfl; h.kp⟩
theorem Wd.mg_NONE : mg "NONE" = some (.ref (He.ga K "NONE")) := W.glo_ 33 rfl
theorem Wd.mg_ONE : mg "ONE" = some (.ref (He.ga K "ONE")) := W.glo_ 34 rfl
theorem Wd.mg_PanelError : mg "PanelError" = some (.ref (He.ga K "PanelError")) := W.glo_ 35 rfl
theorem Wd.mg_BadPerson : mg "BadPerson" = some (.ref (He.ga K "BadPerson")) := W.glo_ 36 rfl
theorem Wd.mg_TooLarge : mg "TooLarge" = some (.ref (He.ga K "TooLarge")) := W.glo_ 37 rfl
theorem Wd.mg_Table : mg "Table" = some (.ref (He.ga K "Table")) := W.glo_ 38 rfl
theorem Wd.mg_Pool : mg "Pool" = some (.ref (He.ga K "Pool")) := W.glo_ 39 rfl
theorem Wd.mg_Step : mg "Step" = some (.ref (He.ga K "Step")) := W.glo_ 40 rfl
theorem Wd.mg_Levels : mg "Levels" = some (.ref (He.ga K "Levels")) := W.glo_ 41 rfl
theorem Wd.mg_Told : mg "Told" = some (.ref (He.ga K "Told")) := W.glo_ 42 rfl
theorem Wd.MAX_PEOPLE : ∃ t, mg "MAX_PEOPLE" = some (.int 8 t) := W.int_ 43 rfl
theorem Wd.MAX_TRAITS : ∃ t, mg "MAX_TRAITS" = some (.int 3 t) := W.int_ 44 rfl
theorem Wd.MAX_VALUES : ∃ t, mg "MAX_VALUES" = some (.int 3 t) := W.int_ 45 rfl
theorem Wd.MAX_FEW : ∃ t, mg "MAX_FEW" = some (.int 6 t) := W.int_ 46 rfl
theorem Wd.MAX_TELLINGS : ∃ t, mg "MAX_TELLINGS" = some (.int 9 t) := W.int_ 47 rfl
theorem Wd.f_abs : mg "abs" = none := W.free_ 48 rfl
theorem Wd.f_len : mg "len" = none := W.free_ 49 rfl
theorem Wd.f_list : mg "list" = none := W.free_ 50 rfl
theorem Wd.f_tuple : mg "tuple" = none := W.free_ 51 rfl
theorem Wd.f_range : mg "range" = none := W.free_ 52 rfl
theorem Wd.f_enumerate : mg "enumerate" = none := W.free_ 53 rfl
theorem Wd.f_min : mg "min" = none := W.free_ 54 rfl
theorem Wd.f_max : mg "max" = none := W.free_ 55 rfl
theorem Wd.f_zip : mg "zip" = none := W.free_ 56 rfl
theorem Wd.f_isinstance : mg "isinstance" = none := W.free_ 57 rfl
theorem Wd.f_int : mg "int" = none := W.free_ 58 rfl
theorem Wd.f_bool : mg "bool" = none := W.free_ 59 rfl
theorem Wd.f_all : mg "all" = none := W.free_ 60 rfl
theorem Wd.f_sorted : mg "sorted" = none := W.free_ 61 rfl
theorem Wd.f_dict : mg "dict" = none := W.free_ 62 rfl
theorem Wd.f_sum : mg "sum" = none := W.free_ 63 rfl
theorem Wd.mk_Table : Mk K (He.ga K "Table") (He.ma K (He.ga K "Table") "__init__") := He.mkr_ok (W.fact 64 _ rfl)
theorem Wd.s_Table : SlX.SCls K (He.ga K "Table") := W.scls_ (by simp [clsL])
theorem Wd.Table_basic : SlX.Slot1 K (He.ga K "Table") "basic" (He.ma K (He.ga K "Table") "basic") 0 := W.slot_ (q := ("Table", "basic", 0)) (by simp [slotL])
theorem Wd.Table_costs : SlX.Slot1 K (He.ga K "Table") "costs" (He.ma K (He.ga K "Table") "costs") 1 := W.slot_ (q := ("Table", "costs", 1)) (by simp [slotL])
theorem Wd.Table_free : SlX.Slot1 K (He.ga K "Table") "free" (He.ma K (He.ga K "Table") "free") 2 := W.slot_ (q := ("Table", "free", 2)) (by simp [slotL])
theorem Wd.Table_lines : SlX.Slot1 K (He.ga K "Table") "lines" (He.ma K (He.ga K "Table") "lines") 3 := W.slot_ (q := ("Table", "lines", 3)) (by simp [slotL])
theorem Wd.Table_many : SlX.Slot1 K (He.ga K "Table") "many" (He.ma K (He.ga K "Table") "many") 4 := W.slot_ (q := ("Table", "many", 4)) (by simp [slotL])
theorem Wd.Table_sides : SlX.Slot1 K (He.ga K "Table") "sides" (He.ma K (He.ga K "Table") "sides") 5 := W.slot_ (q := ("Table", "sides", 5)) (by simp [slotL])
theorem Wd.mk_Pool : Mk K (He.ga K "Pool") (He.ma K (He.ga K "Pool") "__init__") := He.mkr_ok (W.fact 65 _ rfl)
theorem Wd.s_Pool : SlX.SCls K (He.ga K "Pool") := W.scls_ (by simp [clsL])
theorem Wd.Pool_bounds : SlX.Slot1 K (He.ga K "Pool") "bounds" (He.ma K (He.ga K "Pool") "bounds") 0 := W.slot_ (q := ("Pool", "bounds", 0)) (by simp [slotL])
theorem Wd.Pool_many : SlX.Slot1 K (He.ga K "Pool") "many" (He.ma K (He.ga K "Pool") "many") 1 := W.slot_ (q := ("Pool", "many", 1)) (by simp [slotL])
theorem Wd.Pool_rows : SlX.Slot1 K (He.ga K "Pool") "rows" (He.ma K (He.ga K "Pool") "rows") 2 := W.slot_ (q := ("Pool", "rows", 2)) (by simp [slotL])
theorem Wd.mk_Step : Mk K (He.ga K "Step") (He.ma K (He.ga K "Step") "__init__") := He.mkr_ok (W.fact 66 _ rfl)
theorem Wd.s_Step : SlX.SCls K (He.ga K "Step") := W.scls_ (by simp [clsL])
theorem Wd.Step_lottery : SlX.Slot1 K (He.ga K "Step") "lottery" (He.ma K (He.ga K "Step") "lottery") 0 := W.slot_ (q := ("Step", "lottery", 0)) (by simp [slotL])
theorem Wd.Step_value : SlX.Slot1 K (He.ga K "Step") "value" (He.ma K (He.ga K "Step") "value") 1 := W.slot_ (q := ("Step", "value", 1)) (by simp [slotL])
theorem Wd.Step_weights : SlX.Slot1 K (He.ga K "Step") "weights" (He.ma K (He.ga K "Step") "weights") 2 := W.slot_ (q := ("Step", "weights", 2)) (by simp [slotL])
theorem Wd.mk_Levels : Mk K (He.ga K "Levels") (He.ma K (He.ga K "Levels") "__init__") := He.mkr_ok (W.fact 67 _ rfl)
theorem Wd.s_Levels : SlX.SCls K (He.ga K "Levels") := W.scls_ (by simp [clsL])
theorem Wd.Levels_lottery : SlX.Slot1 K (He.ga K "Levels") "lottery" (He.ma K (He.ga K "Levels") "lottery") 0 := W.slot_ (q := ("Levels", "lottery", 0)) (by simp [slotL])
theorem Wd.Levels_steps : SlX.Slot1 K (He.ga K "Levels") "steps" (He.ma K (He.ga K "Levels") "steps") 1 := W.slot_ (q := ("Levels", "steps", 1)) (by simp [slotL])
theorem Wd.mk_Told : Mk K (He.ga K "Told") (He.ma K (He.ga K "Told") "__init__") := He.mkr_ok (W.fact 68 _ rfl)
theorem Wd.s_Told : SlX.SCls K (He.ga K "Told") := W.scls_ (by simp [clsL])
theorem Wd.Told_base : SlX.Slot1 K (He.ga K "Told") "base" (He.ma K (He.ga K "Told") "base") 0 := W.slot_ (q := ("Told", "base", 0)) (by simp [slotL])
theorem Wd.Told_found : SlX.Slot1 K (He.ga K "Told") "found" (He.ma K (He.ga K "Told") "found") 1 := W.slot_ (q := ("Told", "found", 1)) (by simp [slotL])
theorem Wd.m_Table_bad_line : Meth K (He.ga K "Table") "bad_line" (He.ma K (He.ga K "Table") "bad_line") := He.meth_ok (W.fact 69 _ rfl)
theorem Wd.m_Table_column : Meth K (He.ga K "Table") "column" (He.ma K (He.ga K "Table") "column") := He.meth_ok (W.fact 70 _ rfl)
theorem Wd.m_Table_exchange : Meth K (He.ga K "Table") "exchange" (He.ma K (He.ga K "Table") "exchange") := He.meth_ok (W.fact 71 _ rfl)
theorem Wd.m_Table_mixed : Meth K (He.ga K "Table") "mixed" (He.ma K (He.ga K "Table") "mixed") := He.meth_ok (W.fact 72 _ rfl)
theorem Wd.m_Table_solve : Meth K (He.ga K "Table") "solve" (He.ma K (He.ga K "Table") "solve") := He.meth_ok (W.fact 73 _ rfl)
theorem Wd.m_Table_unknowns : Meth K (He.ga K "Table") "unknowns" (He.ma K (He.ga K "Table") "unknowns") := He.meth_ok (W.fact 74 _ rfl)
theorem Wd.m_Table_multipliers : Meth K (He.ga K "Table") "multipliers" (He.ma K (He.ga K "Table") "multipliers") := He.meth_ok (W.fact 75 _ rfl)
theorem Wd.m_Pool_len : Meth K (He.ga K "Pool") "__len__" (He.ma K (He.ga K "Pool") "__len__") := He.meth_ok (W.fact 76 _ rfl)
theorem Wd.m_Step_row_for : Meth K (He.ga K "Step") "row_for" (He.ma K (He.ga K "Step") "row_for") := He.meth_ok (W.fact 77 _ rfl)
theorem Wd.m_Told_chances : Meth K (He.ga K "Told") "chances" (He.ma K (He.ga K "Told") "chances") := He.meth_ok (W.fact 78 _ rfl)
theorem Wd.m_Told_chance : Meth K (He.ga K "Told") "chance" (He.ma K (He.ga K "Told") "chance") := He.meth_ok (W.fact 79 _ rfl)
theorem Wd.m_Told_tellings : Meth K (He.ga K "Told") "tellings" (He.ma K (He.ga K "Told") "tellings") := He.meth_ok (W.fact 80 _ rfl)
theorem Wd.m_Told_best : Meth K (He.ga K "Told") "best" (He.ma K (He.ga K "Told") "best") := He.meth_ok (W.fact 81 _ rfl)
theorem Wd.d_g_lowest : ∃ fd, FunD K "lowest" "lowest" (defArgs (top 9)) (defBody (top 9)) (defScope (top 9)) [] [] (He.ga K "lowest") fd := W.defs 0 (gDef "lowest" 9) rfl
theorem Wd.d_g_plus : ∃ fd, FunD K "plus" "plus" (defArgs (top 10)) (defBody (top 10)) (defScope (top 10)) [] [] (He.ga K "plus") fd := W.defs 1 (gDef "plus" 10) rfl
theorem Wd.d_g_minus : ∃ fd, FunD K "minus" "minus" (defArgs (top 11)) (defBody (top 11)) (defScope (top 11)) [] [] (He.ga K "minus") fd := W.defs 2 (gDef "minus" 11) rfl
theorem Wd.d_g_times : ∃ fd, FunD K "times" "times" (defArgs (top 12)) (defBody (top 12)) (defScope (top 12)) [] [] (He.ga K "times") fd := W.defs 3 (gDef "times" 12) rfl
theorem Wd.d_g_over : ∃ fd, FunD K "over" "over" (defArgs (top 13)) (defBody (top 13)) (defScope (top 13)) [] [] (He.ga K "over") fd := W.defs 4 (gDef "over" 13) rfl
theorem Wd.d_g_is_less : ∃ fd, FunD K "is_less" "is_less" (defArgs (top 14)) (defBody (top 14)) (defScope (top 14)) [] [] (He.ga K "is_less") fd := W.defs 5 (gDef "is_less" 14) rfl
theorem Wd.d_g_total : ∃ fd, FunD K "total" "total" (defArgs (top 15)) (defBody (top 15)) (defScope (top 15)) [] [] (He.ga K "total") fd := W.defs 6 (gDef "total" 15) rfl
theorem Wd.d_Table_init : ∃ fd, FunD K "__init__" "Table.__init__" (defArgs (inClass (top 16) 1)) (defBody (inClass (top 16) 1)) (defScope (inClass (top 16) 1)) [] [] (He.ma K (He.ga K "Table") "__init__") fd := W.defs 7 (mDef "Table" "__init__" "Table.__init__" 16 1) rfl
theorem Wd.d_Table_bad_line : ∃ fd, FunD K "bad_line" "Table.bad_line" (defArgs (inClass (top 16) 2)) (defBody (inClass (top 16) 2)) (defScope (inClass (top 16) 2)) [] [] (He.ma K (He.ga K "Table") "bad_line") fd := W.defs 8 (mDef "Table" "bad_line" "Table.bad_line" 16 2) rfl
theorem Wd.d_Table_column : ∃ fd, FunD K "column" "Table.column" (defArgs (inClass (top 16) 3)) (defBody (inClass (top 16) 3)) (defScope (inClass (top 16) 3)) [] [] (He.ma K (He.ga K "Table") "column") fd := W.defs 9 (mDef "Table" "column" "Table.column" 16 3) rfl
theorem Wd.d_Table_exchange : ∃ fd, FunD K "exchange" "Table.exchange" (defArgs (inClass (top 16) 4)) (defBody (inClass (top 16) 4)) (defScope (inClass (top 16) 4)) [] [] (He.ma K (He.ga K "Table") "exchange") fd := W.defs 10 (mDef "Table" "exchange" "Table.exchange" 16 4) rfl
theorem Wd.d_Table_mixed : ∃ fd, FunD K "mixed" "Table.mixed" (defArgs (inClass (top 16) 5)) (defBody (inClass (top 16) 5)) (defScope (inClass (top 16) 5)) [] [] (He.ma K (He.ga K "Table") "mixed") fd := W.defs 11 (mDef "Table" "mixed" "Table.mixed" 16 5) rfl
theorem Wd.d_Table_solve : ∃ fd, FunD K "solve" "Table.solve" (defArgs (inClass (top 16) 6)) (defBody (inClass (top 16) 6)) (defScope (inClass (top 16) 6)) [] [] (He.ma K (He.ga K "Table") "solve") fd := W.defs 12 (mDef "Table" "solve" "Table.solve" 16 6) rfl
theorem Wd.d_Table_unknowns : ∃ fd, FunD K "unknowns" "Table.unknowns" (defArgs (inClass (top 16) 7)) (defBody (inClass (top 16) 7)) (defScope (inClass (top 16) 7)) [] [] (He.ma K (He.ga K "Table") "unknowns") fd := W.defs 13 (mDef "Table" "unknowns" "Table.unknowns" 16 7) rfl
theorem Wd.d_Table_multipliers : ∃ fd, FunD K "multipliers" "Table.multipliers" (defArgs (inClass (top 16) 8)) (defBody (inClass (top 16) 8)) (defScope (inClass (top 16) 8)) [] [] (He.ma K (He.ga K "Table") "multipliers") fd := W.defs 14 (mDef "Table" "multipliers" "Table.multipliers" 16 8) rfl
theorem Wd.d_g_is_integer : ∃ fd, FunD K "is_integer" "is_integer" (defArgs (top 21)) (defBody (top 21)) (defScope (top 21)) [] [] (He.ga K "is_integer") fd := W.defs 15 (gDef "is_integer" 21) rfl
theorem Wd.d_g_are_integers : ∃ fd, FunD K "are_integers" "are_integers" (defArgs (top 22)) (defBody (top 22)) (defScope (top 22)) [] [] (He.ga K "are_integers") fd := W.defs 16 (gDef "are_integers" 22) rfl
theorem Wd.d_g_is_trait : ∃ fd, FunD K "is_trait" "is_trait" (defArgs (top 23)) (defBody (top 23)) (defScope (top 23)) [] [] (He.ga K "is_trait") fd := W.defs 17 (gDef "is_trait" 23) rfl
theorem Wd.d_g_are_people : ∃ fd, FunD K "are_people" "are_people" (defArgs (top 24)) (defBody (top 24)) (defScope (top 24)) [] [] (He.ga K "are_people") fd := W.defs 18 (gDef "are_people" 24) rfl
theorem Wd.d_Pool_init : ∃ fd, FunD K "__init__" "Pool.__init__" (defArgs (inClass (top 25) 1)) (defBody (inClass (top 25) 1)) (defScope (inClass (top 25) 1)) [] [] (He.ma K (He.ga K "Pool") "__init__") fd := W.defs 19 (mDef "Pool" "__init__" "Pool.__init__" 25 1) rfl
theorem Wd.d_Pool_len : ∃ fd, FunD K "__len__" "Pool.__len__" (defArgs (inClass (top 25) 5)) (defBody (inClass (top 25) 5)) (defScope (inClass (top 25) 5)) [] [] (He.ma K (He.ga K "Pool") "__len__") fd := W.defs 20 (mDef "Pool" "__len__" "Pool.__len__" 25 5) rfl
theorem Wd.d_g_check_pool : ∃ fd, FunD K "check_pool" "check_pool" (defArgs (top 26)) (defBody (top 26)) (defScope (top 26)) [] [] (He.ga K "check_pool") fd := W.defs 21 (gDef "check_pool" 26) rfl
theorem Wd.d_g_check_person : ∃ fd, FunD K "check_person" "check_person" (defArgs (top 27)) (defBody (top 27)) (defScope (top 27)) [] [] (He.ga K "check_person") fd := W.defs 22 (gDef "check_person" 27) rfl
theorem Wd.d_g_spots_of : ∃ fd, FunD K "spots_of" "spots_of" (defArgs (top 28)) (defBody (top 28)) (defScope (top 28)) [] [] (He.ga K "spots_of") fd := W.defs 23 (gDef "spots_of" 28) rfl
theorem Wd.d_g_count_of : ∃ fd, FunD K "count_of" "count_of" (defArgs (top 29)) (defBody (top 29)) (defScope (top 29)) [] [] (He.ga K "count_of") fd := W.defs 24 (gDef "count_of" 29) rfl
theorem Wd.d_g_keeps_quotas : ∃ fd, FunD K "keeps_quotas" "keeps_quotas" (defArgs (top 30)) (defBody (top 30)) (defScope (top 30)) [] [] (He.ga K "keeps_quotas") fd := W.defs 25 (gDef "keeps_quotas" 30) rfl
theorem Wd.d_g_groups_of : ∃ fd, FunD K "groups_of" "groups_of" (defArgs (top 31)) (defBody (top 31)) (defScope (top 31)) [] [] (He.ga K "groups_of") fd := W.defs 26 (gDef "groups_of" 31) rfl
theorem Wd.d_g_panels_of : ∃ fd, FunD K "panels_of" "panels_of" (defArgs (top 32)) (defBody (top 32)) (defScope (top 32)) [] [] (He.ga K "panels_of") fd := W.defs 27 (gDef "panels_of" 32) rfl
theorem Wd.d_g_chances_of : ∃ fd, FunD K "chances_of" "chances_of" (defArgs (top 34)) (defBody (top 34)) (defScope (top 34)) [] [] (He.ga K "chances_of") fd := W.defs 28 (gDef "chances_of" 34) rfl
theorem Wd.d_Step_init : ∃ fd, FunD K "__init__" "Step.__init__" (defArgs (inClass (top 36) 1)) (defBody (inClass (top 36) 1)) (defScope (inClass (top 36) 1)) [] [] (He.ma K (He.ga K "Step") "__init__") fd := W.defs 29 (mDef "Step" "__init__" "Step.__init__" 36 1) rfl
theorem Wd.d_Step_row_for : ∃ fd, FunD K "row_for" "Step.row_for" (defArgs (inClass (top 36) 2)) (defBody (inClass (top 36) 2)) (defScope (inClass (top 36) 2)) [] [] (He.ma K (He.ga K "Step") "row_for") fd := W.defs 30 (mDef "Step" "row_for" "Step.row_for" 36 2) rfl
theorem Wd.d_Levels_init : ∃ fd, FunD K "__init__" "Levels.__init__" (defArgs (inClass (top 37) 1)) (defBody (inClass (top 37) 1)) (defScope (inClass (top 37) 1)) [] [] (He.ma K (He.ga K "Levels") "__init__") fd := W.defs 31 (mDef "Levels" "__init__" "Levels.__init__" 37 1) rfl
theorem Wd.d_g_levels_of : ∃ fd, FunD K "levels_of" "levels_of" (defArgs (top 38)) (defBody (top 38)) (defScope (top 38)) [] [] (He.ga K "levels_of") fd := W.defs 32 (gDef "levels_of" 38) rfl
theorem Wd.d_g_check_few : ∃ fd, FunD K "check_few" "check_few" (defArgs (top 42)) (defBody (top 42)) (defScope (top 42)) [] [] (He.ga K "check_few") fd := W.defs 33 (gDef "check_few" 42) rfl
theorem Wd.d_g_rows_of : ∃ fd, FunD K "rows_of" "rows_of" (defArgs (top 43)) (defBody (top 43)) (defScope (top 43)) [] [] (He.ga K "rows_of") fd := W.defs 34 (gDef "rows_of" 43) rfl
theorem Wd.d_g_told_people : ∃ fd, FunD K "told_people" "told_people" (defArgs (top 44)) (defBody (top 44)) (defScope (top 44)) [] [] (He.ga K "told_people") fd := W.defs 35 (gDef "told_people" 44) rfl
theorem Wd.d_Told_init : ∃ fd, FunD K "__init__" "Told.__init__" (defArgs (inClass (top 45) 1)) (defBody (inClass (top 45) 1)) (defScope (inClass (top 45) 1)) [] [] (He.ma K (He.ga K "Told") "__init__") fd := W.defs 36 (mDef "Told" "__init__" "Told.__init__" 45 1) rfl
theorem Wd.d_Told_chances : ∃ fd, FunD K "chances" "Told.chances" (defArgs (inClass (top 45) 2)) (defBody (inClass (top 45) 2)) (defScope (inClass (top 45) 2)) [] [] (He.ma K (He.ga K "Told") "chances") fd := W.defs 37 (mDef "Told" "chances" "Told.chances" 45 2) rfl
theorem Wd.d_Told_chance : ∃ fd, FunD K "chance" "Told.chance" (defArgs (inClass (top 45) 3)) (defBody (inClass (top 45) 3)) (defScope (inClass (top 45) 3)) [] [] (He.ma K (He.ga K "Told") "chance") fd := W.defs 38 (mDef "Told" "chance" "Told.chance" 45 3) rfl
theorem Wd.d_Told_tellings : ∃ fd, FunD K "tellings" "Told.tellings" (defArgs (inClass (top 45) 4)) (defBody (inClass (top 45) 4)) (defScope (inClass (top 45) 4)) [] [] (He.ma K (He.ga K "Told") "tellings") fd := W.defs 39 (mDef "Told" "tellings" "Told.tellings" 45 4) rfl
theorem Wd.d_Told_best : ∃ fd, FunD K "best" "Told.best" (defArgs (inClass (top 45) 5)) (defBody (inClass (top 45) 5)) (defScope (inClass (top 45) 5)) [] [] (He.ma K (He.ga K "Told") "best") fd := W.defs 40 (mDef "Told" "best" "Told.best" 45 5) rfl
theorem Wd.d_g_is_better : ∃ fd, FunD K "is_better" "is_better" (defArgs (top 46)) (defBody (top 46)) (defScope (top 46)) [] [] (He.ga K "is_better") fd := W.defs 41 (gDef "is_better" 46) rfl
theorem Wd.d_g_tellings : ∃ fd, FunD K "tellings" "tellings" (defArgs (top 47)) (defBody (top 47)) (defScope (top 47)) [] [] (He.ga K "tellings") fd := W.defs 42 (gDef "tellings" 47) rfl
theorem Wd.d_g_best_telling : ∃ fd, FunD K "best_telling" "best_telling" (defArgs (top 48)) (defBody (top 48)) (defScope (top 48)) [] [] (He.ga K "best_telling") fd := W.defs 43 (gDef "best_telling" 48) rfl
theorem Wd.d_g_who_gains : ∃ fd, FunD K "who_gains" "who_gains" (defArgs (top 49)) (defBody (top 49)) (defScope (top 49)) [] [] (He.ga K "who_gains") fd := W.defs 44 (gDef "who_gains" 49) rfl
theorem Wd.d_g_law_number : ∃ fd, FunD K "_law_number" "_law_number" (defArgs (top 51)) (defBody (top 51)) (defScope (top 51)) [] [] (He.ga K "_law_number") fd := W.defs 45 (gDef "_law_number" 51) rfl
theorem Wd.d_g_law_told : ∃ fd, FunD K "_law_told" "_law_told" (defArgs (top 52)) (defBody (top 52)) (defScope (top 52)) [] [] (He.ga K "_law_told") fd := W.defs 46 (gDef "_law_told" 52) rfl
theorem Wd.d_g_law_rows : ∃ fd, FunD K "_law_rows" "_law_rows" (defArgs (top 53)) (defBody (top 53)) (defScope (top 53)) [] [] (He.ga K "_law_rows") fd := W.defs 47 (gDef "_law_rows" 53) rfl
theorem Wd.d_g_law_keeps : ∃ fd, FunD K "_law_keeps" "_law_keeps" (defArgs (top 54)) (defBody (top 54)) (defScope (top 54)) [] [] (He.ga K "_law_keeps") fd := W.defs 48 (gDef "_law_keeps" 54) rfl
theorem Wd.d_g_law_drawn : ∃ fd, FunD K "_law_drawn" "_law_drawn" (defArgs (top 55)) (defBody (top 55)) (defScope (top 55)) [] [] (He.ga K "_law_drawn") fd := W.defs 49 (gDef "_law_drawn" 55) rfl
theorem Wd.d_g_law : ∃ fd, FunD K "law" "law" (defArgs (top 56)) (defBody (top 56)) (defScope (top 56)) [] [] (He.ga K "law") fd := W.defs 50 (gDef "law" 56) rfl
end
end Pan
set_option maxHeartbeats 1000000
/-! Instances with slots; triples. -/
namespace Pan
open PySem PySem.Spec PyProof.Rows L2
/-- a value of the machine for each -/
def repV : V → Value
  | .non => Value.none
  | .bl b => Value.bool b
  | .int i => Value.int i default
  | .str x => Value.str x default
  | .byt b => Value.bytes b default
  | .flt b => Value.float b default
  | .ref a => Value.ref a
  | .ty n => Value.type n
theorem repV_ok : ∀ v, RelV v (repV v)
  | .non => rfl
  | .bl _ => rfl
  | .int _ => ⟨_, rfl⟩
  | .str _ => ⟨_, rfl⟩
  | .byt _ => ⟨_, rfl⟩
  | .flt _ => ⟨_, rfl⟩
  | .ref _ => rfl
  | .ty _ => rfl
theorem slO_code {a C dx c : Addr} {vs : List (Option V)} {q : Str} : SlX.SlO a C dx vs ≠ LamX.CodeO c q := by
  intro e
  unfold SlX.SlO LamX.CodeO at e
  injection e with e
  let sl : Array (Option Value) := (vs.map fun o => o.map repV).toArray
  let ob : Obj := { PySem.W.instObj C dx with slots := sl }
  let h : Heap := { objs := Array.replicate (a + 1) ob }
  have hg : ∀ b, h.get? b = if b < a + 1 then some ob else Option.none := fun b => by
    unfold Heap.get?
    have e0 : h.objs[b]? = if b < a + 1 then some ob else Option.none := Array.getElem?_replicate
    rw [e0]
    by_cases k : b < a + 1
    · rw [if_pos k]
    · rw [if_neg k]
  have h1 : ∃ sl : Array (Option Value), h.get? a = some { PySem.W.instObj C dx with slots := sl } ∧ SlX.SlR vs sl := by
    refine ⟨sl, by rw [hg, if_pos (Nat.lt_succ_self _)], fun i v hv => ⟨repV v, ?_, repV_ok v⟩⟩
    show (vs.map fun o => o.map repV).toArray[i]? = _
    simp [hv]
  have h2 := (congrFun e h).mp h1
  obtain ⟨oc, ws, t, h2, h3, _⟩ := h2
  rw [hg] at h2
  split at h2
  · rw [← Option.some.inj h2] at h3
    exact nomatch h3
  · exact nomatch h2
/-- an instance with slots, and its dict -/
def Ins (H : Hp) (a C dx : Addr) (vs : List (Option V)) : Prop := dx ≠ a ∧ ((H a = some (.ins C dx []) ∧ vs = [] ∧ H dx = some (.own a)) ∨ (H a = some (SlX.SlO a C dx vs) ∧ H dx = some (.xd [])))
section
variable {T : List (Addr × Str)} {H H0 H' : Hp} {a C dx : Addr} {vs vs' : List (Option V)}
theorem Ins.slt (h : Ins H a C dx vs) : SlX.Slt H a C dx vs := h.2.imp (fun q => ⟨q.1, q.2.1⟩) id
theorem Ins.same (h : Ins H a C dx vs) (h1 : H' a = H a) (h2 : H' dx = H dx) : Ins H' a C dx vs := by
  unfold Ins
  rw [h1, h2]
  exact h
theorem Ins.gr (h : Ins H a C dx vs) (g : Gr T H H') : Ins H' a C dx vs := by
  refine ⟨h.1, ?_⟩
  rcases h.2 with ⟨h1, h2, h3⟩ | ⟨h1, h2⟩
  · exact .inl ⟨g.ext _ _ h1 (fun _ z => nomatch z), h2, g.ext _ _ h3 (fun _ z => nomatch z)⟩
  · exact .inr ⟨g.ext _ _ h1 (fun _ z => by unfold SlX.SlO at z; exact nomatch z), g.ext _ _ h2 (fun _ z => nomatch z)⟩
theorem Ins.calm (h : Ins H a C dx vs) : Calm H a ∧ Calm H dx := by
  rcases h.2 with ⟨h1, h2, h3⟩ | ⟨h1, h2⟩
  · exact ⟨calm_of h1 (fun _ z => nomatch z) (fun _ z => nomatch z), calm_of h3 (fun _ z => nomatch z) (fun _ z => nomatch z)⟩
  · refine ⟨⟨⟨_, h1, (fun _ z => by unfold SlX.SlO at z; exact nomatch z)⟩, fun c q hc e => ?_⟩, calm_of h2 (fun _ z => nomatch z) (fun _ z => nomatch z)⟩
    rw [e, h1] at hc
    exact slO_code (Option.some.inj hc)
theorem Ins.made (h1 : H a = none) (h2 : H dx = none) (h : dx ≠ a) : Ins (upd (upd H dx (.own a)) a (.ins C dx [])) a C dx [] := ⟨h, .inl ⟨upd_same, rfl, by rw [upd_ne h, upd_same]⟩⟩
theorem gr_made (h1 : H a = none) (h2 : H dx = none) (h : dx ≠ a) : Gr T H (upd (upd H dx (.own a)) a (.ins C dx [])) := (Gr.new h2).trans (.new (by rw [upd_ne h.symm]; exact h1))
theorem Ins.put (h : dx ≠ a) : Ins (SlX.slH H a C dx vs') a C dx vs' := ⟨h, .inr ⟨upd_same, by unfold SlX.slH; rw [upd_ne h, upd_same]⟩⟩
theorem Gr.put (g : Gr T H0 H) (h1 : H0 a = none) (h2 : H0 dx = none) (h : Ins H a C dx vs) : Gr T H0 (SlX.slH H a C dx vs') := by
  have k := h.calm
  have g2 : Gr T H0 (upd H dx (.xd [])) := g.mut h2 k.2
  refine g2.mut h1 ⟨?_, fun c q hc => ?_⟩
  · obtain ⟨o, e, n⟩ := k.1.1
    exact ⟨o, by rw [upd_ne h.1.symm]; exact e, n⟩
  · by_cases e : c = dx
    · rw [e]; exact h.1
    · rw [upd_ne e] at hc
      exact k.1.2 c q hc
end
/-! ### triples -/
section
variable {T : List (Addr × Str)} {X : Cx} {e : Expr} {es : List Expr} {σ : L2.St} {H H0 : Hp} {P : Pr T} {Ps : List (Pr T)} {pos apos p1 p2 : Pos} {R S : V → Hp → Prop} {D : Ends} {rest : List Stmt} {v : V}
/-- from the slots σ and the heap H the value and the heap behind satisfy R -/
def EX (X : Cx) (e : Expr) (σ : L2.St) (H : Hp) (R : V → Hp → Prop) : Prop := PE X e fun σ' H1 Q => σ' = σ ∧ H1 = H ∧ ∀ v H2, R v H2 → Q v H2
theorem thnE {pins : List (Addr × Obj)} {s : Shared} {Q : VK} {t : Sem Value} (h : wpAny (model X.prog X.w) X.A t (EP X pins σ R) X.xe s) (q : ∀ v H2, R v H2 → Q v H2) : wpAny (model X.prog X.w) X.A t (EP X pins σ Q) X.xe s :=
  thn h fun u s' ⟨v, H', I, r, z⟩ => ⟨v, H', I, r, q v H' z⟩
theorem EX.of {t : TE} (h : PE X e t) (q : t σ H R) : EX X e σ H R := ⟨fun pins s σ' H1 Q I ⟨e1, e2, r⟩ => by
  subst e1 e2
  exact thnE (h.run pins s _ _ R I q) r⟩
theorem EX.run (h : EX X e σ H R) {pins : List (Addr × Obj)} {s : Shared} (I : Inv X pins σ H s) : wpAny (model X.prog X.w) X.A (eval e X.env) (EP X pins σ R) X.xe s := PE.run h pins s σ H R I ⟨rfl, rfl, fun _ _ q => q⟩
theorem EX.imp (h : EX X e σ H R) (q : ∀ v H2, R v H2 → S v H2) : EX X e σ H S := EX.of h ⟨rfl, rfl, q⟩
theorem EE.x (h : EE T X e σ H P) : EX X e σ H fun v H2 => Gr T H H2 ∧ P.p v H2 := EX.of h ⟨rfl, .refl _, fun v H2 g hv => ⟨g, hv⟩⟩
theorem NewL.x {S : List V → Hp → Prop} (h : NewL T X e σ H S) : EX X e σ H fun v H2 => Gr T H H2 ∧ ∃ p xs, v = .ref p ∧ H p = none ∧ H2 p = some (.lst xs) ∧ S xs (del H2 p) := EX.of h ⟨rfl, .refl _, fun p xs H2 g hn hp hS => ⟨g, p, xs, rfl, hn, hp, hS⟩⟩
/-- a triple for all heaps grown from H is a growing expression -/
theorem EE.ofX (h : ∀ H1, Gr T H H1 → EX X e σ H1 fun v H2 => Gr T H1 H2 ∧ P.p v H2) : EE T X e σ H P := ⟨fun pins s σ' H1 Q I ⟨e1, g, r⟩ => by
  rw [e1] at I ⊢
  exact thnE ((h H1 g).run I) fun v H2 q => r v H2 q.1 q.2⟩
theorem ssx_expr (h : EX X e σ H R) (q : ∀ v H1, R v H1 → SS T X rest σ H1 D) (hs : swapsWith e none pos.line X.env = pure false := by rfl) : SS T X (.Expr e pos :: rest) σ H D := ss_cons (S1.of (ps_expr h hs) ⟨rfl, rfl, q⟩)
theorem ssx_ret (h : EX X e σ H R) (q : ∀ v H1, R v H1 → D.rt v H1) : SS T X (.Return (some e) pos :: rest) σ H D := ss_cons (S1.of (ps_ret h) ⟨rfl, rfl, q⟩)
theorem ssx_set {x : Str} (n : Nat) (h : EX X e σ H R) (hN : X.N.Nodup) (q : ∀ v H1, R v H1 → SS T X rest (σ.set n (some v)) H1 D) (hi : X.N[n]? = some x := by rfl) (hx : Loc X.env.scope x := by first | exact Or.inl rfl | exact Or.inr rfl)
    (hs : swapsWith e (some (.Name x p1)) pos.line X.env = pure false := by rfl) (hf : X.fn x = true ∨ X.env.scope.names.lookup x = some .local := by first | exact .inl rfl | exact .inr rfl) : SS T X (.Assign [.Name x p1] e pos :: rest) σ H D :=
  ss_cons (S1.of (ps_set hN hi hx h hs hf) ⟨rfl, rfl, q⟩)
/-! ### slots -/
/-- e.f -/
theorem ee_sl {f : Str} {P1 : Pr T} (h : EE T X e σ H P) (q : ∀ v H1, Gr T H H1 → P.p v H1 → ∃ a C dx p vs i w, v = .ref a ∧ SlX.Slt H1 a C dx vs ∧ SlX.SCls X.K C ∧ SlX.Slot1 X.K C f p i ∧ vs[i]? = some (some w) ∧ P1.p w H1) (hb : attributeBase e f X.env (eval e X.env) = eval e X.env := by rfl) : EE T X (.Attribute e f pos) σ H P1 :=
  EE.of (SlX.pe_sl h hb) fun H1 g Q r => ⟨rfl, g, fun v H2 g2 hv => by
    obtain ⟨a, C, dx, p, vs, i, w, e1, e2, e3, e4, e5, e6⟩ := q v H2 (g.trans g2) hv
    exact ⟨a, C, dx, p, vs, i, w, e1, e2, e3, e4, e5, r w H2 g2 e6⟩⟩
/-- x.f = e, x in slot n an instance -/
theorem ss_sl (n : Nat) {x f : Str} {a C dx p : Addr} {i : Nat} (hn : σ[n]? = some (some (.ref a))) (h : EX X e σ H R) (c : SlX.SCls X.K C) (t : SlX.Slot1 X.K C f p i) (q : ∀ v H1, R v H1 → ∃ vs, SlX.Slt H1 a C dx vs ∧ SS T X rest σ (SlX.slH H1 a C dx (SlX.putS i v vs)) D)
    (hs : swapsWith e (some (.Attribute (.Name x p1) f p2)) pos.line X.env = pure false := by rfl) (hN : X.N[n]? = some x := by rfl) (hv : Vis X.env.scope x := by first | exact Or.inl rfl | exact Or.inr (Or.inl rfl) | exact Or.inr (Or.inr rfl))
    (hd : (x == ("__debug__" : Str)) = false := by decide) (hcd : (x == ("__classdict__" : Str)) = false := by decide) : SS T X (.Assign [.Attribute (.Name x p1) f p2] e pos :: rest) σ H D :=
  ss_cons (S1.of (SlX.ps_sl (pe_var (i := n) hN hv hd hcd) h hs) ⟨rfl, rfl, fun v H1 hR => ⟨.ref a, hn, by
    obtain ⟨vs, h1, h2⟩ := q v H1 hR
    exact ⟨a, C, dx, p, vs, i, rfl, h1, c, t, h2⟩⟩⟩)
/-- x.m(e, ..), x in slot n an instance -/
theorem ex_meth {k m : Nat} {x f : Str} {a C g : Addr} {dx : Addr} {vs : List (Option V)} {sp : Sp} {E : XK} {pl : Sem Bool} (n : Nat) (hn : σ[n]? = some (some (.ref a))) (hsl : SlX.Slt H a C dx vs) (c : SlX.SCls X.K C) (hm : Meth X.K C f g) (F : FnR X.prog X.w X.K X.mg X.base CX0 k g sp) (hr : Room m X.A) (ha : EA T X (e :: es) σ H Ps)
    (q : ∀ ws H2, Gr T H H2 → Sat Ps ws H2 → sp (.ref a :: ws) H2 R E) (hkm : k ≤ m := by decide) (hN : X.N[n]? = some x := by rfl) (hv : Vis X.env.scope x := by first | exact Or.inl rfl | exact Or.inr (Or.inl rfl) | exact Or.inr (Or.inr rfl))
    (hd : (x == ("__debug__" : Str)) = false := by decide) (hcd : (x == ("__classdict__" : Str)) = false := by decide) (hst : starEach (e :: es) X.env = (false, eval e X.env) :: starEach es X.env := by rfl) (hpl : (backTo pos (starEach es X.env)).any (·.1) = false := by rfl)
    (ht : eval (.Call (.Attribute (.Name x p1) f apos) (e :: es) [] pos) X.env = (do
      let ov ← eval (.Name x p1) X.env
      standAt apos.atName
      let (f, first) ← holding [ov] (getMethod ov f pl)
      callWith pos f first (backTo pos (starEach (e :: es) X.env)) (backToKw pos (keywordEach [] X.env))) := by rfl) : EX X (.Call (.Attribute (.Name x p1) f apos) (e :: es) [] pos) σ H R :=
  EX.of (SlX.pe_methSl (E := E) (pe_var (i := n) hN hv hd hcd) c hm F (hr.mono hkm) pass0 ha hst hpl ht) ⟨_, hn, a, dx, vs, rfl, hsl, rfl, .refl _, fun ws H2 g hws => q ws H2 g hws⟩
theorem ex_meth0 {k m : Nat} {x f : Str} {a C g : Addr} {dx : Addr} {vs : List (Option V)} {sp : Sp} {E : XK} {pl : Sem Bool} (n : Nat) (hn : σ[n]? = some (some (.ref a))) (hsl : SlX.Slt H a C dx vs) (c : SlX.SCls X.K C) (hm : Meth X.K C f g) (F : FnR X.prog X.w X.K X.mg X.base CX0 k g sp) (hr : Room m X.A)
    (q : sp [.ref a] H R E) (hkm : k ≤ m := by decide) (hN : X.N[n]? = some x := by rfl) (hv : Vis X.env.scope x := by first | exact Or.inl rfl | exact Or.inr (Or.inl rfl) | exact Or.inr (Or.inr rfl))
    (hd : (x == ("__debug__" : Str)) = false := by decide) (hcd : (x == ("__classdict__" : Str)) = false := by decide)
    (ht : eval (.Call (.Attribute (.Name x p1) f apos) [] [] pos) X.env = (do
      let ov ← eval (.Name x p1) X.env
      standAt apos.atName
      let (f, first) ← holding [ov] (getMethod ov f pl)
      callWith pos f first (backTo pos (starEach [] X.env)) (backToKw pos (keywordEach [] X.env))) := by rfl) : EX X (.Call (.Attribute (.Name x p1) f apos) [] [] pos) σ H R :=
  EX.of (SlX.pe_methSl0 (E := E) (pe_var (i := n) hN hv hd hcd) c hm F (hr.mono hkm) pass0 ht) ⟨_, hn, a, dx, vs, rfl, hsl, q⟩
/-- C(e, ..): a new instance -/
theorem ex_make {k m : Nat} {x : Str} {C f : Addr} {sp : Sp} {E : XK} (M : Mk X.K C f) (F : FnR X.prog X.w X.K X.mg X.base CX0 k f sp) (hr : Room m X.A) (hm : X.mg x = some (.ref C)) (ha : EA T X (e :: es) σ H Ps)
    (q : ∀ ws H1 a dx, Gr T H H1 → Sat Ps ws H1 → H1 a = none → H1 dx = none → dx ≠ a → sp (.ref a :: ws) (upd (upd H1 dx (.own a)) a (.ins C dx [])) (fun v H2 => v = .non ∧ R (.ref a) H2) E) (hkm : k + 1 ≤ m := by decide)
    (hg : Gl X x := by rfl) (hdb : (x == ("__debug__" : Str)) = false := by decide) (he : starEach (e :: es) X.env = (false, eval e X.env) :: starEach es X.env := by rfl) (hpl : (backTo pos (starEach es X.env)).any (·.1) = false := by rfl) : EX X (.Call (.Name x p1) (e :: es) [] pos) σ H R :=
  EX.of (StX.pe_makeR (E := E) M F (hr.mono hkm) hg hm pass0 ha hdb he hpl) ⟨rfl, .refl _, fun ws H1 g hws a dx h1 h2 h3 => q ws H1 a dx g hws h1 h2 h3⟩
/-- a call of a def by any promise -/
theorem ex_call {k m : Nat} {x : Str} {f : Addr} {sp : Sp} {E : XK} (F : FnR X.prog X.w X.K X.mg X.base CX0 k f sp) (hm : X.mg x = some (.ref f)) (hk : PySem.W.keepIn X.K (.ref f) = true) (hr : Room m X.A) (ha : EA T X (e :: es) σ H Ps)
    (q : ∀ ws H2, Gr T H H2 → Sat Ps ws H2 → sp ws H2 R E) (hkm : k ≤ m := by decide) (hg : Gl X x := by rfl) (hdb : (x == ("__debug__" : Str)) = false := by decide)
    (he : starEach (e :: es) X.env = (false, eval e X.env) :: starEach es X.env := by rfl) (hpl : (backTo pos (starEach es X.env)).any (·.1) = false := by rfl) : EX X (.Call (.Name x p1) (e :: es) [] pos) σ H R :=
  EX.of (pe_callR (E := E) F (hr.mono hkm) pass0 hm hk ha hg hdb he hpl) ⟨rfl, .refl _, q⟩
end
/-! ### defs by any promise -/
section
variable {T : List (Addr × Str)} {P : Program} {w : World} {K : PySem.W.Frag} {mg : Str → Option Value} {base : Heap} {x qual : Str} {params : Arguments} {body : List Stmt} {scope : Scope} {f : Addr} {fd : FuncData} {N ps : List Str} {k : Nat}
theorem fn_any {sp : Sp} (F : FunD K x qual params body scope [] [] f fd) (S : FnScope N ps scope) (hb : Binds K fd ps []) (hl : ∀ vs H Q E, sp vs H Q E → vs.length = ps.length)
    (h : ∀ (cdv : Value) (A : Around) (outer : List Env) (s : Shared) (H : Hp) (vs : List V) (Q : VK) (E : XK), Room k (A.deeper (envOfC qual scope s.heap.objs.size f cdv)) → sp vs H Q E →
      SS T (cxOf CX0 P w K mg base N qual scope f cdv A outer s H E).nox body (start N vs) H { nx := fun _ H' => Q .non H', rt := Q }) : FnR P w K mg base CX0 (k + 1) f sp := by
  have G : FnOk P w K mg base CX0 (k + 1) f fd ps sp := F.ok S hl fun cdv A outer s H vs Q E hr hs => ⟨_, PSs.nox (h cdv A outer s H vs Q E hr hs), rfl, rfl, rfl⟩
  intro A outer s H us vs Q E hr e0 r hs
  exact G.raw hb .nil A outer s H us vs Q E hr e0 r (by show sp (vs ++ []) H Q E; rw [List.append_nil]; exact hs)
end
end Pan
set_option maxHeartbeats 1000000
/-! Calls of built-ins. -/
namespace Pan
open PySem PySem.Spec PyProof.Rows L2
section
variable {T : List (Addr × Str)} {X : Cx} {e a b c : Expr} {es : List Expr} {σ : L2.St} {H : Hp} {P P1 P2 : Pr T} {Ps : List (Pr T)} {pos p1 p2 : Pos} {i j : Int} {α : Type} {R : α → Pr T} {xs : List α}
theorem ee_len {x : Str} (hm : X.mg x = none) (hP : ∀ v H1, Gr T H H1 → P.p v H1 → ∃ p vs, v = .ref p ∧ (SqL X.K H1 p vs ∨ SqT X.K H1 p vs) ∧ (vs.length : Int) = i) (ha : EE T X a σ H P) (hv : bootBuiltins x = some (.builtin "len") := by decide +kernel) (hg : Gl X x := by rfl) (hn : x ≠ "__name__" := by decide) (hdb : (x == ("__debug__" : Str)) = false := by decide)
    (he : starEach [a] X.env = (false, eval a X.env) :: starEach [] X.env := by rfl) : EE T X (.Call (.Name x p1) [a] [] pos) σ H (intP i) :=
  ee_bltn call_len hm hv (ea_cons ha ea_nil he) (fun vs H1 g hs Q z => by
    obtain ⟨v, rfl, h⟩ := sat1 hs
    obtain ⟨p, ws, rfl, h1, h2⟩ := hP v H1 g h
    refine ⟨_, ws.length, rfl, ?_, z _ H1 (.refl _) (congrArg V.int h2)⟩
    rcases h1 with h1 | h1
    · exact .inl ⟨ws, h1, rfl⟩
    · exact .inr ⟨ws, h1, rfl⟩) hg hn hdb he
theorem ee_lenL {x : Str} (hm : X.mg x = none) (ha : EE T X a σ H (lstP X.K R xs)) (hv : bootBuiltins x = some (.builtin "len") := by decide +kernel) (hg : Gl X x := by rfl) (hn : x ≠ "__name__" := by decide) (hdb : (x == ("__debug__" : Str)) = false := by decide)
    (he : starEach [a] X.env = (false, eval a X.env) :: starEach [] X.env := by rfl) : EE T X (.Call (.Name x p1) [a] [] pos) σ H (intP (xs.length : Int)) :=
  ee_len (P := lstP X.K R xs) hm (fun v H1 g ⟨p, vs, e, h1, h2⟩ => ⟨p, vs, e, .inl h1, by rw [h2.length]⟩) ha hv hg hn hdb he
theorem ee_lenT {x : Str} (hm : X.mg x = none) (ha : EE T X a σ H (tupP X.K R xs)) (hv : bootBuiltins x = some (.builtin "len") := by decide +kernel) (hg : Gl X x := by rfl) (hn : x ≠ "__name__" := by decide) (hdb : (x == ("__debug__" : Str)) = false := by decide)
    (he : starEach [a] X.env = (false, eval a X.env) :: starEach [] X.env := by rfl) : EE T X (.Call (.Name x p1) [a] [] pos) σ H (intP (xs.length : Int)) :=
  ee_len (P := tupP X.K R xs) hm (fun v H1 g ⟨p, vs, e, h1, h2⟩ => ⟨p, vs, e, .inr h1, by rw [h2.length]⟩) ha hv hg hn hdb he
/-- the name of a built-in type -/
theorem ee_ty {x : Str} {n : String} (hm : X.mg x = none) (hv : bootBuiltins x = some (.type n)) (hg : Gl X x := by rfl) (hn : x ≠ "__name__" := by decide) (hdb : (x == ("__debug__" : Str)) = false := by decide) : EE T X (.Name x pos) σ H (eqP (.ty n)) :=
  EE.of (pe_bltn hg hm hv (v := .ty n) rfl hn hdb) fun H1 _ _ r => r _ H1 (.refl _) rfl
/-- isinstance(e, C), by what e's type is -/
theorem ee_isi {x : Str} {t u : Value} {c' : V} {r : Bool} (hm : X.mg x = none) (k : ClsV c' u) (hk : PySem.W.kitOne X.K t u = some r) (hP : ∀ v H1, Gr T H H1 → P.p v H1 → TyX X.K H1 v t) (ha : EE T X a σ H P) (hb : EE T X b σ H (eqP c')) (hv : bootBuiltins x = some (.builtin "isinstance") := by decide +kernel) (hg : Gl X x := by rfl) (hn : x ≠ "__name__" := by decide) (hdb : (x == ("__debug__" : Str)) = false := by decide)
    (he : starEach [a, b] X.env = (false, eval a X.env) :: starEach [b] X.env := by rfl) (he2 : starEach [b] X.env = (false, eval b X.env) :: starEach [] X.env := by rfl) (hpl : (backTo pos (starEach [b] X.env)).any (·.1) = false := by rfl) : EE T X (.Call (.Name x p1) [a, b] [] pos) σ H (eqP (.bl r)) :=
  ee_bltn call_isi hm hv (ea_cons ha (ea_cons hb ea_nil he2) he) (fun vs H1 g hs Q z => by
    obtain ⟨v, w, rfl, h, hw⟩ := sat2 hs
    exact ⟨v, w, t, u, r, rfl, by rw [show w = c' from hw]; exact k, hP v H1 g h, hk, z _ H1 (.refl _) rfl⟩) hg hn hdb he hpl
theorem tyx_tup {K : PySem.W.Frag} {p : Addr} {vs : List V} (h : SqT K H p vs) : TyX K H (.ref p) (.type "tuple") := by
  rcases h with (h | ⟨o, h⟩) | ⟨o, its, n, h, h1, _⟩
  · exact .base (.tup h)
  · exact .fTuple h
  · exact .kTuple h h1
/-- all([..]) -/
theorem ee_all {x : Str} {bs : List Bool} (hm : X.mg x = none) (ha : EE T X a σ H (lstP X.K (fun b => eqP (.bl b)) bs)) (hc : X.calm = true := by rfl) (hv : bootBuiltins x = some (.builtin "all") := by decide +kernel) (hg : Gl X x := by rfl) (hn : x ≠ "__name__" := by decide) (hdb : (x == ("__debug__" : Str)) = false := by decide)
    (he : starEach [a] X.env = (false, eval a X.env) :: starEach [] X.env := by rfl) : EE T X (.Call (.Name x p1) [a] [] pos) σ H (eqP (.bl (bs.all id))) :=
  ee_bltn (cr_all hc) hm hv (ea_cons ha ea_nil he) (fun vs H1 g hs Q z => by
    obtain ⟨v, rfl, p, ws, rfl, h1, h2⟩ := sat1 hs
    refine ⟨p, bs, rfl, ?_, z _ H1 (.refl _) rfl⟩
    have e : ∀ {vs : List V} {bs : List Bool}, All2 (T := T) (fun b => eqP (.bl b)) vs bs H1 → vs = bs.map V.bl := by
      intro vs
      induction vs with
      | nil =>
        intro bs h
        cases bs with
        | nil => rfl
        | cons _ _ => exact h.elim
      | cons v vs ih =>
        intro bs h
        cases bs with
        | nil => exact h.elim
        | cons b bs => rw [show v = V.bl b from h.1, ih h.2]; rfl
    rw [← e h2]
    exact h1) hg hn hdb he
/-- a new list as a known one -/
theorem NewL.l {S : List V → Hp → Prop} (h : NewL T X e σ H S) (q : ∀ vs H1, Gr T H H1 → S vs H1 → All2 R vs xs H1) : EE T X e σ H (lstP X.K R xs) :=
  ⟨fun pins s σ' H1 Q I ⟨e1, g, r⟩ => by
    rw [e1] at I ⊢
    exact h.run pins s σ H1 Q I ⟨rfl, g, fun p vs H2 g2 hn hp hS => r _ H2 g2 ⟨p, vs, rfl, .inl (.inl hp), (q vs _ ((g.trans g2).toDel (g.old p hn) hp trivial) hS).st .del⟩⟩⟩
/-- tuple(e) of a list -/
theorem ee_tupL {x : Str} (hm : X.mg x = none) (ha : EE T X a σ H (lstP X.K R xs)) (hv : bootBuiltins x = some (.type "tuple") := by decide +kernel) (hg : Gl X x := by rfl) (hn : x ≠ "__name__" := by decide) (hdb : (x == ("__debug__" : Str)) = false := by decide)
    (he : starEach [a] X.env = (false, eval a X.env) :: starEach [] X.env := by rfl) : EE T X (.Call (.Name x p1) [a] [] pos) σ H (tupP X.K R xs) :=
  ee_type call_tuple_of hm hv (ea_cons ha ea_nil he) (fun vs H1 g hs Q z => by
    obtain ⟨v, rfl, p, ws, rfl, h1, h2⟩ := sat1 hs
    exact ⟨p, ws, rfl, .inl ⟨h1, fun l hl => z _ _ (.new hl) ⟨l, ws, rfl, .inl (.inl upd_same), h2.st (.new hl)⟩⟩⟩) hg hn hdb he
/-- list(e) of a list or a tuple: a new list -/
theorem nl_listOf {x : Str} (hm : X.mg x = none) (hP : ∀ v H1, Gr T H H1 → P.p v H1 → ∃ p vs, v = .ref p ∧ (SqL X.K H1 p vs ∨ SqT X.K H1 p vs) ∧ All2 R vs xs H1) (ha : EE T X a σ H P) (hv : bootBuiltins x = some (.type "list") := by decide +kernel) (hg : Gl X x := by rfl) (hn : x ≠ "__name__" := by decide) (hdb : (x == ("__debug__" : Str)) = false := by decide)
    (he : starEach [a] X.env = (false, eval a X.env) :: starEach [] X.env := by rfl) (hpl : (backTo pos (starEach [] X.env)).any (·.1) = false := by rfl) : NewL T X (.Call (.Name x p1) [a] [] pos) σ H (fun vs H1 => All2 R vs xs H1) :=
  NewL.of (pe_callTy call_list_of hg hm hv (ea_cons ha ea_nil he) hn hdb he hpl) fun H1 g Q r => ⟨rfl, g, fun vs H2 g2 hs => by
    obtain ⟨v, rfl, h⟩ := sat1 hs
    obtain ⟨p, ws, rfl, h1, h2⟩ := hP v H2 (g.trans g2) h
    exact ⟨p, ws, rfl, h1, fun l hl => r l ws _ (g2.trans (.new hl)) (g2.old _ hl) upd_same (by rw [del_upd hl]; exact h2)⟩⟩
/-- min(a, b), max(a, b) of ints -/
theorem ee_min2 {x : Str} (hm : X.mg x = none) (ha : EE T X a σ H (intP i)) (hb : EE T X b σ H (intP j)) (hc : X.calm = true := by rfl) (hv : bootBuiltins x = some (.builtin "min") := by decide +kernel) (hg : Gl X x := by rfl) (hn : x ≠ "__name__" := by decide) (hdb : (x == ("__debug__" : Str)) = false := by decide)
    (he : starEach [a, b] X.env = (false, eval a X.env) :: starEach [b] X.env := by rfl) (he2 : starEach [b] X.env = (false, eval b X.env) :: starEach [] X.env := by rfl) (hpl : (backTo pos (starEach [b] X.env)).any (·.1) = false := by rfl) : EE T X (.Call (.Name x p1) [a, b] [] pos) σ H (intP (if j < i then j else i)) :=
  ee_bltn (call_min2 hc) hm hv (ea_cons ha (ea_cons hb ea_nil he2) he) (fun vs H1 g hs Q z => by
    obtain ⟨v, w, rfl, rfl, rfl⟩ := sat2 hs
    exact ⟨i, j, rfl, z _ H1 (.refl _) rfl⟩) hg hn hdb he hpl
theorem ee_max2 {x : Str} (hm : X.mg x = none) (ha : EE T X a σ H (intP i)) (hb : EE T X b σ H (intP j)) (hc : X.calm = true := by rfl) (hv : bootBuiltins x = some (.builtin "max") := by decide +kernel) (hg : Gl X x := by rfl) (hn : x ≠ "__name__" := by decide) (hdb : (x == ("__debug__" : Str)) = false := by decide)
    (he : starEach [a, b] X.env = (false, eval a X.env) :: starEach [b] X.env := by rfl) (he2 : starEach [b] X.env = (false, eval b X.env) :: starEach [] X.env := by rfl) (hpl : (backTo pos (starEach [b] X.env)).any (·.1) = false := by rfl) : EE T X (.Call (.Name x p1) [a, b] [] pos) σ H (intP (if j > i then j else i)) :=
  ee_bltn (call_max2 hc) hm hv (ea_cons ha (ea_cons hb ea_nil he2) he) (fun vs H1 g hs Q z => by
    obtain ⟨v, w, rfl, rfl, rfl⟩ := sat2 hs
    exact ⟨i, j, rfl, z _ H1 (.refl _) rfl⟩) hg hn hdb he hpl
theorem ee_isInt {x y : Str} (hm : X.mg x = none) (hm2 : X.mg y = none) (ha : EE T X a σ H (intP i)) (hv2 : bootBuiltins y = some (.type "int") := by decide +kernel) (hg2 : Gl X y := by rfl) (hn2 : y ≠ "__name__" := by decide) (hdb2 : (y == ("__debug__" : Str)) = false := by decide)
    (hv : bootBuiltins x = some (.builtin "isinstance") := by decide +kernel) (hg : Gl X x := by rfl) (hn : x ≠ "__name__" := by decide) (hdb : (x == ("__debug__" : Str)) = false := by decide)
    (he : starEach [a, .Name y p2] X.env = (false, eval a X.env) :: starEach [.Name y p2] X.env := by rfl) (he2 : starEach [.Name y p2] X.env = (false, eval (.Name y p2) X.env) :: starEach [] X.env := by rfl) (hpl : (backTo pos (starEach [.Name y p2] X.env)).any (·.1) = false := by rfl) : EE T X (.Call (.Name x p1) [a, .Name y p2] [] pos) σ H (eqP (.bl true)) :=
  ee_isi hm (.ty "int") (kit_ty (a := "int") (b := "int") (by decide +kernel)) (fun v H1 _ hv => by rw [show v = V.int i from hv]; exact .base (.int _)) ha (ee_ty hm2 hv2 hg2 hn2 hdb2) hv hg hn hdb he he2 hpl
theorem ee_isBool {x y : Str} (hm : X.mg x = none) (hm2 : X.mg y = none) (ha : EE T X a σ H (intP i)) (hv2 : bootBuiltins y = some (.type "bool") := by decide +kernel) (hg2 : Gl X y := by rfl) (hn2 : y ≠ "__name__" := by decide) (hdb2 : (y == ("__debug__" : Str)) = false := by decide)
    (hv : bootBuiltins x = some (.builtin "isinstance") := by decide +kernel) (hg : Gl X x := by rfl) (hn : x ≠ "__name__" := by decide) (hdb : (x == ("__debug__" : Str)) = false := by decide)
    (he : starEach [a, .Name y p2] X.env = (false, eval a X.env) :: starEach [.Name y p2] X.env := by rfl) (he2 : starEach [.Name y p2] X.env = (false, eval (.Name y p2) X.env) :: starEach [] X.env := by rfl) (hpl : (backTo pos (starEach [.Name y p2] X.env)).any (·.1) = false := by rfl) : EE T X (.Call (.Name x p1) [a, .Name y p2] [] pos) σ H (eqP (.bl false)) :=
  ee_isi hm (.ty "bool") (kit_ty (a := "int") (b := "bool") (by decide +kernel)) (fun v H1 _ hv => by rw [show v = V.int i from hv]; exact .base (.int _)) ha (ee_ty hm2 hv2 hg2 hn2 hdb2) hv hg hn hdb he he2 hpl
theorem ee_isTup {x y : Str} (hm : X.mg x = none) (hm2 : X.mg y = none) (ha : EE T X a σ H (tupP X.K R xs)) (hv2 : bootBuiltins y = some (.type "tuple") := by decide +kernel) (hg2 : Gl X y := by rfl) (hn2 : y ≠ "__name__" := by decide) (hdb2 : (y == ("__debug__" : Str)) = false := by decide)
    (hv : bootBuiltins x = some (.builtin "isinstance") := by decide +kernel) (hg : Gl X x := by rfl) (hn : x ≠ "__name__" := by decide) (hdb : (x == ("__debug__" : Str)) = false := by decide)
    (he : starEach [a, .Name y p2] X.env = (false, eval a X.env) :: starEach [.Name y p2] X.env := by rfl) (he2 : starEach [.Name y p2] X.env = (false, eval (.Name y p2) X.env) :: starEach [] X.env := by rfl) (hpl : (backTo pos (starEach [.Name y p2] X.env)).any (·.1) = false := by rfl) : EE T X (.Call (.Name x p1) [a, .Name y p2] [] pos) σ H (eqP (.bl true)) :=
  ee_isi hm (.ty "tuple") (kit_ty (a := "tuple") (b := "tuple") (by decide +kernel)) (fun v H1 _ hv => by obtain ⟨p, vs, e, h1, _⟩ := hv; rw [e]; exact tyx_tup h1) ha (ee_ty hm2 hv2 hg2 hn2 hdb2) hv hg hn hdb he he2 hpl
theorem blkX {N ps : List Str} {sc scope : Scope} (S : FnScope N ps sc) (own : List (Str × Nat)) (hN : X.N = N := by rfl) (hs : X.env.scope = sc := by rfl) (h : blkC N sc scope own = true := by decide +kernel) : BlkOk X.N X.env.scope scope own := by
  rw [hN, hs]
  exact blkOk_by h
theorem EE.cast {P' : Pr T} (h : EE T X e σ H P') (q : P' = P := by rfl) : EE T X e σ H P := q ▸ h
theorem ee_callP {β : Type} {ok : β → Prop} {Qs : β → List (Pr T)} {R : β → Pr T} {n m : Nat} {f : Addr} {x : Str} (F : FnR X.prog X.w X.K X.mg X.base CX0 n f (prom T ok Qs R)) (hm : X.mg x = some (.ref f)) (hk : PySem.W.keepIn X.K (.ref f) = true)
    (hr : Room m X.A) (z : β) (hz : ok z) (ha : EA T X (e :: es) σ H (Qs z)) (hP : R z = P := by rfl) (hnm : n ≤ m := by decide) (hg : Gl X x := by rfl) (hdb : (x == ("__debug__" : Str)) = false := by decide)
    (he : starEach (e :: es) X.env = (false, eval e X.env) :: starEach es X.env := by rfl) (hpl : (backTo pos (starEach es X.env)).any (·.1) = false := by rfl) : EE T X (.Call (.Name x p1) (e :: es) [] pos) σ H P :=
  hP ▸ ee_call F hm hk hr z hz ha hnm hg hdb he hpl
end
end Pan
set_option maxHeartbeats 1000000
/-! Comprehensions, ready for use. -/
namespace Pan
open PySem PySem.Spec PyProof.Rows L2
section
variable {T : List (Addr × Str)} {X : Cx} {tg iter elt c tg1 iter1 : Expr} {σ : L2.St} {H : Hp} {pos p1 p2 p3 p4 p5 p6 : Pos} {α β : Type} {xs : List α} {R R1 R2 : α → Pr T} {scope sc : Scope} {N ps : List Str} {x y u w : Str} {z : Nat}
/-- a comprehension whose list is as told -/
structure EC (T : List (Addr × Str)) (X : Cx) (e : Expr) (σ : L2.St) (H : Hp) {α : Type} (R : α → Pr T) (xs : List α) : Prop where
  nc : NewC T X e σ H fun vs H1 => All2 R vs xs H1
theorem EC.ee {e : Expr} (h : EC T X e σ H R xs) : EE T X e σ H (lstP X.K R xs) := NewL.l h.nc.nl fun _ _ _ h => h
theorem EC.nl {e : Expr} (h : EC T X e σ H R xs) : NewL T X e σ H fun vs H1 => All2 R vs xs H1 := h.nc.nl
/-- x = [..] on one line -/
theorem ss_setC {e : Expr} {rest : List Stmt} {D : Ends} (n : Nat) (h : EC T X e σ H R xs) (q : ∀ v H1, Gr T H H1 → (lstP X.K R xs).p v H1 → SS T X rest (σ.set n (some v)) H1 D) (hy : X.N[n]? = some x := by rfl) (hl : X.env.scope.names.lookup x = some .local := by rfl)
    (hs : swapsWith e (some (.Name x p1)) pos.line X.env = pure true := by rfl) : SS T X (.Assign [.Name x p1] e pos :: rest) σ H D :=
  ss_cons (h.nc.set hy hl hs fun p vs H1 g hp h1 h2 => q _ H1 g ⟨p, vs, rfl, .inl (.inl h1), h2.st .del⟩)
/-- x = [..], the new list not tracked before -/
theorem ss_setCL {e : Expr} {rest : List Stmt} {D : Ends} (n : Nat) (h : EC T X e σ H R xs) (q : ∀ p vs H1, Gr T H H1 → H p = none → H1 p = some (.lst vs) → All2 R vs xs (del H1 p) → SS T X rest (σ.set n (some (.ref p))) H1 D) (hy : X.N[n]? = some x := by rfl) (hl : X.env.scope.names.lookup x = some .local := by rfl)
    (hs : swapsWith e (some (.Name x p1)) pos.line X.env = pure true := by rfl) : SS T X (.Assign [.Name x p1] e pos :: rest) σ H D :=
  ss_cons (h.nc.set hy hl hs fun p vs H1 g hp h1 h2 => q p vs H1 g hp h1 h2)
theorem NewC.same {e : Expr} {ys : List α} (h : NewC T X e σ H fun vs H1 => All2 R vs ys H1) (q : ys = xs) : EC T X e σ H R xs := by
  subst q
  exact ⟨h⟩
theorem pgN {scope : Scope} (j : Nat) (hN : X.N.Nodup) (hi : X.N[j]? = some x) (hx : (relabel scope X.env).names.lookup x = some .local) (s : Shared) (H : Hp) (C : Addr) (cl : List (Str × Addr)) (fp : List Addr) : PG (bl X scope s H C cl fp) (.Name x p1) (gName j) :=
  pg_name (X := bl X scope s H C cl fp) hN hi (.inl hx) (.inr hx)
theorem pgP {scope : Scope} (j k : Nat) (hN : X.N.Nodup) (hi : X.N[j]? = some x) (hx : (relabel scope X.env).names.lookup x = some .local) (hj : X.N[k]? = some y) (hy : (relabel scope X.env).names.lookup y = some .local) (hc : X.calm = true)
    (s : Shared) (H : Hp) (C : Addr) (cl : List (Str × Addr)) (fp : List Addr) : PG (bl X scope s H C cl fp) (.Tuple [.Name x p1, .Name y p2] z p3) (gTup X.K 2 (gCons (gName j) (gCons (gName k) gNil))) :=
  pg_tup (X := bl X scope s H C cl fp) hc (pgs_cons (pg_name (X := bl X scope s H C cl fp) hN hi (.inl hx) (.inr hx)) (pgs_cons (pg_name (X := bl X scope s H C cl fp) hN hj (.inl hy) (.inr hy)) pgs_nil))
/-- [elt for x in iter] -/
theorem ec_lc (j : Nat) (S : FnScope N ps sc) {Ro : α → Pr T} [∀ a, Solid (Ro a)] (hs : Src T X (.Name x p1) iter σ H bNow xs R) (hl : xs.length ≤ 1000)
    (he : ∀ a v H', a ∈ xs → Gr T H H' → (R a).p v H' → ∀ s H C cl fp, EE T (bl X scope s H C cl fp) elt ((wipe σ [j]).set j (some v)) H' (Ro a))
    (hN : X.N = N := by rfl) (hsc : X.env.scope = sc := by rfl) (hb : blkC N sc scope [(x, j)] = true := by decide +kernel) (hi : X.N[j]? = some x := by rfl) (hx : (relabel scope X.env).names.lookup x = some .local := by rfl) (hc : X.calm = true := by rfl)
    (hw : ∀ v, wipe ((wipe σ [j]).set j (some v)) [j] = wipe σ [j] := by intro _; rfl) (hf : ∀ x, foldedSetIterable iter X.env x = pure x := by intro _; rfl) : EC T X (.ListComp elt [⟨.Name x p1, iter, [], 0⟩] scope pos) σ H Ro xs :=
  have nd : X.N.Nodup := hN ▸ S.nd
  NewC.same (nc_lc j (keep := fun _ => true) hs hl nd (blkX S [(x, j)] hN hsc hb) (fun _ _ _ _ _ _ _ _ _ _ _ => ets_nil) (fun a v H' D ls ha g hv _ hD s H C cl fp => EE.en (he a v H' ha g hv s H C cl fp) hD trivial) (pgN j nd hi hx) hc hw hf) (List.filter_eq_self.mpr fun _ _ => rfl)
/-- [elt for x in iter if c] -/
theorem ec_lcIf (j : Nat) (S : FnScope N ps sc) {Ro : α → Pr T} [∀ a, Solid (Ro a)] {keep : α → Bool} (hs : Src T X (.Name x p1) iter σ H bNow xs R) (hl : xs.length ≤ 1000)
    (hk : ∀ a v H', a ∈ xs → Gr T H H' → (R a).p v H' → ∀ s H C cl fp, ET T (bl X scope s H C cl fp) c ((wipe σ [j]).set j (some v)) H' (keep a))
    (he : ∀ a v H', a ∈ xs → keep a = true → Gr T H H' → (R a).p v H' → ∀ s H C cl fp, EE T (bl X scope s H C cl fp) elt ((wipe σ [j]).set j (some v)) H' (Ro a))
    (hN : X.N = N := by rfl) (hsc : X.env.scope = sc := by rfl) (hb : blkC N sc scope [(x, j)] = true := by decide +kernel) (hi : X.N[j]? = some x := by rfl) (hx : (relabel scope X.env).names.lookup x = some .local := by rfl) (hc : X.calm = true := by rfl)
    (hw : ∀ v, wipe ((wipe σ [j]).set j (some v)) [j] = wipe σ [j] := by intro _; rfl) (hf : ∀ x, foldedSetIterable iter X.env x = pure x := by intro _; rfl) : EC T X (.ListComp elt [⟨.Name x p1, iter, [c], 0⟩] scope pos) σ H Ro (xs.filter keep) :=
  have nd : X.N.Nodup := hN ▸ S.nd
  NewC.same (nc_lc j (keep := keep) hs hl nd (blkX S [(x, j)] hN hsc hb) (fun a v H' ha g hv s H C cl fp => ets_one (hk a v H' ha g hv s H C cl fp)) (fun a v H' D ls ha g hv hka hD s H C cl fp => EE.en (he a v H' ha hka g hv s H C cl fp) hD trivial) (pgN j nd hi hx) hc hw hf) rfl
/-- [elt for x, y in iter] -/
theorem ec_lcP (j k : Nat) (S : FnScope N ps sc) {Ro : α → Pr T} [∀ a, Solid (Ro a)] (hs : Src T X (.Tuple [.Name x p1, .Name y p2] z p3) iter σ H bNow xs (fun a => pairP X.K (R1 a) (R2 a))) (hl : xs.length ≤ 1000)
    (he : ∀ a v w H', a ∈ xs → Gr T H H' → (R1 a).p v H' → (R2 a).p w H' → ∀ s H C cl fp, EE T (bl X scope s H C cl fp) elt (((wipe σ [j, k]).set j (some v)).set k (some w)) H' (Ro a))
    (hN : X.N = N := by rfl) (hsc : X.env.scope = sc := by rfl) (hb : blkC N sc scope [(x, j), (y, k)] = true := by decide +kernel) (hi : X.N[j]? = some x := by rfl) (hx : (relabel scope X.env).names.lookup x = some .local := by rfl) (hj : X.N[k]? = some y := by rfl) (hy : (relabel scope X.env).names.lookup y = some .local := by rfl) (hc : X.calm = true := by rfl)
    (hw : ∀ v w, wipe (((wipe σ [j, k]).set j (some v)).set k (some w)) [j, k] = wipe σ [j, k] := by intro _ _; rfl) (hf : ∀ x, foldedSetIterable iter X.env x = pure x := by intro _; rfl) : EC T X (.ListComp elt [⟨.Tuple [.Name x p1, .Name y p2] z p3, iter, [], 0⟩] scope pos) σ H Ro xs :=
  have nd : X.N.Nodup := hN ▸ S.nd
  NewC.same (nc_lcP j k (keep := fun _ => true) hs hl nd (blkX S [(x, j), (y, k)] hN hsc hb) (fun _ _ _ _ _ _ _ _ _ _ _ _ _ => ets_nil) (fun a v w H' D ls ha g hv hw _ hD s H C cl fp => EE.en (he a v w H' ha g hv hw s H C cl fp) hD trivial) (pgP j k nd hi hx hj hy hc) hc hw hf) (List.filter_eq_self.mpr fun _ _ => rfl)
/-- [elt for x, y in iter if c] -/
theorem ec_lcPIf (j k : Nat) (S : FnScope N ps sc) {Ro : α → Pr T} [∀ a, Solid (Ro a)] {keep : α → Bool} (hs : Src T X (.Tuple [.Name x p1, .Name y p2] z p3) iter σ H bNow xs (fun a => pairP X.K (R1 a) (R2 a))) (hl : xs.length ≤ 1000)
    (hk : ∀ a v w H', a ∈ xs → Gr T H H' → (R1 a).p v H' → (R2 a).p w H' → ∀ s H C cl fp, ET T (bl X scope s H C cl fp) c (((wipe σ [j, k]).set j (some v)).set k (some w)) H' (keep a))
    (he : ∀ a v w H', a ∈ xs → keep a = true → Gr T H H' → (R1 a).p v H' → (R2 a).p w H' → ∀ s H C cl fp, EE T (bl X scope s H C cl fp) elt (((wipe σ [j, k]).set j (some v)).set k (some w)) H' (Ro a))
    (hN : X.N = N := by rfl) (hsc : X.env.scope = sc := by rfl) (hb : blkC N sc scope [(x, j), (y, k)] = true := by decide +kernel) (hi : X.N[j]? = some x := by rfl) (hx : (relabel scope X.env).names.lookup x = some .local := by rfl) (hj : X.N[k]? = some y := by rfl) (hy : (relabel scope X.env).names.lookup y = some .local := by rfl) (hc : X.calm = true := by rfl)
    (hw : ∀ v w, wipe (((wipe σ [j, k]).set j (some v)).set k (some w)) [j, k] = wipe σ [j, k] := by intro _ _; rfl) (hf : ∀ x, foldedSetIterable iter X.env x = pure x := by intro _; rfl) : EC T X (.ListComp elt [⟨.Tuple [.Name x p1, .Name y p2] z p3, iter, [c], 0⟩] scope pos) σ H Ro (xs.filter keep) :=
  have nd : X.N.Nodup := hN ▸ S.nd
  NewC.same (nc_lcP j k (keep := keep) hs hl nd (blkX S [(x, j), (y, k)] hN hsc hb) (fun a v w H' ha g hv hw s H C cl fp => ets_one (hk a v w H' ha g hv hw s H C cl fp)) (fun a v w H' D ls ha g hv hw hka hD s H C cl fp => EE.en (he a v w H' ha hka g hv hw s H C cl fp) hD trivial) (pgP j k nd hi hx hj hy hc) hc hw hf) rfl
/-- [elt for x in iter for y in iter1 ifs]; H' the heap without the new list -/
theorem ec_lcNN (j k : Nat) (S : FnScope N ps sc) {ifs : List Expr} [∀ a, Solid (R a)] {ys : α → List β} {Q : α → β → Pr T} {Ro : α → β → Pr T} [∀ a b, Solid (Ro a b)] {keep : α → β → Bool} (hs : Src T X (.Name x p1) iter σ H bNow xs R) (hl : (xs.flatMap ys).length ≤ 1000)
    (hs1 : ∀ a v H' H2, a ∈ xs → Gr T H H' → (R a).p v H' → Gr T H' H2 → ∀ s H C cl fp, Src T (bl X scope s H C cl fp) (.Name y p2) iter1 ((wipe σ [j, k]).set j (some v)) H2 (bOld H') (ys a) (Q a))
    (hk : ∀ a b v w H', a ∈ xs → b ∈ ys a → Gr T H H' → (R a).p v H' → (Q a b).p w H' → ∀ s H C cl fp, ETs T (bl X scope s H C cl fp) ifs ((wipe ((wipe σ [j, k]).set j (some v)) [k]).set k (some w)) H' (keep a b))
    (he : ∀ a b v w H', a ∈ xs → b ∈ ys a → keep a b = true → Gr T H H' → (R a).p v H' → (Q a b).p w H' → ∀ s H C cl fp, EE T (bl X scope s H C cl fp) elt ((wipe ((wipe σ [j, k]).set j (some v)) [k]).set k (some w)) H' (Ro a b))
    (hN : X.N = N := by rfl) (hsc : X.env.scope = sc := by rfl) (hb : blkC N sc scope [(x, j), (y, k)] = true := by decide +kernel) (hi : X.N[j]? = some x := by rfl) (hx : (relabel scope X.env).names.lookup x = some .local := by rfl) (hj : X.N[k]? = some y := by rfl) (hy : (relabel scope X.env).names.lookup y = some .local := by rfl) (hc : X.calm = true := by rfl)
    (hw : ∀ v, wipe ((wipe σ [j, k]).set j (some v)) [j, k] = wipe σ [j, k] := by intro _; rfl) (hw1 : ∀ v w, wipe ((wipe ((wipe σ [j, k]).set j (some v)) [k]).set k (some w)) [k] = wipe ((wipe σ [j, k]).set j (some v)) [k] := by intro _ _; rfl)
    (hf : ∀ x, foldedSetIterable iter X.env x = pure x := by intro _; rfl) (hf1 : ∀ env x, foldedSetIterable iter1 env x = pure x := by intro _ _; rfl) :
    EC T X (.ListComp elt [⟨.Name x p1, iter, [], 0⟩, ⟨.Name y p2, iter1, ifs, 0⟩] scope pos) σ H (fun ab : α × β => Ro ab.1 ab.2) (xs.flatMap fun a => ((ys a).filter (keep a)).map fun b => (a, b)) :=
  have nd : X.N.Nodup := hN ▸ S.nd
  NewC.same (nc_lc2_core (own := [(x, j), (y, k)]) (vs1 := [k]) (S := Q) (Ro := Ro) (Bd := BdN R j) (Bd1 := fun a b σ1 σ2 H' => ∃ v, σ2 = σ1.set k (some v) ∧ (Q a b).p v H') hs hl hc nd (blkX S [(x, j), (y, k)] hN hsc hb) (by simp) (pgN j nd hi hx) (fun a v σ' H' Q hv q => q _ ⟨v, rfl, hv⟩) (fun a σ2 H' ⟨v, e, _⟩ => by rw [e]; exact hw v)
    (fun a σ1 σ2 H' D ls hD ⟨v, e, hv⟩ => ⟨v, e, Solid.s _ _ _ _ hD trivial hv⟩) (fun a σ2 H' H2 ha g ⟨v, e, hv⟩ g2 => by rw [e]; exact hs1 a v H' H2 ha g hv g2)
    (pgN k nd hj hy) (fun a b v σ' H' Q hv q => q _ ⟨v, rfl, hv⟩) (fun a b σ2 σ3 H' H2 ⟨v, e, hv⟩ ⟨w, e2, hw⟩ => by rw [e2, e]; exact hw1 v w)
    (fun a b σ2 σ3 H' H2 ha hb g ⟨v, e, hv⟩ g2 ⟨w, e2, hw⟩ => by rw [e2, e]; exact hk a b v w H2 ha hb (g.trans g2) ((R a).st _ _ _ g2 hv) hw)
    (fun a b σ2 σ3 H' H2 H3 D ls ha hb g ⟨v, e, hv⟩ g2 ⟨w, e2, hw⟩ g3 hka hD s H C cl fp => by rw [e2, e]; exact EE.en (he a b v w H3 ha hb hka ((g.trans g2).trans g3) ((R a).st _ _ _ (g2.trans g3) hv) ((Q a b).st _ _ _ g3 hw) s H C cl fp) hD trivial) hf hf1) rfl
/-- .. for x, u in iter for y in iter1 -/
theorem ec_lcPN (j l k : Nat) (S : FnScope N ps sc) {ifs : List Expr} [∀ a, Solid (R1 a)] [∀ a, Solid (R2 a)] {ys : α → List β} {Q : α → β → Pr T} {Ro : α → β → Pr T} [∀ a b, Solid (Ro a b)] {keep : α → β → Bool} (hs : Src T X (.Tuple [.Name x p1, .Name u p3] z p4) iter σ H bNow xs (fun a => pairP X.K (R1 a) (R2 a))) (hl : (xs.flatMap ys).length ≤ 1000)
    (hs1 : ∀ a v v' H' H2, a ∈ xs → Gr T H H' → (R1 a).p v H' → (R2 a).p v' H' → Gr T H' H2 → ∀ s H C cl fp, Src T (bl X scope s H C cl fp) (.Name y p2) iter1 (((wipe σ [j, l, k]).set j (some v)).set l (some v')) H2 (bOld H') (ys a) (Q a))
    (hk : ∀ a b v v' w H', a ∈ xs → b ∈ ys a → Gr T H H' → (R1 a).p v H' → (R2 a).p v' H' → (Q a b).p w H' → ∀ s H C cl fp, ETs T (bl X scope s H C cl fp) ifs ((wipe (((wipe σ [j, l, k]).set j (some v)).set l (some v')) [k]).set k (some w)) H' (keep a b))
    (he : ∀ a b v v' w H', a ∈ xs → b ∈ ys a → keep a b = true → Gr T H H' → (R1 a).p v H' → (R2 a).p v' H' → (Q a b).p w H' → ∀ s H C cl fp, EE T (bl X scope s H C cl fp) elt ((wipe (((wipe σ [j, l, k]).set j (some v)).set l (some v')) [k]).set k (some w)) H' (Ro a b))
    (hN : X.N = N := by rfl) (hsc : X.env.scope = sc := by rfl) (hb : blkC N sc scope [(x, j), (u, l), (y, k)] = true := by decide +kernel) (hi : X.N[j]? = some x := by rfl) (hx : (relabel scope X.env).names.lookup x = some .local := by rfl) (hil : X.N[l]? = some u := by rfl) (hu : (relabel scope X.env).names.lookup u = some .local := by rfl) (hj : X.N[k]? = some y := by rfl) (hy : (relabel scope X.env).names.lookup y = some .local := by rfl) (hc : X.calm = true := by rfl)
    (hw : ∀ v v', wipe (((wipe σ [j, l, k]).set j (some v)).set l (some v')) [j, l, k] = wipe σ [j, l, k] := by intro _ _; rfl) (hw1 : ∀ v v' w, wipe ((wipe (((wipe σ [j, l, k]).set j (some v)).set l (some v')) [k]).set k (some w)) [k] = wipe (((wipe σ [j, l, k]).set j (some v)).set l (some v')) [k] := by intro _ _ _; rfl)
    (hf : ∀ x, foldedSetIterable iter X.env x = pure x := by intro _; rfl) (hf1 : ∀ env x, foldedSetIterable iter1 env x = pure x := by intro _ _; rfl) :
    EC T X (.ListComp elt [⟨.Tuple [.Name x p1, .Name u p3] z p4, iter, [], 0⟩, ⟨.Name y p2, iter1, ifs, 0⟩] scope pos) σ H (fun ab : α × β => Ro ab.1 ab.2) (xs.flatMap fun a => ((ys a).filter (keep a)).map fun b => (a, b)) :=
  have nd : X.N.Nodup := hN ▸ S.nd
  NewC.same (nc_lc2_core (own := [(x, j), (u, l), (y, k)]) (vs1 := [k]) (S := Q) (Ro := Ro) (Bd := BdP R1 R2 j l) (Bd1 := fun a b σ1 σ2 H' => ∃ v, σ2 = σ1.set k (some v) ∧ (Q a b).p v H') hs hl hc nd (blkX S [(x, j), (u, l), (y, k)] hN hsc hb) (by simp) (pgP j l nd hi hx hil hu hc) (fun a v σ' H' Q hv q => g_pair hv fun b c hb hc => q _ ⟨b, c, rfl, hb, hc⟩) (fun a σ2 H' ⟨v, v', e, _⟩ => by rw [e]; exact hw v v')
    (fun a σ1 σ2 H' D ls hD ⟨v, v', e, hv, hv'⟩ => ⟨v, v', e, Solid.s _ _ _ _ hD trivial hv, Solid.s _ _ _ _ hD trivial hv'⟩) (fun a σ2 H' H2 ha g ⟨v, v', e, hv, hv'⟩ g2 => by rw [e]; exact hs1 a v v' H' H2 ha g hv hv' g2)
    (pgN k nd hj hy) (fun a b v σ' H' Q hv q => q _ ⟨v, rfl, hv⟩) (fun a b σ2 σ3 H' H2 ⟨v, v', e, hv, hv'⟩ ⟨w, e2, hw⟩ => by rw [e2, e]; exact hw1 v v' w)
    (fun a b σ2 σ3 H' H2 ha hb g ⟨v, v', e, hv, hv'⟩ g2 ⟨w, e2, hw⟩ => by rw [e2, e]; exact hk a b v v' w H2 ha hb (g.trans g2) ((R1 a).st _ _ _ g2 hv) ((R2 a).st _ _ _ g2 hv') hw)
    (fun a b σ2 σ3 H' H2 H3 D ls ha hb g ⟨v, v', e, hv, hv'⟩ g2 ⟨w, e2, hw⟩ g3 hka hD s H C cl fp => by rw [e2, e]; exact EE.en (he a b v v' w H3 ha hb hka ((g.trans g2).trans g3) ((R1 a).st _ _ _ (g2.trans g3) hv) ((R2 a).st _ _ _ (g2.trans g3) hv') ((Q a b).st _ _ _ g3 hw) s H C cl fp) hD trivial) hf hf1) rfl
/-- .. for x in iter for y, u in iter1 -/
theorem ec_lcNP (j k l : Nat) (S : FnScope N ps sc) {ifs : List Expr} [∀ a, Solid (R a)] {ys : α → List β} {Q1 Q2 : α → β → Pr T} {Ro : α → β → Pr T} [∀ a b, Solid (Ro a b)] {keep : α → β → Bool} (hs : Src T X (.Name x p1) iter σ H bNow xs R) (hl : (xs.flatMap ys).length ≤ 1000)
    (hs1 : ∀ a v H' H2, a ∈ xs → Gr T H H' → (R a).p v H' → Gr T H' H2 → ∀ s H C cl fp, Src T (bl X scope s H C cl fp) (.Tuple [.Name y p2, .Name u p3] z p4) iter1 ((wipe σ [j, k, l]).set j (some v)) H2 (bOld H') (ys a) (fun b => pairP X.K (Q1 a b) (Q2 a b)))
    (hk : ∀ a b v w w' H', a ∈ xs → b ∈ ys a → Gr T H H' → (R a).p v H' → (Q1 a b).p w H' → (Q2 a b).p w' H' → ∀ s H C cl fp, ETs T (bl X scope s H C cl fp) ifs (((wipe ((wipe σ [j, k, l]).set j (some v)) [k, l]).set k (some w)).set l (some w')) H' (keep a b))
    (he : ∀ a b v w w' H', a ∈ xs → b ∈ ys a → keep a b = true → Gr T H H' → (R a).p v H' → (Q1 a b).p w H' → (Q2 a b).p w' H' → ∀ s H C cl fp, EE T (bl X scope s H C cl fp) elt (((wipe ((wipe σ [j, k, l]).set j (some v)) [k, l]).set k (some w)).set l (some w')) H' (Ro a b))
    (hN : X.N = N := by rfl) (hsc : X.env.scope = sc := by rfl) (hb : blkC N sc scope [(x, j), (y, k), (u, l)] = true := by decide +kernel) (hi : X.N[j]? = some x := by rfl) (hx : (relabel scope X.env).names.lookup x = some .local := by rfl) (hj : X.N[k]? = some y := by rfl) (hy : (relabel scope X.env).names.lookup y = some .local := by rfl) (hil : X.N[l]? = some u := by rfl) (hu : (relabel scope X.env).names.lookup u = some .local := by rfl) (hc : X.calm = true := by rfl)
    (hw : ∀ v, wipe ((wipe σ [j, k, l]).set j (some v)) [j, k, l] = wipe σ [j, k, l] := by intro _; rfl) (hw1 : ∀ v w w', wipe (((wipe ((wipe σ [j, k, l]).set j (some v)) [k, l]).set k (some w)).set l (some w')) [k, l] = wipe ((wipe σ [j, k, l]).set j (some v)) [k, l] := by intro _ _ _; rfl)
    (hf : ∀ x, foldedSetIterable iter X.env x = pure x := by intro _; rfl) (hf1 : ∀ env x, foldedSetIterable iter1 env x = pure x := by intro _ _; rfl) :
    EC T X (.ListComp elt [⟨.Name x p1, iter, [], 0⟩, ⟨.Tuple [.Name y p2, .Name u p3] z p4, iter1, ifs, 0⟩] scope pos) σ H (fun ab : α × β => Ro ab.1 ab.2) (xs.flatMap fun a => ((ys a).filter (keep a)).map fun b => (a, b)) :=
  have nd : X.N.Nodup := hN ▸ S.nd
  NewC.same (nc_lc2_core (own := [(x, j), (y, k), (u, l)]) (vs1 := [k, l]) (S := fun a b => pairP X.K (Q1 a b) (Q2 a b)) (Ro := Ro) (Bd := BdN R j) (Bd1 := fun a b σ1 σ2 H' => ∃ v v', σ2 = (σ1.set k (some v)).set l (some v') ∧ (Q1 a b).p v H' ∧ (Q2 a b).p v' H') hs hl hc nd (blkX S [(x, j), (y, k), (u, l)] hN hsc hb) (by simp) (pgN j nd hi hx) (fun a v σ' H' Q hv q => q _ ⟨v, rfl, hv⟩) (fun a σ2 H' ⟨v, e, _⟩ => by rw [e]; exact hw v)
    (fun a σ1 σ2 H' D ls hD ⟨v, e, hv⟩ => ⟨v, e, Solid.s _ _ _ _ hD trivial hv⟩) (fun a σ2 H' H2 ha g ⟨v, e, hv⟩ g2 => by rw [e]; exact hs1 a v H' H2 ha g hv g2)
    (pgP k l nd hj hy hil hu hc) (fun a b v σ' H' Q hv q => g_pair hv fun b c hb hc => q _ ⟨b, c, rfl, hb, hc⟩) (fun a b σ2 σ3 H' H2 ⟨v, e, hv⟩ ⟨w, w', e2, hw, _⟩ => by rw [e2, e]; exact hw1 v w w')
    (fun a b σ2 σ3 H' H2 ha hb g ⟨v, e, hv⟩ g2 ⟨w, w', e2, hw, hw'⟩ => by rw [e2, e]; exact hk a b v w w' H2 ha hb (g.trans g2) ((R a).st _ _ _ g2 hv) hw hw')
    (fun a b σ2 σ3 H' H2 H3 D ls ha hb g ⟨v, e, hv⟩ g2 ⟨w, w', e2, hw, hw'⟩ g3 hka hD s H C cl fp => by rw [e2, e]; exact EE.en (he a b v w w' H3 ha hb hka ((g.trans g2).trans g3) ((R a).st _ _ _ (g2.trans g3) hv) ((Q1 a b).st _ _ _ g3 hw) ((Q2 a b).st _ _ _ g3 hw') s H C cl fp) hD trivial) hf hf1) rfl
end
end Pan
set_option maxHeartbeats 1000000
/-! enumerate of a tuple. -/
namespace Pan
open PySem PySem.Spec PyProof.Rows L2
/-- the new cells of enumerate(v) -/
abbrev enC (h : Heap) (o : Obj) : Heap := (h.push o).push { cls := .type "enumerate", data := .fields #[.none, .bool false, .ref h.objs.size, rawInt 0, .none, .none] }
theorem enum1 {v : Value} {o : Obj} {G : Heap → Prop} (B : Begins v o G) : Meets (Builtin.«enumerate.__new__» ⟨[.type "enumerate", v], []⟩) (fun _ R s => G s.heap ∧ R (.ok (.ret (.ref (s.heap.push o).objs.size))) { s with heap := enC s.heap o }) :=
  .of_wp fun prog w A R s hh => by
    obtain ⟨h0, g0, d0, t0, o0⟩ := s
    obtain ⟨hG, hR⟩ := hh
    have sub := sub_enumerate
    have qi : ∀ {A2 : Around} {E2 Q2 : Value → Shared → Prop}, Q2 (.ref h0.objs.size) ⟨h0.push o, g0, d0, t0, o0⟩ → wpAny (model prog w) A2 (pyIter v) Q2 E2 ⟨h0, g0, d0, t0, o0⟩ := fun z => B.iter prog w _ _ ⟨h0, g0, d0, t0, o0⟩ _ hG z
    wp_walk using qi
    refine wpAny_stack_any fun _ => wpAny_pure ?_
    split
    · rename_i cc _ _ _ _ _
      cases hcc : (cc == Value.type "enumerate") <;> (wp_walk using qi; exact ⟨_, rfl, hR⟩)
    · wp_walk using qi
      exact ⟨_, rfl, hR⟩
theorem call_enumT {prog : Program} {w : World} {A : Around} {E : Value → Shared → Prop} {s : Shared} {a : Addr} {its : Array Value} {Q : Value → Shared → Prop} (ht : s.heap.IsTuple a its)
    (q : ∀ h', IsEnum h' (s.heap.objs.size + 1) s.heap.objs.size 0 .none → h'.IsTupleIter s.heap.objs.size a 0 → (∀ b o, s.heap.get? b = some o → h'.get? b = some o) → Q (.ref (s.heap.objs.size + 1)) { s with heap := h' }) :
    wpAny (model prog w) A (call (.type "enumerate") [.ref a]) Q E s := by
  refine callType_new F.called_enumerate (by decide) (F.typeCall_enumerate_1 _) (F.newCall_enumerate_1 _) (fun ob => F.args_object_init_2 ob _) F.entry_enumerate_new (enum1 (begins_tuple a its)) ⟨ht, ?_⟩
  generalize ho : ({ cls := .type "tuple_iterator", data := .fields #[.ref a, .int 0 0] } : Obj) = o
  have hf : o.isFreed = false := by rw [← ho]; rfl
  have sz : (s.heap.push o).objs.size = s.heap.objs.size + 1 := Heap.size_push ..
  show _ ∧ _
  rw [sz]
  have at1 : IsEnum (enC s.heap o) (s.heap.objs.size + 1) s.heap.objs.size 0 .none := by
    have z := Heap.get?_push_size (s.heap.push o) (o := { cls := .type "enumerate", data := .fields #[.none, .bool false, .ref s.heap.objs.size, rawInt 0, .none, .none] }) rfl
    rwa [sz] at z
  exact ⟨⟨_, at1, rfl⟩, q _ at1 ⟨o, Heap.get?_push_of_some _ (Heap.get?_push_size _ hf), by rw [← ho], by rw [← ho]; rfl⟩ fun b ob z => Heap.get?_push_of_some _ (Heap.get?_push_of_some _ z)⟩
/-- the tuple at a, each member in a new pair with its place -/
def ItEn (K : PySem.W.Frag) (a : Addr) : It :=
  ⟨fun i H => ∃ (xs : List V) (x : V), SqT K H a xs ∧ xs[i]? = some x, fun i H v H' => ∃ t x, v = .ref t ∧ H t = none ∧ H' = upd H t (.tup [.int (i : Nat), x]) ∧ ∀ xs, SqT K H a xs → xs[i]? = some x, fun i H => ∃ xs : List V, SqT K H a xs ∧ xs.length = i⟩
theorem turn_enT {P : Program} {w : World} {K : PySem.W.Frag} {elts : List Expr} {kk : Nat} {tpos : Pos} (a e it : Addr) :
    Turn P w K (.Tuple elts kk tpos) (ItEn K a) [e, it] e (fun i h => (∃ old, IsEnum h e it ((i : Nat) : Int) old) ∧ h.IsTupleIter it a i ∧ e ≠ it) where
  mem := List.mem_cons_self
  obj := by
    rintro i h ⟨⟨old, he⟩, ⟨o, ho, hc, hd⟩, _⟩ b hb
    rcases List.mem_cons.mp hb with rfl | hb
    · exact ⟨_, he, fun v z => nomatch z⟩
    · rw [List.mem_singleton.mp hb]
      exact ⟨o, ho, fun v z => by rw [hd] at z; cases z⟩
  keep := by
    rintro i h h' ⟨⟨old, he⟩, hi, hne⟩ k
    exact ⟨⟨old, k e (by simp) _ he⟩, hi.at fun o z => k it (by simp) o z, hne⟩
  item := by
    intro X hP hw hK hc i pins s σ H E I hf st hg
    subst hP hw hK
    obtain ⟨⟨old, he⟩, hit, hne⟩ := st
    obtain ⟨xs, x, hq, hx⟩ := hg
    obtain ⟨its, rv, p, hz⟩ := I.tuple hq
    obtain ⟨u, hu, ru⟩ := rv.get hx
    have hel : e < s.heap.objs.size := Heap.lt_size he
    have hil : it < s.heap.objs.size := by obtain ⟨_, z, _⟩ := hit; exact Heap.lt_size z
    have ae : e ≠ a := fun z => by
      obtain ⟨o, ho, hcl, _⟩ := p
      rw [← z, he] at ho
      rw [← Option.some.inj ho] at hcl
      exact absurd (Value.type.inj hcl) (by decide)
    have ai : a ≠ it := fun z => by
      obtain ⟨o, ho, hcl, _⟩ := p
      obtain ⟨o2, ho2, hc2, _⟩ := hit
      rw [z, ho2] at ho
      rw [← Option.some.inj ho, hc2] at hcl
      exact absurd (Value.type.inj hcl) (by decide)
    have D := Draws.tuple (prog := X.prog) (w := X.w) (A := X.A.in1) (I.ok.hd hc) it a ai its.toArray
    have hi : i < its.toArray.size := by
      rcases Nat.lt_or_ge i its.length with z | z
      · simpa using z
      · rw [List.getElem?_eq_none z] at hu
        exact nomatch hu
    refine wpAny_pyNext_enum_itemC D he ⟨hit, p⟩ hi hne (by simp [hne, ae]) fun y h' tk hy ho hst hT hsz hk => ?_
    obtain rfl : y = u := by
      have : its[i]? = some y := by simpa using hy
      rw [hu] at this
      exact (Option.some.inj this).symm
    refine ⟨_, rfl, wpAny_letOwnedTupleGo_enum (s := { s with heap := h', toks := tk + 1 }) ho fun h'' he' sb => ?_⟩
    have hT2 : h''.get? s.heap.objs.size = some { cls := .type "tuple", data := .seq #[.int i tk, y] } := (sb.2 _ (Nat.ne_of_gt hel)).trans hT
    have isnew : ObjOk X.prog X.w (upd H s.heap.objs.size (.tup [.int (i : Nat), x])) h'' s.heap.objs.size (.tup [.int (i : Nat), x]) :=
      ⟨by show 2 ≤ sizeLine; decide, [.int i tk, y], .cons ⟨_, rfl⟩ (.cons ru .nil), ⟨_, hT2, rfl, _, rfl⟩⟩
    have I1 : Inv X pins σ (upd H s.heap.objs.size (.tup [.int (i : Nat), x])) { s with heap := h'', toks := tk + 1 } :=
      I.turnedNew (ch := [e, it]) (fun b ob hb z => (sb.2 b (fun y => hb (by simp [y]))).trans (hk b ob (fun y => hb (by simp [y])) (fun y => hb (by simp [y])) z)) hf (Nat.le_refl _) isnew
    refine ⟨.ref s.heap.objs.size, _, I1, rfl, ⟨_, x, rfl, I.hok.fresh (Nat.le_refl _), rfl, fun ys hy => ?_⟩, ⟨⟨y, ?_⟩, hst.1.at fun o z => (sb.2 it (Ne.symm hne)).trans z, hne⟩, fun b hb => ?_⟩
    · rw [I.tuple_inj hy hq]
      exact hx
    · have e1 : ((i + 1 : Nat) : Int) = (i : Int) + 1 := by omega
      rw [e1]
      exact he'
    · have hb' : b < s.heap.objs.size := by
        rcases List.mem_cons.mp hb with z | z
        · rw [z]; exact hel
        · rw [List.mem_singleton.mp z]; exact hil
      rw [upd_ne (Nat.ne_of_lt hb')]
      exact (hf b hb).1
  done := by
    intro X hP hw hK hc i pins s σ H E I hf st hg
    subst hP hw hK
    obtain ⟨⟨old, he⟩, hit, hne⟩ := st
    obtain ⟨xs, hq, hx⟩ := hg
    obtain ⟨its, rv, p, hz⟩ := I.tuple hq
    obtain ⟨f0, f1, f2, f3, f4, f5⟩ := hf it (by simp)
    have ai : a ≠ it := fun z => by
      obtain ⟨o, ho, hcl, _⟩ := p
      obtain ⟨o2, ho2, hc2, _⟩ := hit
      rw [z, ho2] at ho
      rw [← Option.some.inj ho, hc2] at hcl
      exact absurd (Value.type.inj hcl) (by decide)
    have D := Draws.tuple (prog := X.prog) (w := X.w) (A := X.A.in1) (I.ok.hd hc) it a ai its.toArray
    have e0 : i = its.toArray.size := by
      have := rv.length
      simp
      omega
    refine wpAny_pyNext_enum_endD D he (e0 ▸ ⟨hit, p⟩) fun h' eb => ⟨rfl, I.turned (t' := s.toks) (fun b o hb q => eb b o hb q) f0 f1 f3 f4 f5⟩
  self := fun A i s Q E st h => let ⟨⟨_, he⟩, _⟩ := st; wpAny_pyIter_enum he h
def iEnT (K : PySem.W.Frag) (ta : TA) : TI := fun σ H R => ta σ H fun vs H1 => ∃ a xs, vs = [.ref a] ∧ SqT K H1 a xs ∧ R (ItEn K a) H1
theorem pi_enT {X : Cx} {e : Expr} {ta : TA} {p pos tpos : Pos} {elts : List Expr} {kk : Nat} (hg : Gl X "enumerate") (hm : X.mg "enumerate" = none) (ha : PA X [e] ta) (hs : starEach [e] X.env = [(false, eval e X.env)]) : PI X (.Tuple elts kk tpos) (.Call (.Name "enumerate" p) [e] [] pos) (iEnT X.K ta) := by
  refine ⟨fun pins s σ H R I h => Call_ (ld_blt I hg hm boot_enumerate (PyProof.Rows.callWith_type1 (thn (ha.run pos pins s σ H _ I h) fun us s1 ⟨vs, H1, I1, r1, q1⟩ => ?_) hs rfl))⟩
  obtain ⟨a, xs, rfl, hq, q⟩ := q1
  obtain ⟨u, rfl, ru⟩ := r1.one
  cases (show u = Value.ref a from ru)
  obtain ⟨its, rv, p', hz⟩ := I1.tuple hq
  refine call_enumT p' fun h' he hit hk => wpAny_pyIter_enum he ?_
  have I2 : Inv X pins σ H1 { s1 with heap := h' } := I1.kept (t' := s1.toks) hk
  refine ⟨s1.heap.objs.size + 1, [s1.heap.objs.size + 1, s1.heap.objs.size], _, _, H1, rfl, I2, turn_enT a (s1.heap.objs.size + 1) s1.heap.objs.size, ⟨⟨.none, he⟩, hit, Nat.succ_ne_self _⟩, fun b hb => ?_, q⟩
  have le : s1.heap.objs.size ≤ b := by
    rcases List.mem_cons.mp hb with z | z
    · rw [z]; exact Nat.le_add_right _ _
    · rw [List.mem_singleton.mp z]; exact Nat.le_refl _
  exact I1.fpOk le (I1.hok.fresh le)
theorem walk_enT {K : PySem.W.Frag} {a : Addr} {xs : List V} : Walk (ItEn K a) xs.length (fun H => SqT K H a xs) (YPair (fun i => some (.int (i : Nat))) (fun i => xs[i]?)) :=
  ⟨fun i _ hi q => ⟨xs, xs[i], q, by simp [hi]⟩, fun _ q => ⟨xs, q, rfl⟩, fun i H v H' _ q ⟨t, x, h1, h2, h3, h4⟩ => ⟨t, .int (i : Nat), x, h1, h2, h3, rfl, h4 xs q⟩⟩
section
variable {T : List (Addr × Str)} {X : Cx} {e a b tg iter : Expr} {σ : L2.St} {H H0 : Hp} {pos p1 p2 : Pos} {α β : Type} {R : α → Pr T} {S : β → Pr T} {xs : List α} {ys : List β} {v w : V}
theorem src_enumT {z : Nat} {elts : List Expr} (hm : X.mg "enumerate" = none) (h : EE T X a σ H (tupP X.K R xs)) (hg : Gl X "enumerate" := by rfl) (hs : starEach [a] X.env = (false, eval a X.env) :: starEach [] X.env := by rfl) :
    Src T X (.Tuple elts z p2) (.Call (.Name "enumerate" p1) [a] [] pos) σ H bNow xs.zipIdx (fun xi => pairP X.K (intP (xi.2 : Int)) (R xi.1)) :=
  Src.of (pi_enT hg hm (ea_cons h ea_nil hs) hs) fun H1 g Rr r => ⟨rfl, g, fun vs H2 g2 hv => by
    obtain ⟨v, e1, l, us, e2, h1, h2⟩ := sat1 hv
    refine ⟨l, us, by rw [e1, e2], h1, r _ H2 H2 g2 rfl ?_⟩
    rw [List.length_zipIdx, ← h2.length]
    refine walk_enT.mono (fun H' g' => g'.sqT h1) fun i H' v H3 hi g' ⟨t, x, y, e3, e4, e5, e6, e7⟩ => ?_
    have g3 : Gr T H' H3 := by rw [e5]; exact .new e4
    obtain ⟨y', hy, hR⟩ := h2.get e7
    exact ⟨g3, (y', i), zipIdx_at hy, t, x, y, e3, .of (by rw [e5]; exact upd_same), (Option.some.inj e6).symm, (R y').st _ _ _ (g'.trans g3) hR⟩⟩
/-- a tuple, two tuples that are known at the heap H0 -/
theorem src_tupB (h : EE T X iter σ H (eqP v)) (g0 : Gr T H0 H) (hv : (tupP X.K R xs).p v H0) : Src T X tg iter σ H (bOld H0) xs R :=
  Src.of (pi_tup h) fun H1 g Rr r => ⟨rfl, g, fun v' H2 g2 e1 => by
    obtain ⟨l, vs, e2, h1, h2⟩ := hv
    refine ⟨l, (show v' = v from e1).trans e2, ⟨vs, ((g0.trans g).trans g2).sqT h1⟩, r _ H2 H0 g2 rfl ?_⟩
    rw [← h2.length]
    exact walk_tup.mono (fun H' g' => g'.sqT h1) fun i H' v H3 hi g' ⟨e3, hv⟩ => by
      rw [e3]
      obtain ⟨x, hx, hR⟩ := h2.get hv
      exact ⟨.refl _, x, hx, (R x).st _ _ _ g' hR⟩⟩
theorem src_listP (h : EE T X iter σ H (eqP v)) (g0 : Gr T H0 H) (hv : (lstP X.K R xs).p v H0) : Src T X tg iter σ H (bOld H0) xs R := by
  obtain ⟨l, vs, rfl, h1, h2⟩ := hv
  exact src_listB h g0 h1 h2
theorem src_zipTB {z : Nat} {elts : List Expr} (hm : X.mg "zip" = none) (h : EE T X a σ H (eqP v)) (h' : EE T X b σ H (eqP w)) (g0 : Gr T H0 H) (hv : (tupP X.K R xs).p v H0) (hw : (tupP X.K S ys).p w H0) (hg : Gl X "zip" := by rfl) (hs : starEach [a, b] X.env = (false, eval a X.env) :: starEach [b] X.env := by rfl)
    (hs2 : starEach [b] X.env = (false, eval b X.env) :: starEach [] X.env := by rfl) (hpl : (backTo pos (starEach [b] X.env)).any (·.1) = false := by rfl) :
    Src T X (.Tuple elts z p2) (.Call (.Name "zip" p1) [a, b] [] pos) σ H (bOld H0) (xs.zip ys) (fun xy => pairP X.K (R xy.1) (S xy.2)) :=
  Src.of (RZ.pi_zipA hg hm (ea_cons h (ea_cons h' ea_nil hs2) hs) hs hpl) fun H1 g Rr r => ⟨rfl, g, fun vs H2 g2 hvs => by
    obtain ⟨v', w', e1, e3, e3'⟩ := sat2 hvs
    obtain ⟨l, us, e2, h1, h2⟩ := hv
    obtain ⟨l', us', e2', h1', h2'⟩ := hw
    refine ⟨l, l', us, us', by rw [e1, show v' = v from e3, show w' = w from e3', e2, e2'], .inr ⟨((g0.trans g).trans g2).sqT h1, ((g0.trans g).trans g2).sqT h1', r _ H2 H0 g2 rfl ?_⟩⟩
    refine (walk_zipT (by rw [List.length_zip, h2.length, h2'.length])).mono (fun H' g' => ⟨g'.sqT h1, g'.sqT h1'⟩) fun i H' v H3 hi g' ⟨t, x, y, e3, e4, e5, e6, e7⟩ => ?_
    have g3 : Gr T H' H3 := by rw [e5]; exact .new e4
    obtain ⟨x', hx, hR⟩ := h2.get e6
    obtain ⟨y', hy, hS⟩ := h2'.get e7
    exact ⟨g3, (x', y'), zip_at hx hy, t, x, y, e3, .of (by rw [e5]; exact upd_same), (R x').st _ _ _ (g'.trans g3) hR, (S y').st _ _ _ (g'.trans g3) hS⟩⟩
end
end Pan
set_option maxHeartbeats 1000000
namespace Pan
open PySem PySem.Spec PyProof.Rows L2
/-! ### fractions -/
def low (t b : Int) : Int × Int := ((if b < 0 then -1 else 1) * t / (Int.gcd t b : Int), (if b < 0 then -1 else 1) * b / (Int.gcd t b : Int))
def Sm (q : Int × Int) : Prop := (-16384 < q.1 ∧ q.1 < 16384) ∧ 0 < q.2 ∧ q.2 < 16384
instance (q : Int × Int) : Decidable (Sm q) := inferInstanceAs (Decidable (_ ∧ _))
def plusM (p q : Int × Int) : Int × Int := low (p.1 * q.2 + q.1 * p.2) (p.2 * q.2)
def minusM (p q : Int × Int) : Int × Int := low (p.1 * q.2 - q.1 * p.2) (p.2 * q.2)
def timesM (p q : Int × Int) : Int × Int := low (p.1 * q.1) (p.2 * q.2)
def overM (p q : Int × Int) : Int × Int := low (p.1 * q.2) (p.2 * q.1)
def lessM (p q : Int × Int) : Bool := decide (p.1 * q.2 < q.1 * p.2)
section
variable {T : List (Addr × Str)} {P : Program} {w : World} {K : PySem.W.Frag} {mg : Str → Option Value} {base : Heap}
def spLowest (T : List (Addr × Str)) (K : PySem.W.Frag) : Sp := prom T (fun a : Int × Int => a.2 ≠ 0 ∧ a.2.natAbs < 1073741824) (fun a => [intP a.1, intP a.2]) fun a => frP K (low a.1 a.2)
theorem scLowest : FnScope ["top", "bottom", "one", "other", "sign"] ["top", "bottom"] (defScope (top 9)) := ⟨rfl, rfl, rfl, by decide +kernel, rfl, by decide +kernel, by decide +kernel⟩
theorem sat_fr {H : Hp} {vs : List V} {i j : Int} {p : Addr} (h : Sat (T := T) [intP i, intP j] vs H) (hp : H p = some (.tup vs)) : (itP (T := T) K [i, j]).p (.ref p) H := by
  obtain ⟨v, w, e, h1, h2⟩ := sat2 h
  exact ⟨p, vs, rfl, SqT.of hp, by rw [e]; exact ⟨h1, h2, trivial⟩⟩
theorem ok_lowest (W : Wd K mg) : FnR P w K mg base CX0 1 (He.ga K "lowest") (spLowest T K) := by
  obtain ⟨fd, F⟩ := W.d_g_lowest
  have b : Binds K fd ["top", "bottom"] [] := F.bindsN fun _ _ _ _ _ _ us hl => match us, hl with | [_, _], _ => rfl
  refine fn_prom F scLowest b (fun _ => rfl) fun cdv A outer s H vs E a D hr ⟨h0, hz⟩ hs q _ => ?_
  obtain ⟨v, u, rfl, rfl, rfl⟩ := sat2 hs
  refine ss_par 2 3 (ee_abs W.f_abs (ee_var 0 rfl rfl)) (ee_abs W.f_abs (ee_var 1 rfl rfl)) scLowest.nd fun v w H1 g1 h1 h2 => ?_
  obtain rfl := h1
  obtain rfl := h2
  refine ss_while (fun m σ' H' => Gr T H H' ∧ ∃ x y : Nat, σ' = [some (.int a.1), some (.int a.2), some (.int x), some (.int y), none] ∧ m = y ∧ Nat.gcd x y = Int.gcd a.1 a.2) a.2.natAbs ⟨g1, a.1.natAbs, a.2.natAbs, ?_, rfl, rfl⟩ PassesOwn.never ?_
  · have e : ∀ z : Int, (if z < 0 then -z else z) = (z.natAbs : Int) := fun z => by split <;> omega
    rw [e, e]
    rfl
  · rintro m σ' H' ⟨g, x, y, rfl, em, e⟩
    subst em
    refine ⟨!decide (V.int m = V.int 0), et_neS rfl (ee_var 3 rfl rfl) ee_int, fun h H2 g2 => ?_, fun h H2 g2 => ?_⟩
    · have hy : 0 < m := by
        rcases Nat.eq_zero_or_pos m with z | z
        · rw [z] at h
          simp at h
        · exact z
      refine ss_par 2 3 (ee_v 3 rfl) (ee_mod (by omega) (ee_var 2 rfl rfl) (ee_var 3 rfl rfl)) scLowest.nd fun v w H3 g3 h1 h2 => ?_
      obtain rfl := h1
      obtain rfl := h2
      refine ss_nil ⟨x % m, Nat.mod_lt _ hy, (g.trans g2).trans g3, m, x % m, rfl, rfl, ?_⟩
      rw [← e, Nat.gcd_comm x m, Nat.gcd_rec m x, Nat.gcd_comm]
    · have hy : m = 0 := by
        have h' : V.int (m : Int) = V.int 0 := by simpa using h
        injection h' with h'
        omega
      subst hy
      rw [Nat.gcd_zero_right] at e
      have hg : 0 < x ∧ x < 1073741824 := by
        rw [e]
        have k1 := Int.gcd_pos_iff.mpr (.inr h0 : a.1 ≠ 0 ∨ a.2 ≠ 0)
        have k2 : Int.gcd a.1 a.2 ≤ a.2.natAbs := Nat.le_of_dvd (by omega) (Nat.gcd_dvd_right _ _)
        omega
      refine ss_set 4 (ee_if (P := intP (if a.2 < 0 then -1 else 1)) (et_lt (ee_var 1 rfl rfl) ee_int) (fun h => ?_) (fun h => ?_)) scLowest.nd fun v H3 g3 h1 => ?_
      · rw [if_pos (of_decide_eq_true h)]
        exact ee_neg ee_int
      · rw [if_neg (of_decide_eq_false h)]
        exact ee_int
      · obtain rfl := h1
        have hc : CMul (if a.2 < 0 then -1 else 1) a.1 := .inl (by split <;> omega)
        have hc2 : CMul (if a.2 < 0 then -1 else 1) a.2 := .inl (by split <;> omega)
        refine ss_ret (ee_tup (P := frP K (low a.1 a.2)) (ea_cons (ee_div ⟨by omega, by omega⟩ (ee_mul hc (ee_var 4 rfl rfl) (ee_var 0 rfl rfl)) (ee_var 2 rfl rfl)) (ea_cons (ee_div ⟨by omega, by omega⟩ (ee_mul hc2 (ee_var 4 rfl rfl) (ee_var 1 rfl rfl)) (ee_var 2 rfl rfl)) ea_nil)) fun vs H1 p _ hs hp => ?_) fun v H4 g4 hv => q v H4 (((g.trans g2).trans g3).trans g4) hv
        have z := sat_fr (K := K) hs hp
        rw [e] at z
        exact z
abbrev ok2 : (Int × Int) × (Int × Int) → Prop := fun a => Sm a.1 ∧ Sm a.2
abbrev ps2 (T : List (Addr × Str)) (K : PySem.W.Frag) : (Int × Int) × (Int × Int) → List (Pr T) := fun a => [frP K a.1, frP K a.2]
def spPlus (T : List (Addr × Str)) (K : PySem.W.Frag) : Sp := prom T ok2 (ps2 T K) fun a => frP K (plusM a.1 a.2)
def spMinus (T : List (Addr × Str)) (K : PySem.W.Frag) : Sp := prom T ok2 (ps2 T K) fun a => frP K (minusM a.1 a.2)
def spTimes (T : List (Addr × Str)) (K : PySem.W.Frag) : Sp := prom T ok2 (ps2 T K) fun a => frP K (timesM a.1 a.2)
def spOver (T : List (Addr × Str)) (K : PySem.W.Frag) : Sp := prom T (fun a : (Int × Int) × (Int × Int) => ok2 a ∧ a.2.1 ≠ 0) (ps2 T K) fun a => frP K (overM a.1 a.2)
def spLess (T : List (Addr × Str)) (K : PySem.W.Frag) : Sp := prom T ok2 (ps2 T K) fun a => eqP (.bl (lessM a.1 a.2))
theorem ix0 {X : Cx} {a : Expr} {σ : L2.St} {H : Hp} {pos p2 : Pos} {z : Nat} {q : Int × Int} (h : EE T X a σ H (frP X.K q)) : EE T X (.Subscript a (.Constant (.int 0) z p2) pos) σ H (intP q.1) := ee_ixT 0 rfl h ee_int
theorem ix1 {X : Cx} {a : Expr} {σ : L2.St} {H : Hp} {pos p2 : Pos} {z : Nat} {q : Int × Int} (h : EE T X a σ H (frP X.K q)) : EE T X (.Subscript a (.Constant (.int 1) z p2) pos) σ H (intP q.2) := ee_ixT 1 rfl h ee_int
theorem cm {i j : Int} (h : -16384 < i ∧ i < 16384) : CMul i j := .inl (by omega)
theorem sm_mul {i j : Int} (h : -16384 < i ∧ i < 16384) (h' : -16384 < j ∧ j < 16384) : -268435456 < i * j ∧ i * j < 268435456 := by
  have h1 := Int.natAbs_mul i j
  have h2 : i.natAbs ≤ 16383 := by omega
  have h3 : j.natAbs ≤ 16383 := by omega
  have h4 := Nat.mul_le_mul h2 h3
  omega
theorem den {p q : Int × Int} (hp : Sm p) (hq : Sm q) : p.2 * q.2 ≠ 0 ∧ (p.2 * q.2).natAbs < 1073741824 := by
  have h1 := sm_mul (i := p.2) (j := q.2) (by have := hp.2; omega) (by have := hq.2; omega)
  have h2 := Int.mul_pos hp.2.1 hq.2.1
  omega
theorem sc2_plus : FnScope ["one", "other"] ["one", "other"] (defScope (top 10)) := ⟨rfl, rfl, rfl, by decide +kernel, rfl, by decide +kernel, by decide +kernel⟩
theorem sc2_minus : FnScope ["one", "other"] ["one", "other"] (defScope (top 11)) := ⟨rfl, rfl, rfl, by decide +kernel, rfl, by decide +kernel, by decide +kernel⟩
theorem sc2_times : FnScope ["one", "other"] ["one", "other"] (defScope (top 12)) := ⟨rfl, rfl, rfl, by decide +kernel, rfl, by decide +kernel, by decide +kernel⟩
theorem sc2_over : FnScope ["one", "other"] ["one", "other"] (defScope (top 13)) := ⟨rfl, rfl, rfl, by decide +kernel, rfl, by decide +kernel, by decide +kernel⟩
theorem sc2_less : FnScope ["one", "other"] ["one", "other"] (defScope (top 14)) := ⟨rfl, rfl, rfl, by decide +kernel, rfl, by decide +kernel, by decide +kernel⟩
theorem Sm.a {p : Int × Int} (h : Sm p) : -16384 < p.1 ∧ p.1 < 16384 := h.1
theorem Sm.b {p : Int × Int} (h : Sm p) : -16384 < p.2 ∧ p.2 < 16384 := by have := h.2; omega
theorem ok_plus (W : Wd K mg) : FnR P w K mg base CX0 2 (He.ga K "plus") (spPlus T K) := by
  obtain ⟨fd, F⟩ := W.d_g_plus
  have b : Binds K fd ["one", "other"] [] := F.bindsN fun _ _ _ _ _ _ us hl => match us, hl with | [_, _], _ => rfl
  refine fn_prom F sc2_plus b (fun _ => rfl) fun cdv A outer s H vs E a D hr ⟨hp, hq⟩ hs q _ => ?_
  obtain ⟨v, u, rfl, h1, h2⟩ := sat2 hs
  have L := ok_lowest (T := T) (P := P) (w := w) (base := base) W
  refine ss_ret (ee_call L W.g_lowest.mg W.g_lowest.kp hr (a.1.1 * a.2.2 + a.2.1 * a.1.2, a.1.2 * a.2.2) (den hp hq) (ea_cons (ee_add (ee_mul (cm hp.a) (ix0 (ee_var 0 rfl h1)) (ix1 (ee_var 1 rfl h2))) (ee_mul (cm hq.a) (ix0 (ee_var 1 rfl h2)) (ix1 (ee_var 0 rfl h1)))) (ea_cons (ee_mul (cm hp.b) (ix1 (ee_var 0 rfl h1)) (ix1 (ee_var 1 rfl h2))) ea_nil))) fun v H1 g hv => q v H1 g hv
theorem ok_minus (W : Wd K mg) : FnR P w K mg base CX0 2 (He.ga K "minus") (spMinus T K) := by
  obtain ⟨fd, F⟩ := W.d_g_minus
  have b : Binds K fd ["one", "other"] [] := F.bindsN fun _ _ _ _ _ _ us hl => match us, hl with | [_, _], _ => rfl
  refine fn_prom F sc2_minus b (fun _ => rfl) fun cdv A outer s H vs E a D hr ⟨hp, hq⟩ hs q _ => ?_
  obtain ⟨v, u, rfl, h1, h2⟩ := sat2 hs
  have L := ok_lowest (T := T) (P := P) (w := w) (base := base) W
  refine ss_ret (ee_call L W.g_lowest.mg W.g_lowest.kp hr (a.1.1 * a.2.2 - a.2.1 * a.1.2, a.1.2 * a.2.2) (den hp hq) (ea_cons (ee_sub (ee_mul (cm hp.a) (ix0 (ee_var 0 rfl h1)) (ix1 (ee_var 1 rfl h2))) (ee_mul (cm hq.a) (ix0 (ee_var 1 rfl h2)) (ix1 (ee_var 0 rfl h1)))) (ea_cons (ee_mul (cm hp.b) (ix1 (ee_var 0 rfl h1)) (ix1 (ee_var 1 rfl h2))) ea_nil))) fun v H1 g hv => q v H1 g hv
theorem ok_times (W : Wd K mg) : FnR P w K mg base CX0 2 (He.ga K "times") (spTimes T K) := by
  obtain ⟨fd, F⟩ := W.d_g_times
  have b : Binds K fd ["one", "other"] [] := F.bindsN fun _ _ _ _ _ _ us hl => match us, hl with | [_, _], _ => rfl
  refine fn_prom F sc2_times b (fun _ => rfl) fun cdv A outer s H vs E a D hr ⟨hp, hq⟩ hs q _ => ?_
  obtain ⟨v, u, rfl, h1, h2⟩ := sat2 hs
  have L := ok_lowest (T := T) (P := P) (w := w) (base := base) W
  refine ss_ret (ee_call L W.g_lowest.mg W.g_lowest.kp hr (a.1.1 * a.2.1, a.1.2 * a.2.2) (den hp hq) (ea_cons (ee_mul (cm hp.a) (ix0 (ee_var 0 rfl h1)) (ix0 (ee_var 1 rfl h2))) (ea_cons (ee_mul (cm hp.b) (ix1 (ee_var 0 rfl h1)) (ix1 (ee_var 1 rfl h2))) ea_nil))) fun v H1 g hv => q v H1 g hv
theorem ok_over (W : Wd K mg) : FnR P w K mg base CX0 2 (He.ga K "over") (spOver T K) := by
  obtain ⟨fd, F⟩ := W.d_g_over
  have b : Binds K fd ["one", "other"] [] := F.bindsN fun _ _ _ _ _ _ us hl => match us, hl with | [_, _], _ => rfl
  refine fn_prom F sc2_over b (fun _ => rfl) fun cdv A outer s H vs E a D hr ⟨⟨hp, hq⟩, h0⟩ hs q _ => ?_
  obtain ⟨v, u, rfl, h1, h2⟩ := sat2 hs
  have L := ok_lowest (T := T) (P := P) (w := w) (base := base) W
  have hd : a.1.2 * a.2.1 ≠ 0 ∧ (a.1.2 * a.2.1).natAbs < 1073741824 := by
    have k1 := sm_mul hp.b hq.a
    have k2 := Int.mul_ne_zero (a := a.1.2) (b := a.2.1) (by have := hp.2; omega) h0
    omega
  refine ss_ret (ee_call L W.g_lowest.mg W.g_lowest.kp hr (a.1.1 * a.2.2, a.1.2 * a.2.1) hd (ea_cons (ee_mul (cm hp.a) (ix0 (ee_var 0 rfl h1)) (ix1 (ee_var 1 rfl h2))) (ea_cons (ee_mul (cm hp.b) (ix1 (ee_var 0 rfl h1)) (ix0 (ee_var 1 rfl h2))) ea_nil))) fun v H1 g hv => q v H1 g hv
theorem ok_less (W : Wd K mg) : FnR P w K mg base CX0 1 (He.ga K "is_less") (spLess T K) := by
  obtain ⟨fd, F⟩ := W.d_g_is_less
  have b : Binds K fd ["one", "other"] [] := F.bindsN fun _ _ _ _ _ _ us hl => match us, hl with | [_, _], _ => rfl
  refine fn_prom F sc2_less b (fun _ => rfl) fun cdv A outer s H vs E a D hr ⟨hp, hq⟩ hs q _ => ?_
  obtain ⟨v, u, rfl, h1, h2⟩ := sat2 hs
  refine ss_ret (ee_lt (ee_mul (cm hp.a) (ix0 (ee_var 0 rfl h1)) (ix1 (ee_var 1 rfl h2))) (ee_mul (cm hq.a) (ix0 (ee_var 1 rfl h2)) (ix1 (ee_var 0 rfl h1)))) fun v H1 g hv => q v H1 g hv
/-! ### total -/
def totalM (ps : List (Int × Int)) : Int × Int := ps.foldl plusM (0, 1)
/-- the numbers stay small -/
def okTotal : Int × Int → List (Int × Int) → Prop
  | q, [] => True
  | q, p :: ps => Sm q ∧ Sm p ∧ okTotal (plusM q p) ps
instance : ∀ (q : Int × Int) (ps : List (Int × Int)), Decidable (okTotal q ps)
  | q, [] => isTrue trivial
  | q, p :: ps => by
    unfold okTotal
    have := instDecidableOkTotal (plusM q p) ps
    exact inferInstance
theorem okTotal_at : ∀ {q : Int × Int} {ps : List (Int × Int)} {i : Nat} {p : Int × Int}, okTotal q ps → ps[i]? = some p → Sm ((ps.take i).foldl plusM q) ∧ Sm p
  | q, [], i, p, _, e => by simp at e
  | q, x :: ps, 0, p, h, e => by
    obtain rfl : x = p := Option.some.inj e
    exact ⟨h.1, h.2.1⟩
  | q, x :: ps, i + 1, p, h, e => okTotal_at (q := plusM q x) (ps := ps) (i := i) h.2.2 e
def spTotal (T : List (Addr × Str)) (K : PySem.W.Frag) : Sp := prom T (fun ps : List (Int × Int) => okTotal (0, 1) ps) (fun ps => [lstP K (frP K) ps]) fun ps => frP K (totalM ps)
theorem relRef {a : Addr} : RelV (.ref a) (.ref a) := rfl
theorem scTotal : FnScope ["some", "found", "one"] ["some"] (defScope (top 15)) := ⟨rfl, rfl, rfl, by decide +kernel, rfl, by decide +kernel, by decide +kernel⟩
theorem NONEp (W : Wd K mg) (H : Hp) : (frP (T := T) K (0, 1)).p (.ref (He.ga K "NONE")) H := ⟨_, _, rfl, W.NONE_ H, rfl, rfl, trivial⟩
theorem ONEp (W : Wd K mg) (H : Hp) : (frP (T := T) K (1, 1)).p (.ref (He.ga K "ONE")) H := ⟨_, _, rfl, W.ONE_ H, rfl, rfl, trivial⟩
theorem ok_total (W : Wd K mg) : FnR P w K mg base CX0 3 (He.ga K "total") (spTotal T K) := by
  obtain ⟨fd, F⟩ := W.d_g_total
  have b : Binds K fd ["some"] [] := F.bindsN fun _ _ _ _ _ _ us hl => match us, hl with | [_], _ => rfl
  refine fn_prom F scTotal b (fun _ => rfl) fun cdv A outer s H vs E a D hr hok hs q _ => ?_
  obtain ⟨v, rfl, h1⟩ := sat1 hs
  have L := ok_plus (T := T) (P := P) (w := w) (base := base) W
  refine ss_set 1 (ee_glob W.mg_NONE relRef (NONEp W _)) scTotal.nd fun u H1 g1 h2 => ?_
  refine ss_for 2 (src_list (ee_var 0 rfl ((lstP K (frP K) a).st _ _ _ g1 h1))) PassesOwn.never scTotal.nd (fun i σ' H' => ∃ w x, σ' = [some v, some w, x] ∧ (frP K (totalM (a.take i))).p w H') (fun H2 g => ⟨u, none, rfl, (frP K (0, 1)).st _ _ _ g h2⟩) ?_ ?_
  · rintro i y x σ' H' H3 hy ⟨w', x', rfl, hw⟩ g2 g3 hx
    obtain ⟨k1, k2⟩ := okTotal_at hok hy
    refine ss_set 1 (ee_call L W.g_plus.mg W.g_plus.kp hr (totalM (a.take i), y) ⟨k1, k2⟩ (ea_cons (ee_var 1 rfl ((frP K _).st _ _ _ g3 hw)) (ea_cons (ee_var 2 rfl hx) ea_nil))) scTotal.nd fun z H4 g4 hz => ?_
    refine ss_nil ⟨g4, z, some x, rfl, ?_⟩
    have e : a.take (i + 1) = a.take i ++ [y] := by rw [List.take_add_one, hy]; rfl
    rw [e]
    unfold totalM
    rw [List.foldl_append]
    exact hz
  · rintro σ' H' g ⟨w', x', rfl, hw⟩
    rw [List.take_length] at hw
    exact ss_ret (ee_var 1 rfl hw) fun v H1 g' hv => q v H1 ((g1.trans g).trans g') hv
end
end Pan
set_option maxHeartbeats 1000000
namespace Pan
open PySem PySem.Spec PyProof.Rows L2
section
variable {T : List (Addr × Str)} {P : Program} {w : World} {K : PySem.W.Frag} {mg : Str → Option Value} {base : Heap}
abbrev quoP (T : List (Addr × Str)) (K : PySem.W.Frag) (q : List (Int × Int)) : Pr T := tupP K (frP K) q
abbrev quosP (T : List (Addr × Str)) (K : PySem.W.Frag) (qs : List (List (Int × Int))) : Pr T := tupP K (quoP T K) qs
/-- a tuple of ints that is tracked as such (it can be a key) -/
def itX (T : List (Addr × Str)) (K : PySem.W.Frag) (ns : List Int) : Pr T :=
  ⟨fun v H => (itP (T := T) K ns).p v H ∧ ∃ a, v = .ref a ∧ H a = some (.tup (ns.map V.int)), fun v _ _ g ⟨h, a, e, h2⟩ => ⟨(itP K ns).st _ _ _ g h, a, e, g.tup h2⟩⟩
instance {T : List (Addr × Str)} {K : PySem.W.Frag} {ns : List Int} : Solid (itX T K ns) := ⟨fun v H D o hD c ⟨h, a, e, h2⟩ => ⟨Solid.s _ _ _ _ hD c h, a, e, (del_ne fun e => by
  rw [e, hD] at h2
  rw [Option.some.inj h2] at c
  exact c).trans h2⟩⟩
theorem itX_of {T : List (Addr × Str)} {K : PySem.W.Frag} {ns : List Int} {a : Addr} {vs : List V} {H : Hp} (h : H a = some (.tup vs)) (h2 : All2 (T := T) intP vs ns H) : (itX T K ns).p (.ref a) H :=
  ⟨⟨a, vs, rfl, SqT.of h, h2⟩, a, rfl, by rw [← ints_all h2]; exact h⟩
theorem EE.x2p {T : List (Addr × Str)} {X : Cx} {e : Expr} {σ : L2.St} {H : Hp} {ns : List Int} (h : EE T X e σ H (itX T X.K ns)) : EE T X e σ H (itP X.K ns) := h.imp fun _ _ _ h => h.1
abbrev rowsP (T : List (Addr × Str)) (K : PySem.W.Frag) (rs : List (List Int)) : Pr T := tupP K (itX T K) rs
/-- is_integer of an int -/
def spInt (T : List (Addr × Str)) : Sp := prom T (fun _ : Int × Int × Int => True) (fun a => [intP a.1, intP a.2.1, intP a.2.2]) fun a => eqP (.bl (decide (a.2.1 ≤ a.1) && decide (a.1 ≤ a.2.2)))
theorem scInt : FnScope ["value", "low", "high"] ["value", "low", "high"] (defScope (top 21)) := ⟨rfl, rfl, rfl, by decide +kernel, rfl, by decide +kernel, by decide +kernel⟩
theorem ok_is_integer (W : Wd K mg) : FnR P w K mg base CX0 1 (He.ga K "is_integer") (spInt T) := by
  obtain ⟨fd, F⟩ := W.d_g_is_integer
  have b : Binds K fd ["value", "low", "high"] [] := F.bindsN fun _ _ _ _ _ _ us hl => match us, hl with | [_, _, _], _ => rfl
  refine fn_prom F scInt b (fun _ => rfl) fun cdv A outer s H vs E a D hr _ hs q _ => ?_
  obtain ⟨x, y, z, rfl, h1, h2, h3⟩ := sat3 hs
  refine ss_ret (ee_and (ee_isInt W.f_isinstance W.f_int (ee_var 0 rfl h1)) fun _ => ee_and (ee_not (ee_isBool W.f_isinstance W.f_bool (ee_var 0 rfl h1))) fun _ =>
    ee_one (ee_chainLe (ee_var 1 rfl h2) (ee_var 0 rfl h1) (ee_var 2 rfl h3))) fun v H1 g hv => q v H1 g ?_
  simpa using hv
def inR (l h : Int) (x : Int) : Bool := decide (l ≤ x) && decide (x ≤ h)
def spInts (T : List (Addr × Str)) (K : PySem.W.Frag) : Sp := prom T (fun a : List Int × Int × Int => a.1.length ≤ 1000) (fun a => [itP K a.1, intP a.2.1, intP a.2.2]) fun a => eqP (.bl (a.1.all (inR a.2.1 a.2.2)))
theorem scInts : FnScope ["value", "low", "high", "one"] ["value", "low", "high"] (defScope (top 22)) := ⟨rfl, rfl, rfl, by decide +kernel, rfl, by decide +kernel, by decide +kernel⟩
theorem ok_are_integers (W : Wd K mg) : FnR P w K mg base CX0 2 (He.ga K "are_integers") (spInts T K) := by
  obtain ⟨fd, F⟩ := W.d_g_are_integers
  have b : Binds K fd ["value", "low", "high"] [] := F.bindsN fun _ _ _ _ _ _ us hl => match us, hl with | [_, _, _], _ => rfl
  refine fn_prom F scInts b (fun _ => rfl) fun cdv A outer s H vs E a D hr hl hs q _ => ?_
  obtain ⟨x, y, z, rfl, h1, h2, h3⟩ := sat3 hs
  have L := ok_is_integer (T := T) (P := P) (w := w) (base := base) W
  refine ss_ret (ee_and (ee_isTup W.f_isinstance W.f_tuple (ee_var 0 rfl h1)) fun _ => ee_one (ee_all (bs := a.1.map (inR a.2.1 a.2.2)) W.f_all (NewL.l (NewC.nl <| nc_lc 3 (Ro := fun i => eqP (.bl (inR a.2.1 a.2.2 i))) (keep := fun _ => true) (src_tup (ee_var 0 rfl h1)) hl scInts.nd (blkX scInts [("one", 3)]) (fun y v H' _ _ _ s H C cl fp => ets_nil)
    (fun i v H' D ls _ g hv _ hD s H C cl fp => ?_)
    (fun s H C cl fp => pg_name scInts.nd rfl (.inl rfl))) fun vs H1 g hS => ?_))) fun v H1 g hv => q v H1 g ?_
  · exact EE.en (EE.cast (ee_call L W.g_is_integer.mg W.g_is_integer.kp hr (i, a.2.1, a.2.2) trivial (ea_cons (ee_var 3 rfl hv) (ea_cons (ee_var 1 rfl ((intP _).st _ _ _ g h2)) (ea_cons (ee_var 2 rfl ((intP _).st _ _ _ g h3)) ea_nil))))) hD trivial
  · rw [List.filter_eq_self.mpr fun _ _ => rfl] at hS
    exact All2.map hS
  · simpa [List.all_map] using hv
end
end Pan
set_option maxHeartbeats 1000000
namespace Pan
open PySem PySem.Spec PyProof.Rows L2
section
variable {T : List (Addr × Str)} {X : Cx} {e a b tg iter : Expr} {σ : L2.St} {H H0 : Hp} {pos p1 p2 : Pos} {α β : Type} {R R' : α → Pr T} {xs : List α} {B : Hp → Hp → Prop}
theorem Src.imp (h : Src T X tg iter σ H B xs R) (q : ∀ a v H', a ∈ xs → (R a).p v H' → (R' a).p v H') : Src T X tg iter σ H B xs R' :=
  Src.of h fun H1 g Rr r => ⟨rfl, g, fun J H2 Hb g2 hB w => r J H2 Hb g2 hB (w.mono (fun _ z => z) fun i H' v H3 hi _ ⟨g3, x, hx, hv⟩ => ⟨g3, x, hx, q x v H3 (List.mem_of_getElem? hx) hv⟩)⟩
theorem fr_pair {K : PySem.W.Frag} {p : Int × Int} {v : V} {H : Hp} (h : (frP (T := T) K p).p v H) : (pairP (T := T) K (intP p.1) (intP p.2)).p v H := by
  obtain ⟨a, vs, e, h1, h2⟩ := h
  match vs, h1, h2 with
  | [], _, h2 => exact h2.elim
  | [_], _, h2 => exact h2.2.elim
  | [x, y], h1, h2 => exact ⟨a, x, y, e, h1, h2.1, h2.2.1⟩
  | _ :: _ :: _ :: _, _, h2 => exact h2.2.2.elim
theorem ee_allT {x : Str} (hm : X.mg x = none) (ha : EE T X a σ H (lstP X.K (fun _ : α => eqP (.bl true)) xs)) (hc : X.calm = true := by rfl) (hv : bootBuiltins x = some (.builtin "all") := by decide +kernel) (hg : Gl X x := by rfl) (hn : x ≠ "__name__" := by decide) (hdb : (x == ("__debug__" : Str)) = false := by decide)
    (he : starEach [a] X.env = (false, eval a X.env) :: starEach [] X.env := by rfl) : EE T X (.Call (.Name x p1) [a] [] pos) σ H (eqP (.bl true)) := by
  have h : EE T X a σ H (lstP X.K (fun b => eqP (.bl b)) (xs.map fun _ => true)) := ha.imp fun v H1 _ ⟨p, vs, e, h1, h2⟩ => ⟨p, vs, e, h1, All2.map (R := fun b => eqP (V.bl b)) (f := fun _ => true) h2⟩
  have e : (xs.map fun _ => true).all id = true := by simp
  have r := ee_all (p1 := p1) (pos := pos) hm h hc hv hg hn hdb he
  rwa [e] at r
theorem ET.cast {b b' : Bool} (h : ET T X e σ H b) (q : b = b') : ET T X e σ H b' := q ▸ h
theorem ee_gint {x : Str} {n : Int} {t : Tok} (hm : X.mg x = some (.int n t)) (hg : Gl X x := by rfl) (hd : (x == ("__debug__" : Str)) = false := by decide) : EE T X (.Name x pos) σ H (intP n) := ee_glob hm (v := .int n) ⟨t, rfl⟩ rfl hg hd
theorem et_all (h : EE T X a σ H (eqP (.bl true))) (he : ∀ whole, isTrue a X.env whole = (do let v ← whole; standAt a.pos; holding [v] (truthy v)) := by intro _; rfl) : ET T X a σ H true := et_val h he
end
section
variable {T : List (Addr × Str)} {P : Program} {w : World} {K : PySem.W.Frag} {mg : Str → Option Value} {base : Heap}
def okTrait (q : List (Int × Int)) (n : Int) : Prop := 1 ≤ q.length ∧ q.length ≤ 3 ∧ ∀ p ∈ q, 0 ≤ p.1 ∧ p.1 ≤ p.2 ∧ p.2 ≤ n
def spTrait (T : List (Addr × Str)) (K : PySem.W.Frag) : Sp := prom T (fun a : List (Int × Int) × Int => okTrait a.1 a.2) (fun a => [quoP T K a.1, intP a.2]) fun _ => eqP (.bl true)
theorem scTrait : FnScope ["value", "size", "quota", "low", "high"] ["value", "size"] (defScope (top 23)) := ⟨rfl, rfl, rfl, by decide +kernel, rfl, by decide +kernel, by decide +kernel⟩
theorem ok_is_trait (W : Wd K mg) : FnR P w K mg base CX0 3 (He.ga K "is_trait") (spTrait T K) := by
  obtain ⟨fd, F⟩ := W.d_g_is_trait
  have b : Binds K fd ["value", "size"] [] := F.bindsN fun _ _ _ _ _ _ us hl => match us, hl with | [_, _], _ => rfl
  refine fn_prom F scTrait b (fun _ => rfl) fun cdv A outer s H vs E a D hr ⟨l1, l2, hq⟩ hs q _ => ?_
  obtain ⟨x, y, rfl, h1, h2⟩ := sat2 hs
  have L := ok_are_integers (T := T) (P := P) (w := w) (base := base) W
  obtain ⟨t3, e3⟩ := W.MAX_VALUES
  refine ss_when (t := false) (ET.cast (et_w (ew_or (et_not (et_val (ee_isTup W.f_isinstance W.f_tuple (ee_var 0 rfl h1)))) fun _ H1 g => ew_or1 (et_not (et_chainLe ee_int (ee_lenT W.f_len (ee_var 0 rfl ((quoP T K a.1).st _ _ _ g h1))) (ee_gint e3))))) (by simp; omega)) (fun z => nomatch z) fun _ H1 g1 => ?_
  have k1 := (quoP T K a.1).st _ _ _ g1 h1
  refine ss_when (t := false) (et_not (t := true) (et_all (ee_allT W.f_all (EC.ee <| ec_lc 2 scTrait (src_tup (ee_var 0 rfl k1)) (by omega) fun p v H' hp g hv s H C cl fp => ?_)))) (fun z => nomatch z) fun _ H2 g2 => ?_
  · refine EE.cast (ee_and (ee_callP L W.g_are_integers.mg W.g_are_integers.kp hr ([p.1, p.2], 0, a.2) (by show ([p.1, p.2] : List Int).length ≤ 1000; simp) (ea_cons (ee_var 2 rfl hv) (ea_cons ee_int (ea_cons (ee_var 1 rfl ((intP _).st _ _ _ (g1.trans g) h2)) ea_nil)))) fun _ => ee_one (ee_eqS rfl (ee_lenT W.f_len (ee_var 2 rfl hv)) ee_int)) ?_
    have := hq p hp
    congr 2
    simp [inR]
    omega
  have k2 := (quoP T K a.1).st _ _ _ g2 k1
  refine ss_ret (ee_allT W.f_all (EC.ee <| ec_lcP 3 4 scTrait (R1 := fun p => intP p.1) (R2 := fun p => intP p.2) ((src_tup (ee_var 0 rfl k2)).imp fun _ _ _ _ => fr_pair) (by omega) fun p v w H' hp g hv hw s H C cl fp => ?_)) fun v H3 g3 hv => q v H3 ((g1.trans g2).trans g3) hv
  refine EE.cast (ee_le (ee_var 3 rfl hv) (ee_var 4 rfl hw)) ?_
  congr 2
  exact decide_eq_true (hq p hp).2.1
theorem flat_len {α β : Type} {f : α → List β} {k : Nat} : ∀ {xs : List α}, (∀ a ∈ xs, (f a).length ≤ k) → (xs.flatMap f).length ≤ xs.length * k
  | [], _ => Nat.zero_le _
  | x :: xs, h => by
    have h1 := h x List.mem_cons_self
    have h2 := flat_len (f := f) (k := k) (xs := xs) fun a ha => h a (List.mem_cons_of_mem _ ha)
    rw [List.flatMap_cons, List.length_append, List.length_cons, Nat.add_mul]
    omega
def okPeople (rs : List (List Int)) (qs : List (List (Int × Int))) : Prop := 1 ≤ rs.length ∧ rs.length ≤ 8 ∧ ∀ r ∈ rs, r.length = qs.length ∧ ∀ x ∈ r.zip qs, 0 ≤ x.1 ∧ x.1 < (x.2.length : Int)
def spPeople (T : List (Addr × Str)) (K : PySem.W.Frag) : Sp := prom T (fun a : List (List Int) × List (List (Int × Int)) => okPeople a.1 a.2 ∧ a.2.length ≤ 3) (fun a => [rowsP T K a.1, quosP T K a.2]) fun _ => eqP (.bl true)
theorem scPeople : FnScope ["value", "quotas", "person", "one", "quota"] ["value", "quotas"] (defScope (top 24)) := ⟨rfl, rfl, rfl, by decide +kernel, rfl, by decide +kernel, by decide +kernel⟩
theorem ok_are_people (W : Wd K mg) : FnR P w K mg base CX0 2 (He.ga K "are_people") (spPeople T K) := by
  obtain ⟨fd, F⟩ := W.d_g_are_people
  have b : Binds K fd ["value", "quotas"] [] := F.bindsN fun _ _ _ _ _ _ us hl => match us, hl with | [_, _], _ => rfl
  refine fn_prom F scPeople b (fun _ => rfl) fun cdv A outer s H vs E a D hr ⟨⟨l1, l2, hq⟩, l3⟩ hs q _ => ?_
  obtain ⟨x, y, rfl, h1, h2⟩ := sat2 hs
  have L := ok_is_integer (T := T) (P := P) (w := w) (base := base) W
  obtain ⟨t3, e3⟩ := W.MAX_PEOPLE
  refine ss_when (t := false) (ET.cast (et_w (ew_or (et_not (et_val (ee_isTup W.f_isinstance W.f_tuple (ee_var 0 rfl h1)))) fun _ H1 g => ew_or1 (et_not (et_chainLe ee_int (ee_lenT W.f_len (ee_var 0 rfl ((rowsP T K a.1).st _ _ _ g h1))) (ee_gint e3))))) (by simp; omega)) (fun z => nomatch z) fun _ H1 g1 => ?_
  have k1 := (rowsP T K a.1).st _ _ _ g1 h1
  have j1 := (quosP T K a.2).st _ _ _ g1 h2
  refine ss_when (t := false) (et_not (t := true) (et_all (ee_allT W.f_all (EC.ee <| ec_lc 2 scPeople (src_tup (ee_var 0 rfl k1)) (by omega) fun p v H' hp g hv s H C cl fp => ?_)))) (fun z => nomatch z) fun _ H2 g2 => ?_
  · refine EE.cast (ee_and (ee_isTup W.f_isinstance W.f_tuple (ee_var 2 rfl hv.1)) fun _ => ee_one (ee_eqS rfl (ee_lenT W.f_len (ee_var 2 rfl hv.1)) (ee_lenT W.f_len (ee_var 1 rfl ((quosP T K a.2).st _ _ _ g j1))))) ?_
    have := (hq p hp).1
    congr 2
    simp [this]
  have k2 := (rowsP T K a.1).st _ _ _ g2 k1
  have j2 := (quosP T K a.2).st _ _ _ g2 j1
  refine ss_ret (ee_allT W.f_all (EC.ee <| ec_lcNP 2 3 4 scPeople (R := itX T K) (ys := fun r => r.zip a.2) (Q1 := fun _ xy => intP xy.1) (Q2 := fun _ xy => quoP T K xy.2) (Ro := fun _ _ => eqP (.bl true)) (keep := fun _ _ => true) (src_tup (ee_var 0 rfl k2)) ?_ (fun r v H' H3 hr' g hv g3 s H C cl fp => src_zipTB W.f_zip (ee_v 2 rfl) (ee_v 1 rfl) g3 hv.1 ((quosP T K a.2).st _ _ _ g j2))
    (fun _ _ _ _ _ _ _ _ _ _ _ _ _ _ _ _ _ => ets_nil) fun r xy v z z' H' hr' hxy _ g hv hz hz' s H C cl fp => ?_)) fun v H3 g3 hv => q v H3 ((g1.trans g2).trans g3) hv
  · have h := flat_len (f := fun r : List Int => r.zip a.2) (k := 3) (xs := a.1) fun r _ => by rw [List.length_zip]; omega
    omega
  · refine EE.cast (ee_call L W.g_is_integer.mg W.g_is_integer.kp hr (xy.1, 0, (xy.2.length : Int) - 1) trivial (ea_cons (ee_var 3 rfl hz) (ea_cons ee_int (ea_cons (ee_sub (ee_lenT W.f_len (ee_var 4 rfl hz')) ee_int) ea_nil)))) ?_
    have := (hq r hr').2 xy hxy
    congr 2
    simp
    omega
end
end Pan
set_option maxHeartbeats 1000000
namespace Pan
open PySem PySem.Spec PyProof.Rows L2
structure PoolM where
  size : Int
  quotas : List (List (Int × Int))
  rows : List (List Int)
def okPool (p : PoolM) : Prop := (1 ≤ p.size ∧ p.size ≤ 8) ∧ (1 ≤ p.quotas.length ∧ p.quotas.length ≤ 3) ∧ (∀ q ∈ p.quotas, okTrait q p.size) ∧ okPeople p.rows p.quotas
section
variable {T : List (Addr × Str)} {H H0 H' : Hp} {a C dx D : Addr} {vs : List (Option V)} {o : HO}
theorem Ins.del (h : Ins H a C dx vs) (hD : H D = some o) (c : Chg o) : Ins (Pan.del H D) a C dx vs := by
  have k : ∀ b u, H b = some u → ¬ Chg u → b ≠ D := fun b u hb n e => by
    rw [e, hD] at hb
    rw [Option.some.inj hb] at c
    exact n c
  rcases h.2 with ⟨h1, h2, h3⟩ | ⟨h1, h2⟩
  · exact h.same (del_ne (k _ _ h1 id)) (del_ne (k _ _ h3 id))
  · exact h.same (del_ne (k _ _ h1 (by unfold SlX.SlO; exact id))) (del_ne (k _ _ h2 id))
theorem All2.solid {α : Type} {R : α → Pr T} [h : ∀ x, Solid (R x)] (x : α) : Solid (R x) := h x
/-- an instance of C whose slots are as told -/
def insP (T : List (Addr × Str)) (C : Addr) (F : List (Option V) → Hp → Prop) (st : ∀ vs H H', Gr T H H' → F vs H → F vs H') : Pr T :=
  ⟨fun v H => ∃ a dx vs, v = .ref a ∧ Ins H a C dx vs ∧ F vs H, fun _ _ _ g ⟨a, dx, vs, e, h, f⟩ => ⟨a, dx, vs, e, h.gr g, st _ _ _ g f⟩⟩
/-- the slot at i is as told -/
def slotIs (i : Nat) (P : Pr T) (vs : List (Option V)) (H : Hp) : Prop := ∃ v, vs[i]? = some (some v) ∧ P.p v H
theorem slotIs.st {i : Nat} {P : Pr T} (h : slotIs i P vs H) (g : Gr T H H') : slotIs i P vs H' := ⟨_, h.choose_spec.1, P.st _ _ _ g h.choose_spec.2⟩
theorem slotIs.del {i : Nat} {P : Pr T} [s : Solid P] (h : slotIs i P vs H) (hD : H D = some o) (c : Chg o) : slotIs i P vs (Pan.del H D) := ⟨_, h.choose_spec.1, s.s _ _ _ _ hD c h.choose_spec.2⟩
end
def poolP (T : List (Addr × Str)) (K : PySem.W.Frag) (p : PoolM) : Pr T :=
  insP T (He.ga K "Pool") (fun vs H => slotIs 0 (quosP T K p.quotas) vs H ∧ slotIs 1 (intP (T := T) p.size) vs H ∧ slotIs 2 (rowsP T K p.rows) vs H) fun _ _ _ g h => ⟨h.1.st g, h.2.1.st g, h.2.2.st g⟩
instance {T : List (Addr × Str)} {K : PySem.W.Frag} {p : PoolM} : Solid (poolP T K p) := ⟨fun _ _ _ _ hD c ⟨a, dx, vs, e, h, f⟩ => ⟨a, dx, vs, e, h.del hD c, f.1.del hD c, f.2.1.del hD c, f.2.2.del hD c⟩⟩
section
variable {T : List (Addr × Str)} {X : Cx} {e : Expr} {σ : L2.St} {H : Hp} {pos : Pos} {p : PoolM}
/-- e.f, f a slot -/
theorem ee_slot {C d : Addr} {f : Str} {i : Nat} {P : Pr T} {F : List (Option V) → Hp → Prop} {st : ∀ vs H H', Gr T H H' → F vs H → F vs H'} (c : SlX.SCls X.K C) (t : SlX.Slot1 X.K C f d i) (q : ∀ vs H, F vs H → slotIs i P vs H) (h : EE T X e σ H (insP T C F st)) (hb : attributeBase e f X.env (eval e X.env) = eval e X.env := by rfl) : EE T X (.Attribute e f pos) σ H P :=
  ee_sl h (fun v H1 _ ⟨a, dx, vs, e, hi, hf⟩ => by
    obtain ⟨w, h1, h2⟩ := q vs H1 hf
    exact ⟨a, C, dx, d, vs, i, w, e, hi.slt, c, t, h1, h2⟩) hb
theorem ee_bounds (W : Wd X.K X.mg) (h : EE T X e σ H (poolP T X.K p)) (hb : attributeBase e "bounds" X.env (eval e X.env) = eval e X.env := by rfl) : EE T X (.Attribute e "bounds" pos) σ H (quosP T X.K p.quotas) := ee_slot W.s_Pool W.Pool_bounds (fun _ _ h => h.1) h hb
theorem ee_many (W : Wd X.K X.mg) (h : EE T X e σ H (poolP T X.K p)) (hb : attributeBase e "many" X.env (eval e X.env) = eval e X.env := by rfl) : EE T X (.Attribute e "many" pos) σ H (intP p.size) := ee_slot W.s_Pool W.Pool_many (fun _ _ h => h.2.1) h hb
theorem ee_rows (W : Wd X.K X.mg) (h : EE T X e σ H (poolP T X.K p)) (hb : attributeBase e "rows" X.env (eval e X.env) = eval e X.env := by rfl) : EE T X (.Attribute e "rows" pos) σ H (rowsP T X.K p.rows) := ee_slot W.s_Pool W.Pool_rows (fun _ _ h => h.2.2) h hb
end
/-- what an __init__ keeps: the new instance at a; what stood before stays -/
def initSp (T : List (Addr × Str)) (C : Addr) {α : Type} (ok : α → Prop) (Ps : α → List (Pr T)) (R : α → Addr → Hp → Prop) : Sp := fun vs H Q _ => ∃ (a dx : Addr) (H0 : Hp) (us : List V) (z : α), vs = .ref a :: us ∧ Ins H a C dx [] ∧ H0 a = none ∧ H0 dx = none ∧ Gr T H0 H ∧ ok z ∧ Sat (Ps z) us H0 ∧
  ∀ H', Gr T H0 H' → R z a H' → Q .non H'
section
variable {T : List (Addr × Str)} {P : Program} {w : World} {K : PySem.W.Frag} {mg : Str → Option Value} {base : Heap}
theorem scPoolInit : FnScope ["self", "size", "quotas", "people", "quota"] ["self", "size", "quotas", "people"] (defScope (inClass (top 25) 1)) := ⟨rfl, rfl, rfl, by decide +kernel, rfl, by decide +kernel, by decide +kernel⟩
def spPoolInit (T : List (Addr × Str)) (K : PySem.W.Frag) : Sp := initSp T (He.ga K "Pool") okPool (fun p => [intP p.size, quosP T K p.quotas, rowsP T K p.rows]) fun p a H => (poolP T K p).p (.ref a) H
theorem ok_Pool_init (W : Wd K mg) : FnR P w K mg base CX0 4 (He.ma K (He.ga K "Pool") "__init__") (spPoolInit T K) := by
  obtain ⟨fd, F⟩ := W.d_Pool_init
  have b : Binds K fd ["self", "size", "quotas", "people"] [] := F.bindsN fun _ _ _ _ _ _ us hl => match us, hl with | [_, _, _, _], _ => rfl
  refine fn_any (T := T) F scPoolInit b (fun vs H Q E ⟨a, dx, H0, us, z, e, _, _, _, _, _, hs, _⟩ => by rw [e, List.length_cons, hs.len]; rfl) fun cdv A outer s H vs Q E hr hsp => ?_
  obtain ⟨a, dx, H0, us, p, rfl, hi, n1, n2, g0, ⟨⟨s1, s2⟩, ⟨q1, q2⟩, hq, hp⟩, hs, hQ⟩ := hsp
  obtain ⟨x, y, z, rfl, h1, h2, h3⟩ := sat3 hs
  obtain ⟨t3, e3⟩ := W.MAX_PEOPLE
  obtain ⟨t4, e4⟩ := W.MAX_TRAITS
  have L1 := ok_is_integer (T := T) (P := P) (w := w) (base := base) W
  have L2 := ok_is_trait (T := T) (P := P) (w := w) (base := base) W
  have L3 := ok_are_people (T := T) (P := P) (w := w) (base := base) W
  have u1 := fun {H1 : Hp} (g : Gr T H0 H1) => (intP (T := T) p.size).st _ _ _ g h1
  have u2 := fun {H1 : Hp} (g : Gr T H0 H1) => (quosP T K p.quotas).st _ _ _ g h2
  have u3 := fun {H1 : Hp} (g : Gr T H0 H1) => (rowsP T K p.rows).st _ _ _ g h3
  refine ss_when (t := false) (et_not (t := true) (et_all (ee_callP L1 W.g_is_integer.mg W.g_is_integer.kp hr (p.size, 1, 8) trivial (ea_cons (ee_var 1 rfl (u1 g0)) (ea_cons ee_int (ea_cons (ee_gint e3) ea_nil))) (by congr 2; simp; omega)))) (fun z => nomatch z) fun _ H1 g1 => ?_
  have g01 := g0.trans g1
  refine ss_when (t := false) (ET.cast (et_w (ew_or (et_not (et_val (ee_isTup W.f_isinstance W.f_tuple (ee_var 2 rfl (u2 g01))))) fun _ H1 g => ew_or1 (et_not (et_chainLe ee_int (ee_lenT W.f_len (ee_var 2 rfl (u2 (g01.trans g)))) (ee_gint e4))))) (by simp; omega)) (fun z => nomatch z) fun _ H2 g2 => ?_
  have g02 := g01.trans g2
  refine ss_when (t := false) (et_not (t := true) (et_all (ee_allT W.f_all (EC.ee <| ec_lc 4 scPoolInit (src_tup (ee_var 2 rfl (u2 g02))) (by omega) fun q v H' hq' g hv s H C cl fp => ?_)))) (fun z => nomatch z) fun _ H3 g3 => ?_
  · exact ee_callP L2 W.g_is_trait.mg W.g_is_trait.kp hr (q, p.size) (hq q hq') (ea_cons (ee_var 4 rfl hv) (ea_cons (ee_var 1 rfl (u1 (g02.trans g))) ea_nil))
  have g03 := g02.trans g3
  refine ss_when (t := false) (et_not (t := true) (et_all (ee_callP L3 W.g_are_people.mg W.g_are_people.kp hr (p.rows, p.quotas) ⟨hp, q2⟩ (ea_cons (ee_var 3 rfl (u3 g03)) (ea_cons (ee_var 2 rfl (u2 g03)) ea_nil))))) (fun z => nomatch z) fun _ H4 g4 => ?_
  have g04 := g03.trans g4
  refine ss_sl (dx := dx) 0 rfl (ee_v (T := T) 1 rfl).x W.s_Pool W.Pool_many fun v1 H5 ⟨g5, k1⟩ => ?_
  have i5 := ((((hi.gr g1).gr g2).gr g3).gr g4).gr g5
  refine ⟨[], i5.slt, ?_⟩
  have G5 : Gr T H0 _ := (g04.trans g5).put (vs' := SlX.putS 1 v1 []) n1 n2 i5
  have I5 : Ins (SlX.slH H5 a (He.ga K "Pool") dx (SlX.putS 1 v1 [])) a (He.ga K "Pool") dx _ := Ins.put hi.1
  refine ss_sl (dx := dx) 0 rfl (ee_v (T := T) 2 rfl).x W.s_Pool W.Pool_bounds fun v2 H6 ⟨g6, k2⟩ => ?_
  have i6 := I5.gr g6
  refine ⟨_, i6.slt, ?_⟩
  have G6 : Gr T H0 _ := (G5.trans g6).put (vs' := SlX.putS 0 v2 (SlX.putS 1 v1 [])) n1 n2 i6
  have I6 : Ins (SlX.slH H6 a (He.ga K "Pool") dx (SlX.putS 0 v2 (SlX.putS 1 v1 []))) a (He.ga K "Pool") dx _ := Ins.put hi.1
  refine ss_sl (dx := dx) 0 rfl (ee_v (T := T) 3 rfl).x W.s_Pool W.Pool_rows fun v3 H7 ⟨g7, k3⟩ => ?_
  have i7 := I6.gr g7
  refine ⟨_, i7.slt, ?_⟩
  have G7 : Gr T H0 _ := (G6.trans g7).put (vs' := SlX.putS 2 v3 (SlX.putS 0 v2 (SlX.putS 1 v1 []))) n1 n2 i7
  have I7 : Ins (SlX.slH H7 a (He.ga K "Pool") dx (SlX.putS 2 v3 (SlX.putS 0 v2 (SlX.putS 1 v1 [])))) a (He.ga K "Pool") dx _ := Ins.put hi.1
  rw [show v1 = x from k1, show v2 = y from k2, show v3 = z from k3] at G7 I7 ⊢
  exact ss_nil (hQ _ G7 ⟨a, dx, _, rfl, I7, ⟨y, rfl, u2 G7⟩, ⟨x, rfl, u1 G7⟩, ⟨z, rfl, u3 G7⟩⟩)
end
end Pan
set_option maxHeartbeats 1000000
namespace Pan
open PySem PySem.Spec PyProof.Rows L2
section
variable {X : Cx} {n : Nat} {C g : Addr} {sp : Sp} {E : XK}
/-- len(x) of an instance with slots by its own __len__ -/
def rLenOwn (C : Addr) (sp : Sp) (E : XK) : List V → Hp → VK → Prop := fun xs H Q => ∃ a dx vs, xs = [V.ref a] ∧ SlX.Slt H a C dx vs ∧ sp [.ref a] H (fun z H' => ∃ i, z = .int i ∧ (0 ≤ i ∧ i < 2 ^ 63) ∧ Q z H') E
theorem call_lenOwn (hm : Meth X.K C "__len__" g) (F : FnR X.prog X.w X.K X.mg X.base CX0 n g sp) (hr : Room (n + 1) X.A) : CallR X (.builtin "len") (rLenOwn C sp E) := by
  intro pins s σ H xs us Q I r h
  obtain ⟨a, dx, vs, rfl, hsl, q⟩ := h
  obtain ⟨u, rfl, ru⟩ := r.one
  cases (show u = Value.ref a from ru)
  obtain ⟨sl, od, _, J, _⟩ := SlX.slt_inst I hsl
  obtain ⟨m, hF⟩ := I.fr
  refine PySem.W.len_K (Q := EP X pins σ Q) hF I.ok.mod.kin J hm.at_ hm.fn (wpAny_mono (wpAny_call (SlX.run_at (us := [.ref a]) (ws := [.ref a]) F hr.in1 I.env0.in1 (E := E) (fun _ _ _ _ _ _ _ z => z.elim) I (.cons rfl .nil) q)) (fun u s' z => ?_) fun _ _ x => x)
  obtain ⟨z', H', I', rz, i, rfl, hi, qz⟩ := z
  obtain ⟨t, rfl⟩ := (show ∃ t, u = Value.int i t from rz)
  exact ⟨hi, .int i, H', I'.tok _, ⟨_, rfl⟩, qz⟩
end
section
variable {T : List (Addr × Str)} {P : Program} {w : World} {K : PySem.W.Frag} {mg : Str → Option Value} {base : Heap}
def spPoolLen (T : List (Addr × Str)) (K : PySem.W.Frag) : Sp := prom T (fun p : PoolM => p.rows.length ≤ 8) (fun p => [poolP T K p]) fun p => intP (p.rows.length : Int)
theorem scPoolLen : FnScope ["self"] ["self"] (defScope (inClass (top 25) 5)) := ⟨rfl, rfl, rfl, by decide +kernel, rfl, by decide +kernel, by decide +kernel⟩
theorem ok_Pool_len (W : Wd K mg) : FnR P w K mg base CX0 1 (He.ma K (He.ga K "Pool") "__len__") (spPoolLen T K) := by
  obtain ⟨fd, F⟩ := W.d_Pool_len
  have b : Binds K fd ["self"] [] := F.bindsN fun _ _ _ _ _ _ us hl => match us, hl with | [_], _ => rfl
  refine fn_prom F scPoolLen b (fun _ => rfl) fun cdv A outer s H vs E p D hr _ hs q _ => ?_
  obtain ⟨x, rfl, h1⟩ := sat1 hs
  exact ss_ret (ee_lenT W.f_len (ee_rows W (ee_var 0 rfl h1))) fun v H1 g hv => q v H1 g hv
end
section
variable {T : List (Addr × Str)} {X : Cx} {e : Expr} {σ : L2.St} {H : Hp} {pos p1 : Pos} {p : PoolM}
/-- len(pool) -/
theorem ee_lenP {x : Str} {m : Nat} (W : Wd X.K X.mg) (hm : X.mg x = none) (hr : Room m X.A) (hp : p.rows.length ≤ 8) (h : EE T X e σ H (poolP T X.K p)) (hm2 : 2 ≤ m := by decide) (hv : bootBuiltins x = some (.builtin "len") := by decide +kernel) (hg : Gl X x := by rfl) (hn : x ≠ "__name__" := by decide) (hdb : (x == ("__debug__" : Str)) = false := by decide)
    (he : starEach [e] X.env = (false, eval e X.env) :: starEach [] X.env := by rfl) : EE T X (.Call (.Name x p1) [e] [] pos) σ H (intP (p.rows.length : Int)) :=
  ee_bltn (call_lenOwn (E := fun _ _ _ => False) W.m_Pool_len (ok_Pool_len (T := T) W) (hr.mono hm2)) hm hv (ea_cons h ea_nil he) (fun vs H1 g hs Q z => by
    obtain ⟨v, rfl, hv⟩ := sat1 hs
    obtain ⟨a, dx, vs, rfl, hi, hf⟩ := hv
    refine ⟨a, dx, vs, rfl, hi.slt, p, hp, ⟨⟨a, dx, vs, rfl, hi, hf⟩, trivial⟩, fun u H' g' hu => ⟨_, hu, ⟨by omega, ?_⟩, z u H' g' hu⟩⟩
    have : (p.rows.length : Int) ≤ 8 := by omega
    omega) hg hn hdb he
end
end Pan
set_option maxHeartbeats 1000000
namespace Pan
open PySem PySem.Spec PyProof.Rows L2
/-! ### data at any depth -/
section
variable {T : List (Addr × Str)} {K : PySem.W.Frag}
/-- what P tells is the data d, at most k deep -/
structure Dat (T : List (Addr × Str)) (K : PySem.W.Frag) (k : Nat) (P : Pr T) (d : PyData) : Prop where
  dp : ∀ v H, P.p v H → Dp K H v d
  cl : d.canLay0 = true
  de : d.depth ≤ k
theorem Dat.non : Dat T K 0 (eqP .non) .none := ⟨fun v H h => by rw [show v = V.non from h]; exact .non, by simp only [PyData.canLay0], by simp only [PyData.depth]; omega⟩
theorem Dat.int (i : Int) : Dat T K 0 (intP i) (.int i) := ⟨fun v H h => by rw [show v = V.int i from h]; exact .int i, by simp only [PyData.canLay0], by simp only [PyData.depth]; omega⟩
theorem Dat.bl (b : Bool) : Dat T K 0 (eqP (.bl b)) (.bool b) := ⟨fun v H h => by rw [show v = V.bl b from h]; exact .bl b, by simp only [PyData.canLay0], by simp only [PyData.depth]; omega⟩
theorem Dat.all {α : Type} {R : α → Pr T} {f : α → PyData} {k : Nat} : ∀ {xs : List α}, (∀ x ∈ xs, Dat T K k (R x) (f x)) → (∀ vs H, All2 R vs xs H → DpAll K H vs (xs.map f)) ∧ PyData.canLayAll0 (xs.map f) = true ∧ PyData.depthAll (xs.map f) ≤ k
  | [], _ => ⟨fun vs H h => by
      cases vs with
      | nil => exact .nil
      | cons _ _ => exact h.elim, by simp only [List.map_nil, PyData.canLayAll0], by simp only [List.map_nil, PyData.depthAll]; omega⟩
  | x :: xs, h => by
    have h1 := h x List.mem_cons_self
    obtain ⟨h2, h3, h4⟩ := Dat.all (xs := xs) fun y hy => h y (List.mem_cons_of_mem _ hy)
    refine ⟨fun vs H hv => ?_, ?_, ?_⟩
    · cases vs with
      | nil => exact hv.elim
      | cons v vs => exact .cons (h1.dp v H hv.1) (h2 vs H hv.2)
    · simp only [List.map_cons, PyData.canLayAll0, h1.cl, h3, Bool.and_self]
    · simp only [List.map_cons, PyData.depthAll]
      have := h1.de
      omega
theorem Dat.tup {α : Type} {R : α → Pr T} {f : α → PyData} {k : Nat} {xs : List α} (h : ∀ x ∈ xs, Dat T K k (R x) (f x)) : Dat T K (k + 1) (tupP K R xs) (.tuple (xs.map f)) := by
  obtain ⟨h2, h3, h4⟩ := Dat.all h
  exact ⟨fun v H ⟨a, vs, e, h1, hv⟩ => by rw [e]; exact .tup h1 (h2 vs H hv), by simp only [PyData.canLay0, h3], by simp only [PyData.depth]; omega⟩
theorem Dat.lst {α : Type} {R : α → Pr T} {f : α → PyData} {k : Nat} {xs : List α} (h : ∀ x ∈ xs, Dat T K k (R x) (f x)) : Dat T K (k + 1) (lstP K R xs) (.list (xs.map f)) := by
  obtain ⟨h2, h3, h4⟩ := Dat.all h
  exact ⟨fun v H ⟨a, vs, e, h1, hv⟩ => by rw [e]; exact .lst h1 (h2 vs H hv), by simp only [PyData.canLay0, h3], by simp only [PyData.depth]; omega⟩
theorem Dat.pair {P1 P2 : Pr T} {d1 d2 : PyData} {k : Nat} (h1 : Dat T K k P1 d1) (h2 : Dat T K k P2 d2) : Dat T K (k + 1) (pairP K P1 P2) (.tuple [d1, d2]) :=
  ⟨fun v H ⟨a, x, y, e, hs, hx, hy⟩ => by rw [e]; exact .tup hs (.cons (h1.dp _ _ hx) (.cons (h2.dp _ _ hy) .nil)), by simp only [PyData.canLay0, PyData.canLayAll0, h1.cl, h2.cl, Bool.and_self], by
    simp only [PyData.depth, PyData.depthAll]
    have := h1.de
    have := h2.de
    omega⟩
theorem Dat.shaped {P : Pr T} {d : PyData} {k : Nat} (h : Dat T K k P d) (hk : k ≤ 64) : SeqAt.shaped d = true := by
  unfold SeqAt.shaped
  rw [h.cl, decide_eq_true (Nat.le_trans h.de hk)]
  rfl
theorem Dat.mono {P : Pr T} {d : PyData} {k l : Nat} (h : Dat T K k P d) (hk : k ≤ l) : Dat T K l P d := ⟨h.dp, h.cl, Nat.le_trans h.de hk⟩
abbrev dI (ns : List Int) : PyData := .tuple (ns.map .int)
theorem Dat.ints (ns : List Int) : Dat T K 1 (itP K ns) (dI ns) := .tup fun x _ => .int x
/-- two lists of data that are told by keys are equal just if the keys are -/
theorem eqvAll_map {α : Type} [DecidableEq α] {f : α → PyData} : ∀ {xs ys : List α}, (∀ x y, x ∈ xs → y ∈ ys → PyData.eqv (f x) (f y) = decide (x = y)) → PyData.eqvAll (xs.map f) (ys.map f) = decide (xs = ys)
  | [], [], _ => by simp [PyData.eqvAll]
  | [], _ :: _, _ => by simp [PyData.eqvAll]
  | _ :: _, [], _ => by simp [PyData.eqvAll]
  | x :: xs, y :: ys, h => by
    have h1 := h x y List.mem_cons_self List.mem_cons_self
    have h2 := eqvAll_map (f := f) (xs := xs) (ys := ys) fun a b ha hb => h a b (List.mem_cons_of_mem _ ha) (List.mem_cons_of_mem _ hb)
    simp only [List.map_cons, PyData.eqvAll, h1, h2, List.cons.injEq, Bool.decide_and]
theorem eqv_ints {xs ys : List Int} : PyData.eqv (dI xs) (dI ys) = decide (xs = ys) := by
  simp only [PyData.eqv]
  exact eqvAll_map fun x y _ _ => by simp only [PyData.eqv]; rfl
end
section
variable {T : List (Addr × Str)} {X : Cx} {e a b c : Expr} {es : List Expr} {σ : L2.St} {H : Hp} {P P1 P2 : Pr T} {pos p1 p2 : Pos} {i j : Int} {d d2 : PyData} {k k2 m : Nat} {α : Type} {R : α → Pr T} {xs : List α}
theorem ee_eqD (hr : Room m X.A) (h1 : Dat T X.K k P1 d) (h2 : Dat T X.K k2 P2 d2) (ha : EE T X a σ H P1) (hb : EE T X b σ H P2) (hk : k ≤ 64 := by decide) (hk2 : k2 ≤ 64 := by decide) : EE T X (.Compare a [.Eq] [b] pos) σ H (eqP (.bl (PyData.eqv d d2))) :=
  ee_cmp (op_eqD hr.units) (nomark _) ha hb fun x y H1 _ hx hy Q z => ⟨d, d2, h1.dp _ _ hx, h2.dp _ _ hy, h1.shaped hk, h2.shaped hk2, z H1 (.refl _)⟩
theorem ee_neD (hr : Room m X.A) (h1 : Dat T X.K k P1 d) (h2 : Dat T X.K k2 P2 d2) (ha : EE T X a σ H P1) (hb : EE T X b σ H P2) (hk : k ≤ 64 := by decide) (hk2 : k2 ≤ 64 := by decide) : EE T X (.Compare a [.NotEq] [b] pos) σ H (eqP (.bl (!PyData.eqv d d2))) :=
  ee_cmp (op_neD hr.units) (nomark _) ha hb fun x y H1 _ hx hy Q z => ⟨d, d2, h1.dp _ _ hx, h2.dp _ _ hy, h1.shaped hk, h2.shaped hk2, z H1 (.refl _)⟩
theorem et_eqD (hr : Room m X.A) (h1 : Dat T X.K k P1 d) (h2 : Dat T X.K k2 P2 d2) (ha : EE T X a σ H P1) (hb : EE T X b σ H P2) (hk : k ≤ 64 := by decide) (hk2 : k2 ≤ 64 := by decide) : ET T X (.Compare a [.Eq] [b] pos) σ H (PyData.eqv d d2) :=
  et_cmpO (op_eqD hr.units) (nomark _) ha hb fun x y H1 _ hx hy Q z => ⟨d, d2, h1.dp _ _ hx, h2.dp _ _ hy, h1.shaped hk, h2.shaped hk2, z H1 (.refl _)⟩
theorem et_neD (hr : Room m X.A) (h1 : Dat T X.K k P1 d) (h2 : Dat T X.K k2 P2 d2) (ha : EE T X a σ H P1) (hb : EE T X b σ H P2) (hk : k ≤ 64 := by decide) (hk2 : k2 ≤ 64 := by decide) : ET T X (.Compare a [.NotEq] [b] pos) σ H (!PyData.eqv d d2) :=
  et_cmpO (op_neD hr.units) (nomark _) ha hb fun x y H1 _ hx hy Q z => ⟨d, d2, h1.dp _ _ hx, h2.dp _ _ hy, h1.shaped hk, h2.shaped hk2, z H1 (.refl _)⟩
/-! ### more statements, subscripts, lists -/
/-- x, y = e -/
theorem ss_unp {x y : Str} {z : Nat} {p3 : Pos} {rest : List Stmt} {D : Ends} (n m : Nat) (h : EE T X e σ H (pairP X.K P1 P2)) (hN : X.N.Nodup) (q : ∀ v w H1, Gr T H H1 → P1.p v H1 → P2.p w H1 → SS T X rest ((σ.set n (some v)).set m (some w)) H1 D)
    (hc : X.calm = true := by rfl) (hi : X.N[n]? = some x := by rfl) (hj : X.N[m]? = some y := by rfl) (hx : Loc X.env.scope x := by first | exact Or.inl rfl | exact Or.inr rfl) (hy : Loc X.env.scope y := by first | exact Or.inl rfl | exact Or.inr rfl)
    (hf : X.fn x = true ∨ X.env.scope.names.lookup x = some .local := by first | exact .inl rfl | exact .inr rfl) (hf2 : X.fn y = true ∨ X.env.scope.names.lookup y = some .local := by first | exact .inl rfl | exact .inr rfl)
    (hs : swapsWithSole [.Tuple [.Name x p1, .Name y p2] z p3] e pos.line X.env = pure false := by rfl) (hw : swappedStores [.Tuple [.Name x p1, .Name y p2] z p3] e X.env = pure none := by rfl)
    (h1 : (assignEach [.Tuple [.Name x p1, .Name y p2] z p3] X.env).map (·.2) = [assign (.Tuple [.Name x p1, .Name y p2] z p3) X.env] := by rfl)
    (hn : (assignEach [.Name x p1, .Name y p2] X.env).length = 2 := by rfl) (hst0 : (assignEach [.Name x p1, .Name y p2] X.env).findIdx? (·.1) = none := by rfl)
    (hs1 : (assignEach [.Name x p1, .Name y p2] X.env).map (·.2) = assign (.Name x p1) X.env :: (assignEach [.Name y p2] X.env).map (·.2) := by rfl) (hs2 : (assignEach [.Name y p2] X.env).map (·.2) = assign (.Name y p2) X.env :: (assignEach [] X.env).map (·.2) := by rfl) :
    SS T X (.Assign [.Tuple [.Name x p1, .Name y p2] z p3] e pos :: rest) σ H D :=
  ss_cons (S1.of (ps_asg h (pg_tup hc (pgs_cons (pg_name hN hi hx hf) (pgs_cons (pg_name hN hj hy hf2) pgs_nil hs2) hs1) hn hst0) hs hw h1) ⟨rfl, .refl _, fun v H1 g hv => g_pair hv fun a b ha hb => q a b H1 g ha hb⟩)
/-- e[i] of a tuple, a list, i any int -/
theorem ee_atT {y : α} (he : atI xs i = some y) (ha : EE T X a σ H (tupP X.K R xs)) (hb : EE T X b σ H (intP i)) (hs : PlainIx b := by intro _ _; rfl) : EE T X (.Subscript a b pos) σ H (R y) :=
  EE.of (pe_ix ix_tup ha hb hs) fun H1 g Q r => ⟨rfl, g, fun x H2 g2 hx => ⟨rfl, g.trans g2, fun y' H3 g3 hy => by
    obtain ⟨p, vs, e1, h1, h2⟩ := (tupP X.K R xs).st _ _ _ g3 hx
    unfold atI at he
    cases hi : ixN xs.length i with
    | none => rw [hi] at he; exact nomatch he
    | some j =>
      rw [hi] at he
      obtain ⟨w, hw, hr⟩ := h2.get2 he
      refine ⟨p, vs, i, w, e1, hy, h1, ?_, r w H3 (g2.trans g3) hr⟩
      unfold atI
      rw [h2.length, hi]
      exact hw⟩⟩
/-- list(range(n)) -/
theorem nl_listRg (hm : X.mg "list" = none) (hm2 : X.mg "range" = none) (h0 : 0 ≤ i ∧ i < 1000000) (ha : EE T X a σ H (intP i)) (hc : X.calm = true := by rfl) (hg : Gl X "list" := by rfl) (hg2 : Gl X "range" := by rfl)
    (na : starEach [a] X.env = (false, eval a X.env) :: starEach [] X.env := by rfl) (na2 : starEach [.Call (.Name "range" p2) [a] [] p1] X.env = (false, eval (.Call (.Name "range" p2) [a] [] p1) X.env) :: starEach [] X.env := by rfl) {p3 : Pos} :
    NewL T X (.Call (.Name "list" p3) [.Call (.Name "range" p2) [a] [] p1] [] pos) σ H (fun vs _ => vs = (List.range i.toNat).map fun j : Nat => V.int (j : Int)) :=
  NewL.of (pe_listRg hc hg hm (prg_1 hg2 hm2 ha na) na2) fun H1 g Q r => ⟨rfl, g, fun v H2 g2 hv => ⟨i, hv, .of_le (by omega) (by omega) (by omega) (by omega), fun l hl => r l _ _ (g2.trans (.new hl)) (g2.old _ hl) upd_same (by
    show (List.range (i - 0).toNat).map (fun j : Nat => V.int (0 + (j : Int))) = _
    rw [Int.sub_zero]
    exact List.map_congr_left fun j _ => by rw [Int.zero_add])⟩⟩
theorem ee_listRg (hm : X.mg "list" = none) (hm2 : X.mg "range" = none) (h0 : 0 ≤ i ∧ i < 1000000) (ha : EE T X a σ H (intP i)) (hc : X.calm = true := by rfl) (hg : Gl X "list" := by rfl) (hg2 : Gl X "range" := by rfl)
    (na : starEach [a] X.env = (false, eval a X.env) :: starEach [] X.env := by rfl) (na2 : starEach [.Call (.Name "range" p2) [a] [] p1] X.env = (false, eval (.Call (.Name "range" p2) [a] [] p1) X.env) :: starEach [] X.env := by rfl) {p3 : Pos} :
    EE T X (.Call (.Name "list" p3) [.Call (.Name "range" p2) [a] [] p1] [] pos) σ H (lstP X.K (fun j : Nat => intP (j : Int)) (List.range i.toNat)) :=
  NewL.l (nl_listRg hm hm2 h0 ha hc hg hg2 na na2) fun vs H1 _ h => by
    rw [h]
    have : ∀ ns : List Nat, All2 (T := T) (fun j : Nat => intP (j : Int)) (ns.map fun j : Nat => V.int (j : Int)) ns H1 := fun ns => by
      induction ns with
      | nil => exact trivial
      | cons n ns ih => exact ⟨rfl, ih⟩
    exact this _
theorem lst_map {K : PySem.W.Frag} {β : Type} {R : β → Pr T} {f : α → β} {v : V} (h : (lstP K (fun x => R (f x)) xs).p v H) : (lstP K R (xs.map f)).p v H := by
  obtain ⟨a, vs, e, h1, h2⟩ := h
  exact ⟨a, vs, e, h1, h2.map⟩
theorem tup_map {K : PySem.W.Frag} {β : Type} {R : β → Pr T} {f : α → β} {v : V} (h : (tupP K (fun x => R (f x)) xs).p v H) : (tupP K R (xs.map f)).p v H := by
  obtain ⟨a, vs, e, h1, h2⟩ := h
  exact ⟨a, vs, e, h1, h2.map⟩
theorem all2_imp {R' : α → Pr T} : ∀ {vs : List V} {xs : List α}, (∀ v x, x ∈ xs → (R x).p v H → (R' x).p v H) → All2 R vs xs H → All2 R' vs xs H
  | [], [], _, _ => trivial
  | _ :: _, _ :: _, k, h => ⟨k _ _ List.mem_cons_self h.1, all2_imp (fun v x hx => k v x (List.mem_cons_of_mem _ hx)) h.2⟩
  | [], _ :: _, _, h => h.elim
  | _ :: _, [], _, h => h.elim
theorem lst_imp {K : PySem.W.Frag} {R' : α → Pr T} {v : V} (k : ∀ v x, x ∈ xs → (R x).p v H → (R' x).p v H) (h : (lstP K R xs).p v H) : (lstP K R' xs).p v H := by
  obtain ⟨a, vs, e, h1, h2⟩ := h
  exact ⟨a, vs, e, h1, all2_imp k h2⟩
end
end Pan
set_option maxHeartbeats 1000000
namespace Pan
open PySem PySem.Spec PyProof.Rows L2
section
variable {T : List (Addr × Str)} {X : Cx} {e : Expr} {σ : L2.St} {H : Hp} {pos p1 p2 : Pos} {p : PoolM}
/-- isinstance(e, Pool) -/
theorem ee_isPool {x : Str} (W : Wd X.K X.mg) (hm : X.mg x = none) (h : EE T X e σ H (poolP T X.K p)) (hg2 : Gl X "Pool" := by rfl) (hv : bootBuiltins x = some (.builtin "isinstance") := by decide +kernel) (hg : Gl X x := by rfl) (hn : x ≠ "__name__" := by decide) (hdb : (x == ("__debug__" : Str)) = false := by decide)
    (he : starEach [e, .Name "Pool" p2] X.env = (false, eval e X.env) :: starEach [.Name "Pool" p2] X.env := by rfl) (he2 : starEach [.Name "Pool" p2] X.env = (false, eval (.Name "Pool" p2) X.env) :: starEach [] X.env := by rfl) (hpl : (backTo pos (starEach [.Name "Pool" p2] X.env)).any (·.1) = false := by rfl) :
    EE T X (.Call (.Name x p1) [e, .Name "Pool" p2] [] pos) σ H (eqP (.bl true)) :=
  ee_bltn (SlX.call_isiSl (.ref (He.ga X.K "Pool"))) hm hv (ea_cons h (ea_cons (ee_glob W.mg_Pool relRef (P := eqP (.ref (He.ga X.K "Pool"))) rfl hg2) ea_nil he2) he) (fun vs H1 g hs Q z => by
    obtain ⟨v, u, rfl, ⟨a, dx, ws, rfl, hi, _⟩, rfl⟩ := sat2 hs
    exact ⟨a, _, dx, ws, _, true, rfl, rfl, fun _ hw => hw, hi.slt, W.s_Pool, W.isPool.1, W.isPool.2, z _ H1 (.refl _) rfl⟩) hg hn hdb he hpl
end
/-! ### spots, counts, quotas -/
def spotsM (qs : List (List (Int × Int))) : List (Nat × Nat) := qs.zipIdx.flatMap fun qi => (List.range qi.1.length).map fun j => (qi.2, j)
def countM (rows : List (List Int)) (ids : List Int) (t v : Nat) : Nat := (ids.filter fun i => decide ((rows.getD i.toNat []).getD t 0 = (v : Int))).length
def spotM (rows : List (List Int)) (qs : List (List (Int × Int))) (ids : List Int) (s : Nat × Nat) : Bool :=
  decide (((qs.getD s.1 []).getD s.2 (0, 0)).1 ≤ (countM rows ids s.1 s.2 : Int)) && decide ((countM rows ids s.1 s.2 : Int) ≤ ((qs.getD s.1 []).getD s.2 (0, 0)).2)
def keepsM (rows : List (List Int)) (qs : List (List (Int × Int))) (ids : List Int) : Bool := (spotsM qs).all (spotM rows qs ids)
theorem getD_some {α : Type} {xs : List α} {i : Nat} {d : α} (h : i < xs.length) : xs[i]? = some (xs.getD i d) := by simp [List.getD, h]
theorem spots_mem {qs : List (List (Int × Int))} {s : Nat × Nat} (h : s ∈ spotsM qs) : s.1 < qs.length ∧ s.2 < (qs.getD s.1 []).length := by
  obtain ⟨qi, h1, h2⟩ := List.mem_flatMap.mp h
  obtain ⟨j, h3, rfl⟩ := List.mem_map.mp h2
  obtain ⟨q, i⟩ := qi
  have h4 := List.mem_zipIdx' h1
  have h5 := List.mem_range.mp h3
  refine ⟨h4.1, ?_⟩
  show j < (qs.getD i []).length
  have : qs.getD i [] = q := by
    rw [List.getD_eq_getElem?_getD, List.getElem?_eq_getElem h4.1]
    exact h4.2.symm
  rw [this]
  exact h5
section
variable {T : List (Addr × Str)} {P : Program} {w : World} {K : PySem.W.Frag} {mg : Str → Option Value} {base : Heap}
def spChkPool (T : List (Addr × Str)) (K : PySem.W.Frag) : Sp := prom T (fun _ : PoolM => True) (fun p => [poolP T K p]) fun _ => eqP .non
theorem scChkPool : FnScope ["pool"] ["pool"] (defScope (top 26)) := ⟨rfl, rfl, rfl, by decide +kernel, rfl, by decide +kernel, by decide +kernel⟩
theorem ok_check_pool (W : Wd K mg) : FnR P w K mg base CX0 1 (He.ga K "check_pool") (spChkPool T K) := by
  obtain ⟨fd, F⟩ := W.d_g_check_pool
  have b : Binds K fd ["pool"] [] := F.bindsN fun _ _ _ _ _ _ us hl => match us, hl with | [_], _ => rfl
  refine fn_prom F scChkPool b (fun _ => rfl) fun cdv A outer s H vs E p D hr _ hs _ q => ?_
  obtain ⟨x, rfl, h1⟩ := sat1 hs
  exact ss_when (t := false) (et_not (t := true) (et_val (ee_isPool W W.f_isinstance (ee_var 0 rfl h1)))) (fun z => nomatch z) fun _ H1 g => ss_nil (q _ H1 g rfl)
def spSpots (T : List (Addr × Str)) (K : PySem.W.Frag) : Sp := prom T okPool (fun p => [poolP T K p]) fun p => lstP K (fun s : Nat × Nat => itP K [(s.1 : Int), (s.2 : Int)]) (spotsM p.quotas)
theorem scSpots : FnScope ["pool", "trait", "quota", "value"] ["pool"] (defScope (top 28)) := ⟨rfl, rfl, rfl, by decide +kernel, rfl, by decide +kernel, by decide +kernel⟩
theorem ok_spots_of (W : Wd K mg) : FnR P w K mg base CX0 1 (He.ga K "spots_of") (spSpots T K) := by
  obtain ⟨fd, F⟩ := W.d_g_spots_of
  have b : Binds K fd ["pool"] [] := F.bindsN fun _ _ _ _ _ _ us hl => match us, hl with | [_], _ => rfl
  refine fn_prom F scSpots b (fun _ => rfl) fun cdv A outer s H vs E p D hr ⟨_, ⟨l1, l2⟩, hq, _⟩ hs q _ => ?_
  obtain ⟨x, rfl, h1⟩ := sat1 hs
  have lq : ∀ qi ∈ p.quotas.zipIdx, qi.1.length ≤ 3 := fun ⟨q, i⟩ h => (hq q (List.fst_mem_of_mem_zipIdx h)).2.1
  refine ss_ret (EC.ee <| ec_lcPN 1 2 3 scSpots (R1 := fun qi : List (Int × Int) × Nat => intP (qi.2 : Int)) (R2 := fun qi : List (Int × Int) × Nat => quoP T K qi.1) (ys := fun qi : List (Int × Int) × Nat => List.range qi.1.length) (Q := fun _ (j : Nat) => intP (j : Int)) (Ro := fun (qi : List (Int × Int) × Nat) (j : Nat) => itP K [(qi.2 : Int), (j : Int)]) (keep := fun _ _ => true) (src_enumT W.f_enumerate (ee_bounds W (ee_var 0 rfl h1))) ?_
    (fun qi v v' H' H2 hm g hv hv' g2 s H C cl fp => ?_) (fun _ _ _ _ _ _ _ _ _ _ _ _ _ _ _ _ _ => ets_nil) (fun qi j v v' w' H' _ _ _ g hv hv' hw s H C cl fp => ee_tup (ea_cons (ee_var 1 rfl hv) (ea_cons (ee_var 3 rfl hw) ea_nil)) fun vs H1 a _ hs hp => sat_fr hs hp)) fun v H1 g hv => q v H1 g ?_
  · have := flat_len (f := fun qi : List (Int × Int) × Nat => List.range qi.1.length) (k := 3) (xs := p.quotas.zipIdx) fun qi h => by rw [List.length_range]; exact lq qi h
    rw [List.length_zipIdx] at this
    omega
  · have hl := lq qi hm
    exact src_rangeO (m := (qi.1.length : Int)) H' W.f_range (ee_lenT W.f_len (ee_var 2 rfl ((quoP T K qi.1).st _ _ _ g2 hv'))) (by omega)
  · have := lst_map (R := fun s : Nat × Nat => itP K [(s.1 : Int), (s.2 : Int)]) (f := fun ab : (List (Int × Int) × Nat) × Nat => (ab.1.2, ab.2)) hv
    rw [List.map_flatMap] at this
    have e : ∀ qi : List (Int × Int) × Nat, List.map (fun ab : (List (Int × Int) × Nat) × Nat => (ab.1.2, ab.2)) (List.map (fun j => (qi, j)) (List.filter (fun _ => true) (List.range qi.1.length))) = (List.range qi.1.length).map fun j => (qi.2, j) := fun qi => by
      rw [List.filter_eq_self.mpr fun _ _ => rfl, List.map_map]
      rfl
    simp only [e] at this
    exact this
structure CntM where
  p : PoolM
  ids : List Int
  t : Nat
  v : Nat
def okCnt (a : CntM) : Prop := okPool a.p ∧ a.ids.length ≤ 8 ∧ (∀ i ∈ a.ids, 0 ≤ i ∧ i < (a.p.rows.length : Int)) ∧ a.t < a.p.quotas.length
def spCount (T : List (Addr × Str)) (K : PySem.W.Frag) : Sp := prom T okCnt (fun a => [poolP T K a.p, itP K a.ids, itP K [(a.t : Int), (a.v : Int)]]) fun a => intP (countM a.p.rows a.ids a.t a.v : Int)
theorem scCount : FnScope ["pool", "people", "spot", "trait", "value", "person"] ["pool", "people", "spot"] (defScope (top 29)) := ⟨rfl, rfl, rfl, by decide +kernel, rfl, by decide +kernel, by decide +kernel⟩
theorem ok_count_of (W : Wd K mg) : FnR P w K mg base CX0 1 (He.ga K "count_of") (spCount T K) := by
  obtain ⟨fd, F⟩ := W.d_g_count_of
  have b : Binds K fd ["pool", "people", "spot"] [] := F.bindsN fun _ _ _ _ _ _ us hl => match us, hl with | [_, _, _], _ => rfl
  refine fn_prom F scCount b (fun _ => rfl) fun cdv A outer s H vs E a D hr ⟨⟨_, _, _, _, _, hp⟩, l1, hi, ht⟩ hs q _ => ?_
  obtain ⟨x, y, z, rfl, h1, h2, h3⟩ := sat3 hs
  refine ss_unp 3 4 ((ee_var 2 rfl h3).imp (P' := pairP K (intP (a.t : Int)) (intP (a.v : Int))) fun _ _ _ hv => fr_pair (p := ((a.t : Int), (a.v : Int))) hv) scCount.nd fun u w' H1 g1 hu hw => ?_
  obtain rfl := hu
  obtain rfl := hw
  have k1 := (poolP T K a.p).st _ _ _ g1 h1
  have k2 := (itP K a.ids).st _ _ _ g1 h2
  refine ss_ret (EE.cast (ee_lenL W.f_len (EC.ee <| ec_lcIf 5 scCount (Ro := intP) (keep := fun i => decide ((a.p.rows.getD i.toNat []).getD a.t 0 = (a.v : Int))) (src_tup (ee_var 1 rfl k2)) (by omega) (fun i v H' hm g hv s H C cl fp => ?_) fun i v H' _ _ g hv s H C cl fp => ee_var 5 rfl hv)) rfl) fun v H2 g2 hv => q v H2 (g1.trans g2) hv
  obtain ⟨i0, i1⟩ := hi i hm
  have hrow : a.p.rows[i.toNat]? = some (a.p.rows.getD i.toNat []) := getD_some (by omega)
  have hlen := (hp _ (List.mem_of_getElem? hrow)).1
  have hcell : (a.p.rows.getD i.toNat [])[a.t]? = some ((a.p.rows.getD i.toNat []).getD a.t 0) := getD_some (by omega)
  have e : i = (i.toNat : Int) := by omega
  refine ET.cast (et_eqS rfl (ee_ixT (R := intP) a.t hcell (EE.x2p (ee_ixT i.toNat hrow (ee_rows W (ee_var 0 rfl ((poolP T K a.p).st _ _ _ g k1))) (ee_var 5 rfl (e ▸ hv)))) (ee_v 3 rfl)) (ee_v 4 rfl)) ?_
  simp
end
end Pan
set_option maxHeartbeats 1000000
namespace Pan
open PySem PySem.Spec PyProof.Rows L2
theorem take_snoc {α : Type} {xs : List α} {i : Nat} {x : α} (h : xs[i]? = some x) : xs.take (i + 1) = xs.take i ++ [x] := by rw [List.take_add_one, h]; rfl
section
variable {T : List (Addr × Str)} {P : Program} {w : World} {K : PySem.W.Frag} {mg : Str → Option Value} {base : Heap}
def okIds (p : PoolM) (ids : List Int) : Prop := okPool p ∧ ids.length ≤ 8 ∧ ∀ i ∈ ids, 0 ≤ i ∧ i < (p.rows.length : Int)
def spKeeps (T : List (Addr × Str)) (K : PySem.W.Frag) : Sp := prom T (fun a : PoolM × List Int => okIds a.1 a.2) (fun a => [poolP T K a.1, itP K a.2]) fun a => eqP (.bl (keepsM a.1.rows a.1.quotas a.2))
theorem scKeeps : FnScope ["pool", "people", "trait", "value", "low", "high"] ["pool", "people"] (defScope (top 30)) := ⟨rfl, rfl, rfl, by decide +kernel, rfl, by decide +kernel, by decide +kernel⟩
theorem ok_keeps_quotas (W : Wd K mg) : FnR P w K mg base CX0 2 (He.ga K "keeps_quotas") (spKeeps T K) := by
  obtain ⟨fd, F⟩ := W.d_g_keeps_quotas
  have b : Binds K fd ["pool", "people"] [] := F.bindsN fun _ _ _ _ _ _ us hl => match us, hl with | [_, _], _ => rfl
  refine fn_prom F scKeeps b (fun _ => rfl) fun cdv A outer s H vs E a D hr ⟨hP, l1, hi⟩ hs q _ => ?_
  obtain ⟨x, y, rfl, h1, h2⟩ := sat2 hs
  have L1 := ok_spots_of (T := T) (P := P) (w := w) (base := base) W
  have L2 := ok_count_of (T := T) (P := P) (w := w) (base := base) W
  refine ss_for2 2 3 (Src.imp (R' := fun s : Nat × Nat => pairP K (intP (s.1 : Int)) (intP (s.2 : Int))) (src_list (ee_callP (P := lstP K (fun s : Nat × Nat => itP K [(s.1 : Int), (s.2 : Int)]) (spotsM a.1.quotas)) L1 W.g_spots_of.mg W.g_spots_of.kp hr a.1 hP (ea_cons (ee_var 0 rfl h1) ea_nil))) fun s _ _ _ hv => fr_pair (p := ((s.1 : Int), (s.2 : Int))) hv) PassesOwn.never scKeeps.nd
    (fun i σ' H' => (∃ u1 u2 u3 u4, σ' = [some x, some y, u1, u2, u3, u4]) ∧ ((spotsM a.1.quotas).take i).all (spotM a.1.rows a.1.quotas a.2) = true) (fun H2 g => ⟨⟨_, _, _, _, rfl⟩, rfl⟩) ?_ ?_
  · rintro i sp v w' σ' H' H3 hsp ⟨⟨u1, u2, u3, u4, rfl⟩, hall⟩ g1 g2 hv hw
    obtain rfl := hv
    obtain rfl := hw
    have gg := g1.trans g2
    obtain ⟨m1, m2⟩ := spots_mem (List.mem_of_getElem? hsp)
    have e1 : a.1.quotas[sp.1]? = some (a.1.quotas.getD sp.1 []) := getD_some m1
    have e2 : (a.1.quotas.getD sp.1 [])[sp.2]? = some ((a.1.quotas.getD sp.1 []).getD sp.2 (0, 0)) := getD_some m2
    refine ss_unp 4 5 (EE.imp (ee_ixT sp.2 e2 (ee_ixT sp.1 e1 (ee_bounds W (ee_var 0 rfl ((poolP T K a.1).st _ _ _ gg h1))) (ee_v 2 rfl)) (ee_v 3 rfl)) fun _ _ _ hv => fr_pair hv) scKeeps.nd fun lo hi' H4 g4 hlo hhi => ?_
    obtain rfl := hlo
    obtain rfl := hhi
    have g04 := gg.trans g4
    refine ss_when (et_not (et_chainLe (ee_v 4 rfl) (ee_callP (P := intP (countM a.1.rows a.2 sp.1 sp.2 : Int)) L2 W.g_count_of.mg W.g_count_of.kp hr ⟨a.1, a.2, sp.1, sp.2⟩ ⟨hP, l1, hi, m1⟩ (ea_cons (ee_var 0 rfl ((poolP T K a.1).st _ _ _ g04 h1)) (ea_cons (ee_var 1 rfl ((itP K a.2).st _ _ _ g04 h2)) (ea_cons (ee_tup (P := itP K [(sp.1 : Int), (sp.2 : Int)]) (ea_cons (ee_v 2 rfl) (ea_cons (ee_v 3 rfl) ea_nil)) fun vs H1 p _ hs hp => sat_fr hs hp) ea_nil)))) (ee_v 5 rfl))) (fun ht H5 g5 => ?_) fun ht H5 g5 => ?_
    · refine ss_ret ee_bl fun v H6 g6 hv => q v H6 ((g04.trans g5).trans g6) ?_
      have hf : spotM a.1.rows a.1.quotas a.2 sp = false := by
        rw [Bool.not_eq_true'] at ht
        exact ht
      have : keepsM a.1.rows a.1.quotas a.2 = false := by
        unfold keepsM
        rw [List.all_eq_false]
        exact ⟨sp, List.mem_of_getElem? hsp, by rw [hf]; simp⟩
      rw [this]
      exact hv
    · refine ss_nil ⟨g4.trans g5, ⟨_, _, _, _, rfl⟩, ?_⟩
      have hf : spotM a.1.rows a.1.quotas a.2 sp = true := by
        rw [Bool.not_eq_false'] at ht
        exact ht
      rw [take_snoc hsp, List.all_append, hall, Bool.true_and, List.all_cons, hf]
      rfl
  · rintro σ' H' g ⟨⟨u1, u2, u3, u4, rfl⟩, hall⟩
    rw [List.take_length] at hall
    refine ss_ret ee_bl fun v H6 g6 hv => q v H6 (g.trans g6) ?_
    unfold keepsM
    rw [hall]
    exact hv
/-! ### groups, panels -/
def mayM (some : List Int) (x : Int) : Bool := decide (some = []) || decide (some.getLastD 0 < x)
def growM (ns : List Int) (found : List (List Int)) : List (List Int) := found.flatMap fun g => (ns.filter (mayM g)).map fun x => g ++ [x]
def groupsM (ns : List Int) : Nat → List (List Int)
  | 0 => [[]]
  | k + 1 => growM ns (groupsM ns k)
def okGroups (ns : List Int) (k : Nat) : Prop := ns.length ≤ 8 ∧ k ≤ 9 ∧ ∀ i < k, (groupsM ns i).length * ns.length ≤ 1000 ∧ ∀ g ∈ groupsM ns i, g.length ≤ 9
def spGroups (T : List (Addr × Str)) (K : PySem.W.Frag) : Sp := prom T (fun a : List Int × Nat => okGroups a.1 a.2) (fun a => [lstP K intP a.1, intP (a.2 : Int)]) fun a => lstP K (itX T K) (groupsM a.1 a.2)
theorem scGroups : FnScope ["people", "size", "found", "turn", "some", "person"] ["people", "size"] (defScope (top 31)) := ⟨rfl, rfl, rfl, by decide +kernel, rfl, by decide +kernel, by decide +kernel⟩
theorem sat_app {T : List (Addr × Str)} {H : Hp} : ∀ {ns : List Int} {x : Int} {vs : List V}, Sat (T := T) (ns.map intP ++ [intP x]) vs H → All2 (T := T) intP vs (ns ++ [x]) H
  | [], x, vs, h => by
    obtain ⟨v, rfl, hv⟩ := sat1 h
    exact ⟨hv, trivial⟩
  | n :: ns, x, vs, h => by
    cases vs with
    | nil => exact h.elim
    | cons v vs => exact ⟨h.1, sat_app h.2⟩
theorem all_sat {T : List (Addr × Str)} {H : Hp} : ∀ {ns : List Int} {vs : List V}, All2 (T := T) intP vs ns H → Sat (T := T) (ns.map intP) vs H
  | [], [], _ => trivial
  | _ :: _, _ :: _, h => ⟨h.1, all_sat h.2⟩
  | [], _ :: _, h => h.elim
  | _ :: _, [], h => h.elim
/-- ( *g, x) -/
theorem ee_snoc {T : List (Addr × Str)} {X : Cx} {a b : Expr} {σ : L2.St} {H : Hp} {pos p2 : Pos} {z : Nat} {g : List Int} {x : Int} (hl : g.length ≤ 99) (ha : EE T X a σ H (itP X.K g)) (hb : EE T X b σ H (intP x)) (hs : starEach [.Starred a p2, b] X.env = (true, eval a X.env) :: starEach [b] X.env := by rfl) (hs2 : starEach [b] X.env = (false, eval b X.env) :: starEach [] X.env := by rfl) :
    EE T X (.Tuple [.Starred a p2, b] z pos) σ H (itX T X.K (g ++ [x])) :=
  ee_tup (Ps := g.map intP ++ [intP x]) (ea_star ha (fun v H1 ⟨q, vs, e, h1, h2⟩ => ⟨q, vs, e, .inl h1, all_sat h2⟩) (ea_cons hb ea_nil hs2) hs) (fun vs H1 p _ hv hp => itX_of hp (sat_app hv)) (by rw [List.length_append, List.length_map]; exact Nat.ble_eq.mpr (by simp; omega))
theorem atI_lastD {g : List Int} (h : g ≠ []) : atI g (-1) = some (g.getLastD 0) := by
  obtain ⟨ys, y, rfl⟩ : ∃ ys y, g = ys ++ [y] := ⟨g.dropLast, g.getLast h, (List.dropLast_concat_getLast h).symm⟩
  rw [atI_last]
  simp
theorem ok_groups_of (W : Wd K mg) : FnR P w K mg base CX0 1 (He.ga K "groups_of") (spGroups T K) := by
  obtain ⟨fd, F⟩ := W.d_g_groups_of
  have b : Binds K fd ["people", "size"] [] := F.bindsN fun _ _ _ _ _ _ us hl => match us, hl with | [_, _], _ => rfl
  refine fn_prom F scGroups b (fun _ => rfl) fun cdv A outer s H vs E a D hr ⟨l1, l2, hi⟩ hs q _ => ?_
  obtain ⟨x, y, rfl, h1, h2⟩ := sat2 hs
  obtain rfl := h2
  refine ss_set 2 (ee_new (P := lstP K (itX T K) [[]]) (nl_lst (ea_cons (ee_tup (P := itX T K []) ea_nil fun vs H1 p _ hs hp => itX_of hp (by cases vs with | nil => exact trivial | cons _ _ => exact hs.elim)) ea_nil)) fun p vs H1 g hp hS => ?_) scGroups.nd fun f H1 g1 hf => ?_
  · obtain ⟨v, rfl, hv⟩ := sat1 hS
    exact ⟨p, [v], rfl, .inl (.inl hp), (itX T K []).st _ _ _ .del hv, trivial⟩
  refine ss_for 3 (src_range W.f_range (ee_v 1 rfl) (by omega)) PassesOwn.never scGroups.nd (fun i σ' H' => ∃ f u, σ' = [some x, some (.int a.2), some f, u, none, none] ∧ (lstP K (itX T K) (groupsM a.1 i)).p f H') (fun H2 g => ⟨f, none, rfl, (lstP K (itX T K) [[]]).st _ _ _ g hf⟩) ?_ ?_
  · rintro i j v σ' H' H3 hj ⟨f', u', rfl, hf'⟩ g2 g3 hv
    have hil : i < a.2 := by
      have := (List.getElem?_eq_some_iff.mp hj).1
      rw [List.length_range] at this
      omega
    obtain ⟨b1, b2⟩ := hi i hil
    have gg := (g1.trans g2).trans g3
    refine ss_setC 2 (ec_lcNN 4 5 scGroups (R := itX T K) (ys := fun _ => a.1) (Q := fun _ n => intP n) (Ro := fun g n => itX T K (g ++ [n])) (keep := mayM) (src_list (ee_var 2 rfl ((lstP K (itX T K) _).st _ _ _ g3 hf'))) ?_ (fun g v' H4 H5 _ g4 hv' g5 s H C cl fp => src_listP (ee_v 0 rfl) g5 ((lstP K intP a.1).st _ _ _ (gg.trans g4) h1))
      (fun g n v' w' H4 hg hn g4 hv' hw s H C cl fp => ets_one (et_w (ew_or (ET.cast (et_eqD (H := H4) hr (Dat.ints g) (Dat.ints []) (ee_var 4 rfl hv'.1) (ee_tup (P := itP K []) ea_nil fun vs H1 p _ hs hp => ⟨p, vs, rfl, SqT.of hp, by cases vs with | nil => exact trivial | cons _ _ => exact hs.elim⟩)) eqv_ints) fun hne H5 g5 => ew_or1 (et_lt (ee_atT (i := -1) (atI_lastD (of_decide_eq_false hne)) (ee_var 4 rfl ((itP K g).st _ _ _ g5 hv'.1)) (ee_neg ee_int)) (ee_var 5 rfl ((intP _).st _ _ _ g5 hw))))))
      fun g n v' w' H4 hg hn _ g4 hv' hw s H C cl fp => ee_snoc (Nat.le_trans (b2 g hg) (by omega)) (ee_var 4 rfl hv'.1) (ee_var 5 rfl hw)) fun f2 H4 g4 hv' => ?_
    · have := flat_len (f := fun _ : List Int => a.1) (k := a.1.length) (xs := groupsM a.1 i) fun _ _ => Nat.le_refl _
      omega
    · have := lst_map (R := itX T K) (f := fun ab : List Int × Int => ab.1 ++ [ab.2]) hv'
      rw [List.map_flatMap] at this
      simp only [List.map_map] at this
      exact ss_nil ⟨g4, f2, some v, rfl, this⟩
  · rintro σ' H' g ⟨f', u', rfl, hf'⟩
    rw [List.length_range] at hf'
    exact ss_ret (ee_var 2 rfl hf') fun v H2 g2 hv => q v H2 ((g1.trans g).trans g2) hv
end
end Pan
set_option maxHeartbeats 1000000
namespace Pan
open PySem PySem.Spec PyProof.Rows L2
def allI (n : Nat) : List Int := (List.range n).map fun i : Nat => (i : Int)
instance (ns : List Int) (k : Nat) : Decidable (okGroups ns k) := inferInstanceAs (Decidable (_ ∧ _ ∧ _))
theorem groups_ok : ∀ n < 9, ∀ k < 9, okGroups (allI n) k ∧ ∀ g ∈ groupsM (allI n) k, g.length ≤ 8 ∧ ∀ i ∈ g, 0 ≤ i ∧ i < (n : Int) := by decide +kernel
theorem groups_all : ∀ n < 9, groupsM (allI n) n = [allI n] ∧ groupsM (allI n) (n + 1) = [] := by decide +kernel
/-- as many people as a panel has, or one less -/
def okPan (p : PoolM) : Prop := okPool p ∧ (p.size = (p.rows.length : Int) ∨ p.size = (p.rows.length : Int) + 1)
def drawsM (p : PoolM) : Bool := decide (p.size = (p.rows.length : Int)) && keepsM p.rows p.quotas (allI p.rows.length)
def panelsM (p : PoolM) : List (List Int) := if drawsM p = true then [allI p.rows.length] else []
theorem okPan.n (p : PoolM) (h : okPan p) : p.rows.length ≤ 8 := h.1.2.2.2.2.1
theorem panels_eq {p : PoolM} (h : okPan p) : (groupsM (allI p.rows.length) p.size.toNat).filter (fun g => keepsM p.rows p.quotas g) = panelsM p := by
  have hn := h.n
  obtain ⟨g1, g2⟩ := groups_all p.rows.length (by omega)
  unfold panelsM drawsM
  rcases h.2 with e | e
  · rw [show p.size.toNat = p.rows.length by omega, g1, decide_eq_true e, Bool.true_and]
    cases hk : keepsM p.rows p.quotas (allI p.rows.length) <;> simp [hk]
  · rw [show p.size.toNat = p.rows.length + 1 by omega, g2, decide_eq_false (by omega)]
    simp
section
variable {T : List (Addr × Str)} {P : Program} {w : World} {K : PySem.W.Frag} {mg : Str → Option Value} {base : Heap}
def spPanels (T : List (Addr × Str)) (K : PySem.W.Frag) : Sp := prom T okPan (fun p => [poolP T K p]) fun p => lstP K (itX T K) (panelsM p)
theorem scPanels : FnScope ["pool", "everybody", "some"] ["pool"] (defScope (top 32)) := ⟨rfl, rfl, rfl, by decide +kernel, rfl, by decide +kernel, by decide +kernel⟩
theorem ok_panels_of (W : Wd K mg) : FnR P w K mg base CX0 3 (He.ga K "panels_of") (spPanels T K) := by
  obtain ⟨fd, F⟩ := W.d_g_panels_of
  have b : Binds K fd ["pool"] [] := F.bindsN fun _ _ _ _ _ _ us hl => match us, hl with | [_], _ => rfl
  refine fn_prom F scPanels b (fun _ => rfl) fun cdv A outer s H vs E p D hr hp hs q _ => ?_
  obtain ⟨x, rfl, h1⟩ := sat1 hs
  have hn := hp.n
  have hsz := hp.1.1
  have Lg := ok_groups_of (T := T) (P := P) (w := w) (base := base) W
  have Lk := ok_keeps_quotas (T := T) (P := P) (w := w) (base := base) W
  obtain ⟨og, og2⟩ := groups_ok p.rows.length (by omega) p.size.toNat (by omega)
  refine ss_set 1 (EE.imp (P' := lstP K intP (allI p.rows.length)) (ee_listRg W.f_list W.f_range (i := (p.rows.length : Int)) (by omega) (ee_lenP W W.f_len hr hn (ee_var 0 rfl h1))) fun v H1 g hv => lst_map (R := intP) (f := fun j : Nat => (j : Int)) hv) scPanels.nd fun ev H1 g1 he => ?_
  have k1 := (poolP T K p).st _ _ _ g1 h1
  refine ss_ret (EC.ee <| ec_lcIf 2 scPanels (Ro := itX T K) (keep := fun g => keepsM p.rows p.quotas g) (src_list (ee_callP (P := lstP K (itX T K) (groupsM (allI p.rows.length) p.size.toNat)) Lg W.g_groups_of.mg W.g_groups_of.kp hr (allI p.rows.length, p.size.toNat) og (ea_cons (ee_var 1 rfl he) (ea_cons (EE.cast (ee_many W (ee_var 0 rfl k1)) (by congr 1; omega)) ea_nil)))) ?_ (fun g v H' hg gg hv s H C cl fp => ?_) fun g v H' _ _ gg hv s H C cl fp => ee_var 2 rfl hv) fun v H2 g2 hv => q v H2 (g1.trans g2) ?_
  · have : ∀ n < 9, ∀ k < 9, (groupsM (allI n) k).length ≤ 1000 := by decide +kernel
    exact this _ (by omega) _ (by omega)
  · exact et_val (ee_callP Lk W.g_keeps_quotas.mg W.g_keeps_quotas.kp hr (p, g) ⟨hp.1, (og2 g hg).1, (og2 g hg).2⟩ (ea_cons (ee_var 0 rfl ((poolP T K p).st _ _ _ gg k1)) (ea_cons (ee_var 2 rfl hv.1) ea_nil)))
  · rw [panels_eq hp] at hv
    exact hv
/-! ### tellings -/
def stepRows (found : List (List Int)) (q : List (Int × Int)) : List (List Int) := found.flatMap fun r => (List.range q.length).map fun v : Nat => r ++ [(v : Int)]
def rowsOfM (qs : List (List (Int × Int))) : List (List Int) := qs.foldl stepRows [[]]
theorem step_len {found : List (List Int)} {q : List (Int × Int)} {m k : Nat} (hq : q.length ≤ 3) (h : found.length ≤ m ∧ ∀ r ∈ found, r.length = k) : (stepRows found q).length ≤ m * 3 ∧ ∀ r ∈ stepRows found q, r.length = k + 1 := by
  refine ⟨?_, fun r hr => ?_⟩
  · have := flat_len (f := fun r : List Int => (List.range q.length).map fun v : Nat => r ++ [(v : Int)]) (k := 3) (xs := found) fun r _ => by rw [List.length_map, List.length_range]; exact hq
    unfold stepRows
    omega
  · obtain ⟨r', h1, h2⟩ := List.mem_flatMap.mp hr
    obtain ⟨v, _, rfl⟩ := List.mem_map.mp h2
    rw [List.length_append, h.2 r' h1]
    rfl
theorem rows_len {qs : List (List (Int × Int))} : ∀ (i : Nat), i ≤ qs.length → (∀ q ∈ qs, q.length ≤ 3) → (rowsOfM (qs.take i)).length ≤ 3 ^ i ∧ ∀ r ∈ rowsOfM (qs.take i), r.length = i
  | 0, _, _ => by simp [rowsOfM]
  | i + 1, hi, h => by
    have hq : qs[i]? = some qs[i] := List.getElem?_eq_getElem hi
    rw [take_snoc hq]
    unfold rowsOfM
    rw [List.foldl_append]
    exact step_len (h _ (List.getElem_mem hi)) (rows_len i (Nat.le_of_lt hi) h)
def spRowsOf (T : List (Addr × Str)) (K : PySem.W.Frag) : Sp := prom T okPool (fun p => [poolP T K p]) fun p => lstP K (itX T K) (rowsOfM p.quotas)
theorem scRowsOf : FnScope ["pool", "found", "quotas", "row", "value"] ["pool"] (defScope (top 43)) := ⟨rfl, rfl, rfl, by decide +kernel, rfl, by decide +kernel, by decide +kernel⟩
theorem emptyT {z : Nat} {X : Cx} {σ : L2.St} {H : Hp} {pos : Pos} : EE T X (.Tuple [] z pos) σ H (itX T X.K []) :=
  ee_tup ea_nil fun vs H1 p _ hs hp => itX_of hp (by cases vs with | nil => exact trivial | cons _ _ => exact hs.elim)
/-- [()] -/
theorem unitL {z : Nat} {X : Cx} {σ : L2.St} {H : Hp} {pos p2 : Pos} (hs : starEach [.Tuple [] z p2] X.env = (false, eval (.Tuple [] z p2) X.env) :: starEach [] X.env := by rfl) : EE T X (.List [.Tuple [] z p2] pos) σ H (lstP X.K (itX T X.K) [[]]) :=
  ee_new (nl_lst (ea_cons emptyT ea_nil hs)) fun p vs H1 g hp hS => by
    obtain ⟨v, rfl, hv⟩ := sat1 hS
    exact ⟨p, [v], rfl, .inl (.inl hp), (itX T X.K []).st _ _ _ .del hv, trivial⟩
theorem ok_rows_of (W : Wd K mg) : FnR P w K mg base CX0 1 (He.ga K "rows_of") (spRowsOf T K) := by
  obtain ⟨fd, F⟩ := W.d_g_rows_of
  have b : Binds K fd ["pool"] [] := F.bindsN fun _ _ _ _ _ _ us hl => match us, hl with | [_], _ => rfl
  refine fn_prom F scRowsOf b (fun _ => rfl) fun cdv A outer s H vs E p D hr ⟨_, ⟨l1, l2⟩, hq, _⟩ hs q _ => ?_
  obtain ⟨x, rfl, h1⟩ := sat1 hs
  have lq : ∀ q ∈ p.quotas, q.length ≤ 3 := fun q h => (hq q h).2.1
  refine ss_set 1 unitL scRowsOf.nd fun f H1 g1 hf => ?_
  refine ss_for 2 (src_tup (ee_bounds W (ee_var 0 rfl ((poolP T K p).st _ _ _ g1 h1)))) PassesOwn.never scRowsOf.nd (fun i σ' H' => ∃ f u, σ' = [some x, some f, u, none, none] ∧ (lstP K (itX T K) (rowsOfM (p.quotas.take i))).p f H') (fun H2 g => ⟨f, none, rfl, (lstP K (itX T K) [[]]).st _ _ _ g hf⟩) ?_ ?_
  · rintro i qs v σ' H' H3 hqs ⟨f', u', rfl, hf'⟩ g2 g3 hv
    have hi : i < p.quotas.length := (List.getElem?_eq_some_iff.mp hqs).1
    have hl3 := lq qs (List.mem_of_getElem? hqs)
    obtain ⟨b1, b2⟩ := rows_len i (Nat.le_of_lt hi) lq
    have b3 : 3 ^ i ≤ 3 ^ 2 := Nat.pow_le_pow_right (by omega) (by omega)
    refine ss_setC 1 (ec_lcNN 3 4 scRowsOf (R := itX T K) (ys := fun _ => List.range qs.length) (Q := fun _ (n : Nat) => intP (n : Int)) (Ro := fun r (n : Nat) => itX T K (r ++ [(n : Int)])) (keep := fun _ _ => true) (src_list (ee_var 1 rfl ((lstP K (itX T K) _).st _ _ _ g3 hf'))) ?_
      (fun r v' H4 H5 _ g4 hv' g5 s H C cl fp => src_rangeO (m := (qs.length : Int)) H4 W.f_range (ee_lenT W.f_len (ee_var 2 rfl ((quoP T K qs).st _ _ _ (g4.trans g5) hv))) (by omega)) (fun _ _ _ _ _ _ _ _ _ _ _ _ _ _ _ => ets_nil)
      fun r n v' w' H4 hg hn _ g4 hv' hw s H C cl fp => ee_snoc (by have := b2 r hg; omega) (ee_var 3 rfl hv'.1) (ee_var 4 rfl hw)) fun f2 H4 g4 hv' => ?_
    · have := flat_len (f := fun _ : List Int => List.range qs.length) (k := 3) (xs := rowsOfM (p.quotas.take i)) fun _ _ => by rw [List.length_range]; exact hl3
      omega
    · have := lst_map (R := itX T K) (f := fun ab : List Int × Nat => ab.1 ++ [(ab.2 : Int)]) hv'
      rw [List.map_flatMap] at this
      have e : ∀ r : List Int, List.map (fun ab : List Int × Nat => ab.1 ++ [(ab.2 : Int)]) (List.map (fun b => (r, b)) (List.filter (fun _ => true) (List.range qs.length))) = (List.range qs.length).map fun v : Nat => r ++ [(v : Int)] := fun r => by
        rw [List.filter_eq_self.mpr fun _ _ => rfl, List.map_map]
        rfl
      simp only [e] at this
      refine ss_nil ⟨g4, f2, some v, rfl, ?_⟩
      rw [take_snoc hqs]
      unfold rowsOfM
      rw [List.foldl_append]
      exact this
  · rintro σ' H' g ⟨f', u', rfl, hf'⟩
    rw [List.take_length] at hf'
    exact ss_ret (ee_var 1 rfl hf') fun v H2 g2 hv => q v H2 ((g1.trans g).trans g2) hv
def toldM (rows : List (List Int)) (i : Int) (row : List Int) : List (List Int) := rows.zipIdx.map fun rj => if (rj.2 : Int) = i then row else rj.1
def spToldP (T : List (Addr × Str)) (K : PySem.W.Frag) : Sp := prom T (fun a : PoolM × Int × List Int => okPool a.1) (fun a => [poolP T K a.1, intP a.2.1, itX T K a.2.2]) fun a => rowsP T K (toldM a.1.rows a.2.1 a.2.2)
theorem scToldP : FnScope ["pool", "person", "row", "one", "own"] ["pool", "person", "row"] (defScope (top 44)) := ⟨rfl, rfl, rfl, by decide +kernel, rfl, by decide +kernel, by decide +kernel⟩
theorem ok_told_people (W : Wd K mg) : FnR P w K mg base CX0 1 (He.ga K "told_people") (spToldP T K) := by
  obtain ⟨fd, F⟩ := W.d_g_told_people
  have b : Binds K fd ["pool", "person", "row"] [] := F.bindsN fun _ _ _ _ _ _ us hl => match us, hl with | [_, _, _], _ => rfl
  refine fn_prom F scToldP b (fun _ => rfl) fun cdv A outer s H vs E a D hr hp hs q _ => ?_
  obtain ⟨x, y, z, rfl, h1, h2, h3⟩ := sat3 hs
  have hl := hp.2.2.2.2.1
  refine ss_ret (EE.imp (P' := rowsP T K (toldM a.1.rows a.2.1 a.2.2)) (ee_tupL W.f_tuple (EC.ee <| ec_lcP 3 4 scToldP (R1 := fun rj : List Int × Nat => intP (rj.2 : Int)) (R2 := fun rj : List Int × Nat => itX T K rj.1) (Ro := fun rj : List Int × Nat => itX T K (if (rj.2 : Int) = a.2.1 then a.2.2 else rj.1)) (src_enumT W.f_enumerate (ee_rows W (ee_var 0 rfl h1))) (by rw [List.length_zipIdx]; omega)
    fun rj v w' H' _ g hv hw s H C cl fp => ee_if (et_eqS rfl (ee_var 3 rfl hv) (ee_var 1 rfl ((intP _).st _ _ _ g h2))) (fun ht => ?_) fun hf => ?_)) fun v H1 _ hv => tup_map (R := itX T K) hv) fun v H1 g hv => q v H1 g hv
  · have : (rj.2 : Int) = a.2.1 := by simpa using ht
    rw [if_pos this]
    exact ee_var 2 rfl ((itX T K _).st _ _ _ g h3)
  · have : ¬ (rj.2 : Int) = a.2.1 := by simpa using hf
    rw [if_neg this]
    exact ee_var 4 rfl hw
end
end Pan
set_option maxHeartbeats 1000000
/-! Stores into lists; cutting off what changes. -/
namespace Pan
open PySem PySem.Spec PyProof.Rows L2
section
variable {T : List (Addr × Str)} {X : Cx} {o i e o2 i2 : Expr} {σ : L2.St} {H : Hp} {pos p1 p2 p3 p4 : Pos} {R : V → Hp → Prop} {D : Ends} {rest : List Stmt} {P1 P2 : Pr T}
/-- o[i] = v -/
def StS (T : List (Addr × Str)) (X : Cx) (o i : Expr) (v : V) (σ : L2.St) (H : Hp) (Q : Hp → Prop) : Prop := ∃ (p : Addr) (k : Int), EE T X o σ H (eqP (.ref p)) ∧ (∀ H1, Gr T H H1 → EE T X i σ H1 (intP k)) ∧ ∀ H2, Gr T H H2 → ∃ xs j, H2 p = some (.lst xs) ∧ ixN xs.length k = some j ∧ Q (upd H2 p (.lst (xs.set j v)))
theorem pg_sts (ha : ∀ v, assign (.Subscript o i pos) X.env v = (do
      let ov ← holding [v] (eval o X.env)
      let iv ← holding [v, ov] (eval i X.env)
      standAt pos
      holding [v, ov, iv] (setItem ov iv v)
      release [v, ov, iv] [])) : PG X (.Subscript o i pos) (fun v σ H Q => StS T X o i v σ H fun H' => Q σ H') := by
  have hg := pg_sub (X := X) (to := fun σ' H' Q => ∃ p, EE T X o σ' H' (eqP (.ref p)) ∧ ∀ H2, Gr T H' H2 → Q (.ref p) H2) (ti := fun σ' H' Q => ∃ k, EE T X i σ' H' (intP k) ∧ ∀ H2, Gr T H' H2 → Q (.int k) H2)
    ⟨fun pins s σ' H' Q I ⟨p, h, q⟩ => h.run pins s σ' H' Q I ⟨rfl, .refl _, fun v H2 g hv => by rw [show v = V.ref p from hv]; exact q H2 g⟩⟩ ⟨fun pins s σ' H' Q I ⟨k, h, q⟩ => h.run pins s σ' H' Q I ⟨rfl, .refl _, fun v H2 g hv => by rw [show v = V.int k from hv]; exact q H2 g⟩⟩ set_list ha
  refine ⟨fun pins s σ' H' v u Q I r ⟨p, k, h1, h2, h3⟩ => hg.run pins s σ' H' v u Q I r ⟨p, h1, fun H1 g1 => ⟨k, h2 H1 g1, fun H2 g2 => ?_⟩⟩⟩
  obtain ⟨xs, j, a, b, c⟩ := h3 H2 (g1.trans g2)
  exact ⟨p, xs, k, j, rfl, rfl, a, b, c⟩
theorem ss_lset (h : EX X e σ H R) (q : ∀ v H1, R v H1 → StS T X o i v σ H1 fun H2 => SS T X rest σ H2 D) (hs : swapsWithSole [.Subscript o i p2] e pos.line X.env = pure false := by rfl) (hw : swappedStores [.Subscript o i p2] e X.env = pure none := by rfl)
    (h1 : (assignEach [.Subscript o i p2] X.env).map (·.2) = [assign (.Subscript o i p2) X.env] := by rfl) (ha : ∀ v, assign (.Subscript o i p2) X.env v = (do
      let ov ← holding [v] (eval o X.env)
      let iv ← holding [v, ov] (eval i X.env)
      standAt p2
      holding [v, ov, iv] (setItem ov iv v)
      release [v, ov, iv] []) := by intro _; rfl) : SS T X (.Assign [.Subscript o i p2] e pos :: rest) σ H D :=
  ss_cons (S1.of (ps_asg h (pg_sts (T := T) ha) hs hw h1) ⟨rfl, rfl, q⟩)
/-- o[i], o2[i2] = e -/
theorem ss_lset2 {z : Nat} (h : EX X e σ H R) (q : ∀ v H1, R v H1 → ∃ a v1 v2, v = .ref a ∧ SqT X.K H1 a [v1, v2] ∧ StS T X o i v1 σ H1 fun H2 => StS T X o2 i2 v2 σ H2 fun H3 => SS T X rest σ H3 D) (hc : X.calm = true := by rfl)
    (hs : swapsWithSole [.Tuple [.Subscript o i p1, .Subscript o2 i2 p2] z p3] e pos.line X.env = pure false := by rfl) (hw : swappedStores [.Tuple [.Subscript o i p1, .Subscript o2 i2 p2] z p3] e X.env = pure none := by rfl)
    (h1 : (assignEach [.Tuple [.Subscript o i p1, .Subscript o2 i2 p2] z p3] X.env).map (·.2) = [assign (.Tuple [.Subscript o i p1, .Subscript o2 i2 p2] z p3) X.env] := by rfl)
    (hn : (assignEach [.Subscript o i p1, .Subscript o2 i2 p2] X.env).length = 2 := by rfl) (hst0 : (assignEach [.Subscript o i p1, .Subscript o2 i2 p2] X.env).findIdx? (·.1) = none := by rfl)
    (hs1 : (assignEach [.Subscript o i p1, .Subscript o2 i2 p2] X.env).map (·.2) = assign (.Subscript o i p1) X.env :: (assignEach [.Subscript o2 i2 p2] X.env).map (·.2) := by rfl) (hs2 : (assignEach [.Subscript o2 i2 p2] X.env).map (·.2) = assign (.Subscript o2 i2 p2) X.env :: (assignEach [] X.env).map (·.2) := by rfl)
    (ha : ∀ v, assign (.Subscript o i p1) X.env v = (do
      let ov ← holding [v] (eval o X.env)
      let iv ← holding [v, ov] (eval i X.env)
      standAt p1
      holding [v, ov, iv] (setItem ov iv v)
      release [v, ov, iv] []) := by intro _; rfl) (ha2 : ∀ v, assign (.Subscript o2 i2 p2) X.env v = (do
      let ov ← holding [v] (eval o2 X.env)
      let iv ← holding [v, ov] (eval i2 X.env)
      standAt p2
      holding [v, ov, iv] (setItem ov iv v)
      release [v, ov, iv] []) := by intro _; rfl) : SS T X (.Assign [.Tuple [.Subscript o i p1, .Subscript o2 i2 p2] z p3] e pos :: rest) σ H D :=
  ss_cons (S1.of (ps_asg h (pg_tup hc (pgs_cons (pg_sts (T := T) ha) (pgs_cons (pg_sts (T := T) ha2) pgs_nil hs2) hs1) hn hst0) hs hw h1) ⟨rfl, rfl, fun v H1 hR => by
    obtain ⟨a, v1, v2, e1, e2, e3⟩ := q v H1 hR
    refine ⟨a, [v1, v2], e1, e2, rfl, v1, [v2], rfl, ?_⟩
    obtain ⟨p, k, a1, a2, a3⟩ := e3
    refine ⟨p, k, a1, a2, fun H2 g => ?_⟩
    obtain ⟨xs, j, b1, b2, p', k', c1, c2, c3⟩ := a3 H2 g
    refine ⟨xs, j, b1, b2, v2, [], rfl, p', k', c1, c2, fun H3 g3 => ?_⟩
    obtain ⟨ys, l, d1, d2, d3⟩ := c3 H3 g3
    exact ⟨ys, l, d1, d2, rfl, d3⟩⟩)
/-- (a, b) as a new pair -/
theorem ee_pair {a b : Expr} {z : Nat} (ha : EE T X a σ H P1) (hb : EE T X b σ H P2) (hs : starEach [a, b] X.env = (false, eval a X.env) :: starEach [b] X.env := by rfl) (hs2 : starEach [b] X.env = (false, eval b X.env) :: starEach [] X.env := by rfl) : EE T X (.Tuple [a, b] z pos) σ H (pairP X.K P1 P2) :=
  ee_tup (ea_cons ha (ea_cons hb ea_nil hs2) hs) fun vs H1 p _ hv hp => by
    obtain ⟨x, y, rfl, hx, hy⟩ := sat2 hv
    exact ⟨p, x, y, rfl, SqT.of hp, hx, hy⟩
end
/-! ### the heap without some addresses -/
def cut (H : Hp) (m : List Addr) : Hp := fun b => if b ∈ m then none else H b
section
variable {T : List (Addr × Str)} {H H0 F : Hp} {m : List Addr} {a b D : Addr} {o : HO}
theorem cut_in (h : b ∈ m) : cut H m b = none := if_pos h
theorem cut_out (h : b ∉ m) : cut H m b = H b := if_neg h
theorem Gr.cut : Gr T (Pan.cut H m) H := Gr.of_same fun b u e => by
  by_cases k : b ∈ m
  · rw [cut_in k] at e
    exact nomatch e
  · rwa [cut_out k] at e
theorem Gr.toCut (g : Gr T F H) (h0 : ∀ b ∈ m, F b = none) (h : ∀ b ∈ m, Calm H b) : Gr T F (Pan.cut H m) := by
  refine ⟨fun c u hc hn => ?_, fun t => ?_, fun c hc => ?_⟩
  · have k : c ∉ m := fun k => by
      rw [h0 c k] at hc
      exact nomatch hc
    rw [cut_out k]
    exact g.ext c u hc hn
  · have t' := g.tab t
    intro z hz
    obtain ⟨ps, a1, a2, a3⟩ := t' z hz
    have k : z.1 ∉ m := fun k => by
      obtain ⟨⟨u, hu, nu⟩, _⟩ := h z.1 k
      rw [hu] at a1
      exact nu ps (Option.some.inj a1)
    refine ⟨ps, (cut_out k).trans a1, a2, fun pos cv hc => ?_⟩
    obtain ⟨d, e1, e2⟩ := a3 pos cv hc
    have k2 : d ∉ m := fun k => (h d k).2 d _ e2 rfl
    exact ⟨d, e1, (cut_out k2).trans e2⟩
  · by_cases k : c ∈ m
    · exact h0 c k
    · rw [cut_out k] at hc
      exact g.old c hc
/-- neither a tuple nor a frozen thing; nor a list either -/
def NoT (o : HO) : Prop := (∀ xs, o ≠ .tup xs) ∧ ∀ q u, o ≠ .frz q u
def NoTL (o : HO) : Prop := NoT o ∧ ∀ xs, o ≠ .lst xs
/-- what is known rests on tuples alone; on tuples and lists -/
class Hard (P : Pr T) : Prop where
  s : ∀ v H m, (∀ b ∈ m, ∀ o, H b = some o → NoT o) → P.p v H → P.p v (Pan.cut H m)
class Firm (P : Pr T) : Prop where
  s : ∀ v H m, (∀ b ∈ m, ∀ o, H b = some o → NoTL o) → P.p v H → P.p v (Pan.cut H m)
theorem rd_cut {u : HO} (h : ∀ b ∈ m, ∀ o, H b = some o → o ≠ u ∧ ∀ q w, o ≠ .frz q w) (r : Rd H a u) : Rd (Pan.cut H m) a u := by
  have k : a ∉ m := fun k => by
    rcases r with r | ⟨q, r⟩
    · exact (h a k _ r).1 rfl
    · exact (h a k _ r).2 q u rfl
  rcases r with r | ⟨q, r⟩
  · exact .inl ((cut_out k).trans r)
  · exact .inr ⟨q, (cut_out k).trans r⟩
theorem sqT_cut {K : PySem.W.Frag} {xs : List V} (h : ∀ b ∈ m, ∀ o, H b = some o → NoT o) (r : SqT K H a xs) : SqT K (Pan.cut H m) a xs := r.imp (rd_cut fun b k o e => ⟨(h b k o e).1 xs, (h b k o e).2⟩) id
theorem sqL_cut {K : PySem.W.Frag} {xs : List V} (h : ∀ b ∈ m, ∀ o, H b = some o → NoTL o) (r : SqL K H a xs) : SqL K (Pan.cut H m) a xs := r.imp (rd_cut fun b k o e => ⟨(h b k o e).2 xs, (h b k o e).1.2⟩) id
theorem All2.cutH {α : Type} {R : α → Pr T} [hR : ∀ x, Hard (R x)] (h : ∀ b ∈ m, ∀ o, H b = some o → NoT o) : ∀ {vs : List V} {xs : List α}, All2 R vs xs H → All2 R vs xs (Pan.cut H m)
  | [], [], _ => trivial
  | _ :: _, x :: _, a => ⟨(hR x).s _ _ _ h a.1, All2.cutH h a.2⟩
  | [], _ :: _, a => a.elim
  | _ :: _, [], a => a.elim
theorem All2.cutF {α : Type} {R : α → Pr T} [hR : ∀ x, Firm (R x)] (h : ∀ b ∈ m, ∀ o, H b = some o → NoTL o) : ∀ {vs : List V} {xs : List α}, All2 R vs xs H → All2 R vs xs (Pan.cut H m)
  | [], [], _ => trivial
  | _ :: _, x :: _, a => ⟨(hR x).s _ _ _ h a.1, All2.cutF h a.2⟩
  | [], _ :: _, a => a.elim
  | _ :: _, [], a => a.elim
instance (v : V) : Hard (T := T) (eqP v) := ⟨fun _ _ _ _ h => h⟩
instance (i : Int) : Hard (T := T) (intP i) := ⟨fun _ _ _ _ h => h⟩
instance {K : PySem.W.Frag} {α : Type} {R : α → Pr T} {xs : List α} [∀ x, Hard (R x)] : Hard (tupP K R xs) := ⟨fun _ _ _ h ⟨a, vs, e, h1, h2⟩ => ⟨a, vs, e, sqT_cut h h1, h2.cutH h⟩⟩
instance {K : PySem.W.Frag} {P1 P2 : Pr T} [h1 : Hard P1] [h2 : Hard P2] : Hard (pairP K P1 P2) := ⟨fun _ _ _ h ⟨a, x, y, e, h3, h4, h5⟩ => ⟨a, x, y, e, sqT_cut h h3, h1.s _ _ _ h h4, h2.s _ _ _ h h5⟩⟩
instance {K : PySem.W.Frag} {α : Type} {R : α → Pr T} {xs : List α} [hR : ∀ x, Hard (R x)] : Firm (lstP K R xs) := ⟨fun _ _ _ h ⟨a, vs, e, h1, h2⟩ => ⟨a, vs, e, sqL_cut h h1, h2.cutH fun b k o e => (h b k o e).1⟩⟩
theorem ins_not {C dx : Addr} {vs : List (Option V)} (h : Ins H a C dx vs) : (∀ o, H a = some o → NoTL o) ∧ ∀ o, H dx = some o → NoTL o := by
  rcases h.2 with ⟨h1, _, h3⟩ | ⟨h1, h3⟩ <;> refine ⟨fun o e => ?_, fun o e => ?_⟩
  · rw [h1] at e; rw [← Option.some.inj e]; exact ⟨⟨(fun _ z => nomatch z), (fun _ _ z => nomatch z)⟩, (fun _ z => nomatch z)⟩
  · rw [h3] at e; rw [← Option.some.inj e]; exact ⟨⟨(fun _ z => nomatch z), (fun _ _ z => nomatch z)⟩, (fun _ z => nomatch z)⟩
  · rw [h1] at e; rw [← Option.some.inj e]; unfold SlX.SlO; exact ⟨⟨(fun _ z => nomatch z), (fun _ _ z => nomatch z)⟩, (fun _ z => nomatch z)⟩
  · rw [h3] at e; rw [← Option.some.inj e]; exact ⟨⟨(fun _ z => nomatch z), (fun _ _ z => nomatch z)⟩, (fun _ z => nomatch z)⟩
theorem lst_not {xs : List V} (h : H a = some (.lst xs)) : ∀ o, H a = some o → NoT o := fun o e => by
  rw [h] at e; rw [← Option.some.inj e]; exact ⟨(fun _ z => nomatch z), (fun _ _ z => nomatch z)⟩
end
end Pan
set_option maxHeartbeats 1000000
/-! Tables: what they are, making one, reading one. -/
namespace Pan
open PySem PySem.Spec PyProof.Rows L2
abbrev Fr := Int × Int
structure TabM where
  many : Nat
  lines : List (List Fr)
  sides : List Fr
  costs : List Fr
  basic : List Int
  free : List Int
/-- where a table's parts lie -/
structure TA where
  dx : Addr
  Lb : Addr
  Lc : Addr
  Lf : Addr
  Ll : Addr
  Ls : Addr
  vs : List (Option V)
  rs : List V
  cs : List V
  ss : List V
/-- the table at a; F: the heap without it and its own lists -/
structure TabSt (T : List (Addr × Str)) (K : PySem.W.Frag) (F : Hp) (a : Addr) (A : TA) (M : TabM) (H : Hp) : Prop where
  g : Gr T F H
  fa : F a = none
  fd : F A.dx = none
  ins : Ins H a (He.ga K "Table") A.dx A.vs
  s0 : A.vs[0]? = some (some (.ref A.Lb))
  s1 : A.vs[1]? = some (some (.ref A.Lc))
  s2 : A.vs[2]? = some (some (.ref A.Lf))
  s3 : A.vs[3]? = some (some (.ref A.Ll))
  s4 : A.vs[4]? = some (some (.int (M.many : Int)))
  s5 : A.vs[5]? = some (some (.ref A.Ls))
  hb : H A.Lb = some (.lst (M.basic.map V.int))
  hc : H A.Lc = some (.lst A.cs)
  hf : H A.Lf = some (.lst (M.free.map V.int))
  hl : H A.Ll = some (.lst A.rs)
  hs : H A.Ls = some (.lst A.ss)
  kc : All2 (frP (T := T) K) A.cs M.costs F
  kl : All2 (lstP (T := T) K (frP K)) A.rs M.lines F
  ks : All2 (frP (T := T) K) A.ss M.sides F
  fb : F A.Lb = none
  fc : F A.Lc = none
  ff : F A.Lf = none
  fl : F A.Ll = none
  fs : F A.Ls = none
  nd : [A.Lb, A.Lc, A.Lf, A.Ll, A.Ls].Nodup
section
variable {T : List (Addr × Str)} {K : PySem.W.Frag} {F H H' : Hp} {a : Addr} {A : TA} {M : TabM}
theorem TabSt.gr (t : TabSt T K F a A M H) (g : Gr T H H') : TabSt T K F a A M H' :=
  { t with g := t.g.trans g, ins := t.ins.gr g, hb := g.lst t.hb, hc := g.lst t.hc, hf := g.lst t.hf, hl := g.lst t.hl, hs := g.lst t.hs }
theorem TabSt.Pb (t : TabSt T K F a A M H) : (lstP (T := T) K intP M.basic).p (.ref A.Lb) H := ⟨_, _, rfl, .inl (.inl t.hb), all_ints _⟩
theorem TabSt.Pf (t : TabSt T K F a A M H) : (lstP (T := T) K intP M.free).p (.ref A.Lf) H := ⟨_, _, rfl, .inl (.inl t.hf), all_ints _⟩
theorem TabSt.Pc (t : TabSt T K F a A M H) : (lstP (T := T) K (frP K) M.costs).p (.ref A.Lc) H := ⟨_, _, rfl, .inl (.inl t.hc), t.kc.st t.g⟩
theorem TabSt.Pl (t : TabSt T K F a A M H) : (lstP (T := T) K (lstP K (frP K)) M.lines).p (.ref A.Ll) H := ⟨_, _, rfl, .inl (.inl t.hl), t.kl.st t.g⟩
theorem TabSt.Ps (t : TabSt T K F a A M H) : (lstP (T := T) K (frP K) M.sides).p (.ref A.Ls) H := ⟨_, _, rfl, .inl (.inl t.hs), t.ks.st t.g⟩
end
section
variable {T : List (Addr × Str)} {X : Cx} {e : Expr} {σ : L2.St} {F H : Hp} {pos : Pos} {a : Addr} {A : TA} {M : TabM} {P : Pr T}
theorem ee_tab {f : Str} {i : Nat} {d : Addr} {w : V} (W : Wd X.K X.mg) (t : TabSt T X.K F a A M H) (sl : SlX.Slot1 X.K (He.ga X.K "Table") f d i) (hw : A.vs[i]? = some (some w)) (hP : P.p w H) (h : EE T X e σ H (eqP (.ref a))) (hb : attributeBase e f X.env (eval e X.env) = eval e X.env := by rfl) : EE T X (.Attribute e f pos) σ H P :=
  ee_sl h (fun v H1 g e => ⟨a, _, A.dx, d, A.vs, i, w, e, (t.ins.gr g).slt, W.s_Table, sl, hw, P.st _ _ _ g hP⟩) hb
theorem ee_tbasic (W : Wd X.K X.mg) (t : TabSt T X.K F a A M H) (h : EE T X e σ H (eqP (.ref a))) (hb : attributeBase e "basic" X.env (eval e X.env) = eval e X.env := by rfl) : EE T X (.Attribute e "basic" pos) σ H (lstP X.K intP M.basic) := ee_tab W t W.Table_basic t.s0 t.Pb h hb
theorem ee_tcosts (W : Wd X.K X.mg) (t : TabSt T X.K F a A M H) (h : EE T X e σ H (eqP (.ref a))) (hb : attributeBase e "costs" X.env (eval e X.env) = eval e X.env := by rfl) : EE T X (.Attribute e "costs" pos) σ H (lstP X.K (frP X.K) M.costs) := ee_tab W t W.Table_costs t.s1 t.Pc h hb
theorem ee_tfree (W : Wd X.K X.mg) (t : TabSt T X.K F a A M H) (h : EE T X e σ H (eqP (.ref a))) (hb : attributeBase e "free" X.env (eval e X.env) = eval e X.env := by rfl) : EE T X (.Attribute e "free" pos) σ H (lstP X.K intP M.free) := ee_tab W t W.Table_free t.s2 t.Pf h hb
theorem ee_tlines (W : Wd X.K X.mg) (t : TabSt T X.K F a A M H) (h : EE T X e σ H (eqP (.ref a))) (hb : attributeBase e "lines" X.env (eval e X.env) = eval e X.env := by rfl) : EE T X (.Attribute e "lines" pos) σ H (lstP X.K (lstP X.K (frP X.K)) M.lines) := ee_tab W t W.Table_lines t.s3 t.Pl h hb
theorem ee_tmany (W : Wd X.K X.mg) (t : TabSt T X.K F a A M H) (h : EE T X e σ H (eqP (.ref a))) (hb : attributeBase e "many" X.env (eval e X.env) = eval e X.env := by rfl) : EE T X (.Attribute e "many" pos) σ H (intP (M.many : Int)) := ee_tab W t W.Table_many t.s4 rfl h hb
theorem ee_tsides (W : Wd X.K X.mg) (t : TabSt T X.K F a A M H) (h : EE T X e σ H (eqP (.ref a))) (hb : attributeBase e "sides" X.env (eval e X.env) = eval e X.env := by rfl) : EE T X (.Attribute e "sides" pos) σ H (lstP X.K (frP X.K) M.sides) := ee_tab W t W.Table_sides t.s5 t.Ps h hb
/-- a pair's parts -/
theorem ee_fst {P1 P2 : Pr T} {z : Nat} {p2 : Pos} (h : EE T X e σ H (pairP X.K P1 P2)) : EE T X (.Subscript e (.Constant (.int 0) z p2) pos) σ H P1 :=
  EE.of (pe_ix ix_tup h (ee_int (T := T)) (by intro _ _; rfl)) fun H1 g Q r => ⟨rfl, g, fun x H2 g2 hx => ⟨rfl, g.trans g2, fun y' H3 g3 hy => by
    obtain ⟨p, u, w, e1, h1, h2, h3⟩ := (pairP X.K P1 P2).st _ _ _ g3 hx
    exact ⟨p, [u, w], (0 : Nat), u, e1, hy, h1, atI_nat rfl, r u H3 (g2.trans g3) h2⟩⟩⟩
theorem ee_snd {P1 P2 : Pr T} {z : Nat} {p2 : Pos} (h : EE T X e σ H (pairP X.K P1 P2)) : EE T X (.Subscript e (.Constant (.int 1) z p2) pos) σ H P2 :=
  EE.of (pe_ix ix_tup h (ee_int (T := T)) (by intro _ _; rfl)) fun H1 g Q r => ⟨rfl, g, fun x H2 g2 hx => ⟨rfl, g.trans g2, fun y' H3 g3 hy => by
    obtain ⟨p, u, w, e1, h1, h2, h3⟩ := (pairP X.K P1 P2).st _ _ _ g3 hx
    exact ⟨p, [u, w], (1 : Nat), w, e1, hy, h1, atI_nat rfl, r w H3 (g2.trans g3) h3⟩⟩⟩
end
/-- what rests on no list stays when a list changes -/
theorem Solid.upd {T : List (Addr × Str)} {P : Pr T} [hS : Solid P] {v : V} {H2 H3 : Hp} {p : Addr} {xs ys : List V} (h : P.p v H2) (hp : H2 p = some (.lst xs)) (g : Gr T H2 H3) : P.p v (upd H3 p (.lst ys)) :=
  P.st _ _ _ ((Gr.del.trans g).mut del_same (calm_lst (g.lst hp))) (hS.s v H2 p _ hp trivial h)
/-! ### mixed -/
section
variable {T : List (Addr × Str)} {P : Program} {w : World} {K : PySem.W.Frag} {mg : Str → Option Value} {base : Heap}
structure MixM where
  row : List Fr
  part : Fr
  own : List Fr
  col : Nat
def mixedM (a : MixM) : List Fr := ((a.row.zip a.own).map fun xy => plusM xy.1 (timesM a.part xy.2)).set a.col (timesM a.part (a.own.getD a.col (0, 1)))
def okMixed (a : MixM) : Prop := a.row.length ≤ 100 ∧ a.col < a.own.length ∧ a.col < (a.row.zip a.own).length ∧ Sm a.part ∧ Sm (a.own.getD a.col (0, 1)) ∧ ∀ xy ∈ a.row.zip a.own, Sm xy.1 ∧ Sm xy.2 ∧ Sm (timesM a.part xy.2)
instance (a : MixM) : Decidable (okMixed a) := inferInstanceAs (Decidable (_ ∧ _ ∧ _ ∧ _ ∧ _ ∧ _))
def psMixed (T : List (Addr × Str)) (K : PySem.W.Frag) (a : MixM) : List (Pr T) := [lstP K (frP K) a.row, frP K a.part, lstP K (frP K) a.own, intP (a.col : Int)]
/-- the answer is a new list -/
def spMixed (T : List (Addr × Str)) (K : PySem.W.Frag) : Sp := fun vs H Q _ => ∃ (a : MixM) (s : V) (us : List V), vs = s :: us ∧ okMixed a ∧ Sat (psMixed T K a) us H ∧ ∀ p xs H', Gr T H H' → H p = none → H' p = some (.lst xs) → All2 (frP (T := T) K) xs (mixedM a) (del H' p) → Q (.ref p) H'
theorem scMixed : FnScope ["self", "row", "part", "own", "column", "found", "one", "other"] ["self", "row", "part", "own", "column"] (defScope (inClass (top 16) 5)) := ⟨rfl, rfl, rfl, by decide +kernel, rfl, by decide +kernel, by decide +kernel⟩
theorem sat5 {P P' P'' P3 P4 : Pr T} {vs : List V} {H : Hp} (h : Sat [P, P', P'', P3, P4] vs H) : ∃ v w z y x, vs = [v, w, z, y, x] ∧ P.p v H ∧ P'.p w H ∧ P''.p z H ∧ P3.p y H ∧ P4.p x H := by
  cases vs with
  | nil => exact h.elim
  | cons v r =>
    obtain ⟨w, z, y, x, e, hw⟩ := sat4 h.2
    rw [e]
    exact ⟨v, w, z, y, x, rfl, h.1, hw⟩
theorem ok_mixed (W : Wd K mg) : FnR P w K mg base CX0 3 (He.ma K (He.ga K "Table") "mixed") (spMixed T K) := by
  obtain ⟨fd, Fd⟩ := W.d_Table_mixed
  have b : Binds K fd ["self", "row", "part", "own", "column"] [] := Fd.bindsN fun _ _ _ _ _ _ us hl => match us, hl with | [_, _, _, _, _], _ => rfl
  refine fn_any (T := T) Fd scMixed b (fun vs H Q E ⟨a, s, us, e, _, hs, _⟩ => by rw [e, List.length_cons, hs.len]; rfl) fun cdv A outer s H vs Q E hr hsp => ?_
  obtain ⟨a, u, us, rfl, ⟨l0, l1, l2, sp, so, sr⟩, hs, q⟩ := hsp
  obtain ⟨x, y, z, c, rfl, h1, h2, h3, h4⟩ := sat4 hs
  obtain rfl := h4
  have Lp := ok_plus (T := T) (P := P) (w := w) (base := base) W
  have Lt := ok_times (T := T) (P := P) (w := w) (base := base) W
  refine ss_setCL 5 (ec_lcP 6 7 scMixed (R1 := fun xy : Fr × Fr => frP K xy.1) (R2 := fun xy : Fr × Fr => frP K xy.2) (Ro := fun xy : Fr × Fr => frP K (plusM xy.1 (timesM a.part xy.2))) (src_zip W.f_zip (ee_var 1 rfl h1) (ee_var 3 rfl h3)) (by rw [List.length_zip]; omega)
    fun xy v v' H' hm g hv hv' s H C cl fp => ee_callP Lp W.g_plus.mg W.g_plus.kp hr (xy.1, timesM a.part xy.2) ⟨(sr xy hm).1, (sr xy hm).2.2⟩ (ea_cons (ee_var 6 rfl hv) (ea_cons (ee_callP Lt W.g_times.mg W.g_times.kp hr (a.part, xy.2) ⟨sp, (sr xy hm).2.1⟩ (ea_cons (ee_var 2 rfl ((frP K a.part).st _ _ _ g h2)) (ea_cons (ee_var 7 rfl hv') ea_nil))) ea_nil))) fun p xs H1 g1 hp h1' hx => ?_
  have k3 := (lstP K (frP K) a.own).st _ _ _ g1 h3
  have hlen : xs.length = (a.row.zip a.own).length := hx.length
  refine ss_lset (ee_call Lt W.g_times.mg W.g_times.kp hr (a.part, a.own.getD a.col (0, 1)) ⟨sp, so⟩ (ea_cons (ee_var 2 rfl ((frP K a.part).st _ _ _ g1 h2)) (ea_cons (ee_ixL a.col (getD_some l1) (ee_var 3 rfl k3) (ee_v 4 rfl)) ea_nil))).x fun v H2 ⟨g2, hv⟩ => ⟨p, (a.col : Int), ee_v 5 rfl, fun _ _ => ee_v 4 rfl, fun H3 g3 => ⟨xs, a.col, (g2.trans g3).lst h1', ?_, ?_⟩⟩
  · unfold ixN
    rw [if_pos (by omega), if_pos (by omega)]
    simp
  · have hD3 := (g2.trans g3).lst h1'
    have g03 := (g1.trans g2).trans g3
    have gp : Gr T H _ := g03.mut (o := .lst (xs.set a.col v)) hp (calm_lst hD3)
    refine ssx_ret (ee_v (T := T) 5 rfl).x fun v' H4 ⟨g4, e4⟩ => ?_
    obtain rfl := e4
    have h4p := g4.lst (p := p) (xs := xs.set a.col v) upd_same
    refine q p _ H4 (gp.trans g4) hp h4p ?_
    have gd : Gr T (del H1 p) (del H4 p) := ((((Gr.del.trans (g2.trans g3)).mut (o := .lst (xs.set a.col v)) del_same (calm_lst hD3)).trans g4)).toDel del_same h4p trivial
    have gv : (frP (T := T) K (timesM a.part (a.own.getD a.col (0, 1)))).p v (del H4 p) := by
      have hv' : (frP (T := T) K (timesM a.part (a.own.getD a.col (0, 1)))).p v (del H2 p) := Solid.s _ _ _ _ (g2.lst h1') trivial hv
      exact (frP K _).st _ _ _ ((((Gr.del.trans g3).mut (o := .lst (xs.set a.col v)) del_same (calm_lst hD3)).trans g4).toDel del_same h4p trivial) hv'
    unfold mixedM
    exact All2.set gv _ (All2.map (R := frP K) (f := fun xy : Fr × Fr => plusM xy.1 (timesM a.part xy.2)) (hx.st gd))
end
end Pan
set_option maxHeartbeats 1000000
/-! Making a table. -/
namespace Pan
open PySem PySem.Spec PyProof.Rows L2
section
variable {T : List (Addr × Str)} {H : Hp} {a C dx L : Addr} {vs vs' : List (Option V)} {xs : List V}
theorem Ins.ne (h : Ins H a C dx vs) (hL : H L = some (.lst xs)) : L ≠ a ∧ L ≠ dx := by
  have k := ins_not h
  exact ⟨fun e => (k.1 _ (e ▸ hL)).2 xs rfl, fun e => (k.2 _ (e ▸ hL)).2 xs rfl⟩
theorem Ins.keepL (h : Ins H a C dx vs) (hL : H L = some (.lst xs)) : SlX.slH H a C dx vs' L = some (.lst xs) := (SlX.slH_ne (h.ne hL).1 (h.ne hL).2).trans hL
end
structure TInM where
  bs : List (List Fr × Fr)
  costs : List Fr
def initM (z : TInM) : TabM := ⟨z.costs.length, z.bs.map (·.1), z.bs.map fun b => minusM (0, 1) b.2, z.costs, (List.range z.bs.length).map fun i : Nat => (z.costs.length : Int) + (i : Int), (List.range z.costs.length).map fun i : Nat => (i : Int)⟩
def okInit (z : TInM) : Prop := z.bs.length ≤ 100 ∧ z.costs.length ≤ 100 ∧ ∀ b ∈ z.bs, Sm b.2
instance (z : TInM) : Decidable (okInit z) := inferInstanceAs (Decidable (_ ∧ _ ∧ _))
theorem sm01 : Sm (0, 1) := by decide
section
variable {T : List (Addr × Str)} {P : Program} {w : World} {K : PySem.W.Frag} {mg : Str → Option Value} {base : Heap}
def psTab (T : List (Addr × Str)) (K : PySem.W.Frag) (z : TInM) : List (Pr T) := [lstP K (fun b : List Fr × Fr => pairP K (lstP K (frP K) b.1) (frP K b.2)) z.bs, lstP K (frP K) z.costs]
def spTabInit (T : List (Addr × Str)) (K : PySem.W.Frag) : Sp := fun vs H Q _ => ∃ (a dx : Addr) (H0 : Hp) (us : List V) (z : TInM), vs = .ref a :: us ∧ Ins H a (He.ga K "Table") dx [] ∧ H0 a = none ∧ H0 dx = none ∧ Gr T H0 H ∧ okInit z ∧ Sat (psTab T K z) us H0 ∧
  ∀ F A H', Gr T H0 F → TabSt T K F a A (initM z) H' → Q .non H'
theorem scTabInit : FnScope ["self", "bounds", "costs", "row", "side", "index"] ["self", "bounds", "costs"] (defScope (inClass (top 16) 1)) := ⟨rfl, rfl, rfl, by decide +kernel, rfl, by decide +kernel, by decide +kernel⟩
theorem ok_Table_init (W : Wd K mg) : FnR P w K mg base CX0 3 (He.ma K (He.ga K "Table") "__init__") (spTabInit T K) := by
  obtain ⟨fd, Fd⟩ := W.d_Table_init
  have b : Binds K fd ["self", "bounds", "costs"] [] := Fd.bindsN fun _ _ _ _ _ _ us hl => match us, hl with | [_, _, _], _ => rfl
  refine fn_any (T := T) Fd scTabInit b (fun vs H Q E ⟨a, dx, H0, us, z, e, _, _, _, _, _, hs, _⟩ => by rw [e, List.length_cons, hs.len]; rfl) fun cdv A outer s H vs Q E hr hsp => ?_
  obtain ⟨a, dx, H0, us, z, rfl, hi, n1, n2, g0, ⟨l1, l2, hz⟩, hs, hQ⟩ := hsp
  obtain ⟨x, y, rfl, h1, h2⟩ := sat2 hs
  have Lm := ok_minus (T := T) (P := P) (w := w) (base := base) W
  have u1 := fun {H1 : Hp} (g : Gr T H0 H1) => (lstP K (fun b : List Fr × Fr => pairP K (lstP K (frP K) b.1) (frP K b.2)) z.bs).st _ _ _ g h1
  have u2 := fun {H1 : Hp} (g : Gr T H0 H1) => (lstP K (frP K) z.costs).st _ _ _ g h2
  -- self.many
  refine ss_sl (dx := dx) 0 rfl (ee_lenL W.f_len (ee_var 2 rfl (u2 g0))).x W.s_Table W.Table_many fun v1 H1 ⟨g1, k1⟩ => ?_
  obtain rfl := k1
  have i1 := hi.gr g1
  refine ⟨[], i1.slt, ?_⟩
  have G1 : Gr T H0 _ := (g0.trans g1).put (vs' := SlX.putS 4 (.int (z.costs.length : Int)) []) n1 n2 i1
  have I1 : Ins (SlX.slH H1 a (He.ga K "Table") dx (SlX.putS 4 (.int (z.costs.length : Int)) [])) a (He.ga K "Table") dx _ := Ins.put hi.1
  generalize SlX.slH H1 a (He.ga K "Table") dx (SlX.putS 4 (.int (z.costs.length : Int)) []) = K1 at G1 I1 ⊢
  -- self.lines
  refine ss_sl (dx := dx) 0 rfl (NewL.x (NewC.nl <| nc_lcP 3 4 (R1 := fun b : List Fr × Fr => lstP K (frP K) b.1) (R2 := fun b : List Fr × Fr => frP K b.2) (Ro := fun b : List Fr × Fr => lstP K (frP K) b.1) (keep := fun _ => true) (src_list (ee_var 1 rfl (u1 G1))) (by omega) scTabInit.nd (blkX scTabInit [("row", 3), ("side", 4)])
    (fun _ _ _ _ _ _ _ _ _ _ _ _ _ => ets_nil) (fun bd v v' H' D ls _ g hv hv' _ hD s H C cl fp => ?_) (pgP 3 4 scTabInit.nd rfl rfl rfl rfl rfl))) W.s_Table W.Table_lines fun v2 H2 ⟨g2, Ll, rs, e2, p2, l2', k2⟩ => ?_
  · exact NewL.en (nl_listOf (P := lstP K (frP K) bd.1) W.f_list (fun v H1 _ ⟨p, ws, e, q1, q2⟩ => ⟨p, ws, e, .inl q1, q2⟩) (ee_var 3 rfl hv)) hD trivial
  subst e2
  rw [List.filter_eq_self.mpr fun _ _ => rfl] at k2
  have i2 := I1.gr g2
  have ne2 := i2.ne l2'
  refine ⟨_, i2.slt, ?_⟩
  have idel : Ins (del H2 Ll) a (He.ga K "Table") dx _ := i2.same (del_ne ne2.1.symm) (del_ne ne2.2.symm)
  have fLl : H0 Ll = none := G1.old _ p2
  have F1g : Gr T H0 (cut (del H2 Ll) [a, dx]) := ((G1.trans g2).toDel fLl l2' trivial).toCut (by simp [n1, n2]) (by simpa using idel.calm)
  have kl : All2 (lstP (T := T) K (frP K)) rs (z.bs.map (·.1)) (cut (del H2 Ll) [a, dx]) := All2.map (R := lstP K (frP K)) (f := fun b : List Fr × Fr => b.1) (k2.cutF (by simpa using ins_not idel))
  have F1n : ∀ b ∈ [Ll, a, dx], cut (del H2 Ll) [a, dx] b = none := by
    intro b hb
    by_cases k : b ∈ [a, dx]
    · exact cut_in k
    · have e : b = Ll := (List.mem_cons.mp hb).elim id fun h => absurd h k
      rw [cut_out k, e, del_same]
  have F1s : Gr T (cut (del H2 Ll) [a, dx]) H2 := Gr.cut.trans .del
  generalize cut (del H2 Ll) [a, dx] = F1 at F1g kl F1n F1s
  have G2 : Gr T F1 _ := F1s.put (vs' := SlX.putS 3 (.ref Ll) (SlX.putS 4 (.int (z.costs.length : Int)) [])) (F1n a (by simp)) (F1n dx (by simp)) i2
  have I2 : Ins (SlX.slH H2 a (He.ga K "Table") dx (SlX.putS 3 (.ref Ll) (SlX.putS 4 (.int (z.costs.length : Int)) []))) a (He.ga K "Table") dx _ := Ins.put hi.1
  have L2 : SlX.slH H2 a (He.ga K "Table") dx (SlX.putS 3 (.ref Ll) (SlX.putS 4 (.int (z.costs.length : Int)) [])) Ll = _ := i2.keepL l2'
  generalize SlX.slH H2 a (He.ga K "Table") dx (SlX.putS 3 (.ref Ll) (SlX.putS 4 (.int (z.costs.length : Int)) [])) = K2 at G2 I2 L2 ⊢
  -- self.sides
  refine ss_sl (dx := dx) 0 rfl (NewL.x (EC.nl <| ec_lcP 3 4 scTabInit (R1 := fun b : List Fr × Fr => lstP K (frP K) b.1) (R2 := fun b : List Fr × Fr => frP K b.2) (Ro := fun b : List Fr × Fr => frP K (minusM (0, 1) b.2)) (src_list (ee_var 1 rfl (u1 (F1g.trans G2)))) (by omega)
    fun bd v v' H' hm g hv hv' s H C cl fp => ee_callP Lm W.g_minus.mg W.g_minus.kp hr ((0, 1), bd.2) ⟨sm01, hz bd hm⟩ (ea_cons (ee_glob W.mg_NONE relRef (NONEp W _)) (ea_cons (ee_var 4 rfl hv') ea_nil)))) W.s_Table W.Table_sides fun v3 H3 ⟨g3, Ls, ss, e3, p3, l3, k3⟩ => ?_
  subst e3
  have i3 := I2.gr g3
  refine ⟨_, i3.slt, ?_⟩
  have g3F := G2.trans g3
  have l3l := g3.lst L2
  have F1L : ∀ b ∈ [Ls, Ll, a, dx], F1 b = none := by
    intro b hb
    rcases List.mem_cons.mp hb with k | k
    · rw [k]; exact G2.old _ p3
    · exact F1n b k
  have F2g : Gr T F1 (cut H3 [Ls, Ll, a, dx]) := g3F.toCut F1L (by simpa using ⟨calm_lst l3, calm_lst l3l, i3.calm.1, i3.calm.2⟩)
  have ks : All2 (frP (T := T) K) ss (z.bs.map fun b => minusM (0, 1) b.2) (cut H3 [Ls, Ll, a, dx]) := All2.map (R := frP K) (f := fun b : List Fr × Fr => minusM (0, 1) b.2) (All2.cutH (by simpa using ⟨lst_not l3, lst_not l3l, fun o e => ((ins_not i3).1 o e).1, fun o e => ((ins_not i3).2 o e).1⟩) (k3.st .del))
  have F2n : ∀ b ∈ [Ls, Ll, a, dx], cut H3 [Ls, Ll, a, dx] b = none := fun b hb => cut_in hb
  have F2s : Gr T (cut H3 [Ls, Ll, a, dx]) H3 := Gr.cut
  have kl2 := kl.st F2g
  have F2g0 := F1g.trans F2g
  have n3 : Ls ≠ Ll := (ne_of_none L2 p3).symm
  generalize cut H3 [Ls, Ll, a, dx] = F2 at F2g0 ks kl2 F2n F2s
  have G3 : Gr T F2 _ := F2s.put (vs' := SlX.putS 5 (.ref Ls) (SlX.putS 3 (.ref Ll) (SlX.putS 4 (.int (z.costs.length : Int)) []))) (F2n a (by simp)) (F2n dx (by simp)) i3
  have I3 : Ins (SlX.slH H3 a (He.ga K "Table") dx (SlX.putS 5 (.ref Ls) (SlX.putS 3 (.ref Ll) (SlX.putS 4 (.int (z.costs.length : Int)) [])))) a (He.ga K "Table") dx _ := Ins.put hi.1
  have L3l : SlX.slH H3 a (He.ga K "Table") dx (SlX.putS 5 (.ref Ls) (SlX.putS 3 (.ref Ll) (SlX.putS 4 (.int (z.costs.length : Int)) []))) Ll = _ := i3.keepL l3l
  have L3s : SlX.slH H3 a (He.ga K "Table") dx (SlX.putS 5 (.ref Ls) (SlX.putS 3 (.ref Ll) (SlX.putS 4 (.int (z.costs.length : Int)) []))) Ls = _ := i3.keepL l3
  generalize SlX.slH H3 a (He.ga K "Table") dx (SlX.putS 5 (.ref Ls) (SlX.putS 3 (.ref Ll) (SlX.putS 4 (.int (z.costs.length : Int)) []))) = K3 at G3 I3 L3l L3s ⊢
  -- self.costs
  refine ss_sl (dx := dx) 0 rfl (NewL.x (nl_listOf (R := frP K) (xs := z.costs) (P := lstP K (frP K) z.costs) W.f_list (fun v H1 _ ⟨p, ws, e, q1, q2⟩ => ⟨p, ws, e, .inl q1, q2⟩) (ee_var 2 rfl (u2 (F2g0.trans G3))))) W.s_Table W.Table_costs fun v4 H4 ⟨g4, Lc, cs, e4, p4, l4, k4⟩ => ?_
  subst e4
  have i4 := I3.gr g4
  refine ⟨_, i4.slt, ?_⟩
  have l4l := g4.lst L3l
  have l4s := g4.lst L3s
  have F2L : ∀ b ∈ [Lc, Ls, Ll, a, dx], F2 b = none := by
    intro b hb
    rcases List.mem_cons.mp hb with k | k
    · rw [k]; exact G3.old _ p4
    · exact F2n b k
  have F3g : Gr T F2 (cut H4 [Lc, Ls, Ll, a, dx]) := (G3.trans g4).toCut F2L (by simpa using ⟨calm_lst l4, calm_lst l4s, calm_lst l4l, i4.calm.1, i4.calm.2⟩)
  have kc : All2 (frP (T := T) K) cs z.costs (cut H4 [Lc, Ls, Ll, a, dx]) := All2.cutH (by simpa using ⟨lst_not l4, lst_not l4s, lst_not l4l, fun o e => ((ins_not i4).1 o e).1, fun o e => ((ins_not i4).2 o e).1⟩) (k4.st .del)
  have F3n : ∀ b ∈ [Lc, Ls, Ll, a, dx], cut H4 [Lc, Ls, Ll, a, dx] b = none := fun b hb => cut_in hb
  have F3s : Gr T (cut H4 [Lc, Ls, Ll, a, dx]) H4 := Gr.cut
  have kl3 := kl2.st F3g
  have ks3 := ks.st F3g
  have F3g0 := F2g0.trans F3g
  have n4 : Lc ≠ Ls ∧ Lc ≠ Ll := ⟨(ne_of_none L3s p4).symm, (ne_of_none L3l p4).symm⟩
  generalize cut H4 [Lc, Ls, Ll, a, dx] = F3 at F3g0 ks3 kl3 kc F3n F3s
  have G4 : Gr T F3 _ := F3s.put (vs' := SlX.putS 1 (.ref Lc) (SlX.putS 5 (.ref Ls) (SlX.putS 3 (.ref Ll) (SlX.putS 4 (.int (z.costs.length : Int)) [])))) (F3n a (by simp)) (F3n dx (by simp)) i4
  have I4 : Ins (SlX.slH H4 a (He.ga K "Table") dx (SlX.putS 1 (.ref Lc) (SlX.putS 5 (.ref Ls) (SlX.putS 3 (.ref Ll) (SlX.putS 4 (.int (z.costs.length : Int)) []))))) a (He.ga K "Table") dx _ := Ins.put hi.1
  have L4l : SlX.slH H4 a (He.ga K "Table") dx (SlX.putS 1 (.ref Lc) (SlX.putS 5 (.ref Ls) (SlX.putS 3 (.ref Ll) (SlX.putS 4 (.int (z.costs.length : Int)) [])))) Ll = _ := i4.keepL l4l
  have L4s : SlX.slH H4 a (He.ga K "Table") dx (SlX.putS 1 (.ref Lc) (SlX.putS 5 (.ref Ls) (SlX.putS 3 (.ref Ll) (SlX.putS 4 (.int (z.costs.length : Int)) [])))) Ls = _ := i4.keepL l4s
  have L4c : SlX.slH H4 a (He.ga K "Table") dx (SlX.putS 1 (.ref Lc) (SlX.putS 5 (.ref Ls) (SlX.putS 3 (.ref Ll) (SlX.putS 4 (.int (z.costs.length : Int)) [])))) Lc = _ := i4.keepL l4
  generalize SlX.slH H4 a (He.ga K "Table") dx (SlX.putS 1 (.ref Lc) (SlX.putS 5 (.ref Ls) (SlX.putS 3 (.ref Ll) (SlX.putS 4 (.int (z.costs.length : Int)) [])))) = K4 at G4 I4 L4l L4s L4c ⊢
  -- self.free
  refine ss_sl (dx := dx) 0 rfl (NewL.x (nl_listRg (i := (z.costs.length : Int)) W.f_list W.f_range (by omega) (ee_sl (ee_v (T := T) 0 rfl) fun v H1 g e => ⟨a, _, dx, _, _, 4, .int (z.costs.length : Int), e, (I4.gr g).slt, W.s_Table, W.Table_many, rfl, rfl⟩))) W.s_Table W.Table_free fun v5 H5 ⟨g5, Lf, fv, e5, p5, l5, k5⟩ => ?_
  subst e5
  rw [Int.toNat_natCast] at k5
  have i5 := I4.gr g5
  refine ⟨_, i5.slt, ?_⟩
  have G5 : Gr T F3 _ := (G4.trans g5).put (vs' := SlX.putS 2 (.ref Lf) (SlX.putS 1 (.ref Lc) (SlX.putS 5 (.ref Ls) (SlX.putS 3 (.ref Ll) (SlX.putS 4 (.int (z.costs.length : Int)) []))))) (F3n a (by simp)) (F3n dx (by simp)) i5
  have I5 : Ins (SlX.slH H5 a (He.ga K "Table") dx (SlX.putS 2 (.ref Lf) (SlX.putS 1 (.ref Lc) (SlX.putS 5 (.ref Ls) (SlX.putS 3 (.ref Ll) (SlX.putS 4 (.int (z.costs.length : Int)) [])))))) a (He.ga K "Table") dx _ := Ins.put hi.1
  have kL := fun {L : Addr} {xs : List V} (h : H5 L = some (.lst xs)) => i5.keepL (vs' := SlX.putS 2 (.ref Lf) (SlX.putS 1 (.ref Lc) (SlX.putS 5 (.ref Ls) (SlX.putS 3 (.ref Ll) (SlX.putS 4 (.int (z.costs.length : Int)) []))))) h
  have L5l := kL (g5.lst L4l)
  have L5s := kL (g5.lst L4s)
  have L5c := kL (g5.lst L4c)
  have L5f := kL l5
  have F3f : F3 Lf = none := G4.old _ p5
  have n5 : Lf ≠ Lc ∧ Lf ≠ Ls ∧ Lf ≠ Ll := ⟨(ne_of_none L4c p5).symm, (ne_of_none L4s p5).symm, (ne_of_none L4l p5).symm⟩
  clear kL
  generalize SlX.slH H5 a (He.ga K "Table") dx (SlX.putS 2 (.ref Lf) (SlX.putS 1 (.ref Lc) (SlX.putS 5 (.ref Ls) (SlX.putS 3 (.ref Ll) (SlX.putS 4 (.int (z.costs.length : Int)) []))))) = K5 at G5 I5 L5l L5s L5c L5f ⊢
  -- self.basic
  refine ss_sl (dx := dx) 0 rfl (NewL.x (EC.nl <| ec_lc 5 scTabInit (Ro := fun i : Nat => intP ((z.costs.length : Int) + (i : Int))) (src_range W.f_range (ee_lenL W.f_len (ee_var 1 rfl (u1 (F3g0.trans G5)))) (by omega)) (by rw [List.length_range]; omega)
    fun i v H' hm g hv s H C cl fp => ee_add (ee_sl (ee_v (T := T) 0 rfl) fun v H1 g' e => ⟨a, _, dx, _, _, 4, .int (z.costs.length : Int), e, ((I5.gr g).gr g').slt, W.s_Table, W.Table_many, rfl, rfl⟩) (ee_var 5 rfl hv))) W.s_Table W.Table_basic fun v6 H6 ⟨g6, Lb, bv, e6, p6, l6, k6⟩ => ?_
  subst e6
  rw [Int.toNat_natCast] at k6
  have i6 := I5.gr g6
  refine ⟨_, i6.slt, ?_⟩
  have G6 : Gr T F3 _ := (G5.trans g6).put (vs' := SlX.putS 0 (.ref Lb) (SlX.putS 2 (.ref Lf) (SlX.putS 1 (.ref Lc) (SlX.putS 5 (.ref Ls) (SlX.putS 3 (.ref Ll) (SlX.putS 4 (.int (z.costs.length : Int)) [])))))) (F3n a (by simp)) (F3n dx (by simp)) i6
  have kL := fun {L : Addr} {xs : List V} (h : H6 L = some (.lst xs)) => i6.keepL (vs' := SlX.putS 0 (.ref Lb) (SlX.putS 2 (.ref Lf) (SlX.putS 1 (.ref Lc) (SlX.putS 5 (.ref Ls) (SlX.putS 3 (.ref Ll) (SlX.putS 4 (.int (z.costs.length : Int)) [])))))) h
  have n6 : Lb ≠ Lc ∧ Lb ≠ Lf ∧ Lb ≠ Ll ∧ Lb ≠ Ls := ⟨(ne_of_none L5c p6).symm, (ne_of_none L5f p6).symm, (ne_of_none L5l p6).symm, (ne_of_none L5s p6).symm⟩
  have ef : fv = (initM z).free.map V.int := by
    rw [k5]
    show _ = ((List.range z.costs.length).map fun i : Nat => (i : Int)).map V.int
    rw [List.map_map]
    rfl
  have eb : bv = (initM z).basic.map V.int := ints_all (T := T) (All2.map (R := intP) (f := fun i : Nat => (z.costs.length : Int) + (i : Int)) k6)
  exact ss_nil (hQ F3 ⟨dx, Lb, Lc, Lf, Ll, Ls, _, rs, cs, ss⟩ _ F3g0 {
    g := G6, fa := F3n a (by simp), fd := F3n dx (by simp), ins := Ins.put hi.1, s0 := rfl, s1 := rfl, s2 := rfl, s3 := rfl, s4 := rfl, s5 := rfl
    hb := by rw [← eb]; exact kL l6
    hc := kL (g6.lst L5c)
    hf := by rw [← ef]; exact kL (g6.lst L5f)
    hl := kL (g6.lst L5l)
    hs := kL (g6.lst L5s)
    kc := kc, kl := kl3, ks := ks3, fb := G5.old _ p6, fc := F3n _ (by simp), ff := F3f, fl := F3n _ (by simp), fs := F3n _ (by simp)
    nd := by
      simp only [List.nodup_cons, List.mem_cons, List.mem_nil_iff, or_false, not_or, not_false_eq_true, List.nodup_nil, and_true]
      exact ⟨⟨n6.1, n6.2.1, n6.2.2.1, n6.2.2.2⟩, ⟨fun e => n5.1 e.symm, n4.2, n4.1⟩, ⟨n5.2.2, n5.2.1⟩, fun e => n3 e.symm⟩ })
end
end Pan
set_option maxHeartbeats 1000000
/-! The column of a table. -/
namespace Pan
open PySem PySem.Spec PyProof.Rows L2
abbrev Best := Option (Fr × Nat)
def betterM (M : TabM) (best : Best) (cost : Fr) (i : Nat) : Bool := match best with
  | none => true
  | some b => lessM cost b.1 || (decide (cost = b.1) && decide (M.free.getD i 0 < M.free.getD b.2 0))
def colStep (M : TabM) (best : Best) (x : Fr × Nat) : Best := if 0 < x.1.1 then (if betterM M best (overM (M.costs.getD x.2 (0, 1)) x.1) x.2 = true then some (overM (M.costs.getD x.2 (0, 1)) x.1, x.2) else best) else best
def okCol1 (M : TabM) (best : Best) (x : Fr × Nat) : Prop := 0 < x.1.1 → (Sm x.1 ∧ x.2 < M.costs.length ∧ Sm (M.costs.getD x.2 (0, 1)) ∧ Sm (overM (M.costs.getD x.2 (0, 1)) x.1)) ∧ (match best with | none => True | some b => Sm b.1 ∧ x.2 < M.free.length ∧ b.2 < M.free.length)
instance (M : TabM) (best : Best) (x : Fr × Nat) : Decidable (okCol1 M best x) := by
  unfold okCol1
  cases best <;> exact inferInstance
def okColL (M : TabM) : Best → List (Fr × Nat) → Prop
  | _, [] => True
  | b, x :: xs => okCol1 M b x ∧ okColL M (colStep M b x) xs
instance okColL.dec (M : TabM) : ∀ (b : Best) (xs : List (Fr × Nat)), Decidable (okColL M b xs)
  | _, [] => isTrue trivial
  | b, x :: xs => by
    unfold okColL
    have := okColL.dec M (colStep M b x) xs
    exact inferInstance
theorem okCol_at {M : TabM} : ∀ {b : Best} {xs : List (Fr × Nat)} {i : Nat} {x : Fr × Nat}, okColL M b xs → xs[i]? = some x → okCol1 M ((xs.take i).foldl (colStep M) b) x
  | b, [], i, x, _, e => by simp at e
  | b, y :: xs, 0, x, h, e => by
    obtain rfl : y = x := Option.some.inj e
    exact h.1
  | b, y :: xs, i + 1, x, h, e => okCol_at (b := colStep M b y) (xs := xs) (i := i) h.2 e
def lineM (M : TabM) (l : Nat) : List (Fr × Nat) := (M.lines.getD l []).zipIdx
def columnM (M : TabM) (l : Nat) : Option Nat := ((lineM M l).foldl (colStep M) none).map (·.2)
def okColumn (M : TabM) (l : Nat) : Prop := l < M.lines.length ∧ okColL M none (lineM M l)
instance (M : TabM) (l : Nat) : Decidable (okColumn M l) := inferInstanceAs (Decidable (_ ∧ _))
def optV : Option Nat → V
  | none => .non
  | some n => .int (n : Int)
def bestP (T : List (Addr × Str)) (K : PySem.W.Frag) : Best → Pr T
  | none => eqP .non
  | some b => pairP K (frP K b.1) (intP (b.2 : Int))
section
variable {T : List (Addr × Str)} {P : Program} {w : World} {K : PySem.W.Frag} {mg : Str → Option Value} {base : Heap}
def spColumn (T : List (Addr × Str)) (K : PySem.W.Frag) : Sp := fun vs H Q _ => ∃ (F : Hp) (a : Addr) (A : TA) (M : TabM) (l : Nat), vs = [.ref a, .int (l : Int)] ∧ TabSt T K F a A M H ∧ okColumn M l ∧ ∀ H', Gr T H H' → Q (optV (columnM M l)) H'
theorem scColumn : FnScope ["self", "line", "best", "index", "one", "cost", "is_first"] ["self", "line"] (defScope (inClass (top 16) 3)) := ⟨rfl, rfl, rfl, by decide +kernel, rfl, by decide +kernel, by decide +kernel⟩
theorem ok_column (W : Wd K mg) : FnR P w K mg base CX0 3 (He.ma K (He.ga K "Table") "column") (spColumn T K) := by
  obtain ⟨fd, Fd⟩ := W.d_Table_column
  have b : Binds K fd ["self", "line"] [] := Fd.bindsN fun _ _ _ _ _ _ us hl => match us, hl with | [_, _], _ => rfl
  refine fn_any (T := T) Fd scColumn b (fun vs H Q E ⟨F, a, A, M, l, e, _⟩ => by rw [e]; rfl) fun cdv A0 outer s H vs Q E hr hsp => ?_
  obtain ⟨F, a, A, M, l, rfl, t, ⟨hl, hok⟩, hQ⟩ := hsp
  have Lo := ok_over (T := T) (P := P) (w := w) (base := base) W
  have Ll := ok_less (T := T) (P := P) (w := w) (base := base) W
  refine ss_set (P := eqP .non) 2 ee_non scColumn.nd fun bv H1 g1 hb => ?_
  obtain rfl := hb
  have t1 := t.gr g1
  refine ss_for2 3 4 (src_enumL W.f_enumerate (ee_ixL l (getD_some (d := []) hl) (ee_tlines W t1 (ee_v 0 rfl)) (ee_v 1 rfl))) PassesOwn.never scColumn.nd
    (fun i σ' H' => ∃ bv u3 u4 u5 u6, σ' = [some (.ref a), some (.int (l : Int)), some bv, u3, u4, u5, u6] ∧ (bestP T K (((lineM M l).take i).foldl (colStep M) none)).p bv H') (fun H2 g => ⟨.non, _, _, _, _, rfl, rfl⟩) ?_ ?_
  · rintro i x v v' σ' H' H3 hx ⟨bv, u3, u4, u5, u6, rfl, hbv⟩ g2 g3 hv hv'
    obtain rfl := hv
    have k1 := okCol_at hok hx
    have hbest := (bestP T K _).st _ _ _ g3 hbv
    have e1 : (lineM M l).take (i + 1) = (lineM M l).take i ++ [x] := take_snoc hx
    have e2 : ((lineM M l).take (i + 1)).foldl (colStep M) none = colStep M (((lineM M l).take i).foldl (colStep M) none) x := by rw [e1, List.foldl_append]; rfl
    rw [e2]
    generalize ((lineM M l).take i).foldl (colStep M) none = best at k1 hbest ⊢
    have t3 := t1.gr (g2.trans g3)
    refine ss_when (et_gt (ix0 (ee_var 4 rfl hv')) ee_int) (fun ht H4 g4 => ?_) fun hf H4 g4 => ?_
    · have hpos : 0 < x.1.1 := of_decide_eq_true ht
      obtain ⟨⟨s1, s2, s3, s4⟩, k2⟩ := k1 hpos
      have t4 := t3.gr g4
      have e3 : colStep M best x = if betterM M best (overM (M.costs.getD x.2 (0, 1)) x.1) x.2 = true then some (overM (M.costs.getD x.2 (0, 1)) x.1, x.2) else best := by unfold colStep; rw [if_pos hpos]
      rw [e3]
      refine ss_set 5 (P := frP K (overM (M.costs.getD x.2 (0, 1)) x.1)) (ee_callP Lo W.g_over.mg W.g_over.kp hr (M.costs.getD x.2 (0, 1), x.1) ⟨⟨s3, s1⟩, by show x.1.1 ≠ 0; omega⟩ (ea_cons (ee_ixL x.2 (getD_some (d := (0, 1)) s2) (ee_tcosts W t4 (ee_v 0 rfl)) (ee_v 3 rfl)) (ea_cons (ee_var 4 rfl ((frP K x.1).st _ _ _ g4 hv')) ea_nil))) scColumn.nd fun cv H5 g5 hc => ?_
      have t5 := t4.gr g5
      generalize overM (M.costs.getD x.2 (0, 1)) x.1 = cost at s4 hc ⊢
      have hb5 := (bestP T K _).st _ _ _ (g4.trans g5) hbest
      cases best with
      | none =>
        obtain rfl : bv = V.non := hb5
        refine ss_set 6 (P := eqP (.bl true)) (EE.cast (ee_or (t := true) (u := false) (ee_isN (P := eqP .non) (fun v H1 h => by rw [show v = V.non from h]; rfl) (ee_v 2 rfl)) fun z => nomatch z) rfl) scColumn.nd fun fv H6 g6 hf => ?_
        obtain rfl := hf
        refine ss_when (t := true) (et_w (ew_or (t := true) (u := false) (et_val (ee_v 6 rfl)) fun z => nomatch z)) (fun _ H7 g7 => ?_) fun z => nomatch z
        refine ss_set 2 (ee_pair (ee_var 5 rfl ((frP K cost).st _ _ _ (g6.trans g7) hc)) (ee_v 3 rfl)) scColumn.nd fun pv H8 g8 hp => ss_nil (T := T) (ss_nil (T := T) (ss_nil (T := T) ⟨(((g4.trans g5).trans g6).trans g7).trans g8, ⟨pv, _, _, _, _, rfl, hp⟩⟩))
      | some bb =>
        obtain ⟨q1, q2, q3⟩ := k2
        refine ss_set 6 (P := eqP (.bl (lessM cost bb.1))) (EE.cast (ee_or (t := false) (u := lessM cost bb.1) (ee_isN (P := pairP K (frP K bb.1) (intP (bb.2 : Int))) (fun v H1 ⟨p, _, _, h, _⟩ => by rw [h]; rfl) (ee_var 2 rfl hb5)) fun _ => ee_one (ee_callP Ll W.g_is_less.mg W.g_is_less.kp hr (cost, bb.1) ⟨s4, q1⟩ (ea_cons (ee_var 5 rfl hc) (ea_cons (ee_fst (ee_var 2 rfl hb5)) ea_nil)))) rfl) scColumn.nd fun fv H6 g6 hf => ?_
        obtain rfl := hf
        have hb6 := (bestP T K (some bb)).st _ _ _ g6 hb5
        have hc6 := (frP K cost).st _ _ _ g6 hc
        have t6 := t5.gr g6
        refine ss_when (t := betterM M (some bb) cost x.2) (ET.cast (et_w (ew_or (t := lessM cost bb.1) (u := decide (cost = bb.1) && decide (M.free.getD x.2 0 < M.free.getD bb.2 0)) (et_val (ee_v 6 rfl)) fun _ H7 g7 => ew_or1 (et_w (ew_and (t := decide (cost = bb.1)) (u := decide (M.free.getD x.2 0 < M.free.getD bb.2 0))
          (ET.cast (et_eqD hr (Dat.ints [cost.1, cost.2]) (Dat.ints [bb.1.1, bb.1.2]) (ee_var 5 rfl ((frP K cost).st _ _ _ g7 hc6)) (ee_fst (ee_var 2 rfl ((bestP T K (some bb)).st _ _ _ g7 hb6)))) ?_) fun _ H8 g8 => ew_and1 (et_lt (ee_ixL x.2 (getD_some (d := 0) q2) (ee_tfree W ((t6.gr g7).gr g8) (ee_v 0 rfl)) (ee_v 3 rfl)) (ee_ixL bb.2 (getD_some (d := 0) q3) (ee_tfree W ((t6.gr g7).gr g8) (ee_v 0 rfl)) (ee_snd (ee_var 2 rfl ((bestP T K (some bb)).st _ _ _ (g7.trans g8) hb6))))))))) rfl) (fun ht2 H7 g7 => ?_) fun hf2 H7 g7 => ?_
        · rw [eqv_ints]
          obtain ⟨c1, c2⟩ := cost
          obtain ⟨⟨d1, d2⟩, _⟩ := bb
          simp
        · rw [if_pos ht2]
          exact ss_set 2 (ee_pair (ee_var 5 rfl ((frP K cost).st _ _ _ g7 hc6)) (ee_v 3 rfl)) scColumn.nd fun pv H8 g8 hp => ss_nil (T := T) (ss_nil (T := T) (ss_nil (T := T) ⟨(((g4.trans g5).trans g6).trans g7).trans g8, ⟨pv, _, _, _, _, rfl, hp⟩⟩))
        · rw [if_neg (by rw [hf2]; exact Bool.false_ne_true)]
          exact ss_nil (T := T) (ss_nil (T := T) ⟨((g4.trans g5).trans g6).trans g7, ⟨bv, _, _, _, _, rfl, (bestP T K (some bb)).st _ _ _ g7 hb6⟩⟩)
    · have e3 : colStep M best x = best := by unfold colStep; rw [if_neg (of_decide_eq_false hf)]
      rw [e3]
      exact ss_nil (T := T) ⟨g4, bv, _, _, _, _, rfl, (bestP T K best).st _ _ _ g4 hbest⟩
  · rintro σ' H' g ⟨bv, u3, u4, u5, u6, rfl, hbv⟩
    have e0 : ((lineM M l).take (M.lines.getD l []).zipIdx.length) = lineM M l := List.take_length
    rw [e0] at hbv
    have gg := g1.trans g
    unfold columnM at hQ
    generalize (lineM M l).foldl (colStep M) none = best at hbv hQ
    cases best with
    | none =>
      obtain rfl : bv = V.non := hbv
      exact ss_ret (P := eqP .non) (ee_if (t := true) (et_isN (P := eqP .non) (fun v H1 h => by rw [show v = V.non from h]; rfl) (ee_v 2 rfl)) (fun _ => ee_non) fun z => nomatch z) fun v H2 g2 hv => by
        obtain rfl := hv
        exact hQ H2 (gg.trans g2)
    | some bb =>
      exact ss_ret (P := intP (bb.2 : Int)) (ee_if (t := false) (et_isN (P := pairP K (frP K bb.1) (intP (bb.2 : Int))) (fun v H1 ⟨p, _, _, h, _⟩ => by rw [h]; rfl) (ee_var 2 rfl hbv)) (fun z => nomatch z) fun _ => ee_snd (ee_var 2 rfl hbv)) fun v H2 g2 hv => by
        obtain rfl := hv
        exact hQ H2 (gg.trans g2)
end
end Pan
set_option maxHeartbeats 1000000
/-! Changing a table. -/
namespace Pan
open PySem PySem.Spec PyProof.Rows L2
def TA.mut (A : TA) (a : Addr) : List Addr := [A.Lb, A.Lc, A.Lf, A.Ll, A.Ls, a, A.dx]
section
variable {T : List (Addr × Str)} {K : PySem.W.Frag} {F H H' : Hp} {a p : Addr} {A : TA} {M : TabM} {xs ys : List V}
theorem TabSt.fnone (t : TabSt T K F a A M H) : ∀ b ∈ A.mut a, F b = none := by
  simp only [TA.mut, List.mem_cons, List.mem_nil_iff, or_false, forall_eq_or_imp, forall_eq]
  exact ⟨t.fb, t.fc, t.ff, t.fl, t.fs, t.fa, t.fd⟩
theorem TabSt.calm (t : TabSt T K F a A M H) : ∀ b ∈ A.mut a, Calm H b := by
  simp only [TA.mut, List.mem_cons, List.mem_nil_iff, or_false, forall_eq_or_imp, forall_eq]
  exact ⟨calm_lst t.hb, calm_lst t.hc, calm_lst t.hf, calm_lst t.hl, calm_lst t.hs, t.ins.calm.1, t.ins.calm.2⟩
theorem TabSt.noT (t : TabSt T K F a A M H) : ∀ b ∈ A.mut a, ∀ o, H b = some o → NoT o := by
  simp only [TA.mut, List.mem_cons, List.mem_nil_iff, or_false, forall_eq_or_imp, forall_eq]
  exact ⟨lst_not t.hb, lst_not t.hc, lst_not t.hf, lst_not t.hl, lst_not t.hs, fun o e => ((ins_not t.ins).1 o e).1, fun o e => ((ins_not t.ins).2 o e).1⟩
theorem TabSt.there (t : TabSt T K F a A M H) : ∀ b ∈ A.mut a, ∃ o, H b = some o := by
  simp only [TA.mut, List.mem_cons, List.mem_nil_iff, or_false, forall_eq_or_imp, forall_eq]
  have k := t.ins.calm
  exact ⟨⟨_, t.hb⟩, ⟨_, t.hc⟩, ⟨_, t.hf⟩, ⟨_, t.hl⟩, ⟨_, t.hs⟩, ⟨_, k.1.1.choose_spec.1⟩, ⟨_, k.2.1.choose_spec.1⟩⟩
theorem TabSt.fresh (t : TabSt T K F a A M H) (h : H p = none) : p ∉ A.mut a := fun k => by
  obtain ⟨o, e⟩ := t.there p k
  rw [h] at e
  exact nomatch e
/-- what does not change is all the rest -/
theorem TabSt.freeze (t : TabSt T K F a A M H) : TabSt T K (cut H (A.mut a)) a A M H ∧ Gr T F (cut H (A.mut a)) := by
  have g := t.g.toCut t.fnone t.calm
  have n : ∀ b ∈ A.mut a, cut H (A.mut a) b = none := fun b hb => cut_in hb
  refine ⟨{ t with g := Gr.cut, fa := n _ (by simp [TA.mut]), fd := n _ (by simp [TA.mut]), kc := t.kc.st g, kl := t.kl.st g, ks := t.ks.st g, fb := n _ (by simp [TA.mut]), fc := n _ (by simp [TA.mut]), ff := n _ (by simp [TA.mut]), fl := n _ (by simp [TA.mut]), fs := n _ (by simp [TA.mut]) }, g⟩
/-- a list apart from it changes -/
theorem TabSt.other (t : TabSt T K F a A M H) (hF : F p = none) (hp : H p = some (.lst xs)) (ne : p ∉ A.mut a) : TabSt T K F a A M (upd H p (.lst ys)) := by
  simp only [TA.mut, List.mem_cons, List.mem_nil_iff, or_false, not_or] at ne
  obtain ⟨n1, n2, n3, n4, n5, n6, n7⟩ := ne
  exact { t with g := t.g.mut hF (calm_lst hp), ins := t.ins.same (upd_ne (Ne.symm n6)) (upd_ne (Ne.symm n7)), hb := (upd_ne (Ne.symm n1)).trans t.hb, hc := (upd_ne (Ne.symm n2)).trans t.hc, hf := (upd_ne (Ne.symm n3)).trans t.hf, hl := (upd_ne (Ne.symm n4)).trans t.hl, hs := (upd_ne (Ne.symm n5)).trans t.hs }
theorem TabSt.ne (t : TabSt T K F a A M H) : (A.Lb ≠ A.Lc ∧ A.Lb ≠ A.Lf ∧ A.Lb ≠ A.Ll ∧ A.Lb ≠ A.Ls) ∧ (A.Lc ≠ A.Lf ∧ A.Lc ≠ A.Ll ∧ A.Lc ≠ A.Ls) ∧ (A.Lf ≠ A.Ll ∧ A.Lf ≠ A.Ls) ∧ A.Ll ≠ A.Ls := by
  have h := t.nd
  simp only [List.nodup_cons, List.mem_cons, List.mem_nil_iff, or_false, not_or, not_false_eq_true, List.nodup_nil, and_true] at h
  exact ⟨⟨h.1.1, h.1.2.1, h.1.2.2.1, h.1.2.2.2⟩, ⟨h.2.1.1, h.2.1.2.1, h.2.1.2.2⟩, h.2.2.1, h.2.2.2⟩
theorem TabSt.setLine {i : Nat} {v : V} {row : List Fr} (t : TabSt T K F a A M H) (h : (lstP (T := T) K (frP K) row).p v F) : TabSt T K F a { A with rs := A.rs.set i v } { M with lines := M.lines.set i row } (upd H A.Ll (.lst (A.rs.set i v))) := by
  obtain ⟨⟨b1, b2, b3, b4⟩, ⟨c1, c2, c3⟩, ⟨d1, d2⟩, e1⟩ := t.ne
  have k := t.ins.ne t.hl
  exact { t with g := t.g.mut t.fl (calm_lst t.hl), ins := t.ins.same (upd_ne k.1.symm) (upd_ne k.2.symm), hb := (upd_ne b3).trans t.hb, hc := (upd_ne c2).trans t.hc, hf := (upd_ne d1).trans t.hf, hl := upd_same, hs := (upd_ne e1.symm).trans t.hs, kl := All2.set h i t.kl }
theorem TabSt.setSide {i : Nat} {v : V} {q : Fr} (t : TabSt T K F a A M H) (h : (frP (T := T) K q).p v F) : TabSt T K F a { A with ss := A.ss.set i v } { M with sides := M.sides.set i q } (upd H A.Ls (.lst (A.ss.set i v))) := by
  obtain ⟨⟨b1, b2, b3, b4⟩, ⟨c1, c2, c3⟩, ⟨d1, d2⟩, e1⟩ := t.ne
  have k := t.ins.ne t.hs
  exact { t with g := t.g.mut t.fs (calm_lst t.hs), ins := t.ins.same (upd_ne k.1.symm) (upd_ne k.2.symm), hb := (upd_ne b4).trans t.hb, hc := (upd_ne c3).trans t.hc, hf := (upd_ne d2).trans t.hf, hl := (upd_ne e1).trans t.hl, hs := upd_same, ks := All2.set h i t.ks }
theorem TabSt.setBasic {i : Nat} {n : Int} (t : TabSt T K F a A M H) : TabSt T K F a A { M with basic := M.basic.set i n } (upd H A.Lb (.lst ((M.basic.map V.int).set i (.int n)))) := by
  obtain ⟨⟨b1, b2, b3, b4⟩, ⟨c1, c2, c3⟩, ⟨d1, d2⟩, e1⟩ := t.ne
  have k := t.ins.ne t.hb
  exact { t with g := t.g.mut t.fb (calm_lst t.hb), ins := t.ins.same (upd_ne k.1.symm) (upd_ne k.2.symm), hb := by rw [upd_same, List.map_set], hc := (upd_ne b1.symm).trans t.hc, hf := (upd_ne b2.symm).trans t.hf, hl := (upd_ne b3.symm).trans t.hl, hs := (upd_ne b4.symm).trans t.hs }
theorem TabSt.setFree {i : Nat} {n : Int} (t : TabSt T K F a A M H) : TabSt T K F a A { M with free := M.free.set i n } (upd H A.Lf (.lst ((M.free.map V.int).set i (.int n)))) := by
  obtain ⟨⟨b1, b2, b3, b4⟩, ⟨c1, c2, c3⟩, ⟨d1, d2⟩, e1⟩ := t.ne
  have k := t.ins.ne t.hf
  exact { t with g := t.g.mut t.ff (calm_lst t.hf), ins := t.ins.same (upd_ne k.1.symm) (upd_ne k.2.symm), hb := (upd_ne b2).trans t.hb, hc := (upd_ne c1).trans t.hc, hf := by rw [upd_same, List.map_set], hl := (upd_ne d1.symm).trans t.hl, hs := (upd_ne d2.symm).trans t.hs }
/-- a new list of costs is stored -/
theorem TabSt.setCosts {cs : List V} {costs : List Fr} (t : TabSt T K F a A M H) (hF : F p = none) (hp : H p = some (.lst cs)) (ne : p ∉ A.mut a) (h : All2 (frP (T := T) K) cs costs F) :
    TabSt T K F a { A with Lc := p, cs := cs, vs := SlX.putS 1 (.ref p) A.vs } { M with costs := costs } (SlX.slH H a (He.ga K "Table") A.dx (SlX.putS 1 (.ref p) A.vs)) := by
  simp only [TA.mut, List.mem_cons, List.mem_nil_iff, or_false, not_or] at ne
  obtain ⟨n1, n2, n3, n4, n5, n6, n7⟩ := ne
  obtain ⟨⟨b1, b2, b3, b4⟩, ⟨c1, c2, c3⟩, ⟨d1, d2⟩, e1⟩ := t.ne
  have pn := fun {j : Nat} {x : V} (hj : j ≠ 1) (h : A.vs[j]? = some (some x)) => (SlX.putS_ne (v := .ref p) hj).mpr h
  have nd' : [A.Lb, p, A.Lf, A.Ll, A.Ls].Nodup := by
    simp only [List.nodup_cons, List.mem_cons, List.mem_nil_iff, or_false, not_or, not_false_eq_true, List.nodup_nil, and_true]
    exact ⟨⟨fun e => n1 e.symm, b2, b3, b4⟩, ⟨n3, n4, n5⟩, ⟨d1, d2⟩, e1⟩
  exact
    { g := t.g.put t.fa t.fd t.ins
      fa := t.fa
      fd := t.fd
      ins := Ins.put t.ins.1
      s0 := pn (by decide) t.s0
      s1 := SlX.putS_get _ _ _
      s2 := pn (by decide) t.s2
      s3 := pn (by decide) t.s3
      s4 := pn (by decide) t.s4
      s5 := pn (by decide) t.s5
      hb := t.ins.keepL t.hb
      hc := t.ins.keepL hp
      hf := t.ins.keepL t.hf
      hl := t.ins.keepL t.hl
      hs := t.ins.keepL t.hs
      kc := h
      kl := t.kl
      ks := t.ks
      fb := t.fb
      fc := hF
      ff := t.ff
      fl := t.fl
      fs := t.fs
      nd := nd' }
/-- a new list known at the heap without it is frozen with the table -/
theorem TabSt.lists {row : List Fr} (t : TabSt T K F a A M H) (hp : H p = some (.lst xs)) (ne : p ∉ A.mut a) (h : All2 (frP (T := T) K) xs row (del H p)) : (lstP (T := T) K (frP K) row).p (.ref p) (cut H (A.mut a)) := by
  have g1 : Gr T (cut (del H p) (A.mut a)) (cut H (A.mut a)) := Gr.of_same fun b u e => by
    by_cases k : b ∈ A.mut a
    · rw [cut_in k] at e; exact nomatch e
    · rw [cut_out k] at e ⊢
      by_cases k2 : b = p
      · rw [k2, del_same] at e; exact nomatch e
      · rwa [del_ne k2] at e
  refine ⟨p, xs, rfl, .inl (.inl ((cut_out ne).trans hp)), (All2.cutH (fun b hb o e => ?_) h).st g1⟩
  have k2 : b ≠ p := fun e => ne (e ▸ hb)
  rw [del_ne k2] at e
  exact t.noT b hb o e
theorem TabSt.hard {P : Pr T} [hP : Hard P] {v : V} (t : TabSt T K F a A M H) (h : P.p v H) : P.p v (cut H (A.mut a)) := hP.s _ _ _ t.noT h
end
/-! ### exchange -/
def headM (M : TabM) (l c : Nat) : Fr := (M.lines.getD l []).getD c (0, 1)
def ownM (M : TabM) (l c : Nat) : List Fr := ((M.lines.getD l []).map fun one => minusM (0, 1) (overM one (headM M l c))).set c (overM (1, 1) (headM M l c))
def sideM (M : TabM) (l c : Nat) : Fr := minusM (0, 1) (overM (M.sides.getD l (0, 1)) (headM M l c))
def xStep (own : List Fr) (side : Fr) (l c : Nat) (M : TabM) (i : Nat) : TabM :=
  if i ≠ l ∧ (headM M i c).1 ≠ 0 then { M with lines := M.lines.set i (mixedM ⟨M.lines.getD i [], headM M i c, own, c⟩), sides := M.sides.set i (plusM (M.sides.getD i (0, 1)) (timesM (headM M i c) side)) } else M
def okXStep (own : List Fr) (side : Fr) (l c : Nat) (M : TabM) (i : Nat) : Prop := (i < M.lines.length ∧ i < M.sides.length ∧ c < (M.lines.getD i []).length) ∧ (i ≠ l ∧ (headM M i c).1 ≠ 0 →
  okMixed ⟨M.lines.getD i [], headM M i c, own, c⟩ ∧ Sm (M.sides.getD i (0, 1)) ∧ Sm (headM M i c) ∧ Sm side ∧ Sm (timesM (headM M i c) side))
instance (own : List Fr) (side : Fr) (l c : Nat) (M : TabM) (i : Nat) : Decidable (okXStep own side l c M i) := inferInstanceAs (Decidable (_ ∧ _))
def okXL (own : List Fr) (side : Fr) (l c : Nat) : TabM → List Nat → Prop
  | _, [] => True
  | M, i :: is => okXStep own side l c M i ∧ okXL own side l c (xStep own side l c M i) is
instance okXL.dec (own : List Fr) (side : Fr) (l c : Nat) : ∀ (M : TabM) (is : List Nat), Decidable (okXL own side l c M is)
  | _, [] => isTrue trivial
  | M, i :: is => by
    unfold okXL
    have := okXL.dec own side l c (xStep own side l c M i) is
    exact inferInstance
theorem okXL_at {own : List Fr} {side : Fr} {l c : Nat} : ∀ {M : TabM} {is : List Nat} {i x : Nat}, okXL own side l c M is → is[i]? = some x → okXStep own side l c ((is.take i).foldl (xStep own side l c) M) x
  | M, [], i, x, _, e => by simp at e
  | M, y :: is, 0, x, h, e => by
    obtain rfl : y = x := Option.some.inj e
    exact h.1
  | M, y :: is, i + 1, x, h, e => okXL_at (M := xStep own side l c M y) (is := is) (i := i) h.2 e
def loopM (M : TabM) (l c : Nat) : TabM := (List.range M.sides.length).foldl (xStep (ownM M l c) (sideM M l c) l c) M
def costM (M : TabM) (own : List Fr) (c : Nat) : MixM := ⟨M.costs, M.costs.getD c (0, 1), own, c⟩
def exchangeM (M : TabM) (l c : Nat) : TabM :=
  { loopM M l c with costs := mixedM (costM (loopM M l c) (ownM M l c) c), lines := (loopM M l c).lines.set l (ownM M l c), sides := (loopM M l c).sides.set l (sideM M l c), basic := (loopM M l c).basic.set l ((loopM M l c).free.getD c 0), free := (loopM M l c).free.set c ((loopM M l c).basic.getD l 0) }
def okExch (M : TabM) (l c : Nat) : Prop := (l < M.lines.length ∧ c < (M.lines.getD l []).length ∧ l < M.sides.length ∧ M.sides.length ≤ 100 ∧ (M.lines.getD l []).length ≤ 100) ∧ (Sm (headM M l c) ∧ (headM M l c).1 ≠ 0) ∧ (∀ one ∈ M.lines.getD l [], Sm one ∧ Sm (overM one (headM M l c))) ∧
  (Sm (M.sides.getD l (0, 1)) ∧ Sm (overM (M.sides.getD l (0, 1)) (headM M l c))) ∧ okXL (ownM M l c) (sideM M l c) l c M (List.range M.sides.length) ∧ okMixed (costM (loopM M l c) (ownM M l c) c) ∧ c < (loopM M l c).costs.length ∧
  l < (loopM M l c).lines.length ∧ l < (loopM M l c).sides.length ∧ l < (loopM M l c).basic.length ∧ c < (loopM M l c).free.length
instance (M : TabM) (l c : Nat) : Decidable (okExch M l c) := inferInstanceAs (Decidable (_ ∧ _ ∧ _ ∧ _ ∧ _ ∧ _ ∧ _ ∧ _ ∧ _ ∧ _ ∧ _))
theorem ixN_nat {n j : Nat} (h : j < n) : ixN n (j : Int) = some j := by
  unfold ixN
  rw [if_pos (by omega), if_pos (by omega)]
  simp
theorem sm11 : Sm (1, 1) := by decide
section
variable {T : List (Addr × Str)} {P : Program} {w : World} {K : PySem.W.Frag} {mg : Str → Option Value} {base : Heap}
def spExch (T : List (Addr × Str)) (K : PySem.W.Frag) : Sp := fun vs H Q _ => ∃ (F : Hp) (a : Addr) (A : TA) (M : TabM) (l c : Nat), vs = [.ref a, .int (l : Int), .int (c : Int)] ∧ TabSt T K F a A M H ∧ okExch M l c ∧ ∀ F' A' H', Gr T F F' → TabSt T K F' a A' (exchangeM M l c) H' → Q .non H'
theorem scExch : FnScope ["self", "line", "column", "head", "own", "side", "index", "part", "one"] ["self", "line", "column"] (defScope (inClass (top 16) 4)) := ⟨rfl, rfl, rfl, by decide +kernel, rfl, by decide +kernel, by decide +kernel⟩
theorem ok_exchange (W : Wd K mg) : FnR P w K mg base CX0 4 (He.ma K (He.ga K "Table") "exchange") (spExch T K) := by
  obtain ⟨fd, Fd⟩ := W.d_Table_exchange
  have b : Binds K fd ["self", "line", "column"] [] := Fd.bindsN fun _ _ _ _ _ _ us hl => match us, hl with | [_, _, _], _ => rfl
  refine fn_any (T := T) Fd scExch b (fun vs H Q E ⟨F, a, A, M, l, c, e, _⟩ => by rw [e]; rfl) fun cdv A0 outer s H vs Q E hr hsp => ?_
  obtain ⟨F, a, A, M, l, c, rfl, t, ⟨⟨hl, hc, hs, hn, hn2⟩, ⟨hh, hh0⟩, hone, ⟨hsd, hso⟩, hx, hmx, hcc, hl2, hs2, hb2, hf2⟩, hQ⟩ := hsp
  have Lo := ok_over (T := T) (P := P) (w := w) (base := base) W
  have Lm := ok_minus (T := T) (P := P) (w := w) (base := base) W
  have Lt := ok_times (T := T) (P := P) (w := w) (base := base) W
  have Lp := ok_plus (T := T) (P := P) (w := w) (base := base) W
  have Lx := ok_mixed (T := T) (P := P) (w := w) (base := base) W
  refine ss_set 3 (P := frP K (headM M l c)) (ee_ixL c (getD_some (d := (0, 1)) hc) (ee_ixL l (getD_some (d := []) hl) (ee_tlines W t (ee_v 0 rfl)) (ee_v 1 rfl)) (ee_v 2 rfl)) scExch.nd fun hv H1 g1 hhv => ?_
  have t1 := t.gr g1
  refine ss_setCL 4 (ec_lc 8 scExch (Ro := fun one : Fr => frP K (minusM (0, 1) (overM one (headM M l c)))) (src_list (ee_ixL l (getD_some (d := []) hl) (ee_tlines W t1 (ee_v 0 rfl)) (ee_v 1 rfl))) (by omega)
    fun one v H' hm g hv s H C cl fp => ee_callP Lm W.g_minus.mg W.g_minus.kp hr ((0, 1), overM one (headM M l c)) ⟨sm01, (hone one hm).2⟩ (ea_cons (ee_glob W.mg_NONE relRef (NONEp W _)) (ea_cons (ee_callP Lo W.g_over.mg W.g_over.kp hr (one, headM M l c) ⟨⟨(hone one hm).1, hh⟩, hh0⟩ (ea_cons (ee_var 8 rfl hv) (ea_cons (ee_var 3 rfl ((frP K _).st _ _ _ g hhv)) ea_nil))) ea_nil))) fun p xs H2 g2 p2 h2 kx => ?_
  have t2 := t1.gr g2
  have hxl : xs.length = (M.lines.getD l []).length := kx.length
  have np : p ∉ A.mut a := t1.fresh p2
  have Fp : F p = none := t1.g.old _ p2
  have hh2 := (frP K (headM M l c)).st _ _ _ g2 hhv
  refine ss_lset (ee_call Lo W.g_over.mg W.g_over.kp hr ((1, 1), headM M l c) ⟨⟨sm11, hh⟩, hh0⟩ (ea_cons (ee_glob W.mg_ONE relRef (ONEp W _)) (ea_cons (ee_var 3 rfl hh2) ea_nil))).x fun v H3 ⟨g3, hv3⟩ => ⟨p, (c : Int), ee_v 4 rfl, fun _ _ => ee_v 2 rfl, fun H4 g4 => ⟨xs, c, (g3.trans g4).lst h2, ixN_nat (by rw [hxl]; exact hc), ?_⟩⟩
  have h4p := (g3.trans g4).lst h2
  have t4 := ((t2.gr g3).gr g4).other (ys := xs.set c v) Fp h4p np
  have gd : Gr T (del H2 p) (del (upd H4 p (.lst (xs.set c v))) p) := ((Gr.del.trans (g3.trans g4)).mut del_same (calm_lst h4p)).toDel del_same upd_same trivial
  have gv : (frP (T := T) K (overM (1, 1) (headM M l c))).p v (del (upd H4 p (.lst (xs.set c v))) p) := by
    have h' : (frP (T := T) K (overM (1, 1) (headM M l c))).p v (del H3 p) := Solid.s _ _ _ _ (g3.lst h2) trivial hv3
    exact (frP K _).st _ _ _ (((Gr.del.trans g4).mut del_same (calm_lst h4p)).toDel del_same upd_same trivial) h'
  have ko : All2 (frP (T := T) K) (xs.set c v) (ownM M l c) (del (upd H4 p (.lst (xs.set c v))) p) := All2.set gv _ (All2.map (R := frP K) (f := fun one : Fr => minusM (0, 1) (overM one (headM M l c))) (kx.st gd))
  have khd : (frP (T := T) K (headM M l c)).p hv (upd H4 p (.lst (xs.set c v))) := Solid.upd hh2 h2 (g3.trans g4)
  have h5p : upd H4 p (.lst (xs.set c v)) p = some (.lst (xs.set c v)) := upd_same
  generalize upd H4 p (.lst (xs.set c v)) = H5 at t4 ko khd h5p ⊢
  generalize xs.set c v = xs5 at ko h5p
  obtain ⟨t5, gF⟩ := t4.freeze
  have own5 := t4.lists h5p np ko
  generalize cut H5 (A.mut a) = F5 at t5 gF own5
  generalize hown : ownM M l c = own at own5 hx hmx ko
  -- side
  refine ss_set 5 (P := frP K (sideM M l c)) (ee_callP Lm W.g_minus.mg W.g_minus.kp hr ((0, 1), overM (M.sides.getD l (0, 1)) (headM M l c)) ⟨sm01, hso⟩ (ea_cons (ee_glob W.mg_NONE relRef (NONEp W _)) (ea_cons (ee_callP Lo W.g_over.mg W.g_over.kp hr (M.sides.getD l (0, 1), headM M l c) ⟨⟨hsd, hh⟩, hh0⟩ (ea_cons (ee_ixL l (getD_some (d := (0, 1)) hs) (ee_tsides W t5 (ee_v 0 rfl)) (ee_v 1 rfl)) (ea_cons (ee_var 3 rfl khd) ea_nil))) ea_nil))) scExch.nd fun sv H6 g6 hsv => ?_
  have t6 := t5.gr g6
  have sd6 := t6.hard hsv
  obtain ⟨t6, gF6⟩ := t6.freeze
  have own6 := (lstP K (frP K) own).st _ _ _ gF6 own5
  generalize cut H6 (A.mut a) = F6 at t6 gF6 own6 sd6
  have gFF := gF.trans gF6
  generalize hsd' : sideM M l c = side at sd6 hx
  -- the loop
  refine ss_forB (H0 := F6) 6 (src_rangeO F6 W.f_range (ee_lenL W.f_len (ee_tsides W t6 (ee_v 0 rfl))) (by omega)) PassesOwn.never scExch.nd
    (fun i σ' H' => (∃ u6 u7, σ' = [some (.ref a), some (.int (l : Int)), some (.int (c : Int)), some hv, some (.ref p), some sv, u6, u7, none]) ∧ ∃ Fi Ai, Gr T F6 Fi ∧ TabSt T K Fi a Ai (((List.range M.sides.length).take i).foldl (xStep own side l c) M) H')
    (fun H2 g => ⟨⟨_, _, rfl⟩, F6, A, .refl _, t6.gr g⟩) (fun i σ' H' ⟨_, Fi, Ai, gi, ti⟩ => gi.trans ti.g) ?_ ?_
  · rintro i x v' σ' H7 H8 hix ⟨⟨u6, u7, rfl⟩, Fi, Ai, gi, ti⟩ g8 hv'
    obtain rfl := hv'
    rw [Int.toNat_natCast] at hix
    obtain ⟨⟨k1, k2, k3⟩, k4⟩ := okXL_at hx hix
    have e2 : ((List.range M.sides.length).take (i + 1)).foldl (xStep own side l c) M = xStep own side l c (((List.range M.sides.length).take i).foldl (xStep own side l c) M) x := by rw [take_snoc hix, List.foldl_append]; rfl
    rw [e2]
    generalize ((List.range M.sides.length).take i).foldl (xStep own side l c) M = Mi at k1 k2 k3 k4 ti ⊢
    have t8 := ti.gr g8
    refine ss_set 7 (P := frP K (headM Mi x c)) (ee_ixL c (getD_some (d := (0, 1)) k3) (ee_ixL x (getD_some (d := []) k1) (ee_tlines W t8 (ee_v 0 rfl)) (ee_v 6 rfl)) (ee_v 2 rfl)) scExch.nd fun pv H9 g9 hpv => ?_
    have t9 := t8.gr g9
    refine ss_when (t := decide (x ≠ l ∧ (headM Mi x c).1 ≠ 0)) (ET.cast (et_w (ew_and (t := !decide (V.int (x : Int) = V.int (l : Int))) (u := !decide (V.int (headM Mi x c).1 = V.int 0)) (et_neS rfl (ee_v 6 rfl) (ee_v 1 rfl)) fun _ H10 g10 => ew_and1 (et_neS rfl (ix0 (ee_var 7 rfl ((frP K _).st _ _ _ g10 hpv))) ee_int))) (by by_cases h : x = l <;> simp [h, Int.natCast_inj])) (fun ht H10 g10 => ?_) fun hf H10 g10 => ?_
    · have hcond := of_decide_eq_true ht
      obtain ⟨m1, m2, m3, m4, m5⟩ := k4 hcond
      have t10 := t9.gr g10
      have e3 : xStep own side l c Mi x = { Mi with lines := Mi.lines.set x (mixedM ⟨Mi.lines.getD x [], headM Mi x c, own, c⟩), sides := Mi.sides.set x (plusM (Mi.sides.getD x (0, 1)) (timesM (headM Mi x c) side)) } := by unfold xStep; rw [if_pos hcond]
      rw [e3]
      have o10 := (lstP K (frP K) own).st _ _ _ (gi.trans t10.g) own6
      have p10 := (frP K (headM Mi x c)).st _ _ _ g10 hpv
      refine ss_lset (ex_meth (T := T) (E := fun _ _ _ => False) 0 rfl t10.ins.slt W.s_Table W.m_Table_mixed Lx hr (ea_cons (ee_ixL x (getD_some (d := []) k1) (ee_tlines W t10 (ee_v 0 rfl)) (ee_v 6 rfl)) (ea_cons (ee_var 7 rfl p10) (ea_cons (ee_var 4 rfl o10) (ea_cons (ee_v 2 rfl) ea_nil))))
        (R := fun v H' => Gr T H10 H' ∧ ∃ q ys, v = .ref q ∧ H10 q = none ∧ H' q = some (.lst ys) ∧ All2 (frP (T := T) K) ys (mixedM ⟨Mi.lines.getD x [], headM Mi x c, own, c⟩) (del H' q)) fun ws H11 g11 hws => ?_) fun v H12 ⟨g12, q, ys, e4, q1, q2, q3⟩ => ?_
      · obtain ⟨w1, w2, w3, w4, rfl, hw1, hw2, hw3, hw4⟩ := sat4 hws
        exact ⟨⟨Mi.lines.getD x [], headM Mi x c, own, c⟩, .ref a, [w1, w2, w3, w4], rfl, m1, ⟨hw1, hw2, hw3, hw4, trivial⟩, fun q ys H' g h1 h2 h3 => ⟨g11.trans g, q, ys, rfl, g11.old _ h1, h2, h3⟩⟩
      · subst e4
        have t12 := t10.gr g12
        have nq := t10.fresh q1
        refine ⟨Ai.Ll, (x : Int), ee_tab W t12 W.Table_lines t12.s3 rfl (ee_v 0 rfl), fun _ _ => ee_v 6 rfl, fun H13 g13 => ⟨Ai.rs, x, g13.lst t12.hl, ixN_nat (by rw [t12.kl.length]; exact k1), ?_⟩⟩
        have t13 := t12.gr g13
        have row13 : (lstP (T := T) K (frP K) (mixedM ⟨Mi.lines.getD x [], headM Mi x c, own, c⟩)).p (.ref q) (cut H13 (Ai.mut a)) := t13.lists (g13.lst q2) nq (q3.st ((Gr.del.trans g13).toDel del_same (g13.lst q2) trivial))
        obtain ⟨t13', gF13⟩ := t13.freeze
        have t14 := t13'.setLine (i := x) row13
        generalize hH14 : upd H13 Ai.Ll (.lst (Ai.rs.set x (.ref q))) = H14 at t14 ⊢
        have p14 : (frP (T := T) K (headM Mi x c)).p pv H14 := (frP K _).st _ _ _ t14.g (t13.hard ((frP K _).st _ _ _ (g12.trans g13) p10))
        have s14 : (frP (T := T) K side).p sv H14 := (frP K _).st _ _ _ (gi.trans (gF13.trans t14.g)) sd6
        generalize cut H13 (Ai.mut a) = F13 at t14 gF13
        refine ss_lset (EE.x (T := T) (ee_call Lp W.g_plus.mg W.g_plus.kp hr (Mi.sides.getD x (0, 1), timesM (headM Mi x c) side) ⟨m2, m5⟩ (ea_cons (ee_ixL x (getD_some (d := (0, 1)) k2) (EE.cast (ee_tsides W t14 (ee_v 0 rfl)) (by rfl)) (ee_v 6 rfl)) (ea_cons (ee_callP Lt W.g_times.mg W.g_times.kp hr (headM Mi x c, side) ⟨m3, m4⟩ (ea_cons (ee_var 7 rfl p14) (ea_cons (ee_var 5 rfl s14) ea_nil))) ea_nil)))) fun v H15 ⟨g15, hv15⟩ => ?_
        have t15 := t14.gr g15
        refine ⟨Ai.Ls, (x : Int), ee_tab W t15 W.Table_sides t15.s5 rfl (ee_v 0 rfl), fun _ _ => ee_v 6 rfl, fun H16 g16 => ⟨Ai.ss, x, g16.lst t15.hs, ixN_nat (by rw [t15.ks.length]; exact k2), ?_⟩⟩
        have t16 := t15.gr g16
        have hv16 := t16.hard ((frP K _).st _ _ _ g16 hv15)
        obtain ⟨t16', gF16⟩ := t16.freeze
        have t17 := t16'.setSide (i := x) hv16
        exact ss_nil (T := T) (ss_nil (T := T) ⟨⟨_, _, rfl⟩, _, _, (gi.trans gF13).trans gF16, t17⟩)
    · have hcond := of_decide_eq_false hf
      have e3 : xStep own side l c Mi x = Mi := by unfold xStep; rw [if_neg hcond]
      rw [e3]
      exact ss_nil (T := T) ⟨⟨_, _, rfl⟩, Fi, Ai, gi, t9.gr g10⟩
  · rintro σ' H7 ⟨⟨u6, u7, rfl⟩, Fi, Ai, gi, ti⟩
    have e0 : ((List.range M.sides.length).take (List.range (M.sides.length : Int).toNat).length).foldl (xStep own side l c) M = loopM M l c := by
      rw [Int.toNat_natCast, List.take_length]
      unfold loopM
      rw [hown, hsd']
    rw [e0] at ti
    unfold exchangeM at hQ
    rw [hown, hsd'] at hQ
    generalize loopM M l c = M2 at ti hmx hcc hl2 hs2 hb2 hf2 hQ
    have o7 := (lstP K (frP K) own).st _ _ _ (gi.trans ti.g) own6
    -- costs
    refine ss_sl (dx := Ai.dx) 0 rfl (ex_meth (T := T) (E := fun _ _ _ => False) 0 rfl ti.ins.slt W.s_Table W.m_Table_mixed Lx hr (ea_cons (ee_tcosts W ti (ee_v 0 rfl)) (ea_cons (ee_ixL c (getD_some (d := (0, 1)) hcc) (ee_tcosts W ti (ee_v 0 rfl)) (ee_v 2 rfl)) (ea_cons (ee_var 4 rfl o7) (ea_cons (ee_v 2 rfl) ea_nil))))
      (R := fun v H' => Gr T H7 H' ∧ ∃ q ys, v = .ref q ∧ H7 q = none ∧ H' q = some (.lst ys) ∧ All2 (frP (T := T) K) ys (mixedM (costM M2 own c)) (del H' q)) fun ws H11 g11 hws => ?_) W.s_Table W.Table_costs fun v H8 ⟨g8, q, ys, e4, q1, q2, q3⟩ => ?_
    · obtain ⟨w1, w2, w3, w4, rfl, hw1, hw2, hw3, hw4⟩ := sat4 hws
      exact ⟨costM M2 own c, .ref a, [w1, w2, w3, w4], rfl, hmx, ⟨hw1, hw2, hw3, hw4, trivial⟩, fun q ys H' g h1 h2 h3 => ⟨g11.trans g, q, ys, rfl, g11.old _ h1, h2, h3⟩⟩
    subst e4
    have t8 := ti.gr g8
    have nq := ti.fresh q1
    refine ⟨_, t8.ins.slt, ?_⟩
    -- q stays untracked by the frozen heap
    have qn : ∀ b ∈ q :: Ai.mut a, Fi b = none := fun b hb => by
      rcases List.mem_cons.mp hb with e | e
      · rw [e]; exact ti.g.old _ q1
      · exact ti.fnone b e
    have qc : ∀ b ∈ q :: Ai.mut a, Calm H8 b := fun b hb => by
      rcases List.mem_cons.mp hb with e | e
      · rw [e]; exact calm_lst q2
      · exact t8.calm b e
    have gF8 : Gr T Fi (cut H8 (q :: Ai.mut a)) := t8.g.toCut qn qc
    have kc8 : All2 (frP (T := T) K) ys (mixedM (costM M2 own c)) (cut H8 (q :: Ai.mut a)) := All2.cutH (fun b hb => by
      rcases List.mem_cons.mp hb with e | e
      · rw [e]; exact lst_not q2
      · exact t8.noT b e) (q3.st .del)
    have nn : ∀ b ∈ q :: Ai.mut a, cut H8 (q :: Ai.mut a) b = none := fun b hb => cut_in hb
    have t8' : TabSt T K (cut H8 (q :: Ai.mut a)) a Ai M2 H8 := { t8 with g := Gr.cut, fa := nn _ (by simp [TA.mut]), fd := nn _ (by simp [TA.mut]), kc := t8.kc.st gF8, kl := t8.kl.st gF8, ks := t8.ks.st gF8, fb := nn _ (by simp [TA.mut]), fc := nn _ (by simp [TA.mut]), ff := nn _ (by simp [TA.mut]), fl := nn _ (by simp [TA.mut]), fs := nn _ (by simp [TA.mut]) }
    have t9 := t8'.setCosts (nn q List.mem_cons_self) q2 nq kc8
    have gF9 := gi.trans gF8
    generalize cut H8 (q :: Ai.mut a) = F9 at t9 gF9 gF8
    generalize SlX.slH H8 a (He.ga K "Table") Ai.dx (SlX.putS 1 (.ref q) Ai.vs) = H9 at t9 ⊢
    generalize ({ Ai with Lc := q, cs := ys, vs := SlX.putS 1 (.ref q) Ai.vs } : TA) = A9 at t9
    -- lines, sides
    have o9 := (lstP K (frP K) own).st _ _ _ (gF9.trans t9.g) own6
    have s9 := (frP K side).st _ _ _ (gF9.trans t9.g) sd6
    refine ss_lset2 (EE.x (ee_pair (P1 := eqP (.ref p)) (P2 := eqP sv) (ee_v 4 rfl) (ee_v (T := T) 5 rfl))) fun v H10 ⟨g10, r, w1, w2, e5, h5, e6, e7⟩ => ?_
    rw [show w1 = V.ref p from e6, show w2 = sv from e7] at h5
    refine ⟨r, _, _, e5, h5, ?_⟩
    have t10 := t9.gr g10
    refine ⟨A9.Ll, (l : Int), ee_tab W t10 W.Table_lines t10.s3 rfl (ee_v 0 rfl), fun _ _ => ee_v 1 rfl, fun H11 g11 => ⟨A9.rs, l, g11.lst t10.hl, ixN_nat (by rw [t10.kl.length]; exact hl2), ?_⟩⟩
    have t11 := (t10.gr g11).setLine (i := l) ((lstP K (frP K) own).st _ _ _ gF9 own6)
    generalize upd H11 A9.Ll (.lst (A9.rs.set l (.ref p))) = H12 at t11 ⊢
    refine ⟨A9.Ls, (l : Int), ee_tab W t11 W.Table_sides t11.s5 rfl (ee_v 0 rfl), fun _ _ => ee_v 1 rfl, fun H13 g13 => ⟨A9.ss, l, g13.lst t11.hs, ixN_nat (by rw [show A9.ss.length = _ from t11.ks.length]; exact hs2), ?_⟩⟩
    have t13 := (t11.gr g13).setSide (i := l) ((frP K side).st _ _ _ gF9 sd6)
    generalize upd H13 A9.Ls (.lst (A9.ss.set l sv)) = H14 at t13 ⊢
    -- basic, free
    refine ss_lset2 (EE.x (ee_pair (P1 := intP (M2.free.getD c 0)) (P2 := intP (M2.basic.getD l 0)) (ee_ixL c (getD_some (d := 0) hf2) (EE.cast (ee_tfree W t13 (ee_v 0 rfl)) rfl) (ee_v 2 rfl)) (ee_ixL l (getD_some (d := 0) hb2) (EE.cast (ee_tbasic (T := T) W t13 (ee_v 0 rfl)) rfl) (ee_v 1 rfl)))) fun v H15 ⟨g15, r2, w1, w2, e5, h5, e6, e7⟩ => ?_
    obtain rfl := e6
    obtain rfl := e7
    refine ⟨r2, _, _, e5, h5, ?_⟩
    have t15 := t13.gr g15
    refine ⟨A9.Lb, (l : Int), ee_tab W t15 W.Table_basic t15.s0 rfl (ee_v 0 rfl), fun _ _ => ee_v 1 rfl, fun H16 g16 => ⟨M2.basic.map V.int, l, g16.lst t15.hb, ixN_nat (by rw [List.length_map]; exact hb2), ?_⟩⟩
    have t16 := (t15.gr g16).setBasic (i := l) (n := M2.free.getD c 0)
    refine ⟨A9.Lf, (c : Int), ee_tab W t16 W.Table_free t16.s2 rfl (ee_v 0 rfl), fun _ _ => ee_v 2 rfl, fun H17 g17 => ⟨M2.free.map V.int, c, g17.lst t16.hf, ixN_nat (by rw [List.length_map]; exact hf2), ?_⟩⟩
    have t17 := (t16.gr g17).setFree (i := c) (n := M2.basic.getD l 0)
    exact ss_nil (T := T) (hQ F9 _ _ (gFF.trans gF9) t17)
end
end Pan
set_option maxHeartbeats 1000000
/-! Dicts. -/
namespace Pan
open PySem PySem.Spec PyProof.Rows L2
section
variable {κ' α β : Type} [DecidableEq κ']
def valM (zs : List (κ' × α)) (k : κ') : Option α := (zs.find? fun z => decide (z.1 = k)).map (·.2)
def putM (zs : List (κ' × α)) (k : κ') (x : α) : List (κ' × α) := if (zs.any fun z => decide (z.1 = k)) = true then zs.map (fun z => if z.1 = k then (z.1, x) else z) else zs ++ [(k, x)]
end
section
variable {T : List (Addr × Str)} {H H' : Hp} {κ κ' α β : Type} {emb : κ' → κ} {R : α → Pr T}
/-- a dict's pairs, key by key -/
def DK2 (emb : κ' → κ) (R : α → Pr T) : List (κ × V) → List (κ' × α) → Hp → Prop
  | [], [], _ => True
  | kv :: kvs, z :: zs, H => (kv.1 = emb z.1 ∧ (R z.2).p kv.2 H) ∧ DK2 emb R kvs zs H
  | _, _, _ => False
theorem DK2.st (g : Gr T H H') : ∀ {kvs : List (κ × V)} {zs : List (κ' × α)}, DK2 emb R kvs zs H → DK2 emb R kvs zs H'
  | [], [], _ => trivial
  | _ :: _, _ :: _, h => ⟨⟨h.1.1, (R _).st _ _ _ g h.1.2⟩, DK2.st g h.2⟩
  | [], _ :: _, h => h.elim
  | _ :: _, [], h => h.elim
theorem DK2.length : ∀ {kvs : List (κ × V)} {zs : List (κ' × α)}, DK2 emb R kvs zs H → kvs.length = zs.length
  | [], [], _ => rfl
  | _ :: _, _ :: _, h => congrArg (· + 1) (DK2.length h.2)
  | [], _ :: _, h => h.elim
  | _ :: _, [], h => h.elim
theorem DK2.keys : ∀ {kvs : List (κ × V)} {zs : List (κ' × α)}, DK2 emb R kvs zs H → kvs.map (·.1) = zs.map fun z => emb z.1
  | [], [], _ => rfl
  | _ :: _, _ :: _, h => by rw [List.map_cons, List.map_cons, h.1.1, DK2.keys h.2]
  | [], _ :: _, h => h.elim
  | _ :: _, [], h => h.elim
theorem DK2.snoc {k : κ} {k' : κ'} {v : V} {x : α} (hk : k = emb k') (hv : (R x).p v H) : ∀ {kvs : List (κ × V)} {zs : List (κ' × α)}, DK2 emb R kvs zs H → DK2 emb R (kvs ++ [(k, v)]) (zs ++ [(k', x)]) H
  | [], [], _ => ⟨⟨hk, hv⟩, trivial⟩
  | _ :: _, _ :: _, h => ⟨h.1, DK2.snoc hk hv h.2⟩
  | [], _ :: _, h => h.elim
  | _ :: _, [], h => h.elim
theorem DK2.imp {R' : β → Pr T} {f : α → β} (q : ∀ v x, (R x).p v H → (R' (f x)).p v H) : ∀ {kvs : List (κ × V)} {zs : List (κ' × α)}, DK2 emb R kvs zs H → DK2 emb R' kvs (zs.map fun z => (z.1, f z.2)) H
  | [], [], _ => trivial
  | _ :: _, _ :: _, h => ⟨⟨h.1.1, q _ _ h.1.2⟩, DK2.imp q h.2⟩
  | [], _ :: _, h => h.elim
  | _ :: _, [], h => h.elim
theorem DK2.at : ∀ {kvs : List (κ × V)} {zs : List (κ' × α)} {i : Nat} {kv : κ × V}, DK2 emb R kvs zs H → kvs[i]? = some kv → ∃ z, zs[i]? = some z ∧ kv.1 = emb z.1 ∧ (R z.2).p kv.2 H
  | [], [], i, kv, _, e => by simp at e
  | a :: r, b :: rs, 0, kv, h, e => by
    obtain rfl : a = kv := Option.some.inj e
    exact ⟨b, rfl, h.1⟩
  | a :: r, b :: rs, i + 1, kv, h, e => DK2.at (kvs := r) (zs := rs) (i := i) h.2 e
  | [], _ :: _, _, _, h, _ => h.elim
  | _ :: _, [], _, _, h, _ => h.elim
variable [DecidableEq κ] [DecidableEq κ']
theorem DK2.get (inj : ∀ a b, emb a = emb b → a = b) {k : κ'} : ∀ {kvs : List (κ × V)} {zs : List (κ' × α)}, DK2 emb R kvs zs H → (∀ x, valM zs k = some x → ∃ v, valV kvs (emb k) = some v ∧ (R x).p v H) ∧ (valM zs k = none → valV kvs (emb k) = none)
  | [], [], _ => ⟨(fun x e => nomatch e), fun _ => rfl⟩
  | kv :: kvs, z :: zs, h => by
    have ih := DK2.get inj (k := k) h.2
    by_cases e : z.1 = k
    · have e1 : kv.1 = emb k := by rw [h.1.1, e]
      have e2 : valM (z :: zs) k = some z.2 := by simp [valM, e]
      rw [e2, valV_pos e1]
      exact ⟨fun x q => ⟨_, rfl, by rw [← Option.some.inj q]; exact h.1.2⟩, (fun q => nomatch q)⟩
    · have e1 : ¬ kv.1 = emb k := fun q => e (inj _ _ (h.1.1.symm.trans q))
      have e2 : valM (z :: zs) k = valM zs k := by simp [valM, e]
      rw [e2, valV_neg e1]
      exact ih
  | [], _ :: _, h => h.elim
  | _ :: _, [], h => h.elim
theorem DK2.any (inj : ∀ a b, emb a = emb b → a = b) {k : κ'} : ∀ {kvs : List (κ × V)} {zs : List (κ' × α)}, DK2 emb R kvs zs H → (kvs.any fun kv => decide (kv.1 = emb k)) = zs.any fun z => decide (z.1 = k)
  | [], [], _ => rfl
  | kv :: kvs, z :: zs, h => by
    have ih := DK2.any inj (k := k) h.2
    rw [List.any_cons, List.any_cons, ih]
    congr 1
    have : kv.1 = emb k ↔ z.1 = k := ⟨fun q => inj _ _ (h.1.1.symm.trans q), fun q => by rw [h.1.1, q]⟩
    exact decide_eq_decide.mpr this
  | [], _ :: _, h => h.elim
  | _ :: _, [], h => h.elim
theorem DK2.over (inj : ∀ a b, emb a = emb b → a = b) {k : κ'} {v : V} {x : α} (hv : (R x).p v H) : ∀ {kvs : List (κ × V)} {zs : List (κ' × α)}, DK2 emb R kvs zs H → DK2 emb R (kvs.map fun kv => if kv.1 = emb k then (kv.1, v) else kv) (zs.map fun z => if z.1 = k then (z.1, x) else z) H
  | [], [], _ => trivial
  | kv :: kvs, z :: zs, h => by
    refine ⟨?_, DK2.over inj hv h.2⟩
    by_cases e : z.1 = k
    · have e1 : kv.1 = emb k := by rw [h.1.1, e]
      dsimp only
      rw [if_pos e1, if_pos e]
      exact ⟨h.1.1, hv⟩
    · have e1 : ¬ kv.1 = emb k := fun q => e (inj _ _ (h.1.1.symm.trans q))
      dsimp only
      rw [if_neg e1, if_neg e]
      exact h.1
  | [], _ :: _, h => h.elim
  | _ :: _, [], h => h.elim
theorem DK2.put (inj : ∀ a b, emb a = emb b → a = b) {k : κ'} {v : V} {x : α} (hv : (R x).p v H) {kvs : List (κ × V)} {zs : List (κ' × α)} (h : DK2 emb R kvs zs H) : DK2 emb R (putK kvs (emb k) v) (putM zs k x) H := by
  unfold putK putM
  rw [DK2.any inj h]
  by_cases e : (zs.any fun z => decide (z.1 = k)) = true
  · rw [if_pos e, if_pos e]
    exact DK2.over inj hv h
  · rw [if_neg e, if_neg e]
    exact DK2.snoc rfl hv h
end
section
variable {T : List (Addr × Str)} {H : Hp} {κ κ' α : Type} {emb : κ' → κ} {R : α → Pr T}
theorem DK2.del [hR : ∀ x, Solid (R x)] {D : Addr} {o : HO} (h : H D = some o) (c : Chg o) : ∀ {kvs : List (κ × V)} {zs : List (κ' × α)}, DK2 emb R kvs zs H → DK2 emb R kvs zs (Pan.del H D)
  | [], [], _ => trivial
  | _ :: _, z :: _, a => ⟨⟨a.1.1, (hR z.2).s _ _ _ _ h c a.1.2⟩, DK2.del h c a.2⟩
  | [], _ :: _, a => a.elim
  | _ :: _, [], a => a.elim
end
/-- a key that is an int -/
abbrev kI : Int → Key := Sum.inl
theorem kI_inj (a b : Int) (h : kI a = kI b) : a = b := Sum.inl.inj h
/-- a key that is a tuple of ints -/
abbrev kT : List Int → List Key := List.map Sum.inl
theorem kT_inj : ∀ (a b : List Int), kT a = kT b → a = b
  | [], [], _ => rfl
  | [], _ :: _, h => nomatch h
  | _ :: _, [], h => nomatch h
  | x :: xs, y :: ys, h => by
    have h1 : Sum.inl (β := Str) x = Sum.inl y := (List.cons.inj h).1
    have h2 := kT_inj xs ys (List.cons.inj h).2
    rw [Sum.inl.inj h1, h2]
theorem kT_tup (ns : List Int) : (kT ns).map kV = ns.map V.int := by
  unfold kT
  rw [List.map_map]
  rfl
section
variable {T : List (Addr × Str)} {α : Type}
/-- a dict by ints, by tuples of ints -/
def dkP (R : α → Pr T) (zs : List (Int × α)) : Pr T := ⟨fun v H => ∃ a kvs, v = .ref a ∧ Rd H a (.dK kvs) ∧ DK2 kI R kvs zs H, fun _ _ _ g ⟨a, kvs, e, h, k⟩ => ⟨a, kvs, e, g.rd (fun _ z => nomatch z) h, k.st g⟩⟩
def dtP (R : α → Pr T) (zs : List (List Int × α)) : Pr T := ⟨fun v H => ∃ a kvs, v = .ref a ∧ Rd H a (.dT kvs) ∧ DK2 kT R kvs zs H, fun _ _ _ g ⟨a, kvs, e, h, k⟩ => ⟨a, kvs, e, g.rd (fun _ z => nomatch z) h, k.st g⟩⟩
end
section
variable {T : List (Addr × Str)} {X : Cx} {e a b c o f tg iter kx vx : Expr} {σ : L2.St} {H : Hp} {P P1 P2 : Pr T} {pos p1 p2 apos : Pos} {i : Int} {α : Type} {R : α → Pr T} {zs : List (Int × α)} {ts : List (List Int × α)} {ns : List Int} {m : Nat}
theorem Room.u1 {A : Around} (hr : Room m A) : A.units + 1 < cLine := by have := hr.units; omega
/-- d.get(k, x) -/
theorem ee_dget (hr : Room m X.A) (hd : EE T X o σ H (dkP R zs)) (hk : EE T X e σ H (intP i)) (hx : EE T X f σ H P1) (h1 : ∀ x, valM zs i = some x → ∀ v H1, (R x).p v H1 → P.p v H1) (h2 : valM zs i = none → ∀ v H1, P1.p v H1 → P.p v H1)
    (mb : attributeBase o "get" X.env (eval o X.env) = eval o X.env := by rfl) (mf : ((backTo pos (starEach [e, f] X.env)).all (fun x => !x.1) && (backToKw pos (keywordEach [] X.env)).all (fun x => x.1.isSome) && decide (([e, f] : List Expr).length + ([] : List Keyword).length + (if ([] : List Keyword).isEmpty then 0 else 1) < 30)) = true := by rfl)
    (ml : (apos.endLine == pos.line) = true := by rfl) (mt : backTo pos (starEach [e, f] X.env) = [(false, eval e X.env), (false, eval f X.env)] := by rfl) : EE T X (.Call (.Attribute o "get" apos) [e, f] [] pos) σ H P :=
  EE.of (pe_dget2 (Room.u1 hr) hd hk hx ⟨mb, mf, ml, mt⟩) fun H1 g Q r => ⟨rfl, g, fun v H2 g2 hv => by
    obtain ⟨d, kvs, rfl, hr, hz⟩ := hv
    refine ⟨d, rfl, .inl ⟨kvs, hr⟩, rfl, g.trans g2, fun u H3 g3 hu => ⟨rfl, (g.trans g2).trans g3, fun w H4 g4 hw => ?_⟩⟩
    have g24 := g3.trans g4
    obtain ⟨q1, q2⟩ := DK2.get kI_inj (k := i) (hz.st g24)
    refine ⟨valV kvs (kI i), .inl ⟨kvs, kI i, g24.rd (fun _ z => nomatch z) hr, hu, rfl⟩, ?_⟩
    cases hv : valM zs i with
    | some x =>
      obtain ⟨v, e1, hx'⟩ := q1 x hv
      rw [e1]
      exact r v H4 (g2.trans g24) (h1 x hv v H4 hx')
    | none =>
      rw [q2 hv]
      exact r w H4 (g2.trans g24) (h2 hv w H4 hw)⟩
/-- a new dict by ints, not tracked before; S: of its pairs, and the heap without it -/
def NewK (T : List (Addr × Str)) (X : Cx) (e : Expr) (σ : L2.St) (H : Hp) (S : List (Key × V) → Hp → Prop) : Prop :=
  PE X e fun σ' H1 Q => σ' = σ ∧ Gr T H H1 ∧ ∀ p kvs H2, Gr T H1 H2 → H1 p = none → H2 p = some (.dK kvs) → S kvs (del H2 p) → Q (.ref p) H2
theorem NewK.of {te : TE} {S : List (Key × V) → Hp → Prop} (h : PE X e te) (q : ∀ H1, Gr T H H1 → ∀ Q : VK, (∀ p kvs H2, Gr T H1 H2 → H1 p = none → H2 p = some (.dK kvs) → S kvs (del H2 p) → Q (.ref p) H2) → te σ H1 Q) : NewK T X e σ H S :=
  ⟨fun pins s σ' H1 Q I ⟨e1, g, r⟩ => by rw [e1] at I ⊢; exact h.run pins s σ H1 Q I (q H1 g Q r)⟩
theorem NewK.k {S : List (Key × V) → Hp → Prop} (h : NewK T X e σ H S) (q : ∀ kvs H1, Gr T H H1 → S kvs H1 → DK2 kI R kvs zs H1) : EE T X e σ H (dkP R zs) :=
  ⟨fun pins s σ' H1 Q I ⟨e1, g, r⟩ => by
    rw [e1] at I ⊢
    exact h.run pins s σ H1 Q I ⟨rfl, g, fun p kvs H2 g2 hn hp hS => r _ H2 g2 ⟨p, kvs, rfl, .inl hp, (q kvs _ ((g.trans g2).toDel (g.old p hn) hp trivial) hS).st .del⟩⟩⟩
theorem NewK.x {S : List (Key × V) → Hp → Prop} (h : NewK T X e σ H S) : EX X e σ H fun v H2 => Gr T H H2 ∧ ∃ p kvs, v = .ref p ∧ H p = none ∧ H2 p = some (.dK kvs) ∧ S kvs (del H2 p) := EX.of h ⟨rfl, .refl _, fun p kvs H2 g hn hp hS => ⟨g, p, kvs, rfl, hn, hp, hS⟩⟩
/-- {} as a dict by ints -/
theorem nk_empty : NewK T X (.Dict [] [] pos) σ H (fun kvs _ => kvs = []) := NewK.of pe_dnewK fun H1 g Q r p hp => r p [] _ (.new hp) hp upd_same rfl
end
section
variable {T : List (Addr × Str)} {X : Cx} {tg iter kx vx c : Expr} {ifs : List Expr} {σ : L2.St} {H : Hp} {pos p1 p2 p3 : Pos} {α : Type} {xs : List α} {R R1 R2 : α → Pr T} {scope sc : Scope} {own : List (Str × Nat)} {N ps : List Str} {x y : Str} {z : Nat}
def rdK (T : List (Addr × Str)) (X : Cx) (scope : Scope) (kx : Expr) : TE := fun σ' H' Q => ∃ k : Int, (∀ s H C cl fp, EE T (bl X scope s H C cl fp) kx σ' H' (intP k)) ∧ ∀ H2, Gr T H' H2 → Q (.int k) H2
theorem pe_rdK {s : Shared} {C : Addr} {cl : List (Str × Addr)} {fp : List Addr} : PE (bl X scope s H C cl fp) kx (rdK T X scope kx) := ⟨fun pins s' σ' H' Q I ⟨k, h, q⟩ => (h _ _ _ _ _).run pins s' σ' H' Q I ⟨rfl, .refl _, fun v H2 g hv => by rw [show v = V.int k from hv]; exact q H2 g⟩⟩
/-- the pairs of a dict comprehension -/
def dcM (Kk : α → Int) (xs : List α) : List (Int × α) := xs.foldl (fun zs a => putM zs (Kk a) a) []
theorem nk_dc_core {g : TG} {Kk : α → Int} {Ro : α → Pr T} {keep : α → Bool} {Bd : α → L2.St → L2.St → Hp → Prop} (hs : Src T X tg iter σ H bNow xs R) (hl : xs.length ≤ 1000) (hc : X.calm = true) (hN : X.N.Nodup) (ok : BlkOk X.N X.env.scope scope own)
    (hg : ∀ s H C cl fp, PG (bl X scope s H C cl fp) tg g) (hB : ∀ x v σ' H' Q, (R x).p v H' → (∀ σ2, Bd x σ' σ2 H' → Q σ2 H') → g v σ' H' Q) (hw : ∀ x σ2 H', Bd x (wipe σ (own.map (·.2))) σ2 H' → wipe σ2 (own.map (·.2)) = wipe σ (own.map (·.2)))
    (hi : ∀ x σ2 H', x ∈ xs → Gr T H H' → Bd x (wipe σ (own.map (·.2))) σ2 H' → ∀ s H C cl fp, ETs T (bl X scope s H C cl fp) ifs σ2 H' (keep x))
    (hk : ∀ x σ2 H' H2, x ∈ xs → Gr T H H' → Bd x (wipe σ (own.map (·.2))) σ2 H' → Gr T H' H2 → keep x = true → ∀ s H C cl fp, EE T (bl X scope s H C cl fp) kx σ2 H2 (intP (Kk x)))
    (he : ∀ x σ2 H' H2 D kvs, x ∈ xs → Gr T H H' → Bd x (wipe σ (own.map (·.2))) σ2 H' → Gr T H' H2 → keep x = true → H2 D = some (.dK kvs) → ∀ s H C cl fp, EN T (bl X scope s H C cl fp) vx σ2 H2 D (Ro x))
    (hf : ∀ x, foldedSetIterable iter X.env x = pure x := by intro _; rfl) : NewK T X (.DictComp kx vx [⟨tg, iter, ifs, 0⟩] scope pos) σ H (fun kvs H1 => DK2 kI Ro kvs (dcM Kk (xs.filter keep)) H1) := by
  refine NewK.of (pe_dc hc hN hs ok hg (fun _ _ _ _ _ => pts_rd (T := T)) (fun _ _ _ _ _ => pe_rdK (T := T)) (fun _ _ _ _ _ => pe_rd (T := T)) hf) ?_
  intro H1 g1 Q r
  refine ⟨rfl, g1, fun J H2 Hb g2 hb hw' D hD => ?_⟩
  obtain rfl : Hb = H2 := hb
  have G0 : ∀ {i H'}, (i ≤ xs.length ∧ ∃ Hc kvs, Gr T Hb Hc ∧ Hc D = none ∧ Gr T Hc H' ∧ H' D = some (.dK kvs) ∧ DK2 kI Ro kvs (dcM Kk ((xs.take i).filter keep)) Hc) → Gr T Hb H' := fun ⟨_, Hc, kvs, c1, c2, c3, c4, c5⟩ => c1.trans c3
  refine ⟨fun i m H' => m = xs.length - i ∧ i ≤ xs.length ∧ ∃ Hc kvs, Gr T Hb Hc ∧ Hc D = none ∧ Gr T Hc H' ∧ H' D = some (.dK kvs) ∧ DK2 kI Ro kvs (dcM Kk ((xs.take i).filter keep)) Hc, ⟨xs.length, by simp, Nat.zero_le _, Hb, [], .refl _, hD, .new hD, upd_same, by simp [dcM, DK2]⟩, ?_⟩
  rintro i m H' ⟨rfl, p⟩
  by_cases hlt : i < xs.length
  · refine .inr ⟨hw'.goes i H' hlt (G0 p), fun H' => i + 1 ≤ xs.length ∧ ∃ Hc kvs, Gr T Hb Hc ∧ Hc D = none ∧ Gr T Hc H' ∧ H' D = some (.dK kvs) ∧ DK2 kI Ro kvs (dcM Kk ((xs.take (i + 1)).filter keep)) Hc, fun H' p' => ⟨xs.length - (i + 1), by omega, rfl, p'.1, p'.2⟩, fun v H3 y => ?_⟩
    obtain ⟨g3, x, hx, hv⟩ := hw'.yields i H' v H3 hlt (G0 p) y
    obtain ⟨_, Hc, kvs, c1, c2, c3, c4, c5⟩ := p
    have hm : x ∈ xs := List.mem_of_getElem? hx
    have gH : Gr T H H3 := ((g1.trans g2).trans c1).trans (c3.trans g3)
    have d3 := g3.dK c4
    have et : xs.take (i + 1) = xs.take i ++ [x] := by rw [List.take_add_one, hx]; rfl
    refine hB x v _ H3 _ hv fun σ2 hbd => ⟨hw x σ2 H3 hbd, keep x, hi x σ2 H3 hm gH hbd, fun H4 g4 => ?_⟩
    have d4 := g4.dK d3
    cases hk' : keep x with
    | true =>
      refine iteT ⟨Kk x, hk x σ2 H3 H4 hm gH hbd g4 hk', fun H5 g5 => ?_⟩
      have d5 := g5.dK d4
      refine ⟨D, Ro x, he x σ2 H3 H5 D kvs hm gH hbd (g4.trans g5) hk' d5, fun y H6 g6 hy => ?_⟩
      have d6 := g6.dK d5
      have gc : Gr T Hc (del H6 D) := ((((c3.trans g3).trans g4).trans g5).trans g6).toDel c2 d6 trivial
      refine ⟨kvs, kI (Kk x), rfl, d6, ?_, hlt, del H6 D, _, c1.trans gc, del_same, ?_, upd_same, ?_⟩
      · have h1 : kvs.length = _ := c5.length
        have h2 : ∀ (ys : List α) (zs : List (Int × α)), (ys.foldl (fun zs a => putM zs (Kk a) a) zs).length ≤ zs.length + ys.length := fun ys => by
          induction ys with
          | nil => intro zs; simp
          | cons y ys ih =>
            intro zs
            have h3 := ih (putM zs (Kk y) y)
            have h4 : (putM zs (Kk y) y).length ≤ zs.length + 1 := by unfold putM; split <;> simp
            rw [List.foldl_cons, List.length_cons]
            omega
        have h3 := h2 ((xs.take i).filter keep) []
        have h4 : ((xs.take i).filter keep).length ≤ (xs.take i).length := List.length_filter_le _ _
        rw [List.length_take] at h4
        have h5 : (1000 : Nat) < sizeLine := by decide
        have h6 : (dcM Kk ((xs.take i).filter keep)).length ≤ 0 + ((xs.take i).filter keep).length := h3
        omega
      · have e : upd H6 D (.dK (putK kvs (kI (Kk x)) y)) = upd (del H6 D) D (.dK (putK kvs (kI (Kk x)) y)) := by
          funext b
          by_cases k : b = D
          · rw [k, upd_same, upd_same]
          · rw [upd_ne k, upd_ne k, del_ne k]
        rw [e]
        exact .new del_same
      · rw [et, List.filter_append]
        have e : [x].filter keep = [x] := by simp [hk']
        rw [e]
        unfold dcM
        rw [List.foldl_append]
        exact DK2.put kI_inj hy (c5.st gc)
    | false =>
      refine iteF ⟨hlt, Hc, kvs, c1, c2, (c3.trans g3).trans g4, d4, ?_⟩
      rw [et, List.filter_append]
      have e : [x].filter keep = [] := by simp [hk']
      rw [e, List.append_nil]
      exact c5
  · have e : i = xs.length := by have := p.1; omega
    subst e
    obtain ⟨_, Hc, kvs, c1, c2, c3, c4, c5⟩ := p
    rw [List.take_length] at c5
    exact .inl ⟨hw'.stops H' (c1.trans c3), r D kvs H' ((g2.trans c1).trans c3) (g2.old D hD) c4 (c5.st (c3.toDel c2 c4 trivial))⟩
/-- {kx: vx for x, y in iter ifs} -/
theorem nk_dcP (j k : Nat) (S : FnScope N ps sc) {Kk : α → Int} {Ro : α → Pr T} [∀ a, Solid (Ro a)] {keep : α → Bool} (hs : Src T X (.Tuple [.Name x p1, .Name y p2] z p3) iter σ H bNow xs (fun a => pairP X.K (R1 a) (R2 a))) (hl : xs.length ≤ 1000)
    (ht : ∀ a v w H', a ∈ xs → Gr T H H' → (R1 a).p v H' → (R2 a).p w H' → ∀ s H C cl fp, ETs T (bl X scope s H C cl fp) ifs (((wipe σ [j, k]).set j (some v)).set k (some w)) H' (keep a))
    (hk : ∀ a v w H', a ∈ xs → keep a = true → Gr T H H' → (R1 a).p v H' → (R2 a).p w H' → ∀ s H C cl fp, EE T (bl X scope s H C cl fp) kx (((wipe σ [j, k]).set j (some v)).set k (some w)) H' (intP (Kk a)))
    (he : ∀ a v w H', a ∈ xs → keep a = true → Gr T H H' → (R1 a).p v H' → (R2 a).p w H' → ∀ s H C cl fp, EE T (bl X scope s H C cl fp) vx (((wipe σ [j, k]).set j (some v)).set k (some w)) H' (Ro a))
    (hN : X.N = N := by rfl) (hsc : X.env.scope = sc := by rfl) (hb : blkC N sc scope [(x, j), (y, k)] = true := by decide +kernel) (hi : X.N[j]? = some x := by rfl) (hx : (relabel scope X.env).names.lookup x = some .local := by rfl) (hj : X.N[k]? = some y := by rfl) (hy : (relabel scope X.env).names.lookup y = some .local := by rfl) (hc : X.calm = true := by rfl)
    (hw : ∀ v w, wipe (((wipe σ [j, k]).set j (some v)).set k (some w)) [j, k] = wipe σ [j, k] := by intro _ _; rfl) (hf : ∀ x, foldedSetIterable iter X.env x = pure x := by intro _; rfl) : NewK T X (.DictComp kx vx [⟨.Tuple [.Name x p1, .Name y p2] z p3, iter, ifs, 0⟩] scope pos) σ H (fun kvs H1 => DK2 kI Ro kvs (dcM Kk (xs.filter keep)) H1) :=
  have nd : X.N.Nodup := hN ▸ S.nd
  nk_dc_core (own := [(x, j), (y, k)]) (Bd := BdP R1 R2 j k) hs hl hc nd (blkX S [(x, j), (y, k)] hN hsc hb) (pgP j k nd hi hx hj hy hc) (fun a v σ' H' Q hv q => g_pair hv fun b c hb hc => q _ ⟨b, c, rfl, hb, hc⟩) (fun a σ2 H' ⟨v, w, e, _⟩ => by rw [e]; exact hw v w) (fun a σ2 H' ha g ⟨v, w, e, hv, hw⟩ => by rw [e]; exact ht a v w H' ha g hv hw)
    (fun a σ2 H' H2 ha g ⟨v, w, e, hv, hw⟩ g2 hka => by rw [e]; exact hk a v w H2 ha hka (g.trans g2) ((R1 a).st _ _ _ g2 hv) ((R2 a).st _ _ _ g2 hw))
    (fun a σ2 H' H2 D kvs ha g ⟨v, w, e, hv, hw⟩ g2 hka hD s H C cl fp => by rw [e]; exact EE.en (he a v w H2 ha hka (g.trans g2) ((R1 a).st _ _ _ g2 hv) ((R2 a).st _ _ _ g2 hw) s H C cl fp) hD trivial) hf
/-- {kx: vx for x in iter} -/
theorem nk_dc (j : Nat) (S : FnScope N ps sc) {Kk : α → Int} {Ro : α → Pr T} [∀ a, Solid (Ro a)] {keep : α → Bool} (hs : Src T X (.Name x p1) iter σ H bNow xs R) (hl : xs.length ≤ 1000)
    (ht : ∀ a v H', a ∈ xs → Gr T H H' → (R a).p v H' → ∀ s H C cl fp, ETs T (bl X scope s H C cl fp) ifs ((wipe σ [j]).set j (some v)) H' (keep a))
    (hk : ∀ a v H', a ∈ xs → keep a = true → Gr T H H' → (R a).p v H' → ∀ s H C cl fp, EE T (bl X scope s H C cl fp) kx ((wipe σ [j]).set j (some v)) H' (intP (Kk a)))
    (he : ∀ a v H', a ∈ xs → keep a = true → Gr T H H' → (R a).p v H' → ∀ s H C cl fp, EE T (bl X scope s H C cl fp) vx ((wipe σ [j]).set j (some v)) H' (Ro a))
    (hN : X.N = N := by rfl) (hsc : X.env.scope = sc := by rfl) (hb : blkC N sc scope [(x, j)] = true := by decide +kernel) (hi : X.N[j]? = some x := by rfl) (hx : (relabel scope X.env).names.lookup x = some .local := by rfl) (hc : X.calm = true := by rfl)
    (hw : ∀ v, wipe ((wipe σ [j]).set j (some v)) [j] = wipe σ [j] := by intro _; rfl) (hf : ∀ x, foldedSetIterable iter X.env x = pure x := by intro _; rfl) : NewK T X (.DictComp kx vx [⟨.Name x p1, iter, ifs, 0⟩] scope pos) σ H (fun kvs H1 => DK2 kI Ro kvs (dcM Kk (xs.filter keep)) H1) :=
  have nd : X.N.Nodup := hN ▸ S.nd
  nk_dc_core (own := [(x, j)]) (Bd := BdN R j) hs hl hc nd (blkX S [(x, j)] hN hsc hb) (pgN j nd hi hx) (fun a v σ' H' Q hv q => q _ ⟨v, rfl, hv⟩) (fun a σ2 H' ⟨v, e, _⟩ => by rw [e]; exact hw v) (fun a σ2 H' ha g ⟨v, e, hv⟩ => by rw [e]; exact ht a v H' ha g hv)
    (fun a σ2 H' H2 ha g ⟨v, e, hv⟩ g2 hka => by rw [e]; exact hk a v H2 ha hka (g.trans g2) ((R a).st _ _ _ g2 hv))
    (fun a σ2 H' H2 D kvs ha g ⟨v, e, hv⟩ g2 hka hD s H C cl fp => by rw [e]; exact EE.en (he a v H2 ha hka (g.trans g2) ((R a).st _ _ _ g2 hv) s H C cl fp) hD trivial) hf
end
end Pan
set_option maxHeartbeats 1000000
namespace Pan
open PySem PySem.Spec PyProof.Rows L2
section
variable {T : List (Addr × Str)} {P : Program} {w : World} {K : PySem.W.Frag} {mg : Str → Option Value} {base : Heap}
def unkD (M : TabM) : List (Int × Fr) := (dcM (fun z : Int × Fr => z.1) (M.basic.zip M.sides)).map fun z => (z.1, z.2.2)
def unkM (M : TabM) : List Fr := (List.range M.many).map fun i : Nat => (valM (unkD M) (i : Int)).getD (0, 1)
def spUnk (T : List (Addr × Str)) (K : PySem.W.Frag) : Sp := fun vs H Q _ => ∃ (F : Hp) (a : Addr) (A : TA) (M : TabM), vs = [.ref a] ∧ TabSt T K F a A M H ∧ (M.basic.length ≤ 100 ∧ M.many ≤ 100) ∧ ∀ v H', Gr T H H' → (lstP (T := T) K (frP K) (unkM M)).p v H' → Q v H'
theorem scUnk : FnScope ["self", "found", "number", "side"] ["self"] (defScope (inClass (top 16) 7)) := ⟨rfl, rfl, rfl, by decide +kernel, rfl, by decide +kernel, by decide +kernel⟩
theorem ok_unknowns (W : Wd K mg) : FnR P w K mg base CX0 1 (He.ma K (He.ga K "Table") "unknowns") (spUnk T K) := by
  obtain ⟨fd, Fd⟩ := W.d_Table_unknowns
  have b : Binds K fd ["self"] [] := Fd.bindsN fun _ _ _ _ _ _ us hl => match us, hl with | [_], _ => rfl
  refine fn_any (T := T) Fd scUnk b (fun vs H Q E ⟨F, a, A, M, e, _⟩ => by rw [e]; rfl) fun cdv A0 outer s H vs Q E hr hsp => ?_
  obtain ⟨F, a, A, M, rfl, t, ⟨l1, l2⟩, hQ⟩ := hsp
  refine ss_set (P := dkP (frP K) (unkD M)) 1 (NewK.k (nk_dcP 2 3 scUnk (R1 := fun z : Int × Fr => intP z.1) (R2 := fun z : Int × Fr => frP K z.2) (Kk := fun z : Int × Fr => z.1) (Ro := fun z : Int × Fr => frP K z.2) (keep := fun _ => true) (src_zip W.f_zip (ee_tbasic W t (ee_v 0 rfl)) (ee_tsides W t (ee_v 0 rfl))) (by rw [List.length_zip]; omega)
    (fun _ _ _ _ _ _ _ _ _ _ _ _ _ => ets_nil) (fun z v v' H' _ _ g hv hv' s H C cl fp => ee_var 2 rfl hv) (fun z v v' H' _ _ g hv hv' s H C cl fp => ee_var 3 rfl hv')) fun kvs H1 _ h => by
      rw [List.filter_eq_self.mpr fun _ _ => rfl] at h
      exact DK2.imp (R' := frP K) (f := fun z : Int × Fr => z.2) (fun _ _ h => h) h) scUnk.nd fun dv H1 g1 hd => ?_
  have t1 := t.gr g1
  refine ss_ret (P := lstP K (frP K) (unkM M)) (EE.imp (EC.ee <| ec_lc 2 scUnk (Ro := fun i : Nat => frP K ((valM (unkD M) (i : Int)).getD (0, 1))) (src_range W.f_range (ee_tmany W t1 (ee_v 0 rfl)) (by omega)) (by rw [List.length_range]; omega)
    fun i v H' _ g hv s H C cl fp => ee_dget hr (ee_var 1 rfl ((dkP (frP K) (unkD M)).st _ _ _ g hd)) (ee_var 2 rfl hv) (ee_glob W.mg_NONE relRef (NONEp W _)) (fun x e v H1 h => by rw [e]; exact h) (fun e v H1 h => by rw [e]; exact h)) fun v H2 g2 hv => ?_) fun v H2 g2 hv => hQ v H2 (g1.trans g2) hv
  rw [Int.toNat_natCast] at hv
  exact lst_map (R := frP K) (f := fun i : Nat => (valM (unkD M) (i : Int)).getD (0, 1)) hv
def mulD (M : TabM) : List (Int × Fr) := (dcM (fun z : Int × Fr => z.1) (M.free.zip M.costs)).map fun z => (z.1, z.2.2)
def mulM (M : TabM) : List Fr := (List.range M.sides.length).map fun i : Nat => (valM (mulD M) ((M.many : Int) + (i : Int))).getD (0, 1)
def spMul (T : List (Addr × Str)) (K : PySem.W.Frag) : Sp := fun vs H Q _ => ∃ (F : Hp) (a : Addr) (A : TA) (M : TabM), vs = [.ref a] ∧ TabSt T K F a A M H ∧ (M.free.length ≤ 100 ∧ M.sides.length ≤ 100) ∧ ∀ v H', Gr T H H' → (lstP (T := T) K (frP K) (mulM M)).p v H' → Q v H'
theorem scMul : FnScope ["self", "found", "number", "cost", "index"] ["self"] (defScope (inClass (top 16) 8)) := ⟨rfl, rfl, rfl, by decide +kernel, rfl, by decide +kernel, by decide +kernel⟩
theorem ok_multipliers (W : Wd K mg) : FnR P w K mg base CX0 1 (He.ma K (He.ga K "Table") "multipliers") (spMul T K) := by
  obtain ⟨fd, Fd⟩ := W.d_Table_multipliers
  have b : Binds K fd ["self"] [] := Fd.bindsN fun _ _ _ _ _ _ us hl => match us, hl with | [_], _ => rfl
  refine fn_any (T := T) Fd scMul b (fun vs H Q E ⟨F, a, A, M, e, _⟩ => by rw [e]; rfl) fun cdv A0 outer s H vs Q E hr hsp => ?_
  obtain ⟨F, a, A, M, rfl, t, ⟨l1, l2⟩, hQ⟩ := hsp
  refine ss_set (P := dkP (frP K) (mulD M)) 1 (NewK.k (nk_dcP 2 3 scMul (R1 := fun z : Int × Fr => intP z.1) (R2 := fun z : Int × Fr => frP K z.2) (Kk := fun z : Int × Fr => z.1) (Ro := fun z : Int × Fr => frP K z.2) (keep := fun _ => true) (src_zip W.f_zip (ee_tfree W t (ee_v 0 rfl)) (ee_tcosts W t (ee_v 0 rfl))) (by rw [List.length_zip]; omega)
    (fun _ _ _ _ _ _ _ _ _ _ _ _ _ => ets_nil) (fun z v v' H' _ _ g hv hv' s H C cl fp => ee_var 2 rfl hv) (fun z v v' H' _ _ g hv hv' s H C cl fp => ee_var 3 rfl hv')) fun kvs H1 _ h => by
      rw [List.filter_eq_self.mpr fun _ _ => rfl] at h
      exact DK2.imp (R' := frP K) (f := fun z : Int × Fr => z.2) (fun _ _ h => h) h) scMul.nd fun dv H1 g1 hd => ?_
  have t1 := t.gr g1
  refine ss_ret (P := lstP K (frP K) (mulM M)) (EE.imp (EC.ee <| ec_lc 4 scMul (Ro := fun i : Nat => frP K ((valM (mulD M) ((M.many : Int) + (i : Int))).getD (0, 1))) (src_range W.f_range (ee_lenL W.f_len (ee_tsides W t1 (ee_v 0 rfl))) (by omega)) (by rw [List.length_range]; omega)
    fun i v H' _ g hv s H C cl fp => ee_dget hr (ee_var 1 rfl ((dkP (frP K) (mulD M)).st _ _ _ g hd)) (ee_add (ee_tmany W (t1.gr g) (ee_v 0 rfl)) (ee_var 4 rfl hv)) (ee_glob W.mg_NONE relRef (NONEp W _)) (fun x e v H1 h => by rw [e]; exact h) (fun e v H1 h => by rw [e]; exact h)) fun v H2 g2 hv => ?_) fun v H2 g2 hv => hQ v H2 (g1.trans g2) hv
  rw [Int.toNat_natCast] at hv
  exact lst_map (R := frP K) (f := fun i : Nat => (valM (mulD M) ((M.many : Int) + (i : Int))).getD (0, 1)) hv
end
end Pan
set_option maxHeartbeats 1000000
/-! Lambdas that are kept: the made function is tracked. -/
namespace Pan
open PySem PySem.Spec PyProof.Rows L2
/-- the object at f is a function made of a lambda, its code object at c -/
def FnO (q : Str) (cl : List (Str × Addr)) (params : Arguments) (body : Expr) (scope : Scope) (f c : Addr) : HO := .ext fun h => ∃ pm ctv : Value, h.get? f = some (PySem.W.kla_obj "<lambda>" q params body scope cl pm c ctv)
theorem fnO_tbl {q : Str} {cl : List (Str × Addr)} {params : Arguments} {body : Expr} {scope : Scope} {f c : Addr} (ps : Array Value) : FnO q cl params body scope f c ≠ .tbl ps := fun z => by unfold FnO at z; exact nomatch z
theorem fnO_ok {P : Program} {w : World} {H : Hp} {h : Heap} {q : Str} {cl : List (Str × Addr)} {params : Arguments} {body : Expr} {scope : Scope} {f c : Addr} {pm ctv : Value} (e : h.get? f = some (PySem.W.kla_obj "<lambda>" q params body scope cl pm c ctv)) : ObjOk P w H h f (FnO q cl params body scope f c) :=
  ⟨⟨pm, ctv, e⟩, ⟨_, e⟩, fun h1 h2 ⟨pm, ctv, e1⟩ st => ⟨pm, ctv, st _ e1⟩⟩
/-- what the making of lambdas asks of a def's code -/
structure LamB (T : List (Addr × Str)) (X : Cx) (c P : Addr) : Prop where
  tb : LamX.TabB X.base X.mg c P
  code : X.env.code = .ref c
  mem : (P, X.env.qual ++ "<lambda>") ∈ T
  one : ∀ p ∈ T, p.1 = P → p.2 = X.env.qual ++ "<lambda>"
section
variable {T : List (Addr × Str)} {X : Cx} {σ : L2.St} {H : Hp} {pos : Pos} {params : Arguments} {body : Expr} {scope : Scope} {c P : Addr}
def tMade (T : List (Addr × Str)) (X : Cx) (params : Arguments) (body : Expr) (scope : Scope) : TE := fun σ H Q => LamX.Tabs T H ∧ ∀ f c' H1, Gr T H H1 → H f = none → H1 f = some (FnO (X.env.qual ++ "<lambda>") (cloFrom X.env.cells scope.names []) params body scope f c') → H1 c' = some (LamX.CodeO c' (X.env.qual ++ "<lambda>")) → Q (.ref f) H1
theorem pe_made (B : LamB T X c P) (hdef : defaultsOf params X.env = ([], [])) (hfree : X.Ok → ∀ y ∈ scope.names, y.2 = .free → ∃ c, X.env.cells.lookup y.1 = some c) : PE X (.Lambda params body scope pos) (tMade T X params body scope) := by
  refine ⟨fun pins s σ H Q I ⟨hT, hq⟩ => ?_⟩
  obtain ⟨tab, tP, tT, tA⟩ := hT _ B.mem
  have oP : s.heap.get? P = some { cls := .none, data := .fields tab } := I.hok P _ tP
  have cl := closure_ok (hfree I.ok)
  have bl := B.tb.bm.keeps I.bk
  have cd := B.tb.code.keeps I.bk
  have gl := I.mod.glob.keeps I.bk
  refine PySem.W.kla_eval hdef ?_
  cases among : codeAmong pos tab.toList with
  | some cv =>
    obtain ⟨c', rfl, hc'⟩ := tA pos cv among
    refine PySem.W.kla_makeFunctionHit (mg := X.mg) (c := c) (P := P) (ps := tab) cl I.ok.glob gl B.code cd oP tT among bl fun ctv h' tk kp sz => ?_
    have I1 : Inv X pins σ H { s with heap := h', toks := tk } := I.kept kp
    have fr : H h'.objs.size = none := I1.hok.fresh (Nat.le_refl _)
    have at1 := Heap.get?_push_size h' (o := PySem.W.kla_obj "<lambda>" (X.env.qual ++ "<lambda>") params body scope (cloFrom X.env.cells scope.names []) ((X.mg "__name__").getD .none) c' ctv) rfl
    have I2 := I1.laid (a := h'.objs.size) (o := FnO (X.env.qual ++ "<lambda>") (cloFrom X.env.cells scope.names []) params body scope h'.objs.size c') (t' := tk) (fun b o e => Heap.get?_push_of_some _ e) (Nat.le_refl _) (fnO_ok at1)
    exact ⟨.ref h'.objs.size, _, I2, (show Value.ref _ = Value.ref _ from rfl), hq _ c' _ (.new fr) fr upd_same ((upd_ne (ne_of_none hc' fr)).trans hc')⟩
  | none =>
    refine PySem.W.kla_makeFunction (mg := X.mg) (c := c) (P := P) (ps := tab) cl I.ok.glob gl B.code cd oP tT among B.tb.gP bl fun c' ctv h' tk xb ge lt rec tb => ?_
    obtain ⟨c2, oc, vs, t, e2, hoc, hd, hv⟩ := rec
    cases e2
    have nc : H c' = none := I.hok.fresh ge
    have I1 := LamX.inv_table (t' := tk) (more := #[rawInt pos.line, rawInt pos.col, .ref c']) I tP xb tb ge ⟨oc, vs, t, hoc, hd, hv⟩
    have hE : ∀ b o, H b = some o → (∀ q, o ≠ .tbl q) → upd (upd H P (.tbl (tab ++ #[rawInt pos.line, rawInt pos.col, .ref c']))) c' (LamX.CodeO c' (X.env.qual ++ "<lambda>")) b = some o := fun b o e n => by
      rw [upd_ne (ne_of_none e nc), upd_ne (fun z => n tab (Option.some.inj (e.symm.trans (by rw [z]; exact tP))))]
      exact e
    have g1 : Gr T H (upd (upd H P (.tbl (tab ++ #[rawInt pos.line, rawInt pos.col, .ref c']))) c' (LamX.CodeO c' (X.env.qual ++ "<lambda>"))) := by
      refine ⟨hE, fun _ z hz => ?_, fun b hb => ?_⟩
      · by_cases k : z.1 = P
        · rw [B.one z hz k, k]
          have eL : (tab ++ #[rawInt pos.line, rawInt pos.col, .ref c']).toList = tab.toList ++ [rawInt pos.line, rawInt pos.col, .ref c'] := by simp
          refine ⟨_, by rw [upd_ne (ne_of_none tP nc), upd_same], by rw [eL]; exact PySem.TriplesOk_snoc _ _ _ _ tT, fun p' cv hcv => ?_⟩
          rw [eL] at hcv
          rcases LamX.among_app _ tT hcv with q | q
          · obtain ⟨c0, e1, e2⟩ := tA p' cv q
            exact ⟨c0, e1, hE _ _ e2 LamX.codeO_ne⟩
          · exact ⟨c', q, upd_same⟩
        · obtain ⟨ps', a1, a2, a3⟩ := hT z hz
          refine ⟨ps', by rw [upd_ne (ne_of_none a1 nc), upd_ne k]; exact a1, a2, fun p' cv hcv => ?_⟩
          obtain ⟨c0, e1, e2⟩ := a3 p' cv hcv
          exact ⟨c0, e1, hE _ _ e2 LamX.codeO_ne⟩
      · by_cases k : b = c'
        · rw [k]; exact nc
        · rw [upd_ne k] at hb
          by_cases k2 : b = P
          · rw [k2, upd_same] at hb; exact nomatch hb
          · rwa [upd_ne k2] at hb
    generalize hH1 : upd (upd H P (.tbl (tab ++ #[rawInt pos.line, rawInt pos.col, .ref c']))) c' (LamX.CodeO c' (X.env.qual ++ "<lambda>")) = H1 at I1 g1
    have hc1 : H1 c' = some (LamX.CodeO c' (X.env.qual ++ "<lambda>")) := by rw [← hH1]; exact upd_same
    have fr : H1 h'.objs.size = none := I1.hok.fresh (Nat.le_refl _)
    have at1 := Heap.get?_push_size h' (o := PySem.W.kla_obj "<lambda>" (X.env.qual ++ "<lambda>") params body scope (cloFrom X.env.cells scope.names []) ((X.mg "__name__").getD .none) c' ctv) rfl
    have I2 := I1.laid (a := h'.objs.size) (o := FnO (X.env.qual ++ "<lambda>") (cloFrom X.env.cells scope.names []) params body scope h'.objs.size c') (t' := tk) (fun b o e => Heap.get?_push_of_some _ e) (Nat.le_refl _) (fnO_ok at1)
    exact ⟨.ref h'.objs.size, _, I2, (show Value.ref _ = Value.ref _ from rfl), hq _ c' _ (g1.trans (.new fr)) (g1.old _ fr) upd_same ((upd_ne (ne_of_none hc1 fr)).trans hc1)⟩
end
/-! ### a lambda with one parameter, called -/
/-- one parameter, else captured names and globals -/
structure LamS1 (sc scope : Scope) (p : Str) : Prop where
  kind : scope.kind = .function
  co : scope.isCoroutine = false
  gen : scope.isGenerator = false
  par : scope.names.lookup p = some .local
  own : ∀ y ∈ scope.names, y.2 ≠ .cell ∧ (y.2 = .local → y.1 = p)
  free : ∀ y ∈ scope.names, y.2 = .free → sc.names.lookup y.1 = some .cell ∨ sc.names.lookup y.1 = some .free
def lamS1B (sc scope : Scope) (p : Str) : Bool :=
  decide (scope.kind = .function) && (!scope.isCoroutine && (!scope.isGenerator && (decide (scope.names.lookup p = some .local) && scope.names.all fun y => !decide (y.2 = .cell) && ((!decide (y.2 = .local) || decide (y.1 = p)) && (!decide (y.2 = .free) || (decide (sc.names.lookup y.1 = some .cell) || decide (sc.names.lookup y.1 = some .free)))))))
theorem lamS1_by {sc scope : Scope} {p : Str} (h : lamS1B sc scope p = true) : LamS1 sc scope p := by
  unfold lamS1B at h
  simp only [Bool.and_eq_true, Bool.or_eq_true, Bool.not_eq_true', decide_eq_true_eq, decide_eq_false_iff_not, List.all_eq_true] at h
  obtain ⟨h1, h2, h3, h4, h5⟩ := h
  refine ⟨h1, h2, h3, h4, fun y hy => ⟨(h5 y hy).1, fun e => ?_⟩, fun y hy e => ?_⟩
  · rcases (h5 y hy).2.1 with z | z
    · exact absurd e z
    · exact z
  · rcases (h5 y hy).2.2 with z | z
    · exact absurd e z
    · exact z
theorem lamS1X {X : Cx} {N ps : List Str} {sc scope : Scope} {p : Str} (S : FnScope N ps sc) (hs : X.env.scope = sc := by rfl) (h : lamS1B sc scope p = true := by decide +kernel) : LamS1 X.env.scope scope p := by
  rw [hs]
  exact lamS1_by h
section
variable {X : Cx} {pins : List (Addr × Obj)} {σ : L2.St} {H HZ : Hp} {s s1 : Shared} {scope : Scope} {p : Str}
theorem LamS1.has (L : LamS1 X.env.scope scope p) (ok : X.Ok) : ∀ y ∈ scope.names, y.2 = .free → ∃ c, X.env.cells.lookup y.1 = some c := fun y hy e => (L.free y hy e).elim (fun k => ok.has _ (.inl k)) fun k => ok.has _ (.inr k)
/-- the body's start: the parameter in slot j, the captured names as the maker has them -/
theorem lam1_start {A : Around} {outer : List Env} {E : XK} {f c' : Addr} {h₁ : Heap} {tk j : Nat} {v : V} {u : Value} (I : Inv X pins σ H s) (L : LamS1 X.env.scope scope p) (hN : X.N.Nodup) (hj : X.N[j]? = some p) (r : RelV v u) (e0 : Env0 X.prog X.w X.K X.mg X.base A outer s1 HZ) (hd : A.handled = none)
    (keepC : ∀ (c : Addr) (x : Option Value), (∃ y, X.env.cells.lookup y = some c) → s.heap.IsCell c x → s1.heap.IsCell c x ∧ HZ c = none) (hns : h₁.Ns s1.heap.objs.size fun y => ([(p, u)] : List (Str × Value)).reverse.lookup y) (kp : ∀ b o, s1.heap.get? b = some o → h₁.get? b = some o) :
    Inv (LamX.lamCx X A outer s1 HZ E scope f c') [] (σ.set j (some v)) HZ { s1 with heap := h₁, toks := tk } := by
  have cm : ∀ {y c}, (cloFrom X.env.cells scope.names []).lookup y = some c → X.env.cells.lookup y = some c := fun {y c} e => by
    rcases cloFrom_mem (PySem.mem_of_lookup e) with z | ⟨z1, z2⟩
    · exact nomatch z
    · obtain ⟨d, hdl⟩ := L.has I.ok _ z1 rfl
      have hdl : X.env.cells.lookup y = some d := hdl
      rw [hdl] at z2
      rw [hdl, show c = d from z2]
  have lk : ∀ {y}, scope.names.lookup y = some .free → ∃ c, (cloFrom X.env.cells scope.names []).lookup y = some c := fun {y} hl => mem_lookup (cloFrom_has (cells := X.env.cells) (acc := []) (PySem.mem_of_lookup hl))
  have ck : ∀ {c : Addr} {x : Option Value} {y : Str}, X.env.cells.lookup y = some c → s.heap.IsCell c x → h₁.IsCell c x := fun {c x y} hy hc => by
    obtain ⟨⟨o, ho, hdd⟩, _⟩ := keepC c x ⟨y, hy⟩ hc
    exact ⟨o, kp _ _ ho, hdd⟩
  have nox : ∀ b : Addr, b ∉ (LamX.lamCx X A outer s1 HZ E scope f c').ex := fun b z => nomatch (show b ∈ ([] : List Addr) from z)
  have hX : (LamX.lamCx X A outer s1 HZ E scope f c').Ok := {
    mod := e0.mod
    kind := L.kind
    glob := rfl
    blt := rfl
    above := Nat.le_refl _
    inj := fun y z c e1 e2 => I.ok.inj y z c (cm e1) (cm e2)
    has := fun y hy => by
      rcases (show scope.names.lookup y = some .cell ∨ scope.names.lookup y = some .free from hy) with k | k
      · exact absurd rfl (L.own _ (PySem.mem_of_lookup k)).1
      · exact lk k
    cab := fun y c z _ => nomatch (show false = true from z)
    hd := fun _ => hd
    frames := Around.frames_deeper e0.frames
    stk := .inr ⟨rfl, rfl⟩
    exf := fun b z => absurd z (nox b)
    bs := e0.bs
    bsz := e0.bsz
    noex := fun b _ _ => nox b
    exfs := fun b z => absurd z (nox b)
    funs := e0.funs
    frf := e0.frf }
  refine ⟨hX, rfl, e0.bare, Un.kept kp, ⟨_, hns, fun i y x e1 e2 e3 => ?_⟩, fun y c e => ?_, e0.hok.fresh (Nat.le_refl _), fun y c e => ?_, fun q hq => absurd (show q ∈ ([] : List (Addr × Obj)) ++ [] from hq) (by simp), e0.hok.kept kp, by rw [List.length_set]; exact I.len⟩
  · rcases (show Vis scope y from e3) with k | k | k
    · have hy : y = p := (L.own _ (PySem.mem_of_lookup k)).2 rfl
      subst hy
      have hij : i = j := (List.getElem?_inj ((List.getElem?_eq_some_iff.mp e1).1) hN).mp (e1.trans hj.symm)
      subst hij
      have hlen : i < σ.length := by
        rw [I.len]
        exact (List.getElem?_eq_some_iff.mp e1).1
      rw [List.getElem?_set_self hlen] at e2
      obtain rfl : v = x := Option.some.inj (Option.some.inj e2)
      exact ⟨u, r, .inl ⟨k, by simp⟩⟩
    · exact absurd rfl (L.own _ (PySem.mem_of_lookup k)).1
    · have nij : i ≠ j := fun e => by
        subst e
        have hyp : y = p := Option.some.inj (e1.symm.trans hj)
        rw [hyp, L.par] at k
        exact nomatch k
      rw [List.getElem?_set_ne (Ne.symm nij)] at e2
      obtain ⟨m, hn, hl⟩ := I.loc
      obtain ⟨w', r', q⟩ := hl i y x e1 e2 ((L.free _ (PySem.mem_of_lookup k) rfl).elim (fun k => .inr (.inl k)) fun k => .inr (.inr k))
      obtain ⟨d, hd'⟩ := lk k
      refine ⟨w', r', .inr ⟨.inr k, d, hd', ?_⟩⟩
      rcases q with ⟨k', _⟩ | ⟨_, d2, e', z⟩
      · have k' : X.env.scope.names.lookup y = some .local := k'
        rcases L.free _ (PySem.mem_of_lookup k) rfl with k2 | k2 <;> rw [show X.env.scope.names.lookup y = _ from k2] at k' <;> exact nomatch k'
      · have e'' : X.env.cells.lookup y = some d2 := e'
        rw [cm hd'] at e''
        obtain rfl : d = d2 := Option.some.inj e''
        exact ck (cm hd') z
  · obtain ⟨x, z⟩ := I.cell y c (cm e)
    exact ⟨x, ck (cm e) z⟩
  · obtain ⟨x, z⟩ := I.cell y c (cm e)
    exact (keepC c x ⟨y, cm e⟩ z).2
/-- the call of such a lambda, from anywhere -/
theorem lam1_call {A : Around} {outer : List Env} {E : XK} {f c' : Addr} {j k : Nat} {v : V} {u : Value} {params : Arguments} {body : Expr} {tb : TE} {Q : VK} (I : Inv X pins σ H s) (L : LamS1 X.env.scope scope p) (hN : X.N.Nodup) (hj : X.N[j]? = some p) (r : RelV v u) (e0 : Env0 X.prog X.w X.K X.mg X.base A outer s1 HZ) (hr : Room (k + 1) A)
    (keepC : ∀ (c : Addr) (x : Option Value), (∃ y, X.env.cells.lookup y = some c) → s.heap.IsCell c x → s1.heap.IsCell c x ∧ HZ c = none) (hf : HZ f = some (FnO (X.env.qual ++ "<lambda>") (cloFrom X.env.cells scope.names []) params body scope f c')) (hc : HZ c' = some (LamX.CodeO c' (X.env.qual ++ "<lambda>")))
    (nl : s1.heap.NoLimit) (hbind : ∀ pm ctv : Value, bindArgs (PySem.W.kla_fn "<lambda>" (X.env.qual ++ "<lambda>") params body scope (cloFrom X.env.cells scope.names []) pm (.ref c') ctv) ⟨[u], []⟩ = pure [(p, u)])
    (hb : Room k (A.deeper (LamX.lamEnv X scope s1.heap.objs.size f c')) → PE (LamX.lamCx X A outer s1 HZ E scope f c') body tb) (h : tb (σ.set j (some v)) HZ Q) :
    codeAny (model X.prog X.w) A (.call (.ref f) ⟨[u], []⟩) (CR (L2.CX X.prog X.w) outer X.prog X.w HZ s1 Q E) s1 := by
  obtain ⟨⟨pm, ctv, of1⟩, _, _⟩ := e0.hok f _ hf
  obtain ⟨⟨oc, vs, t, hoc, hdc, hvc⟩, _, _⟩ := e0.hok c' _ hc
  refine PySem.W.kla_callFunE hr.depth of1 rfl L.co L.gen rfl ⟨c', oc, vs, t, rfl, hoc, hdc, hvc⟩ ?_
  rw [hbind]
  refine wpAny_pure (wpAny_newFunctionEnv (fun y hy => (L.own y hy).1) (fun y hy => by rw [List.mem_singleton.mp hy]; exact L.par) (fun h₁ hns hsb => ⟨nl.fresh _ hsb, ?_⟩) L.kind)
  have kp : ∀ b o, s1.heap.get? b = some o → h₁.get? b = some o := fun b o e => hsb.extBut b o (Nat.ne_of_lt (Heap.lt_size e)) (Heap.get?_push_of_some _ e)
  have J : Inv (LamX.lamCx X A outer s1 HZ E scope f c') [] (σ.set j (some v)) HZ { s1 with heap := h₁, toks := s1.toks + ([(p, u)] : List (Str × Value)).length } := lam1_start I L hN hj r e0 hr.hd keepC hns kp
  refine PySem.W.kla_codeExpr (wpAny_mono ((hb (hr.deeper _)).run [] _ _ HZ Q J h) (fun x s' hq => ?_) fun e s' hq => hq)
  obtain ⟨w', H', J', rv, q⟩ := hq
  exact ⟨w', H', J'.os, J'.bare, J'.base, J'.hok, rv, q⟩
end
end Pan
set_option maxHeartbeats 1000000
/-! min of one member by a key. -/
namespace Pan
open PySem PySem.Spec PyProof.Rows L2
/-- a list of one int is walked -/
theorem walk1 {prog : Program} {w : World} {A : Around} {n : Int} {it l : Addr} (hh : A.handled = none) (hne : l ≠ it) : WalksS prog w A it [it, l] [it] (fun a b => b = a) 1 (fun _ v => ∃ t, v = Value.int n t) (fun i s => s.heap.IsListIter it l i ∧ ∃ t, s.heap.IsList l #[Value.int n t]) := by
  have W : ∀ t, WalksS prog w A it [it, l] [it] (fun a b => b = a) (#[Value.int n t] : Array Value).size (fun i v => (#[Value.int n t] : Array Value)[i]? = some v) (fun i s' => s'.heap.IsListIter it l i ∧ s'.heap.IsList l #[Value.int n t]) := fun t => (Walks.list (prog := prog) (w := w) (A := A) hh it l hne #[Value.int n t]).toS
  exact {
    sub := (W 0).sub
    grefl := (W 0).grefl
    gtrans := (W 0).gtrans
    frame := fun i s h' tk ⟨h1, t, h2⟩ hle k => by
      obtain ⟨q1, q2⟩ := (W t).frame i s h' tk ⟨h1, h2⟩ hle k
      exact ⟨q1, t, q2⟩
    item := fun i s Q E hi ⟨h1, t, h2⟩ hQ => (W t).item i s Q E hi ⟨h1, h2⟩ fun v s' hP hst hm => hQ v s' (by
      have : i = 0 := by omega
      subst this
      exact ⟨t, (Option.some.inj hP).symm⟩) ⟨hst.1, t, hst.2⟩ hm
    done := fun s Q E ⟨h1, t, h2⟩ hQ => (W t).done s Q E ⟨h1, h2⟩ hQ
    self := fun i s Q E ⟨h1, t, h2⟩ h => (W t).self i s Q E ⟨h1, h2⟩ h }
theorem moved_eq {wr : List Addr} {s s' : Shared} (m : Moved wr (fun a b => b = a) s s') : s' = { s with heap := s'.heap, toks := s'.toks } := by
  obtain ⟨h, g, d, t, o⟩ := s'
  have e1 : g = s.gens := m.gens
  have e2 : d = s.drawn := m.drawn
  have e3 : o = s.os := m.os
  subst e1 e2 e3
  rfl
section
variable {T : List (Addr × Str)} {X : Cx} {e body : Expr} {σ : L2.St} {H : Hp} {pos p1 kpos lpos : Pos} {params : Arguments} {scope : Scope} {c P : Addr} {p : Str}
theorem ee_min1 {x : Str} {n k : Int} {j r : Nat} (hm : X.mg x = none) (B : LamB T X c P) (hT : LamX.Tabs T H) (hr : Room (r + 2) X.A) (hN : X.N.Nodup) (L : LamS1 X.env.scope scope p) (he : EE T X e σ H (lstP X.K intP [n]))
    (hb : ∀ H1, Gr T H H1 → ∀ A outer s E f c', Room r (A.deeper (LamX.lamEnv X scope s.heap.objs.size f c')) → EE T (LamX.lamCx X A outer s H1 E scope f c') body (σ.set j (some (.int n))) H1 (intP k))
    (hbind : ∀ (q : Str) (cl : List (Str × Addr)) (pm cv ctv u : Value), bindArgs (PySem.W.kla_fn "<lambda>" q params body scope cl pm cv ctv) ⟨[u], []⟩ = pure [(p, u)])
    (hdef : defaultsOf params X.env = ([], []) := by rfl) (hj : X.N[j]? = some p := by rfl) (hc : X.calm = true := by rfl) (hv : bootBuiltins x = some (.builtin "min") := by decide +kernel) (hg : Gl X x := by rfl) (hn : x ≠ "__name__" := by decide) (hdb : (x == ("__debug__" : Str)) = false := by decide)
    (hst : starEach [e] X.env = (false, eval e X.env) :: starEach [] X.env := by rfl) (hes : backTo pos (starEach [e] X.env) = (false, eval e X.env) :: backTo pos (starEach [] X.env) := by rfl) (hpl : (backTo pos (starEach [e] X.env)).any (·.1) = false := by rfl)
    (hall : (backToKw pos (keywordEach [⟨some "key", .Lambda params body scope lpos, kpos⟩] X.env)).all (·.1.isSome) = true := by rfl) (hnone : (backToKw pos (keywordEach [⟨some "key", .Lambda params body scope lpos, kpos⟩] X.env)).any (·.1.isNone) = false := by rfl)
    (hks : (backToKw pos (keywordEach [⟨some "key", .Lambda params body scope lpos, kpos⟩] X.env)).filterMap (·.1) = [Str.ofString "key"] := by rfl) :
    EE T X (.Call (.Name x p1) [e] [⟨some "key", .Lambda params body scope lpos, kpos⟩] pos) σ H (intP n) := by
  refine ⟨fun pins s σ' H1 Q I ⟨e1, g, q⟩ => ?_⟩
  subst e1
  refine wpAny_Call_Name_kw (ld_blt I hg hm hv ?_ hn hdb)
  refine PyProof.Rows.callWith_kw (thn ((ea_cons (he.mono g) ea_nil hst : EA T X [e] σ' H1 [lstP X.K intP [n]]).run pos pins s σ' H1 (fun vs H2 => Gr T H1 H2 ∧ Sat [lstP X.K intP [n]] vs H2) I ⟨rfl, .refl _, fun vs H2 g2 hs => ⟨g2, hs⟩⟩) fun us s1 ⟨vs, H2, I2, r1, g2, hs⟩ => ?_) hes hpl hall hnone
  obtain ⟨v, rfl, l, ws, rfl, hl, hw⟩ := sat1 hs
  obtain ⟨u, rfl, ru⟩ := r1.one
  cases (show u = Value.ref l from ru)
  refine thn ((pk_cons (nm := some "key") (kpos := kpos) (pe_made B hdef fun ok => L.has ok) pk_nil).run pos pins s1 σ' H2 (fun zs H3 => ∃ f c', zs = [.ref f] ∧ Gr T H2 H3 ∧ H3 f = some (FnO (X.env.qual ++ "<lambda>") (cloFrom X.env.cells scope.names []) params body scope f c') ∧ H3 c' = some (LamX.CodeO c' (X.env.qual ++ "<lambda>"))) I2 ⟨(g.trans g2).tab hT, fun f c' H3 g3 _ hf hc' => ⟨f, c', rfl, g3, hf, hc'⟩⟩) fun us2 s2 ⟨zs, H3, I3, r3, f, c', ezs, g3, hf, hc'⟩ => ?_
  subst ezs
  obtain ⟨u2, rfl, ru2⟩ := r3.one
  cases (show u2 = Value.ref f from ru2)
  rw [hks]
  show wpAny _ _ (call (.builtin "min") [.ref l] [(Str.ofString "key", .ref f)]) _ _ _
  have hwn : ws = [V.int n] := ints_all hw
  subst hwn
  have hl3 := g3.sqL hl
  obtain ⟨its, rv, pl, hz⟩ := I3.list hl3
  obtain ⟨u0, rfl, r0⟩ := rv.one
  obtain ⟨t0, rfl⟩ := (show ∃ t, u0 = Value.int n t from r0)
  have hh : X.A.in1.in1.handled = none := (I3.ok.hd hc)
  refine call_min_walkK (wpAny_pyIter_list pl.isList ?_)
  have ll : l < s2.heap.objs.size := by obtain ⟨_, z, _⟩ := pl.isList; exact Heap.lt_size z
  have ne : l ≠ s2.heap.objs.size := Nat.ne_of_lt ll
  generalize hs3 : ({ s2 with heap := s2.heap.push { cls := .type "list_iterator", data := .fields #[.ref l, .int 0 0] } } : Shared) = s3
  have h3 : s3.heap = s2.heap.push { cls := .type "list_iterator", data := .fields #[.ref l, .int 0 0] } := by rw [← hs3]
  have sz3 : s3.heap.objs.size = s2.heap.objs.size + 1 := by rw [h3, Heap.size_push]
  have I3' : Inv X pins σ' H3 s3 := by rw [← hs3]; exact I3.kept (t' := s2.toks) fun b o z => Heap.get?_push_of_some _ z
  refine ⟨s2.heap.objs.size, [s2.heap.objs.size, l], [s2.heap.objs.size], _, 1, _, _, fun s' => (∃ H', Inv X pins σ' H' s' ∧ Gr T H3 H' ∧ (∀ b ∈ [s3.heap.objs.size, s2.heap.objs.size], FpOk X pins H' b)), fun i kv s' => ∃ t, kv = Value.int k t, fun _ _ => false, rfl, walk1 hh ne, ⟨⟨_, by rw [h3]; exact Heap.get?_push_size _ rfl, rfl, rfl⟩, t0, by rw [h3]; exact pl.isList.push _⟩, fun b hb => ?_, Nat.one_pos, ?_, ⟨H3, I3', .refl _, fun b hb => ?_⟩, ?_⟩
  · rw [sz3]
    rcases List.mem_cons.mp hb with z | z
    · rw [z]; exact Nat.lt_succ_self _
    · rw [List.mem_singleton.mp z]; exact Nat.lt_succ_of_lt ll
  · refine { keep := fun s s' ⟨H', J, gJ, fJ⟩ mv => ?_, keepV := fun i kv s s' h _ => h, turn := ?_, cmp := ?_ }
    · rw [moved_eq mv]
      exact ⟨H', J.turnedL (ch := [s3.heap.objs.size, s2.heap.objs.size]) (fun b o hb z => mv.heap b o hb z) fJ, gJ, fJ⟩
    · rintro i v s o Q E hi ⟨t, rfl⟩ ⟨H', J, gJ, fJ⟩ ⟨hit, tl, hil⟩ hS hQ
      have i0 : i = 0 := by omega
      subst i0
      obtain ⟨oI, hoI, hcI, hdI⟩ := id hit
      obtain ⟨m0, hn0, _⟩ := id J.loc
      have nfr : ∀ b ∈ [s3.heap.objs.size, s2.heap.objs.size], b ∉ frs X.stack := fun b hb z => (List.mem_cons.mp (J.stkSub b z)).elim (fun e => (fJ b hb).2.1 e) (fJ b hb).2.2.1
      have hf' : H' f = _ := gJ.ext f _ hf fnO_tbl
      have hcc : H' c' = _ := gJ.ext c' _ hc' LamX.codeO_ne
      have call := lam1_call (A := X.A.in1) (outer := X.stack) (E := fun _ _ _ => False) (Q := fun v H'' => v = .int k ∧ Gr T H' H'') (tb := fun σ'' H'' Q => σ'' = σ'.set j (some (.int n)) ∧ Gr T H' H'' ∧ ∀ v H2, Gr T H'' H2 → v = V.int k → Q v H2) J L hN hj (v := .int n) (u := .int n t) ⟨t, rfl⟩ J.env0.in1 hr.in1
        (fun d x ⟨y, hy⟩ hd => ⟨hd, J.freeC y d hy⟩) hf' hcc J.nolimit (fun pm ctv => hbind _ _ _ _ _ _) (fun hroom => ?_) ⟨rfl, .refl _, fun v H2 g h => ⟨h, g⟩⟩
      · refine wpAny_call (codeAny_mono call fun res s' hq => ?_)
        cases res with
        | error er =>
          obtain ⟨_, _, _, _, _, _, _, _, _, _, _, _, z⟩ := (show L2.CX X.prog X.w X.stack H' s (fun _ _ _ => False) er s' from hq)
          exact z.elim
        | ok fl =>
          cases fl with
          | ret u =>
            obtain ⟨v', H'', os, bare, un, hok, rv', rfl, gk⟩ := (show CE X.stack X.prog X.w H' s _ u s' from hq)
            have J2 : Inv X pins σ' H'' s' := J.call' os un hok bare (ch := []) fun b z => absurd z (by simp)
            obtain ⟨t', rfl⟩ := (show ∃ t', u = Value.int k t' from rv')
            have pin : ∀ b ob, b ∈ [s3.heap.objs.size, s2.heap.objs.size] → s.heap.get? b = some ob → s'.heap.get? b = some ob ∧ H'' b = none := fun b ob hb e =>
              ⟨un.keep b ob e (fJ b hb).1 (nfr b hb) (by simp), un.free b ob e (fJ b hb).1 (by simp)⟩
            have gg := gJ.trans gk
            obtain ⟨its2, rv2, pl2, _⟩ := J2.list (gg.sqL hl3)
            obtain ⟨u2, rfl, r2⟩ := rv2.one
            obtain ⟨t2, rfl⟩ := (show ∃ t, u2 = Value.int n t from r2)
            refine hQ _ s' ⟨H'', J2, gg, fun b hb => ?_⟩ ⟨?_, t2, pl2.isList⟩ (pin _ _ List.mem_cons_self hS).1 ⟨t', rfl⟩ fun _ _ h => h
            · rcases List.mem_cons.mp hb with z | z
              · rw [z]; exact ⟨(pin _ o List.mem_cons_self hS).2, (fJ _ List.mem_cons_self).2⟩
              · rw [List.mem_singleton.mp z]; exact ⟨(pin _ oI (by simp) hoI).2, (fJ _ (by simp)).2⟩
            · exact ⟨oI, (pin _ _ (by simp) hoI).1, hcI, hdI⟩
          | next => exact False.elim hq
          | brk => exact False.elim hq
          | cont => exact False.elim hq
      · have hbd := hb H' ((((g.trans g2).trans g3)).trans gJ) X.A.in1 X.stack s (fun _ _ _ => False) f c' hroom
        exact ⟨fun pins s' σ'' H'' Q I ⟨e1, g1, q1⟩ => hbd.run pins s' σ'' H'' Q I ⟨e1, g1, fun v H2 g h => q1 v H2 g h⟩⟩
    · rintro i j' ki kj s Q E _ ⟨t, rfl⟩ ⟨t', rfl⟩ hQ
      exact (PyProof.Rows.lt_int (by rw [decide_eq_false (Int.lt_irrefl k)]; exact hQ) : wpAny _ _ (compareOp .Lt (.int k t) (.int k t')) Q E s)
  · have le : s2.heap.objs.size ≤ b := by
      rcases List.mem_cons.mp hb with z | z
      · rw [z, sz3]; exact Nat.le_succ _
      · rw [List.mem_singleton.mp z]; exact Nat.le_refl _
    exact I3.fpOk le (I3.hok.fresh le)
  · rintro v s' ⟨t, rfl⟩ ⟨H', J, gJ, fJ⟩
    exact ⟨.int n, H', J, ⟨t, rfl⟩, q _ H' ((g2.trans g3).trans gJ) rfl⟩
end
end Pan
set_option maxHeartbeats 1000000
namespace Pan
open PySem PySem.Spec PyProof.Rows L2
section
variable {T : List (Addr × Str)} {P : Program} {w : World} {K : PySem.W.Frag} {mg : Str → Option Value} {base : Heap} {x qual : Str} {params : Arguments} {body : List Stmt} {scope : Scope} {f : Addr} {fd : FuncData} {N ps : List Str} {k : Nat}
/-- fn_any with the def's code object -/
theorem fn_anyC {sp : Sp} {p : He.Defn} (hp : f = He.fAd K p) (F : FunD K x qual params body scope [] [] f fd) (S : FnScope N ps scope) (hb : Binds K fd ps []) (hl : ∀ vs H Q E, sp vs H Q E → vs.length = ps.length)
    (h : ∀ (cdv : Value) (A : Around) (outer : List Env) (s : Shared) (H : Hp) (vs : List V) (Q : VK) (E : XK), cdv = .ref (He.codeOf K p) → Room k (A.deeper (envOfC qual scope s.heap.objs.size f cdv)) → sp vs H Q E →
      SS T (cxOf CX0 P w K mg base N qual scope f cdv A outer s H E).nox body (start N vs) H { nx := fun _ H' => Q .non H', rt := Q }) : FnR P w K mg base CX0 (k + 1) f sp := by
  have G : FnOk P w K mg base CX0 (k + 1) f fd ps sp := by
    obtain ⟨oc, od, dV, kV, doc, pm, an, cdv, ct, osl, rfl, lk, hcd, _, _⟩ := F.ex
    obtain ⟨c, rfl⟩ := He.codeIn_ref hcd
    have hc : He.codeOf K p = c := He.codeOf_eq (hp ▸ lk) rfl
    exact fn_of lk hcd S hl fun A outer s H vs Q E hr hs => ⟨_, PSs.nox (h _ A outer s H vs Q E (by rw [hc]) hr hs), rfl, rfl, rfl⟩
  intro A outer s H us vs Q E hr e0 r hs
  exact G.raw hb .nil A outer s H us vs Q E hr e0 r (by show sp (vs ++ []) H Q E; rw [List.append_nil]; exact hs)
end
/-- the tables of the two defs that make lambdas -/
structure TabsB (T : List (Addr × Str)) (K : PySem.W.Frag) (mg : Str → Option Value) (base : Heap) (p : He.Defn) (q : Str) : Prop where
  tb : LamX.TabB base mg (He.cT K p).1 (He.cT K p).2
  mem : ((He.cT K p).2, q) ∈ T
  one : ∀ z ∈ T, z.1 = (He.cT K p).2 → z.2 = q
abbrev BadT (T : List (Addr × Str)) (K : PySem.W.Frag) (mg : Str → Option Value) (base : Heap) : Prop := TabsB T K mg base ("Table", some "bad_line") "Table.bad_line.<locals>.<lambda>"
section
variable {T : List (Addr × Str)} {P : Program} {w : World} {K : PySem.W.Frag} {mg : Str → Option Value} {base : Heap}
/-- the lines below 0: none, or just one -/
def ableM (M : TabM) : List Nat := (M.sides.zipIdx.filter fun x => decide (x.1.1 < 0)).map (·.2)
def okBad (M : TabM) : Prop := M.sides.length ≤ 100 ∧ (ableM M).length ≤ 1 ∧ ∀ i ∈ ableM M, i < M.basic.length
instance (M : TabM) : Decidable (okBad M) := inferInstanceAs (Decidable (_ ∧ _ ∧ _))
def spBad (T : List (Addr × Str)) (K : PySem.W.Frag) : Sp := fun vs H Q _ => ∃ (F : Hp) (a : Addr) (A : TA) (M : TabM), vs = [.ref a] ∧ LamX.Tabs T H ∧ TabSt T K F a A M H ∧ okBad M ∧ ∀ H', Gr T H H' → Q (optV (ableM M).head?) H'
theorem datN (ns : List Nat) : Dat T K 1 (lstP K (fun i : Nat => intP (i : Int)) ns) (.list (ns.map fun i : Nat => .int (i : Int))) := Dat.lst (k := 0) fun i _ => Dat.int (i : Int)
theorem scBad : FnScope ["self", "able", "index", "side"] ["self"] (defScope (inClass (top 16) 2)) := ⟨rfl, rfl, rfl, by decide +kernel, rfl, by decide +kernel, by decide +kernel⟩
theorem ok_bad_line (W : Wd K mg) (B : BadT T K mg base) : FnR P w K mg base CX0 4 (He.ma K (He.ga K "Table") "bad_line") (spBad T K) := by
  obtain ⟨fd, Fd⟩ := W.d_Table_bad_line
  have b : Binds K fd ["self"] [] := Fd.bindsN fun _ _ _ _ _ _ us hl => match us, hl with | [_], _ => rfl
  refine fn_anyC (T := T) (p := ("Table", some "bad_line")) rfl Fd scBad b (fun vs H Q E ⟨F, a, A, M, e, _⟩ => by rw [e]; rfl) fun cdv A0 outer s H vs Q E hcd hr hsp => ?_
  obtain ⟨F, a, A, M, rfl, hT, t, ⟨l1, l2, l3⟩, hQ⟩ := hsp
  subst hcd
  refine ss_setC 1 (ec_lcPIf 2 3 scBad (R1 := fun x : Fr × Nat => intP (x.2 : Int)) (R2 := fun x : Fr × Nat => frP K x.1) (Ro := fun x : Fr × Nat => intP (x.2 : Int)) (keep := fun x => decide (x.1.1 < 0)) (src_enumL W.f_enumerate (ee_tsides W t (ee_v 0 rfl))) (by rw [List.length_zipIdx]; omega)
    (fun x v v' H' _ g hv hv' s H C cl fp => et_lt (ix0 (ee_var 3 rfl hv')) ee_int) fun x v v' H' _ _ g hv hv' s H C cl fp => ee_var 2 rfl hv) fun av H1 g1 ha => ?_
  have t1 := t.gr g1
  have ha' : (lstP (T := T) K (fun i : Nat => intP (i : Int)) (ableM M)).p av H1 := lst_map (R := fun i : Nat => intP (i : Int)) (f := fun x : Fr × Nat => x.2) ha
  generalize hab : ableM M = ab at ha' l2 l3 hQ
  refine ss_ret (P := eqP (optV ab.head?)) (ee_if (t := !decide (ab = [])) (ET.cast (et_neD hr (datN ab) (datN []) (ee_var 1 rfl ha') (ee_new (nl_lst ea_nil) fun p vs H2 g hp hS => ?_)) ?_) (fun ht => ?_) fun hf => ?_) fun v H2 g2 hv => by
      obtain rfl := hv
      exact hQ H2 (g1.trans g2)
  · cases vs with
    | nil => exact ⟨p, [], rfl, .inl (.inl hp), trivial⟩
    | cons _ _ => exact hS.elim
  · cases ab <;> simp [PyData.eqv, PyData.eqvAll]
  · cases ab with
    | nil => simp at ht
    | cons i r =>
      have hr0 : r = [] := List.length_eq_zero_iff.mp (by simpa using l2)
      subst hr0
      have hi : i < M.basic.length := l3 i (by simp)
      refine EE.cast (ee_min1 (r := 0) (n := (i : Int)) (k := M.basic.getD i 0) (j := 2) W.f_min ⟨B.tb, rfl, B.mem, B.one⟩ (g1.tab hT) (hr.mono (by decide)) scBad.nd (lamS1X scBad) (EE.imp (ee_var 1 rfl ha') fun v H2 _ ⟨p, vs, e, h1, h2⟩ => ⟨p, vs, e, h1, ?_⟩) (fun H2 g2 A1 outer1 s1 E1 f1 c1 hr1 => ?_) fun q cl pm cv ctv u => rfl) rfl
      · cases vs with
        | nil => exact h2.elim
        | cons v r => exact ⟨h2.1, match r, h2.2 with | [], _ => trivial | _ :: _, h => h.elim⟩
      · exact ee_ixL i (getD_some (d := 0) hi) (ee_tbasic W (t1.gr g2) (ee_v 0 rfl)) (ee_v 2 rfl)
  · cases ab with
    | nil => exact ee_non
    | cons i r => simp at hf
end
end Pan
set_option maxHeartbeats 1000000
namespace Pan
open PySem PySem.Spec PyProof.Rows L2
def okSolve : Nat → TabM → Prop
  | 0, _ => False
  | k + 1, M => okBad M ∧ match (ableM M).head? with
    | none => True
    | some l => okColumn M l ∧ match columnM M l with
      | none => False
      | some c => okExch M l c ∧ okSolve k (exchangeM M l c)
def solveM : Nat → TabM → TabM
  | 0, M => M
  | k + 1, M => match (ableM M).head? with
    | none => M
    | some l => match columnM M l with
      | none => M
      | some c => solveM k (exchangeM M l c)
instance okSolve.dec : ∀ (k : Nat) (M : TabM), Decidable (okSolve k M)
  | 0, _ => isFalse id
  | k + 1, M => by
    unfold okSolve
    cases (ableM M).head? with
    | none => dsimp only; exact inferInstance
    | some l =>
      cases hc : columnM M l with
      | none => dsimp only; rw [hc]; dsimp only; exact inferInstance
      | some c =>
        have := okSolve.dec k (exchangeM M l c)
        dsimp only
        rw [hc]
        dsimp only
        exact inferInstance
section
variable {T : List (Addr × Str)} {P : Program} {w : World} {K : PySem.W.Frag} {mg : Str → Option Value} {base : Heap}
def spSolve (T : List (Addr × Str)) (K : PySem.W.Frag) : Sp := fun vs H Q _ => ∃ (F : Hp) (a : Addr) (A : TA) (M : TabM) (k : Nat), vs = [.ref a] ∧ LamX.Tabs T F ∧ TabSt T K F a A M H ∧ okSolve k M ∧ ∀ F' A' H', Gr T F F' → TabSt T K F' a A' (solveM k M) H' → Q .non H'
theorem scSolve : FnScope ["self", "line", "column"] ["self"] (defScope (inClass (top 16) 6)) := ⟨rfl, rfl, rfl, by decide +kernel, rfl, by decide +kernel, by decide +kernel⟩
theorem optV_non {o : Option Nat} : decide (optV o = V.non) = o.isNone := by cases o <;> simp [optV]
theorem ok_solve (W : Wd K mg) (B : BadT T K mg base) : FnR P w K mg base CX0 5 (He.ma K (He.ga K "Table") "solve") (spSolve T K) := by
  obtain ⟨fd, Fd⟩ := W.d_Table_solve
  have b : Binds K fd ["self"] [] := Fd.bindsN fun _ _ _ _ _ _ us hl => match us, hl with | [_], _ => rfl
  refine fn_any (T := T) Fd scSolve b (fun vs H Q E ⟨F, a, A, M, k, e, _⟩ => by rw [e]; rfl) fun cdv A0 outer s H vs Q E hr hsp => ?_
  obtain ⟨F, a, A, M, k, rfl, hT, t, hok, hQ⟩ := hsp
  have Lb := ok_bad_line (T := T) (P := P) (w := w) (base := base) W B
  have Lc := ok_column (T := T) (P := P) (w := w) (base := base) W
  have Le := ok_exchange (T := T) (P := P) (w := w) (base := base) W
  cases k with
  | zero => exact hok.elim
  | succ k =>
  generalize hM : solveM (k + 1) M = Mf at hQ
  refine ssx_set 1 (ex_meth0 (E := fun _ _ _ => False) (R := fun v H' => v = optV (ableM M).head? ∧ Gr T H H') 0 rfl t.ins.slt W.s_Table W.m_Table_bad_line Lb hr ⟨F, a, A, M, rfl, t.g.tab hT, t, hok.1, fun H' g => ⟨rfl, g⟩⟩) scSolve.nd fun lv H1 ⟨e1, g1⟩ => ?_
  subst e1
  refine ss_while (fun m σ' H' => ∃ (Fi : Hp) (Ai : TA) (Mi : TabM) (u : Option V), m = m ∧ σ' = [some (.ref a), some (optV (ableM Mi).head?), u] ∧ Gr T F Fi ∧ TabSt T K Fi a Ai Mi H' ∧ okSolve (m + 1) Mi ∧ solveM (m + 1) Mi = Mf) k ⟨F, A, M, none, rfl, rfl, .refl _, t.gr g1, hok, hM⟩ PassesOwn.never ?_
  rintro m σ' H' ⟨Fi, Ai, Mi, u, _, rfl, gi, ti, hoki, hsi⟩
  have hTi := gi.tab hT
  refine ⟨!(ableM Mi).head?.isNone, et_notN (P := eqP (optV (ableM Mi).head?)) (fun v H1 h => by rw [show v = optV _ from h]; exact optV_non) (ee_v 1 rfl), fun ht H2 g2 => ?_, fun hf H2 g2 => ?_⟩
  · have t2 := ti.gr g2
    unfold okSolve at hoki
    unfold solveM at hsi
    cases hl : (ableM Mi).head? with
    | none => rw [hl] at ht; simp at ht
    | some l =>
      rw [hl] at hoki hsi
      dsimp only at hoki hsi
      obtain ⟨_, hcol, hrest⟩ := hoki
      refine ssx_set 2 (ex_meth (T := T) (E := fun _ _ _ => False) (R := fun v H' => v = optV (columnM Mi l) ∧ Gr T H2 H') 0 rfl t2.ins.slt W.s_Table W.m_Table_column Lc hr (ea_cons (P := intP (l : Int)) (ee_v 1 rfl) ea_nil) fun ws H3 g3 hws => ?_) scSolve.nd fun cv H3 ⟨e3, g3⟩ => ?_
      · obtain ⟨v, rfl, rfl⟩ := sat1 hws
        exact ⟨Fi, a, Ai, Mi, l, rfl, t2.gr g3, hcol, fun H' g => ⟨rfl, g3.trans g⟩⟩
      · subst e3
        cases hc : columnM Mi l with
        | none => rw [hc] at hrest; exact hrest.elim
        | some c =>
          rw [hc] at hrest hsi
          dsimp only at hrest hsi
          have t3 := t2.gr g3
          refine ss_when (t := false) (et_isN (P := intP (c : Int)) (fun v H1 h => by rw [show v = V.int _ from h]; rfl) (ee_v 2 rfl)) (fun z => nomatch z) fun _ H4 g4 => ?_
          have t4 := t3.gr g4
          refine ssx_expr (ex_meth (T := T) (E := fun _ _ _ => False) (R := fun v H' => ∃ F' A', Gr T Fi F' ∧ TabSt T K F' a A' (exchangeM Mi l c) H') 0 rfl t4.ins.slt W.s_Table W.m_Table_exchange Le hr (ea_cons (P := intP (l : Int)) (ee_v 1 rfl) (ea_cons (P := intP (c : Int)) (ee_v 2 rfl) ea_nil)) fun ws H5 g5 hws => ?_) fun v H5 ⟨F', A', gF, t5⟩ => ?_
          · obtain ⟨v, w', rfl, rfl, rfl⟩ := sat2 hws
            exact ⟨Fi, a, Ai, Mi, l, c, rfl, t4.gr g5, hrest.1, fun F' A' H' g t => ⟨F', A', g, t⟩⟩
          · obtain ⟨hx1, hx2⟩ := hrest
            cases m with
            | zero => exact hx2.elim
            | succ m =>
              have hb : okBad (exchangeM Mi l c) := by unfold okSolve at hx2; exact hx2.1
              refine ssx_set 1 (ex_meth0 (E := fun _ _ _ => False) (R := fun v H' => v = optV (ableM (exchangeM Mi l c)).head? ∧ Gr T H5 H') 0 rfl t5.ins.slt W.s_Table W.m_Table_bad_line Lb hr ⟨F', a, A', _, rfl, t5.g.tab (gF.tab hTi), t5, hb, fun H' g => ⟨rfl, g⟩⟩) scSolve.nd fun lv H6 ⟨e6, g6⟩ => ?_
              subst e6
              exact ss_nil (T := T) ⟨m, Nat.lt_succ_self _, F', A', _, _, rfl, rfl, gi.trans gF, t5.gr g6, hx2, hsi⟩
  · refine ss_ret (P := eqP .non) ee_non fun v H3 g3 hv => ?_
    obtain rfl := hv
    have hl : (ableM Mi).head? = none := by simpa using hf
    unfold solveM at hsi
    rw [hl] at hsi
    dsimp only at hsi
    refine hQ Fi Ai H3 gi ?_
    rw [← hsi]
    exact (ti.gr g2).gr g3
end
end Pan
set_option maxHeartbeats 1000000
/-! append, in, update. -/
namespace Pan
open PySem PySem.Spec PyProof.Rows L2
section
variable {T : List (Addr × Str)} {X : Cx} {a b e o : Expr} {σ : L2.St} {H : Hp} {P P1 P2 : Pr T} {pos apos p1 p2 : Pos} {i : Int} {m : Nat} {rest : List Stmt} {D : Ends} {ns : List Int} {x : Str}
/-- x.append(e), x in slot n a tracked list -/
theorem ss_append (n : Nat) {l : Addr} {xs : List V} (hn : σ[n]? = some (some (.ref l))) (hl : H l = some (.lst xs)) (hsz : xs.length ≤ 1000) (he : EE T X e σ H P) (q : ∀ v H1, Gr T H H1 → P.p v H1 → SS T X rest σ (upd H1 l (.lst (xs ++ [v]))) D)
    (hN : X.N[n]? = some x := by rfl) (hv : Vis X.env.scope x := by first | exact Or.inl rfl | exact Or.inr (Or.inl rfl) | exact Or.inr (Or.inr rfl)) (hd : (x == ("__debug__" : Str)) = false := by decide) (hcd : (x == ("__classdict__" : Str)) = false := by decide)
    (hbase : attributeBase (.Name x p1) "append" X.env (eval (.Name x p1) X.env) = eval (.Name x p1) X.env := by rfl)
    (hfew : ((backTo p2 (starEach [e] X.env)).all (fun x => !x.1) && (backToKw p2 (keywordEach [] X.env)).all (fun x => x.1.isSome) && decide (([e] : List Expr).length + ([] : List Keyword).length + (if ([] : List Keyword).isEmpty then 0 else 1) < 30)) = true := by rfl)
    (hline : (apos.endLine == p2.line) = true := by rfl) (hs : starEach [e] X.env = (false, eval e X.env) :: starEach [] X.env := by rfl) (hplain : (backTo p2 (starEach [] X.env)).any (·.1) = false := by rfl)
    (hsw : swapsWith (.Call (.Attribute (.Name x p1) "append" apos) [e] [] p2) none pos.line X.env = pure false := by rfl) : SS T X (.Expr (.Call (.Attribute (.Name x p1) "append" apos) [e] [] p2) pos :: rest) σ H D :=
  ss_cons (S1.of (ps_expr (pe_bm PySem.F.plainAttrs_list PySem.F.slot_list_append PySem.F.type_list_append mt_append (pe_var (i := n) hN hv hd hcd) (ea_cons he ea_nil hs) hbase hfew hline hs hplain) hsw)
    ⟨.ref l, hn, .inl ⟨rfl, xs, .inl (.inl hl)⟩, rfl, .refl _, fun vs H1 g hvs => by
      obtain ⟨v, rfl, hv⟩ := sat1 hvs
      exact ⟨l, xs, v, rfl, rfl, g.lst hl, Nat.lt_of_le_of_lt hsz (by decide), q v H1 g hv⟩⟩)
/-- i in a tuple, in a list of ints -/
theorem inV_ints (i : Int) : ∀ (ns : List Int), inV (.int i) (ns.map V.int) = decide (i ∈ ns)
  | [] => rfl
  | n :: ns => by
    have ih := inV_ints i ns
    unfold inV at ih ⊢
    rw [List.map_cons, List.any_cons, ih]
    by_cases h : n = i
    · simp [eqV, h]
    · simp [eqV, h, Ne.symm h]
theorem et_inT (ha : EE T X a σ H (intP i)) (hb : EE T X b σ H (itP X.K ns)) (hm : behindInMarks .In b = false := by rfl) : ET T X (.Compare a [.In] [b] pos) σ H (decide (i ∈ ns)) :=
  et_cmpO op_in_seq hm ha hb fun x y H1 _ hx ⟨p, vs, e, h1, h2⟩ Q z => ⟨p, ns.map V.int, e, .inr (by rw [← ints_all h2]; exact h1), by rw [show x = V.int i from hx]; rfl, by simp [flatV], by rw [show x = V.int i from hx]; show Q (.bl (inV _ _)) H1; rw [inV_ints]; exact z H1 (.refl _)⟩
/-- i in, not in a dict by ints -/
theorem pe_din {α : Type} {R : α → Pr T} {zs : List (Int × α)} (hr : Room m X.A) (ha : EE T X a σ H (intP i)) (hb : EE T X b σ H (dkP R zs)) (hm : behindInMarks .In b = false := by rfl) : ET T X (.Compare a [.In] [b] pos) σ H (valM zs i).isSome :=
  ET.of (pt_cmp (pc_din (Room.u1 hr) ha hb) hm) fun H1 g Q r => ⟨rfl, g, fun v H2 g2 hv => ⟨rfl, g.trans g2, fun w H3 g3 hw => by
    obtain ⟨d, kvs, rfl, hrd, hz⟩ := hw
    obtain ⟨q1, q2⟩ := DK2.get kI_inj (k := i) hz
    refine ⟨d, valV kvs (kI i), rfl, .inl ⟨kvs, kI i, hrd, hv, rfl⟩, _, rfl, ?_⟩
    cases hz' : valM zs i with
    | some x => obtain ⟨v', e, _⟩ := q1 x hz'; rw [e]; rw [hz'] at r; exact r H3 (g2.trans g3)
    | none => rw [q2 hz']; rw [hz'] at r; exact r H3 (g2.trans g3)⟩⟩
theorem et_dnotin {α : Type} {R : α → Pr T} {zs : List (Int × α)} (hr : Room m X.A) (ha : EE T X a σ H (intP i)) (hb : EE T X b σ H (dkP R zs)) (hm : behindInMarks .NotIn b = false := by rfl) : ET T X (.Compare a [.NotIn] [b] pos) σ H (!(valM zs i).isSome) :=
  ET.of (pt_cmp (pc_dnotin (Room.u1 hr) ha hb) hm) fun H1 g Q r => ⟨rfl, g, fun v H2 g2 hv => ⟨rfl, g.trans g2, fun w H3 g3 hw => by
    obtain ⟨d, kvs, rfl, hrd, hz⟩ := hw
    obtain ⟨q1, q2⟩ := DK2.get kI_inj (k := i) hz
    refine ⟨d, valV kvs (kI i), rfl, .inl ⟨kvs, kI i, hrd, hv, rfl⟩, _, rfl, ?_⟩
    cases hz' : valM zs i with
    | some x => obtain ⟨v', e, _⟩ := q1 x hz'; rw [e]; rw [hz'] at r; exact r H3 (g2.trans g3)
    | none => rw [q2 hz']; rw [hz'] at r; exact r H3 (g2.trans g3)⟩⟩
/-- d.update(e), two dicts by ints or texts -/
def rUpd : V → List V → Hp → VK → Prop := fun x vs H Q => ∃ d b kvs more, x = .ref d ∧ vs = [.ref b] ∧ d ≠ b ∧ H d = some (.dK kvs) ∧ H b = some (.dK more) ∧ kvs.length + more.length ≤ sizeLine ∧ Q .non (upd H d (.dK (mergeK kvs more)))
theorem mt_upd : MtR X "dict.update" rUpd := by
  intro pins s σ H x vs v us Q I rx rv h
  obtain ⟨d, b, kvs, more, rfl, rfl, ne, hd, hb, hz, q⟩ := h
  cases (show v = Value.ref d from rx)
  obtain ⟨u, rfl, ru⟩ := rv.one
  cases (show u = Value.ref b from ru)
  obtain ⟨z1, n1, vs1, r1, d1⟩ := dk_of I.hok hd
  obtain ⟨z2, n2, vs2, r2, d2⟩ := dk_of I.hok hb
  refine call_meetsIn PySem.F.slot_dict_update d1.typeIs PySem.F.entry_dict_update (PySem.F.args_dict_update_2 _ _) (meets_dict_update (mixKind X.prog X.w) d b ne n2) ⟨vs1, vs2, d1, d2, by rw [← r1.length, ← r2.length]; exact hz, fun h' dd' _ hs => ?_⟩
  have he : ∃ q, h'.get? d = some q := let ⟨q, _, _, hq, _⟩ := dd'; ⟨q, hq⟩
  have hl : (mergeK kvs more).length ≤ sizeLine := Nat.le_trans (length_mergeK more kvs) hz
  exact ⟨.non, _, d_write (t' := s.toks) I (by rw [hd]; exact True.intro) hs he (dk_new hl n1 (r2.merge r1) dd'), rfl, q⟩
def mergeM {α : Type} (zs more : List (Int × α)) : List (Int × α) := more.foldl (fun acc z => putM acc z.1 z.2) zs
theorem DK2.merge {α : Type} {R : α → Pr T} : ∀ {more : List (Key × V)} {ms : List (Int × α)} {kvs : List (Key × V)} {zs : List (Int × α)}, DK2 kI R more ms H → DK2 kI R kvs zs H → DK2 kI R (mergeK kvs more) (mergeM zs ms) H
  | [], [], _, _, _, h => h
  | kv :: more, z :: ms, kvs, zs, hm, h => by
    show DK2 kI R (mergeK (putK kvs kv.1 kv.2) more) (mergeM (putM zs z.1 z.2) ms) H
    rw [hm.1.1]
    exact DK2.merge hm.2 (DK2.put kI_inj hm.1.2 h)
  | [], _ :: _, _, _, hm, _ => hm.elim
  | _ :: _, [], _, _, hm, _ => hm.elim
theorem ss_update (n : Nat) {d : Addr} {kvs : List (Key × V)} {S : List (Key × V) → Hp → Prop} (hn : σ[n]? = some (some (.ref d))) (hd0 : H d = some (.dK kvs)) (hsz : kvs.length ≤ 1000) (he : NewK T X e σ H S) (q : ∀ more H1 b, Gr T H H1 → more.length ≤ 1000 → H b = none → H1 b = some (.dK more) → S more (del H1 b) → SS T X rest σ (upd H1 d (.dK (mergeK kvs more))) D) (hS : ∀ more H1, S more H1 → more.length ≤ 1000)
    (hN : X.N[n]? = some x := by rfl) (hv : Vis X.env.scope x := by first | exact Or.inl rfl | exact Or.inr (Or.inl rfl) | exact Or.inr (Or.inr rfl)) (hd : (x == ("__debug__" : Str)) = false := by decide) (hcd : (x == ("__classdict__" : Str)) = false := by decide)
    (hbase : attributeBase (.Name x p1) "update" X.env (eval (.Name x p1) X.env) = eval (.Name x p1) X.env := by rfl)
    (hfew : ((backTo p2 (starEach [e] X.env)).all (fun x => !x.1) && (backToKw p2 (keywordEach [] X.env)).all (fun x => x.1.isSome) && decide (([e] : List Expr).length + ([] : List Keyword).length + (if ([] : List Keyword).isEmpty then 0 else 1) < 30)) = true := by rfl)
    (hline : (apos.endLine == p2.line) = true := by rfl) (hs : starEach [e] X.env = (false, eval e X.env) :: starEach [] X.env := by rfl) (hplain : (backTo p2 (starEach [] X.env)).any (·.1) = false := by rfl)
    (hsw : swapsWith (.Call (.Attribute (.Name x p1) "update" apos) [e] [] p2) none pos.line X.env = pure false := by rfl) : SS T X (.Expr (.Call (.Attribute (.Name x p1) "update" apos) [e] [] p2) pos :: rest) σ H D :=
  ss_cons (S1.of (ps_expr (pe_bm PySem.F.plainAttrs_dict PySem.F.slot_dict_update PySem.F.type_dict_update mt_upd (pe_var (i := n) hN hv hd hcd) (pa_cons he pa_nil hs) hbase hfew hline hs hplain) hsw)
    ⟨.ref d, hn, .inr (.inr (.inl ⟨rfl, .inl ⟨kvs, hd0⟩⟩)), rfl, .refl _, fun b more H1 g hb h1 h2 => by
      have hl := hS more _ h2
      exact ⟨d, b, kvs, more, rfl, rfl, ne_of_none hd0 hb, g.dK hd0, h1, Nat.le_trans (show kvs.length + more.length ≤ 2000 by omega) (by decide), q more H1 b g hl hb h1 h2⟩⟩)
/-- len(d) of a dict by ints -/
theorem call_lenDr : CallR X (.builtin "len") (fun xs H Q => ∃ a kvs, xs = [V.ref a] ∧ Rd H a (.dK kvs) ∧ Q (.int kvs.length) H) := by
  intro pins s σ H xs us Q I r h
  obtain ⟨a, kvs, rfl, ha, q⟩ := h
  obtain ⟨u, rfl, ru⟩ := r.one
  cases (show u = Value.ref a from ru)
  exact d_len I ha fun t s' I' => ⟨.int kvs.length, H, I', ⟨t, rfl⟩, q⟩
theorem ee_lenK {α : Type} {R : α → Pr T} {zs : List (Int × α)} {y : Str} (hm : X.mg y = none) (ha : EE T X a σ H (dkP R zs)) (hv : bootBuiltins y = some (.builtin "len") := by decide +kernel) (hg : Gl X y := by rfl) (hn : y ≠ "__name__" := by decide) (hdb : (y == ("__debug__" : Str)) = false := by decide)
    (he : starEach [a] X.env = (false, eval a X.env) :: starEach [] X.env := by rfl) : EE T X (.Call (.Name y p1) [a] [] pos) σ H (intP (zs.length : Int)) :=
  ee_bltn call_lenDr hm hv (ea_cons ha ea_nil he) (fun vs H1 g hs Q z => by
    obtain ⟨v, rfl, d, kvs, rfl, h1, h2⟩ := sat1 hs
    exact ⟨d, kvs, rfl, h1, z _ H1 (.refl _) (by rw [h2.length]; rfl)⟩) hg hn hdb he
end
end Pan
set_option maxHeartbeats 1000000
/-! Dict comprehensions whose keys are tuples of ints. -/
namespace L2
open PySem PySem.Spec PyProof.Rows
/-- a comprehension's store by a tuple -/
theorem d_dictSetT {X : Cx} {pins : List (Addr × Obj)} {σ : St} {H : Hp} {s : Shared} {E : Value → Shared → Prop} {D b : Addr} {kvs : List (List Key × V)} {k : List Key} {v : V} {r : Value} {Q : Unit → Shared → Prop} (hu : X.A.units + 1 < cLine) (I : Inv X pins σ H s) (hD : H D = some (.dT kvs)) (hz : kvs.length < sizeLine)
    (eb : H b = some (.tup (k.map kV))) (rv : RelV v r) (h : ∀ s', Inv X pins σ (upd H D (.dT (putK kvs k v))) s' → Q () s') : wpAny (model X.prog X.w) X.A (dictSet D (.ref b) r) Q E s := by
  obtain ⟨z, hd, xs, rel, dd⟩ := dt_of I.hok hD
  have hzx : xs.length ≤ sizeLine := by rw [← Paired.length rel]; exact z
  have hl : (putK kvs k v).length ≤ sizeLine := by have := length_putK kvs k v; omega
  refine wpAny_dictSet_heap (hsz := hzx) (show (tupleKind (mixKind X.prog X.w)).room X.A from Nat.lt_of_succ_lt hu) (key_of I.hok eb) dd fun h' dd' hs => h _ ?_
  obtain ⟨q, es, ep, hq, z2, z3, z4, _, z5⟩ := dd'
  refine d_write I (by rw [hD]; exact True.intro) hs ⟨q, hq⟩ ⟨hl, hd, _, (rel.put k eb rv).keeps fun c ys ec => ?_, q, es, ep, hq, z2, z3, z4, z5⟩
  rw [upd_ne (ne_of ec hD (fun z => nomatch z))]
  exact ec
section
variable {X : Cx}
def tDct (wi : TI) (g : TG) (tt : TT) (tk tv : TE) (vs : List Nat) : TE := fun σ H Q => wi σ H fun J H1 => ∀ D, H1 D = none → ∃ W : Nat → Nat → Hp → Prop, (∃ m, W 0 m (upd H1 D (.dT []))) ∧ ∀ i m H, W i m H →
  (J.stop i H ∧ Q (.ref D) H) ∨ (J.go i H ∧ ∃ Nx : Hp → Prop, (∀ H', Nx H' → ∃ m', m' < m ∧ W (i + 1) m' H') ∧ ∀ x H', J.yld i H x H' → g x (wipe σ vs) H' fun σ2 H2 => wipe σ2 vs = wipe σ vs ∧ tt σ2 H2 fun b H3 =>
    if b = true then tk σ2 H3 fun y H4 => tv σ2 H4 fun z H5 => ∃ kvs k kb, y = .ref kb ∧ H5 kb = some (.tup (k.map kV)) ∧ H5 D = some (.dT kvs) ∧ kvs.length < sizeLine ∧ Nx (upd H5 D (.dT (putK kvs k z))) else Nx H3)
theorem dct_core {pins : List (Addr × Obj)} {s : Shared} {σ : St} {H : Hp} {Q : VK} {kx vx tg iter : Expr} {ifs : List Expr} {scope : Scope} {own : List (Str × Nat)} {pos pos' : Pos} {wi : TI} {g : TG} {tt : TT} {tk tv : TE} {use : Option (Value → Sem Unit)} {Qf : Value → Shared → Prop}
    (hu : X.A.units + 1 < cLine) (hc : X.calm = true) (hN : X.N.Nodup) (I : Inv X pins σ H s) (hi : PI X tg iter wi) (ok : BlkOk X.N X.env.scope scope own)
    (hg : ∀ (s : Shared) (H : Hp) (C : Addr) (cl : List (Str × Addr)) (fp : List Addr), PG (X.blk s H scope (compEnvC scope cl C X.env) fp) tg g) (ht : ∀ (s : Shared) (H : Hp) (C : Addr) (cl : List (Str × Addr)) (fp : List Addr), PTs (X.blk s H scope (compEnvC scope cl C X.env) fp) ifs tt)
    (hk : ∀ (s : Shared) (H : Hp) (C : Addr) (cl : List (Str × Addr)) (fp : List Addr), PE (X.blk s H scope (compEnvC scope cl C X.env) fp) kx tk)
    (he : ∀ (s : Shared) (H : Hp) (C : Addr) (cl : List (Str × Addr)) (fp : List Addr), PE (X.blk s H scope (compEnvC scope cl C X.env) fp) vx tv) (hs : ∀ x, foldedSetIterable iter X.env x = pure x)
    (h : tDct wi g tt tk tv (own.map (·.2)) σ H Q)
    (hRR : ∀ D C s' m H', Inv X pins σ H' s' → Q (.ref D) H' → s'.heap.Ns C m → FpOk X pins H' C → compPost (model X.prog X.w) X.A X.xe use Qf (.ref D) C (.ok .next) s') :
    wpAny (model X.prog X.w) X.A (comprehension (.DictComp kx vx [⟨tg, iter, ifs, 0⟩] scope pos) scope X.env pos' newDict false (eval iter X.env) use) Qf X.xe s := by
  have hFr : ∀ y ∈ scope.names, y.2 = .free → ∃ c, X.env.cells.lookup y.1 = some c := fun y hy e => by
    rcases ok.free y hy e with k | k
    · exact I.ok.has _ (.inl k)
    · exact I.ok.has _ (.inr k)
  refine wpAny_comprehension_free (use := use) rfl hs (closure_ok hFr) ok.kind (fun y hy e => by rw [ok.uniq y hy, e])
    (thn (hi.run pins s σ H _ I h) fun xv t1 hx => thn hx fun itv t2 h2 => ?_)
  obtain ⟨it, fp, tn, J, G2, e, J2, T, sf2, fr2, q⟩ := h2
  subst e
  refine wpAny_newObj_type (newEnv_comp ?_)
  generalize hD : t2.heap.objs.size = D
  have hDf : G2 D = none := J2.hok.fresh (Nat.le_of_eq hD)
  obtain ⟨W, ⟨m0, w00⟩, turn⟩ := q D hDf
  generalize ht3 : ({ t2 with heap := t2.heap.push { cls := .type "dict", data := .dict #[] } } : Shared) = t3
  have J3 : Inv X pins σ (upd G2 D (.dT [])) t3 := by
    rw [← ht3]
    refine J2.laid (t' := t2.toks) (fun b o e => Heap.get?_push_of_some _ e) (Nat.le_of_eq hD) ?_
    rw [← hD]
    exact dt_empty t2.heap J2.big
  have h3 : t3.heap = t2.heap.push { cls := .type "dict", data := .dict #[] } := by rw [← ht3]
  have szs : ∀ b ∈ fp, b < t2.heap.objs.size := fun b hb => by
    obtain ⟨o, e, _⟩ := T.obj _ _ sf2 b hb
    exact Heap.lt_size e
  have fr3 : ∀ b ∈ fp, FpOk X pins (upd G2 D (.dT [])) b ∧ b < t3.heap.objs.size := fun b hb => by
    have hlt := szs b hb
    refine ⟨⟨?_, (fr2 b hb).2⟩, by rw [h3, Heap.size_push]; exact Nat.lt_succ_of_lt hlt⟩
    rw [upd_ne (by rw [← hD]; exact Nat.ne_of_lt hlt)]
    exact (fr2 b hb).1
  have sf3 : tn 0 t3.heap := T.keep _ _ _ sf2 fun b _ o e => by rw [h3]; exact Heap.get?_push_of_some _ e
  have J4 := block_start J3 ok hN fr3
  have qg := hg t3 (upd G2 D (.dT [])) t3.heap.objs.size (cellsFrom (t3.heap.objs.size + 1) scope.names (cloFrom X.env.cells scope.names [])) fp
  have qt := ht t3 (upd G2 D (.dT [])) t3.heap.objs.size (cellsFrom (t3.heap.objs.size + 1) scope.names (cloFrom X.env.cells scope.names [])) fp
  have qk := hk t3 (upd G2 D (.dT [])) t3.heap.objs.size (cellsFrom (t3.heap.objs.size + 1) scope.names (cloFrom X.env.cells scope.names [])) fp
  have qe := he t3 (upd G2 D (.dT [])) t3.heap.objs.size (cellsFrom (t3.heap.objs.size + 1) scope.names (cloFrom X.env.cells scope.names [])) fp
  show codeAny _ _ (.compStart (.DictComp kx vx [⟨tg, iter, ifs, 0⟩] scope pos) 0 (.ref it) (.ref D) (compEnvC scope (cellsFrom (t3.heap.objs.size + 1) scope.names (cloFrom X.env.cells scope.names [])) t3.heap.objs.size X.env)) (compPost (model X.prog X.w) X.A X.xe use Qf (.ref D) t3.heap.objs.size) { t3 with heap := pushCells (t3.heap.push { cls := .type "dict", data := .dict #[] }) scope.names }
  have nof : ∀ b ∈ fp, (upd G2 D (.dT [])) b = none := fun b hb => (fr3 b hb).1.1
  generalize hbe : compEnvC scope (cellsFrom (t3.heap.objs.size + 1) scope.names (cloFrom X.env.cells scope.names [])) t3.heap.objs.size X.env = be at J4 qg qt qk qe ⊢
  have cL : be.locals = t3.heap.objs.size := by subst hbe; rfl
  generalize hH3 : upd G2 D (.dT []) = G3 at J3 J4 qg qt qk qe w00 nof fr3
  generalize ht4 : ({ t3 with heap := pushCells (t3.heap.push { cls := .type "dict", data := .dict #[] }) scope.names } : Shared) = t4 at J4 ⊢
  have sf4 : tn 0 t4.heap := T.keep _ _ _ sf3 fun b _ o e => by rw [← ht4]; exact pushCells_keeps _ _ _ _ (Heap.get?_push_of_some _ e)
  have stands : ∀ {σ' : St} {H' : Hp} {s' : Shared}, Inv (X.blk t3 G3 scope be fp) [] σ' H' s' → (∀ b ∈ fp, H' b = none) → ∀ b ∈ fp, FpOk (X.blk t3 G3 scope be fp) [] H' b := fun {σ' H' s'} I' hn b hb =>
    ⟨hn b hb, (I'.ok.exf b hb).1, I'.ok.exfs b hb, .inl hb, fun x c e => (I'.ok.exf b hb).2 x c e, fun p hp => absurd (show p ∈ ([] : List (Addr × Obj)) ++ [] from hp) (by simp)⟩
  have loop : codeAny (model X.prog X.w) X.A (.compLoop (.DictComp kx vx [⟨tg, iter, ifs, 0⟩] scope pos) 0 (.ref it) (.ref D) be) (compPost (model X.prog X.w) X.A X.xe use Qf (.ref D) t3.heap.objs.size) t4 := by
    refine compLoop_anyD (fun n s' => ∃ i H', Inv (X.blk t3 G3 scope be fp) [] (wipe σ (own.map (·.2))) H' s' ∧ tn i s'.heap ∧ (∀ b ∈ fp, H' b = none) ∧ W i n H') ?_ m0 ⟨0, G3, J4, sf4, nof, w00⟩
    rintro n t5 ⟨i, G5, J5, sf5, nn5, w5⟩
    rcases turn i n G5 w5 with ⟨stop, qq⟩ | ⟨go, Nx, hNx, step⟩
    · have tdn := T.done (X.blk t3 G3 scope be fp) rfl rfl rfl hc i [] t5 _ G5 (fun _ _ => False) J5 (stands J5 nn5) sf5 stop
      refine thnF tdn fun r t6 ⟨hr, J6⟩ => ?_
      subst hr
      have J7 : Inv X pins σ G5 t6 := J3.call' (ch := fp) J6.os J6.base J6.hok J6.bare fun b hb => ⟨(fr3 b hb).1.2.2.2.1, (fr3 b hb).1.2.1, (fr3 b hb).1.2.2.2.2.1, (fr3 b hb).1.2.2.2.2.2⟩
      have nC : G5 t3.heap.objs.size = none := by
        have z : G5 be.locals = none := J6.free
        rw [cL] at z
        exact z
      obtain ⟨m, hn, _⟩ := J6.loc
      have hn : t6.heap.Ns be.locals m := hn
      rw [cL] at hn
      exact hRR D t3.heap.objs.size t6 m G5 J7 qq hn (J3.fpOk (Nat.le_refl _) nC)
    · have tit := T.item (X.blk t3 G3 scope be fp) rfl rfl rfl hc i [] t5 _ G5 (fun _ _ => False) J5 (stands J5 nn5) sf5 go
      refine thnF tit fun r t6 ⟨u, hr, h6⟩ => ?_
      subst hr
      refine thnF h6 fun _ t7 ⟨x, G7, J7, r7, y7, sf7, nn7⟩ => ?_
      have J7' := J7.pinned (stands J7 nn7) (T.obj _ _ sf7)
      refine thnF (qg.run _ t7 _ G7 x u _ J7' r7 (step x G7 y7)) fun _ t8 ⟨σ8, G8, J8, hw8, u8⟩ => ?_
      refine thnF (qt.run _ t8 σ8 G8 _ J8 u8) fun b t9 ⟨G9, J9, u9⟩ => ?_
      have turned : ∀ {s' : Shared} {H' : Hp}, Inv (X.blk t3 G3 scope be fp) ([] ++ pinsAt fp t7.heap) σ8 H' s' → Nx H' → ∃ m, m < n ∧ ∃ i H', Inv (X.blk t3 G3 scope be fp) [] (wipe σ (own.map (·.2))) H' s' ∧ tn i s'.heap ∧ (∀ b ∈ fp, H' b = none) ∧ W i m H' := fun {s' H'} I' nx => by
        obtain ⟨m', hm, w'⟩ := hNx H' nx
        have pin' : ∀ b ∈ fp, ∀ o, t7.heap.get? b = some o → s'.heap.get? b = some o ∧ H' b = none := fun b hb o e =>
          let z := I'.pin (b, o) (List.mem_append_right _ (List.mem_append_right _ (mem_pinsAt hb e)))
          ⟨z.1, z.2.1⟩
        have hl : (wipe σ (own.map (·.2))).length = σ8.length := by rw [← hw8, wipe_length]
        refine ⟨m', hm, i + 1, H', (I'.unpinned (pins := [])).weak hl (fun j v e => ?_), T.keep _ _ _ sf7 fun b hb o e => (pin' b hb o e).1, fun b hb => ?_, w'⟩
        · rw [← hw8] at e
          exact (wipe_some e).1
        · obtain ⟨o, e, _⟩ := T.obj _ _ sf7 b hb
          exact (pin' b hb o e).2
      cases b with
      | false =>
        simp only [Bool.false_eq_true, if_false] at u9 ⊢
        exact turned J9 u9
      | true =>
        simp only [if_true] at u9 ⊢
        refine thnF (qk.run _ t9 σ8 G9 _ J9 u9) fun z t10 ⟨yk, G10, J10, r10, q10⟩ => ?_
        refine thnF (qe.run _ t10 σ8 G10 _ J10 q10) fun z2 t11 ⟨yv, G11, J11, r11, kvs, k, kb, ek, hkb, hD11, hz11, nx⟩ => ?_
        subst ek
        obtain rfl : z = Value.ref kb := r10
        exact d_dictSetT (X := X.blk t3 G3 scope be fp) hu J11 hD11 hz11 hkb r11 fun t12 J12 => turned J12 nx
  exact codeAny_compStart_dict loop (T.self X.A 0 _ _ _ sf4 loop)
theorem pe_dct {kx vx tg iter : Expr} {ifs : List Expr} {scope : Scope} {own : List (Str × Nat)} {pos : Pos} {wi : TI} {g : TG} {tt : TT} {tk tv : TE} (hu : X.A.units + 1 < cLine) (hc : X.calm = true) (hN : X.N.Nodup) (hi : PI X tg iter wi) (ok : BlkOk X.N X.env.scope scope own)
    (hg : ∀ (s : Shared) (H : Hp) (C : Addr) (cl : List (Str × Addr)) (fp : List Addr), PG (X.blk s H scope (compEnvC scope cl C X.env) fp) tg g) (ht : ∀ (s : Shared) (H : Hp) (C : Addr) (cl : List (Str × Addr)) (fp : List Addr), PTs (X.blk s H scope (compEnvC scope cl C X.env) fp) ifs tt)
    (hk : ∀ (s : Shared) (H : Hp) (C : Addr) (cl : List (Str × Addr)) (fp : List Addr), PE (X.blk s H scope (compEnvC scope cl C X.env) fp) kx tk)
    (he : ∀ (s : Shared) (H : Hp) (C : Addr) (cl : List (Str × Addr)) (fp : List Addr), PE (X.blk s H scope (compEnvC scope cl C X.env) fp) vx tv) (hs : ∀ x, foldedSetIterable iter X.env x = pure x := by intro _; rfl) :
    PE X (.DictComp kx vx [⟨tg, iter, ifs, 0⟩] scope pos) (tDct wi g tt tk tv (own.map (·.2))) := by
  refine ⟨fun pins s σ H Q I h => ?_⟩
  rw [arm_eval_DictComp]
  refine dct_core hu hc hN I hi ok hg ht hk he hs h fun D C s' m H' J' q hn f => ⟨m, hn, fun g2 sb => ?_⟩
  obtain ⟨a0, a1, a2, a3, a4, a5⟩ := f
  exact ⟨.ref D, H', J'.turned (t' := s'.toks) (fun b o hb e => (sb.2 b hb).trans e) a0 a1 a3 a4 a5, rfl, q⟩
end
end L2
namespace Pan
open PySem PySem.Spec PyProof.Rows L2
section
variable {T : List (Addr × Str)} {X : Cx} {e : Expr} {σ : L2.St} {H : Hp} {pos : Pos} {α : Type} {R : α → Pr T} {ts : List (List Int × α)}
/-- a new dict by tuples, not tracked before; S: of its pairs, and the heap without it -/
def NewT (T : List (Addr × Str)) (X : Cx) (e : Expr) (σ : L2.St) (H : Hp) (S : List (List Key × V) → Hp → Prop) : Prop :=
  PE X e fun σ' H1 Q => σ' = σ ∧ Gr T H H1 ∧ ∀ p kvs H2, Gr T H1 H2 → H1 p = none → H2 p = some (.dT kvs) → S kvs (del H2 p) → Q (.ref p) H2
theorem NewT.of {te : TE} {S : List (List Key × V) → Hp → Prop} (h : PE X e te) (q : ∀ H1, Gr T H H1 → ∀ Q : VK, (∀ p kvs H2, Gr T H1 H2 → H1 p = none → H2 p = some (.dT kvs) → S kvs (del H2 p) → Q (.ref p) H2) → te σ H1 Q) : NewT T X e σ H S :=
  ⟨fun pins s σ' H1 Q I ⟨e1, g, r⟩ => by rw [e1] at I ⊢; exact h.run pins s σ H1 Q I (q H1 g Q r)⟩
theorem NewT.k {S : List (List Key × V) → Hp → Prop} (h : NewT T X e σ H S) (q : ∀ kvs H1, Gr T H H1 → S kvs H1 → DK2 kT R kvs ts H1) : EE T X e σ H (dtP R ts) :=
  ⟨fun pins s σ' H1 Q I ⟨e1, g, r⟩ => by
    rw [e1] at I ⊢
    exact h.run pins s σ H1 Q I ⟨rfl, g, fun p kvs H2 g2 hn hp hS => r _ H2 g2 ⟨p, kvs, rfl, .inl hp, (q kvs _ ((g.trans g2).toDel (g.old p hn) hp trivial) hS).st .del⟩⟩⟩
theorem NewT.x {S : List (List Key × V) → Hp → Prop} (h : NewT T X e σ H S) : EX X e σ H fun v H2 => Gr T H H2 ∧ ∃ p kvs, v = .ref p ∧ H p = none ∧ H2 p = some (.dT kvs) ∧ S kvs (del H2 p) := EX.of h ⟨rfl, .refl _, fun p kvs H2 g hn hp hS => ⟨g, p, kvs, rfl, hn, hp, hS⟩⟩
theorem nk_emptyT : NewT T X (.Dict [] [] pos) σ H (fun kvs _ => kvs = []) := NewT.of pe_dnewT fun H1 g Q r p hp => r p [] _ (.new hp) hp upd_same rfl
end
section
variable {T : List (Addr × Str)} {X : Cx} {tg iter kx vx c : Expr} {ifs : List Expr} {σ : L2.St} {H : Hp} {pos p1 p2 p3 : Pos} {α : Type} {xs : List α} {R R1 R2 : α → Pr T} {scope sc : Scope} {own : List (Str × Nat)} {N ps : List Str} {x y : Str} {z m : Nat}
def rdKT (T : List (Addr × Str)) (X : Cx) (scope : Scope) (kx : Expr) : TE := fun σ' H' Q => ∃ k : List Int, (∀ s H C cl fp, EE T (bl X scope s H C cl fp) kx σ' H' (itX T X.K k)) ∧ ∀ v H2, Gr T H' H2 → (itX T X.K k).p v H2 → Q v H2
theorem pe_rdKT {s : Shared} {C : Addr} {cl : List (Str × Addr)} {fp : List Addr} : PE (bl X scope s H C cl fp) kx (rdKT T X scope kx) := ⟨fun pins s' σ' H' Q I ⟨k, h, q⟩ => (h _ _ _ _ _).run pins s' σ' H' Q I ⟨rfl, .refl _, fun v H2 g hv => q v H2 g hv⟩⟩
/-- the pairs of a dict comprehension -/
def dctM (Kk : α → List Int) (xs : List α) : List (List Int × α) := xs.foldl (fun zs a => putM zs (Kk a) a) []
theorem nk_dct_core {g : TG} {Kk : α → List Int} {Ro : α → Pr T} {keep : α → Bool} {Bd : α → L2.St → L2.St → Hp → Prop} (hs : Src T X tg iter σ H bNow xs R) (hr : Room m X.A) (hl : xs.length ≤ 1000) (hc : X.calm = true) (hN : X.N.Nodup) (ok : BlkOk X.N X.env.scope scope own)
    (hg : ∀ s H C cl fp, PG (bl X scope s H C cl fp) tg g) (hB : ∀ x v σ' H' Q, (R x).p v H' → (∀ σ2, Bd x σ' σ2 H' → Q σ2 H') → g v σ' H' Q) (hw : ∀ x σ2 H', Bd x (wipe σ (own.map (·.2))) σ2 H' → wipe σ2 (own.map (·.2)) = wipe σ (own.map (·.2)))
    (hi : ∀ x σ2 H', x ∈ xs → Gr T H H' → Bd x (wipe σ (own.map (·.2))) σ2 H' → ∀ s H C cl fp, ETs T (bl X scope s H C cl fp) ifs σ2 H' (keep x))
    (hk : ∀ x σ2 H' H2, x ∈ xs → Gr T H H' → Bd x (wipe σ (own.map (·.2))) σ2 H' → Gr T H' H2 → keep x = true → ∀ s H C cl fp, EE T (bl X scope s H C cl fp) kx σ2 H2 (itX T X.K (Kk x)))
    (he : ∀ x σ2 H' H2 D kvs, x ∈ xs → Gr T H H' → Bd x (wipe σ (own.map (·.2))) σ2 H' → Gr T H' H2 → keep x = true → H2 D = some (.dT kvs) → ∀ s H C cl fp, EN T (bl X scope s H C cl fp) vx σ2 H2 D (Ro x))
    (hf : ∀ x, foldedSetIterable iter X.env x = pure x := by intro _; rfl) : NewT T X (.DictComp kx vx [⟨tg, iter, ifs, 0⟩] scope pos) σ H (fun kvs H1 => DK2 kT Ro kvs (dctM Kk (xs.filter keep)) H1) := by
  refine NewT.of (pe_dct (Room.u1 hr) hc hN hs ok hg (fun _ _ _ _ _ => pts_rd (T := T)) (fun _ _ _ _ _ => pe_rdKT (T := T)) (fun _ _ _ _ _ => pe_rd (T := T)) hf) ?_
  intro H1 g1 Q r
  refine ⟨rfl, g1, fun J H2 Hb g2 hb hw' D hD => ?_⟩
  obtain rfl : Hb = H2 := hb
  have G0 : ∀ {i H'}, (i ≤ xs.length ∧ ∃ Hc kvs, Gr T Hb Hc ∧ Hc D = none ∧ Gr T Hc H' ∧ H' D = some (.dT kvs) ∧ DK2 kT Ro kvs (dctM Kk ((xs.take i).filter keep)) Hc) → Gr T Hb H' := fun ⟨_, Hc, kvs, c1, c2, c3, c4, c5⟩ => c1.trans c3
  refine ⟨fun i m H' => m = xs.length - i ∧ i ≤ xs.length ∧ ∃ Hc kvs, Gr T Hb Hc ∧ Hc D = none ∧ Gr T Hc H' ∧ H' D = some (.dT kvs) ∧ DK2 kT Ro kvs (dctM Kk ((xs.take i).filter keep)) Hc, ⟨xs.length, by simp, Nat.zero_le _, Hb, [], .refl _, hD, .new hD, upd_same, by simp [dctM, DK2]⟩, ?_⟩
  rintro i m H' ⟨rfl, p⟩
  by_cases hlt : i < xs.length
  · refine .inr ⟨hw'.goes i H' hlt (G0 p), fun H' => i + 1 ≤ xs.length ∧ ∃ Hc kvs, Gr T Hb Hc ∧ Hc D = none ∧ Gr T Hc H' ∧ H' D = some (.dT kvs) ∧ DK2 kT Ro kvs (dctM Kk ((xs.take (i + 1)).filter keep)) Hc, fun H' p' => ⟨xs.length - (i + 1), by omega, rfl, p'.1, p'.2⟩, fun v H3 y => ?_⟩
    obtain ⟨g3, x, hx, hv⟩ := hw'.yields i H' v H3 hlt (G0 p) y
    obtain ⟨_, Hc, kvs, c1, c2, c3, c4, c5⟩ := p
    have hm : x ∈ xs := List.mem_of_getElem? hx
    have gH : Gr T H H3 := ((g1.trans g2).trans c1).trans (c3.trans g3)
    have d3 := g3.dT c4
    have et : xs.take (i + 1) = xs.take i ++ [x] := by rw [List.take_add_one, hx]; rfl
    refine hB x v _ H3 _ hv fun σ2 hbd => ⟨hw x σ2 H3 hbd, keep x, hi x σ2 H3 hm gH hbd, fun H4 g4 => ?_⟩
    have d4 := g4.dT d3
    cases hk' : keep x with
    | true =>
      refine iteT ⟨Kk x, hk x σ2 H3 H4 hm gH hbd g4 hk', fun kv H5 g5 hkv => ?_⟩
      have d5 := g5.dT d4
      refine ⟨D, Ro x, he x σ2 H3 H5 D kvs hm gH hbd (g4.trans g5) hk' d5, fun y H6 g6 hy => ?_⟩
      have d6 := g6.dT d5
      have gc : Gr T Hc (del H6 D) := ((((c3.trans g3).trans g4).trans g5).trans g6).toDel c2 d6 trivial
      obtain ⟨_, kb, rfl, hkb⟩ := (itX T X.K (Kk x)).st _ _ _ g6 hkv
      refine ⟨kvs, kT (Kk x), kb, rfl, by rw [kT_tup]; exact hkb, d6, ?_, hlt, del H6 D, _, c1.trans gc, del_same, ?_, upd_same, ?_⟩
      · have h1 : kvs.length = _ := c5.length
        have h2 : ∀ (ys : List α) (zs : List (List Int × α)), (ys.foldl (fun zs a => putM zs (Kk a) a) zs).length ≤ zs.length + ys.length := fun ys => by
          induction ys with
          | nil => intro zs; simp
          | cons y ys ih =>
            intro zs
            have h3 := ih (putM zs (Kk y) y)
            have h4 : (putM zs (Kk y) y).length ≤ zs.length + 1 := by unfold putM; split <;> simp
            rw [List.foldl_cons, List.length_cons]
            omega
        have h3 := h2 ((xs.take i).filter keep) []
        have h4 : ((xs.take i).filter keep).length ≤ (xs.take i).length := List.length_filter_le _ _
        rw [List.length_take] at h4
        have h5 : (1000 : Nat) < sizeLine := by decide
        have h6 : (dctM Kk ((xs.take i).filter keep)).length ≤ 0 + ((xs.take i).filter keep).length := h3
        omega
      · have e : upd H6 D (.dT (putK kvs (kT (Kk x)) y)) = upd (del H6 D) D (.dT (putK kvs (kT (Kk x)) y)) := by
          funext b
          by_cases k : b = D
          · rw [k, upd_same, upd_same]
          · rw [upd_ne k, upd_ne k, del_ne k]
        rw [e]
        exact .new del_same
      · rw [et, List.filter_append]
        have e : [x].filter keep = [x] := by simp [hk']
        rw [e]
        unfold dctM
        rw [List.foldl_append]
        exact DK2.put kT_inj hy (c5.st gc)
    | false =>
      refine iteF ⟨hlt, Hc, kvs, c1, c2, (c3.trans g3).trans g4, d4, ?_⟩
      rw [et, List.filter_append]
      have e : [x].filter keep = [] := by simp [hk']
      rw [e, List.append_nil]
      exact c5
  · have e : i = xs.length := by have := p.1; omega
    subst e
    obtain ⟨_, Hc, kvs, c1, c2, c3, c4, c5⟩ := p
    rw [List.take_length] at c5
    exact .inl ⟨hw'.stops H' (c1.trans c3), r D kvs H' ((g2.trans c1).trans c3) (g2.old D hD) c4 (c5.st (c3.toDel c2 c4 trivial))⟩
/-- {kx: vx for x, y in iter ifs} -/
theorem nk_dctP (j k : Nat) (S : FnScope N ps sc) {Kk : α → List Int} {Ro : α → Pr T} [∀ a, Solid (Ro a)] {keep : α → Bool} (hs : Src T X (.Tuple [.Name x p1, .Name y p2] z p3) iter σ H bNow xs (fun a => pairP X.K (R1 a) (R2 a))) (hr : Room m X.A) (hl : xs.length ≤ 1000)
    (ht : ∀ a v w H', a ∈ xs → Gr T H H' → (R1 a).p v H' → (R2 a).p w H' → ∀ s H C cl fp, ETs T (bl X scope s H C cl fp) ifs (((wipe σ [j, k]).set j (some v)).set k (some w)) H' (keep a))
    (hk : ∀ a v w H', a ∈ xs → keep a = true → Gr T H H' → (R1 a).p v H' → (R2 a).p w H' → ∀ s H C cl fp, EE T (bl X scope s H C cl fp) kx (((wipe σ [j, k]).set j (some v)).set k (some w)) H' (itX T X.K (Kk a)))
    (he : ∀ a v w H', a ∈ xs → keep a = true → Gr T H H' → (R1 a).p v H' → (R2 a).p w H' → ∀ s H C cl fp, EE T (bl X scope s H C cl fp) vx (((wipe σ [j, k]).set j (some v)).set k (some w)) H' (Ro a))
    (hN : X.N = N := by rfl) (hsc : X.env.scope = sc := by rfl) (hb : blkC N sc scope [(x, j), (y, k)] = true := by decide +kernel) (hi : X.N[j]? = some x := by rfl) (hx : (relabel scope X.env).names.lookup x = some .local := by rfl) (hj : X.N[k]? = some y := by rfl) (hy : (relabel scope X.env).names.lookup y = some .local := by rfl) (hc : X.calm = true := by rfl)
    (hw : ∀ v w, wipe (((wipe σ [j, k]).set j (some v)).set k (some w)) [j, k] = wipe σ [j, k] := by intro _ _; rfl) (hf : ∀ x, foldedSetIterable iter X.env x = pure x := by intro _; rfl) : NewT T X (.DictComp kx vx [⟨.Tuple [.Name x p1, .Name y p2] z p3, iter, ifs, 0⟩] scope pos) σ H (fun kvs H1 => DK2 kT Ro kvs (dctM Kk (xs.filter keep)) H1) :=
  have nd : X.N.Nodup := hN ▸ S.nd
  nk_dct_core (own := [(x, j), (y, k)]) (Bd := BdP R1 R2 j k) hs hr hl hc nd (blkX S [(x, j), (y, k)] hN hsc hb) (pgP j k nd hi hx hj hy hc) (fun a v σ' H' Q hv q => g_pair hv fun b c hb hc => q _ ⟨b, c, rfl, hb, hc⟩) (fun a σ2 H' ⟨v, w, e, _⟩ => by rw [e]; exact hw v w) (fun a σ2 H' ha g ⟨v, w, e, hv, hw⟩ => by rw [e]; exact ht a v w H' ha g hv hw)
    (fun a σ2 H' H2 ha g ⟨v, w, e, hv, hw⟩ g2 hka => by rw [e]; exact hk a v w H2 ha hka (g.trans g2) ((R1 a).st _ _ _ g2 hv) ((R2 a).st _ _ _ g2 hw))
    (fun a σ2 H' H2 D kvs ha g ⟨v, w, e, hv, hw⟩ g2 hka hD s H C cl fp => by rw [e]; exact EE.en (he a v w H2 ha hka (g.trans g2) ((R1 a).st _ _ _ g2 hv) ((R2 a).st _ _ _ g2 hw) s H C cl fp) hD trivial) hf
/-- {kx: vx for x in iter} -/
theorem nk_dct (j : Nat) (S : FnScope N ps sc) {Kk : α → List Int} {Ro : α → Pr T} [∀ a, Solid (Ro a)] {keep : α → Bool} (hs : Src T X (.Name x p1) iter σ H bNow xs R) (hr : Room m X.A) (hl : xs.length ≤ 1000)
    (ht : ∀ a v H', a ∈ xs → Gr T H H' → (R a).p v H' → ∀ s H C cl fp, ETs T (bl X scope s H C cl fp) ifs ((wipe σ [j]).set j (some v)) H' (keep a))
    (hk : ∀ a v H', a ∈ xs → keep a = true → Gr T H H' → (R a).p v H' → ∀ s H C cl fp, EE T (bl X scope s H C cl fp) kx ((wipe σ [j]).set j (some v)) H' (itX T X.K (Kk a)))
    (he : ∀ a v H', a ∈ xs → keep a = true → Gr T H H' → (R a).p v H' → ∀ s H C cl fp, EE T (bl X scope s H C cl fp) vx ((wipe σ [j]).set j (some v)) H' (Ro a))
    (hN : X.N = N := by rfl) (hsc : X.env.scope = sc := by rfl) (hb : blkC N sc scope [(x, j)] = true := by decide +kernel) (hi : X.N[j]? = some x := by rfl) (hx : (relabel scope X.env).names.lookup x = some .local := by rfl) (hc : X.calm = true := by rfl)
    (hw : ∀ v, wipe ((wipe σ [j]).set j (some v)) [j] = wipe σ [j] := by intro _; rfl) (hf : ∀ x, foldedSetIterable iter X.env x = pure x := by intro _; rfl) : NewT T X (.DictComp kx vx [⟨.Name x p1, iter, ifs, 0⟩] scope pos) σ H (fun kvs H1 => DK2 kT Ro kvs (dctM Kk (xs.filter keep)) H1) :=
  have nd : X.N.Nodup := hN ▸ S.nd
  nk_dct_core (own := [(x, j)]) (Bd := BdN R j) hs hr hl hc nd (blkX S [(x, j)] hN hsc hb) (pgN j nd hi hx) (fun a v σ' H' Q hv q => q _ ⟨v, rfl, hv⟩) (fun a σ2 H' ⟨v, e, _⟩ => by rw [e]; exact hw v) (fun a σ2 H' ha g ⟨v, e, hv⟩ => by rw [e]; exact ht a v H' ha g hv)
    (fun a σ2 H' H2 ha g ⟨v, e, hv⟩ g2 hka => by rw [e]; exact hk a v H2 ha hka (g.trans g2) ((R a).st _ _ _ g2 hv))
    (fun a σ2 H' H2 D kvs ha g ⟨v, e, hv⟩ g2 hka hD s H C cl fp => by rw [e]; exact EE.en (he a v H2 ha hka (g.trans g2) ((R a).st _ _ _ g2 hv) s H C cl fp) hD trivial) hf
end
end Pan
set_option maxHeartbeats 1000000
namespace Pan
open PySem PySem.Spec PyProof.Rows L2
structure RowM where
  p : PoolM
  panel : List Int
  fixed : List (Int × Fr)
def dueM (fixed : List (Int × Fr)) (i : Int) : Fr := (valM fixed i).getD (0, 1)
def rowIM (a : RowM) (i : Nat) : Fr := if (i : Int) ∈ a.panel then minusM (dueM a.fixed i) (1, 1) else dueM a.fixed i
def rowForM (a : RowM) : List Fr := (1, 1) :: (List.range a.p.rows.length).map (rowIM a)
def okRowFor (a : RowM) : Prop := okPool a.p ∧ ∀ i ∈ List.range a.p.rows.length, Sm (dueM a.fixed (i : Nat))
section
variable {T : List (Addr × Str)} {P : Program} {w : World} {K : PySem.W.Frag} {mg : Str → Option Value} {base : Heap}
def spRowFor (T : List (Addr × Str)) (K : PySem.W.Frag) : Sp := fun vs H Q _ => ∃ (a : RowM) (s : V) (us : List V), vs = s :: us ∧ okRowFor a ∧ Sat [poolP T K a.p, itP K a.panel, dkP (frP K) a.fixed] us H ∧ ∀ q xs H', Gr T H H' → H q = none → H' q = some (.lst xs) → All2 (frP (T := T) K) xs (rowForM a) (del H' q) → Q (.ref q) H'
theorem scRowFor : FnScope ["self", "pool", "panel", "fixed", "found", "person", "due"] ["self", "pool", "panel", "fixed"] (defScope (inClass (top 36) 2)) := ⟨rfl, rfl, rfl, by decide +kernel, rfl, by decide +kernel, by decide +kernel⟩
theorem ok_row_for (W : Wd K mg) : FnR P w K mg base CX0 3 (He.ma K (He.ga K "Step") "row_for") (spRowFor T K) := by
  obtain ⟨fd, Fd⟩ := W.d_Step_row_for
  have b : Binds K fd ["self", "pool", "panel", "fixed"] [] := Fd.bindsN fun _ _ _ _ _ _ us hl => match us, hl with | [_, _, _, _], _ => rfl
  refine fn_any (T := T) Fd scRowFor b (fun vs H Q E ⟨a, s, us, e, _, hs, _⟩ => by rw [e, List.length_cons, hs.len]; rfl) fun cdv A0 outer s H vs Q E hr hsp => ?_
  obtain ⟨a, sv, us, rfl, ⟨hp, hsm⟩, hs, hQ⟩ := hsp
  obtain ⟨pv, nv, dv, rfl, h1, h2, h3⟩ := sat3 hs
  have Lm := ok_minus (T := T) (P := P) (w := w) (base := base) W
  have hn : a.p.rows.length ≤ 8 := hp.2.2.2.2.1
  refine ss_setL 4 (nl_lst (ea_cons (ee_glob W.mg_ONE relRef (ONEp W _)) ea_nil)) scRowFor.nd fun p xs H1 g1 p1 hl1 hS => ?_
  obtain ⟨v1, rfl, hv1⟩ := sat1 hS
  refine ss_forB (H0 := H) 5 (src_rangeO H W.f_range (ee_lenP W W.f_len hr hn (ee_var 1 rfl ((poolP T K a.p).st _ _ _ g1 h1))) (by omega)) PassesOwn.never scRowFor.nd
    (fun i σ' H' => Gr T H H' ∧ ∃ u5 u6 ys, σ' = [some sv, some pv, some nv, some dv, some (.ref p), u5, u6] ∧ H' p = some (.lst ys) ∧ All2 (frP (T := T) K) ys ((1, 1) :: ((List.range a.p.rows.length).take i).map (rowIM a)) (del H' p))
    (fun H2 g => ⟨g1.trans g, none, none, [v1], rfl, g.lst hl1, (frP K _).st _ _ _ ((Gr.del.trans g).toDel del_same (g.lst hl1) trivial) hv1, trivial⟩) (fun i σ' H' h => h.1) ?_ ?_
  · rintro i x v σ' H2 H3 hix ⟨g2, u5, u6, ys, rfl, hp2, k2⟩ g3 hv
    rw [Int.toNat_natCast] at hix
    have hx : x ∈ List.range a.p.rows.length := List.mem_of_getElem? hix
    have hi : i < a.p.rows.length := by
      have := (List.getElem?_eq_some_iff.mp hix).1
      rwa [List.length_range] at this
    rw [take_snoc hix, List.map_append]
    have G3 := g2.trans g3
    obtain rfl := hv
    refine ss_set 6 (P := frP K (dueM a.fixed (x : Int))) (ee_dget hr (ee_var 3 rfl ((dkP (frP K) a.fixed).st _ _ _ G3 h3)) (ee_var 5 rfl rfl) (ee_glob W.mg_NONE relRef (NONEp W _)) (fun z e v H4 hv => by unfold dueM; rw [e]; exact hv) fun e v H4 hv => by unfold dueM; rw [e]; exact hv) scRowFor.nd fun dv' H4 g4 hdv => ?_
    have G4 := G3.trans g4
    have hp4 := (g3.trans g4).lst hp2
    refine ss_append 4 rfl hp4 ?_ (P := frP K (rowIM a x)) (ee_if (t := decide ((x : Int) ∈ a.panel)) (et_inT (ee_v 5 rfl) (ee_var 2 rfl ((itP K a.panel).st _ _ _ G4 h2))) (fun ht => ?_) fun hf => ?_) fun v H5 g5 hv => ?_
    · rw [k2.length, List.length_cons, List.length_map, List.length_take]
      have := Nat.min_le_left i (List.range a.p.rows.length).length
      omega
    · have e : rowIM a x = minusM (dueM a.fixed x) (1, 1) := if_pos (of_decide_eq_true ht)
      rw [e]
      exact ee_callP Lm W.g_minus.mg W.g_minus.kp hr (dueM a.fixed x, (1, 1)) ⟨hsm x hx, sm11⟩ (ea_cons (ee_var 6 rfl hdv) (ea_cons (ee_glob W.mg_ONE relRef (ONEp W _)) ea_nil))
    · have e : rowIM a x = dueM a.fixed x := if_neg (of_decide_eq_false hf)
      rw [e]
      exact ee_var 6 rfl hdv
    · have hp5 := g5.lst hp4
      have gd : Gr T (del H2 p) (del (upd H5 p (.lst (ys ++ [v]))) p) := ((Gr.del.trans ((g3.trans g4).trans g5)).mut del_same (calm_lst hp5)).toDel del_same upd_same trivial
      have hvd : (frP (T := T) K (rowIM a x)).p v (del (upd H5 p (.lst (ys ++ [v]))) p) := (frP K _).st _ _ _ ((Gr.del.mut del_same (calm_lst hp5)).toDel del_same upd_same trivial) (Solid.s _ _ _ _ hp5 trivial hv)
      exact ss_nil (T := T) ⟨(G4.trans g5).mut p1 (calm_lst hp5), _, _, _, rfl, upd_same, All2.snoc (xs := (1, 1) :: _) (k2.st gd) hvd⟩
  · rintro σ' H2 ⟨g2, u5, u6, ys, rfl, hp2, k2⟩
    rw [Int.toNat_natCast, List.length_range, List.take_of_length_le (by simp)] at k2
    exact ss_ret (ee_v (T := T) 4 rfl) fun v H3 g3 hv => by
      obtain rfl := hv
      exact hQ p ys H3 (g2.trans g3) p1 (g3.lst hp2) (k2.st ((Gr.del.trans g3).toDel del_same (g3.lst hp2) trivial))
end
end Pan
set_option maxHeartbeats 1000000
/-! Slices of lists; what stands a store into an instance, a dict locked. -/
namespace Pan
open PySem PySem.Spec PyProof.Rows L2
/-- instances and what hangs on them -/
def isI : HO → Prop
  | .ins _ _ _ => True
  | .own _ => True
  | .xd _ => True
  | .ext _ => True
  | _ => False
/-- a dict by tuples, locked or not -/
def isD : HO → Prop
  | .dT _ => True
  | .frz _ (.dT _) => True
  | _ => False
class Sep (f : HO → Prop) : Prop where
  tup : ∀ xs, ¬ f (.tup xs)
  lst : ∀ xs, ¬ f (.lst xs)
  dK : ∀ xs, ¬ f (.dK xs)
  tup' : ∀ q xs, ¬ f (.frz q (.tup xs))
  lst' : ∀ q xs, ¬ f (.frz q (.lst xs))
  dK' : ∀ q xs, ¬ f (.frz q (.dK xs))
class SepU (f : HO → Prop) : Prop where
  tup : ∀ xs, ¬ f (.tup xs)
  tup' : ∀ q xs, ¬ f (.frz q (.tup xs))
instance {f : HO → Prop} [S : Sep f] : SepU f := ⟨S.tup, S.tup'⟩
/-- a list, a dict by ints -/
def isM : HO → Prop
  | .lst _ => True
  | .dK _ => True
  | _ => False
class SepT (f : HO → Prop) : Prop where
  dT : ∀ xs, ¬ f (.dT xs)
  dT' : ∀ q xs, ¬ f (.frz q (.dT xs))
class SepI (f : HO → Prop) : Prop where
  i : ∀ o, isI o → ¬ f o
instance : Sep isI := ⟨fun _ h => h, fun _ h => h, fun _ h => h, fun _ _ h => h, fun _ _ h => h, fun _ _ h => h⟩
instance : SepT isI := ⟨fun _ h => h, fun _ _ h => h⟩
instance : Sep isD := ⟨fun _ h => h, fun _ h => h, fun _ h => h, fun _ _ h => h, fun _ _ h => h, fun _ _ h => h⟩
instance : SepI isD := ⟨fun o h k => by cases o <;> first | exact h | exact k⟩
instance : SepU isM := ⟨fun _ h => h, fun _ _ h => h⟩
instance : SepT isM := ⟨fun _ h => h, fun _ _ h => h⟩
instance : SepI isM := ⟨fun o h k => by cases o <;> first | exact h | exact k⟩
section
variable {T : List (Addr × Str)} {H : Hp} {m : List Addr} {a : Addr} {f : HO → Prop} {K : PySem.W.Frag}
/-- what does not rest on things that are f -/
class Soft (f : HO → Prop) (P : Pr T) : Prop where
  s : ∀ v H m, (∀ b ∈ m, ∀ o, H b = some o → f o) → P.p v H → P.p v (cut H m)
theorem rd_soft {u : HO} (h1 : ¬ f u) (h2 : ∀ q, ¬ f (.frz q u)) (h : ∀ b ∈ m, ∀ o, H b = some o → f o) (r : Rd H a u) : Rd (cut H m) a u := by
  rcases r with r | ⟨q, r⟩
  · exact .inl ((cut_out fun k => h1 (h a k _ r)).trans r)
  · exact .inr ⟨q, (cut_out fun k => h2 q (h a k _ r)).trans r⟩
theorem All2.soft {α : Type} {R : α → Pr T} [hR : ∀ x, Soft f (R x)] (h : ∀ b ∈ m, ∀ o, H b = some o → f o) : ∀ {vs : List V} {xs : List α}, All2 R vs xs H → All2 R vs xs (cut H m)
  | [], [], _ => trivial
  | _ :: _, x :: _, a => ⟨(hR x).s _ _ _ h a.1, All2.soft h a.2⟩
  | [], _ :: _, a => a.elim
  | _ :: _, [], a => a.elim
theorem DK2.soft {κ κ' α : Type} {emb : κ' → κ} {R : α → Pr T} [hR : ∀ x, Soft f (R x)] (h : ∀ b ∈ m, ∀ o, H b = some o → f o) : ∀ {kvs : List (κ × V)} {zs : List (κ' × α)}, DK2 emb R kvs zs H → DK2 emb R kvs zs (cut H m)
  | [], [], _ => trivial
  | _ :: _, z :: _, a => ⟨⟨a.1.1, (hR z.2).s _ _ _ h a.1.2⟩, DK2.soft h a.2⟩
  | [], _ :: _, a => a.elim
  | _ :: _, [], a => a.elim
instance (v : V) : Soft (T := T) f (eqP v) := ⟨fun _ _ _ _ h => h⟩
instance (i : Int) : Soft (T := T) f (intP i) := ⟨fun _ _ _ _ h => h⟩
instance [S : SepU f] {α : Type} {R : α → Pr T} {xs : List α} [∀ x, Soft f (R x)] : Soft f (tupP K R xs) := ⟨fun _ _ _ h ⟨a, vs, e, h1, h2⟩ => ⟨a, vs, e, h1.imp (rd_soft (S.tup _) (fun q => S.tup' q _) h) id, h2.soft h⟩⟩
instance [S : SepU f] {P1 P2 : Pr T} [h1 : Soft f P1] [h2 : Soft f P2] : Soft f (pairP K P1 P2) := ⟨fun _ _ _ h ⟨a, x, y, e, h3, h4, h5⟩ => ⟨a, x, y, e, h3.imp (rd_soft (S.tup _) (fun q => S.tup' q _) h) id, h1.s _ _ _ h h4, h2.s _ _ _ h h5⟩⟩
instance [S : Sep f] {α : Type} {R : α → Pr T} {xs : List α} [∀ x, Soft f (R x)] : Soft f (lstP K R xs) := ⟨fun _ _ _ h ⟨a, vs, e, h1, h2⟩ => ⟨a, vs, e, h1.imp (rd_soft (S.lst _) (fun q => S.lst' q _) h) id, h2.soft h⟩⟩
instance [S : SepU f] {ns : List Int} : Soft f (itX T K ns) := ⟨fun _ _ _ h ⟨h0, a, e, h2⟩ => ⟨Soft.s _ _ _ h h0, a, e, (cut_out fun k => S.tup _ (h a k _ h2)).trans h2⟩⟩
instance [S : Sep f] {α : Type} {R : α → Pr T} {zs : List (Int × α)} [∀ x, Soft f (R x)] : Soft f (dkP R zs) := ⟨fun _ _ _ h ⟨a, kvs, e, h1, h2⟩ => ⟨a, kvs, e, rd_soft (S.dK _) (fun q => S.dK' q _) h h1, h2.soft h⟩⟩
instance [S : SepT f] {α : Type} {R : α → Pr T} {zs : List (List Int × α)} [∀ x, Soft f (R x)] : Soft f (dtP R zs) := ⟨fun _ _ _ h ⟨a, kvs, e, h1, h2⟩ => ⟨a, kvs, e, rd_soft (S.dT _) (fun q => S.dT' q _) h h1, h2.soft h⟩⟩
theorem ins_is {C dx : Addr} {vs : List (Option V)} (h : Ins H a C dx vs) : (∀ o, H a = some o → isI o) ∧ ∀ o, H dx = some o → isI o := by
  rcases h.2 with ⟨h1, _, h3⟩ | ⟨h1, h3⟩ <;> refine ⟨fun o e => ?_, fun o e => ?_⟩
  · rw [h1] at e; rw [← Option.some.inj e]; trivial
  · rw [h3] at e; rw [← Option.some.inj e]; trivial
  · rw [h1] at e; rw [← Option.some.inj e]; unfold SlX.SlO; trivial
  · rw [h3] at e; rw [← Option.some.inj e]; trivial
theorem slotIs.soft {i : Nat} {P : Pr T} [S : Soft f P] {vs : List (Option V)} (h : slotIs i P vs H) (k : ∀ b ∈ m, ∀ o, H b = some o → f o) : slotIs i P vs (cut H m) := ⟨_, h.choose_spec.1, S.s _ _ _ k h.choose_spec.2⟩
theorem Ins.soft [S : SepI f] {C dx : Addr} {vs : List (Option V)} (h : Ins H a C dx vs) (k : ∀ b ∈ m, ∀ o, H b = some o → f o) : Ins (cut H m) a C dx vs := by
  have z := ins_is h
  have n1 : a ∉ m := fun q => by
    rcases h.2 with ⟨h1, _⟩ | ⟨h1, _⟩
    · exact S.i _ (z.1 _ h1) (k a q _ h1)
    · exact S.i _ (z.1 _ h1) (k a q _ h1)
  have n2 : dx ∉ m := fun q => by
    rcases h.2 with ⟨_, _, h1⟩ | ⟨_, h1⟩
    · exact S.i _ (z.2 _ h1) (k dx q _ h1)
    · exact S.i _ (z.2 _ h1) (k dx q _ h1)
  exact h.same (cut_out n1) (cut_out n2)
instance [SepU f] [SepI f] {p : PoolM} : Soft f (poolP T K p) := ⟨fun _ _ _ k ⟨a, dx, vs, e, h, h1, h2, h3⟩ => ⟨a, dx, vs, e, h.soft k, h1.soft k, h2.soft k, h3.soft k⟩⟩
/-- kept by a store into a slot -/
theorem Ins.keepP {C dx : Addr} {vs vs' : List (Option V)} {P : Pr T} [S : Soft isI P] {v : V} (h : Ins H a C dx vs) (hv : P.p v H) : P.p v (SlX.slH H a C dx vs') :=
  have z := ins_is h
  P.st _ _ _ (Gr.cut.put (cut_in (m := [a, dx]) (by simp)) (cut_in (by simp)) h) (S.s _ _ [a, dx] (by simpa using z) hv)
end
section
variable {T : List (Addr × Str)} {X : Cx} {e a b c : Expr} {σ : L2.St} {H : Hp} {pos p1 p2 : Pos} {α : Type} {R : α → Pr T} {xs : List α} {i : Int}
/-- e[:k] of a list -/
theorem nl_cutHi (k : Nat) (ha : EE T X a σ H (lstP X.K R xs)) (hb : EE T X b σ H (intP (k : Int))) : NewL T X (.Subscript a (.Slice none (some b) none p2) pos) σ H (fun vs H1 => All2 R vs (xs.take k) H1) :=
  NewL.of (pe_slice sl_list ha po_none (po_some hb)) fun H1 g Q r => ⟨rfl, g, fun v H2 g2 ⟨q, us, e1, h1, h2⟩ => ⟨rfl, g.trans g2, fun w H3 g3 hw => ⟨k, hw, q, us, e1, g3.sqL h1, fun p hp => r p _ _ ((g2.trans g3).trans (.new hp)) ((g2.trans g3).old _ hp) upd_same (by
    rw [del_upd hp]
    have e2 : cutV us none (some (k : Int)) = us.take k := by
      unfold cutV
      rw [HT.sIx_none, HT.sIx_nat, List.drop_zero, Nat.sub_zero]
      rcases Nat.le_total k us.length with h | h
      · rw [Nat.min_eq_left h]
      · rw [Nat.min_eq_right h, List.take_length, List.take_of_length_le h]
    rw [e2]
    exact (h2.st g3).take k)⟩⟩⟩
/-- e[k:] of a list -/
theorem nl_cutLo (k : Nat) (ha : EE T X a σ H (lstP X.K R xs)) (hb : EE T X b σ H (intP (k : Int))) : NewL T X (.Subscript a (.Slice (some b) none none p2) pos) σ H (fun vs H1 => All2 R vs (xs.drop k) H1) :=
  NewL.of (pe_slice sl_list ha (po_some hb) po_none) fun H1 g Q r => ⟨rfl, g, fun v H2 g2 ⟨q, us, e1, h1, h2⟩ => ⟨rfl, g.trans g2, fun w H3 g3 hw => ⟨k, hw, q, us, e1, g3.sqL h1, fun p hp => r p _ _ ((g2.trans g3).trans (.new hp)) ((g2.trans g3).old _ hp) upd_same (by
    rw [del_upd hp]
    have e2 : cutV us (some (k : Int)) none = us.drop k := by
      unfold cutV
      rw [HT.sIx_none, HT.sIx_nat]
      rcases Nat.le_total k us.length with h | h
      · rw [Nat.min_eq_left h, List.take_of_length_le (by rw [List.length_drop]; exact Nat.le_refl _)]
      · rw [Nat.min_eq_right h, List.drop_length, List.drop_eq_nil_of_le h]; simp
    rw [e2]
    exact (h2.st g3).drop k)⟩⟩⟩
theorem ee_cutHi (k : Nat) (ha : EE T X a σ H (lstP X.K R xs)) (hb : EE T X b σ H (intP (k : Int))) : EE T X (.Subscript a (.Slice none (some b) none p2) pos) σ H (lstP X.K R (xs.take k)) := NewL.l (nl_cutHi k ha hb) fun _ _ _ h => h
theorem ee_cutLo (k : Nat) (ha : EE T X a σ H (lstP X.K R xs)) (hb : EE T X b σ H (intP (k : Int))) : EE T X (.Subscript a (.Slice (some b) none none p2) pos) σ H (lstP X.K R (xs.drop k)) := NewL.l (nl_cutLo k ha hb) fun _ _ _ h => h
end
end Pan
set_option maxHeartbeats 2000000
namespace Pan
open PySem PySem.Spec PyProof.Rows L2
def rowForN (n : Nat) (panel : List Int) (fixed : List (Int × Fr)) : List Fr := (1, 1) :: (List.range n).map fun i : Nat => if (i : Int) ∈ panel then minusM (dueM fixed i) (1, 1) else dueM fixed i
structure StepM where
  n : Nat
  zs : List (Int × Fr)
def stepRow (a : StepM) : List Fr := rowForN a.n (allI a.n) a.zs
def stepFree (a : StepM) : List Fr := (List.range a.n).map fun i : Nat => ((if (valM a.zs (i : Int)).isSome then 0 else 1, 1) : Fr)
def stepIn (a : StepM) : TInM := ⟨[(stepRow a, (0, 1)), ((0, 1) :: stepFree a, (1, 1))], (1, 1) :: (List.range a.n).map fun _ => (0, 1)⟩
def stepTab (a : StepM) : TabM := solveM 3 (initM (stepIn a))
def stepZip (a : StepM) : List (Nat × Fr) := (List.range a.n).zip ((unkM (stepTab a)).drop 1)
def stepOpen (a : StepM) : List Fr := ((stepZip a).filter fun z => !(valM a.zs (z.1 : Int)).isSome).map (·.2)
def stepWhole (a : StepM) : Fr := totalM (stepOpen a)
def stepVal (a : StepM) : Fr := (unkM (stepTab a)).getD 0 (0, 1)
def stepW (a : StepM) : List (Int × Fr) := (dcM (fun z : Nat × Fr => (z.1 : Int)) ((stepZip a).filter fun z => decide (0 < z.2.1))).map fun z => (z.1, overM z.2.2 (stepWhole a))
def stepS0 (a : StepM) : List Fr := (mulM (stepTab a)).take 1
def stepS (a : StepM) : List Fr := (stepS0 a).set 0 (plusM ((stepS0 a).getD 0 (0, 1)) (minusM (1, 1) (totalM (stepS0 a))))
def stepL (a : StepM) : List (List Int × Fr) := (dctM (fun z : List Int × Fr => z.1) (([allI a.n].zip (stepS a)).filter fun z => decide (0 < z.2.1))).map fun z => (z.1, z.2.2)
def okStep (a : StepM) : Prop := a.n ≤ 8 ∧ (∀ i ∈ List.range a.n, Sm (dueM a.zs (i : Nat))) ∧ okInit (stepIn a) ∧ okSolve 3 (initM (stepIn a)) ∧
  (((stepTab a).basic.length ≤ 100 ∧ (stepTab a).many ≤ 100) ∧ (stepTab a).free.length ≤ 100 ∧ (stepTab a).sides.length ≤ 100) ∧ 0 < (unkM (stepTab a)).length ∧ okTotal (0, 1) (stepOpen a) ∧
  (∀ z ∈ (stepZip a).filter (fun z => decide (0 < z.2.1)), (Sm z.2 ∧ Sm (stepWhole a)) ∧ (stepWhole a).1 ≠ 0) ∧ 0 < (stepS0 a).length ∧ okTotal (0, 1) (stepS0 a) ∧ (Sm (totalM (stepS0 a)) ∧ Sm ((stepS0 a).getD 0 (0, 1)) ∧ Sm (minusM (1, 1) (totalM (stepS0 a))))
instance (a : StepM) : Decidable (okStep a) := by unfold okStep; exact inferInstance
def fixK (k : Nat) : List (Int × Fr) := (List.range k).map fun i : Nat => ((i : Int), ((1, 1) : Fr))
def stepGood (n k : Nat) : Prop := okStep ⟨n, fixK k⟩ ∧ stepVal ⟨n, fixK k⟩ = (1, 1) ∧ stepW ⟨n, fixK k⟩ = [((k : Int), ((1, 1) : Fr))] ∧ stepL ⟨n, fixK k⟩ = [(allI n, ((1, 1) : Fr))]
instance (n k : Nat) : Decidable (stepGood n k) := by
  unfold stepGood
  have d1 : Decidable (stepVal ⟨n, fixK k⟩ = (1, 1)) := instDecidableEqProd _ _
  have d2 : DecidableEq (List (Int × Fr)) := fun a b => inferInstanceAs (Decidable ((a : List (Int × (Int × Int))) = b))
  have d3 : DecidableEq (List (List Int × Fr)) := fun a b => inferInstanceAs (Decidable ((a : List (List Int × (Int × Int))) = b))
  exact inferInstance
theorem steps_ok : ∀ n < 7, ∀ k < n, stepGood n k := by decide +kernel
end Pan
set_option maxHeartbeats 2000000
namespace Pan
open PySem PySem.Spec PyProof.Rows L2
def stepP (T : List (Addr × Str)) (K : PySem.W.Frag) (z : StepM) : Pr T :=
  insP T (He.ga K "Step") (fun vs H => slotIs 0 (dtP (T := T) (frP K) (stepL z)) vs H ∧ slotIs 1 (frP (T := T) K (stepVal z)) vs H ∧ slotIs 2 (dkP (T := T) (frP K) (stepW z)) vs H) fun _ _ _ g h => ⟨h.1.st g, h.2.1.st g, h.2.2.st g⟩
section
variable {T : List (Addr × Str)}
theorem all_sat2 {α : Type} {R : α → Pr T} {H : Hp} : ∀ {xs : List α} {vs : List V}, All2 R vs xs H → Sat (xs.map R) vs H
  | [], [], _ => trivial
  | _ :: _, _ :: _, h => ⟨h.1, all_sat2 h.2⟩
  | [], _ :: _, h => h.elim
  | _ :: _, [], h => h.elim
theorem sat_all2 {α : Type} {R : α → Pr T} {H : Hp} : ∀ {xs : List α} {vs : List V}, Sat (xs.map R) vs H → All2 R vs xs H
  | [], [], _ => trivial
  | _ :: _, _ :: _, h => ⟨h.1, sat_all2 h.2⟩
  | [], _ :: _, h => h.elim
  | _ :: _, [], h => h.elim
def tbP (T : List (Addr × Str)) (K : PySem.W.Frag) (b : List Fr × Fr) : Pr T := pairP K (lstP K (frP K) b.1) (frP K b.2)
theorem ee_fr {X : Cx} {a b : Expr} {σ : L2.St} {H : Hp} {pos : Pos} {z : Nat} {x y : Int} (ha : EE T X a σ H (intP x)) (hb : EE T X b σ H (intP y)) (hs : starEach [a, b] X.env = (false, eval a X.env) :: starEach [b] X.env := by rfl) (hs2 : starEach [b] X.env = (false, eval b X.env) :: starEach [] X.env := by rfl) : EE T X (.Tuple [a, b] z pos) σ H (frP X.K (x, y)) :=
  ee_tup (ea_cons ha (ea_cons hb ea_nil hs2) hs) fun vs H1 p _ hv hp => by
    obtain ⟨u, w, rfl, hu, hw⟩ := sat2 hv
    exact ⟨p, _, rfl, SqT.of hp, hu, hw, trivial⟩
end
section
variable {T : List (Addr × Str)} {X : Cx} {e : Expr} {σ : L2.St} {H : Hp}
theorem NewL.ofX {R : List V → Hp → Prop} (h : ∀ H1, Gr T H H1 → EX X e σ H1 fun v H2 => Gr T H1 H2 ∧ ∃ q xs, v = .ref q ∧ H1 q = none ∧ H2 q = some (.lst xs) ∧ R xs (del H2 q)) : NewL T X e σ H R := ⟨fun pins s σ' H1 Q I ⟨e1, g, r⟩ => by
  rw [e1] at I ⊢
  exact thnE ((h H1 g).run I) fun v H2 ⟨g2, q, xs, e2, a1, a2, a3⟩ => by rw [e2]; exact r q xs H2 g2 a1 a2 a3⟩
end
section
variable {T : List (Addr × Str)} {P : Program} {w : World} {K : PySem.W.Frag} {mg : Str → Option Value} {base : Heap}
def spStepInit (T : List (Addr × Str)) (K : PySem.W.Frag) : Sp := fun vs H Q _ => ∃ (a dx : Addr) (H0 : Hp) (us : List V) (p : PoolM) (zs : List (Int × Fr)), vs = .ref a :: us ∧ Ins H a (He.ga K "Step") dx [] ∧ H0 a = none ∧ H0 dx = none ∧ Gr T H0 H ∧ LamX.Tabs T H0 ∧ (okPan p ∧ drawsM p = true ∧ okStep ⟨p.rows.length, zs⟩) ∧ Sat [poolP T K p, dkP (frP K) zs] us H0 ∧
  ∀ H', Gr T H0 H' → (stepP T K ⟨p.rows.length, zs⟩).p (.ref a) H' → Q .non H'
theorem scStepInit : FnScope ["self", "pool", "fixed", "every", "people", "rows", "free", "table", "found", "shares", "whole", "panel", "person", "row", "one"] ["self", "pool", "fixed"] (defScope (inClass (top 36) 1)) := ⟨rfl, rfl, rfl, by decide +kernel, rfl, by decide +kernel, by decide +kernel⟩
theorem ok_Step_init (W : Wd K mg) (B : BadT T K mg base) : FnR P w K mg base CX0 6 (He.ma K (He.ga K "Step") "__init__") (spStepInit T K) := by
  obtain ⟨fd, Fd⟩ := W.d_Step_init
  have b : Binds K fd ["self", "pool", "fixed"] [] := Fd.bindsN fun _ _ _ _ _ _ us hl => match us, hl with | [_, _, _], _ => rfl
  refine fn_any (T := T) Fd scStepInit b (fun vs H Q E ⟨a, dx, H0, us, p, zs, e, _, _, _, _, _, _, hs, _⟩ => by rw [e, List.length_cons, hs.len]; rfl) fun cdv A0 outer s H vs Q E hr hsp => ?_
  obtain ⟨a, dx, H0, us, p, zs, rfl, hi, n1, n2, g0, hT, ⟨hpan, hdr, hok⟩, hs, hQ⟩ := hsp
  obtain ⟨pv, zv, rfl, h1, h2⟩ := sat2 hs
  have Lp := ok_panels_of (T := T) (P := P) (w := w) (base := base) W
  have Lr := ok_row_for (T := T) (P := P) (w := w) (base := base) W
  have Lt := ok_Table_init (T := T) (P := P) (w := w) (base := base) W
  have Ls := ok_solve (T := T) (P := P) (w := w) (base := base) W B
  have Lu := ok_unknowns (T := T) (P := P) (w := w) (base := base) W
  have Lm := ok_multipliers (T := T) (P := P) (w := w) (base := base) W
  have Lo := ok_total (T := T) (P := P) (w := w) (base := base) W
  have Lv := ok_over (T := T) (P := P) (w := w) (base := base) W
  have Lpl := ok_plus (T := T) (P := P) (w := w) (base := base) W
  have Lmi := ok_minus (T := T) (P := P) (w := w) (base := base) W
  have hn : p.rows.length ≤ 8 := hpan.n
  have hpm : panelsM p = [allI p.rows.length] := if_pos hdr
  obtain ⟨k1, k2, k3, k4, ⟨⟨k5, k6⟩, k7, k8⟩, k9, k10, k11, k12, k13, k14, k15, k16⟩ := hok
  have u1 := fun {H1 : Hp} (g : Gr T H0 H1) => (poolP T K p).st _ _ _ g h1
  have u2 := fun {H1 : Hp} (g : Gr T H0 H1) => (dkP (frP K) zs).st _ _ _ g h2
  -- every, people
  refine ss_par 3 4 (ee_callP Lp W.g_panels_of.mg W.g_panels_of.kp hr p hpan (ea_cons (ee_var 1 rfl (u1 g0)) ea_nil)) (ee_listRg W.f_list W.f_range (i := (p.rows.length : Int)) (by omega) (ee_lenP W W.f_len hr hn (ee_var 1 rfl (u1 g0)))) scStepInit.nd fun ev pe H1 g1 hev hpe => ?_
  rw [hpm] at hev
  rw [Int.toNat_natCast] at hpe
  have G1 := g0.trans g1
  have i1 := hi.gr g1
  -- rows
  refine ss_setC 5 (NewC.same (nc_lc 11 (keep := fun _ => true) (Ro := fun pan : List Int => lstP K (frP K) (rowForN p.rows.length pan zs)) (src_list (ee_var 3 rfl hev)) (by simp) scStepInit.nd (blkX scStepInit [("panel", 11)]) (fun _ _ _ _ _ _ _ _ _ _ _ => ets_nil) (fun pan v H' D ls hm g hv _ hD s Hb C cl fp => NewL.en (NewL.ofX fun H2 g2 =>
    ex_meth (T := T) (E := fun _ _ _ => False) 0 rfl ((i1.gr g).gr g2).slt W.s_Step W.m_Step_row_for Lr hr (ea_cons (ee_var 1 rfl (u1 ((G1.trans g).trans g2))) (ea_cons (ee_var 11 rfl ((itX T K pan).st _ _ _ g2 hv)) (ea_cons (ee_var 2 rfl (u2 ((G1.trans g).trans g2))) ea_nil))) fun ws H3 g3 hws => ?_) hD trivial) (pgN 11 scStepInit.nd rfl rfl)) (List.filter_eq_self.mpr fun _ _ => rfl)) fun rv H2 g2 hrv => ?_
  · obtain ⟨w1, w2, w3, rfl, hw1, hw2, hw3⟩ := sat3 hws
    exact ⟨⟨p, pan, zs⟩, .ref a, [w1, w2, w3], rfl, ⟨hpan.1, k2⟩, ⟨hw1, hw2.1, hw3, trivial⟩, fun q xs H' g a1 a2 a3 => ⟨g3.trans g, q, xs, rfl, g3.old _ a1, a2, a3⟩⟩
  have G2 := G1.trans g2
  have i2 := i1.gr g2
  have pe2 := (lstP K (fun j : Nat => intP (T := T) (j : Int)) (List.range p.rows.length)).st _ _ _ g2 hpe
  -- free
  refine ss_setC 6 (ec_lc 12 scStepInit (Ro := fun i : Nat => frP K (if (valM zs (i : Int)).isSome then 0 else 1, 1)) (src_list (ee_var 4 rfl pe2)) (by rw [List.length_range]; omega) fun i v H' hm g hv s Hb C cl fp =>
    ee_fr (ee_if (t := (valM zs (i : Int)).isSome) (pe_din hr (ee_var 12 rfl hv) (ee_var 2 rfl (u2 (G2.trans g)))) (fun h => by rw [if_pos h]; exact ee_int) fun h => by rw [if_neg (by rw [h]; decide)]; exact ee_int) ee_int) fun fv H3 g3 hfv => ?_
  have hfv' : (lstP (T := T) K (frP K) (stepFree ⟨p.rows.length, zs⟩)).p fv H3 := lst_map (R := frP K) (f := fun i : Nat => ((if (valM zs (i : Int)).isSome then 0 else 1, 1) : Fr)) hfv
  have hrv' : (lstP (T := T) K (lstP K (frP K)) [rowForN p.rows.length (allI p.rows.length) zs]).p rv H3 := (lstP K _ _).st _ _ _ g3 (lst_map (R := lstP K (frP K)) (f := fun pan : List Int => rowForN p.rows.length pan zs) hrv)
  have G3 := G2.trans g3
  have i3 := i2.gr g3
  have hev3 := (lstP K (itX T K) [allI p.rows.length]).st _ _ _ (g2.trans g3) hev
  have pe3 := (lstP K (fun j : Nat => intP (T := T) (j : Int)) (List.range p.rows.length)).st _ _ _ g3 pe2
  have fl : (stepFree ⟨p.rows.length, zs⟩).length = p.rows.length := by unfold stepFree; simp
  have hra : (lstP (T := T) K (fun r : List Fr => atB H3 (lstP K (frP K) r)) [rowForN p.rows.length (allI p.rows.length) zs]).p rv H3 := lst_imp (fun v r _ h => ⟨h, .refl _⟩) hrv'
  -- table
  have hI : okInit (stepIn ⟨p.rows.length, zs⟩) := k3
  refine ssx_set 7 (ex_make (T := T) (E := fun _ _ _ => False) (R := fun v H' => ∃ tA F A, v = .ref tA ∧ Gr T H3 F ∧ TabSt T K F tA A (initM (stepIn ⟨p.rows.length, zs⟩)) H') (Ps := psTab T K (stepIn ⟨p.rows.length, zs⟩)) W.mk_Table Lt hr W.mg_Table
    (ea_cons (NewL.l (nl_lst (ea_star (Ps := [tbP T K (stepRow ⟨p.rows.length, zs⟩, (0, 1))]) (NewL.l (R := tbP T K) (xs := [(stepRow ⟨p.rows.length, zs⟩, (0, 1))]) (NewC.nl <| nc_lcD 13 (keep := fun _ => true) (Ro := fun r : List Fr => pairP K (atB H3 (lstP K (frP K) r)) (frP K (0, 1))) (src_list (ee_var 5 rfl hra)) (by simp) scStepInit.nd (blkX scStepInit [("row", 13)]) (fun _ _ _ _ _ _ _ _ _ _ _ => ets_nil)
        (fun r v H' D ls hm g hv _ hn hD s Hb C cl fp => EE.en2 (ee_pair (ee_var 13 rfl hv) (ee_glob W.mg_NONE relRef (NONEp W _))) hD trivial fun v H2 h2 ⟨t, x, y, e, q1, q2, q3⟩ => ⟨t, x, y, e, q1.imp (rd_del h2 trivial (fun z => nomatch z)) id, ⟨q2.1, q2.2.toDel hn h2 trivial⟩, Solid.s _ _ _ _ h2 trivial q3⟩) (pgN 13 scStepInit.nd rfl rfl)) fun vs H1 g h => ?_) (fun v H1 ⟨q, vs, e, a1, a2⟩ => ⟨q, vs, e, .inr a1, all_sat2 a2⟩)
      (ea_cons (ee_pair (NewL.l (nl_lst (ea_cons (ee_glob W.mg_NONE relRef (NONEp W _)) (ea_star (Ps := (stepFree ⟨p.rows.length, zs⟩).map (frP K)) (ee_var 6 rfl hfv') (fun v H1 ⟨q, vs, e, a1, a2⟩ => ⟨q, vs, e, .inr a1, all_sat2 a2⟩) ea_nil)) ?_) fun vs H1 g h => (sat_all2 (xs := (0, 1) :: stepFree ⟨p.rows.length, zs⟩) (by rw [List.append_nil] at h; exact h))) (ee_glob W.mg_ONE relRef (ONEp W _))) ea_nil)) rfl) fun vs H1 g h => sat_all2 (xs := (stepIn ⟨p.rows.length, zs⟩).bs) h)
    (ea_cons (NewL.l (nl_lst (ea_cons (ee_glob W.mg_ONE relRef (ONEp W _)) (ea_star (Ps := ((List.range p.rows.length).map fun _ => ((0, 1) : Fr)).map (frP K)) (EC.ee <| ec_lc 12 scStepInit (Ro := fun _ : Nat => frP K (0, 1)) (src_list (ee_var 4 rfl pe3)) (by rw [List.length_range]; omega) fun i v H' hm g hv s Hb C cl fp => ee_glob W.mg_NONE relRef (NONEp W _)) (fun v H1 ⟨q, vs, e, a1, a2⟩ => ⟨q, vs, e, .inr a1, all_sat2 (All2.map (R := frP K) (f := fun _ : Nat => ((0, 1) : Fr)) a2)⟩) ea_nil)) ?_) fun vs H1 g h => (sat_all2 (xs := (stepIn ⟨p.rows.length, zs⟩).costs) (by rw [List.append_nil] at h; exact h))) ea_nil))
    fun ws H4 tA dxA g4 hws a1 a2 a3 => ⟨tA, dxA, H4, ws, _, rfl, Ins.made a1 a2 a3, a1, a2, gr_made a1 a2 a3, hI, hws, fun F A H' gF t => ⟨rfl, tA, F, A, rfl, g4.trans gF, t⟩⟩) scStepInit.nd ?_
  · rw [List.filter_eq_self.mpr fun _ _ => rfl] at h
    exact All2.map (R := tbP T K) (f := fun r : List Fr => (r, ((0, 1) : Fr))) (all2_imp (R := fun r : List Fr => pairP K (atB H3 (lstP K (frP K) r)) (frP K (0, 1))) (R' := fun r : List Fr => tbP T K (r, (0, 1))) (fun v r _ ⟨t, x, y, e, q1, q2, q3⟩ => ⟨t, x, y, e, q1, (lstP K (frP K) r).st _ _ _ q2.2 q2.1, q3⟩) h)
  · rw [List.append_nil, List.length_cons, List.length_map, fl]
    exact Nat.ble_eq.mpr (by omega)
  · rw [List.append_nil, List.length_cons, List.length_map, List.length_map, List.length_range]
    exact Nat.ble_eq.mpr (by omega)
  rintro tv H4 ⟨tA, F, A, rfl, gF, t⟩
  -- solve
  have hTF : LamX.Tabs T F := (G3.trans gF).tab hT
  refine ssx_expr (ex_meth0 (E := fun _ _ _ => False) (R := fun v H' => ∃ F' A', Gr T F F' ∧ TabSt T K F' tA A' (stepTab ⟨p.rows.length, zs⟩) H') 7 rfl t.ins.slt W.s_Table W.m_Table_solve Ls hr ⟨F, tA, A, _, 3, rfl, hTF, t, k4, fun F' A' H' g t => ⟨F', A', g, t⟩⟩) fun v H5 ⟨F', A', gF', t5⟩ => ?_
  have g5 : Gr T H3 H5 := (gF.trans gF').trans t5.g
  -- found, shares
  refine ss_par (T := T) (P1 := lstP K (frP K) (unkM (stepTab ⟨p.rows.length, zs⟩))) (P2 := lstP K (frP K) (mulM (stepTab ⟨p.rows.length, zs⟩))) 8 9 (EE.ofX fun H6 g6 => ex_meth0 (E := fun _ _ _ => False) 7 rfl (t5.gr g6).ins.slt W.s_Table W.m_Table_unknowns Lu hr ⟨F', tA, A', _, rfl, t5.gr g6, ⟨k5, k6⟩, fun v H' g h => ⟨g, h⟩⟩) (EE.ofX fun H6 g6 => ex_meth0 (E := fun _ _ _ => False) 7 rfl (t5.gr g6).ins.slt W.s_Table W.m_Table_multipliers Lm hr ⟨F', tA, A', _, rfl, t5.gr g6, ⟨k7, k8⟩, fun v H' g h => ⟨g, h⟩⟩) scStepInit.nd fun fo sh H6 g6 hfo hsh => ?_
  have g36 := g5.trans g6
  have G6 := G3.trans g36
  have i6 := i3.gr g36
  have hev6 := (lstP K (itX T K) [allI p.rows.length]).st _ _ _ g36 hev3
  have pe6 := (lstP K (fun j : Nat => intP (T := T) (j : Int)) (List.range p.rows.length)).st _ _ _ g36 pe3
  clear hfv hfv' hrv hrv' hra t t5
  -- value
  refine ss_sl (dx := dx) 0 rfl (ee_ixL 0 (getD_some (d := (0, 1)) k9) (ee_var 8 rfl hfo) ee_int).x W.s_Step W.Step_value fun v7 H7 ⟨g7, hv7⟩ => ?_
  have i7 := i6.gr g7
  refine ⟨[], i7.slt, ?_⟩
  have S7 : Gr T H0 _ := (G6.trans g7).put (vs' := SlX.putS 1 v7 []) n1 n2 i7
  have I7 : Ins (SlX.slH H7 a (He.ga K "Step") dx (SlX.putS 1 v7 [])) a (He.ga K "Step") dx _ := Ins.put hi.1
  have ev7 := i7.keepP (vs' := SlX.putS 1 v7 []) ((lstP K (itX T K) [allI p.rows.length]).st _ _ _ g7 hev6)
  have pe7 := i7.keepP (vs' := SlX.putS 1 v7 []) ((lstP K (fun j : Nat => intP (T := T) (j : Int)) (List.range p.rows.length)).st _ _ _ g7 pe6)
  have fo7 := i7.keepP (vs' := SlX.putS 1 v7 []) ((lstP K (frP K) _).st _ _ _ g7 hfo)
  have sh7 := i7.keepP (vs' := SlX.putS 1 v7 []) ((lstP K (frP K) _).st _ _ _ g7 hsh)
  have vv7 := i7.keepP (vs' := SlX.putS 1 v7 []) (P := frP K (stepVal ⟨p.rows.length, zs⟩)) hv7
  generalize SlX.slH H7 a (He.ga K "Step") dx (SlX.putS 1 v7 []) = K7 at S7 I7 ev7 pe7 fo7 sh7 vv7 ⊢
  change SS T _ _ [some (.ref a), some pv, some zv, some ev, some pe, some rv, some fv, some (.ref tA), some fo, some sh, none, none, none, none, none] _ _
  clear hfo hsh hev6 pe6 hev3 pe3 pe2 hpe hev
  have zl : (stepZip ⟨p.rows.length, zs⟩).length ≤ 1000 := by unfold stepZip; rw [List.length_zip, List.length_range]; show min p.rows.length _ ≤ 1000; omega
  -- whole
  refine ss_set 10 (P := frP K (stepWhole ⟨p.rows.length, zs⟩)) (ee_callP Lo W.g_total.mg W.g_total.kp hr (stepOpen ⟨p.rows.length, zs⟩) k10 (ea_cons (EE.imp (P' := lstP K (frP K) (stepOpen ⟨p.rows.length, zs⟩)) (EC.ee <| ec_lcPIf 12 14 scStepInit (R1 := fun z : Nat × Fr => intP (z.1 : Int)) (R2 := fun z : Nat × Fr => frP K z.2) (Ro := fun z : Nat × Fr => frP K z.2) (keep := fun z : Nat × Fr => !(valM zs (z.1 : Int)).isSome) (src_zip (R := fun j : Nat => intP (j : Int)) (S := frP K) W.f_zip (ee_var 4 rfl pe7) (ee_cutLo 1 (ee_var 8 rfl fo7) ee_int)) zl
    (fun z v v' H' hm g hv hv' s Hb C cl fp => et_dnotin hr (ee_var 12 rfl hv) (ee_var 2 rfl (u2 (S7.trans g)))) (fun z v v' H' hm hka g hv hv' s Hb C cl fp => ee_var 14 rfl hv')) fun v H1 g h => lst_map (R := frP K) (f := fun z : Nat × Fr => z.2) h) ea_nil)) scStepInit.nd fun wv H8 g8 hwv => ?_
  change SS T _ _ [some (.ref a), some pv, some zv, some ev, some pe, some rv, some fv, some (.ref tA), some fo, some sh, some wv, none, none, none, none] _ _
  have I8 := I7.gr g8
  have S8 := S7.trans g8
  have ev8 := (lstP K (itX T K) [allI p.rows.length]).st _ _ _ g8 ev7
  have pe8 := (lstP K (fun j : Nat => intP (T := T) (j : Int)) (List.range p.rows.length)).st _ _ _ g8 pe7
  have fo8 := (lstP K (frP K) _).st _ _ _ g8 fo7
  have sh8 := (lstP K (frP K) _).st _ _ _ g8 sh7
  have vv8 := (frP K _).st _ _ _ g8 vv7
  -- weights
  refine ss_sl (dx := dx) 0 rfl (EE.x (T := T) (P := dkP (frP K) (stepW ⟨p.rows.length, zs⟩)) (NewK.k (nk_dcP 12 14 scStepInit (R1 := fun z : Nat × Fr => intP (z.1 : Int)) (R2 := fun z : Nat × Fr => frP K z.2) (Kk := fun z : Nat × Fr => (z.1 : Int)) (Ro := fun z : Nat × Fr => frP K (overM z.2 (stepWhole ⟨p.rows.length, zs⟩))) (keep := fun z : Nat × Fr => decide (0 < z.2.1)) (src_zip (R := fun j : Nat => intP (j : Int)) (S := frP K) W.f_zip (ee_var 4 rfl pe8) (ee_cutLo 1 (ee_var 8 rfl fo8) ee_int)) zl
    (fun z v v' H' hm g hv hv' s Hb C cl fp => ets_one (et_gt (ix0 (ee_var 14 rfl hv')) ee_int)) (fun z v v' H' hm hka g hv hv' s Hb C cl fp => ee_var 12 rfl hv)
    (fun z v v' H' hm hka g hv hv' s Hb C cl fp => ee_callP Lv W.g_over.mg W.g_over.kp hr (z.2, stepWhole ⟨p.rows.length, zs⟩) (k11 z (List.mem_filter.mpr ⟨hm, hka⟩)) (ea_cons (ee_var 14 rfl hv') (ea_cons (ee_var 10 rfl ((frP K _).st _ _ _ g hwv)) ea_nil)))) fun kvs H1 g h => DK2.imp (f := fun z : Nat × Fr => overM z.2 (stepWhole ⟨p.rows.length, zs⟩)) (R' := frP K) (fun _ _ h => h) h)) W.s_Step W.Step_weights fun v9 H9 ⟨g9, hv9⟩ => ?_
  have i9 := I8.gr g9
  refine ⟨_, i9.slt, ?_⟩
  have S9 : Gr T H0 _ := (S8.trans g9).put (vs' := SlX.putS 2 v9 (SlX.putS 1 v7 [])) n1 n2 i9
  have I9 : Ins (SlX.slH H9 a (He.ga K "Step") dx (SlX.putS 2 v9 (SlX.putS 1 v7 []))) a (He.ga K "Step") dx _ := Ins.put hi.1
  have ev9 := i9.keepP (vs' := SlX.putS 2 v9 (SlX.putS 1 v7 [])) ((lstP K (itX T K) [allI p.rows.length]).st _ _ _ g9 ev8)
  have sh9 := i9.keepP (vs' := SlX.putS 2 v9 (SlX.putS 1 v7 [])) ((lstP K (frP K) _).st _ _ _ g9 sh8)
  have vv9 := i9.keepP (vs' := SlX.putS 2 v9 (SlX.putS 1 v7 [])) ((frP K _).st _ _ _ g9 vv8)
  have ww9 := i9.keepP (vs' := SlX.putS 2 v9 (SlX.putS 1 v7 [])) (P := dkP (frP K) (stepW ⟨p.rows.length, zs⟩)) hv9
  generalize SlX.slH H9 a (He.ga K "Step") dx (SlX.putS 2 v9 (SlX.putS 1 v7 [])) = K9 at S9 I9 ev9 sh9 vv9 ww9 ⊢
  clear ev8 pe8 fo8 sh8 vv8 ev7 pe7 fo7 sh7 vv7
  -- shares
  refine ss_setL 9 (nl_listOf (R := frP K) (xs := stepS0 ⟨p.rows.length, zs⟩) (P := lstP K (frP K) (stepS0 ⟨p.rows.length, zs⟩)) W.f_list (fun v H1 _ ⟨p, ws, e, q1, q2⟩ => ⟨p, ws, e, .inl q1, q2⟩) (ee_cutHi 1 (ee_var 9 rfl sh9) (ee_lenL (R := itX T K) (xs := [allI p.rows.length]) W.f_len (ee_var 3 rfl ev9)))) scStepInit.nd fun q xs Ha ga qn hq kx => ?_
  change SS T _ _ [some (.ref a), some pv, some zv, some ev, some pe, some rv, some fv, some (.ref tA), some fo, some (.ref q), some wv, none, none, none, none] _ _
  have shP : (lstP (T := T) K (frP K) (stepS0 ⟨p.rows.length, zs⟩)).p (.ref q) Ha := ⟨q, xs, rfl, .inl (.inl hq), kx.st .del⟩
  refine ss_lset (ee_callP Lpl W.g_plus.mg W.g_plus.kp hr ((stepS0 ⟨p.rows.length, zs⟩).getD 0 (0, 1), minusM (1, 1) (totalM (stepS0 ⟨p.rows.length, zs⟩))) ⟨k15, k16⟩ (P := frP K (plusM ((stepS0 ⟨p.rows.length, zs⟩).getD 0 (0, 1)) (minusM (1, 1) (totalM (stepS0 ⟨p.rows.length, zs⟩))))) (ea_cons (ee_ixL 0 (getD_some (d := (0, 1)) k12) (ee_var 9 rfl shP) ee_int)
    (ea_cons (ee_callP Lmi W.g_minus.mg W.g_minus.kp hr ((1, 1), totalM (stepS0 ⟨p.rows.length, zs⟩)) ⟨sm11, k14⟩ (ea_cons (ee_glob W.mg_ONE relRef (ONEp W _)) (ea_cons (ee_callP Lo W.g_total.mg W.g_total.kp hr (stepS0 ⟨p.rows.length, zs⟩) k13 (ea_cons (ee_var 9 rfl shP) ea_nil)) ea_nil))) ea_nil))).x fun v Hb ⟨gb, hvb⟩ => ⟨q, ((0 : Nat) : Int), ee_v 9 rfl, fun _ _ => ee_int, fun Hc gc => ⟨xs, 0, (gb.trans gc).lst hq, ixN_nat (by rw [kx.length]; exact k12), ?_⟩⟩
  have hqc := (gb.trans gc).lst hq
  have gd : Gr T (del Ha q) (del (upd Hc q (.lst (xs.set 0 v))) q) := ((Gr.del.trans (gb.trans gc)).mut del_same (calm_lst hqc)).toDel del_same upd_same trivial
  have hvd : (frP (T := T) K (plusM ((stepS0 ⟨p.rows.length, zs⟩).getD 0 (0, 1)) (minusM (1, 1) (totalM (stepS0 ⟨p.rows.length, zs⟩))))).p v (del (upd Hc q (.lst (xs.set 0 v))) q) := by
    have h' := Solid.s _ _ _ _ (gb.lst hq) trivial hvb
    exact (frP K _).st _ _ _ (((Gr.del.trans gc).mut del_same (calm_lst hqc)).toDel del_same upd_same trivial) h'
  have ks : (lstP (T := T) K (frP K) (stepS ⟨p.rows.length, zs⟩)).p (.ref q) (upd Hc q (.lst (xs.set 0 v))) := ⟨q, _, rfl, .inl (.inl upd_same), (All2.set hvd 0 (kx.st gd)).st .del⟩
  have gu : Gr T K9 (upd Hc q (.lst (xs.set 0 v))) := ((ga.trans gb).trans gc).mut qn (calm_lst hqc)
  generalize upd Hc q (.lst (xs.set 0 v)) = Hd at ks gu ⊢
  have ev10 := (lstP K (itX T K) [allI p.rows.length]).st _ _ _ gu ev9
  have I10 := I9.gr gu
  -- lottery
  refine ss_sl (dx := dx) 0 rfl (EE.x (T := T) (P := dtP (frP K) (stepL ⟨p.rows.length, zs⟩)) (NewT.k (nk_dctP 11 14 scStepInit (R1 := fun z : List Int × Fr => itX T K z.1) (R2 := fun z : List Int × Fr => frP K z.2) (Kk := fun z : List Int × Fr => z.1) (Ro := fun z : List Int × Fr => frP K z.2) (keep := fun z : List Int × Fr => decide (0 < z.2.1)) (src_zip (R := itX T K) (S := frP K) W.f_zip (ee_var 3 rfl ev10) (ee_var 9 rfl ks)) hr (by rw [List.length_zip]; show min 1 _ ≤ 1000; omega)
    (fun z v v' H' hm g hv hv' s Hb C cl fp => ets_one (et_gt (ix0 (ee_var 14 rfl hv')) ee_int)) (fun z v v' H' hm hka g hv hv' s Hb C cl fp => ee_var 11 rfl hv)
    (fun z v v' H' hm hka g hv hv' s Hb C cl fp => ee_var 14 rfl hv')) fun kvs H1 g h => DK2.imp (f := fun z : List Int × Fr => z.2) (R' := frP K) (fun _ _ h => h) h)) W.s_Step W.Step_lottery fun v11 Hf ⟨ge, hv11⟩ => ?_
  have i11 := I10.gr ge
  refine ⟨_, i11.slt, ?_⟩
  have S11 : Gr T H0 _ := ((S9.trans gu).trans ge).put (vs' := SlX.putS 0 v11 (SlX.putS 2 v9 (SlX.putS 1 v7 []))) n1 n2 i11
  have I11 : Ins (SlX.slH Hf a (He.ga K "Step") dx (SlX.putS 0 v11 (SlX.putS 2 v9 (SlX.putS 1 v7 [])))) a (He.ga K "Step") dx _ := Ins.put hi.1
  have vv11 := i11.keepP (vs' := SlX.putS 0 v11 (SlX.putS 2 v9 (SlX.putS 1 v7 []))) ((frP K _).st _ _ _ (gu.trans ge) vv9)
  have ww11 := i11.keepP (vs' := SlX.putS 0 v11 (SlX.putS 2 v9 (SlX.putS 1 v7 []))) ((dkP (frP K) _).st _ _ _ (gu.trans ge) ww9)
  have ll11 := i11.keepP (vs' := SlX.putS 0 v11 (SlX.putS 2 v9 (SlX.putS 1 v7 []))) (P := dtP (frP K) (stepL ⟨p.rows.length, zs⟩)) hv11
  exact ss_nil (T := T) (hQ _ S11 ⟨a, dx, SlX.putS 0 v11 (SlX.putS 2 v9 (SlX.putS 1 v7 [])), rfl, I11, ⟨v11, rfl, ll11⟩, ⟨v7, rfl, vv11⟩, ⟨v9, rfl, ww11⟩⟩)
end
end Pan
set_option maxHeartbeats 1000000
/-! dict(d) of a dict by tuples with one entry at most. -/
namespace L2
open PySem PySem.Spec PyProof.Rows
theorem nodup_one {α : Type} : ∀ (l : List α), l.length ≤ 1 → l.Nodup
  | [], _ => List.nodup_nil
  | [_], _ => by simp
  | _ :: _ :: l, h => by simp only [List.length_cons] at h; omega
theorem call_dictT {X : Cx} (hu : X.A.units + 3 < cLine) : CallR X (.type "dict") (fun xs H Q => ∃ (a : Addr) (kvs : List (List Key × V)), xs = [.ref a] ∧ Rd H a (.dT kvs) ∧ kvs.length ≤ 1 ∧ ∀ p, H p = none → Q (.ref p) (upd H p (.dT kvs))) := by
  intro pins s σ H xs us Q I r q
  obtain ⟨a, kvs, rfl, hd, hl, q⟩ := q
  obtain ⟨u, rfl, rx⟩ := vals1 r
  cases rx
  obtain ⟨z, lo, vs, rel, dd⟩ := dt_rd I.hok hd
  have hlv : vs.length ≤ 1 := by rw [← Paired.length rel]; exact hl
  have hm : (s.heap.objs.size == sysModules) = false := beq_eq_false_iff_ne.mpr (Nat.ne_of_gt I.big)
  refine callType_codes (Q₁ := fun obj t => obj = .ref s.heap.objs.size ∧ t = { s with heap := s.heap.push { cls := .type "dict", data := .dict #[] } }) F.kt_called_dict (F.kt_typeCall_dict_1 _) F.entry_dict_init (kt_code_dict_new _ ⟨rfl, rfl⟩) ?_
  rintro obj t ⟨rfl, rfl⟩
  have hnew : (s.heap.push { cls := .type "dict", data := .dict #[] }).DictOfH (tupleKind (mixKind X.prog X.w)) s.heap.objs.size [] := Heap.DictOfH.new s.heap
  have hold : (s.heap.push { cls := .type "dict", data := .dict #[] }).DictOfH (tupleKind (mixKind X.prog X.w)) a vs := by
    refine dd.at' (fun o e => Heap.get?_push_of_some _ e) fun y hy => ?_
    obtain ⟨_, _, _, _, _, _, _, his, _⟩ := dd
    exact tupleKind_stays.stays (fun b o ws n e _ => Heap.get?_push_of_some _ e) (his y hy)
  have hne : s.heap.objs.size ≠ a := fun e => absurd dd.lt_size (by rw [e]; exact Nat.lt_irrefl _)
  refine ⟨hnew.typeIs, F.args_dict_init_2 _ _, ?_⟩
  unfold Builtin.«dict.__init__»
  refine wpAny_bind ?_
  unfold Builtin.Dict.selfAndRest
  refine wpAny_bind (wpAny_notOrdered_dict hnew.typeIs ?_)
  show wpAny _ _ (pure (s.heap.objs.size, [Value.ref a])) _ _ _
  refine wpAny_pure ?_
  show wpAny _ _ (Builtin.Dict.updateFrom "dict.__init__" s.heap.objs.size (.ref a) [] .none) _ _ _
  have hap : (vs.map fun x => (tupleKind (mixKind X.prog X.w)).hash x.1).Nodup := nodup_one _ (by rw [List.length_map]; exact hlv)
  have hty : ∀ x ∈ vs, ({ s with heap := s.heap.push { cls := .type "dict", data := .dict #[] } } : Shared).TypeIs (.ref x.2.1) "tuple" := fun x hx => by
    obtain ⟨_, _, _, _, _, _, _, his, _⟩ := hold
    exact tupleKind_stays.tuple (his x hx)
  have hn1 : ((vs.map (·.1))).Nodup := dd.nodup
  refine updateFrom_dictH .none ?_ hne lo hnew hold (.inr ⟨hty, hap⟩) ?_ fun h' d1 d2 hs => ?_
  · exact tupleKind_room_in1 (show X.A.units + 1 + 1 < cLine by omega)
  · rw [List.length_nil, Nat.zero_add]
    exact Nat.le_trans hlv (by decide)
  · rw [storedAllH_nil_of_nodup vs hn1] at d1
    obtain ⟨o, es, ep, o1, o2, o3, o4, _, o5⟩ := d1
    have hf : H s.heap.objs.size = none := I.hok.fresh (Nat.le_refl _)
    refine ⟨rfl, .ref s.heap.objs.size, upd H s.heap.objs.size (.dT kvs), I.laid (t' := s.toks) (fun b u e => (hs.2 b (Nat.ne_of_lt (Heap.lt_size e))).trans (Heap.get?_push_of_some _ e)) (Nat.le_refl _) ?_, rfl, q _ hf⟩
    exact ⟨z, hm, vs, rel.keeps fun b ys e => (upd_ne (ne_of_none e hf)).trans e, o, es, ep, o1, o2, o3, o4, o5⟩
end L2
namespace Pan
open PySem PySem.Spec PyProof.Rows L2
section
variable {T : List (Addr × Str)} {X : Cx} {a b e : Expr} {σ : L2.St} {H : Hp} {pos p1 p2 : Pos} {α : Type} {R : α → Pr T} {m : Nat}
/-- dict(d) of a dict by tuples, one entry at most -/
theorem ee_dictT {x : Str} {ts : List (List Int × α)} (hr : Room m X.A) (hl : ts.length ≤ 1) (hm : X.mg x = none) (ha : EE T X a σ H (dtP R ts)) (hv : bootBuiltins x = some (.type "dict") := by decide +kernel) (hg : Gl X x := by rfl) (hn : x ≠ "__name__" := by decide) (hdb : (x == ("__debug__" : Str)) = false := by decide)
    (he : starEach [a] X.env = (false, eval a X.env) :: starEach [] X.env := by rfl) (hpl : (backTo pos (starEach [] X.env)).any (·.1) = false := by rfl) : EE T X (.Call (.Name x p1) [a] [] pos) σ H (dtP R ts) :=
  EE.of (pe_callTy (call_dictT (by have := hr.un; omega)) hg hm hv (ea_cons ha ea_nil he) hn hdb he hpl) fun H1 g Q r => ⟨rfl, g, fun vs H2 g2 hs => by
    obtain ⟨v, rfl, d, kvs, rfl, h1, h2⟩ := sat1 hs
    exact ⟨d, kvs, rfl, h1, by rw [h2.length]; exact hl, fun p hp => r _ _ (g2.trans (.new hp)) ⟨p, kvs, rfl, .inl upd_same, h2.st (.new hp)⟩⟩⟩
/-- dict(d) of a dict by ints -/
theorem ee_dictK {x : Str} {zs : List (Int × α)} (hm : X.mg x = none) (ha : EE T X a σ H (dkP R zs)) (hv : bootBuiltins x = some (.type "dict") := by decide +kernel) (hg : Gl X x := by rfl) (hn : x ≠ "__name__" := by decide) (hdb : (x == ("__debug__" : Str)) = false := by decide)
    (he : starEach [a] X.env = (false, eval a X.env) :: starEach [] X.env := by rfl) (hpl : (backTo pos (starEach [] X.env)).any (·.1) = false := by rfl) : EE T X (.Call (.Name x p1) [a] [] pos) σ H (dkP R zs) :=
  EE.of (pe_callTy call_dictD hg hm hv (ea_cons ha ea_nil he) hn hdb he hpl) fun H1 g Q r => ⟨rfl, g, fun vs H2 g2 hs => by
    obtain ⟨v, rfl, d, kvs, rfl, h1, h2⟩ := sat1 hs
    exact ⟨d, kvs, rfl, h1, fun p hp => r _ _ (g2.trans (.new hp)) ⟨p, kvs, rfl, .inl upd_same, h2.st (.new hp)⟩⟩⟩
end
end Pan
set_option maxHeartbeats 1000000
namespace Pan
open PySem PySem.Spec PyProof.Rows L2
section
variable {T : List (Addr × Str)} {P : Program} {w : World} {K : PySem.W.Frag} {mg : Str → Option Value} {base : Heap}
def levP (T : List (Addr × Str)) (K : PySem.W.Frag) (ts : List (List Int × Fr)) : Pr T := insP T (He.ga K "Levels") (fun vs H => slotIs 0 (dtP (T := T) (frP K) ts) vs H) fun _ _ _ g h => h.st g
/-- some dict by ints or texts -/
def anyD (T : List (Addr × Str)) : Pr T := ⟨fun v H => ∃ a kvs, v = .ref a ∧ Rd H a (.dK kvs), fun _ _ _ g ⟨a, kvs, e, h⟩ => ⟨a, kvs, e, g.rd (fun _ z => nomatch z) h⟩⟩
theorem ee_dictAny {X : Cx} {a : Expr} {σ : L2.St} {H : Hp} {pos p1 : Pos} {x : Str} (hm : X.mg x = none) (ha : EE T X a σ H (anyD T)) (hv : bootBuiltins x = some (.type "dict") := by decide +kernel) (hg : Gl X x := by rfl) (hn : x ≠ "__name__" := by decide) (hdb : (x == ("__debug__" : Str)) = false := by decide)
    (he : starEach [a] X.env = (false, eval a X.env) :: starEach [] X.env := by rfl) (hpl : (backTo pos (starEach [] X.env)).any (·.1) = false := by rfl) : EE T X (.Call (.Name x p1) [a] [] pos) σ H (anyD T) :=
  EE.of (pe_callTy call_dictD hg hm hv (ea_cons ha ea_nil he) hn hdb he hpl) fun H1 g Q r => ⟨rfl, g, fun vs H2 g2 hs => by
    obtain ⟨v, rfl, d, kvs, rfl, h1⟩ := sat1 hs
    exact ⟨d, kvs, rfl, h1, fun p hp => r _ _ (g2.trans (.new hp)) ⟨p, kvs, rfl, .inl upd_same⟩⟩⟩
/-- sorted(d) of a dict with one key -/
theorem ee_sorted1 {X : Cx} {a : Expr} {σ : L2.St} {H : Hp} {pos p1 : Pos} {x : Str} {α : Type} {R : α → Pr T} {k : Int} {y : α} (hm : X.mg x = none) (ha : EE T X a σ H (dkP R [(k, y)])) (hc : X.calm = true := by rfl) (hv : bootBuiltins x = some (.builtin "sorted") := by decide +kernel) (hg : Gl X x := by rfl) (hn : x ≠ "__name__" := by decide) (hdb : (x == ("__debug__" : Str)) = false := by decide)
    (he : starEach [a] X.env = (false, eval a X.env) :: starEach [] X.env := by rfl) : EE T X (.Call (.Name x p1) [a] [] pos) σ H (lstP X.K intP [k]) :=
  ee_bltn (call_sortedDI hc) hm hv (ea_cons ha ea_nil he) (fun vs H1 g hs Q z => by
    obtain ⟨v, rfl, d, kvs, rfl, h1, h2⟩ := sat1 hs
    refine ⟨d, kvs, [k], rfl, h1, h2.keys, (by decide : (1 : Nat) < 64), fun ys p hp _ hf => ?_⟩
    rw [List.perm_singleton.mp hp]
    exact z _ _ (.new hf) ⟨p, _, rfl, .inl (.inl upd_same), rfl, trivial⟩) hg hn hdb he
abbrev stpP (T : List (Addr × Str)) (K : PySem.W.Frag) (_ : Unit) : Pr T := pairP K anyP (anyD T)
def spLevInit (T : List (Addr × Str)) (K : PySem.W.Frag) : Sp := fun vs H Q _ => ∃ (a dx : Addr) (H0 : Hp) (us : List V) (ts : List (List Int × Fr)) (ws : List Unit), vs = .ref a :: us ∧ Ins H a (He.ga K "Levels") dx [] ∧ H0 a = none ∧ H0 dx = none ∧ Gr T H0 H ∧ (ts.length ≤ 1 ∧ ws.length ≤ 100) ∧ Sat [dtP (frP K) ts, lstP K (stpP T K) ws] us H0 ∧
  ∀ H', Gr T H0 H' → (levP T K ts).p (.ref a) H' → Q .non H'
theorem scLevInit : FnScope ["self", "lottery", "steps", "people", "weights"] ["self", "lottery", "steps"] (defScope (inClass (top 37) 1)) := ⟨rfl, rfl, rfl, by decide +kernel, rfl, by decide +kernel, by decide +kernel⟩
instance anyP_solid : Solid (anyP (T := T)) := ⟨fun _ _ _ _ _ _ h => h⟩
theorem ok_Levels_init (W : Wd K mg) : FnR P w K mg base CX0 3 (He.ma K (He.ga K "Levels") "__init__") (spLevInit T K) := by
  obtain ⟨fd, Fd⟩ := W.d_Levels_init
  have b : Binds K fd ["self", "lottery", "steps"] [] := Fd.bindsN fun _ _ _ _ _ _ us hl => match us, hl with | [_, _, _], _ => rfl
  refine fn_any (T := T) Fd scLevInit b (fun vs H Q E ⟨a, dx, H0, us, ts, ws, e, _, _, _, _, _, hs, _⟩ => by rw [e, List.length_cons, hs.len]; rfl) fun cdv A0 outer s H vs Q E hr hsp => ?_
  obtain ⟨a, dx, H0, us, ts, ws, rfl, hi, n1, n2, g0, ⟨l1, l2⟩, hs, hQ⟩ := hsp
  obtain ⟨lv, sv, rfl, h1, h2⟩ := sat2 hs
  refine ss_sl (dx := dx) 0 rfl (ee_dictT hr l1 W.f_dict (ee_var 1 rfl ((dtP (frP K) ts).st _ _ _ g0 h1))).x W.s_Levels W.Levels_lottery fun v1 H1 ⟨g1, hv1⟩ => ?_
  have i1 := hi.gr g1
  refine ⟨[], i1.slt, ?_⟩
  have S1 : Gr T H0 _ := (g0.trans g1).put (vs' := SlX.putS 0 v1 []) n1 n2 i1
  have I1 : Ins (SlX.slH H1 a (He.ga K "Levels") dx (SlX.putS 0 v1 [])) a (He.ga K "Levels") dx _ := Ins.put hi.1
  have l1' := i1.keepP (vs' := SlX.putS 0 v1 []) (P := dtP (frP K) ts) hv1
  generalize SlX.slH H1 a (He.ga K "Levels") dx (SlX.putS 0 v1 []) = K1 at S1 I1 l1' ⊢
  refine ss_sl (dx := dx) 0 rfl (NewL.x (NewC.nl <| nc_lcP 3 4 (R1 := fun _ : Unit => anyP) (R2 := fun _ : Unit => anyD T) (Ro := fun _ : Unit => anyP) (keep := fun _ => true) (src_list (ee_var 2 rfl ((lstP K (stpP T K) ws).st _ _ _ S1 h2))) (by omega) scLevInit.nd (blkX scLevInit [("people", 3), ("weights", 4)])
    (fun _ _ _ _ _ _ _ _ _ _ _ _ _ => ets_nil) (fun zs v v' H' D ls _ g hv hv' _ hD s H C cl fp => EE.en (EE.imp (P' := anyP) (ee_pair (ee_var 3 rfl hv) (ee_dictAny W.f_dict (ee_var 4 rfl hv'))) fun _ _ _ _ => trivial) hD trivial) (pgP 3 4 scLevInit.nd rfl rfl rfl rfl rfl))) W.s_Levels W.Levels_steps fun v2 H2 ⟨g2, Ll, rs, e2, p2, l2', k2⟩ => ?_
  have i2 := I1.gr g2
  refine ⟨_, i2.slt, ?_⟩
  have S2 : Gr T H0 _ := (S1.trans g2).put (vs' := SlX.putS 1 v2 (SlX.putS 0 v1 [])) n1 n2 i2
  have I2 : Ins (SlX.slH H2 a (He.ga K "Levels") dx (SlX.putS 1 v2 (SlX.putS 0 v1 []))) a (He.ga K "Levels") dx _ := Ins.put hi.1
  have l2'' := i2.keepP (vs' := SlX.putS 1 v2 (SlX.putS 0 v1 [])) (P := dtP (frP K) ts) ((dtP (frP K) ts).st _ _ _ g2 l1')
  exact ss_nil (T := T) (hQ _ S2 ⟨a, dx, SlX.putS 1 v2 (SlX.putS 0 v1 []), rfl, I2, v1, rfl, l2''⟩)
end
end Pan
set_option maxHeartbeats 2000000
namespace Pan
open PySem PySem.Spec PyProof.Rows L2
theorem fix_next : ∀ k < 7, mergeM (fixK k) [((k : Int), ((1, 1) : Fr))] = fixK (k + 1) := by decide +kernel
theorem fix_new : ∀ k < 7, (valM (fixK k) (k : Int)).isSome = false := by decide +kernel
section
variable {T : List (Addr × Str)} {P : Program} {w : World} {K : PySem.W.Frag} {mg : Str → Option Value} {base : Heap}
theorem step_cut {z : StepM} {v : V} {H : Hp} {m : List Addr} (hm : ∀ b ∈ m, ∀ o, H b = some o → isM o) (h : (stepP T K z).p v H) : ∃ a dx vs v0 v1 v2, v = .ref a ∧ Ins (cut H m) a (He.ga K "Step") dx vs ∧ (vs[0]? = some (some v0) ∧ (dtP (T := T) (frP K) (stepL z)).p v0 (cut H m)) ∧ (vs[1]? = some (some v1) ∧ (frP (T := T) K (stepVal z)).p v1 (cut H m)) ∧ vs[2]? = some (some v2) ∧ (dkP (T := T) (frP K) (stepW z)).p v2 H := by
  obtain ⟨a, dx, vs, e, hi, ⟨v0, q0, h0⟩, ⟨v1, q1, h1⟩, v2, q2, h2⟩ := h
  exact ⟨a, dx, vs, v0, v1, v2, e, hi.soft hm, ⟨q0, Soft.s _ _ _ hm h0⟩, ⟨q1, Soft.s _ _ _ hm h1⟩, q2, h2⟩
/-- the pairs stand a change of a list, of a dict -/
theorem stp_upd {xs : List V} {us : List Unit} {H : Hp} {b : Addr} {o o' : HO} (hb : H b = some o) (k : (∃ ys zs, o = .lst ys ∧ o' = .lst zs) ∨ ∃ ys zs, o = .dK ys ∧ o' = .dK zs) (h : All2 (stpP T K) xs us H) : All2 (stpP T K) xs us (upd H b o') := by
  induction xs generalizing us with
  | nil => cases us with
    | nil => exact trivial
    | cons _ _ => exact h.elim
  | cons x xs ih => cases us with
    | nil => exact h.elim
    | cons u us =>
      refine ⟨?_, ih h.2⟩
      obtain ⟨t, y, z, e, h1, _, c, kvs, e2, h2⟩ := h.1
      refine ⟨t, y, z, e, h1.imp (fun r => ?_) id, trivial, ?_⟩
      · have n : t ≠ b := fun e => by
          rcases r with r | ⟨q, r⟩ <;> rw [e, hb] at r <;> rcases k with ⟨_, _, k, _⟩ | ⟨_, _, k, _⟩ <;> rw [k] at r <;> exact nomatch r
        exact r.imp (fun r => (upd_ne n).trans r) fun ⟨q, r⟩ => ⟨q, (upd_ne n).trans r⟩
      · by_cases e3 : c = b
        · rcases k with ⟨ys, zs, k1, k2⟩ | ⟨ys, zs, k1, k2⟩
          · rcases h2 with r | ⟨q, r⟩ <;> rw [e3, hb, k1] at r <;> exact nomatch r
          · exact ⟨c, zs, e2, .inl (by rw [e3, k2]; exact upd_same)⟩
        · exact ⟨c, kvs, e2, h2.imp (fun r => (upd_ne e3).trans r) fun ⟨q, r⟩ => ⟨q, (upd_ne e3).trans r⟩⟩
def okLev (p : PoolM) : Prop := okPan p ∧ drawsM p = true ∧ p.rows.length ≤ 6
def spLevels (T : List (Addr × Str)) (K : PySem.W.Frag) : Sp := fun vs H Q _ => ∃ p : PoolM, LamX.Tabs T H ∧ okLev p ∧ Sat [poolP T K p] vs H ∧ ∀ v H', Gr T H H' → (levP T K [(allI p.rows.length, (1, 1))]).p v H' → Q v H'
theorem scLevels : FnScope ["pool", "fixed", "found", "lottery", "step", "people", "person"] ["pool"] (defScope (top 38)) := ⟨rfl, rfl, rfl, by decide +kernel, rfl, by decide +kernel, by decide +kernel⟩
theorem ss_unp3n {X : Cx} {σ : L2.St} {H : Hp} {rest : List Stmt} {D : Ends} {x y z : Str} {p1 p2 p3 p4 p5 p6 p7 p8 pos : Pos} {kt k2 : Nat} (i j l : Nat) (hN : X.N.Nodup) (q : ∀ d f t Hx, H d = none → H f = none → Gr T H Hx → Hx d = some (.dK []) → Hx f = some (.lst []) → SS T X rest (((σ.set i (some (.ref d))).set j (some (.ref f))).set l (some (.ref t))) Hx D)
    (hc : X.calm = true := by rfl) (hi : X.N[i]? = some x := by rfl) (hj : X.N[j]? = some y := by rfl) (hl : X.N[l]? = some z := by rfl) (hx : Loc X.env.scope x := by first | exact Or.inl rfl | exact Or.inr rfl) (hy : Loc X.env.scope y := by first | exact Or.inl rfl | exact Or.inr rfl) (hz : Loc X.env.scope z := by first | exact Or.inl rfl | exact Or.inr rfl)
    (hf : X.fn x = true ∨ X.env.scope.names.lookup x = some .local := by first | exact .inl rfl | exact .inr rfl) (hf2 : X.fn y = true ∨ X.env.scope.names.lookup y = some .local := by first | exact .inl rfl | exact .inr rfl) (hf3 : X.fn z = true ∨ X.env.scope.names.lookup z = some .local := by first | exact .inl rfl | exact .inr rfl)
    (hs : swapsWithSole [.Tuple [.Name x p1, .Name y p2, .Name z p3] kt p4] (.Tuple [.Dict [] [] p5, .List [] p6, .Dict [] [] p7] k2 p8) pos.line X.env = pure false := by rfl)
    (hw : swappedStores [.Tuple [.Name x p1, .Name y p2, .Name z p3] kt p4] (.Tuple [.Dict [] [] p5, .List [] p6, .Dict [] [] p7] k2 p8) X.env = pure none := by rfl)
    (h1 : (assignEach [.Tuple [.Name x p1, .Name y p2, .Name z p3] kt p4] X.env).map (·.2) = [assign (.Tuple [.Name x p1, .Name y p2, .Name z p3] kt p4) X.env] := by rfl)
    (hn : (assignEach [.Name x p1, .Name y p2, .Name z p3] X.env).length = 3 := by rfl) (hst0 : (assignEach [.Name x p1, .Name y p2, .Name z p3] X.env).findIdx? (·.1) = none := by rfl)
    (b1 : (assignEach [.Name x p1, .Name y p2, .Name z p3] X.env).map (·.2) = assign (.Name x p1) X.env :: (assignEach [.Name y p2, .Name z p3] X.env).map (·.2) := by rfl) (b2 : (assignEach [.Name y p2, .Name z p3] X.env).map (·.2) = assign (.Name y p2) X.env :: (assignEach [.Name z p3] X.env).map (·.2) := by rfl) (b3 : (assignEach [.Name z p3] X.env).map (·.2) = assign (.Name z p3) X.env :: (assignEach [] X.env).map (·.2) := by rfl)
    (a1 : starEach [.Dict [] [] p5, .List [] p6, .Dict [] [] p7] X.env = (false, eval (.Dict [] [] p5) X.env) :: starEach [.List [] p6, .Dict [] [] p7] X.env := by rfl) (a2 : starEach [.List [] p6, .Dict [] [] p7] X.env = (false, eval (.List [] p6) X.env) :: starEach [.Dict [] [] p7] X.env := by rfl) (a3 : starEach [.Dict [] [] p7] X.env = (false, eval (.Dict [] [] p7) X.env) :: starEach [] X.env := by rfl) :
    SS T X (.Assign [.Tuple [.Name x p1, .Name y p2, .Name z p3] kt p4] (.Tuple [.Dict [] [] p5, .List [] p6, .Dict [] [] p7] k2 p8) pos :: rest) σ H D :=
  ss_cons (S1.of (ps_asg (pe_tup (pa_cons pe_dnewK (pa_cons (pe_lst pa_nil) (pa_cons pe_dnewT pa_nil a3) a2) a1)) (pg_tup hc (pgs_cons (pg_name hN hi hx hf) (pgs_cons (pg_name hN hj hy hf2) (pgs_cons (pg_name hN hl hz hf3) pgs_nil b3) b2) b1) hn hst0) hs hw h1) (fun d hd => ⟨Nat.zero_le _, fun f hf t ht => ⟨(by decide : (3 : Nat) ≤ sizeLine), fun u hu => by
    have f0 : H f = none ∧ f ≠ d := by
      have e : f ≠ d := fun e => by rw [e, upd_same] at hf; exact nomatch hf
      exact ⟨by rwa [upd_ne e] at hf, e⟩
    have g1 : Gr T H (upd H d (.dK [])) := .new hd
    have g2 := g1.trans (.new (o := .lst []) hf)
    have g3 := g2.trans (.new (o := .dT []) ht)
    have g4 := g3.trans (.new (o := .tup [.ref d, .ref f, .ref t]) hu)
    have d2 : upd (upd H d (.dK [])) f (.lst []) d = some (.dK []) := by rw [upd_ne f0.2.symm, upd_same]
    have d4 := (Gr.new (T := T) (o := .tup [.ref d, .ref f, .ref t]) hu).dK ((Gr.new (T := T) (o := .dT []) ht).dK d2)
    have l4 := (Gr.new (T := T) (o := .tup [.ref d, .ref f, .ref t]) hu).lst ((Gr.new (T := T) (o := .dT []) ht).lst upd_same)
    exact ⟨u, [.ref d, .ref f, .ref t], rfl, SqT.of upd_same, rfl, _, _, rfl, _, _, rfl, _, _, rfl, rfl, q d f t _ hd f0.1 g4 d4 l4⟩⟩⟩))
end
end Pan
set_option maxHeartbeats 2000000
namespace Pan
open PySem PySem.Spec PyProof.Rows L2
section
variable {T : List (Addr × Str)} {P : Program} {w : World} {K : PySem.W.Frag} {mg : Str → Option Value} {base : Heap}
theorem ok_levels_of (W : Wd K mg) (B : BadT T K mg base) : FnR P w K mg base CX0 8 (He.ga K "levels_of") (spLevels T K) := by
  obtain ⟨fd, Fd⟩ := W.d_g_levels_of
  have b : Binds K fd ["pool"] [] := Fd.bindsN fun _ _ _ _ _ _ us hl => match us, hl with | [_], _ => rfl
  refine fn_any (T := T) Fd scLevels b (fun vs H Q E ⟨p, _, _, hs, _⟩ => by rw [hs.len]; rfl) fun cdv A0 outer s H vs Q E hr hsp => ?_
  obtain ⟨p, hT, ⟨hpan, hdr, hn6⟩, hs, hQ⟩ := hsp
  obtain ⟨pv, rfl, h1⟩ := sat1 hs
  have Ls := ok_Step_init (T := T) (P := P) (w := w) (base := base) W B
  have Ll := ok_Levels_init (T := T) (P := P) (w := w) (base := base) W
  have hn : p.rows.length ≤ 8 := hpan.n
  have hn1 : 1 ≤ p.rows.length := hpan.1.2.2.2.1
  refine ss_unp3n (T := T) 1 2 3 scLevels.nd fun d l t H1 hd hl g1 hd1 hl1 => ?_
  refine ss_while (T := T) (fun m σ' H' => ∃ (k : Nat) (F : Hp) (kvs : List (Key × V)) (xs : List V) (lv : V) (u4 u5 : Option V), m + k = p.rows.length ∧ σ' = [some pv, some (.ref d), some (.ref l), some lv, u4, u5, none] ∧ Gr T H F ∧ F d = none ∧ F l = none ∧ Gr T F H' ∧ H' d = some (.dK kvs) ∧ H' l = some (.lst xs) ∧
    DK2 kI (frP (T := T) K) kvs (fixK k) F ∧ xs.length = k ∧ All2 (stpP T K) xs (List.replicate k ()) H' ∧ (1 ≤ k → (dtP (T := T) (frP K) [(allI p.rows.length, ((1, 1) : Fr))]).p lv F)) p.rows.length ⟨0, H, [], [], .ref t, none, none, rfl, rfl, .refl _, hd, hl, g1, hd1, hl1, trivial, rfl, trivial, fun h => absurd h (by decide)⟩ PassesOwn.never ?_
  rintro m σ' H' ⟨k, F, kvs, xs, lv, u4, u5, hmk, rfl, gF, Fd0, Fl0, gH, hd', hl', kf, hxl, kx, klv⟩
  have fl : (fixK k).length = k := by simp [fixK]
  have G' := gF.trans gH
  refine ⟨decide ((k : Int) < (p.rows.length : Int)), et_lt (EE.cast (ee_lenK (R := frP K) (zs := fixK k) W.f_len (ee_var 1 rfl ⟨d, kvs, rfl, .inl hd', kf.st gH⟩)) (by rw [fl])) (ee_lenP W W.f_len hr hn (ee_var 0 rfl ((poolP T K p).st _ _ _ G' h1))), fun ht H2 g2 => ?_, fun hf H2 g2 => ?_⟩
  · have hk : k < p.rows.length := by have := of_decide_eq_true ht; omega
    obtain ⟨ok, v1, w1, l1⟩ := steps_ok p.rows.length (by omega) k hk
    have g2' := gH.trans g2
    have hd2 := g2.dK hd'
    have hl2 := g2.lst hl'
    refine ssx_set 4 (ex_make (T := T) (E := fun _ _ _ => False) (R := fun v H' => Gr T H2 H' ∧ (stepP T K ⟨p.rows.length, fixK k⟩).p v H') (Ps := [poolP T K p, dkP (frP K) (fixK k)]) W.mk_Step Ls hr W.mg_Step (ea_cons (ee_var 0 rfl ((poolP T K p).st _ _ _ (gF.trans g2') h1)) (ea_cons (ee_var 1 rfl ⟨d, kvs, rfl, .inl hd2, kf.st g2'⟩) ea_nil)) fun ws H3 a dx g3 hws a1 a2 a3 => ⟨a, dx, H3, ws, p, fixK k, rfl, Ins.made a1 a2 a3, a1, a2, gr_made a1 a2 a3, ((gF.trans g2').trans g3).tab hT, ⟨hpan, hdr, ok⟩, hws, fun H' g h => ⟨rfl, g3.trans g, h⟩⟩) scLevels.nd fun sv H3 ⟨g3, hsv⟩ => ?_
    have hd3 := g3.dK hd2
    have hl3 := g3.lst hl2
    have ne : d ≠ l := ne_of hd3 hl3 (fun z => nomatch z)
    have hmM : ∀ {Hx : Hp} {q1 : List (Key × V)} {q2 : List V}, Hx d = some (.dK q1) → Hx l = some (.lst q2) → ∀ b ∈ [d, l], ∀ o, Hx b = some o → isM o := fun {Hx q1 q2} e1 e2 b hb o e => by
      rcases List.mem_cons.mp hb with k | k
      · rw [k, e1] at e; rw [← Option.some.inj e]; trivial
      · rw [List.mem_singleton.mp k, e2] at e; rw [← Option.some.inj e]; trivial
    have toC : ∀ {Fx Hx : Hp} {q1 : List (Key × V)} {q2 : List V}, Fx d = none → Fx l = none → Hx d = some (.dK q1) → Hx l = some (.lst q2) → Gr T Fx Hx → Gr T Fx (cut Hx [d, l]) := fun {Fx Hx q1 q2} f1 f2 e1 e2 g => g.toCut (by simpa using ⟨f1, f2⟩) (by simpa using ⟨calm_dK e1, calm_lst e2⟩)
    obtain ⟨a, dx, vs, v0, v1', v2, rfl, hi, ⟨q0, z0⟩, ⟨q1, z1⟩, q2, z2⟩ := step_cut (hmM hd3 hl3) hsv
    have gC := toC Fd0 Fl0 hd3 hl3 (g2'.trans g3)
    have n1 : cut H3 [d, l] d = none := cut_in (by simp)
    have n2 : cut H3 [d, l] l = none := cut_in (by simp)
    have gS : Gr T (cut H3 [d, l]) H3 := Gr.cut
    rw [l1] at z0
    rw [v1] at z1
    rw [w1] at z2
    generalize cut H3 [d, l] = F2 at hi z0 z1 gC n1 n2 gS
    have kf2 := kf.st gC
    have kx3 := (kx.st g2).st g3
    have hnew := fix_new k (by omega)
    -- people
    refine ss_set 5 (P := itP K [(k : Int)]) (EE.cast (ee_tupL W.f_tuple (EC.ee <| ec_lcIf 6 scLevels (Ro := intP) (keep := fun i : Int => !(valM (fixK k) i).isSome) (src_list (R := intP) (xs := [(k : Int)]) (ee_sorted1 W.f_sorted (ee_sl (ee_v (T := T) 4 rfl) fun v H4 g e => ⟨a, _, dx, _, vs, 2, v2, e, ((hi.gr gS).gr g).slt, W.s_Step, W.Step_weights, q2, (dkP (frP K) [((k : Int), ((1, 1) : Fr))]).st _ _ _ g z2⟩))) (by simp)
      (fun i v H4 hm g hv s Hb C cl fp => et_dnotin hr (ee_var 6 rfl hv) (ee_var 1 rfl ⟨d, kvs, rfl, .inl (g.dK hd3), kf2.st (gS.trans g)⟩)) (fun i v H4 hm hka g hv s Hb C cl fp => ee_var 6 rfl hv))) (by rw [List.filter_cons_of_pos (by simp [hnew])]; rfl)) scLevels.nd fun pe H4 g4 hpe => ?_
    have hd4 := g4.dK hd3
    have hl4 := g4.lst hl3
    -- found.append
    refine ss_append 2 rfl hl4 (by omega) (P := stpP T K ()) (ee_pair (EE.imp (P' := anyP) (ee_v (T := T) 5 rfl) fun _ _ _ _ => trivial) (EE.imp (P' := anyD T) (ee_sl (P1 := dkP (frP K) [((k : Int), ((1, 1) : Fr))]) (ee_v (T := T) 4 rfl) fun v H5 g e => ⟨a, _, dx, _, vs, 2, v2, e, (((hi.gr gS).gr g4).gr g).slt, W.s_Step, W.Step_weights, q2, (dkP (frP K) _).st _ _ _ (g4.trans g) z2⟩) fun v H5 _ ⟨c, ks, e, r, _⟩ => ⟨c, ks, e, r⟩)) fun v H5 g5 hv => ?_
    have hd5 := g5.dK hd4
    have hl5 := g5.lst hl4
    have kx6 := stp_upd (o' := .lst (xs ++ [v])) hl5 (.inl ⟨_, _, rfl, rfl⟩) (((kx3.st g4).st g5).snoc hv)
    have gS6 : Gr T F2 (upd H5 l (.lst (xs ++ [v]))) := ((gS.trans g4).trans g5).mut n2 (calm_lst hl5)
    have hd6 : upd H5 l (.lst (xs ++ [v])) d = some (.dK kvs) := (upd_ne ne).trans hd5
    have hl6 : upd H5 l (.lst (xs ++ [v])) l = some (.lst (xs ++ [v])) := upd_same
    have hpe6 : (itP (T := T) K [(k : Int)]).p pe (upd H5 l (.lst (xs ++ [v]))) := Solid.upd ((itP K [(k : Int)]).st _ _ _ g5 hpe) hl5 (.refl _)
    generalize upd H5 l (.lst (xs ++ [v])) = H6 at kx6 gS6 hd6 hl6 hpe6 ⊢
    -- fixed.update
    refine ss_update 1 rfl hd6 (by rw [kf2.length, fl]; omega) (nk_dc 6 scLevels (Kk := fun i : Int => i) (Ro := fun _ : Int => frP K (1, 1)) (keep := fun _ => true) (src_tup (R := intP) (xs := [(k : Int)]) (ee_var 5 rfl hpe6)) (by simp) (fun _ _ _ _ _ _ _ _ _ _ _ => ets_nil) (fun i v H7 _ _ g hv s Hb C cl fp => ee_var 6 rfl hv)
      (fun i v H7 _ _ g hv s Hb C cl fp => ee_sl (ee_v (T := T) 4 rfl) fun v H8 g' e => ⟨a, _, dx, _, vs, 1, v1', e, ((hi.gr gS6).gr (g.trans g')).slt, W.s_Step, W.Step_value, q1, (frP K _).st _ _ _ ((gS6.trans g).trans g') z1⟩)) (fun more H7 b g7 hlm hb hmb hS => ?_) fun more H7 hS => ?_
    · have hd7 := g7.dK hd6
      have hl7 := g7.lst hl6
      have kx8 := stp_upd (o' := .dK (mergeK kvs more)) hd7 (.inr ⟨_, _, rfl, rfl⟩) (kx6.st g7)
      have gS8 : Gr T F2 (upd H7 d (.dK (mergeK kvs more))) := (gS6.trans g7).mut n1 (calm_dK hd7)
      have hd8 : upd H7 d (.dK (mergeK kvs more)) d = some (.dK (mergeK kvs more)) := upd_same
      have hl8 : upd H7 d (.dK (mergeK kvs more)) l = some (.lst (xs ++ [v])) := (upd_ne ne.symm).trans hl7
      have km : DK2 kI (frP (T := T) K) more [((k : Int), ((1, 1) : Fr))] H7 := DK2.st .del (DK2.imp (f := fun _ : Int => ((1, 1) : Fr)) (R' := frP K) (fun _ _ h => h) hS)
      have kmc : DK2 kI (frP (T := T) K) more [((k : Int), ((1, 1) : Fr))] (cut (upd H7 d (.dK (mergeK kvs more))) [d, l]) := by
        have e : cut (upd H7 d (.dK (mergeK kvs more))) [d, l] = cut H7 [d, l] := by
          funext c
          by_cases h : c ∈ [d, l]
          · rw [cut_in h, cut_in h]
          · rw [cut_out h, cut_out h, upd_ne fun q => h (by rw [q]; simp)]
        rw [e]
        exact km.soft (hmM hd7 hl7)
      generalize upd H7 d (.dK (mergeK kvs more)) = H8 at kx8 gS8 hd8 hl8 kmc ⊢
      refine ss_set 3 (P := eqP v0) (ee_sl (P1 := eqP v0) (ee_v (T := T) 4 rfl) fun v H9 g e => ⟨a, _, dx, _, vs, 0, v0, e, ((hi.gr gS8).gr g).slt, W.s_Step, W.Step_lottery, q0, rfl⟩) scLevels.nd fun v9 H9 g9 hv9 => ?_
      obtain rfl : v9 = v0 := hv9
      have hd9 := g9.dK hd8
      have hl9 := g9.lst hl8
      have gD := toC n1 n2 hd9 hl9 (gS8.trans g9)
      have gE : Gr T (cut H8 [d, l]) (cut H9 [d, l]) := toC (cut_in (by simp)) (cut_in (by simp)) hd9 hl9 (Gr.cut.trans g9)
      have kfin := DK2.merge (kmc.st gE) (kf2.st gD)
      rw [fix_next k (by omega)] at kfin
      exact ss_nil (T := T) ⟨m - 1, by omega, k + 1, cut H9 [d, l], mergeK kvs more, xs ++ [v], v9, _, _, by omega, rfl, (gF.trans gC).trans gD, cut_in (by simp), cut_in (by simp), Gr.cut, hd9, hl9, kfin, by rw [List.length_append, hxl]; rfl, by rw [List.replicate_succ']; exact kx8.st g9, fun _ => (dtP (frP K) _).st _ _ _ gD z0⟩
    · rw [hS.length]
      exact (by decide : (1 : Nat) ≤ 1000)
  · have hk : k = p.rows.length := by have := of_decide_eq_false hf; omega
    subst hk
    exact ssx_ret (ex_make (T := T) (E := fun _ _ _ => False) (R := fun v H' => Gr T H H' ∧ (levP T K [(allI p.rows.length, (1, 1))]).p v H') (Ps := [dtP (frP K) [(allI p.rows.length, ((1, 1) : Fr))], lstP K (stpP T K) (List.replicate p.rows.length ())]) W.mk_Levels Ll hr W.mg_Levels (ea_cons (ee_var 3 rfl ((dtP (frP K) _).st _ _ _ (gH.trans g2) (klv hn1))) (ea_cons (ee_var 2 rfl ⟨l, xs, rfl, .inl (.inl (g2.lst hl')), kx.st g2⟩) ea_nil)) fun ws H3 a dx g3 hws a1 a2 a3 => ⟨a, dx, H3, ws, _, _, rfl, Ins.made a1 a2 a3, a1, a2, gr_made a1 a2 a3, ⟨Nat.le_refl _, by rw [List.length_replicate]; omega⟩, hws, fun H' g h => ⟨rfl, (G'.trans g2).trans (g3.trans g), h⟩⟩) fun v H4 ⟨g4, h⟩ => hQ v H4 g4 h
end
end Pan
set_option maxHeartbeats 1000000
/-! The items of a locked dict by tuples. -/
namespace L2
open PySem PySem.Spec PyProof.Rows
section
variable {X : Cx} {pins : List (Addr × Obj)} {σ : St} {H : Hp} {s : Shared} {d : Addr} {o : Obj}
theorem Inv.frzTV {kvs : List (List Key × V)} (I : Inv X pins σ H s) (h : H d = some (.frz o (.dT kvs))) :
    (d == sysModules) = false ∧ s.heap.get? d = some o ∧ o.ExactDict ∧ ∃ (es : Array DictEntry) (ep : Nat), o.data = .dict es ep ∧ es.size = kvs.length ∧
      ∀ (i : Nat) (k : List Key) (v : V), kvs[i]? = some (k, v) → ∃ (en : DictEntry) (q : Addr), es[i]? = some en ∧ en.key = .ref q ∧ H q = some (.tup (k.map kV)) ∧ RelV v en.val := by
  obtain ⟨hd, z, hs, xs, pr, o', es, ep, ho, hx, hdt, he, _⟩ := I.hok d _ h
  rw [hd] at ho
  cases ho
  refine ⟨hs, hd, hx, es, ep, hdt, ?_, fun i k v e => ?_⟩
  · have z1 : es.size = xs.length := size_of_entries he
    have z2 : kvs.length = xs.length := Paired.length pr
    omega
  · obtain ⟨y, hy, e1, e2, e3⟩ := paired_get pr e
    have q := entry_at he i
    rw [hy] at q
    exact ⟨_, y.2.1, q, rfl, e2, e3⟩
end
def Itti (d : Addr) (o : Obj) (kvs : List (List Key × V)) : It :=
  ⟨fun i H => H d = some (.frz o (.dT kvs)) ∧ i < kvs.length, fun i H x H' => ∃ t k v q, kvs[i]? = some (k, v) ∧ x = .ref t ∧ H t = none ∧ H q = some (.tup (k.map kV)) ∧ H' = upd H t (.tup [.ref q, v]), fun i H => H d = some (.frz o (.dT kvs)) ∧ kvs.length ≤ i⟩
section
variable {P : Program} {w : World} {K : PySem.W.Frag} {d : Addr} {o : Obj} {es : Array DictEntry} {ep : Nat}
theorem turn_itemsT {kvs : List (List Key × V)} {elts : List Expr} {kk : Nat} {tpos : Pos} (it : Addr) (hod : o.data = .dict es ep) :
    Turn P w K (.Tuple elts kk tpos) (Itti d o kvs) [it] it (fun i h => ∃ ok ov, IsItemIter h it d i kvs.length ep ok ov) where
  mem := by simp
  obj := fun i h st b hb => by
    obtain rfl : b = it := by simpa using hb
    obtain ⟨ok, ov, e⟩ := st
    exact ⟨_, e, fun v z => nomatch z⟩
  keep := fun i h h' st k => let ⟨ok, ov, e⟩ := st; ⟨ok, ov, k it (by simp) _ e⟩
  item := by
    intro X hP hw hK hc i pins s σ H E I hf st hg
    subst hP hw hK
    obtain ⟨hd, hi⟩ := hg
    obtain ⟨hs, hgd, hx, es', ep', hdt, hsz, ent⟩ := I.frzTV hd
    obtain ⟨rfl, rfl⟩ := dict_ep hod hdt
    obtain ⟨⟨k, v⟩, hkv⟩ : ∃ p, kvs[i]? = some p := ⟨kvs[i], List.getElem?_eq_getElem hi⟩
    obtain ⟨en, q, hen, hkey, hq, hval⟩ := ent i k v hkv
    obtain ⟨ok, ov, he⟩ := st
    rw [← hsz] at he
    have hlt : it < s.heap.objs.size := Heap.lt_size he
    have hie : i < es'.size := by omega
    have hen2 : es'[i] = en := by
      have := Array.getElem?_eq_getElem hie
      rw [hen] at this
      exact (Option.some.inj this).symm
    refine wpAny_pyNext_items_item_raw he ⟨o, hgd, hx, hdt⟩ hie fun h' ho hT hz hk => ?_
    rw [hen2] at ho hT
    refine ⟨_, rfl, wpAny_letOwnedTupleGo_items (s := { s with heap := h' }) ho fun h'' he' sb => ?_⟩
    have hT2 : h''.get? s.heap.objs.size = some { cls := .type "tuple", data := .seq #[en.key, en.val] } := (sb.2 _ (Nat.ne_of_gt hlt)).trans hT
    have new : ObjOk X.prog X.w (upd H s.heap.objs.size (.tup [.ref q, v])) h'' s.heap.objs.size (.tup [.ref q, v]) :=
      ⟨by show 2 ≤ sizeLine; decide, [en.key, en.val], .cons hkey (.cons hval .nil), ⟨_, hT2, rfl, _, rfl⟩⟩
    have I1 : Inv X pins σ (upd H s.heap.objs.size (.tup [.ref q, v])) { s with heap := h'' } :=
      I.turnedNew (t' := s.toks) (ch := [it]) (fun b ob hb e => (sb.2 b (by simpa using hb)).trans (hk b ob (by simpa using hb) e)) hf (Nat.le_refl _) new
    refine ⟨.ref s.heap.objs.size, _, I1, rfl, ⟨_, k, v, q, hkv, rfl, I.hok.fresh (Nat.le_refl _), hq, rfl⟩, ⟨en.key, en.val, ?_⟩, fun b hb => ?_⟩
    · rw [← hsz]; exact he'
    · obtain rfl : b = it := by simpa using hb
      rw [upd_ne (Nat.ne_of_lt hlt)]
      exact (hf b (by simp)).1
  done := by
    intro X hP hw hK hc i pins s σ H E I hf st hg
    subst hP hw hK
    obtain ⟨hd, hi⟩ := hg
    obtain ⟨a0, a1, a2, a3, a4, a5⟩ := hf it (by simp)
    obtain ⟨hs, hgd, hx, es', ep', hdt, hsz, ent⟩ := I.frzTV hd
    obtain ⟨rfl, rfl⟩ := dict_ep hod hdt
    obtain ⟨ok, ov, he⟩ := st
    rw [← hsz] at he
    exact wpAny_pyNext_items_end_raw (I.ok.hd hc) he ⟨o, hgd, hx, hdt⟩ (by omega) fun h' eb => ⟨rfl, I.turned (t' := s.toks) (fun b ob hb e => eb b ob hb e) a0 a1 a3 a4 a5⟩
  self := fun A i s Q E st h => let ⟨_, _, e⟩ := st; PySem.W.kcp_self e h
end
def iItemsT (td : TE) : TI := fun σ H R => td σ H fun x H1 => ∃ d o kvs, x = .ref d ∧ H1 d = some (.frz o (.dT kvs)) ∧ R (Itti d o kvs) H1
theorem pi_itemsT {X : Cx} {e : Expr} {td : TE} {apos cpos : Pos} {elts : List Expr} {kk : Nat} {tpos : Pos} (he : PE X e td) (hbase : attributeBase e "items" X.env (eval e X.env) = eval e X.env := by rfl) (hline : (apos.endLine == cpos.line) = true := by rfl) :
    PI X (.Tuple elts kk tpos) (.Call (.Attribute e "items" apos) [] [] cpos) (iItemsT td) := by
  refine ⟨fun pins s σ H R I h => ?_⟩
  refine wpAny_Call_method (T := "dict") (id := "dict.items") hbase rfl hline PySem.F.plainAttrs_dict PySem.F.slot_dict_items PySem.F.type_dict_items (thn (he.run pins s σ H _ I h) fun u t ⟨x, H1, J, rx, d, o, kvs, ex, hd, q⟩ => ?_)
  subst ex
  obtain rfl : u = Value.ref d := rx
  obtain ⟨hs, hgd, hx, es, ep, hdt, hsz, ent⟩ := J.frzTV hd
  have hr : t.heap.DictRaw d es ep := ⟨o, hgd, hx, hdt⟩
  refine ⟨hr.typeIs, fun b q => by cases q; exact ⟨o, hgd, hx.2.1⟩, ?_⟩
  have J2 : Inv X pins σ H1 { t with heap := t.heap.push { cls := .type "dict_items", data := .fields #[.ref d] } } := J.kept (t' := t.toks) fun b ob q => Heap.get?_push_of_some _ q
  have fin : wpAny (model X.prog X.w) X.A (pyIter (.ref t.heap.objs.size)) (PIE X pins σ (.Tuple elts kk tpos) R) X.xe { t with heap := t.heap.push { cls := .type "dict_items", data := .fields #[.ref d] } } := by
    refine wpAny_pyIter_items_raw (d := d) ⟨_, Heap.get?_push_size _ rfl, rfl, rfl⟩ (hr.push _) (pi_one (tk := t.toks) J2 _ (turn_itemsT _ hdt) ⟨.none, .none, ?_⟩ q)
    rw [← hsz]
    exact Heap.get?_push_size _ rfl
  show wpAny _ _ (callWith cpos (.builtin "dict.items") [.ref d] [] []) _ X.xe t
  exact method_meetsIn PySem.F.slot_dict_items PySem.F.entry_dict_items rfl (PySem.evalArgs_none ⟨rfl, hr.typeIs, PySem.F.args_dict_items_1 _, _, meets_dict_items_raw d hs, ⟨es, ep, hr⟩, fin⟩)
theorem walk_itemsT {d : Addr} {o : Obj} {kvs : List (List Key × V)} : Walk (Itti d o kvs) kvs.length (fun H => H d = some (.frz o (.dT kvs))) (fun i H x H' => ∃ t k v q, kvs[i]? = some (k, v) ∧ x = .ref t ∧ H t = none ∧ H q = some (.tup (k.map kV)) ∧ H' = upd H t (.tup [.ref q, v])) :=
  ⟨fun _ _ hi q => ⟨q, hi⟩, fun _ q => ⟨q, Nat.le_refl _⟩, fun _ _ _ _ _ _ y => y⟩
end L2
set_option maxHeartbeats 1000000
namespace Pan
open PySem PySem.Spec PyProof.Rows L2
section
variable {T : List (Addr × Str)} {X : Cx} {e iter : Expr} {σ : L2.St} {H : Hp} {pos apos p2 : Pos} {α : Type} {R : α → Pr T} {ts : List (List Int × α)} {elts : List Expr} {z : Nat} {P : Pr T}
/-- d.items(), d locked -/
theorem src_itemsT {d : Addr} {od : Obj} {kvs : List (List Key × V)} (hd : H d = some (.frz od (.dT kvs))) (hk : DK2 kT R kvs ts H) (h : EE T X e σ H (eqP (.ref d))) (hbase : attributeBase e "items" X.env (eval e X.env) = eval e X.env := by rfl) (hline : (apos.endLine == pos.line) = true := by rfl) :
    Src T X (.Tuple elts z p2) (.Call (.Attribute e "items" apos) [] [] pos) σ H bNow ts (fun x => pairP X.K (itX T X.K x.1) (R x.2)) :=
  Src.of (pi_itemsT h hbase hline) fun H1 g Rr r => ⟨rfl, g, fun v H2 g2 e1 => by
    have g12 := g.trans g2
    refine ⟨d, od, kvs, e1, g12.frz hd, r _ H2 H2 g2 rfl ?_⟩
    rw [← hk.length]
    refine walk_itemsT.mono (fun H' g' => (g12.trans g').frz hd) fun i H' v H3 hi g' ⟨t, k, w, q, e3, e4, e5, e6, e7⟩ => ?_
    have g3 : Gr T H' H3 := by rw [e7]; exact .new e5
    obtain ⟨x, hx, hk1, hR⟩ := (hk.st ((g12.trans g').trans g3)).at e3
    refine ⟨g3, x, hx, t, .ref q, w, e4, .of (by rw [e7]; exact upd_same), ?_, hR⟩
    rw [show k = kT x.1 from hk1, kT_tup] at e6
    exact itX_of (g3.tup e6) (all_ints _)⟩
/-- while a dict is locked -/
theorem Gr.unlock {H H1 : Hp} {d : Addr} {o : Obj} {u : HO} (hd : H d = some u) (h2 : ∀ ps, u ≠ .tbl ps) (h3 : ∀ f, u ≠ .ext f) (g : Gr T (upd H d (.frz o u)) H1) : Gr T H (upd H1 d u) := by
  have hd1 : H1 d = some (.frz o u) := g.frz upd_same
  refine ⟨fun a w ha hn => ?_, fun t => tabs_upd (g.tab (tabs_upd t (calm_of hd h2 h3))) (calm_of hd1 (fun _ z => nomatch z) fun _ z => nomatch z), fun b hb => ?_⟩
  · by_cases e : a = d
    · rw [e, upd_same, ← ha, e, hd]
    · rw [upd_ne e]
      exact g.ext a w ((upd_ne e).trans ha) hn
  · by_cases e : b = d
    · rw [e, upd_same] at hb
      exact nomatch hb
    · rw [upd_ne e] at hb
      have := g.old b hb
      rwa [upd_ne e] at this
theorem Gr.lock {H H1 : Hp} {d : Addr} {o u : HO} (hd : H d = some u) (h2 : ∀ ps, u ≠ .tbl ps) (h3 : ∀ f, u ≠ .ext f) (hd1 : H1 d = some u) (ho : ∀ ps, o ≠ .tbl ps) (ho3 : ∀ f, o ≠ .ext f) (g : Gr T H H1) : Gr T (upd H d o) (upd H1 d o) := by
  refine ⟨fun a w ha hn => ?_, fun t => ?_, fun b hb => ?_⟩
  · by_cases e : a = d
    · rw [e, upd_same] at ha ⊢
      exact ha
    · rw [upd_ne e] at ha ⊢
      exact g.ext a w ha hn
  · have e : upd (upd H d o) d u = H := by
      funext b
      by_cases k : b = d
      · rw [k, upd_same, hd]
      · rw [upd_ne k, upd_ne k]
    have t' : LamX.Tabs T H := by rw [← e]; exact tabs_upd t (calm_of upd_same ho ho3)
    exact tabs_upd (g.tab t') (calm_of hd1 h2 h3)
  · by_cases e : b = d
    · rw [e, upd_same] at hb
      exact nomatch hb
    · rw [upd_ne e] at hb ⊢
      exact g.old b hb
theorem Soft.lock [S : Soft isD P] {v : V} {d : Addr} {o u : HO} (hd : H d = some u) (hu : isD u) (hc : Calm H d) (h : P.p v H) : P.p v (upd H d o) := by
  have hm : ∀ b ∈ [d], ∀ w, H b = some w → isD w := fun b hb w e => by
    rw [List.mem_singleton.mp hb, hd] at e
    rw [← Option.some.inj e]
    exact hu
  exact P.st _ _ _ (Gr.cut.mut (cut_in (m := [d]) (by simp)) hc) (S.s _ _ _ hm h)
theorem EE.lock [S : Soft isD P] {d : Addr} {kvs : List (List Key × V)} (hd : H d = some (.dT kvs)) (h : ∀ od, EE T X e σ (upd H d (.frz od (.dT kvs))) P) : EE T X e σ H P :=
  ⟨fun pins s σ' H1 Q I ⟨e1, g, r⟩ => by
    rw [e1] at I ⊢
    have hd1 := g.dT hd
    refine (pe_lock (t := fun σ' H' Q => σ' = σ ∧ (∃ od, Gr T (upd H d (.frz od (.dT kvs))) H') ∧ ∀ v H2, Gr T H' H2 → P.p v H2 → Q v H2) ⟨fun pins s σ2 H2 Q2 I2 ⟨e2, ⟨od, g2⟩, r2⟩ => (h od).run pins s σ2 H2 Q2 I2 ⟨e2, g2, r2⟩⟩).run pins s σ H1 Q I ⟨d, _, hd1, trivial, fun od => ⟨rfl, ⟨od, Gr.lock hd (fun _ z => nomatch z) (fun _ z => nomatch z) hd1 (fun _ z => nomatch z) (fun _ z => nomatch z) g⟩, fun v H2 g2 hv => ?_⟩⟩
    have hd2 : H2 d = some (.frz od (.dT kvs)) := g2.frz upd_same
    exact ⟨hd2, r v _ (Gr.unlock hd1 (fun _ z => nomatch z) (fun _ z => nomatch z) g2) (Soft.lock hd2 trivial (calm_of hd2 (fun _ z => nomatch z) fun _ z => nomatch z) hv)⟩⟩
end
end Pan
set_option maxHeartbeats 1000000
namespace Pan
open PySem PySem.Spec PyProof.Rows L2
section
variable {X : Cx} {x : Str} {p1 : Pos}
theorem pgNc {scope : Scope} (j : Nat) (hN : X.N.Nodup) (hi : X.N[j]? = some x) (hx : (relabel scope X.env).names.lookup x = some .cell) (hf : (scope.names.lookup x == some .cell) = true) (s : Shared) (H : Hp) (C : Addr) (cl : List (Str × Addr)) (fp : List Addr) : PG (bl X scope s H C cl fp) (.Name x p1) (gName j) :=
  pg_name (X := bl X scope s H C cl fp) hN hi (.inr hx) (.inl hf)
theorem blkX2 {N ps : List Str} {sc scope inner : Scope} {s : Shared} {H : Hp} {C : Addr} {cl : List (Str × Addr)} {fp : List Addr} (S : FnScope N ps sc) (own : List (Str × Nat)) (hN : X.N = N := by rfl) (hs : X.env.scope = sc := by rfl) (h : blkC N (relS scope sc) inner own = true := by decide +kernel) : BlkOk (bl X scope s H C cl fp).N (bl X scope s H C cl fp).env.scope inner own := by
  show BlkOk X.N (relS scope X.env.scope) inner own
  rw [hN, hs]
  exact blkOk_by h
end
section
variable {T : List (Addr × Str)} {X : Cx} {e : Expr} {σ : L2.St} {H : Hp} {P : Pr T} {α : Type} {R : α → Pr T} {ts : List (List Int × α)} {y : V}
theorem EE.lockD [hP : Soft isD P] [hR : ∀ a, Soft isD (R a)] (h : (dtP R ts).p y H) (q : ∀ (Hx : Hp) (d : Addr) (od : Obj) (kvs : List (List Key × V)), y = .ref d → Hx d = some (.frz od (.dT kvs)) → DK2 kT R kvs ts Hx → (∀ (Q : Pr T), Soft isD Q → ∀ v, Q.p v H → Q.p v Hx) → EE T X e σ Hx P) : EE T X e σ H P := by
  obtain ⟨d, kvs, rfl, rd | ⟨od, rd⟩, hk⟩ := h
  · have hm : ∀ b ∈ [d], ∀ w, H b = some w → isD w := fun b hb w e => by
      rw [List.mem_singleton.mp hb, rd] at e
      rw [← Option.some.inj e]
      trivial
    exact EE.lock rd fun od => q _ d od kvs rfl upd_same ((hk.soft hm).st (Gr.cut.mut (cut_in (m := [d]) (by simp)) (calm_dT rd))) fun Q hQ v hv => Soft.lock rd trivial (calm_dT rd) hv
  · exact q H d od kvs rfl rd hk fun Q _ v hv => hv
end
def chanM (ts : List (List Int × Fr)) (i : Int) : Fr := totalM ((ts.filter fun z => decide (i ∈ z.1)).map (·.2))
structure ChanM where
  p : PoolM
  ts : List (List Int × Fr)
def okChan (a : ChanM) : Prop := a.p.rows.length ≤ 8 ∧ a.ts.length ≤ 100 ∧ ∀ i : Nat, i < a.p.rows.length → okTotal (0, 1) ((a.ts.filter fun z => decide ((i : Int) ∈ z.1)).map (·.2))
section
variable {T : List (Addr × Str)} {P : Program} {w : World} {K : PySem.W.Frag} {mg : Str → Option Value} {base : Heap}
def spChances (T : List (Addr × Str)) (K : PySem.W.Frag) : Sp := prom T okChan (fun a => [poolP T K a.p, dtP (frP K) a.ts]) fun a => lstP K (frP K) ((List.range a.p.rows.length).map fun i : Nat => chanM a.ts (i : Int))
theorem scChances : FnScope ["pool", "lottery", "person", "panel", "chance"] ["pool", "lottery"] (defScope (top 34)) := ⟨rfl, rfl, rfl, by decide +kernel, rfl, by decide +kernel, by decide +kernel⟩
theorem ok_chances_of (W : Wd K mg) : FnR P w K mg base CX0 4 (He.ga K "chances_of") (spChances T K) := by
  obtain ⟨fd, F⟩ := W.d_g_chances_of
  have b : Binds K fd ["pool", "lottery"] [] := F.bindsN fun _ _ _ _ _ _ us hl => match us, hl with | [_, _], _ => rfl
  refine fn_prom F scChances b (fun _ => rfl) fun cdv A outer s H vs E a D hr ⟨hn, ht, hok⟩ hs q _ => ?_
  obtain ⟨x, y, rfl, h1, h2⟩ := sat2 hs
  have Lo := ok_total (T := T) (P := P) (w := w) (base := base) W
  refine ss_ret (P := lstP K (frP K) ((List.range a.p.rows.length).map fun i : Nat => chanM a.ts (i : Int))) ?_ fun v H2 g2 hv => q v H2 g2 hv
  refine EE.lockD h2 fun Hx d od kvs ey hd hk kp => ?_
  subst ey
  have hx := kp _ inferInstance _ h1
  refine EE.imp (P' := lstP K (frP K) ((List.range a.p.rows.length).map fun i : Nat => chanM a.ts (i : Int))) (EC.ee <| NewC.same (nc_lc 2 (keep := fun _ => true) (Ro := fun i : Nat => frP K (chanM a.ts (i : Int))) (src_range W.f_range (ee_lenP W W.f_len hr hn (ee_var 0 rfl hx)) (by omega)) (by rw [List.length_range]; omega) scChances.nd (blkX scChances [("person", 2)]) (fun _ _ _ _ _ _ _ _ _ _ _ => ets_nil)
    (fun i v H' D ls hm g hv _ hD s Hb C cl fp => EE.en (EE.cast (ee_callP (P := frP K (chanM a.ts (i : Int))) Lo W.g_total.mg W.g_total.kp hr ((a.ts.filter fun z => decide ((i : Int) ∈ z.1)).map (·.2)) ?_ (ea_cons ?_ ea_nil))) hD trivial) (pgNc 2 scChances.nd rfl rfl rfl)) (List.filter_eq_self.mpr fun _ _ => rfl)) fun v H1 g h => lst_map (R := frP K) (f := fun i : Nat => chanM a.ts (i : Int)) h
  · exact hok i (List.mem_range.mp hm)
  · obtain rfl := hv
    exact EE.imp (EC.ee <| NewC.same (nc_lcP 3 4 (R1 := fun z : List Int × Fr => itX T K z.1) (R2 := fun z : List Int × Fr => frP K z.2) (Ro := fun z : List Int × Fr => frP K z.2) (keep := fun z : List Int × Fr => decide ((i : Int) ∈ z.1)) (src_itemsT (R := frP K) (ts := a.ts) (g.frz hd) (hk.st g) (ee_v (T := T) 1 rfl)) (by omega) scChances.nd (blkX2 scChances [("panel", 3), ("chance", 4)])
      (fun z v v' H2 _ g2 hv hv' s2 Hc C2 cl2 fp2 => ets_one (et_inT (ee_v 2 rfl) (ee_var 3 rfl hv.1))) (fun z v v' H2 D2 ls2 _ g2 hv hv' _ hD2 s2 Hc C2 cl2 fp2 => EE.en (ee_var 4 rfl hv') hD2 trivial) (pgP 3 4 scChances.nd rfl rfl rfl rfl rfl)) rfl) fun v H1 g h => lst_map (R := frP K) (f := fun z : List Int × Fr => z.2) h
end
end Pan
set_option maxHeartbeats 1000000
/-! Defs that raise. -/
namespace Pan
open PySem PySem.Spec PyProof.Rows L2
section
variable {T : List (Addr × Str)} {P : Program} {w : World} {K : PySem.W.Frag} {mg : Str → Option Value} {base : Heap} {x qual : Str} {params : Arguments} {body : List Stmt} {scope : Scope} {f : Addr} {fd : FuncData} {N ps : List Str} {k : Nat}
theorem fn_exc {sp : Sp} (F : FunD K x qual params body scope [] [] f fd) (S : FnScope N ps scope) (hb : Binds K fd ps []) (hl : ∀ vs H Q E, sp vs H Q E → vs.length = ps.length)
    (h : ∀ (cdv : Value) (A : Around) (outer : List Env) (s : Shared) (H : Hp) (vs : List V) (Q : VK) (E : XK), Room k (A.deeper (envOfC qual scope s.heap.objs.size f cdv)) → sp vs H Q E → Takes (cxOf (L2.CX P w) P w K mg base N qual scope f cdv A outer s H E) (fun cls d _ H' => E cls d H') →
      SS T (cxOf (L2.CX P w) P w K mg base N qual scope f cdv A outer s H E) body (start N vs) H { nx := fun _ H' => Q .non H', rt := Q }) : FnR P w K mg base (L2.CX P w) (k + 1) f sp := by
  have G : FnOk P w K mg base (L2.CX P w) (k + 1) f fd ps sp := F.ok S hl fun cdv A outer s H vs Q E hr hs => ⟨_, h cdv A outer s H vs Q E hr hs (takes_of rfl rfl rfl rfl), rfl, rfl, rfl⟩
  intro A outer s H us vs Q E hr e0 r hs
  exact G.raw hb .nil A outer s H us vs Q E hr e0 r (by show sp (vs ++ []) H Q E; rw [List.append_nil]; exact hs)
theorem ss_raise {X : Cx} {σ : L2.St} {H : Hp} {rest : List Stmt} {D : Ends} {pos : Pos} {e : Expr} {W : WX} {t : L2.St → Hp → XK → Prop} (tk : Takes X W) (he : PMk X e t) (q : t σ H fun cls d H' => W cls d σ H') (hc : X.calm = true := by rfl) : SS T X (.Raise (some e) none pos :: rest) σ H D :=
  ss_cons (S1.of (ps_raise hc tk he) q)
end
end Pan
set_option maxHeartbeats 1000000
namespace Pan
open PySem PySem.Spec PyProof.Rows L2
section
variable {T : List (Addr × Str)} {P : Program} {w : World} {K : PySem.W.Frag} {mg : Str → Option Value} {base : Heap}
theorem Wd.x_BadPerson (W : Wd K mg) : PySem.W.excIn K (He.ga K "BadPerson") He.veBase "ValueError.__new__" = true ∧ PySem.W.keepIn K (.ref (He.ga K "BadPerson")) = true ∧ PySem.W.subIn K (.ref (He.ga K "BadPerson")) (.type "BaseException") = some true ∧ PySem.W.typeIn K (.ref (He.ga K "BadPerson")) = some (.type "type") := He.exc_ok (W.fact 82 _ rfl)
theorem Wd.x_TooLarge (W : Wd K mg) : PySem.W.excIn K (He.ga K "TooLarge") He.veBase "ValueError.__new__" = true ∧ PySem.W.keepIn K (.ref (He.ga K "TooLarge")) = true ∧ PySem.W.subIn K (.ref (He.ga K "TooLarge")) (.type "BaseException") = some true ∧ PySem.W.typeIn K (.ref (He.ga K "TooLarge")) = some (.type "type") := He.exc_ok (W.fact 83 _ rfl)
def spChkPer (T : List (Addr × Str)) (K : PySem.W.Frag) : Sp := fun vs H Q E => ∃ (p : PoolM) (i : Int), p.rows.length ≤ 8 ∧ Sat [poolP T K p, intP i] vs H ∧ ((0 ≤ i ∧ i < (p.rows.length : Int)) → ∀ H', Gr T H H' → Q .non H') ∧ (¬ (0 ≤ i ∧ i < (p.rows.length : Int)) → ∀ H', Gr T H H' → E (.ref (He.ga K "BadPerson")) none H')
theorem scChkPer : FnScope ["pool", "person"] ["pool", "person"] (defScope (top 27)) := ⟨rfl, rfl, rfl, by decide +kernel, rfl, by decide +kernel, by decide +kernel⟩
theorem ok_check_person (W : Wd K mg) : FnR P w K mg base (L2.CX P w) 3 (He.ga K "check_person") (spChkPer T K) := by
  obtain ⟨fd, F⟩ := W.d_g_check_person
  have b : Binds K fd ["pool", "person"] [] := F.bindsN fun _ _ _ _ _ _ us hl => match us, hl with | [_, _], _ => rfl
  refine fn_exc (T := T) F scChkPer b (fun vs H Q E ⟨p, i, _, hs, _⟩ => by rw [hs.len]; rfl) fun cdv A outer s H vs Q E hr ⟨p, i, hn, hs, q1, q2⟩ tk => ?_
  obtain ⟨x, y, rfl, h1, h2⟩ := sat2 hs
  have Lc := ok_check_pool (T := T) (P := P) (w := w) (base := base) W
  have Li := ok_is_integer (T := T) (P := P) (w := w) (base := base) W
  obtain ⟨x1, x2, x3, x4⟩ := W.x_BadPerson
  refine ss_expr (ee_callP (P := eqP .non) Lc W.g_check_pool.mg W.g_check_pool.kp hr p trivial (ea_cons (ee_var 0 rfl h1) ea_nil)) fun v H1 g1 _ => ?_
  refine ss_when (t := !(decide (0 ≤ i) && decide (i ≤ (p.rows.length : Int) - 1))) (et_not (et_val (ee_callP Li W.g_is_integer.mg W.g_is_integer.kp hr (i, 0, (p.rows.length : Int) - 1) trivial (ea_cons (ee_var 1 rfl h2) (ea_cons ee_int (ea_cons (ee_sub (ee_lenP W W.f_len hr hn (ee_var 0 rfl ((poolP T K p).st _ _ _ g1 h1))) ee_int) ea_nil)))))) (fun ht H2 g2 => ?_) fun hf H2 g2 => ?_
  · exact ss_raise tk (pmk_own PySem.F.excBase_ValueError x1 W.mg_BadPerson x2 (raises_own x3 x4) (by rfl)) (q2 (by simp at ht; omega) H2 (g1.trans g2))
  · exact ss_nil (q1 (by simp at hf; omega) H2 (g1.trans g2))
def fewM (p : PoolM) : Prop := p.rows.length ≤ 6 ∧ (rowsOfM p.quotas).length ≤ 9
instance (p : PoolM) : Decidable (fewM p) := inferInstanceAs (Decidable (_ ∧ _))
def spChkFew (T : List (Addr × Str)) (K : PySem.W.Frag) : Sp := fun vs H Q E => ∃ p : PoolM, okPool p ∧ Sat [poolP T K p] vs H ∧ (fewM p → ∀ H', Gr T H H' → Q .non H') ∧ (¬ fewM p → ∀ H', Gr T H H' → E (.ref (He.ga K "TooLarge")) none H')
theorem scChkFew : FnScope ["pool"] ["pool"] (defScope (top 42)) := ⟨rfl, rfl, rfl, by decide +kernel, rfl, by decide +kernel, by decide +kernel⟩
theorem ok_check_few (W : Wd K mg) : FnR P w K mg base (L2.CX P w) 3 (He.ga K "check_few") (spChkFew T K) := by
  obtain ⟨fd, F⟩ := W.d_g_check_few
  have b : Binds K fd ["pool"] [] := F.bindsN fun _ _ _ _ _ _ us hl => match us, hl with | [_], _ => rfl
  refine fn_exc (T := T) F scChkFew b (fun vs H Q E ⟨p, _, hs, _⟩ => by rw [hs.len]; rfl) fun cdv A outer s H vs Q E hr ⟨p, hp, hs, q1, q2⟩ tk => ?_
  obtain ⟨x, rfl, h1⟩ := sat1 hs
  have hn : p.rows.length ≤ 8 := hp.2.2.2.2.1
  have Lr := ok_rows_of (T := T) (P := P) (w := w) (base := base) W
  obtain ⟨x1, x2, x3, x4⟩ := W.x_TooLarge
  obtain ⟨t1, e1⟩ := W.MAX_FEW
  obtain ⟨t2, e2⟩ := W.MAX_TELLINGS
  refine ss_when (t := decide (¬ fewM p)) (ET.cast (et_w (ew_or (t := decide ((p.rows.length : Int) > 6)) (u := decide (((rowsOfM p.quotas).length : Int) > 9)) (et_gt (ee_lenP W W.f_len hr hn (ee_var 0 rfl h1)) (ee_gint e1)) fun _ H1 g1 => ew_or1 (et_gt (ee_lenL (R := itX T K) (xs := rowsOfM p.quotas) W.f_len (ee_callP Lr W.g_rows_of.mg W.g_rows_of.kp hr p hp (ea_cons (ee_var 0 rfl ((poolP T K p).st _ _ _ g1 h1)) ea_nil))) (ee_gint e2)))) ?_) (fun ht H2 g2 => ?_) fun hf H2 g2 => ?_
  · by_cases h : fewM p
    · have := h.1; have := h.2; simp [h]; omega
    · simp only [h, not_false_eq_true, decide_true]
      unfold fewM at h
      simp
      omega
  · exact ss_raise tk (pmk_own PySem.F.excBase_ValueError x1 W.mg_TooLarge x2 (raises_own x3 x4) (by rfl)) (q2 (of_decide_eq_true ht) H2 g2)
  · exact ss_nil (q1 (Decidable.not_not.mp (of_decide_eq_false hf)) H2 g2)
end
end Pan
set_option maxHeartbeats 1000000
/-! Mz: zip of a tuple and a list, as an argument of dict. -/
namespace Mz
open PySem
open PySem.Sem (wp)
/-- an iterator `it` over the sequence at `l`: its steps -/
structure Stp (prog : Program) (w : World) (it l : Addr) (val : Nat → Option Value) (St : Nat → Heap → Prop) : Prop where
  item : ∀ (A : Around) (E : Value → Shared → Prop) (s : Shared) (i : Nat) (x : Value) (Q : Value → Shared → Prop), St i s.heap → val i = some x →
    (∀ h', St (i + 1) h' → Heap.SameBut it s.heap h' → Q x { s with heap := h' }) → wpAny (model prog w) A (Builtin.SmallTypes.nextOf (.ref it)) Q E s
  stop : ∀ (A : Around) (E : Value → Shared → Prop) (s : Shared) (i : Nat) (Q : Value → Shared → Prop), A.handled = none → St i s.heap → val i = none →
    (∀ h' e, Heap.ExtBut it s.heap h' → (∃ o, h'.get? e = some o ∧ o.cls = .type "StopIteration") → E (.ref e) { s with heap := h' }) → wpAny (model prog w) A (Builtin.SmallTypes.nextOf (.ref it)) Q E s
  keep : ∀ (h h' : Heap) (i : Nat), St i h → (∀ o, h.get? it = some o → h'.get? it = some o) → (∀ o, h.get? l = some o → h'.get? l = some o) → St i h'
  there : ∀ (h : Heap) (i : Nat), St i h → (∃ o, h.get? it = some o) ∧ ∃ o, h.get? l = some o
section
variable {prog : Program} {w : World}
theorem stp_tup {it l : Addr} (ne : l ≠ it) (xs : Array Value) : Stp prog w it l (fun i => xs[i]?) (fun i h => h.IsTupleIter it l i ∧ h.IsTuple l xs) where
  item := fun A E s i x Q st hx q => RZ.nextOf_tuple_item st.1 st.2 hx fun h' a b => q h' ⟨a, by
    obtain ⟨o, h1, h2⟩ := st.2
    exact ⟨o, (b.2 l ne).trans h1, h2⟩⟩ b
  stop := fun A E s i Q hh st hx q => RZ.nextOf_tuple_end hh st.1 st.2 hx q
  keep := fun h h' i st k1 k2 => ⟨st.1.at k1, by
    obtain ⟨o, h1, h2⟩ := st.2
    exact ⟨o, k2 o h1, h2⟩⟩
  there := fun h i st => by
    obtain ⟨⟨o, h1, _⟩, o', h2, _⟩ := st
    exact ⟨⟨o, h1⟩, o', h2⟩
theorem stp_lst {it l : Addr} (ne : l ≠ it) (xs : Array Value) : Stp prog w it l (fun i => xs[i]?) (fun i h => h.IsListIter it l i ∧ h.IsList l xs) where
  item := fun A E s i x Q st hx q => wpAny_nextOf_list_item st.1 st.2 hx fun h' a b => q h' ⟨a, st.2.at fun o e => (b.2 l ne).trans e⟩ b
  stop := fun A E s i Q hh st hx q => wpAny_nextOf_list_end hh st.1 st.2 hx q
  keep := fun h h' i st k1 k2 => ⟨st.1.at k1, st.2.at k2⟩
  there := fun h i st => by
    obtain ⟨⟨o, h1, _⟩, o', h2, _⟩ := st
    exact ⟨⟨o, h1⟩, o', h2⟩
variable {A : Around} {E : Value → Shared → Prop} {s : Shared} {z TI TO T i1 i2 l1 l2 : Addr} {k : Nat} {x y a b : Value} {v1 v2 : Nat → Option Value} {S1 S2 : Nat → Heap → Prop}
theorem first (D : ZipApart z TI TO i1 i2 l1 l2) (P1 : Stp prog w i1 l1 v1 S1) (P2 : Stp prog w i2 l2 v2 S2) {Q : Value → Shared → Prop} (hz : IsZip s.heap z TI TO .none) (hTI : IsPair s.heap TI (.ref i1) (.ref i2)) (hTO : IsPair s.heap TO a b) (h1 : S1 k s.heap) (h2 : S2 k s.heap) (hx : v1 k = some x) (hy : v2 k = some y)
    (hQ : ∀ h', IsZip h' z TI TO (rawInt s.heap.objs.size) → S1 (k + 1) h' → S2 (k + 1) h' → IsPair h' s.heap.objs.size x y → (∀ c o, c ≠ z → c ≠ TO → c ≠ i1 → c ≠ i2 → s.heap.get? c = some o → h'.get? c = some o) → Q (.ref s.heap.objs.size) { s with heap := h' }) :
    wpAny (model prog w) A (Builtin.«zip.__next__» ⟨[.ref z], []⟩) (fun fin s' => ∃ v, fin = .done (.ret v) ∧ Q v s') E s := by
  refine id (?_ : wpAny _ _ (field (.ref z) 2 >>= _) _ _ _); refine wpAny_bind (wpAny_field hz rfl (x := .bool false) rfl ?_)
  refine id (?_ : wpAny _ _ (field (.ref z) 3 >>= _) _ _ _); refine wpAny_bind (wpAny_field hz rfl (x := .ref TI) rfl (wpAny_bind (wpAny_seqItems hTI rfl ?_)))
  refine id (?_ : wpAny _ _ (Builtin.SmallTypes.ownedTupleIsFree (.ref z) >>= _) _ _ _); refine wpAny_bind ?_
  unfold Builtin.SmallTypes.ownedTupleIsFree
  refine wpAny_bind (wpAny_field hz rfl (x := .none) rfl (wpAny_pure ?_)); simp only [if_true]
  refine wpAny_bind (wpAny_rule (wpAny_bind (wpAny_field hz rfl (x := .ref TO) rfl (wpAny_bind (wpAny_setField_rec hz (by simp) fun h₁ hz₁ hs₁ => ?_)))))
  have z1 : IsZip h₁ z TI TO .ellipsis := hz₁
  refine wpAny_bind ?_; simp only [List.zipIdx_cons, List.zipIdx_nil, List.forIn_cons, List.forIn_nil]
  refine wpAny_bind (wpAny_bind (wpAny_onRaise ?_)); refine id (?_ : wpAny _ _ (Builtin.SmallTypes.nextOf (.ref i1) >>= _) _ _ _)
  refine wpAny_bind (P1.item _ _ { s with heap := h₁ } k x _ (P1.keep _ _ _ h1 (fun o e => (hs₁.2 _ D.i1z).trans e) fun o e => (hs₁.2 _ D.l1z).trans e) hx fun h₂ q1 hs₂ => wpAny_pure ?_)
  have t2 : IsPair h₂ TO a b := hs₂.extBut _ _ D.TOi1 (hs₁.extBut _ _ D.TOz hTO)
  refine wpAny_bind (wpAny_seqItems t2 rfl (wpAny_bind (wpAny_updateSeq_pair t2 fun h₃ hTO₃ hs₃ => ?_)))
  have t3 : IsPair h₃ TO x b := hTO₃
  refine wpAny_bind (wpAny_letGo (wpAny_pure ?_)); refine wpAny_bind (wpAny_bind (wpAny_onRaise ?_)); refine id (?_ : wpAny _ _ (Builtin.SmallTypes.nextOf (.ref i2) >>= _) _ _ _)
  have e3 : ∀ c, c ≠ z → c ≠ i1 → c ≠ TO → h₃.get? c = s.heap.get? c := fun c c1 c2 c3 => (hs₃.2 c c3).trans ((hs₂.2 c c2).trans (hs₁.2 c c1))
  refine wpAny_bind (P2.item _ _ { s with heap := h₃ } k y _ (P2.keep _ _ _ h2 (fun o e => (e3 _ D.i2z D.i12.symm D.TOi2.symm).trans e) fun o e => (e3 _ D.l2z D.l2i1 D.l2TO).trans e) hy fun h₄ q2 hs₄ => wpAny_pure ?_)
  have t4 : IsPair h₄ TO x b := hs₄.extBut _ _ D.TOi2 t3
  refine wpAny_bind (wpAny_seqItems t4 rfl (wpAny_bind (wpAny_updateSeq_pair t4 fun h₅ hTO₅ hs₅ => ?_)))
  have t5 : IsPair h₅ TO x y := hTO₅
  refine wpAny_bind (wpAny_letGo (wpAny_pure (wpAny_pure ?_))); refine wpAny_bind (wpAny_seqItems t5 rfl (wpAny_bind (wpAny_newTuple ?_)))
  have hsz : h₅.objs.size = s.heap.objs.size := by rw [hs₅.1]; exact hs₄.1.trans (hs₃.1.trans (hs₂.1.trans hs₁.1))
  have z5 : IsZip h₅ z TI TO .ellipsis := hs₅.extBut _ _ D.TOz.symm (hs₄.extBut _ _ D.i2z.symm (hs₃.extBut _ _ D.TOz.symm (hs₂.extBut _ _ D.i1z.symm z1)))
  have e5 : ∀ c, c ≠ z → c ≠ TO → c ≠ i1 → c ≠ i2 → h₅.get? c = s.heap.get? c := fun c c1 c2 c3 c4 => (hs₅.2 c c2).trans ((hs₄.2 c c4).trans (e3 c c1 c3 c2))
  have q1' : S1 (k + 1) h₅ := P1.keep _ _ _ q1 (fun o e => (hs₅.2 _ D.TOi1.symm).trans ((hs₄.2 _ D.i12).trans ((hs₃.2 _ D.TOi1.symm).trans e))) fun o e => (hs₅.2 _ D.l1TO).trans ((hs₄.2 _ D.l1i2).trans ((hs₃.2 _ D.l1TO).trans e))
  have q2' : S2 (k + 1) h₅ := P2.keep _ _ _ q2 (fun o e => (hs₅.2 _ D.TOi2.symm).trans e) fun o e => (hs₅.2 _ D.l2TO).trans e
  have zl : z < h₅.objs.size := Heap.lt_size z5
  refine id (?_ : wpAny _ _ (Builtin.SmallTypes.ownedTupleHandOut (.ref z) (.ref h₅.objs.size) >>= _) _ _ _); refine wpAny_bind ?_
  unfold Builtin.SmallTypes.ownedTupleHandOut
  have z6 : IsZip (h₅.push { cls := .type "tuple", data := .seq #[x, y] }) z TI TO .ellipsis := Heap.get?_push_of_some _ z5
  refine wpAny_bind (wpAny_setField_rec z6 (by simp) fun h₇ hz₇ hs₇ => ?_)
  have z7 : IsZip h₇ z TI TO (rawInt h₅.objs.size) := hz₇
  refine wpAny_setField_rec z7 (by simp) fun h₈ hz₈ hs₈ => ?_
  have z8 : IsZip h₈ z TI TO (rawInt h₅.objs.size) := hz₈
  have up : ∀ c o, c ≠ z → h₅.get? c = some o → h₈.get? c = some o := fun c o c1 e => hs₈.extBut _ _ c1 (hs₇.extBut _ _ c1 (Heap.get?_push_of_some _ e))
  have t8 : IsPair h₈ h₅.objs.size x y := hs₈.extBut _ _ (Nat.ne_of_gt zl) (hs₇.extBut _ _ (Nat.ne_of_gt zl) (Heap.get?_push_size _ rfl))
  rw [hsz] at z8 t8
  refine wpAny_pure ⟨_, rfl, ?_⟩; refine id (?_ : Q (.ref h₅.objs.size) _)
  rw [hsz]
  exact hQ h₈ z8 (P1.keep _ _ _ q1' (fun o e => up _ o D.i1z e) fun o e => up _ o D.l1z e) (P2.keep _ _ _ q2' (fun o e => up _ o D.i2z e) fun o e => up _ o D.l2z e) t8 fun c o c1 c2 c3 c4 e => up c o c1 ((e5 c c1 c2 c3 c4).trans e)
theorem later (D : ZipApart z TI TO i1 i2 l1 l2) (P1 : Stp prog w i1 l1 v1 S1) (P2 : Stp prog w i2 l2 v2 S2) {f : Bool} {oT : Obj} {Q : Value → Shared → Prop} (hz : IsZipHeld s.heap z TI TO T f) (hT : s.heap.get? T = some oT) (hTI : IsPair s.heap TI (.ref i1) (.ref i2)) (h1 : S1 k s.heap) (h2 : S2 k s.heap) (hx : v1 k = some x) (hy : v2 k = some y)
    (hQ : ∀ h', IsZipHeld h' z TI TO T true → S1 (k + 1) h' → S2 (k + 1) h' → IsPair h' s.heap.objs.size x y → (∀ c o, c ≠ z → c ≠ i1 → c ≠ i2 → s.heap.get? c = some o → h'.get? c = some o) → Q (.ref s.heap.objs.size) { s with heap := h' }) :
    wpAny (model prog w) A (Builtin.«zip.__next__» ⟨[.ref z], []⟩) (fun fin s' => ∃ v, fin = .done (.ret v) ∧ Q v s') E s := by
  refine id (?_ : wpAny _ _ (field (.ref z) 2 >>= _) _ _ _); refine wpAny_bind (wpAny_field hz rfl (x := .bool false) rfl ?_)
  refine id (?_ : wpAny _ _ (field (.ref z) 3 >>= _) _ _ _); refine wpAny_bind (wpAny_field hz rfl (x := .ref TI) rfl (wpAny_bind (wpAny_seqItems hTI rfl ?_)))
  refine id (?_ : wpAny _ _ (Builtin.SmallTypes.ownedTupleIsFree (.ref z) >>= _) _ _ _); refine wpAny_bind (wpAny_tupleHeld_zip hz hT fun h₁ hz₁ hs₁ => ?_)
  simp only [Bool.false_eq_true, if_false]; refine wpAny_bind ?_; rw [← Array.forIn_toList]; simp only [List.forIn_cons, List.forIn_nil]
  refine wpAny_bind (wpAny_bind (wpAny_holding ?_)); refine id (?_ : wpAny _ _ (Builtin.SmallTypes.nextOf (.ref i1) >>= _) _ _ _)
  refine wpAny_bind (P1.item _ _ { s with heap := h₁ } k x _ (P1.keep _ _ _ h1 (fun o e => (hs₁.2 _ D.i1z).trans e) fun o e => (hs₁.2 _ D.l1z).trans e) hx fun h₂ q1 hs₂ => wpAny_pure (wpAny_pure ?_))
  refine wpAny_bind (wpAny_bind (wpAny_holding ?_)); refine id (?_ : wpAny _ _ (Builtin.SmallTypes.nextOf (.ref i2) >>= _) _ _ _)
  have e3 : ∀ c, c ≠ z → c ≠ i1 → h₂.get? c = s.heap.get? c := fun c c1 c2 => (hs₂.2 c c2).trans (hs₁.2 c c1)
  refine wpAny_bind (P2.item _ _ { s with heap := h₂ } k y _ (P2.keep _ _ _ h2 (fun o e => (e3 _ D.i2z D.i12.symm).trans e) fun o e => (e3 _ D.l2z D.l2i1).trans e) hy fun h₃ q2 hs₃ => wpAny_pure (wpAny_pure (wpAny_pure ?_)))
  refine id (?_ : wpAny _ _ (newTuple [x, y] >>= _) _ _ _); refine wpAny_bind (wpAny_newTuple ?_)
  have hsz : h₃.objs.size = s.heap.objs.size := hs₃.1.trans (hs₂.1.trans hs₁.1)
  have z3 : IsZipHeld h₃ z TI TO T true := hs₃.extBut _ _ D.i2z.symm (hs₂.extBut _ _ D.i1z.symm hz₁)
  have q1' : S1 (k + 1) h₃ := P1.keep _ _ _ q1 (fun o e => (hs₃.2 _ D.i12).trans e) fun o e => (hs₃.2 _ D.l1i2).trans e
  refine wpAny_pure ⟨_, rfl, ?_⟩; refine id (?_ : Q (.ref h₃.objs.size) _)
  have hp : IsPair (h₃.push { cls := .type "tuple", data := .seq #[x, y] }) h₃.objs.size x y := Heap.get?_push_size _ rfl
  rw [hsz] at hp ⊢
  exact hQ _ (Heap.get?_push_of_some _ z3) (P1.keep _ _ _ q1' (fun o e => Heap.get?_push_of_some _ e) fun o e => Heap.get?_push_of_some _ e) (P2.keep _ _ _ q2 (fun o e => Heap.get?_push_of_some _ e) fun o e => Heap.get?_push_of_some _ e) hp fun c o c1 c2 c3 e => Heap.get?_push_of_some _ ((hs₃.2 c c3).trans ((e3 c c1 c2).trans e))
theorem ends (D : ZipApart z TI TO i1 i2 l1 l2) (P1 : Stp prog w i1 l1 v1 S1) {f : Bool} {oT : Obj} {Q : Fin → Shared → Prop} (hh : A.handled = none) (hz : IsZipHeld s.heap z TI TO T f) (hT : s.heap.get? T = some oT) (hTI : IsPair s.heap TI (.ref i1) (.ref i2)) (h1 : S1 k s.heap) (hx : v1 k = none)
    (hE : ∀ h' e, (∀ c o, c ≠ z → c ≠ i1 → s.heap.get? c = some o → h'.get? c = some o) → (∃ o, h'.get? e = some o ∧ o.cls = .type "StopIteration") → E (.ref e) { s with heap := h' }) :
    wpAny (model prog w) A (Builtin.«zip.__next__» ⟨[.ref z], []⟩) Q E s := by
  refine id (?_ : wpAny _ _ (field (.ref z) 2 >>= _) _ _ _); refine wpAny_bind (wpAny_field hz rfl (x := .bool false) rfl ?_)
  refine id (?_ : wpAny _ _ (field (.ref z) 3 >>= _) _ _ _); refine wpAny_bind (wpAny_field hz rfl (x := .ref TI) rfl (wpAny_bind (wpAny_seqItems hTI rfl ?_)))
  refine id (?_ : wpAny _ _ (Builtin.SmallTypes.ownedTupleIsFree (.ref z) >>= _) _ _ _); refine wpAny_bind (wpAny_tupleHeld_zip hz hT fun h₁ hz₁ hs₁ => ?_)
  simp only [Bool.false_eq_true, if_false]; refine wpAny_bind ?_; rw [← Array.forIn_toList]; simp only [List.forIn_cons, List.forIn_nil]
  refine wpAny_bind (wpAny_bind (wpAny_holding ?_)); refine id (?_ : wpAny _ _ (Builtin.SmallTypes.nextOf (.ref i1) >>= _) _ _ _)
  exact wpAny_bind (P1.stop _ _ { s with heap := h₁ } k _ hh (P1.keep _ _ _ h1 (fun o e => (hs₁.2 _ D.i1z).trans e) fun o e => (hs₁.2 _ D.l1z).trans e) hx fun h₂ e hs₂ he => hE h₂ e (fun c o c1 c2 q => hs₂ _ _ c2 ((hs₁.2 c c1).trans q)) he)
theorem zipArg (D : ZipApart z TI TO i1 i2 l1 l2) (P1 : Stp prog w i1 l1 v1 S1) (P2 : Stp prog w i2 l2 v2 S2) (n : Nat) (h1n : 1 ≤ n) (hn : v1 n = none) (ha : ∀ i, i < n → ∃ x y, v1 i = some x ∧ v2 i = some y) :
    PairArg prog w "zip" z [z, TI, TO, i1, i2, l1, l2] [z, TO, i1, i2] n (fun i k v => v1 i = some k ∧ v2 i = some v) (fun h => IsZip h z TI TO .none ∧ IsPair h TI (.ref i1) (.ref i2) ∧ (∃ a b, IsPair h TO a b) ∧ S1 0 h ∧ S2 0 h) where
  type := fun s ok => ⟨_, ok.1, rfl⟩
  notDict := by decide
  keep := fun h h' ⟨q1, q2, ⟨a, b, q3⟩, q4, q5⟩ hk => ⟨hk _ _ q1, hk _ _ q2, ⟨a, b, hk _ _ q3⟩, P1.keep _ _ _ q4 (fun o e => hk _ o e) (fun o e => hk _ o e), P2.keep _ _ _ q5 (fun o e => hk _ o e) fun o e => hk _ o e⟩
  there := fun h ⟨q1, q2, ⟨a, b, q3⟩, q4, q5⟩ c hc => by
    have r1 := P1.there _ _ q4
    have r2 := P2.there _ _ q5
    simp only [List.mem_cons, List.not_mem_nil, or_false] at hc
    rcases hc with e | e | e | e | e | e | e <;> subst e <;> first | exact ⟨_, q1⟩ | exact ⟨_, q2⟩ | exact ⟨_, q3⟩ | exact r1.1 | exact r1.2 | exact r2.1 | exact r2.2
  sub := fun c hc => by simp at hc ⊢; rcases hc with e | e | e | e <;> simp [e]
  noKeys := fun A s Q E hA ok h => getAttrOr_miss_zip ok.1 rfl rfl rfl zip_no_keys (by decide +kernel) hA h
  iter := fun A s d Q E hA ⟨q1, q2, ⟨a, b, q3⟩, q4, q5⟩ hd hdf h => by
    have nd : d ≠ z ∧ d ≠ TI ∧ d ≠ TO ∧ d ≠ i1 ∧ d ≠ i2 ∧ d ≠ l1 ∧ d ≠ l2 := by simpa using hdf
    obtain ⟨dz, dTI, dTO, di1, di2, dl1, dl2⟩ := nd
    refine wpAny_pyIter_zip q1 (h z [z, TO, i1, i2] (fun i h => IsPair h TI (.ref i1) (.ref i2) ∧ S1 i h ∧ S2 i h ∧ ((i = 0 ∧ IsZip h z TI TO .none ∧ ∃ a b, IsPair h TO a b) ∨ ∃ T f oT, IsZipHeld h z TI TO T f ∧ h.get? T = some oT ∧ T ≠ z ∧ T ≠ i1 ∧ T ≠ i2 ∧ T ≠ d)) s.heap s.toks ?_ ⟨q2, q4, q5, .inl ⟨rfl, q1, a, b, q3⟩⟩ (fun _ _ e => e) fun b hb => .inl hb)
    refine ⟨by simp [dz, dTO, di1, di2], fun i h1 h2 ⟨r1, r2, r3, r4⟩ hk => ⟨hk _ _ dTI.symm r1, P1.keep _ _ _ r2 (fun o e => hk _ o di1.symm e) (fun o e => hk _ o dl1.symm e), P2.keep _ _ _ r3 (fun o e => hk _ o di2.symm e) (fun o e => hk _ o dl2.symm e), ?_⟩, ?_, ?_⟩
    · rcases r4 with ⟨e, r5, a, b, r6⟩ | ⟨T, f, oT, r5, r6, t1, t2, t3, t4⟩
      · exact .inl ⟨e, hk _ _ dz.symm r5, a, b, hk _ _ dTO.symm r6⟩
      · exact .inr ⟨T, f, oT, hk _ _ dz.symm r5, hk _ _ t4 r6, t1, t2, t3, t4⟩
    · intro i s1 Q1 E1 hi ⟨r1, r2, r3, r4⟩ hds hQ
      obtain ⟨x, y, ex, ey⟩ := ha i hi
      have lt : ∀ {c o}, s1.heap.get? c = some o → s1.heap.objs.size ≠ c := fun e => Nat.ne_of_gt (Heap.lt_size e)
      have n1 : s1.heap.objs.size ≠ i1 := let ⟨_, e⟩ := (P1.there _ _ r2).1; lt e
      have n2 : s1.heap.objs.size ≠ i2 := let ⟨_, e⟩ := (P2.there _ _ r3).1; lt e
      have zt : s1.TypeIs (.ref z) "zip" := by
        rcases r4 with ⟨_, r5, _⟩ | ⟨_, _, _, r5, _⟩ <;> exact ⟨_, r5, rfl⟩
      unfold pyNext
      rcases r4 with ⟨e, r5, a, b, r6⟩ | ⟨T, f, oT, r5, r6, t1, t2, t3, t4⟩
      · refine wpAny_bind (wpAny_attempt (wpAny_callSpecial?_slot (name := Str.ofString "__next__") zt F.slot_zip_next (wpAny_call_entry F.slot_zip_next zt F.entry_zip_next (first D P1 P2 r5 r1 r6 r2 r3 ex ey fun h' a1 a3 a4 a5 hk => wpAny_pure ?_) (F.args_zip_next_1 _))))
        exact hQ s1.heap.objs.size _ _ h' s1.toks ⟨ex, ey⟩ (.inl ⟨_, a5, rfl, _, rfl⟩) ⟨hk _ _ D.TIz D.TITO D.TIi1 D.TIi2 r1, a3, a4, .inr ⟨s1.heap.objs.size, false, _, a1, a5, lt r5, n1, n2, Nat.ne_of_gt hds⟩⟩ fun c o hc e => hk c o (fun q => hc (by simp [q])) (fun q => hc (by simp [q])) (fun q => hc (by simp [q])) (fun q => hc (by simp [q])) e
      · refine wpAny_bind (wpAny_attempt (wpAny_callSpecial?_slot (name := Str.ofString "__next__") zt F.slot_zip_next (wpAny_call_entry F.slot_zip_next zt F.entry_zip_next (later D P1 P2 r5 r6 r1 r2 r3 ex ey fun h' a1 a3 a4 a5 hk => wpAny_pure ?_) (F.args_zip_next_1 _))))
        exact hQ s1.heap.objs.size _ _ h' s1.toks ⟨ex, ey⟩ (.inl ⟨_, a5, rfl, _, rfl⟩) ⟨hk _ _ D.TIz D.TIi1 D.TIi2 r1, a3, a4, .inr ⟨T, true, oT, a1, hk _ _ t1 t2 t3 r6, t1, t2, t3, t4⟩⟩ fun c o hc e => hk c o (fun q => hc (by simp [q])) (fun q => hc (by simp [q])) (fun q => hc (by simp [q])) e
    · intro s1 Q1 E1 ⟨r1, r2, r3, r4⟩ hQ
      rcases r4 with ⟨e, _⟩ | ⟨T, f, oT, r5, r6, t1, t2, t3, t4⟩
      · omega
      · have zt : s1.TypeIs (.ref z) "zip" := ⟨_, r5, rfl⟩
        unfold pyNext
        refine wpAny_bind (wpAny_attempt (wpAny_callSpecial?_slot (name := Str.ofString "__next__") zt F.slot_zip_next (wpAny_call_entry F.slot_zip_next zt F.entry_zip_next (ends D P1 hA r5 r6 r1 r2 hn fun h' e hk he => ?_) (F.args_zip_next_1 _))))
        obtain ⟨o, ho, hc⟩ := he
        refine wpAny_bind (wpAny_isInstance (T := "StopIteration") (b := true) ⟨o, ho, hc⟩ isSubtype_stop (wpAny_pure (hQ _ s1.toks fun c o hc e => hk c o (fun q => hc (by simp [q])) (fun q => hc (by simp [q])) e)))
end
/-! ### the maker -/
abbrev g1 (h : Heap) (l1 : Addr) : Heap := h.push { cls := .type "tuple_iterator", data := .fields #[.ref l1, .int 0 0] }
abbrev g2 (h : Heap) (l1 l2 : Addr) : Heap := (g1 h l1).push { cls := .type "list_iterator", data := .fields #[.ref l2, .int 0 0] }
abbrev g3 (h : Heap) (l1 l2 : Addr) : Heap := (g2 h l1 l2).push { cls := .type "tuple", data := .seq #[.ref h.objs.size, .ref (g1 h l1).objs.size] }
abbrev g4 (h : Heap) (l1 l2 : Addr) : Heap := (g3 h l1 l2).push { cls := .type "tuple", data := .seq #[.none, .none] }
abbrev g5 (h : Heap) (l1 l2 : Addr) : Heap := (g4 h l1 l2).push { cls := .type "zip", data := .fields #[.none, .bool false, .bool false, .ref (g2 h l1 l2).objs.size, .ref (g3 h l1 l2).objs.size] }
theorem meets_new (l1 l2 : Addr) (xs ys : Array Value) : Meets (Builtin.«zip.__new__» ⟨[.type "zip", .ref l1, .ref l2], []⟩) (fun _ R s => s.heap.IsTuple l1 xs ∧ s.heap.IsList l2 ys ∧ R (.ok (.ret (.ref (g4 s.heap l1 l2).objs.size))) { s with heap := g5 s.heap l1 l2 }) :=
  .of_wp fun prog w A R s h => by
    obtain ⟨hp, g, d, tk, os⟩ := s; obtain ⟨t1, t2, h⟩ := h; have hsub := sub_zip
    have L1 : Heap.IsTuple (Shared.heap ⟨hp, g, d, tk, os⟩) l1 xs := t1
    have L2 : Heap.IsList (Shared.heap ⟨hp.push { cls := .type "tuple_iterator", data := .fields #[.ref l1, .int 0 0] }, g, d, tk, os⟩) l2 ys := Heap.IsList.push t2 _
    wp_walk using wpAny_pyIter_tuple L1, wpAny_pyIter_list L2
    exact ⟨_, rfl, h⟩
section
variable {prog : Program} {w : World} {A : Around} {E : Value → Shared → Prop} {s : Shared}
theorem call_zipM {l1 l2 : Addr} {xs ys : Array Value} {Q : Value → Shared → Prop} (h1 : s.heap.IsTuple l1 xs) (h2 : s.heap.IsList l2 ys)
    (h : ∀ h', IsZip h' (s.heap.objs.size + 4) (s.heap.objs.size + 2) (s.heap.objs.size + 3) .none → IsPair h' (s.heap.objs.size + 2) (.ref s.heap.objs.size) (.ref (s.heap.objs.size + 1)) → IsPair h' (s.heap.objs.size + 3) .none .none →
      h'.IsTupleIter s.heap.objs.size l1 0 → h'.IsListIter (s.heap.objs.size + 1) l2 0 → h'.objs.size = s.heap.objs.size + 5 → (∀ c o, s.heap.get? c = some o → h'.get? c = some o) → Q (.ref (s.heap.objs.size + 4)) { s with heap := h' }) :
    wpAny (model prog w) A (call (.type "zip") [.ref l1, .ref l2]) Q E s := by
  refine callType_new F.called_zip (by decide) (F.typeCall_zip_2 _ _) (F.newCall_zip_2 _ _) (fun obj => F.args_object_init_3 obj _ _) F.entry_zip_new (meets_new l1 l2 xs ys) ⟨h1, h2, ?_⟩
  have z1 : (g1 s.heap l1).objs.size = s.heap.objs.size + 1 := Heap.size_push ..
  have z2 : (g2 s.heap l1 l2).objs.size = s.heap.objs.size + 2 := by rw [Heap.size_push, z1]
  have z3 : (g3 s.heap l1 l2).objs.size = s.heap.objs.size + 3 := by rw [Heap.size_push, z2]
  have z4 : (g4 s.heap l1 l2).objs.size = s.heap.objs.size + 4 := by rw [Heap.size_push, z3]
  have z5 : (g5 s.heap l1 l2).objs.size = s.heap.objs.size + 5 := by rw [Heap.size_push, z4]
  have p5 : (g5 s.heap l1 l2).get? (g4 s.heap l1 l2).objs.size = some _ := Heap.get?_push_size _ rfl
  have p4 : (g5 s.heap l1 l2).get? (g3 s.heap l1 l2).objs.size = some _ := Heap.get?_push_of_some _ (Heap.get?_push_size _ rfl)
  have p3 : (g5 s.heap l1 l2).get? (g2 s.heap l1 l2).objs.size = some _ := Heap.get?_push_of_some _ (Heap.get?_push_of_some _ (Heap.get?_push_size _ rfl))
  have p2 : (g5 s.heap l1 l2).get? (g1 s.heap l1).objs.size = some _ := Heap.get?_push_of_some _ (Heap.get?_push_of_some _ (Heap.get?_push_of_some _ (Heap.get?_push_size _ rfl)))
  have p1 : (g5 s.heap l1 l2).get? s.heap.objs.size = some _ := Heap.get?_push_of_some _ (Heap.get?_push_of_some _ (Heap.get?_push_of_some _ (Heap.get?_push_of_some _ (Heap.get?_push_size _ rfl))))
  refine id (?_ : _ ∧ _)
  rw [z2, z3, z4] at p5; rw [z1, z2] at p3; rw [z3] at p4; rw [z1] at p2; rw [z4]
  exact ⟨⟨_, p5, rfl⟩, h _ p5 p3 p4 ⟨_, p1, rfl, rfl⟩ ⟨_, p2, rfl, rfl⟩ z5 fun c o x => Heap.get?_push_of_some _ (Heap.get?_push_of_some _ (Heap.get?_push_of_some _ (Heap.get?_push_of_some _ (Heap.get?_push_of_some _ x))))⟩
end
end Mz
set_option maxHeartbeats 1000000
/-! sorted of a tuple of tuples; dicts whose keys are tuples of tuples: TdO. -/
namespace Mz
open PySem PySem.Spec PyProof.Rows L2
section
variable {prog : Program} {w : World} {A : Around} {E : Value → Shared → Prop} {s : Shared}
theorem collect_tup {l : Addr} {vs : List Value} {Q : List Value → Shared → Prop} (hl : s.heap.IsTuple l vs.toArray) (h : Q vs { s with heap := (s.heap.push (seqObj "list" #[] 0)).update s.heap.objs.size (Obj.mapSeq (· ++ vs.toArray)) }) (hsz : vs.length ≤ sizeLine) :
    wpAny (model prog w) A (collect (.ref l)) Q E s := by
  obtain ⟨o, ho, hc, n, hd⟩ := id hl
  unfold collect; refine wpAny_bind (wpAny_runValue (codeAny_builtin entry_proto_collect' ?_))
  refine id (?_ : wpAny _ _ (do again (.builtin "list.__iadd__" ⟨[← newList [], .ref l], []⟩)) _ _ s)
  refine wpAny_bind (wpAny_newList (wpAny_pure ⟨Code.quiet_builtin _ (by decide +kernel), codeAny_builtin entry_list_iadd' ?_⟩))
  refine id (?_ : wpAny _ _ (Builtin.List.listExtendWith (.ref s.heap.objs.size) (.ref l) (.ref s.heap.objs.size)) _ _ { s with heap := s.heap.push (seqObj "list" #[] 0) })
  unfold Builtin.List.listExtendWith
  have ho' : (s.heap.push (seqObj "list" #[] 0)).get? l = some o := Heap.get?_push_of_some _ ho
  refine wpAny_bind (wpAny_typeOf (T := "tuple") ⟨o, ho', hc⟩ ?_); rw [if_pos (by rw [show (Value.type "tuple" == Value.type "tuple") = true from rfl]; simp)]
  refine wpAny_bind (listItems_at ho' hd (wpAny_bind (listItems_at (xs := #[]) (n := 0) (Heap.get?_push_size _ rfl) rfl ?_))); rw [if_neg (by simp)]
  refine wpAny_bind (listUpdate_at (xs := #[]) (n := 0) (Heap.get?_push_size _ rfl) rfl (wpAny_pure ?_) (Nat.zero_le _) (by show (#[] ++ vs.toArray).size ≤ sizeLine + 1; simp only [Array.size_append, List.size_toArray, List.length_nil]; omega))
  refine id (?_ : wpAny (model prog w) A (load s.heap.objs.size >>= fun o => match o.data with | .seq xs _ => pure xs.toList | _ => unsupported "internal:collect") Q E { s with heap := (s.heap.push (seqObj "list" #[] 0)).update s.heap.objs.size (Obj.mapSeq (· ++ vs.toArray)) })
  refine wpAny_bind (wpAny_load (get?_update_seq (Heap.get?_push_size _ rfl) _) ?_)
  refine id (?_ : wpAny _ _ (pure ((#[] : Array Value) ++ vs.toArray).toList) Q E _); rw [show ((#[] : Array Value) ++ vs.toArray).toList = vs by simp]
  exact wpAny_pure h
theorem sorted_tup {l : Addr} {vs : List Value} {d : Nat} {B : Int} {Q : Value → Shared → Prop} (hl : s.heap.IsTuple l vs.toArray) (h64 : vs.length < 64) (hd : 1 ≤ d) (x : TS.TupsOk s.heap d B vs)
    (h : ∀ out : Array Value, out.toList.Perm vs → Q (.ref (s.heap.objs.size + 1)) { s with heap := sortedAll s.heap vs out }) : wpAny (model prog w) A (call (.builtin "sorted") [.ref l]) Q E s := by
  refine Calls.call_function_entry kind_sorted plain_sorted entry_sorted (args_sorted1 _) ?_
  unfold Builtin.«sorted»; refine wpAny_bind (m := checkCount "sorted" 1 1 _) (wpAny_pure (wpAny_bind (collect_tup hl ?_ (by rw [sizeLine_eq]; omega))))
  refine wpAny_bind (wpAny_newList ?_ (by rw [sizeLine_eq]; omega))
  have hsz : ((s.heap.push (seqObj "list" #[] 0)).update s.heap.objs.size (Obj.mapSeq (· ++ vs.toArray))).objs.size = s.heap.objs.size + 1 := by
    rw [Heap.size_update, size_push']
  have hL : (((s.heap.push (seqObj "list" #[] 0)).update s.heap.objs.size (Obj.mapSeq (· ++ vs.toArray))).push (seqObj "list" vs.toArray 0)).get? (s.heap.objs.size + 1) = some (seqObj "list" vs.toArray 0) := by
    rw [← hsz]; exact Heap.get?_push_size _ rfl
  have kp : ∀ b o, s.heap.get? b = some o → o.cls = .type "tuple" → (((s.heap.push (seqObj "list" #[] 0)).update s.heap.objs.size (Obj.mapSeq (· ++ vs.toArray))).push (seqObj "list" vs.toArray 0)).get? b = some o := fun b o q _ => by
    have hb : b < s.heap.objs.size := Heap.lt_size q
    rw [Heap.get?_push_ne _ _ _ (hsz.symm ▸ Nat.ne_of_lt (Nat.lt_succ_of_lt hb)), Heap.get?_update_ne _ _ _ _ (Nat.ne_of_lt hb), Heap.get?_push_ne _ _ _ (Nat.ne_of_lt hb)]
    exact q
  refine id (?_ : wpAny _ _ _ _ _ { s with heap := ((s.heap.push (seqObj "list" #[] 0)).update s.heap.objs.size (Obj.mapSeq (· ++ vs.toArray))).push (seqObj "list" vs.toArray 0) }); rw [hsz]
  exact wpAny_bind (wpAny_holding (TS.call_sort_tups (s := { s with heap := ((s.heap.push (seqObj "list" #[] 0)).update s.heap.objs.size (Obj.mapSeq (· ++ vs.toArray))).push (seqObj "list" vs.toArray 0) }) hL h64 hd (x.keeps kp) fun out a1 _ => wpAny_pure ⟨_, rfl, h out a1⟩))
end
end Mz
namespace L2
open PySem PySem.Spec PyProof.Rows
section
variable {X : Cx} {pins : List (Addr × Obj)} {σ : St} {H : Hp} {s : Shared}
/-- sorted of a tuple of fewer than 64 tuples of d ints in [0, B): a new list of the same -/
def rSortP (K : PySem.W.Frag) (d : Nat) (B : Int) : List V → Hp → VK → Prop := fun vs H Q => ∃ (a : Addr) (xs : List V), vs = [V.ref a] ∧ SqT K H a xs ∧ xs.length < 64 ∧ (∀ x ∈ xs, ∃ ns, TupI K H x ns ∧ ns.length = d ∧ TS.Bd B ns) ∧ ∀ (ys : List V) (p : Addr), ys.Perm xs → H p = none → Q (.ref p) (upd H p (.lst ys))
theorem cr_sortP {d : Nat} {B : Int} (hd : 1 ≤ d) : CallR X (.builtin "sorted") (rSortP X.K d B) := by
  intro pins s σ H vs us Q I r h
  obtain ⟨a, xs, rfl, hs, h64, hx, q⟩ := h
  obtain ⟨its, rv, hl, hz⟩ := I.tuple hs
  rw [Vals.ref1 r]
  obtain ⟨e1, e2⟩ := bkV_refs rv fun x m => let ⟨ns, ⟨t, e, _⟩, _⟩ := hx x m; ⟨t, e⟩
  refine Mz.sorted_tup (d := d) (B := B) hl (by rw [← rv.length]; exact h64) hd (fun v hv => ?_) fun out h1 => ?_
  · obtain ⟨t, rfl⟩ := e2 v hv
    have hm : V.ref t ∈ xs := by
      rw [e1]; exact List.mem_map.mpr ⟨_, hv, rfl⟩
    obtain ⟨ns, ⟨t', e, ht⟩, hn, hb⟩ := hx _ hm
    cases e
    exact ⟨ns, tupI_raw I ht, hn, hb⟩
  · obtain ⟨ep, he'⟩ := PyProof.Rows.sortedAll_at s.heap its out
    have hp : (out.toList.map bkV).Perm xs := by
      rw [e1]; exact h1.map bkV
    exact ⟨.ref _, upd H (s.heap.objs.size + 1) (.lst (out.toList.map bkV)), I.laid (t' := s.toks) (fun _ _ => PyProof.Rows.sortedAll_old) (Nat.le_succ _) ⟨by rw [hp.length_eq]; exact hz, out.toList, ep, bkV_vals fun u hu => e2 u (h1.mem_iff.mp hu), he'⟩, rfl, q _ _ hp (I.hok.fresh (Nat.le_succ _))⟩
/-! ### dicts by tuples of tuples -/
/-- a row as a key; rows as a key -/
def rowKey (r : List Int) : NestedKey := .tup (r.map .num)
def rowsKey (rs : List (List Int)) : NestedKey := .tup (rs.map rowKey)
theorem num_inj : ∀ {a b : List Int}, a.map NestedKey.num = b.map NestedKey.num → a = b
  | [], [], _ => rfl
  | [], _ :: _, h => nomatch h
  | _ :: _, [], h => nomatch h
  | x :: a, y :: b, h => by
    injection h with h1 h2
    injection h1 with h1
    rw [h1, num_inj h2]
theorem rowKey_inj {a b : List Int} (h : rowKey a = rowKey b) : a = b := by
  unfold rowKey at h
  injection h with h
  exact num_inj h
theorem rowsKey_inj {a b : List (List Int)} (h : rowsKey a = rowsKey b) : a = b := by
  unfold rowsKey at h
  injection h with h
  induction a generalizing b with
  | nil => cases b with
    | nil => rfl
    | cons _ _ => exact nomatch h
  | cons x a ih => cases b with
    | nil => exact nomatch h
    | cons y b =>
      rw [List.map_cons, List.map_cons] at h
      injection h with h1 h2
      rw [rowKey_inj h1, ih h2]
theorem depth_nums : ∀ r : List Int, NestedKey.depthAll (r.map .num) = 0
  | [] => rfl
  | i :: r => by
    rw [List.map_cons]
    show max (NestedKey.depth (.num i)) _ = 0
    rw [depth_nums r]
    rfl
theorem depth_row (r : List Int) : (rowKey r).depth = 1 := by
  show NestedKey.depthAll _ + 1 = 1
  rw [depth_nums]
theorem depth_rows : ∀ rs : List (List Int), NestedKey.depthAll (rs.map rowKey) ≤ 1
  | [] => Nat.zero_le _
  | r :: rs => by
    rw [List.map_cons]
    show max (rowKey r).depth _ ≤ 1
    rw [depth_row]
    exact Nat.max_le.mpr ⟨Nat.le_refl _, depth_rows rs⟩
theorem nums_is {h : Heap} : ∀ {r : List Int} {its : List Value}, Vals (r.map V.int) its → NestedAll h (r.map .num) its
  | [], _, .nil => .nil
  | i :: r, _ :: _, .cons a b => by
    obtain ⟨t, e⟩ := (show ∃ t, _ = Value.int i t from a)
    rw [e]
    exact .cons (.int i t) (nums_is b)
/-- a dict by such keys: its entries -/
abbrev NEnt := NestedKey × Addr × Value
def TdO (w : World) (d : Addr) (xs : List NEnt) : HO := .ext fun h => ∃ o es ep, h.get? d = some o ∧ o.ExactDict ∧ o.data = .dict es ep ∧ es.toList = xs.map (fun x => (⟨x.1.hash w, .ref x.2.1, x.2.2⟩ : DictEntry)) ∧ (xs.map (·.1)).Nodup
theorem tdO_code {w : World} {d c : Addr} {xs : List NEnt} {q : Str} (hn : (xs.map (·.1)).Nodup) : TdO w d xs ≠ LamX.CodeO c q := by
  intro e
  unfold TdO LamX.CodeO at e
  injection e with e
  let ob : Obj := { cls := .type "dict", data := .dict (xs.map (fun x => (⟨x.1.hash w, .ref x.2.1, x.2.2⟩ : DictEntry))).toArray }
  let h : Heap := { objs := Array.replicate (d + 1) ob }
  have hg : ∀ b, h.get? b = if b < d + 1 then some ob else Option.none := fun b => by
    unfold Heap.get?
    have e0 : h.objs[b]? = if b < d + 1 then some ob else Option.none := Array.getElem?_replicate
    rw [e0]
    by_cases k : b < d + 1
    · rw [if_pos k]
    · rw [if_neg k]
  have h1 : ∃ o es ep, h.get? d = some o ∧ o.ExactDict ∧ o.data = .dict es ep ∧ es.toList = xs.map (fun x => (⟨x.1.hash w, .ref x.2.1, x.2.2⟩ : DictEntry)) ∧ (xs.map (·.1)).Nodup :=
    ⟨ob, (xs.map (fun x => (⟨x.1.hash w, .ref x.2.1, x.2.2⟩ : DictEntry))).toArray, 0, by rw [hg, if_pos (Nat.lt_succ_self _)], ⟨rfl, rfl, rfl⟩, rfl, by simp, hn⟩
  obtain ⟨oc, ws, t, h2, h3, _⟩ := (congrFun e h).mp h1
  rw [hg] at h2
  split at h2
  · rw [← Option.some.inj h2] at h3
    exact nomatch h3
  · exact nomatch h2
theorem tdO_at {P : Program} {w : World} {h : Heap} {d : Addr} {xs : List NEnt} (hok : HOk P w H h) (e : H d = some (TdO w d xs)) : ∃ o es ep, h.get? d = some o ∧ o.ExactDict ∧ o.data = .dict es ep ∧ es.toList = xs.map (entryOfKey (nestedKind P w)) ∧ (xs.map (·.1)).Nodup := by
  obtain ⟨z, _, _⟩ := hok d _ e
  exact z
theorem tdO_ok {P : Program} {w : World} {h : Heap} {d : Addr} {xs : List NEnt} (x : ∃ o es ep, h.get? d = some o ∧ o.ExactDict ∧ o.data = .dict es ep ∧ es.toList = xs.map (entryOfKey (nestedKind P w)) ∧ (xs.map (·.1)).Nodup) : ObjOk P w H h d (TdO w d xs) := by
  obtain ⟨o, es, ep, h1, h2, h3, h4, h5⟩ := x
  exact ⟨⟨o, es, ep, h1, h2, h3, h4, h5⟩, ⟨o, h1⟩, fun a b ⟨o, es, ep, q1, q⟩ k => ⟨o, es, ep, k o q1, q⟩⟩
/-- keys of one kind -/
structure Kd (K : PySem.W.Frag) (κ : Type) where
  f : κ → NestedKey
  inj : ∀ a b, f a = f b → a = b
  P : κ → V → Hp → Prop
  is : ∀ (X : Cx) (pins : List (Addr × Obj)) (σ : St) (H : Hp) (s : Shared) (k : κ) (v : V), X.K = K → Inv X pins σ H s → P k v H → ∃ a, v = .ref a ∧ (nestedKind X.prog X.w).is s.heap (f k) a
theorem row_is {r : List Int} {a : Addr} (I : Inv X pins σ H s) (h : SqT X.K H a (r.map V.int)) : NestedIs s.heap (rowKey r) (.ref a) := by
  obtain ⟨its, rv, ⟨o, h1, h2, n, h3⟩, _⟩ := I.tuple h
  exact .tup h1 h2 h3 (by simpa using nums_is rv)
variable {κ : Type} {D : Kd X.K κ}
/-- every key of these is one of D, as told at H -/
def KeysAt {K : PySem.W.Frag} (D : Kd K κ) (xs : List NEnt) (H : Hp) : Prop := ∀ x ∈ xs, ∃ k, x.1 = D.f k ∧ D.P k (.ref x.2.1) H
theorem tdO_dict {d : Addr} {xs : List NEnt} (I : Inv X pins σ H s) (e : H d = some (TdO X.w d xs)) (k : KeysAt D xs H) : s.heap.DictOfH (nestedKind X.prog X.w) d xs := by
  obtain ⟨o, es, ep, h1, h2, h3, h4, h5⟩ := tdO_at I.hok e
  refine ⟨o, es, ep, h1, h2, h3, h4, fun x hx => ?_, h5⟩
  obtain ⟨k, e1, e2⟩ := k x hx
  obtain ⟨a, ea, z⟩ := D.is X pins σ H s k _ rfl I e2
  cases ea
  rw [e1]
  exact z
theorem atKey_mem {xs : List NEnt} {x : NEnt} (hn : (xs.map (·.1)).Nodup) (h : x ∈ xs) : atKey xs x.1 = some x.2 := by
  obtain ⟨i, hi⟩ := List.getElem?_of_mem h
  exact atKey_of_get hn hi
theorem sysM (I : Inv X pins σ H s) {d : Addr} {φ : Heap → Prop} (e : H d = some (.ext φ)) (n : d ≠ sysModules) : (d == sysModules) = false := beq_eq_false_iff_ne.mpr n
/-- d[y], y there -/
def tTGet {K : PySem.W.Frag} (w : World) (D : Kd K κ) (td ty : TE) : TE := fun σ H Q => td σ H fun x H1 => ty σ H1 fun y H2 => ∃ d xs k, x = .ref d ∧ H2 d = some (TdO w d xs) ∧ KeysAt D xs H2 ∧ D.P k y H2 ∧ ∃ z ∈ xs, z.1 = D.f k ∧ ∃ v, RelV v z.2.2 ∧ Q v H2
/-- y not in d -/
def tTNotIn {K : PySem.W.Frag} (w : World) (D : Kd K κ) (ty td : TE) : TE := fun σ H Q => ty σ H fun y H1 => td σ H1 fun x H2 => ∃ d xs k, x = .ref d ∧ d ≠ sysModules ∧ H2 d = some (TdO w d xs) ∧ KeysAt D xs H2 ∧ D.P k y H2 ∧ Q (.bl (!decide (D.f k ∈ xs.map (·.1)))) H2
/-- d[y] = v, y not there -/
def sTPut {K : PySem.W.Frag} (w : World) (D : Kd K κ) (td ty tv : TE) : TS := fun G σ H => tv σ H fun v H1 => td σ H1 fun x H2 => ty σ H2 fun y H3 => ∃ d xs k ka, x = .ref d ∧ y = .ref ka ∧ H3 d = some (TdO w d xs) ∧ KeysAt D xs H3 ∧ D.P k y H3 ∧ D.f k ∉ xs.map (·.1) ∧ xs.length < sizeLine ∧ ∀ r, RelV v r → G.nx σ (upd H3 d (TdO w d (xs ++ [(D.f k, ka, r)])))
variable {o i value : Expr} {pos pos' : Pos} {td ty tv : TE}
theorem pe_tget (hu : X.A.units + 64 < cLine) (ho : PE X o td) (hi : PE X i ty) (hs : NoSl i) : PE X (.Subscript o i pos) (tTGet X.w D td ty) := by
  refine ⟨fun pins s σ H Q I h => ?_⟩
  refine subD_of PySem.F.slot_dict_getitem.lookup hs (thn (ho.run pins s σ H _ I h) fun u s1 ⟨x, H1, I1, rx, q1⟩ => thn (hi.run pins s1 σ H1 _ I1 q1) fun iv s2 ⟨y, H2, I2, ry, d, xs, k, ex, e, ka, hk, z, hz, ez, v, rv, q2⟩ => ?_)
  subst ex
  obtain rfl : u = Value.ref d := rx
  have dd := tdO_dict I2 e ka
  obtain ⟨a, ea, ia⟩ := D.is X pins σ H2 s2 k y rfl I2 hk
  subst ea
  obtain rfl : iv = Value.ref a := ry
  refine ⟨dd.typeIs, wpAny_getItem_heap (p := z.2) (show X.A.units + 1 + 8 < cLine by omega) ia dd ?_ ⟨v, H2, I2.tok _, rv, q2⟩⟩
  obtain ⟨_, _, _, _, _, _, _, hn⟩ := tdO_at I2.hok e
  rw [← ez]
  exact atKey_mem hn hz
theorem pc_tnotin (hu : X.A.units + 64 < cLine) (hi : PE X i ty) (ho : PE X o td) : PC X .NotIn i o (tTNotIn X.w D ty td) := by
  refine ⟨fun pins s σ H Q I h => ?_⟩
  refine thn (hi.run pins s σ H _ I h) fun iv s1 ⟨y, H1, I1, ry, q1⟩ => thn (ho.run pins s1 σ H1 _ I1 q1) fun u s2 ⟨x, H2, I2, rx, d, xs, k, ex, nd, e, ka, hk, q2⟩ => ?_
  subst ex
  obtain rfl : u = Value.ref d := rx
  have dd := tdO_dict I2 e ka
  obtain ⟨a, ea, ia⟩ := D.is X pins σ H2 s2 k y rfl I2 hk
  subst ea
  obtain rfl : iv = Value.ref a := ry
  refine wpAny_notIn_heap (show X.A.units + 1 + 8 < cLine by omega) ia (beq_eq_false_iff_ne.mpr nd) dd ⟨.bl (!(atKey xs (D.f k)).isSome), H2, I2.tok _, rfl, ?_⟩
  have ee : (atKey xs (D.f k)).isSome = decide (D.f k ∈ xs.map (·.1)) := by
    obtain ⟨_, _, _, _, _, _, _, hn⟩ := tdO_at I2.hok e
    by_cases hm : D.f k ∈ xs.map (·.1)
    · obtain ⟨z, hz, e2⟩ := List.mem_map.mp hm
      rw [← e2, atKey_mem hn hz]
      simp
      exact ⟨_, _, hz⟩
    · have : atKey xs (D.f k) = none := atKey_none_of_get fun j p hj => hm (List.mem_map.mpr ⟨_, List.mem_of_getElem? hj, rfl⟩)
      rw [this]
      simp [hm]
  show Q (.bl (!(atKey xs (D.f k)).isSome)) H2
  rw [ee]
  exact q2
theorem ps_tput (hu : X.A.units + 64 < cLine) (ho : PE X o td) (hi : PE X i ty) (hv : PE X value tv) (hs : swapsWith value (some (.Subscript o i pos')) pos.line X.env = pure false) : PS X (.Assign [.Subscript o i pos'] value pos) (sTPut X.w D td ty tv) := by
  refine ⟨fun pins s σ H G I h => ?_⟩
  refine wpAny_Assign_Subscript (thn (hv.run pins s σ H _ I h) fun r s1 ⟨v, H1, I1, rv, q1⟩ => thn (ho.run pins s1 σ H1 _ I1 q1) fun u s2 ⟨x, H2, I2, rx, q2⟩ => thn (hi.run pins s2 σ H2 _ I2 q2) fun iv s3 ⟨y, H3, I3, ry, d, xs, k, ka, ex, ey, e, hka, hk, hno, hz, q3⟩ => ?_) hs
  subst ex ey
  obtain rfl : u = Value.ref d := rx
  obtain rfl : iv = Value.ref ka := ry
  have dd := tdO_dict I3 e hka
  obtain ⟨a, ea, ia⟩ := D.is X pins σ H3 s3 k _ rfl I3 hk
  cases ea
  have no : atKey xs (D.f k) = none := atKey_none_of_get fun j p hj => hno (List.mem_map.mpr ⟨_, List.mem_of_getElem? hj, rfl⟩)
  refine wpAny_setItem_heap (hsz := Nat.le_of_lt hz) (show X.A.units + 1 + 8 < cLine by omega) ia dd fun h' dd' hs => ⟨σ, _, ?_, q3 r rv⟩
  rw [storedH_new no] at dd'
  obtain ⟨q, es, ep, h1, h2, h3, h4, _, h5⟩ := dd'
  exact d_write I3 (by rw [e]; exact True.intro) hs ⟨q, h1⟩ (tdO_ok ⟨q, es, ep, h1, h2, h3, h4, h5⟩)
end
end L2
set_option maxHeartbeats 1000000
/-! dict(zip(a, b)) of a tuple of keys and a list. -/
namespace L2
open PySem PySem.Spec PyProof.Rows
theorem stored_mem {xs : List NEnt} {p y : NEnt} (h : y ∈ storedH xs p.1 p.2.1 p.2.2) : (∃ z, (z ∈ xs ∨ z = p) ∧ y.1 = z.1 ∧ y.2.1 = z.2.1) ∧ ∃ z, (z ∈ xs ∨ z = p) ∧ y.2.2 = z.2.2 := by
  unfold storedH at h
  split at h
  · obtain ⟨x, hx, rfl⟩ := List.mem_map.mp h
    unfold putAt
    split
    · exact ⟨⟨x, .inl hx, rfl, rfl⟩, p, .inr rfl, rfl⟩
    · exact ⟨⟨x, .inl hx, rfl, rfl⟩, x, .inl hx, rfl⟩
  · rcases List.mem_append.mp h with h | h
    · exact ⟨⟨y, .inl h, rfl, rfl⟩, y, .inl h, rfl⟩
    · rw [List.mem_singleton.mp h]
      exact ⟨⟨p, .inr rfl, rfl, rfl⟩, p, .inr rfl, rfl⟩
theorem stored_key {xs : List NEnt} {p : NEnt} {k : NestedKey} (h : k ∈ xs.map (·.1) ∨ k = p.1) : k ∈ (storedH xs p.1 p.2.1 p.2.2).map (·.1) := by
  unfold storedH
  split
  · rename_i q
    rw [keys_map_putAt]
    rcases h with h | h
    · exact h
    · obtain ⟨z, hz⟩ := Option.isSome_iff_exists.mp q
      unfold atKey at hz
      obtain ⟨x, hx, _⟩ := Option.map_eq_some_iff.mp hz
      have h1 := List.find?_some hx
      have h2 := List.mem_of_find?_eq_some hx
      exact List.mem_map.mpr ⟨x, h2, by rw [h]; exact of_decide_eq_true h1⟩
  · rw [List.map_append]
    rcases h with h | h
    · exact List.mem_append_left _ h
    · exact List.mem_append_right _ (by simp [h])
theorem storedAll_mem : ∀ (ps xs : List NEnt) (y : NEnt), y ∈ storedAllH xs ps → (∃ z, (z ∈ xs ∨ z ∈ ps) ∧ y.1 = z.1 ∧ y.2.1 = z.2.1) ∧ ∃ z, (z ∈ xs ∨ z ∈ ps) ∧ y.2.2 = z.2.2
  | [], xs, y, h => ⟨⟨y, .inl h, rfl, rfl⟩, y, .inl h, rfl⟩
  | p :: ps, xs, y, h => by
    have h' : y ∈ storedAllH (storedH xs p.1 p.2.1 p.2.2) ps := h
    obtain ⟨⟨z, hz, e1, e2⟩, z', hz', e3⟩ := storedAll_mem ps _ y h'
    refine ⟨?_, ?_⟩
    · rcases hz with hz | hz
      · obtain ⟨⟨u, hu, f1, f2⟩, _⟩ := stored_mem hz
        exact ⟨u, hu.imp id fun e => by rw [e]; exact List.mem_cons_self, e1.trans f1, e2.trans f2⟩
      · exact ⟨z, .inr (List.mem_cons_of_mem _ hz), e1, e2⟩
    · rcases hz' with hz | hz
      · obtain ⟨_, u, hu, f1⟩ := stored_mem hz
        exact ⟨u, hu.imp id fun e => by rw [e]; exact List.mem_cons_self, e3.trans f1⟩
      · exact ⟨z', .inr (List.mem_cons_of_mem _ hz), e3⟩
theorem storedAll_key : ∀ (ps xs : List NEnt) (k : NestedKey), k ∈ xs.map (·.1) ∨ k ∈ ps.map (·.1) → k ∈ (storedAllH xs ps).map (·.1)
  | [], xs, k, h => h.elim id fun h => nomatch h
  | p :: ps, xs, k, h => by
    show k ∈ (storedAllH (storedH xs p.1 p.2.1 p.2.2) ps).map (·.1)
    refine storedAll_key ps _ k ?_
    rcases h with h | h
    · exact .inl (stored_key (.inl h))
    · rcases List.mem_cons.mp (by rw [List.map_cons] at h; exact h) with h | h
      · exact .inl (stored_key (.inr h))
      · exact .inr h
def adr : Value → Addr
  | .ref a => a
  | _ => 0
section
variable {X : Cx} {κ : Type} {D : Kd X.K κ}
def tTZip {K : PySem.W.Frag} (w : World) (D : Kd K κ) (ta : TA) : TE := fun σ H Q => ta σ H fun vs H1 => ∃ (l1 l2 : Addr) (us ws : List V) (ks : List κ), vs = [.ref l1, .ref l2] ∧ SqT K H1 l1 us ∧ SqL K H1 l2 ws ∧ us.length = ws.length ∧ 1 ≤ us.length ∧ us.length ≤ 1000 ∧ ks.length = us.length ∧ (∀ (i : Nat) u k, us[i]? = some u → ks[i]? = some k → D.P k u H1) ∧
  ∀ p xs, H1 p = none → p ≠ sysModules → (∀ x ∈ xs, (∃ (i : Nat) (k : κ), ks[i]? = some k ∧ x.1 = D.f k ∧ us[i]? = some (.ref x.2.1)) ∧ ∃ (i : Nat) (v : V), ws[i]? = some v ∧ RelV v x.2.2) → (∀ k ∈ ks, D.f k ∈ xs.map (·.1)) → xs.length ≤ sizeLine → (xs.map (·.1)).Nodup → Q (.ref p) (upd H1 p (TdO w p xs))
theorem pe_tzip {a b : Expr} {ta : TA} {p1 p2 pos pos2 : Pos} (hc : X.calm = true) (hu : X.A.units + 64 < cLine) (hg : Gl X "dict") (hm : X.mg "dict" = none) (hg2 : Gl X "zip") (hm2 : X.mg "zip" = none) (ha : PA X [a, b] ta)
    (hs : starEach [a, b] X.env = (false, eval a X.env) :: starEach [b] X.env := by rfl) (hpl : (backTo pos2 (starEach [b] X.env)).any (·.1) = false := by rfl)
    (hs2 : starEach [.Call (.Name "zip" p2) [a, b] [] pos2] X.env = (false, eval (.Call (.Name "zip" p2) [a, b] [] pos2) X.env) :: starEach [] X.env := by rfl) :
    PE X (.Call (.Name "dict" p1) [.Call (.Name "zip" p2) [a, b] [] pos2] [] pos) (tTZip X.w D ta) := by
  refine ⟨fun pins s σ H Q I h => ?_⟩
  refine wpAny_Call_Name_kw (ld_blt I hg hm (u := .type "dict") (by decide +kernel) ?_)
  refine PyProof.Rows.callWith_type1 ?_ hs2 (by rfl)
  rw [hs2]
  refine Calls.spliced_cons ?_
  refine wpAny_Call_Name_kw (ld_blt I hg2 hm2 PyProof.Rows.boot_zip (PyProof.Rows.callWith_type1 (thn (ha.run pos2 pins s σ H _ I h) fun us' s1 ⟨vs, H1, I1, r1, q1⟩ => ?_) hs hpl))
  obtain ⟨l1, l2, us, ws, ks, ex, q1, q2, hl, h1, hk, hkl, hkp, q⟩ := q1
  subst ex
  have eu : us' = [.ref l1, .ref l2] := by
    cases r1 with
    | cons r rr =>
      cases rr with
      | cons r' rr =>
        cases rr; cases r; cases r'; rfl
  rw [eu]
  obtain ⟨its, rv, p1', _⟩ := I1.tuple q1
  obtain ⟨its2, rv2, p2', _⟩ := I1.list q2
  have L1 := rv.length
  have L2 := rv2.length
  have lt1 : l1 < s1.heap.objs.size := let ⟨_, e, _⟩ := p1'; Heap.lt_size e
  have lt2 : l2 < s1.heap.objs.size := p2'.lt
  refine Mz.call_zipM p1' p2'.isList fun hz z1 z2 z3 z4 z5 z6 z7 => Calls.spliced_nil ?_
  have off : ∀ {b : Addr}, b < s1.heap.objs.size → b ∉ [s1.heap.objs.size + 4, s1.heap.objs.size + 3, s1.heap.objs.size, s1.heap.objs.size + 1] := fun {b} hb hm => by
    simp at hm
    rcases hm with e | e | e | e <;> rw [e] at hb <;> first | exact absurd hb (Nat.lt_irrefl _) | exact absurd hb (Nat.not_lt.mpr (Nat.le_add_right _ _))
  have D0 := PySem.W.ktu_apart s1.heap.objs.size l1 l2 lt1 lt2
  have P1 := Mz.stp_tup (prog := X.prog) (w := X.w) (it := s1.heap.objs.size) (l := l1) (Nat.ne_of_lt lt1) its.toArray
  have P2 := Mz.stp_lst (prog := X.prog) (w := X.w) (it := s1.heap.objs.size + 1) (l := l2) (Nat.ne_of_lt (Nat.lt_succ_of_lt lt2)) its2.toArray
  have PA := Mz.zipArg D0 P1 P2 us.length h1 (by simp; omega) (fun i hi => ⟨its[i]'(by omega), its2[i]'(by omega), by simp, by simp⟩)
  have keyAt : ∀ (i : Nat) (k : κ), ks[i]? = some k → ∃ a, us[i]? = some (.ref a) ∧ its[i]? = some (.ref a) ∧ (nestedKind X.prog X.w).is s1.heap (D.f k) a := fun i k hk' => by
    have hi : i < us.length := by
      have := (List.getElem?_eq_some_iff.mp hk').1
      omega
    obtain ⟨a, ea, z⟩ := D.is X pins σ H1 s1 k us[i] rfl I1 (hkp i _ k (List.getElem?_eq_getElem hi) hk')
    obtain ⟨u, hu', ru⟩ := rv.get (List.getElem?_eq_getElem hi)
    rw [ea] at ru
    obtain rfl : u = Value.ref a := ru
    exact ⟨a, by rw [List.getElem?_eq_getElem hi, ea], hu', z⟩
  let ps : List NEnt := List.zipWith (fun (k : κ) (p : Value × Value) => (D.f k, adr p.1, p.2)) ks (its.zip its2)
  have hps : ∀ (i : Nat) (x : NEnt), ps[i]? = some x → ∃ k a v, ks[i]? = some k ∧ us[i]? = some (.ref a) ∧ its2[i]? = some v ∧ x = (D.f k, a, v) ∧ (nestedKind X.prog X.w).is s1.heap (D.f k) a := fun i x hx => by
    rw [List.getElem?_zipWith] at hx
    cases e1 : ks[i]? with
    | none => rw [e1] at hx; exact nomatch hx
    | some k =>
      cases e2 : (its.zip its2)[i]? with
      | none => rw [e1, e2] at hx; exact nomatch hx
      | some p =>
        rw [e1, e2] at hx
        obtain ⟨v1, v2⟩ := p
        rw [List.getElem?_zip_eq_some] at e2
        obtain ⟨a, h2, h3, h4⟩ := keyAt i k e1
        rw [h3] at e2
        obtain ⟨e3, e4⟩ := e2
        cases e3
        exact ⟨k, a, v2, rfl, h2, e4, (Option.some.inj hx).symm, h4⟩
  have mem : ∀ x ∈ ps, ∃ i, ps[i]? = some x := fun x hx => List.getElem?_of_mem hx
  refine call_dict_pairsH (ps := ps) (knd := nestedKind X.prog X.w) PA (I.ok.hd hc) (show X.A.units + 1 + 1 + 8 < cLine by omega) ⟨z1, z2, ⟨_, _, z3⟩, ⟨z4, let ⟨o, e, r⟩ := p1'; ⟨o, z7 _ _ e, r⟩⟩, z5, p2'.isList.at fun o e => z7 _ o e⟩ ⟨?_, fun i key v hr => ?_⟩ (fun h' hk' x hx => ?_) (Nat.le_trans hk (by decide)) fun h' tk dd hk' => ?_
  · show (List.zipWith _ _ _).length = _
    rw [List.length_zipWith, List.length_zip]
    omega
  · obtain ⟨r1, r2⟩ := hr
    have r1' : its[i]? = some key := by simpa using r1
    have r2' : its2[i]? = some v := by simpa using r2
    have hi : i < ks.length := by
      have := (List.getElem?_eq_some_iff.mp r1').1
      omega
    obtain ⟨a, h2, h3, h4⟩ := keyAt i ks[i] (List.getElem?_eq_getElem hi)
    rw [h3] at r1'
    cases r1'
    refine ⟨D.f ks[i], a, ?_, rfl⟩
    show (List.zipWith _ _ _)[i]? = _
    rw [List.getElem?_zipWith, List.getElem?_eq_getElem hi]
    have e2 : (its.zip its2)[i]? = some (Value.ref a, v) := by
      rw [List.getElem?_zip_eq_some]
      exact ⟨h3, r2'⟩
    rw [e2]
    rfl
  · obtain ⟨i, hi⟩ := mem x hx
    obtain ⟨k, a, v, _, _, _, e, z⟩ := hps i x hi
    rw [e]
    refine nestedKind_stays.stays (fun b o vs n hb _ => ?_) z
    have hb' : b < s1.heap.objs.size := Heap.lt_size hb
    exact hk' b o (Nat.ne_of_lt (Nat.lt_of_lt_of_le hb' (z6 ▸ Nat.le_add_right _ _))) (off hb') (z7 _ _ hb)
  · have nm : hz.objs.size ≠ sysModules := Nat.ne_of_gt (Nat.lt_of_lt_of_le I1.big (z6 ▸ Nat.le_add_right _ _))
    obtain ⟨o, es, ep, d1, d2, d3, d4, d5, d6⟩ := dd
    refine ⟨.ref hz.objs.size, _, I1.laid (t' := tk) (fun b u e => hk' b u (off (Heap.lt_size e)) (z7 _ _ e)) (by show s1.heap.objs.size ≤ hz.objs.size; omega) (tdO_ok (P := X.prog) (w := X.w) (xs := storedAllH [] ps) ⟨o, es, ep, d1, d2, d3, d4, d6⟩), rfl, q _ _ (I1.hok.fresh (by omega)) nm (fun x hx => ?_) (fun k hk0 => ?_) ?_ d6⟩
    · obtain ⟨⟨z, hz1, f1, f2⟩, z', hz2, f3⟩ := storedAll_mem ps [] x hx
      have hz1' : z ∈ ps := hz1.elim (fun h => nomatch h) id
      have hz2' : z' ∈ ps := hz2.elim (fun h => nomatch h) id
      obtain ⟨i, hi⟩ := mem z hz1'
      obtain ⟨k, a, v, g1, g2, g3, e, _⟩ := hps i z hi
      obtain ⟨j, hj⟩ := mem z' hz2'
      obtain ⟨k', a', v', g1', g2', g3', e', _⟩ := hps j z' hj
      refine ⟨⟨i, k, g1, by rw [f1, e], by rw [f2, e]; exact g2⟩, j, ?_⟩
      have hjl : j < ws.length := by
        have := (List.getElem?_eq_some_iff.mp g3').1
        omega
      obtain ⟨u, hu', ru⟩ := rv2.get (List.getElem?_eq_getElem hjl)
      rw [g3'] at hu'
      cases hu'
      exact ⟨ws[j], List.getElem?_eq_getElem hjl, by rw [f3, e']; exact ru⟩
    · refine storedAll_key ps [] _ (.inr ?_)
      obtain ⟨i, hi⟩ := List.getElem?_of_mem hk0
      obtain ⟨a, h2, h3, h4⟩ := keyAt i k hi
      have hil : i < its2.length := by
        have := (List.getElem?_eq_some_iff.mp h3).1
        omega
      have : ps[i]? = some (D.f k, a, its2[i]) := by
        show (List.zipWith _ _ _)[i]? = _
        rw [List.getElem?_zipWith, hi]
        have e2 : (its.zip its2)[i]? = some (Value.ref a, its2[i]) := by
          rw [List.getElem?_zip_eq_some]
          exact ⟨h3, List.getElem?_eq_getElem hil⟩
        rw [e2]
        rfl
      exact List.mem_map.mpr ⟨_, List.mem_of_getElem? this, rfl⟩
    · have h2 : ∀ (ps xs : List NEnt), (storedAllH xs ps).length ≤ xs.length + ps.length := fun ps => by
        induction ps with
        | nil => intro xs; exact Nat.le_refl _
        | cons p ps ih =>
          intro xs
          have h3 := ih (storedH xs p.1 p.2.1 p.2.2)
          have h4 := storedH_length xs p.1 p.2.1 p.2.2
          show (storedAllH (storedH xs p.1 p.2.1 p.2.2) ps).length ≤ _
          rw [List.length_cons]
          omega
      have h3 := h2 ps []
      have h4 : ps.length ≤ us.length := by
        show (List.zipWith _ _ _).length ≤ _
        rw [List.length_zipWith]
        omega
      have h5 : (1000 : Nat) < sizeLine := by decide
      simp at h3
      omega
end
end L2
set_option maxHeartbeats 1000000
/-! What Told keeps. -/
namespace Pan
open PySem PySem.Spec PyProof.Rows L2
/-! ### plain -/
theorem rows_range (rows : List (List Int)) : (List.range rows.length).map (fun i => rows.getD i []) = rows := by
  apply List.ext_getElem?
  intro i
  rw [List.getElem?_map]
  by_cases h : i < rows.length
  · rw [List.getElem?_range h, List.getElem?_eq_getElem h]
    simp [List.getD, h]
  · rw [List.getElem?_eq_none (by rw [List.length_range]; omega), List.getElem?_eq_none (by omega)]
    rfl
theorem count_all (rows : List (List Int)) (t v : Nat) : countM rows (allI rows.length) t v = (rows.filter fun r => decide (r.getD t 0 = (v : Int))).length := by
  have e : (rows.filter fun r => decide (r.getD t 0 = (v : Int))).length = (((List.range rows.length).map (fun i => rows.getD i [])).filter fun r => decide (r.getD t 0 = (v : Int))).length := by rw [rows_range]
  rw [e]
  unfold countM allI
  rw [List.filter_map, List.filter_map, List.length_map, List.length_map]
  rfl
theorem keeps_perm {rs rs' : List (List Int)} (q : List (List (Int × Int))) (h : rs'.Perm rs) : keepsM rs' q (allI rs'.length) = keepsM rs q (allI rs.length) := by
  unfold keepsM
  congr 1
  funext s
  unfold spotM
  have e : countM rs' (allI rs'.length) s.1 s.2 = countM rs (allI rs.length) s.1 s.2 := by
    rw [count_all, count_all]
    exact (h.filter _).length_eq
  rw [e]
theorem draws_perm {s : Int} {q : List (List (Int × Int))} {rs rs' : List (List Int)} (h : rs'.Perm rs) : drawsM ⟨s, q, rs'⟩ = drawsM ⟨s, q, rs⟩ := by
  unfold drawsM
  show (decide (s = (rs'.length : Int)) && keepsM rs' q (allI rs'.length)) = (decide (s = (rs.length : Int)) && keepsM rs q (allI rs.length))
  rw [keeps_perm q h, h.length_eq]
theorem okPool_perm {s : Int} {q : List (List (Int × Int))} {rs rs' : List (List Int)} (h : rs'.Perm rs) (o : okPool ⟨s, q, rs⟩) : okPool ⟨s, q, rs'⟩ := by
  obtain ⟨o1, o2, o3, o4, o5, o6⟩ := o
  exact ⟨o1, o2, o3, by show 1 ≤ rs'.length; rw [h.length_eq]; exact o4, by show rs'.length ≤ 8; rw [h.length_eq]; exact o5, fun r hr => o6 r (h.mem_iff.mp hr)⟩
theorem chan_plain : ∀ n : Nat, n < 7 → ((List.range n).map fun i : Nat => chanM [(allI n, ((1, 1) : Fr))] (i : Int)) = List.replicate n (1, 1) ∧ ∀ i : Nat, i < n → okTotal (0, 1) ((([(allI n, ((1, 1) : Fr))] : List (List Int × Fr)).filter fun z => decide ((i : Int) ∈ z.1)).map (·.2)) := by decide +kernel
/-! ### kinds of keys -/
/-- dicts by tuples of tuples (and whatever else is told by its object alone) -/
def isX : HO → Prop
  | .ext _ => True
  | _ => False
instance : Sep isX := ⟨fun _ h => h, fun _ h => h, fun _ h => h, fun _ _ h => h, fun _ _ h => h, fun _ _ h => h⟩
instance : SepT isX := ⟨fun _ h => h, fun _ _ h => h⟩
section
variable {T : List (Addr × Str)} {K : PySem.W.Frag} {H H' : Hp} {w : World}
theorem itX_sq {r : List Int} {v : V} (h : (itX T K r).p v H) : ∃ a, v = .ref a ∧ SqT K H a (r.map V.int) := by
  obtain ⟨⟨a, vs, e, h1, h2⟩, _⟩ := h
  exact ⟨a, e, by rw [← ints_all h2]; exact h1⟩
def rowD (T : List (Addr × Str)) (K : PySem.W.Frag) : Kd K (List Int) := ⟨rowKey, fun _ _ h => rowKey_inj h, fun r => (itX T K r).p, fun X pins σ H s r v hK I h => by
  subst hK
  obtain ⟨a, e, h1⟩ := itX_sq h
  exact ⟨a, e, row_is I h1, by rw [depth_row]; decide⟩⟩
theorem rows_all {X : Cx} {pins : List (Addr × Obj)} {σ : L2.St} {s : Shared} (I : Inv X pins σ H s) : ∀ {vs : List V} {rs : List (List Int)} {its : List Value}, All2 (itX T X.K) vs rs H → Vals vs its → NestedAll s.heap (rs.map rowKey) its
  | [], [], _, _, .nil => .nil
  | v :: vs, r :: rs, _, h, .cons a b => by
    obtain ⟨c, e, h1⟩ := itX_sq h.1
    subst e
    obtain rfl := (show _ = Value.ref c from a)
    exact .cons (row_is I h1) (rows_all I h.2 b)
  | [], _ :: _, _, h, _ => h.elim
  | _ :: _, [], _, h, _ => h.elim
def rowsD (T : List (Addr × Str)) (K : PySem.W.Frag) : Kd K (List (List Int)) := ⟨rowsKey, fun _ _ h => rowsKey_inj h, fun r => (rowsP T K r).p, fun X pins σ H s rs v hK I h => by
  subst hK
  obtain ⟨a, vs, e, h1, h2⟩ := h
  obtain ⟨its, rv, ⟨o, k1, k2, n, k3⟩, _⟩ := I.tuple h1
  exact ⟨a, e, .tup k1 k2 k3 (by simpa using rows_all I h2 rv), by show NestedKey.depthAll _ + 1 ≤ 8; have := depth_rows rs; omega⟩⟩
/-! ### the cache -/
def valP (T : List (Addr × Str)) (K : PySem.W.Frag) (b : Bool) (n : Nat) : Pr T := if b = true then lstP K (frP K) (List.replicate n (1, 1)) else eqP .non
instance {f : HO → Prop} [Sep f] {b : Bool} {n : Nat} : Soft f (valP T K b n) := by
  unfold valP
  split <;> infer_instance
def EntF (T : List (Addr × Str)) (K : PySem.W.Frag) (p : PoolM) (xs : List NEnt) (H : Hp) : Prop := ∀ x ∈ xs, ∃ rs, (x.1 = rowsKey rs ∧ 1 ≤ rs.length) ∧ (rowsP T K rs).p (.ref x.2.1) H ∧ ∃ v, RelV v x.2.2 ∧ (valP T K (drawsM ⟨p.size, p.quotas, rs⟩) rs.length).p v H
theorem EntF.st {p : PoolM} {xs : List NEnt} (g : Gr T H H') (h : EntF T K p xs H) : EntF T K p xs H' := fun x hx => by
  obtain ⟨rs, e, h1, v, h2, h3⟩ := h x hx
  exact ⟨rs, e, (rowsP T K rs).st _ _ _ g h1, v, h2, (valP T K _ _).st _ _ _ g h3⟩
theorem EntF.keys {p : PoolM} {xs : List NEnt} (h : EntF T K p xs H) : KeysAt (rowsD T K) xs H := fun x hx => let ⟨rs, e, h1, _⟩ := h x hx; ⟨rs, e.1, h1⟩
theorem calm_td {d : Addr} {xs : List NEnt} (h : H d = some (TdO w d xs)) (hn : (xs.map (·.1)).Nodup) : Calm H d :=
  ⟨⟨_, h, fun ps z => by unfold TdO at z; exact nomatch z⟩, fun c q hc e => by
    rw [e, h] at hc
    exact tdO_code hn (Option.some.inj hc)⟩
theorem Gr.td {d e : Addr} {xs : List NEnt} (g : Gr T H H') (h : H d = some (TdO w e xs)) : H' d = some (TdO w e xs) := g.ext d _ h fun ps z => by unfold TdO at z; exact nomatch z
/-- what a Told at a keeps: of the pool p, with at most c entries; d: its dict -/
structure Tol (T : List (Addr × Str)) (K : PySem.W.Frag) (w : World) (p : PoolM) (c : Nat) (a d dx : Addr) (H : Hp) : Prop where
  nd : d ≠ sysModules
  ins : ∃ bp, Ins (cut H [d]) a (He.ga K "Told") dx [some (.ref bp), some (.ref d)] ∧ (poolP T K p).p (.ref bp) (cut H [d])
  tab : LamX.Tabs T (cut H [d])
  ent : ∃ xs, H d = some (TdO w d xs) ∧ (xs.map (·.1)).Nodup ∧ xs.length ≤ c ∧ EntF T K p xs (cut H [d])
theorem Tol.calm {p : PoolM} {c : Nat} {a d dx : Addr} (t : Tol T K w p c a d dx H) : Calm H d := let ⟨_, h1, h2, _⟩ := t.ent; calm_td h1 h2
theorem Tol.sub {p : PoolM} {c : Nat} {a d dx : Addr} (t : Tol T K w p c a d dx H) (g : Gr T H H') : Gr T (cut H [d]) (cut H' [d]) := by
  obtain ⟨xs, h1, h2, _⟩ := t.ent
  exact (Gr.cut.trans g).toCut (fun b hb => cut_in hb) fun b hb => by
    rw [List.mem_singleton.mp hb]
    exact calm_td (g.td h1) h2
theorem Tol.gr {p : PoolM} {c : Nat} {a d dx : Addr} (t : Tol T K w p c a d dx H) (g : Gr T H H') : Tol T K w p c a d dx H' := by
  have s := t.sub g
  obtain ⟨xs, h1, h2, h3, h4⟩ := t.ent
  obtain ⟨bp, i1, i2⟩ := t.ins
  exact ⟨t.nd, ⟨bp, i1.gr s, (poolP T K p).st _ _ _ s i2⟩, s.tab t.tab, xs, g.td h1, h2, h3, h4.st s⟩
theorem Tol.more {p : PoolM} {c c' : Nat} {a d dx : Addr} (t : Tol T K w p c a d dx H) (h : c ≤ c') : Tol T K w p c' a d dx H := by
  obtain ⟨xs, h1, h2, h3, h4⟩ := t.ent
  exact ⟨t.nd, t.ins, t.tab, xs, h1, h2, Nat.le_trans h3 h, h4⟩
theorem cut_upd {d : Addr} {o : HO} : cut (upd H d o) [d] = cut H [d] := by
  funext b
  by_cases h : b ∈ [d]
  · rw [cut_in h, cut_in h]
  · rw [cut_out h, cut_out h, upd_ne fun e => h (by rw [e]; simp)]
theorem Tol.soft {p : PoolM} {c : Nat} {a d dx : Addr} {P : Pr T} [S : Soft isX P] {v : V} (t : Tol T K w p c a d dx H) (h : P.p v H) : P.p v (cut H [d]) := S.s _ _ _ (fun b hb o e => by
  obtain ⟨xs, h1, _⟩ := t.ent
  rw [List.mem_singleton.mp hb, h1] at e
  rw [← Option.some.inj e]
  trivial) h
/-- a new entry -/
theorem EntF.put {p : PoolM} {c : Nat} {a d dx ka : Addr} {xs : List NEnt} {rs : List (List Int)} {v : V} {r : Value} (h1n : 1 ≤ rs.length) (t : Tol T K w p c a d dx H) (he : EntF T K p xs (cut H [d])) (hk : (rowsP T K rs).p (.ref ka) H) (hv : (valP T K (drawsM ⟨p.size, p.quotas, rs⟩) rs.length).p v H) (hr : RelV v r) : EntF T K p (xs ++ [(rowsKey rs, ka, r)]) (cut H [d]) := fun x hx => by
  rcases List.mem_append.mp hx with hx | hx
  · exact he x hx
  · rw [List.mem_singleton.mp hx]
    exact ⟨rs, ⟨rfl, h1n⟩, t.soft hk, v, hr, t.soft hv⟩
theorem Tol.put {p : PoolM} {c : Nat} {a d dx ka : Addr} {xs : List NEnt} {rs : List (List Int)} {v : V} {r : Value} (h1n : 1 ≤ rs.length) (t : Tol T K w p c a d dx H) (hd : H d = some (TdO w d xs)) (hn : (xs.map (·.1)).Nodup) (hl : xs.length ≤ c) (he : EntF T K p xs (cut H [d]))
    (hk : (rowsP T K rs).p (.ref ka) H) (hno : rowsKey rs ∉ xs.map (·.1)) (hv : (valP T K (drawsM ⟨p.size, p.quotas, rs⟩) rs.length).p v H) (hr : RelV v r) : Tol T K w p (c + 1) a d dx (upd H d (TdO w d (xs ++ [(rowsKey rs, ka, r)]))) := by
  refine ⟨t.nd, by rw [cut_upd]; exact t.ins, by rw [cut_upd]; exact t.tab, _, upd_same, ?_, ?_, by rw [cut_upd]; exact he.put h1n t hk hv hr⟩
  · rw [List.map_append, List.nodup_append]
    refine ⟨hn, by simp, fun x hx y hy => ?_⟩
    rw [List.mem_singleton.mp hy]
    exact fun e => hno (by rw [← show x = rowsKey rs from e]; exact hx)
  · rw [List.length_append]
    exact Nat.succ_le_succ hl
/-- the chances by values: None if b is not so -/
def resP (T : List (Addr × Str)) (K : PySem.W.Frag) (w : World) (b : Bool) (rs : List (List Int)) : Pr T := ⟨fun v H => if b = true then ∃ e ys, v = .ref e ∧ H e = some (TdO w e ys) ∧ (ys.map (·.1)).Nodup ∧ (∀ y ∈ ys, ∃ r, y.1 = rowKey r ∧ (itX T K r).p (.ref y.2.1) H ∧ ∃ u, RelV u y.2.2 ∧ (frP (T := T) K (1, 1)).p u H) ∧ ∀ r ∈ rs, rowKey r ∈ ys.map (·.1) else v = .non,
  fun v H H' g h => by
    cases b with
    | false => exact h
    | true =>
      rw [if_pos rfl] at h ⊢
      obtain ⟨e, ys, h1, h2, h3, h4, h5⟩ := h
      exact ⟨e, ys, h1, g.td h2, h3, fun y hy => let ⟨r, e1, e2, u, e3, e4⟩ := h4 y hy; ⟨r, e1, (itX T K r).st _ _ _ g e2, u, e3, (frP K (1, 1)).st _ _ _ g e4⟩, h5⟩⟩
end
section
variable {T : List (Addr × Str)} {X : Cx} {e : Expr} {σ : L2.St} {H : Hp} {pos : Pos} {p : PoolM} {c : Nat} {a d dx : Addr}
theorem ee_found (W : Wd X.K X.mg) (t : Tol T X.K X.w p c a d dx H) (h : EE T X e σ H (eqP (.ref a))) (hb : attributeBase e "found" X.env (eval e X.env) = eval e X.env := by rfl) : EE T X (.Attribute e "found" pos) σ H (eqP (.ref d)) := by
  obtain ⟨bp, i1, _⟩ := t.ins
  exact ee_sl h (fun v H1 g ev => ⟨a, _, dx, _, _, 1, .ref d, ev, ((i1.gr (T := T) Gr.cut).gr g).slt, W.s_Told, W.Told_found, rfl, rfl⟩) hb
theorem ee_base (W : Wd X.K X.mg) (t : Tol T X.K X.w p c a d dx H) (h : EE T X e σ H (eqP (.ref a))) (hb : attributeBase e "base" X.env (eval e X.env) = eval e X.env := by rfl) : EE T X (.Attribute e "base" pos) σ H (poolP T X.K p) := by
  obtain ⟨bp, i1, i2⟩ := t.ins
  exact ee_sl h (fun v H1 g ev => ⟨a, _, dx, _, _, 0, .ref bp, ev, ((i1.gr (T := T) Gr.cut).gr g).slt, W.s_Told, W.Told_base, rfl, (poolP T X.K p).st _ _ _ (Gr.cut.trans g) i2⟩) hb
end
end Pan
set_option maxHeartbeats 2000000
/-! Told.__init__, Told.chances. -/
namespace Pan
open PySem PySem.Spec PyProof.Rows L2
section
variable {T : List (Addr × Str)} {H : Hp} {K : PySem.W.Frag}
theorem All2.perm {α : Type} {R : α → Pr T} {vs ys : List V} (h : ys.Perm vs) : ∀ {xs : List α}, All2 R vs xs H → ∃ zs, zs.Perm xs ∧ All2 R ys zs H := by
  induction h with
  | nil => exact fun {xs} a => ⟨xs, .refl _, a⟩
  | cons v p ih =>
    intro xs a
    cases xs with
    | nil => exact a.elim
    | cons x xs =>
      obtain ⟨zs, h1, h2⟩ := ih a.2
      exact ⟨x :: zs, h1.cons x, a.1, h2⟩
  | swap u v l =>
    intro xs a
    cases xs with
    | nil => exact a.elim
    | cons x xs => cases xs with
      | nil => exact a.2.elim
      | cons y xs => exact ⟨y :: x :: xs, List.Perm.swap x y xs, a.2.1, a.1, a.2.2⟩
  | trans p q ih1 ih2 =>
    intro xs a
    obtain ⟨zs, h1, h2⟩ := ih2 a
    obtain ⟨ws, h3, h4⟩ := ih1 h2
    exact ⟨ws, h3.trans h1, h4⟩
def permL (T : List (Addr × Str)) (K : PySem.W.Frag) (rs : List (List Int)) : Pr T := ⟨fun v H => ∃ rs', rs'.Perm rs ∧ (lstP K (itX T K) rs').p v H, fun v H H' g ⟨rs', h1, h2⟩ => ⟨rs', h1, (lstP K (itX T K) rs').st _ _ _ g h2⟩⟩
def permT (T : List (Addr × Str)) (K : PySem.W.Frag) (rs : List (List Int)) : Pr T := ⟨fun v H => ∃ rs', rs'.Perm rs ∧ (rowsP T K rs').p v H, fun v H H' g ⟨rs', h1, h2⟩ => ⟨rs', h1, (rowsP T K rs').st _ _ _ g h2⟩⟩
end
section
variable {T : List (Addr × Str)} {X : Cx} {a b o i : Expr} {σ : L2.St} {H : Hp} {pos p1 p2 pos2 : Pos} {rs : List (List Int)} {x : Str} {m c : Nat} {p : PoolM} {sa d dx : Addr} {xs : List NEnt}
/-- sorted(people) -/
theorem ee_sortRows {k : Nat} (hm : X.mg x = none) (hk : 1 ≤ k) (hl : rs.length < 64) (hb : ∀ r ∈ rs, r.length = k ∧ ∀ n ∈ r, 0 ≤ n ∧ n < 3) (ha : EE T X a σ H (rowsP T X.K rs)) (hv : bootBuiltins x = some (.builtin "sorted") := by decide +kernel) (hg : Gl X x := by rfl) (hn : x ≠ "__name__" := by decide) (hdb : (x == ("__debug__" : Str)) = false := by decide)
    (he : starEach [a] X.env = (false, eval a X.env) :: starEach [] X.env := by rfl) : EE T X (.Call (.Name x p1) [a] [] pos) σ H (permL T X.K rs) :=
  ee_bltn (cr_sortP (d := k) (B := 3) hk) hm hv (ea_cons ha ea_nil he) (fun vs H1 g hs Q z => by
    obtain ⟨v, rfl, t, us, rfl, h1, h2⟩ := sat1 hs
    refine ⟨t, us, rfl, h1, by rw [h2.length]; exact hl, fun u hu => ?_, fun ys q hp hq => ?_⟩
    · obtain ⟨j, hj⟩ := List.getElem?_of_mem hu
      obtain ⟨r, hr, hR⟩ := h2.get hj
      obtain ⟨e, e1, e2⟩ := itX_sq hR
      obtain ⟨b1, b2⟩ := hb r (List.mem_of_getElem? hr)
      exact ⟨r, ⟨e, e1, e2⟩, b1, b2⟩
    · obtain ⟨zs, h3, h4⟩ := h2.perm hp
      exact z _ _ (.new hq) ⟨zs, h3, q, ys, rfl, .inl (.inl upd_same), h4.st (.new hq)⟩) hg hn hdb he
/-- tuple(..) of these -/
theorem ee_tupPerm (hm : X.mg x = none) (ha : EE T X a σ H (permL T X.K rs)) (hv : bootBuiltins x = some (.type "tuple") := by decide +kernel) (hg : Gl X x := by rfl) (hn : x ≠ "__name__" := by decide) (hdb : (x == ("__debug__" : Str)) = false := by decide)
    (he : starEach [a] X.env = (false, eval a X.env) :: starEach [] X.env := by rfl) : EE T X (.Call (.Name x p1) [a] [] pos) σ H (permT T X.K rs) :=
  ee_type call_tuple_of hm hv (ea_cons ha ea_nil he) (fun vs H1 g hs Q z => by
    obtain ⟨v, rfl, rs', hp, t, us, rfl, h1, h2⟩ := sat1 hs
    exact ⟨t, us, rfl, .inl ⟨h1, fun l hl => z _ _ (.new hl) ⟨rs', hp, l, us, rfl, .inl (.inl upd_same), h2.st (.new hl)⟩⟩⟩) hg hn hdb he
theorem et_tnotin (hr : Room m X.A) (t : Tol T X.K X.w p c sa d dx H) (hd : H d = some (TdO X.w d xs)) (hx : EntF T X.K p xs (cut H [d])) (ha : EE T X a σ H (rowsP T X.K rs)) (hb : EE T X b σ H (eqP (.ref d))) (hm : behindInMarks .NotIn b = false := by rfl) : ET T X (.Compare a [.NotIn] [b] pos) σ H (!decide (rowsKey rs ∈ xs.map (·.1))) :=
  ET.of (pt_cmp (pc_tnotin (D := rowsD T X.K) hr.units ha hb) hm) fun H1 g Q r => ⟨rfl, g, fun v H2 g2 hv => ⟨rfl, g.trans g2, fun w H3 g3 hw =>
    ⟨d, xs, rs, hw, t.nd, ((g.trans g2).trans g3).td hd, (hx.st (Gr.cut.trans ((g.trans g2).trans g3))).keys, (rowsP T X.K rs).st _ _ _ g3 hv, _, rfl, r H3 (g2.trans g3)⟩⟩⟩
theorem ee_tget (hr : Room m X.A) (hd : H d = some (TdO X.w d xs)) (hx : EntF T X.K p xs (cut H [d])) (hin : rowsKey rs ∈ xs.map (·.1)) (ho : EE T X o σ H (eqP (.ref d))) (hi : EE T X i σ H (rowsP T X.K rs)) (hs : NoSl i := by intro _ _; rfl) : EE T X (.Subscript o i pos) σ H (valP T X.K (drawsM ⟨p.size, p.quotas, rs⟩) rs.length) :=
  EE.of (pe_tget (D := rowsD T X.K) hr.units ho hi hs) fun H1 g Q r => ⟨rfl, g, fun v H2 g2 hv => ⟨rfl, g.trans g2, fun w H3 g3 hw => by
    have gg := (g.trans g2).trans g3
    obtain ⟨z, hz, ez⟩ := List.mem_map.mp hin
    obtain ⟨rs', e1, h1, u, h2, h3⟩ := hx z hz
    have er : rs' = rs := rowsKey_inj (e1.1.symm.trans ez)
    subst er
    exact ⟨d, xs, rs', hv, gg.td hd, (hx.st (Gr.cut.trans gg)).keys, hw, z, hz, ez, u, h2, r u H3 (g2.trans g3) ((valP T X.K _ _).st _ _ _ (Gr.cut.trans gg) h3)⟩⟩⟩
/-- d[key] = value, a new key -/
theorem ss_tput {e : Expr} {rest : List Stmt} {D : Ends} {pos' : Pos} (h1n : 1 ≤ rs.length) (hr : Room m X.A) (t : Tol T X.K X.w p c sa d dx H) (hd : H d = some (TdO X.w d xs)) (hn : (xs.map (·.1)).Nodup) (hl : xs.length ≤ c) (hc : c ≤ 900) (hx : EntF T X.K p xs (cut H [d])) (hno : rowsKey rs ∉ xs.map (·.1))
    (ho : EE T X o σ H (eqP (.ref d))) (hi : EE T X i σ H (rowsP T X.K rs)) (hv : EE T X e σ H (valP T X.K (drawsM ⟨p.size, p.quotas, rs⟩) rs.length))
    (q : ∀ H' ys, Gr T (cut H [d]) (cut H' [d]) → Tol T X.K X.w p (c + 1) sa d dx H' → H' d = some (TdO X.w d ys) → EntF T X.K p ys (cut H' [d]) → rowsKey rs ∈ ys.map (·.1) → SS T X rest σ H' D)
    (hs : swapsWith e (some (.Subscript o i pos')) pos.line X.env = pure false := by rfl) : SS T X (.Assign [.Subscript o i pos'] e pos :: rest) σ H D := by
  refine ss_cons (S1.of (ps_tput (D := rowsD T X.K) hr.units ho hi hv hs) ⟨rfl, .refl _, fun v H4 g4 hv => ⟨rfl, g4, fun y H5 g5 hy => ⟨rfl, g4.trans g5, fun z H6 g6 hz => ?_⟩⟩⟩)
  obtain rfl : y = V.ref d := hy
  have gg := (g4.trans g5).trans g6
  obtain ⟨ka, us, rfl, k1, k2⟩ := hz
  have hz : (rowsP T X.K rs).p (.ref ka) H6 := ⟨ka, us, rfl, k1, k2⟩
  have t6 := t.gr gg
  have x6 : EntF T X.K p xs (cut H6 [d]) := hx.st (t.sub gg)
  have hd6 := gg.td hd
  have hv6 := (valP T X.K _ _).st _ _ _ (g5.trans g6) hv
  refine ⟨d, xs, rs, ka, rfl, rfl, hd6, (x6.st Gr.cut).keys, hz, hno, Nat.lt_of_le_of_lt hl (Nat.lt_of_le_of_lt hc (by decide)), fun r hr => q _ (xs ++ [(rowsKey rs, ka, r)]) (by rw [cut_upd]; exact t.sub gg) (t6.put h1n hd6 hn hl x6 hz hno hv6 hr) upd_same (by rw [cut_upd]; exact x6.put h1n t6 hz hv6 hr) (by simp)⟩
/-- dict(zip(key, values)) -/
theorem ee_tzip {n : Nat} (hc : X.calm = true) (hr : Room m X.A) (hm : X.mg "dict" = none) (hm2 : X.mg "zip" = none) (h1 : 1 ≤ rs.length) (h2 : rs.length ≤ 1000) (hn : n = rs.length) (ha : EE T X a σ H (rowsP T X.K rs)) (hb : EE T X b σ H (valP T X.K true n)) (hg : Gl X "dict" := by rfl) (hg2 : Gl X "zip" := by rfl)
    (hs : starEach [a, b] X.env = (false, eval a X.env) :: starEach [b] X.env := by rfl) (hs1 : starEach [b] X.env = (false, eval b X.env) :: starEach [] X.env := by rfl) (hpl : (backTo pos2 (starEach [b] X.env)).any (·.1) = false := by rfl)
    (hs2 : starEach [.Call (.Name "zip" p2) [a, b] [] pos2] X.env = (false, eval (.Call (.Name "zip" p2) [a, b] [] pos2) X.env) :: starEach [] X.env := by rfl) : EE T X (.Call (.Name "dict" p1) [.Call (.Name "zip" p2) [a, b] [] pos2] [] pos) σ H (resP T X.K X.w true rs) :=
  EE.of (pe_tzip (D := rowD T X.K) hc hr.units hg hm hg2 hm2 (ea_cons ha (ea_cons hb ea_nil hs1) hs) hs hpl hs2) fun H1 g Q r => ⟨rfl, g, fun vs H2 g2 hv => by
    obtain ⟨v, w, rfl, ⟨l1, us, rfl, k1, k2⟩, hw⟩ := sat2 hv
    obtain ⟨l2, ws, rfl, k3, k4⟩ := (show (lstP X.K (frP X.K) (List.replicate n (1, 1))).p w H2 from hw)
    have L1 := k2.length
    have L2 := k4.length
    rw [List.length_replicate] at L2
    refine ⟨l1, l2, us, ws, rs, rfl, k1, k3, by omega, by omega, by omega, by omega, fun i u r hu hr => ?_, fun q ys hq nq f1 f2 f3 f4 => r _ _ (g2.trans (.new hq)) ⟨q, ys, rfl, upd_same, f4, fun y hy => ?_, fun r hr => f2 r hr⟩⟩
    · obtain ⟨r', e1, e2⟩ := k2.get hu
      rw [hr] at e1
      rw [Option.some.inj e1]
      exact e2
    · obtain ⟨⟨i, r, e1, e2, e3⟩, j, u, e4, e5⟩ := f1 y hy
      obtain ⟨r', e6, e7⟩ := k2.get e3
      rw [e1] at e6
      obtain ⟨q', e8, e9⟩ := k4.get e4
      have : q' = (1, 1) := List.eq_of_mem_replicate (List.mem_of_getElem? e8)
      rw [this] at e9
      exact ⟨r, e2, (itX T X.K r).st _ _ _ (.new hq) (by rw [Option.some.inj e6]; exact e7), u, e5, (frP X.K (1, 1)).st _ _ _ (.new hq) e9⟩⟩
end
section
variable {T : List (Addr × Str)} {P : Program} {w : World} {K : PySem.W.Frag} {mg : Str → Option Value} {base : Heap}
def spTc (T : List (Addr × Str)) (K : PySem.W.Frag) (w : World) : Sp := fun vs H Q _ => ∃ (p : PoolM) (c : Nat) (a d dx : Addr) (rs : List (List Int)) (pv : V), vs = [.ref a, pv] ∧ Tol T K w p c a d dx H ∧ (rowsP T K rs).p pv H ∧ okPan ⟨p.size, p.quotas, rs⟩ ∧ rs.length ≤ 6 ∧ c ≤ 900 ∧
  ∀ v H', Gr T (cut H [d]) (cut H' [d]) → Tol T K w p (c + 1) a d dx H' → (resP T K w (drawsM ⟨p.size, p.quotas, rs⟩) rs).p v H' → Q v H'
theorem scTc : FnScope ["self", "people", "key", "pool"] ["self", "people"] (defScope (inClass (top 45) 2)) := ⟨rfl, rfl, rfl, by decide +kernel, rfl, by decide +kernel, by decide +kernel⟩
theorem row_bd {s : Int} {q : List (List (Int × Int))} {rs : List (List Int)} (o : okPool ⟨s, q, rs⟩) : ∀ r ∈ rs, r.length = q.length ∧ ∀ n ∈ r, 0 ≤ n ∧ n < 3 := fun r hr => by
  obtain ⟨_, _, hq, _, _, h⟩ := o
  obtain ⟨h1, h2⟩ := h r hr
  have h1 : r.length = q.length := h1
  refine ⟨h1, fun n hn => ?_⟩
  obtain ⟨i, hi⟩ := List.getElem?_of_mem hn
  have hil : i < q.length := by
    have := (List.getElem?_eq_some_iff.mp hi).1
    omega
  have hz : (r.zip q)[i]? = some (n, q[i]) := by
    rw [List.getElem?_zip_eq_some]
    exact ⟨hi, List.getElem?_eq_getElem hil⟩
  have h3 := h2 _ (List.mem_of_getElem? hz)
  have h4 := (hq _ (List.getElem_mem hil)).2.1
  have h5 : n < (q[i].length : Int) := h3.2
  have h6 : 0 ≤ n := h3.1
  omega
theorem dat_itX (r : List Int) : Dat T K 1 (itX T K r) (.tuple (r.map .int)) := ⟨fun v H h => (Dat.ints r).dp v H h.1, (Dat.ints (T := T) (K := K) r).cl, (Dat.ints (T := T) (K := K) r).de⟩
theorem ok_chances (W : Wd K mg) (B : BadT T K mg base) : FnR P w K mg base CX0 9 (He.ma K (He.ga K "Told") "chances") (spTc T K w) := by
  obtain ⟨fd, Fd⟩ := W.d_Told_chances
  have b : Binds K fd ["self", "people"] [] := Fd.bindsN fun _ _ _ _ _ _ us hl => match us, hl with | [_, _], _ => rfl
  refine fn_any (T := T) Fd scTc b (fun vs H Q E ⟨p, c, a, d, dx, rs, pv, e, _⟩ => by rw [e]; rfl) fun cdv A0 outer s H vs Q E hr hsp => ?_
  obtain ⟨p, c, a, d, dx, rs, pv, rfl, t, h1, hpan, hn6, hc9, hQ⟩ := hsp
  have Lv := ok_levels_of (T := T) (P := P) (w := w) (base := base) W B
  have Lp := ok_panels_of (T := T) (P := P) (w := w) (base := base) W
  have Lc := ok_chances_of (T := T) (P := P) (w := w) (base := base) W
  have Li := ok_Pool_init (T := T) (P := P) (w := w) (base := base) W
  have hb := row_bd hpan.1
  have hq := hpan.1.2.1
  have hn1 : 1 ≤ rs.length := hpan.1.2.2.2.1
  refine ss_set 2 (ee_tupPerm W.f_tuple (ee_sortRows (k := p.quotas.length) W.f_sorted hq.1 (by omega) hb (ee_var 1 rfl h1))) scTc.nd fun kv H1 g1 ⟨ks, hp, hk⟩ => ?_
  have t1 := t.gr g1
  have ed : drawsM ⟨p.size, p.quotas, ks⟩ = drawsM ⟨p.size, p.quotas, rs⟩ := draws_perm hp
  have ek : okPool ⟨p.size, p.quotas, ks⟩ := okPool_perm hp hpan.1
  have el : ks.length = rs.length := hp.length_eq
  have epan : okPan ⟨p.size, p.quotas, ks⟩ := ⟨ek, by have := hpan.2; show p.size = (ks.length : Int) ∨ p.size = (ks.length : Int) + 1; rw [el]; exact this⟩
  obtain ⟨xs, x1, x2, x3, x4⟩ := t1.ent
  -- the end
  have fin : ∀ (u : Option V) (H2 : Hp) (ys : List NEnt), Gr T (cut H [d]) (cut H2 [d]) → Tol T K w p (c + 1) a d dx H2 → H2 d = some (TdO w d ys) → EntF T K p ys (cut H2 [d]) → rowsKey ks ∈ ys.map (·.1) → (rowsP T K ks).p kv H2 →
      SS T (cxOf CX0 P w K mg base ["self", "people", "key", "pool"] "Told.chances" (defScope (inClass (top 45) 2)) (He.ma K (He.ga K "Told") "chances") cdv A0 outer s H E).nox (defBody (inClass (top 45) 2)).tail.tail [some (.ref a), some pv, some kv, u] H2 { nx := fun _ H' => Q .non H', rt := Q } := fun u H2 ys g t2 y1 y2 y3 hk2 => by
    refine ss_ret (P := resP T K w (drawsM ⟨p.size, p.quotas, rs⟩) rs) (ee_if (t := drawsM ⟨p.size, p.quotas, ks⟩) (ET.cast (et_notN (t := !drawsM ⟨p.size, p.quotas, ks⟩) (P := valP T K (drawsM ⟨p.size, p.quotas, ks⟩) ks.length) (fun v H3 hv => ?_) (ee_tget hr y1 y2 y3 (ee_found W t2 (ee_var 0 rfl rfl)) (ee_var 2 rfl hk2))) (by simp)) (fun hb => ?_) fun hb => ?_) fun v H3 g3 hv => hQ v H3 (g.trans (t2.sub g3)) (t2.gr g3) hv
    · cases hdr : drawsM ⟨p.size, p.quotas, ks⟩ with
      | true =>
        rw [hdr] at hv
        obtain ⟨q, _, e, _⟩ := (show (lstP K (frP K) (List.replicate ks.length (1, 1))).p v H3 from hv)
        rw [e]
        rfl
      | false =>
        rw [hdr] at hv
        rw [show v = V.non from hv]
        rfl
    · refine EE.imp (ee_tzip (T := T) (rs := ks) (n := ks.length) rfl hr W.f_dict W.f_zip (by omega) (by omega) rfl (ee_var 2 rfl hk2) (EE.cast (ee_tget hr y1 y2 y3 (ee_found W t2 (ee_var 0 rfl rfl)) (ee_var 2 rfl hk2)) (by rw [hb]))) fun v H3 g3 hv => ?_
      rw [← ed, hb]
      obtain ⟨e, zs, z1, z2, z3, z4, z5⟩ := hv
      exact ⟨e, zs, z1, z2, z3, z4, fun r hr => z5 r (hp.mem_iff.mpr hr)⟩
    · exact EE.imp ee_non fun v H3 g3 hv => by
        rw [← ed, hb]
        exact hv
  refine ss_when (t := !decide (rowsKey ks ∈ xs.map (·.1))) (et_tnotin hr t1 x1 x4 (ee_var 2 rfl hk) (ee_found W t1 (ee_var 0 rfl rfl))) (fun ht H2 g2 => ?_) fun hf H2 g2 => ?_
  · have hno : rowsKey ks ∉ xs.map (·.1) := by simpa using ht
    have t2 := t1.gr g2
    have hk2 := (rowsP T K ks).st _ _ _ g2 hk
    refine ssx_set 3 (ex_make (T := T) (E := fun _ _ _ => False) (R := fun v H' => Gr T H2 H' ∧ (poolP T K ⟨p.size, p.quotas, ks⟩).p v H') (Ps := [intP p.size, quosP T K p.quotas, rowsP T K ks]) W.mk_Pool Li hr W.mg_Pool (ea_cons (ee_many W (ee_base W t2 (ee_var 0 rfl rfl))) (ea_cons (ee_bounds W (ee_base W t2 (ee_var 0 rfl rfl))) (ea_cons (ee_var 2 rfl hk2) ea_nil))) fun ws H3 q dq g3 hws a1 a2 a3 => ⟨q, dq, H3, ws, ⟨p.size, p.quotas, ks⟩, rfl, Ins.made a1 a2 a3, a1, a2, gr_made a1 a2 a3, ek, hws, fun H' g h => ⟨rfl, g3.trans g, h⟩⟩) scTc.nd fun qv H3 ⟨g3, hqv⟩ => ?_
    have t3 := t2.gr g3
    have hk3 := (rowsP T K ks).st _ _ _ g3 hk2
    have hd3 := ((g2.trans g3).td x1)
    have x3' : EntF T K p xs (cut H3 [d]) := x4.st (t1.sub (g2.trans g3))
    refine ss_tput (rs := ks) (T := T) (by omega) hr t3 hd3 x2 x3 hc9 x3' hno (ee_found W t3 (ee_var 0 rfl rfl)) (ee_var 2 rfl hk3) (ee_if (t := drawsM ⟨p.size, p.quotas, ks⟩) (ET.cast (et_neD hr (Dat.lst (R := itX T K) (f := fun r : List Int => .tuple (r.map .int)) fun r _ => dat_itX r) (Dat.lst (R := itX T K) (xs := []) (f := fun r : List Int => .tuple (r.map .int)) fun r _ => dat_itX r) (ee_callP Lp W.g_panels_of.mg W.g_panels_of.kp hr (⟨p.size, p.quotas, ks⟩ : PoolM) epan (ea_cons (ee_var 3 rfl hqv) ea_nil)) (ee_new (nl_lst ea_nil) fun p vs H2 g hp hS => ?_)) ?_) (fun hdr => ?_) fun hdr => ?_) fun H4 ys g4 t4 y1 y2 y3 => ?_
    · cases vs with
      | nil => exact ⟨p, [], rfl, .inl (.inl hp), trivial⟩
      | cons _ _ => exact hS.elim
    · unfold panelsM
      cases drawsM ⟨p.size, p.quotas, ks⟩ <;> simp [PyData.eqv, PyData.eqvAll]
    · obtain ⟨c1, c2⟩ := chan_plain ks.length (by omega)
      refine EE.cast (ee_callP (P := lstP K (frP K) ((List.range ks.length).map fun i : Nat => chanM [(allI ks.length, (1, 1))] (i : Int))) Lc W.g_chances_of.mg W.g_chances_of.kp hr (⟨⟨p.size, p.quotas, ks⟩, [(allI ks.length, (1, 1))]⟩ : ChanM) ⟨by show ks.length ≤ 8; omega, by show 1 ≤ 100; omega, c2⟩ (ea_cons (ee_var 3 rfl hqv) (ea_cons (ee_slot W.s_Levels W.Levels_lottery (fun _ _ h => h) (show EE T _ _ _ _ (levP T K [(allI ks.length, (1, 1))]) from EE.ofX fun H4 g4 => ?_)) ea_nil))) (by rw [c1, hdr]; rfl)
      exact EX.imp (ex_call (T := T) (E := fun _ _ _ => False) (R := fun v H' => Gr T H4 H' ∧ (levP T K [(allI ks.length, (1, 1))]).p v H') (Ps := [poolP T K ⟨p.size, p.quotas, ks⟩]) Lv W.g_levels_of.mg W.g_levels_of.kp hr (ea_cons (ee_var 3 rfl ((poolP T K _).st _ _ _ g4 hqv)) ea_nil) fun ws H5 g5 hws => ⟨⟨p.size, p.quotas, ks⟩, (Gr.cut.trans (g4.trans g5)).tab t3.tab, ⟨epan, hdr, by show ks.length ≤ 6; omega⟩, hws, fun v H' g h => ⟨g5.trans g, h⟩⟩) fun v H' h => h
    · exact EE.imp ee_non fun v H' _ hv => by
        rw [hdr]
        exact hv
    · exact ss_nil (T := T) (fin (some qv) H4 ys ((t.sub ((g1.trans g2).trans g3)).trans g4) t4 y1 y2 y3 ((rowsP T K ks).st _ _ _ (g4.trans Gr.cut) (t3.soft hk3)))
  · have hin : rowsKey ks ∈ xs.map (·.1) := by simpa using hf
    exact fin none H2 xs (t.sub (g1.trans g2)) ((t1.gr g2).more (Nat.le_succ c)) (g2.td x1) (x4.st (t1.sub g2)) hin ((rowsP T K ks).st _ _ _ g2 hk)
end
end Pan
set_option maxHeartbeats 2000000
/-! Told.__init__, Told.chance. -/
namespace L2
open PySem PySem.Spec PyProof.Rows
/-- {}, to be a dict by tuples of tuples -/
theorem pe_dnewX {X : Cx} {pos : Pos} : PE X (.Dict [] [] pos) (fun _ H Q => ∀ p, H p = none → p ≠ sysModules → Q (.ref p) (upd H p (TdO X.w p []))) := ⟨fun pins s σ H Q I h =>
  wpAny_Dict_empty ⟨.ref s.heap.objs.size, _, I.laid (a := s.heap.objs.size) (o := TdO X.w s.heap.objs.size []) (t' := s.toks) (fun _ _ q => Heap.get?_push_of_some _ q) (Nat.le_refl _) (tdO_ok (P := X.prog) ⟨_, #[], 0, Heap.get?_push_size _ rfl, ⟨rfl, rfl, rfl⟩, rfl, rfl, List.nodup_nil⟩), rfl, h _ (I.hok.fresh (Nat.le_refl _)) (Nat.ne_of_gt I.big)⟩⟩
end L2
namespace Pan
open PySem PySem.Spec PyProof.Rows L2
/-- a list of ints -/
def isLi : HO → Prop
  | .lst xs => ∀ x ∈ xs, ∃ i, x = .int i
  | _ => False
instance : SepU isLi := ⟨fun _ h => h, fun _ _ h => h⟩
instance : SepI isLi := ⟨fun o h k => by cases o <;> first | exact h | exact k⟩
section
variable {T : List (Addr × Str)} {K : PySem.W.Frag} {H H' : Hp} {w : World} {f : HO → Prop}
theorem valP_li {b : Bool} {n : Nat} (h : 1 ≤ n) : Soft isLi (valP T K b n) := ⟨fun v H m k hv => by
  cases b with
  | false => exact hv
  | true =>
    obtain ⟨a, vs, e, h1, h2⟩ := (show (lstP K (frP K) (List.replicate n (1, 1))).p v H from hv)
    refine (show (lstP K (frP K) (List.replicate n (1, 1))).p v (cut H m) from ⟨a, vs, e, h1.imp (fun r => ?_) id, h2.soft k⟩)
    have no : a ∉ m := fun q => by
      rcases r with r | ⟨q', r⟩
      · have hk := k a q _ r
        have L := h2.length
        rw [List.length_replicate] at L
        cases vs with
        | nil => simp at L; omega
        | cons u us =>
          obtain ⟨i, ei⟩ := hk u List.mem_cons_self
          cases n with
          | zero => omega
          | succ n =>
            obtain ⟨t, _, et, _⟩ := h2.1
            rw [ei] at et
            exact nomatch et
      · exact k a q _ r
    exact r.imp (fun r => (cut_out no).trans r) fun ⟨q', r⟩ => ⟨q', (cut_out no).trans r⟩⟩
/-- a change of something that the cache does not rest on -/
theorem Tol.upd {p : PoolM} {c : Nat} {a d dx D : Addr} {o o' : HO} [SepU f] [SepI f] (hv : ∀ b n, 1 ≤ n → Soft f (valP T K b n)) (t : Tol T K w p c a d dx H) (hD : H D = some o) (hf : f o) (hc : Calm H D) : Tol T K w p c a d dx (L2.upd H D o') := by
  obtain ⟨xs, h1, h2, h3, h4⟩ := t.ent
  have ne : D ≠ d := fun e => by
    rw [e, h1] at hD
    have hx : f (TdO w d xs) := by rw [Option.some.inj hD]; exact hf
    exact SepI.i _ (by unfold TdO; exact trivial) hx
  have nm : D ∉ [d] := by simpa using ne
  have e : cut (L2.upd H D o') [d] = L2.upd (cut H [d]) D o' := by
    funext b
    by_cases k : b ∈ [d]
    · rw [cut_in k, upd_ne (fun q => nm (by rw [← q]; exact k)), cut_in k]
    · rw [cut_out k]
      by_cases q : b = D
      · rw [q, upd_same, upd_same]
      · rw [upd_ne q, upd_ne q, cut_out k]
  have hD' : cut H [d] D = some o := (cut_out nm).trans hD
  have hm : ∀ b ∈ [D], ∀ w, cut H [d] b = some w → f w := fun b hb w e => by
    rw [List.mem_singleton.mp hb, hD'] at e
    rw [← Option.some.inj e]
    exact hf
  have hc' : Calm (cut H [d]) D := by
    obtain ⟨⟨u, c1, c2⟩, c3⟩ := hc
    refine ⟨⟨u, (cut_out nm).trans c1, c2⟩, fun c q hq => c3 c q ?_⟩
    by_cases k : c ∈ [d]
    · rw [cut_in k] at hq; exact nomatch hq
    · rwa [cut_out k] at hq
  have g : Gr T (cut (cut H [d]) [D]) (L2.upd (cut H [d]) D o') := Gr.cut.mut (cut_in (by simp)) hc'
  have mv : ∀ (Pq : Pr T), Soft f Pq → ∀ v, Pq.p v (cut H [d]) → Pq.p v (L2.upd (cut H [d]) D o') := fun Pq S v hv => Pq.st _ _ _ g (S.s _ _ _ hm hv)
  obtain ⟨bp, i1, i2⟩ := t.ins
  refine ⟨t.nd, ⟨bp, ?_, ?_⟩, ?_, xs, ?_, h2, h3, ?_⟩
  · rw [e]; exact (i1.soft hm).gr g
  · rw [e]; exact mv _ inferInstance _ i2
  · rw [e]; exact tabs_upd t.tab hc'
  · rw [upd_ne ne.symm]; exact h1
  · rw [e]
    intro x hx
    obtain ⟨rs, e1, k1, v, k2, k3⟩ := h4 x hx
    exact ⟨rs, e1, mv _ inferInstance _ k1, v, k2, mv _ (hv _ _ e1.2) _ k3⟩
end
section
variable {T : List (Addr × Str)} {P : Program} {w : World} {K : PySem.W.Frag} {mg : Str → Option Value} {base : Heap}
def spTi (T : List (Addr × Str)) (K : PySem.W.Frag) (w : World) : Sp := fun vs H Q _ => ∃ (a dx : Addr) (H0 : Hp) (pv : V) (p : PoolM), vs = [.ref a, pv] ∧ Ins H a (He.ga K "Told") dx [] ∧ H0 a = none ∧ H0 dx = none ∧ Gr T H0 H ∧ LamX.Tabs T H0 ∧ (poolP T K p).p pv H0 ∧
  ∀ d H', H0 d = none → Gr T H0 H' → Tol T K w p 0 a d dx H' → Q .non H'
theorem scTi : FnScope ["self", "pool"] ["self", "pool"] (defScope (inClass (top 45) 1)) := ⟨rfl, rfl, rfl, by decide +kernel, rfl, by decide +kernel, by decide +kernel⟩
theorem ok_Told_init (W : Wd K mg) : FnR P w K mg base CX0 3 (He.ma K (He.ga K "Told") "__init__") (spTi T K w) := by
  obtain ⟨fd, Fd⟩ := W.d_Told_init
  have b : Binds K fd ["self", "pool"] [] := Fd.bindsN fun _ _ _ _ _ _ us hl => match us, hl with | [_, _], _ => rfl
  refine fn_any (T := T) Fd scTi b (fun vs H Q E ⟨a, dx, H0, pv, p, e, _⟩ => by rw [e]; rfl) fun cdv A0 outer s H vs Q E hr hsp => ?_
  obtain ⟨a, dx, H0, pv, p, rfl, hi, n1, n2, g0, hT, h1, hQ⟩ := hsp
  obtain ⟨bp, dp, vp, rfl, _⟩ := id h1
  refine ss_sl (dx := dx) 0 rfl (EE.x (T := T) (ee_v 1 rfl)) W.s_Told W.Told_base fun v1 H1 ⟨g1, hv1⟩ => ?_
  obtain rfl : v1 = V.ref bp := hv1
  have i1 := hi.gr g1
  refine ⟨[], i1.slt, ?_⟩
  have S1 : Gr T H0 _ := (g0.trans g1).put (vs' := SlX.putS 0 (V.ref bp) []) n1 n2 i1
  have I1 : Ins (SlX.slH H1 a (He.ga K "Told") dx (SlX.putS 0 (V.ref bp) [])) a (He.ga K "Told") dx _ := Ins.put hi.1
  generalize SlX.slH H1 a (He.ga K "Told") dx (SlX.putS 0 (V.ref bp) []) = K1 at S1 I1 ⊢
  refine ss_sl (dx := dx) 0 rfl (EX.of (R := fun (v : V) (H' : Hp) => ∃ d, v = .ref d ∧ K1 d = none ∧ d ≠ sysModules ∧ H' = L2.upd K1 d (TdO w d [])) pe_dnewX fun q hq nq => ⟨q, rfl, hq, nq, rfl⟩) W.s_Told W.Told_found fun v2 H2 ⟨d, e2, hd, nd, eH⟩ => ?_
  subst e2 eH
  have g2 : Gr T K1 (L2.upd K1 d (TdO w d [])) := .new hd
  have i2 := I1.gr g2
  have d2 : L2.upd K1 d (TdO w d []) d = some (TdO w d []) := upd_same
  generalize L2.upd K1 d (TdO w d []) = K2 at g2 i2 d2 ⊢
  refine ⟨_, i2.slt, ?_⟩
  have I2 : Ins (SlX.slH K2 a (He.ga K "Told") dx [some (.ref bp), some (.ref d)]) a (He.ga K "Told") dx [some (.ref bp), some (.ref d)] := Ins.put hi.1
  have S2 : Gr T H0 (SlX.slH K2 a (He.ga K "Told") dx [some (.ref bp), some (.ref d)]) := (S1.trans g2).put n1 n2 i2
  have na : a ≠ d ∧ dx ≠ d := by
    rcases I1.2 with ⟨q1, _, q2⟩ | ⟨q1, q2⟩
    · exact ⟨ne_of_none q1 hd, ne_of_none q2 hd⟩
    · exact ⟨ne_of_none q1 hd, ne_of_none q2 hd⟩
  have d3 : SlX.slH K2 a (He.ga K "Told") dx [some (.ref bp), some (.ref d)] d = some (TdO w d []) := by
    unfold SlX.slH
    rw [upd_ne na.1.symm, upd_ne na.2.symm]
    exact d2
  have h0d : H0 d = none := S1.old d hd
  have gC : Gr T H0 (cut (SlX.slH K2 a (He.ga K "Told") dx [some (.ref bp), some (.ref d)]) [d]) := S2.toCut (by simpa using h0d) (by simpa using calm_td d3 List.nodup_nil)
  exact ss_nil (T := T) (hQ d _ h0d S2 ⟨nd, ⟨bp, I2.same (cut_out (by simpa using na.1)) (cut_out (by simpa using na.2)), (poolP T K p).st _ _ _ gC h1⟩, gC.tab hT, [], d3, List.nodup_nil, Nat.le_refl _, fun x hx => nomatch hx⟩)
/-- 1, or None -/
def optP (T : List (Addr × Str)) (K : PySem.W.Frag) (b : Bool) : Pr T := if b = true then frP K (1, 1) else eqP .non
instance {b : Bool} : Solid (optP T K b) := by
  unfold optP
  split <;> infer_instance
instance {f : HO → Prop} [SepU f] {b : Bool} : Soft f (optP T K b) := by
  unfold optP
  split <;> infer_instance
theorem ee_tgetR {X : Cx} {o i : Expr} {σ : L2.St} {H : Hp} {pos : Pos} {m : Nat} {rs : List (List Int)} {r : List Int} (hr : Room m X.A) (hin : r ∈ rs) (ho : EE T X o σ H (resP T X.K X.w true rs)) (hi : EE T X i σ H (itX T X.K r)) (hs : NoSl i := by intro _ _; rfl) : EE T X (.Subscript o i pos) σ H (frP X.K (1, 1)) :=
  EE.of (pe_tget (D := rowD T X.K) hr.units ho hi hs) fun H1 g Q z => ⟨rfl, g, fun v H2 g2 hv => ⟨rfl, g.trans g2, fun w H3 g3 hw => by
    obtain ⟨e, ys, rfl, h2, h3, h4, h5⟩ := (resP T X.K X.w true rs).st _ _ _ g3 hv
    obtain ⟨y, hy, ey⟩ := List.mem_map.mp (h5 r hin)
    obtain ⟨r', e1, e2, u, e3, e4⟩ := h4 y hy
    exact ⟨e, ys, r, rfl, h2, fun y hy => let ⟨r, q1, q2, _⟩ := h4 y hy; ⟨r, q1, q2⟩, hw, y, hy, ey, u, e3, z u H3 (g2.trans g3) e4⟩⟩⟩
def toldPool (p : PoolM) (i : Int) (row : List Int) : PoolM := ⟨p.size, p.quotas, toldM p.rows i row⟩
structure OkTell (p : PoolM) (i : Int) (row : List Int) : Prop where
  pool : okPool p
  pan : okPan (toldPool p i row)
  few : p.rows.length ≤ 6
  i0 : 0 ≤ i ∧ i < (p.rows.length : Int)
theorem toldM_length (rows : List (List Int)) (i : Int) (row : List Int) : (toldM rows i row).length = rows.length := by
  unfold toldM
  rw [List.length_map, List.length_zipIdx]
theorem toldM_mem {rows : List (List Int)} {i : Int} {row : List Int} (h : 0 ≤ i ∧ i < (rows.length : Int)) : row ∈ toldM rows i row := by
  unfold toldM
  have hl : i.toNat < rows.length := by omega
  refine List.mem_map.mpr ⟨(rows[i.toNat], i.toNat), List.mem_of_getElem? (i := i.toNat) (by simp [hl]), ?_⟩
  rw [if_pos (by simp; omega)]
def spTh (T : List (Addr × Str)) (K : PySem.W.Frag) (w : World) : Sp := fun vs H Q _ => ∃ (p : PoolM) (c : Nat) (a d dx : Addr) (i : Int) (row : List Int) (rv : V), vs = [.ref a, .int i, rv] ∧ Tol T K w p c a d dx H ∧ (itX T K row).p rv H ∧ OkTell p i row ∧ c ≤ 900 ∧
  ∀ v H', Gr T (cut H [d]) (cut H' [d]) → Tol T K w p (c + 1) a d dx H' → (optP T K (drawsM (toldPool p i row))).p v H' → Q v H'
theorem scTh : FnScope ["self", "person", "row", "some"] ["self", "person", "row"] (defScope (inClass (top 45) 3)) := ⟨rfl, rfl, rfl, by decide +kernel, rfl, by decide +kernel, by decide +kernel⟩
theorem Tol.slt {p : PoolM} {c : Nat} {a d dx : Addr} {H : Hp} (t : Tol T K w p c a d dx H) : ∃ vs, SlX.Slt H a (He.ga K "Told") dx vs := by
  obtain ⟨bp, i1, _⟩ := t.ins
  exact ⟨_, (i1.gr (T := T) Gr.cut).slt⟩
theorem ok_chance (W : Wd K mg) (B : BadT T K mg base) : FnR P w K mg base CX0 10 (He.ma K (He.ga K "Told") "chance") (spTh T K w) := by
  obtain ⟨fd, Fd⟩ := W.d_Told_chance
  have b : Binds K fd ["self", "person", "row"] [] := Fd.bindsN fun _ _ _ _ _ _ us hl => match us, hl with | [_, _, _], _ => rfl
  refine fn_any (T := T) Fd scTh b (fun vs H Q E ⟨p, c, a, d, dx, i, row, rv, e, _⟩ => by rw [e]; rfl) fun cdv A0 outer s H vs Q E hr hsp => ?_
  obtain ⟨p, c, a, d, dx, i, row, rv, rfl, t, h1, ok, hc, hQ⟩ := hsp
  have Lc := ok_chances (T := T) (P := P) (w := w) (base := base) W B
  have Lt := ok_told_people (T := T) (P := P) (w := w) (base := base) W
  obtain ⟨vs, hsl⟩ := t.slt
  refine ssx_set 3 (ex_meth (T := T) (E := fun _ _ _ => False) (Ps := [rowsP T K (toldM p.rows i row)]) (R := fun v H' => Gr T (cut H [d]) (cut H' [d]) ∧ Tol T K w p (c + 1) a d dx H' ∧ (resP T K w (drawsM (toldPool p i row)) (toldM p.rows i row)).p v H') 0 rfl hsl W.s_Told W.m_Told_chances Lc hr
    (ea_cons (ee_callP (P := rowsP T K (toldM p.rows i row)) Lt W.g_told_people.mg W.g_told_people.kp hr (p, i, row) ok.pool (ea_cons (ee_base W t (ee_v 0 rfl)) (ea_cons (ee_var 1 rfl rfl) (ea_cons (ee_var 2 rfl h1) ea_nil)))) ea_nil)
    fun ws H2 g2 hws => ?_) scTh.nd fun sv H2 ⟨g2, t2, hs⟩ => ?_
  · obtain ⟨x, rfl, hx⟩ := sat1 hws
    exact ⟨p, c, a, d, dx, toldM p.rows i row, x, rfl, t.gr g2, hx, ok.pan, by rw [toldM_length]; exact ok.few, hc, fun v H' g t' h => ⟨(t.sub g2).trans g, t', h⟩⟩
  · have h2 : (itX T K row).p rv H2 := (itX T K row).st _ _ _ (g2.trans Gr.cut) (t.soft h1)
    refine ss_ret (P := optP T K (drawsM (toldPool p i row))) (ee_if (t := !drawsM (toldPool p i row)) (et_isN (P := resP T K w (drawsM (toldPool p i row)) (toldM p.rows i row)) (fun v H1 hv => ?_) (ee_var 3 rfl hs)) (fun hb => ?_) fun hb => ?_) fun v H3 g3 hv => hQ v H3 (g2.trans (t2.sub g3)) (t2.gr g3) hv
    · cases hd : drawsM (toldPool p i row) with
      | true =>
        rw [hd] at hv
        obtain ⟨e, ys, e1, _⟩ := hv
        rw [e1]
        rfl
      | false =>
        rw [hd] at hv
        rw [show v = V.non from hv]
        rfl
    · have hb' : drawsM (toldPool p i row) = false := by simpa using hb
      exact EE.imp ee_non fun v H3 g3 hv => by
        rw [hb']
        exact hv
    · have hb' : drawsM (toldPool p i row) = true := by simpa using hb
      refine EE.cast (ee_tgetR hr (toldM_mem ok.i0) (ee_var 3 rfl (by rw [hb'] at hs; exact hs)) (ee_var 2 rfl h2)) (by rw [hb']; rfl)
end
end Pan
set_option maxHeartbeats 2000000
/-! A dict comprehension whose values change an object; Told.tellings. -/
namespace Pan
open PySem PySem.Spec PyProof.Rows L2
def isXD : HO → Prop := fun o => isX o ∨ isD o
instance : SepU isXD := ⟨fun _ h => h.elim id id, fun _ _ h => h.elim id id⟩
section
variable {T : List (Addr × Str)} {H H' : Hp} {d D : Addr}
theorem cut_cut : cut (cut H [d]) [D] = cut H [d, D] := by
  funext b
  by_cases h1 : b = D
  · rw [h1, cut_in (by simp), cut_in (by simp)]
  · rw [cut_out (by simpa using h1)]
    by_cases h2 : b = d
    · rw [h2, cut_in (by simp), cut_in (by simp)]
    · rw [cut_out (by simpa using h2), cut_out (by simp [h1, h2])]
theorem calm_cut {m : List Addr} {b : Addr} (hb : b ∉ m) (h : Calm H b) : Calm (cut H m) b := by
  obtain ⟨⟨u, c1, c2⟩, c3⟩ := h
  refine ⟨⟨u, (cut_out hb).trans c1, c2⟩, fun c q hq => c3 c q ?_⟩
  by_cases k : c ∈ m
  · rw [cut_in k] at hq; exact nomatch hq
  · rwa [cut_out k] at hq
theorem isX_tbl {o : HO} (h : isX o) (ps : Array Value) : o ≠ .tbl ps := fun e => by rw [e] at h; exact h
end
section
variable {T : List (Addr × Str)} {X : Cx} {tg iter kx vx : Expr} {σ : L2.St} {H : Hp} {pos p1 : Pos} {α : Type} {xs : List α} {R Ro : α → Pr T} {scope sc : Scope} {N ps : List Str} {x : Str} {m : Nat} {d : Addr} {o : HO}
/-- a list, known without the thing at d -/
theorem src_listD (hd : H d = some o) (ho : isX o) [hR : ∀ x, Soft isX (R x)] (h : EE T X iter σ H (lstP X.K R xs)) : Src T X tg iter σ H (fun Hb H2 => Hb = cut H2 [d]) xs R :=
  Src.of (pi_list h) fun H1 g Rr r => ⟨rfl, g, fun v H2 g2 hv => by
    have hd2 : H2 d = some o := (g.trans g2).ext d o hd (isX_tbl ho)
    obtain ⟨l, vs, e1, h1, h2⟩ := Soft.s (f := isX) v H2 [d] (fun b hb u e => by
      rw [List.mem_singleton.mp hb, hd2] at e
      rw [← Option.some.inj e]
      exact ho) hv
    exact ⟨l, e1, ⟨vs, (Gr.cut (T := T)).sqL h1⟩, r _ H2 (cut H2 [d]) g2 rfl (by
      rw [← h2.length]
      exact walk_list.mono (fun H' g' => g'.sqL h1) fun i H' v H3 hi g' ⟨e3, hv⟩ => by
        rw [e3]
        obtain ⟨x, hx, hq⟩ := h2.get hv
        exact ⟨.refl _, x, hx, (R x).st _ _ _ g' hq⟩)⟩⟩
def rdX (X : Cx) (scope : Scope) (vx : Expr) : TE := fun σ' H' Q => ∃ R : V → Hp → Prop, (∀ s H C cl fp, EX (bl X scope s H C cl fp) vx σ' H' R) ∧ ∀ v H2, R v H2 → Q v H2
theorem pe_rdX {s : Shared} {H : Hp} {C : Addr} {cl : List (Str × Addr)} {fp : List Addr} : PE (bl X scope s H C cl fp) vx (rdX X scope vx) := ⟨fun pins s' σ' H' Q I ⟨R, h, q⟩ => thnE ((h _ _ _ _ _).run I) q⟩
/-- {kx: vx for x in iter}, vx changes the thing at d -/
theorem ex_dctX (j : Nat) (S : FnScope N ps sc) {Kk : α → List Int} [hRo : ∀ a, Soft isXD (Ro a)] (St : Nat → Hp → Prop) (hs : Src T X (.Name x p1) iter σ H (fun Hb H2 => Hb = cut H2 [d]) xs R) (hr : Room m X.A) (hl : xs.length ≤ 1000)
    (h0 : ∀ H2, Gr T H H2 → St 0 H2) (hSt : ∀ i H1 H2, St i H1 → Gr T H1 H2 → St i H2) (hup : ∀ i H1 D kvs kvs', St i H1 → H1 D = some (.dT kvs) → St i (upd H1 D (.dT kvs'))) (hnd : ∀ i H1, St i H1 → Calm H1 d ∧ ∃ o, H1 d = some o ∧ isX o)
    (hk : ∀ a v H1, a ∈ xs → (R a).p v H1 → ∀ s Hb C cl fp, EE T (bl X scope s Hb C cl fp) kx ((wipe σ [j]).set j (some v)) H1 (itX T X.K (Kk a)))
    (he : ∀ i a v H1, xs[i]? = some a → St i H1 → (R a).p v H1 → ∀ s Hb C cl fp, EX (bl X scope s Hb C cl fp) vx ((wipe σ [j]).set j (some v)) H1 fun y H2 => Gr T (cut H1 [d]) (cut H2 [d]) ∧ St (i + 1) H2 ∧ (Ro a).p y H2)
    (hN : X.N = N := by rfl) (hsc : X.env.scope = sc := by rfl) (hb : blkC N sc scope [(x, j)] = true := by decide +kernel) (hi : X.N[j]? = some x := by rfl) (hx : (relabel scope X.env).names.lookup x = some .local := by rfl) (hc : X.calm = true := by rfl)
    (hw : ∀ v, wipe ((wipe σ [j]).set j (some v)) [j] = wipe σ [j] := by intro _; rfl) (hf : ∀ x, foldedSetIterable iter X.env x = pure x := by intro _; rfl) :
    EX X (.DictComp kx vx [⟨.Name x p1, iter, [], 0⟩] scope pos) σ H fun v H2 => ∃ D kvs, v = .ref D ∧ H D = none ∧ H2 D = some (.dT kvs) ∧ Gr T (cut H [d]) (cut H2 [d]) ∧ St xs.length H2 ∧ DK2 kT Ro kvs (dctM Kk xs) (cut H2 [d, D]) := by
  have nd : X.N.Nodup := hN ▸ S.nd
  refine EX.of (pe_dct (Room.u1 hr) hc nd hs (blkX S [(x, j)] hN hsc hb) (pgN j nd hi hx) (fun _ _ _ _ _ => pts_nil) (fun _ _ _ _ _ => pe_rdKT (T := T)) (fun _ _ _ _ _ => pe_rdX) hf) ?_
  refine ⟨rfl, .refl _, fun J H2 Hb g2 hb hw' D hD => ?_⟩
  subst hb
  have gC : Gr T (cut H [d]) (cut H2 [d]) := (Gr.cut.trans g2).toCut (fun b hb => cut_in hb) fun b hb => by
    rw [List.mem_singleton.mp hb]
    exact (hnd 0 H2 (h0 H2 g2)).1
  have bD : cut H2 [d] D = none := by
    by_cases k : D ∈ [d]
    · exact cut_in k
    · rw [cut_out k]; exact hD
  have bd : cut H2 [d] d = none := cut_in (by simp)
  refine ⟨fun i m H' => m = xs.length - i ∧ i ≤ xs.length ∧ Gr T (cut H2 [d]) H' ∧ St i H' ∧ ∃ kvs, H' D = some (.dT kvs) ∧ DK2 kT Ro kvs (dctM Kk (xs.take i)) (cut H' [d, D]), ⟨xs.length, by simp, Nat.zero_le _, Gr.cut.trans (.new hD), hSt 0 H2 _ (h0 H2 g2) (.new hD), [], upd_same, by simp [dctM, DK2]⟩, ?_⟩
  rintro i m H' ⟨rfl, hil, gH, hst, kvs, hd', hk'⟩
  by_cases hlt : i < xs.length
  · refine .inr ⟨hw'.goes i H' hlt gH, fun H' => i + 1 ≤ xs.length ∧ Gr T (cut H2 [d]) H' ∧ St (i + 1) H' ∧ ∃ kvs, H' D = some (.dT kvs) ∧ DK2 kT Ro kvs (dctM Kk (xs.take (i + 1))) (cut H' [d, D]), fun H' p' => ⟨xs.length - (i + 1), by omega, rfl, p'⟩, fun v H3 y => ?_⟩
    obtain ⟨g3, a, ha, hv⟩ := hw'.yields i H' v H3 hlt gH y
    have st3 := hSt i _ _ hst g3
    refine ⟨hw v, ?_⟩
    simp only [↓reduceIte]
    refine ⟨Kk a, hk a v H3 (List.mem_of_getElem? ha) hv, fun kv H4 g4 hkv => ?_⟩
    have st4 := hSt i _ _ st3 g4
    refine ⟨_, he i a v H4 ha st4 ((R a).st _ _ _ g4 hv), fun z H5 ⟨g5, st5, hz⟩ => ?_⟩
    obtain ⟨c4, o4, o4e, o4x⟩ := hnd i H4 st4
    obtain ⟨c5, o5, o5e, o5x⟩ := hnd (i + 1) H5 st5
    have d4 : H4 D = some (.dT kvs) := g4.dT (g3.dT hd')
    have ne : D ≠ d := fun e => by
      rw [e, o4e] at d4
      rw [Option.some.inj d4] at o4x
      exact o4x
    have nm : D ∉ [d] := by simpa using ne
    have d4c : cut H4 [d] D = some (.dT kvs) := (cut_out nm).trans d4
    have d5c := g5.dT d4c
    have d5 : H5 D = some (.dT kvs) := (cut_out nm).symm.trans d5c
    have kv5 : (itX T X.K (Kk a)).p kv H5 := (itX T X.K (Kk a)).st _ _ _ (g5.trans Gr.cut) (Soft.s (f := isX) kv H4 [d] (fun b hb u e => by
      rw [List.mem_singleton.mp hb, o4e] at e
      rw [← Option.some.inj e]
      exact o4x) hkv)
    obtain ⟨_, kb, rfl, hkb⟩ := kv5
    have g45 : Gr T (cut H2 [d]) (cut H4 [d]) := ((gH.trans g3).trans g4).toCut (by simpa using bd) (by simpa using c4)
    have gb5 : Gr T (cut H2 [d]) H5 := (g45.trans g5).trans Gr.cut
    have gc : Gr T (cut H' [d, D]) (cut H5 [d, D]) := by
      have q1 : Gr T (cut H' [d, D]) (cut H4 [d]) := ((Gr.cut.trans g3).trans g4).toCut (by simpa using cut_in (by simp)) (by simpa using c4)
      rw [← cut_cut (H := H5)]
      exact (q1.trans g5).toCut (by simpa using cut_in (by simp)) (by simpa using calm_dT d5c)
    refine ⟨kvs, kT (Kk a), kb, rfl, by rw [kT_tup]; exact hkb, d5, ?_, hlt, gb5.mut bD (calm_dT d5), hup (i + 1) H5 D kvs _ st5 d5, _, upd_same, ?_⟩
    · have h1 : kvs.length = _ := hk'.length
      have h2 : ∀ (ys : List α) (zs : List (List Int × α)), (ys.foldl (fun zs a => putM zs (Kk a) a) zs).length ≤ zs.length + ys.length := fun ys => by
        induction ys with
        | nil => intro zs; simp
        | cons y ys ih =>
          intro zs
          have h3 := ih (putM zs (Kk y) y)
          have h4 : (putM zs (Kk y) y).length ≤ zs.length + 1 := by unfold putM; split <;> simp
          rw [List.foldl_cons, List.length_cons]
          omega
      have h3 : (dctM Kk (xs.take i)).length ≤ 0 + (xs.take i).length := h2 (xs.take i) []
      rw [List.length_take] at h3
      have h5 : (1000 : Nat) < sizeLine := by decide
      omega
    · have e : cut (upd H5 D (.dT (putK kvs (kT (Kk a)) z))) [d, D] = cut H5 [d, D] := by
        funext b
        by_cases k : b ∈ [d, D]
        · rw [cut_in k, cut_in k]
        · rw [cut_out k, cut_out k, upd_ne fun q => k (by rw [q]; simp)]
      rw [e]
      have et : xs.take (i + 1) = xs.take i ++ [a] := by rw [List.take_add_one, ha]; rfl
      rw [et]
      unfold dctM
      rw [List.foldl_append]
      refine DK2.put kT_inj (Soft.s (f := isXD) z H5 [d, D] (fun b hb u e => ?_) hz) (hk'.st gc)
      rcases List.mem_cons.mp hb with k | k
      · rw [k, o5e] at e
        rw [← Option.some.inj e]
        exact .inl o5x
      · rw [List.mem_singleton.mp k, d5] at e
        rw [← Option.some.inj e]
        exact .inr trivial
  · have e : i = xs.length := by omega
    subst e
    rw [List.take_length] at hk'
    exact .inl ⟨hw'.stops H' gH, D, kvs, rfl, g2.old D hD, hd', gC.trans (gH.toCut (by simpa using bd) (by simpa using (hnd _ H' hst).1)), hst, hk'⟩
end
end Pan
set_option maxHeartbeats 2000000
/-! Told.tellings; is_better; Told.best. -/
namespace Pan
open PySem PySem.Spec PyProof.Rows L2
section
variable {T : List (Addr × Str)} {P : Program} {w : World} {K : PySem.W.Frag} {mg : Str → Option Value} {base : Heap}
structure OkAll (p : PoolM) (i : Int) : Prop where
  pool : okPool p
  i0 : 0 ≤ i ∧ i < (p.rows.length : Int)
  few : (rowsOfM p.quotas).length ≤ 9
  each : ∀ row ∈ rowsOfM p.quotas, OkTell p i row
  own : p.rows.getD i.toNat [] ∈ rowsOfM p.quotas
/-- the chance of a telling -/
abbrev chP (T : List (Addr × Str)) (K : PySem.W.Frag) (p : PoolM) (i : Int) (row : List Int) : Pr T := optP T K (drawsM (toldPool p i row))
def telM (p : PoolM) : List (List Int × List Int) := dctM (fun r : List Int => r) (rowsOfM p.quotas)
def spTt (T : List (Addr × Str)) (K : PySem.W.Frag) (w : World) : Sp := fun vs H Q _ => ∃ (p : PoolM) (c : Nat) (a d dx : Addr) (i : Int), vs = [.ref a, .int i] ∧ Tol T K w p c a d dx H ∧ OkAll p i ∧ c ≤ 800 ∧
  ∀ v H', Gr T (cut H [d]) (cut H' [d]) → Tol T K w p (c + 9) a d dx H' → (∃ D kvs, v = .ref D ∧ H' D = some (.dT kvs) ∧ DK2 kT (chP T K p i) kvs (telM p) H') → Q v H'
theorem scTt : FnScope ["self", "person", "row"] ["self", "person"] (defScope (inClass (top 45) 4)) := ⟨rfl, rfl, rfl, by decide +kernel, rfl, by decide +kernel, by decide +kernel⟩
theorem ok_tellings_of (W : Wd K mg) (B : BadT T K mg base) : FnR P w K mg base CX0 11 (He.ma K (He.ga K "Told") "tellings") (spTt T K w) := by
  obtain ⟨fd, Fd⟩ := W.d_Told_tellings
  have b : Binds K fd ["self", "person"] [] := Fd.bindsN fun _ _ _ _ _ _ us hl => match us, hl with | [_, _], _ => rfl
  refine fn_any (T := T) Fd scTt b (fun vs H Q E ⟨p, c, a, d, dx, i, e, _⟩ => by rw [e]; rfl) fun cdv A0 outer s H vs Q E hr hsp => ?_
  obtain ⟨p, c, a, d, dx, i, rfl, t, ok, hc, hQ⟩ := hsp
  have Lc := ok_chance (T := T) (P := P) (w := w) (base := base) W B
  have Lr := ok_rows_of (T := T) (P := P) (w := w) (base := base) W
  obtain ⟨xs, x1, x2, x3, x4⟩ := t.ent
  refine ssx_ret (ex_dctX (T := T) (R := itX T K) (Ro := chP T K p i) (xs := rowsOfM p.quotas) (d := d) 2 scTt (Kk := fun r : List Int => r) (fun j H' => Tol T K w p (c + j) a d dx H') (src_listD (R := itX T K) x1 (by unfold TdO; trivial) (ee_callP (P := lstP K (itX T K) (rowsOfM p.quotas)) Lr W.g_rows_of.mg W.g_rows_of.kp hr p ok.pool (ea_cons (ee_base W t (ee_v 0 rfl)) ea_nil))) hr (by have := ok.few; omega)
    (fun H2 g => t.gr g) (fun j H1 H2 t1 g => t1.gr g) (fun j H1 D kvs kvs' t1 hD => t1.upd (f := isD) (fun _ _ _ => inferInstance) hD trivial (calm_dT hD)) (fun j H1 t1 => ⟨t1.calm, let ⟨xs, h, _⟩ := t1.ent; ⟨_, h, by unfold TdO; trivial⟩⟩)
    (fun r v H1 _ hv s Hb C cl fp => ee_var 2 rfl hv) (fun j r v H1 hj t1 hv s Hb C cl fp => ?_)) fun v H1 ⟨D, kvs, e, _, hD, g, t1, hk⟩ => hQ v H1 g (t1.more (by have := ok.few; omega)) ⟨D, kvs, e, hD, hk.st Gr.cut⟩
  have hj9 : j < 9 := by
    have := (List.getElem?_eq_some_iff.mp hj).1
    have := ok.few
    omega
  obtain ⟨us, hsl⟩ := t1.slt
  exact ex_meth (T := T) (E := fun _ _ _ => False) (Ps := [intP i, itX T K r]) 0 rfl hsl W.s_Told W.m_Told_chance Lc hr (ea_cons (ee_var 1 rfl rfl) (ea_cons (ee_var 2 rfl hv) ea_nil)) fun ws H2 g2 hws => by
    obtain ⟨x, y, rfl, hx, hy⟩ := sat2 hws
    obtain rfl : x = V.int i := hx
    exact ⟨p, c + j, a, d, dx, i, r, y, rfl, t1.gr g2, hy, ok.each r (List.mem_of_getElem? hj), by omega, fun v H' g t' h => ⟨(t1.sub g2).trans g, t', h⟩⟩
end
end Pan
set_option maxHeartbeats 2000000
/-! is_better, Told.best. -/
namespace Pan
open PySem PySem.Spec PyProof.Rows L2
/-! ### plain -/
theorem put_own {zs : List (List Int × List Int)} {r : List Int} {seen : List (List Int)} (h1 : ∀ z ∈ zs, z.1 ∈ seen ∧ z.2 = z.1) (h2 : ∀ q ∈ seen, q ∈ zs.map (·.1)) : (∀ z ∈ putM zs r r, z.1 ∈ seen ++ [r] ∧ z.2 = z.1) ∧ ∀ q ∈ seen ++ [r], q ∈ (putM zs r r).map (·.1) := by
  unfold putM
  split
  · rename_i hany
    have e : (zs.map fun z => if z.1 = r then (z.1, r) else z) = zs := by
      conv => rhs; rw [← List.map_id zs]
      refine List.map_congr_left fun z hz => ?_
      split
      · rename_i e
        rw [← e]
        exact Prod.ext rfl (h1 z hz).2.symm
      · rfl
    rw [e]
    refine ⟨fun z hz => ⟨List.mem_append_left _ (h1 z hz).1, (h1 z hz).2⟩, fun q hq => ?_⟩
    rcases List.mem_append.mp hq with h | h
    · exact h2 q h
    · rw [List.mem_singleton.mp h]
      obtain ⟨z, hz, ez⟩ := List.any_eq_true.mp hany
      exact List.mem_map.mpr ⟨z, hz, of_decide_eq_true ez⟩
  · refine ⟨fun z hz => ?_, fun q hq => ?_⟩
    · rcases List.mem_append.mp hz with h | h
      · exact ⟨List.mem_append_left _ (h1 z h).1, (h1 z h).2⟩
      · rw [List.mem_singleton.mp h]
        exact ⟨List.mem_append_right _ (by simp), rfl⟩
    · rw [List.map_append]
      rcases List.mem_append.mp hq with h | h
      · exact List.mem_append_left _ (h2 q h)
      · exact List.mem_append_right _ (by simpa using h)
theorem dct_own : ∀ (xs seen : List (List Int)) (zs : List (List Int × List Int)), (∀ z ∈ zs, z.1 ∈ seen ∧ z.2 = z.1) → (∀ q ∈ seen, q ∈ zs.map (·.1)) → (∀ z ∈ xs.foldl (fun zs a => putM zs a a) zs, z.1 ∈ seen ++ xs ∧ z.2 = z.1) ∧ ∀ q ∈ seen ++ xs, q ∈ (xs.foldl (fun zs a => putM zs a a) zs).map (·.1)
  | [], seen, zs, h1, h2 => by rw [List.append_nil]; exact ⟨h1, h2⟩
  | x :: xs, seen, zs, h1, h2 => by
    obtain ⟨q1, q2⟩ := put_own (r := x) h1 h2
    have := dct_own xs (seen ++ [x]) _ q1 q2
    rw [List.append_assoc] at this
    exact this
theorem tel_own (p : PoolM) : (∀ z ∈ telM p, z.1 ∈ rowsOfM p.quotas ∧ z.2 = z.1) ∧ ∀ q ∈ rowsOfM p.quotas, q ∈ (telM p).map (·.1) := by
  have h := dct_own (rowsOfM p.quotas) [] [] (fun z hz => nomatch hz) (fun q hq => nomatch hq)
  simpa [telM, dctM] using h
theorem tel_val {p : PoolM} {r : List Int} (h : r ∈ rowsOfM p.quotas) : valM (telM p) r = some r := by
  obtain ⟨q1, q2⟩ := tel_own p
  obtain ⟨z, hz, ez⟩ := List.mem_map.mp (q2 r h)
  unfold valM
  cases hf : (telM p).find? fun z => decide (z.1 = r) with
  | none =>
    have := List.find?_eq_none.mp hf z hz
    simp [ez] at this
  | some y =>
    have h1 := List.mem_of_find?_eq_some hf
    have h2 := List.find?_some hf
    simp at h2
    simp [(q1 y h1).2, h2]
def betM (p : PoolM) (i : Int) (row best : List Int) : Bool := drawsM (toldPool p i row) && !drawsM (toldPool p i best)
def bestM (p : PoolM) (i : Int) : List Int := (telM p).foldl (fun best z => if betM p i z.1 best = true then z.1 else best) (p.rows.getD i.toNat [])
section
variable {T : List (Addr × Str)} {X : Cx} {o i e iter : Expr} {σ : L2.St} {H : Hp} {pos p1 : Pos} {m : Nat} {α : Type} {R : α → Pr T} {ts : List (List Int × α)} {k : List Int} {x : α}
/-- d[k] of a dict by tuples -/
theorem ee_dgetT (hr : Room m X.A) (hx : valM ts k = some x) (ho : EE T X o σ H (dtP R ts)) (hi : EE T X i σ H (itX T X.K k)) (hs : NoSl i := by intro _ _; rfl) : EE T X (.Subscript o i pos) σ H (R x) :=
  EE.of (pe_dget (Room.u1 hr) ho hi hs) fun H1 g Q z => ⟨rfl, g, fun v H2 g2 hv => ⟨rfl, g.trans g2, fun w H3 g3 hw => by
    obtain ⟨d, kvs, rfl, rd, hk⟩ := (dtP R ts).st _ _ _ g3 hv
    obtain ⟨_, b, rfl, hb⟩ := hw
    obtain ⟨u, eu, hu⟩ := (DK2.get kT_inj (k := k) hk).1 x hx
    exact ⟨d, u, rfl, .inr ⟨kvs, kT k, b, rd, rfl, by rw [kT_tup]; exact hb, eu.symm⟩, z u H3 (g2.trans g3) hu⟩⟩⟩
/-- for k in d, d locked -/
theorem src_keysT {tg : Expr} {d : Addr} {od : Obj} {kvs : List (List Key × V)} (hd : H d = some (.frz od (.dT kvs))) (hk : DK2 kT R kvs ts H) (h : EE T X e σ H (eqP (.ref d))) : Src T X tg e σ H bNow ts (fun x => itX T X.K x.1) :=
  Src.of (pi_keys h) fun H1 g Rr r => ⟨rfl, g, fun v H2 g2 e1 => by
    have g12 := g.trans g2
    refine ⟨d, od, e1, .inr ⟨kvs, g12.frz hd, r _ H2 H2 g2 rfl ?_⟩⟩
    rw [← hk.length]
    refine walk_keysT.mono (fun H' g' => (g12.trans g').frz hd) fun i H' v H3 hi g' ⟨e0, k, w, q, e3, e4, e6⟩ => ?_
    subst e0
    obtain ⟨x, hx, hk1, hR⟩ := (hk.st (g12.trans g')).at e3
    refine ⟨.refl _, x, hx, ?_⟩
    rw [show k = kT x.1 from hk1, kT_tup] at e6
    rw [e4]
    exact itX_of e6 (all_ints _)⟩
end
section
variable {T : List (Addr × Str)} {X : Cx} {a b tg iter : Expr} {σ : L2.St} {H : Hp} {pos p1 : Pos} {R : V → Hp → Prop} {D : Ends} {rest body : List Stmt} {st : Stmt} {α : Type} {xs : List α} {Rx : α → Pr T}
def rdG (T : List (Addr × Str)) (X : Cx) (b : Expr) : TE := fun σ' H' Q => ∃ P : Pr T, EE T X b σ' H' P ∧ ∀ w H2, Gr T H' H2 → P.p w H2 → Q w H2
theorem pe_rdG : PE X b (rdG T X b) := ⟨fun pins s σ' H' Q I ⟨P, h, q⟩ => h.run pins s σ' H' Q I ⟨rfl, .refl _, fun w H2 g hw => q w H2 g hw⟩⟩
/-- x, y = a, b; a by a triple -/
theorem ss_parX {x y : Str} {kt k2 : Nat} {px py pt pt2 : Pos} (n m : Nat) (ha : EX X a σ H R) (hN : X.N.Nodup) (q : ∀ v H1, R v H1 → ∃ P, EE T X b σ H1 P ∧ ∀ w H2, Gr T H1 H2 → P.p w H2 → SS T X rest ((σ.set n (some v)).set m (some w)) H2 D)
    (hc : X.calm = true := by rfl) (hi : X.N[n]? = some x := by rfl) (hj : X.N[m]? = some y := by rfl) (hij : n ≠ m := by decide) (hx : X.env.scope.names.lookup x = some .local := by rfl) (hy : X.env.scope.names.lookup y = some .local := by rfl)
    (hw : swappedStores [.Tuple [.Name x px, .Name y py] kt pt] (.Tuple [a, b] k2 pt2) X.env = pure (some [x, y]) := by rfl) (hs : swapsWithSole [.Tuple [.Name x px, .Name y py] kt pt] (.Tuple [a, b] k2 pt2) pos.line X.env = pure false := by rfl)
    (he : starEach [a, b] X.env = (false, eval a X.env) :: starEach [b] X.env := by rfl) (he2 : starEach [b] X.env = (false, eval b X.env) :: starEach [] X.env := by rfl) : SS T X (.Assign [.Tuple [.Name x px, .Name y py] kt pt] (.Tuple [a, b] k2 pt2) pos :: rest) σ H D :=
  ss_cons (S1.of (ps_par hc hN hi hj hij hx hy (pa_cons ha (pa_cons (pe_rdG (T := T)) pa_nil he2) he) hw hs) ⟨rfl, rfl, fun v H1 hv => by
    obtain ⟨P, h1, h2⟩ := q v H1 hv
    exact ⟨P, h1, fun w H2 g hw => ⟨v, w, rfl, h2 w H2 g hw⟩⟩⟩)
/-- a statement while a dict is locked -/
theorem ss_lock {d : Addr} {kvs : List (List Key × V)} (hd : H d = some (.dT kvs)) (h : ∀ od, S1 T X st σ (upd H d (.frz od (.dT kvs))) ⟨fun σ' H' => H' d = some (.frz od (.dT kvs)) ∧ SS T X rest σ' (upd H' d (.dT kvs)) D, fun v H' => H' d = some (.frz od (.dT kvs)) ∧ D.rt v (upd H' d (.dT kvs)), fun σ' H' => H' d = some (.frz od (.dT kvs)) ∧ D.bk σ' (upd H' d (.dT kvs)), fun σ' H' => H' d = some (.frz od (.dT kvs)) ∧ D.ct σ' (upd H' d (.dT kvs))⟩) : SS T X (st :: rest) σ H D :=
  ss_cons (S1.of (ps_lock (t := fun D' σ' H' => S1 T X st σ' H' D') ⟨fun pins s σ' H' D' I q => q.run pins s σ' H' D' I ⟨rfl, rfl, rfl⟩⟩) ⟨d, _, hd, trivial, h⟩)
/-- for x in ..: alone -/
theorem s1_for (j : Nat) {x : Str} (hs : Src T X (.Name x p1) iter σ H bNow xs Rx) (hp : PassesOwn (model X.prog X.w) X.A X.env X.xe) (hN : X.N.Nodup) (Pv : Nat → L2.St → Hp → Prop) (h0 : ∀ H2, Gr T H H2 → Pv 0 σ H2)
    (hst : ∀ i y v σ' H' H3, xs[i]? = some y → Pv i σ' H' → Gr T H H' → Gr T H' H3 → (Rx y).p v H3 → SS T X body (σ'.set j (some v)) H3 { D with nx := fun σ2 H2 => Gr T H3 H2 ∧ Pv (i + 1) σ2 H2, ct := fun σ2 H2 => Gr T H3 H2 ∧ Pv (i + 1) σ2 H2, bk := D.nx })
    (hd : ∀ σ' H', Gr T H H' → Pv xs.length σ' H' → D.nx σ' H') (hc : X.calm = true := by rfl) (hi : X.N[j]? = some x := by rfl) (hx : Loc X.env.scope x := by first | exact Or.inl rfl | exact Or.inr rfl)
    (hf : X.fn x = true ∨ X.env.scope.names.lookup x = some .local := by first | exact .inl rfl | exact .inr rfl) (hfs : ∀ x, foldedSetIterable iter X.env x = pure x := by intro _; rfl) : S1 T X (.For (.Name x p1) iter body [] pos) σ H D := by
  refine S1.of (ps_for (g := gName j) (tb := fun D' σ' H' => SS T X body σ' H' D') hp hc hs (pg_name hN hi hx hf) ⟨fun pins s σ' H' D' I q => q.run pins s σ' H' D' I ⟨rfl, rfl, rfl⟩⟩ hfs) ?_
  refine ⟨rfl, .refl _, fun J H2 Hb g2 hB hw => ?_⟩
  obtain rfl : Hb = H2 := hB
  exact for_it (g := gName j) (tb := fun D' σ' H' => SS T X body σ' H' D') (D := D) hw (fun i σ' H' => Gr T Hb H' ∧ Pv i σ' H') ⟨.refl _, h0 _ g2⟩ (fun i σ' H' _ p => p.1) (fun i v σ' H' H3 hi ⟨g1, p⟩ ⟨g3, x, hx, hv⟩ => SSm (hst i x v σ' H' H3 hx p (g2.trans g1) g3 hv) (fun σ2 H2 q => ⟨(g1.trans g3).trans q.1, q.2⟩) (fun _ _ q => q) (fun _ _ q => q) fun σ2 H2 q => ⟨(g1.trans g3).trans q.1, q.2⟩) fun σ' H' p => hd σ' H' (g2.trans p.1) p.2
end
section
variable {T : List (Addr × Str)} {P : Program} {w : World} {K : PySem.W.Frag} {mg : Str → Option Value} {base : Heap}
theorem optP_non {b : Bool} {v : V} {H : Hp} (h : (optP T K b).p v H) : decide (v = V.non) = !b := by
  cases b with
  | true =>
    obtain ⟨a, vs, e, _⟩ := (show (frP (T := T) K (1, 1)).p v H from h)
    rw [e]
    rfl
  | false => rw [show v = V.non from h]; rfl
def okBet (a : PoolM × Int × List Int × List Int) : Prop := a.2.2.1 ∈ rowsOfM a.1.quotas ∧ a.2.2.2 ∈ rowsOfM a.1.quotas
def spBet (T : List (Addr × Str)) (K : PySem.W.Frag) : Sp := prom T okBet (fun a => [dtP (chP T K a.1 a.2.1) (telM a.1), itX T K a.2.2.1, itX T K a.2.2.2]) fun a => eqP (.bl (betM a.1 a.2.1 a.2.2.1 a.2.2.2))
theorem scBet : FnScope ["found", "row", "best"] ["found", "row", "best"] (defScope (top 46)) := ⟨rfl, rfl, rfl, by decide +kernel, rfl, by decide +kernel, by decide +kernel⟩
theorem ok_is_better (W : Wd K mg) : FnR P w K mg base CX0 2 (He.ga K "is_better") (spBet T K) := by
  obtain ⟨fd, F⟩ := W.d_g_is_better
  have b : Binds K fd ["found", "row", "best"] [] := F.bindsN fun _ _ _ _ _ _ us hl => match us, hl with | [_, _, _], _ => rfl
  refine fn_prom F scBet b (fun _ => rfl) fun cdv A outer s H vs E a D hr ⟨k1, k2⟩ hs q _ => ?_
  obtain ⟨x, y, z, rfl, h1, h2, h3⟩ := sat3 hs
  have Ll := ok_less (T := T) (P := P) (w := w) (base := base) W
  obtain ⟨p, i, row, best⟩ := a
  refine ss_when (t := !drawsM (toldPool p i row)) (et_isN (fun v H1 hv => optP_non hv) (ee_dgetT (R := chP T K p i) hr (tel_val k1) (ee_var 0 rfl h1) (ee_var 1 rfl h2))) (fun ht H1 g1 => ?_) fun hf H1 g1 => ?_
  · have hb : drawsM (toldPool p i row) = false := by simpa using ht
    exact ss_ret (P := eqP (.bl (betM p i row best))) (EE.cast ee_bl (by unfold betM; rw [hb]; rfl)) fun v H2 g2 hv => q v H2 (g1.trans g2) hv
  · have hb : drawsM (toldPool p i row) = true := by simpa using hf
    have h1' := (dtP (chP T K p i) (telM p)).st _ _ _ g1 h1
    have h2' := (itX T K row).st _ _ _ g1 h2
    have h3' := (itX T K best).st _ _ _ g1 h3
    refine ss_ret (P := eqP (.bl (betM p i row best))) (EE.cast (ee_or (t := !drawsM (toldPool p i best)) (u := false) (ee_isN (fun v H2 hv => optP_non hv) (ee_dgetT (R := chP T K p i) hr (tel_val k2) (ee_var 0 rfl h1') (ee_var 2 rfl h3'))) fun hc => ?_) (by unfold betM; rw [hb]; simp)) fun v H2 g2 hv => q v H2 (g1.trans g2) hv
    have hb2 : drawsM (toldPool p i best) = true := by simpa using hc
    refine ee_one (EE.cast (ee_callP (P := eqP (.bl (lessM (1, 1) (1, 1)))) Ll W.g_is_less.mg W.g_is_less.kp hr (((1, 1), (1, 1)) : (Int × Int) × (Int × Int)) ⟨by decide, by decide⟩ (ea_cons (EE.cast (ee_dgetT (R := chP T K p i) hr (tel_val k2) (ee_var 0 rfl h1') (ee_var 2 rfl h3')) (by unfold chP; rw [hb2]; rfl)) (ea_cons (EE.cast (ee_dgetT (R := chP T K p i) hr (tel_val k1) (ee_var 0 rfl h1') (ee_var 1 rfl h2')) (by unfold chP; rw [hb]; rfl)) ea_nil))) (by rw [show lessM (1, 1) (1, 1) = false from by decide]))
def spBest (T : List (Addr × Str)) (K : PySem.W.Frag) (w : World) : Sp := fun vs H Q _ => ∃ (p : PoolM) (c : Nat) (a d dx : Addr) (i : Int), vs = [.ref a, .int i] ∧ Tol T K w p c a d dx H ∧ OkAll p i ∧ c ≤ 800 ∧
  ∀ v H', Gr T (cut H [d]) (cut H' [d]) → Tol T K w p (c + 9) a d dx H' → (itX T K (bestM p i)).p v H' → Q v H'
theorem scBest : FnScope ["self", "person", "found", "best", "row"] ["self", "person"] (defScope (inClass (top 45) 5)) := ⟨rfl, rfl, rfl, by decide +kernel, rfl, by decide +kernel, by decide +kernel⟩
theorem best_mem {p : PoolM} {i : Int} (h : p.rows.getD i.toNat [] ∈ rowsOfM p.quotas) : ∀ ts : List (List Int × List Int), (∀ z ∈ ts, z.1 ∈ rowsOfM p.quotas) → ts.foldl (fun best z => if betM p i z.1 best = true then z.1 else best) (p.rows.getD i.toNat []) ∈ rowsOfM p.quotas := fun ts => by
  suffices H : ∀ b, b ∈ rowsOfM p.quotas → (∀ z ∈ ts, z.1 ∈ rowsOfM p.quotas) → ts.foldl (fun best z => if betM p i z.1 best = true then z.1 else best) b ∈ rowsOfM p.quotas from H _ h
  induction ts with
  | nil => exact fun b hb _ => hb
  | cons z ts ih =>
    intro b hb hz
    rw [List.foldl_cons]
    refine ih _ ?_ fun y hy => hz y (List.mem_cons_of_mem _ hy)
    split
    · exact hz z List.mem_cons_self
    · exact hb
theorem ok_best (W : Wd K mg) (B : BadT T K mg base) : FnR P w K mg base CX0 12 (He.ma K (He.ga K "Told") "best") (spBest T K w) := by
  obtain ⟨fd, Fd⟩ := W.d_Told_best
  have b : Binds K fd ["self", "person"] [] := Fd.bindsN fun _ _ _ _ _ _ us hl => match us, hl with | [_, _], _ => rfl
  refine fn_any (T := T) Fd scBest b (fun vs H Q E ⟨p, c, a, d, dx, i, e, _⟩ => by rw [e]; rfl) fun cdv A0 outer s H vs Q E hr hsp => ?_
  obtain ⟨p, c, a, d, dx, i, rfl, t, ok, hc, hQ⟩ := hsp
  have Lt := ok_tellings_of (T := T) (P := P) (w := w) (base := base) W B
  have Lb := ok_is_better (T := T) (P := P) (w := w) (base := base) W
  obtain ⟨us, hsl⟩ := t.slt
  have hil : i.toNat < p.rows.length := by have := ok.i0; omega
  refine ss_parX 2 3 (ex_meth (T := T) (E := fun _ _ _ => False) (Ps := [intP i]) (R := fun v H' => Gr T (cut H [d]) (cut H' [d]) ∧ Tol T K w p (c + 9) a d dx H' ∧ ∃ D kvs, v = .ref D ∧ H' D = some (.dT kvs) ∧ DK2 kT (chP T K p i) kvs (telM p) H') 0 rfl hsl W.s_Told W.m_Told_tellings Lt hr (ea_cons (ee_var 1 rfl rfl) ea_nil) fun ws H2 g2 hws => ?_) scBest.nd fun v H1 ⟨g1, t1, D, kvs, ev, hD, hk⟩ => ?_
  · obtain ⟨x, rfl, hx⟩ := sat1 hws
    obtain rfl : x = V.int i := hx
    exact ⟨p, c, a, d, dx, i, rfl, t.gr g2, ok, hc, fun v H' g t' h => ⟨(t.sub g2).trans g, t', h⟩⟩
  · subst ev
    refine ⟨itX T K (p.rows.getD i.toNat []), ee_ixT (R := itX T K) i.toNat (by rw [List.getElem?_eq_getElem hil]; simp [List.getD, hil]) (ee_rows W (ee_base W t1 (ee_v 0 rfl))) (ee_var 1 rfl (show V.int i = V.int (i.toNat : Int) by rw [Int.toNat_of_nonneg ok.i0.1])), fun bv H2 g2 hb => ?_⟩
    have hD2 := g2.dT hD
    have hk2 := hk.st g2
    have t2 := t1.gr g2
    have gg := g1.trans (t1.sub g2)
    have own := tel_own p
    refine ss_lock (T := T) hD2 fun od => ?_
    have cD : Calm H2 D := calm_dT hD2
    have hdf : upd H2 D (.frz od (.dT kvs)) D = some (.frz od (.dT kvs)) := upd_same
    have tl : Tol T K w p (c + 9) a d dx (upd H2 D (.frz od (.dT kvs))) := t2.upd (f := isD) (fun _ _ _ => inferInstance) hD2 trivial cD
    have hbl : (itX T K (p.rows.getD i.toNat [])).p bv (upd H2 D (.frz od (.dT kvs))) := Soft.lock hD2 trivial cD hb
    have hkl : DK2 kT (chP T K p i) kvs (telM p) (upd H2 D (.frz od (.dT kvs))) := (hk2.soft (f := isD) (m := [D]) (fun b hb o e => by
      rw [List.mem_singleton.mp hb, hD2] at e
      rw [← Option.some.inj e]
      trivial)).st (Gr.cut.mut (cut_in (by simp)) cD)
    have dn : D ≠ d := fun e => by
      obtain ⟨xs, q1, _⟩ := t2.ent
      rw [e, q1] at hD2
      unfold TdO at hD2
      exact nomatch hD2
    have gl : ∀ {Hx}, Gr T (upd H2 D (.frz od (.dT kvs))) Hx → Hx D = some (.frz od (.dT kvs)) ∧ Gr T H2 (upd Hx D (.dT kvs)) := fun g => ⟨g.frz hdf, Gr.unlock hD2 (fun _ z => nomatch z) (fun _ z => nomatch z) g⟩
    have hkey : ∀ {Hx}, Gr T (upd H2 D (.frz od (.dT kvs))) Hx → (dtP (chP T K p i) (telM p)).p (.ref D) Hx := fun g => ⟨D, kvs, rfl, .inr ⟨od, g.frz hdf⟩, hkl.st g⟩
    refine s1_for 4 (Rx := fun z : List Int × List Int => itX T K z.1) (xs := telM p) (src_keysT hdf hkl (ee_v 2 rfl)) PassesOwn.never scBest.nd (fun j σ' H' => ∃ bv' u, σ' = [some (.ref a), some (.int i), some (.ref D), some bv', u] ∧ (itX T K (((telM p).take j).foldl (fun best z => if betM p i z.1 best = true then z.1 else best) (p.rows.getD i.toNat []))).p bv' H') (fun H3 g => ⟨bv, none, rfl, (itX T K _).st _ _ _ g hbl⟩) ?_ ?_
    · rintro j z v σ' H' H3 hz ⟨bv', u, rfl, hb'⟩ gH g3 hv
      have g13 := gH.trans g3
      have hm : ∀ y ∈ (telM p).take j, y.1 ∈ rowsOfM p.quotas := fun y hy => (own.1 y (List.mem_of_mem_take hy)).1
      have hbm := best_mem (p := p) (i := i) ok.own ((telM p).take j) hm
      have hb3 := (itX T K _).st _ _ _ g3 hb'
      have et : (telM p).take (j + 1) = (telM p).take j ++ [z] := by rw [List.take_add_one, hz]; rfl
      have zm := (own.1 z (List.mem_of_getElem? hz)).1
      refine ss_when (t := betM p i z.1 (((telM p).take j).foldl (fun best z => if betM p i z.1 best = true then z.1 else best) (p.rows.getD i.toNat []))) (et_val (ee_callP Lb W.g_is_better.mg W.g_is_better.kp hr (p, i, z.1, ((telM p).take j).foldl (fun best z => if betM p i z.1 best = true then z.1 else best) (p.rows.getD i.toNat [])) ⟨zm, hbm⟩ (ea_cons (ee_var 2 rfl (hkey g13)) (ea_cons (ee_var 4 rfl hv) (ea_cons (ee_var 3 rfl hb3) ea_nil))))) (fun ht H4 g4 => ?_) fun hf H4 g4 => ?_
      · refine ss_set 3 (ee_var (P := itX T K z.1) 4 rfl ((itX T K _).st _ _ _ g4 hv)) scBest.nd fun w5 H5 g5 h5 => ss_nil (T := T) (ss_nil (T := T) ⟨g4.trans g5, w5, some v, rfl, ?_⟩)
        rw [et, List.foldl_append, List.foldl_cons, List.foldl_nil, if_pos ht]
        exact h5
      · refine ss_nil (T := T) ⟨g4, bv', some v, rfl, ?_⟩
        rw [et, List.foldl_append, List.foldl_cons, List.foldl_nil, if_neg (by rw [hf]; exact Bool.false_ne_true)]
        exact (itX T K _).st _ _ _ g4 hb3
    · rintro σ' H' g ⟨bv', u, rfl, hb'⟩
      obtain ⟨hf, gu⟩ := gl g
      rw [List.take_length] at hb'
      have hbu : (itX T K (bestM p i)).p bv' (upd H' D (.dT kvs)) := Soft.lock hf trivial (calm_of hf (fun _ z => nomatch z) fun _ z => nomatch z) hb'
      refine ⟨hf, ss_ret (ee_var 3 rfl hbu) fun v H4 g4 hv => hQ v H4 (gg.trans (t2.sub (gu.trans g4))) (t2.gr (gu.trans g4)) hv⟩
end
end Pan
set_option maxHeartbeats 2000000
/-! Calls that may raise; a list comprehension whose test changes an object; the three doors. -/
namespace Pan
open PySem PySem.Spec PyProof.Rows L2
section
variable {T : List (Addr × Str)} {X : Cx} {o e : Expr} {es : List Expr} {σ : L2.St} {H : Hp} {Ps : List (Pr T)} {pos apos p1 : Pos} {R Ro : V → Hp → Prop}
/-- a call of a def that may raise -/
theorem ex_callC {k m : Nat} {x : Str} {f : Addr} {sp : Sp} {E : XK} (tk : Takes X (fun cls d _ H => E cls d H)) (F : FnR X.prog X.w X.K X.mg X.base (L2.CX X.prog X.w) k f sp) (hm : X.mg x = some (.ref f)) (hk : PySem.W.keepIn X.K (.ref f) = true) (hr : Room m X.A) (ha : EA T X (e :: es) σ H Ps)
    (q : ∀ ws H2, Gr T H H2 → Sat Ps ws H2 → sp ws H2 R E) (hkm : k ≤ m := by decide) (hg : Gl X x := by rfl) (hdb : (x == ("__debug__" : Str)) = false := by decide)
    (he : starEach (e :: es) X.env = (false, eval e X.env) :: starEach es X.env := by rfl) (hpl : (backTo pos (starEach es X.env)).any (·.1) = false := by rfl) : EX X (.Call (.Name x p1) (e :: es) [] pos) σ H R :=
  EX.of (pe_callR (E := E) F (hr.mono hkm) (passes_call tk fun _ _ _ _ h => h) hm hk ha hg hdb he hpl) ⟨rfl, .refl _, q⟩
/-- o.m(e, ..), o by a triple -/
theorem ex_methX {k m : Nat} {f : Str} {C g : Addr} {sp : Sp} {E : XK} {pl : Sem Bool} (ho : EX X o σ H Ro) (c : SlX.SCls X.K C) (hm : Meth X.K C f g) (F : FnR X.prog X.w X.K X.mg X.base CX0 k g sp) (hr : Room m X.A) (ha : EA T X (e :: es) σ H Ps)
    (q : ∀ v H1, Ro v H1 → Gr T H H1 ∧ ∃ a dx vs, v = .ref a ∧ SlX.Slt H1 a C dx vs ∧ ∀ ws H2, Gr T H1 H2 → Sat Ps ws H2 → sp (.ref a :: ws) H2 R E) (hkm : k ≤ m := by decide) (hst : starEach (e :: es) X.env = (false, eval e X.env) :: starEach es X.env := by rfl) (hpl : (backTo pos (starEach es X.env)).any (·.1) = false := by rfl)
    (ht : eval (.Call (.Attribute o f apos) (e :: es) [] pos) X.env = (do
      let ov ← eval o X.env
      standAt apos.atName
      let (f, first) ← holding [ov] (getMethod ov f pl)
      callWith pos f first (backTo pos (starEach (e :: es) X.env)) (backToKw pos (keywordEach [] X.env))) := by rfl) : EX X (.Call (.Attribute o f apos) (e :: es) [] pos) σ H R :=
  EX.of (SlX.pe_methSl (E := E) ho c hm F (hr.mono hkm) pass0 ha hst hpl ht) ⟨rfl, rfl, fun v H1 hv => by
    obtain ⟨g1, a, dx, vs, ev, hsl, q⟩ := q v H1 hv
    subst ev
    exact ⟨a, dx, vs, rfl, hsl, rfl, g1, fun ws H2 g hws => q ws H2 g hws⟩⟩
def TX (X : Cx) (ifs : List Expr) (σ : L2.St) (H : Hp) (R : Bool → Hp → Prop) : Prop := PTs X ifs fun σ' H1 Q => σ' = σ ∧ H1 = H ∧ ∀ b H2, R b H2 → Q b H2
def rdTX (X : Cx) (scope : Scope) (ifs : List Expr) : TT := fun σ' H' Q => ∃ R : Bool → Hp → Prop, (∀ s H C cl fp, TX (bl X scope s H C cl fp) ifs σ' H' R) ∧ ∀ b H2, R b H2 → Q b H2
theorem pts_rdX {scope : Scope} {ifs : List Expr} {s : Shared} {H : Hp} {C : Addr} {cl : List (Str × Addr)} {fp : List Addr} : PTs (bl X scope s H C cl fp) ifs (rdTX X scope ifs) := ⟨fun pins s' σ' H' Q I ⟨R, h, q⟩ => (h _ _ _ _ _).run pins s' σ' H' Q I ⟨rfl, rfl, q⟩⟩
def rdGb (T : List (Addr × Str)) (X : Cx) (scope : Scope) (b : Expr) : TE := fun σ' H' Q => ∃ P : Pr T, (∀ s H C cl fp, EE T (bl X scope s H C cl fp) b σ' H' P) ∧ ∀ w H2, Gr T H' H2 → P.p w H2 → Q w H2
theorem pe_rdGb {scope : Scope} {b : Expr} {s : Shared} {H : Hp} {C : Addr} {cl : List (Str × Addr)} {fp : List Addr} : PE (bl X scope s H C cl fp) b (rdGb T X scope b) := ⟨fun pins s' σ' H' Q I ⟨P, h, q⟩ => (h _ _ _ _ _).run pins s' σ' H' Q I ⟨rfl, .refl _, fun w H2 g hw => q w H2 g hw⟩⟩
/-- a != b as a test, a by a triple; data -/
theorem tx_neD {a b : Expr} {m k k2 : Nat} {Sx : Bool → Hp → Prop} (hr : Room m X.A) (ha : EX X a σ H R) (hb : ∀ v H1, R v H1 → ∃ (P1 P2 : Pr T) (d d2 : PyData), P1.p v H1 ∧ Dat T X.K k P1 d ∧ Dat T X.K k2 P2 d2 ∧ EE T X b σ H1 P2 ∧ ∀ H2, Gr T H1 H2 → Sx (!PyData.eqv d d2) H2) (hk : k ≤ 64 := by decide) (hk2 : k2 ≤ 64 := by decide) : TX X [.Compare a [.NotEq] [b] pos] σ H Sx :=
  ⟨fun pins s' σ' H' Q I ⟨e1, e2, q⟩ => (pts_one (pt_cmpR (op_neD hr.units) ha (pe_rdG (T := T)) (nomark _))).run pins s' σ' H' Q I (by
    subst e1 e2
    refine ⟨rfl, rfl, fun v H1 hv => ?_⟩
    obtain ⟨P1, P2, d, d2, h1, h2, h3, h4, h5⟩ := hb v H1 hv
    exact ⟨P2, h4, fun w H2 g hw => ⟨d, d2, h2.dp _ _ (P1.st _ _ _ g h1), h3.dp _ _ hw, h2.shaped hk, h3.shaped hk2, _, rfl, q _ _ (h5 H2 g)⟩⟩)⟩
end
section
variable {T : List (Addr × Str)} {X : Cx} {iter elt c : Expr} {σ : L2.St} {H : Hp} {pos p1 : Pos} {xs : List Nat} {scope sc : Scope} {N ps : List Str} {x : Str} {m : Nat} {d : Addr}
/-- the list, as ints -/
abbrev iV (ns : List Nat) : List V := ns.map fun n : Nat => V.int (n : Int)
/-- [x for x in iter if c], ints; c changes the thing at d -/
theorem ex_lcX (j : Nat) (S : FnScope N ps sc) {keep : Nat → Bool} (St : Nat → Hp → Prop) (hs : Src T X (.Name x p1) iter σ H (fun Hb H2 => Hb = cut H2 [d]) xs (fun n => intP (n : Int))) (hl : xs.length ≤ 1000)
    (h0 : ∀ H2, Gr T H H2 → St 0 H2) (hSt : ∀ i H1 H2, St i H1 → Gr T H1 H2 → St i H2) (hup : ∀ i H1 D ns ns', H D = none → St i H1 → H1 D = some (.lst (iV ns)) → St i (upd H1 D (.lst (iV ns')))) (hnd : ∀ i H1, St i H1 → Calm H1 d ∧ ∃ o, H1 d = some o ∧ isX o)
    (ht : ∀ (i n : Nat) (H1 : Hp), xs[i]? = some n → St i H1 → ∀ s Hb C cl fp, TX (bl X scope s Hb C cl fp) [c] ((wipe σ [j]).set j (some (.int (n : Int)))) H1 fun b H2 => b = keep n ∧ Gr T (cut H1 [d]) (cut H2 [d]) ∧ St (i + 1) H2)
    (he : ∀ (n : Nat) (H1 : Hp), n ∈ xs → ∀ s Hb C cl fp, EE T (bl X scope s Hb C cl fp) elt ((wipe σ [j]).set j (some (.int (n : Int)))) H1 (intP (n : Int)))
    (hN : X.N = N := by rfl) (hsc : X.env.scope = sc := by rfl) (hb : blkC N sc scope [(x, j)] = true := by decide +kernel) (hi : X.N[j]? = some x := by rfl) (hx : (relabel scope X.env).names.lookup x = some .local := by rfl) (hc : X.calm = true := by rfl)
    (hw : ∀ v, wipe ((wipe σ [j]).set j (some v)) [j] = wipe σ [j] := by intro _; rfl) (hf : ∀ x, foldedSetIterable iter X.env x = pure x := by intro _; rfl) :
    EX X (.ListComp elt [⟨.Name x p1, iter, [c], 0⟩] scope pos) σ H fun v H2 => ∃ D, v = .ref D ∧ H D = none ∧ H2 D = some (.lst (iV (xs.filter keep))) ∧ Gr T (cut H [d]) (cut H2 [d]) ∧ St xs.length H2 := by
  have nd : X.N.Nodup := hN ▸ S.nd
  refine EX.of (pe_lc hc nd hs (blkX S [(x, j)] hN hsc hb) (pgN j nd hi hx) (fun _ _ _ _ _ => pts_rdX) (fun _ _ _ _ _ => pe_rdGb (T := T)) hf) ?_
  refine ⟨rfl, .refl _, fun J H2 Hb g2 hb hw' D hD => ?_⟩
  subst hb
  have hDH : H D = none := g2.old D hD
  have gC : Gr T (cut H [d]) (cut H2 [d]) := (Gr.cut.trans g2).toCut (fun b hb => cut_in hb) fun b hb => by
    rw [List.mem_singleton.mp hb]
    exact (hnd 0 H2 (h0 H2 g2)).1
  have bD : cut H2 [d] D = none := by
    by_cases k : D ∈ [d]
    · exact cut_in k
    · rw [cut_out k]; exact hD
  have bd : cut H2 [d] d = none := cut_in (by simp)
  refine ⟨fun i m H' => m = xs.length - i ∧ i ≤ xs.length ∧ Gr T (cut H2 [d]) H' ∧ St i H' ∧ H' D = some (.lst (iV ((xs.take i).filter keep))), ⟨xs.length, by simp, Nat.zero_le _, Gr.cut.trans (.new hD), hSt 0 H2 _ (h0 H2 g2) (.new hD), upd_same⟩, ?_⟩
  rintro i m H' ⟨rfl, hil, gH, hst, hd'⟩
  by_cases hlt : i < xs.length
  · refine .inr ⟨hw'.goes i H' hlt gH, fun H' => i + 1 ≤ xs.length ∧ Gr T (cut H2 [d]) H' ∧ St (i + 1) H' ∧ H' D = some (.lst (iV ((xs.take (i + 1)).filter keep))), fun H' p' => ⟨xs.length - (i + 1), by omega, rfl, p'⟩, fun v H3 y => ?_⟩
    obtain ⟨g3, n, hn, hv⟩ := hw'.yields i H' v H3 hlt gH y
    obtain rfl : v = V.int (n : Int) := hv
    have st3 := hSt i _ _ hst g3
    refine ⟨hw _, _, ht i n H3 hn st3, fun b H5 ⟨eb, g5, st5⟩ => ?_⟩
    obtain ⟨c3, o3, o3e, o3x⟩ := hnd i H3 st3
    obtain ⟨c5, o5, o5e, o5x⟩ := hnd (i + 1) H5 st5
    have d3 : H3 D = some (.lst (iV ((xs.take i).filter keep))) := g3.lst hd'
    have ne : D ≠ d := fun e => by
      rw [e, o3e] at d3
      rw [Option.some.inj d3] at o3x
      exact o3x
    have nm : D ∉ [d] := by simpa using ne
    have d5 : H5 D = some (.lst (iV ((xs.take i).filter keep))) := (cut_out nm).symm.trans (g5.lst ((cut_out nm).trans d3))
    have gb5 : Gr T (cut H2 [d]) H5 := ((((gH.trans g3).toCut (by simpa using bd) (by simpa using c3)).trans g5)).trans Gr.cut
    have et : xs.take (i + 1) = xs.take i ++ [n] := by rw [List.take_add_one, hn]; rfl
    cases hk : keep n with
    | true =>
      rw [eb, hk]
      simp only [↓reduceIte]
      refine ⟨_, he n H5 (List.mem_of_getElem? hn), fun w H6 g6 hw6 => ?_⟩
      obtain rfl : w = V.int (n : Int) := hw6
      have d6 := g6.lst d5
      have e2 : iV ((xs.take i).filter keep) ++ [V.int (n : Int)] = iV ((xs.take (i + 1)).filter keep) := by
        rw [et, List.filter_append]
        simp [iV, hk]
      refine ⟨_, d6, ?_, hlt, (gb5.trans g6).mut bD (calm_lst d6), ?_, ?_⟩
      · have h2 : ((xs.take i).filter keep).length ≤ (xs.take i).length := List.length_filter_le _ _
        rw [List.length_take] at h2
        rw [List.length_map]
        have : (1000 : Nat) < sizeLine := by decide
        omega
      · rw [e2]
        exact hup (i + 1) H6 D _ _ hDH (hSt _ _ _ st5 g6) d6
      · rw [e2, upd_same]
    | false =>
      rw [eb, hk]
      simp only [Bool.false_eq_true, ↓reduceIte]
      refine ⟨hlt, gb5, st5, ?_⟩
      rw [et, List.filter_append]
      have e : [n].filter keep = [] := by simp [hk]
      rw [e, List.append_nil]
      exact d5
  · have e : i = xs.length := by omega
    subst e
    rw [List.take_length] at hd'
    exact .inl ⟨hw'.stops H' gH, D, rfl, hDH, hd', gC.trans (gH.toCut (by simpa using bd) (by simpa using (hnd _ H' hst).1)), hst⟩
end
end Pan
set_option maxHeartbeats 2000000
/-! The three doors. -/
namespace Pan
open PySem PySem.Spec PyProof.Rows L2
section
variable {T : List (Addr × Str)} {P : Program} {w : World} {K : PySem.W.Frag} {mg : Str → Option Value} {base : Heap}
/-- Told(pool) -/
theorem ex_told {X : Cx} {H : Hp} {σ : L2.St} {e : Expr} {p : PoolM} {pos p1 : Pos} {m : Nat} (W : Wd X.K X.mg) (hr : Room m X.A) (hT : LamX.Tabs T H) (he : EE T X e σ H (poolP T X.K p)) (h4 : 4 ≤ m := by decide) (hg : Gl X "Told" := by rfl)
    (hs : starEach [e] X.env = (false, eval e X.env) :: starEach [] X.env := by rfl) : EX X (.Call (.Name "Told" p1) [e] [] pos) σ H fun v H' => ∃ a d dx, v = .ref a ∧ H d = none ∧ Gr T H H' ∧ Tol T X.K X.w p 0 a d dx H' :=
  ex_make (T := T) (E := fun _ _ _ => False) (Ps := [poolP T X.K p]) W.mk_Told (ok_Told_init (T := T) (P := X.prog) (w := X.w) (base := X.base) W) hr W.mg_Told (ea_cons he ea_nil hs) (fun ws H1 a dx g hws a1 a2 a3 => by
    obtain ⟨pv, rfl, hp⟩ := sat1 hws
    exact ⟨a, dx, H1, pv, p, rfl, Ins.made a1 a2 a3, a1, a2, gr_made a1 a2 a3, g.tab hT, hp, fun d H' hd g' t => ⟨rfl, a, d, dx, rfl, g.old d hd, g.trans g', t⟩⟩) h4 hg (by rfl) hs
theorem out_cut {H H1 H' : Hp} {d : Addr} (hd : H d = none) (c : Calm H1 d) (g : Gr T H H1) (g' : Gr T (cut H1 [d]) (cut H' [d])) : Gr T H H' := ((g.toCut (by simpa using hd) (by simpa using c)).trans g').trans Gr.cut
/-- what a door is asked with -/
structure OkDoor (p : PoolM) : Prop where
  pool : okPool p
  all : fewM p → ∀ i : Int, 0 ≤ i ∧ i < (p.rows.length : Int) → OkAll p i
def spTells (T : List (Addr × Str)) (K : PySem.W.Frag) : Sp := fun vs H Q E => ∃ (p : PoolM) (i : Int), OkDoor p ∧ LamX.Tabs T H ∧ Sat [poolP T K p, intP i] vs H ∧
  (¬ (0 ≤ i ∧ i < (p.rows.length : Int)) → ∀ H', Gr T H H' → E (.ref (He.ga K "BadPerson")) none H') ∧ ((0 ≤ i ∧ i < (p.rows.length : Int)) → ¬ fewM p → ∀ H', Gr T H H' → E (.ref (He.ga K "TooLarge")) none H') ∧
  ((0 ≤ i ∧ i < (p.rows.length : Int)) → fewM p → ∀ v H', Gr T H H' → (∃ D kvs, v = .ref D ∧ H' D = some (.dT kvs) ∧ DK2 kT (chP T K p i) kvs (telM p) H') → Q v H')
theorem scTells : FnScope ["pool", "person"] ["pool", "person"] (defScope (top 47)) := ⟨rfl, rfl, rfl, by decide +kernel, rfl, by decide +kernel, by decide +kernel⟩
theorem ok_tellings (W : Wd K mg) (B : BadT T K mg base) : FnR P w K mg base (L2.CX P w) 13 (He.ga K "tellings") (spTells T K) := by
  obtain ⟨fd, F⟩ := W.d_g_tellings
  have b : Binds K fd ["pool", "person"] [] := F.bindsN fun _ _ _ _ _ _ us hl => match us, hl with | [_, _], _ => rfl
  refine fn_exc (T := T) F scTells b (fun vs H Q E ⟨p, i, _, _, hs, _⟩ => by rw [hs.len]; rfl) fun cdv A outer s H vs Q E hr ⟨p, i, ok, hT, hs, q1, q2, q3⟩ tk => ?_
  obtain ⟨x, y, rfl, h1, h2⟩ := sat2 hs
  obtain rfl : y = V.int i := h2
  have Lp := ok_check_person (T := T) (P := P) (w := w) (base := base) W
  have Lf := ok_check_few (T := T) (P := P) (w := w) (base := base) W
  have Lt := ok_tellings_of (T := T) (P := P) (w := w) (base := base) W B
  refine ssx_expr (R := fun v H' => Gr T H H' ∧ 0 ≤ i ∧ i < (p.rows.length : Int)) (ex_callC (T := T) (Ps := [poolP T K p, intP i]) tk Lp W.g_check_person.mg W.g_check_person.kp hr (ea_cons (ee_var 0 rfl h1) (ea_cons (ee_var 1 rfl rfl) ea_nil)) fun ws H2 g2 hws => ⟨p, i, ok.pool.2.2.2.2.1, hws, fun hi H' g => ⟨g2.trans g, hi⟩, fun hi H' g => q1 hi H' (g2.trans g)⟩) fun v1 H1 ⟨g1, hi⟩ => ?_
  refine ssx_expr (R := fun v H' => Gr T H1 H' ∧ fewM p) (ex_callC (T := T) (Ps := [poolP T K p]) tk Lf W.g_check_few.mg W.g_check_few.kp hr (ea_cons (ee_var 0 rfl ((poolP T K p).st _ _ _ g1 h1)) ea_nil) fun ws H2 g2 hws => ⟨p, ok.pool, hws, fun hf H' g => ⟨g2.trans g, hf⟩, fun hf H' g => q2 hi hf H' ((g1.trans g2).trans g)⟩) fun v2 H2 ⟨g2, hf⟩ => ?_
  have g12 := g1.trans g2
  refine ssx_ret (ex_methX (T := T) (E := fun _ _ _ => False) (Ps := [intP i]) (R := fun v H' => Gr T H2 H' ∧ ∃ D kvs, v = .ref D ∧ H' D = some (.dT kvs) ∧ DK2 kT (chP T K p i) kvs (telM p) H') (ex_told W hr (g12.tab hT) (ee_var 0 rfl ((poolP T K p).st _ _ _ g12 h1))) W.s_Told W.m_Told_tellings Lt hr (ea_cons (ee_var 1 rfl rfl) ea_nil) fun v H3 ⟨a, d, dx, ev, hd, g3, t⟩ => ⟨g3, ?_⟩) fun v H3 ⟨g3, h⟩ => q3 hi hf v H3 (g12.trans g3) h
  obtain ⟨us, hsl⟩ := t.slt
  exact ⟨a, dx, us, ev, hsl, fun ws H4 g4 hws => by
    obtain ⟨z, rfl, hz⟩ := sat1 hws
    obtain rfl : z = V.int i := hz
    exact ⟨p, 0, a, d, dx, i, rfl, t.gr g4, ok.all hf i hi, Nat.zero_le _, fun v H' g _ h => ⟨out_cut hd t.calm g3 ((t.sub g4).trans g), h⟩⟩⟩
def spBestT (T : List (Addr × Str)) (K : PySem.W.Frag) : Sp := fun vs H Q E => ∃ (p : PoolM) (i : Int), OkDoor p ∧ LamX.Tabs T H ∧ Sat [poolP T K p, intP i] vs H ∧ (0 ≤ i ∧ i < (p.rows.length : Int)) ∧
  (¬ fewM p → ∀ H', Gr T H H' → E (.ref (He.ga K "TooLarge")) none H') ∧ (fewM p → ∀ v H', Gr T H H' → (itX T K (bestM p i)).p v H' → Q v H')
theorem scBestT : FnScope ["pool", "person"] ["pool", "person"] (defScope (top 48)) := ⟨rfl, rfl, rfl, by decide +kernel, rfl, by decide +kernel, by decide +kernel⟩
theorem ok_best_telling (W : Wd K mg) (B : BadT T K mg base) : FnR P w K mg base (L2.CX P w) 13 (He.ga K "best_telling") (spBestT T K) := by
  obtain ⟨fd, F⟩ := W.d_g_best_telling
  have b : Binds K fd ["pool", "person"] [] := F.bindsN fun _ _ _ _ _ _ us hl => match us, hl with | [_, _], _ => rfl
  refine fn_exc (T := T) F scBestT b (fun vs H Q E ⟨p, i, _, _, hs, _⟩ => by rw [hs.len]; rfl) fun cdv A outer s H vs Q E hr ⟨p, i, ok, hT, hs, hi, q2, q3⟩ tk => ?_
  obtain ⟨x, y, rfl, h1, h2⟩ := sat2 hs
  obtain rfl : y = V.int i := h2
  have Lp := ok_check_person (T := T) (P := P) (w := w) (base := base) W
  have Lf := ok_check_few (T := T) (P := P) (w := w) (base := base) W
  have Lt := ok_best (T := T) (P := P) (w := w) (base := base) W B
  refine ssx_expr (R := fun v H' => Gr T H H') (ex_callC (T := T) (Ps := [poolP T K p, intP i]) tk Lp W.g_check_person.mg W.g_check_person.kp hr (ea_cons (ee_var 0 rfl h1) (ea_cons (ee_var 1 rfl rfl) ea_nil)) fun ws H2 g2 hws => ⟨p, i, ok.pool.2.2.2.2.1, hws, fun hi H' g => g2.trans g, fun hn H' g => absurd hi hn⟩) fun v1 H1 g1 => ?_
  refine ssx_expr (R := fun v H' => Gr T H1 H' ∧ fewM p) (ex_callC (T := T) (Ps := [poolP T K p]) tk Lf W.g_check_few.mg W.g_check_few.kp hr (ea_cons (ee_var 0 rfl ((poolP T K p).st _ _ _ g1 h1)) ea_nil) fun ws H2 g2 hws => ⟨p, ok.pool, hws, fun hf H' g => ⟨g2.trans g, hf⟩, fun hf H' g => q2 hf H' ((g1.trans g2).trans g)⟩) fun v2 H2 ⟨g2, hf⟩ => ?_
  have g12 := g1.trans g2
  refine ssx_ret (ex_methX (T := T) (E := fun _ _ _ => False) (Ps := [intP i]) (R := fun v H' => Gr T H2 H' ∧ (itX T K (bestM p i)).p v H') (ex_told W hr (g12.tab hT) (ee_var 0 rfl ((poolP T K p).st _ _ _ g12 h1))) W.s_Told W.m_Told_best Lt hr (ea_cons (ee_var 1 rfl rfl) ea_nil) fun v H3 ⟨a, d, dx, ev, hd, g3, t⟩ => ⟨g3, ?_⟩) fun v H3 ⟨g3, h⟩ => q3 hf v H3 (g12.trans g3) h
  obtain ⟨us, hsl⟩ := t.slt
  exact ⟨a, dx, us, ev, hsl, fun ws H4 g4 hws => by
    obtain ⟨z, rfl, hz⟩ := sat1 hws
    obtain rfl : z = V.int i := hz
    exact ⟨p, 0, a, d, dx, i, rfl, t.gr g4, ok.all hf i hi, Nat.zero_le _, fun v H' g _ h => ⟨out_cut hd t.calm g3 ((t.sub g4).trans g), h⟩⟩⟩
def gainM (p : PoolM) (n : Nat) : Bool := !decide (bestM p (n : Int) = p.rows.getD n [])
def gainsM (p : PoolM) : List Nat := (List.range p.rows.length).filter (gainM p)
def spGains (T : List (Addr × Str)) (K : PySem.W.Frag) : Sp := fun vs H Q E => ∃ (p : PoolM), OkDoor p ∧ LamX.Tabs T H ∧ Sat [poolP T K p] vs H ∧
  (¬ fewM p → ∀ H', Gr T H H' → E (.ref (He.ga K "TooLarge")) none H') ∧ (fewM p → ∀ v H', Gr T H H' → (lstP (T := T) K (fun n : Nat => intP (n : Int)) (gainsM p)).p v H' → Q v H')
theorem scGains : FnScope ["pool", "told", "person"] ["pool"] (defScope (top 49)) := ⟨rfl, rfl, rfl, by decide +kernel, rfl, by decide +kernel, by decide +kernel⟩
theorem ok_who_gains (W : Wd K mg) (B : BadT T K mg base) : FnR P w K mg base (L2.CX P w) 13 (He.ga K "who_gains") (spGains T K) := by
  obtain ⟨fd, F⟩ := W.d_g_who_gains
  have b : Binds K fd ["pool"] [] := F.bindsN fun _ _ _ _ _ _ us hl => match us, hl with | [_], _ => rfl
  refine fn_exc (T := T) F scGains b (fun vs H Q E ⟨p, _, _, hs, _⟩ => by rw [hs.len]; rfl) fun cdv A outer s H vs Q E hr ⟨p, ok, hT, hs, q2, q3⟩ tk => ?_
  obtain ⟨x, rfl, h1⟩ := sat1 hs
  have Lc := ok_check_pool (T := T) (P := P) (w := w) (base := base) W
  have Lf := ok_check_few (T := T) (P := P) (w := w) (base := base) W
  have Lb := ok_best (T := T) (P := P) (w := w) (base := base) W B
  have hn8 : p.rows.length ≤ 8 := ok.pool.2.2.2.2.1
  refine ss_expr (ee_callP (P := eqP .non) Lc W.g_check_pool.mg W.g_check_pool.kp hr p trivial (ea_cons (ee_var 0 rfl h1) ea_nil)) fun v1 H1 g1 _ => ?_
  refine ssx_expr (R := fun v H' => Gr T H1 H' ∧ fewM p) (ex_callC (T := T) (Ps := [poolP T K p]) tk Lf W.g_check_few.mg W.g_check_few.kp hr (ea_cons (ee_var 0 rfl ((poolP T K p).st _ _ _ g1 h1)) ea_nil) fun ws H2 g2 hws => ⟨p, ok.pool, hws, fun hf H' g => ⟨g2.trans g, hf⟩, fun hf H' g => q2 hf H' ((g1.trans g2).trans g)⟩) fun v2 H2 ⟨g2, hf⟩ => ?_
  have g12 := g1.trans g2
  have h12 := (poolP T K p).st _ _ _ g12 h1
  refine ssx_set 1 (ex_told W hr (g12.tab hT) (ee_var 0 rfl h12)) scGains.nd fun v3 H3 ⟨a, d, dx, ev, hd, g3, t⟩ => ?_
  subst ev
  have h2d := hd
  have dd3 := t.ent
  have gS : Gr T H2 (cut H3 [d]) := g3.toCut (by simpa using h2d) (by simpa using t.calm)
  refine ssx_ret (ex_lcX (T := T) (d := d) (xs := List.range p.rows.length) (keep := gainM p) 2 scGains (fun j H' => Tol T K w p (9 * j) a d dx H' ∧ Gr T H2 (cut H' [d])) (src_rangeB (m := (p.rows.length : Int)) W.f_range (ee_lenP W W.f_len hr hn8 (ee_var 0 rfl ((poolP T K p).st _ _ _ g3 h12))) (by omega) (hB := fun Hx => ⟨_, rfl⟩)) (by rw [List.length_range]; omega)
    (fun Hx g => ⟨t.gr g, gS.trans (t.sub g)⟩) (fun j Hx Hy ⟨t1, gx⟩ g => ⟨t1.gr g, gx.trans (t1.sub g)⟩) (fun j Hx D ns ns' hD ⟨t1, gx⟩ hl => ?_) (fun j Hx ⟨t1, _⟩ => ⟨t1.calm, let ⟨xs, h, _⟩ := t1.ent; ⟨_, h, by unfold TdO; trivial⟩⟩)
    (fun j n Hx hn ⟨t1, gx⟩ s' Hb C cl fp => ?_) (fun n Hx hn s' Hb C cl fp => ee_var 2 rfl rfl)) fun v H4 ⟨D, ev, _, hl, g4, t4, _⟩ => q3 hf v H4 ((g12.trans gS).trans (g4.trans Gr.cut)) ⟨D, _, ev, .inl (.inl hl), ?_⟩
  · have ne : D ≠ d := fun e => by
      obtain ⟨xs, q, _⟩ := t1.ent
      rw [e, q] at hl
      unfold TdO at hl
      exact nomatch hl
    have nm : D ∉ [d] := by simpa using ne
    refine ⟨t1.upd (f := isLi) (fun b n h => valP_li h) hl (fun x hx => ?_) (calm_lst hl), ?_⟩
    · obtain ⟨n, _, e⟩ := List.mem_map.mp hx
      exact ⟨_, e.symm⟩
    · have e : cut (L2.upd Hx D (.lst (iV ns'))) [d] = L2.upd (cut Hx [d]) D (.lst (iV ns')) := by
        funext b
        by_cases k : b ∈ [d]
        · rw [cut_in k, upd_ne (fun q => nm (by rw [← q]; exact k)), cut_in k]
        · rw [cut_out k]
          by_cases q : b = D
          · rw [q, upd_same, upd_same]
          · rw [upd_ne q, upd_ne q, cut_out k]
      rw [e]
      exact gx.mut (g3.old D hD) (calm_lst ((cut_out nm).trans hl))
  · have hj : j < p.rows.length := by
      have := (List.getElem?_eq_some_iff.mp hn).1
      rwa [List.length_range] at this
    have en : n = j := by
      rw [List.getElem?_range hj] at hn
      exact (Option.some.inj hn).symm
    subst en
    have hn6 := hf.1
    obtain ⟨us, hsl⟩ := t1.slt
    refine tx_neD (T := T) (k := 1) (k2 := 1) (R := fun v H' => Gr T (cut Hx [d]) (cut H' [d]) ∧ Tol T K w p (9 * n + 9) a d dx H' ∧ (itX T K (bestM p (n : Int))).p v H') hr (ex_meth (T := T) (E := fun _ _ _ => False) (Ps := [intP (n : Int)]) 1 rfl hsl W.s_Told W.m_Told_best Lb hr (ea_cons (ee_var 2 rfl rfl) ea_nil) fun ws H4 g4 hws => ?_) fun v H4 ⟨g4, t4, hv⟩ => ?_
    · obtain ⟨z, rfl, hz⟩ := sat1 hws
      obtain rfl : z = V.int (n : Int) := hz
      exact ⟨p, 9 * n, a, d, dx, n, rfl, t1.gr g4, ok.all hf n (by omega), by omega, fun v H' g t' h => ⟨(t1.sub g4).trans g, t', h⟩⟩
    · refine ⟨itX T K (bestM p (n : Int)), itX T K (p.rows.getD n []), _, _, hv, dat_itX _, dat_itX _, ee_ixT (R := itX T K) n (getD_some hj) (ee_rows W (ee_var 0 rfl ((poolP T K p).st _ _ _ ((gx.trans g4).trans Gr.cut) h12))) (ee_var 2 rfl rfl), fun H5 g5 => ⟨?_, g4.trans (t4.sub g5), (t4.gr g5).more (by omega), (gx.trans g4).trans (t4.sub g5)⟩⟩
      rw [show PyData.tuple ((bestM p (n : Int)).map .int) = dI (bestM p (n : Int)) from rfl, show PyData.tuple ((p.rows.getD n []).map .int) = dI (p.rows.getD n []) from rfl, eqv_ints]
      rfl
  · have hall : ∀ ns : List Nat, All2 (T := T) (fun n : Nat => intP (n : Int)) (iV ns) ns H4 := fun ns => by
      induction ns with
      | nil => trivial
      | cons n ns ih => exact ⟨rfl, ih⟩
    exact hall _
end
end Pan
set_option maxHeartbeats 1000000
/-! _law_told(lambda: ..). -/
namespace Pan
open PySem PySem.Spec PyProof.Rows L2
/-- what may be raised: TooLarge with QL, BadPerson with QP -/
def tE (K : PySem.W.Frag) (QL QP : Hp → Prop) : XK := fun cls _ H' => (cls = .ref (He.ga K "TooLarge") ∧ QL H') ∨ (cls = .ref (He.ga K "BadPerson") ∧ QP H')
section
variable {X : Cx} {pins : List (Addr × Obj)} {σ : L2.St} {H HZ : Hp} {s s1 : Shared} {scope : Scope}
/-- a kept lambda without parameters, called -/
theorem lam0_call {A : Around} {outer : List Env} {E : XK} {f c' : Addr} {k : Nat} {params : Arguments} {body : Expr} {tb : TE} {Q : VK} (I : Inv X pins σ H s) (L : LamX.LamS X.env.scope scope) (e0 : Env0 X.prog X.w X.K X.mg X.base A outer s1 HZ) (hr : Room (k + 1) A) (un : Un (frs X.stack) [] H HZ s.heap s1.heap)
    (hf : HZ f = some (FnO (X.env.qual ++ "<lambda>") (cloFrom X.env.cells scope.names []) params body scope f c')) (hc : HZ c' = some (LamX.CodeO c' (X.env.qual ++ "<lambda>"))) (nl : s1.heap.NoLimit) (hbind : ∀ pm ctv : Value, bindArgs (PySem.W.kla_fn "<lambda>" (X.env.qual ++ "<lambda>") params body scope (cloFrom X.env.cells scope.names []) pm (.ref c') ctv) ⟨[], []⟩ = pure [])
    (hb : Room k (A.deeper (LamX.lamEnv X scope s1.heap.objs.size f c')) → PE (LamX.lamCx X A outer s1 HZ E scope f c') body tb) (h : tb σ HZ Q) : codeAny (model X.prog X.w) A (.call (.ref f) ⟨[], []⟩) (CR (L2.CX X.prog X.w) outer X.prog X.w HZ s1 Q E) s1 := by
  obtain ⟨⟨pm, ctv, of1⟩, _, _⟩ := e0.hok f _ hf
  obtain ⟨⟨oc, vs, t, hoc, hdc, hvc⟩, _, _⟩ := e0.hok c' _ hc
  refine PySem.W.kla_callFunE hr.depth of1 rfl L.co L.gen rfl ⟨c', oc, vs, t, rfl, hoc, hdc, hvc⟩ ?_
  rw [hbind]; refine wpAny_pure (wpAny_newFunctionEnv (fun y hy => (L.own y hy).2) (fun y hy => nomatch hy) (fun h₁ hns hsb => ⟨nl.fresh _ hsb, ?_⟩) L.kind)
  have kp : ∀ b o, s1.heap.get? b = some o → h₁.get? b = some o := fun b o e => hsb.extBut b o (Nat.ne_of_lt (Heap.lt_size e)) (Heap.get?_push_of_some _ e)
  have J : Inv (LamX.lamCx X A outer s1 HZ E scope f c') [] σ HZ { s1 with heap := h₁, toks := s1.toks + ([] : List (Str × Value)).length } := LamX.lam_start2 I L e0 hr.hd un hns kp
  exact PySem.W.kla_codeExpr (wpAny_mono ((hb (hr.deeper _)).run [] _ _ HZ Q J h) (fun x s' hq => by
    obtain ⟨w', H', J', rv, q⟩ := hq
    exact ⟨w', H', J'.os, J'.bare, J'.base, J'.hok, rv, q⟩) fun e s' hq => hq)
end
section
variable {T : List (Addr × Str)} {P : Program} {w : World} {K : PySem.W.Frag} {mg : Str → Option Value} {base : Heap}
theorem scTold : FnScope ["_law_ask"] ["_law_ask"] (defScope (top 52)) := ⟨rfl, rfl, rfl, by decide +kernel, rfl, by decide +kernel, by decide +kernel⟩
theorem Wd.m1 (W : Wd K mg) : PySem.W.exmOne K (.ref (He.ga K "BadPerson")) (.ref (He.ga K "TooLarge")) = some false := He.exm_ok (W.fact 84 _ rfl)
theorem Wd.m2 (W : Wd K mg) : PySem.W.exmOne K (.ref (He.ga K "BadPerson")) (.ref (He.ga K "BadPerson")) = some true := He.exm_ok (W.fact 85 _ rfl)
theorem Wd.m3 (W : Wd K mg) : PySem.W.exmOne K (.ref (He.ga K "TooLarge")) (.ref (He.ga K "TooLarge")) = some true := He.exm_ok (W.fact 86 _ rfl)
/-- the body of _law_told, by what the call of its argument does -/
theorem told_body (W : Wd K mg) {CX : CXT} {cdv : Value} {A : Around} {outer : List Env} {s : Shared} {H : Hp} {E : XK} {f : Addr} {QL QP : Hp → Prop} {R : V → Hp → Prop} {Q : VK}
    (hcall : ∀ (Wx : WX) (pn : List (Addr × Obj)) (xe : Value → Shared → Prop) (p1 p2 : Pos), Takes ((cxOf CX P w K mg base ["_law_ask"] "_law_told" (defScope (top 52)) (He.ga K "_law_told") cdv A outer s H E).tr pn xe) Wx → (∀ cls d σ' H', tE K QL QP cls d H' → Wx cls d σ' H') →
      EX ((cxOf CX P w K mg base ["_law_ask"] "_law_told" (defScope (top 52)) (He.ga K "_law_told") cdv A outer s H E).tr pn xe) (.Call (.Name "_law_ask" p1) [] [] p2) [some (.ref f)] H R)
    (hR : ∀ v H', R v H' → Q v H') (hL : ∀ H', QL H' → Q (.str "large") H') (hP : ∀ H', QP H' → Q (.str "person") H') :
    SS T (cxOf CX P w K mg base ["_law_ask"] "_law_told" (defScope (top 52)) (He.ga K "_law_told") cdv A outer s H E).nox (defBody (top 52)) (start ["_law_ask"] [.ref f]) H { nx := fun _ H' => Q .non H', rt := Q } := by
  refine ss_one (S1.of (ps_try_many (X := (cxOf CX P w K mg base ["_law_ask"] "_law_told" (defScope (top 52)) (He.ga K "_law_told") cdv A outer s H E).nox) (tb := fun Wx D σ' H' => σ' = [some (.ref f)] ∧ H' = H ∧ (∀ cls d σ' H', tE K QL QP cls d H' → Wx cls d σ' H') ∧ ∀ v H2, R v H2 → D.rt v H2) rfl rfl LamX.takes0 (fun Wx pn xe tk _ => ?_)
    (.cons (c := .ref (He.ga K "TooLarge")) ⟨rfl, by decide, .inl W.mg_TooLarge⟩ (fun a oe cls d pn _ _ => pss_one (ps_ret pe_str)) (.cons (c := .ref (He.ga K "BadPerson")) ⟨rfl, by decide, .inl W.mg_BadPerson⟩ (fun a oe cls d pn _ _ => pss_one (ps_ret pe_str)) (.cons (c := .ref (He.ga K "PanelError")) ⟨rfl, by decide, .inl W.mg_PanelError⟩ (fun a oe cls d pn _ _ => pss_one (ps_ret pe_str)) .nil)))) ?_)
  · refine ⟨fun pins s' σ' H' D I ⟨e1, e2, hW, q⟩ => ?_⟩
    subst e1 e2
    exact (pss_one (ps_ret (hcall Wx pn xe _ _ tk hW))).run pins s' _ _ D I ⟨rfl, rfl, q⟩
  · refine ⟨rfl, rfl, fun cls d σ' H' he => ?_, hR⟩
    rcases he with ⟨rfl, hq⟩ | ⟨rfl, hq⟩
    · exact ⟨true, W.m3, fun _ a _ => hL H' hq, fun h => (nomatch h)⟩
    · exact ⟨false, W.m1, fun h => (nomatch h), fun _ => ⟨true, W.m2, fun _ a _ => hP H' hq, fun h => (nomatch h)⟩⟩
end
section
variable {T : List (Addr × Str)} {X : Cx} {σ : L2.St} {H : Hp} {pos p1 lpos : Pos} {params : Arguments} {body : Expr} {scope : Scope} {cT PT : Addr} {k : Nat} {QL QP : Hp → Prop} {R R' : V → Hp → Prop}
/-- _law_told(lambda: body) -/
theorem ex_lawTold (W : Wd X.K X.mg) (B : LamB T X cT PT) (hr : Room (k + 2) X.A) (L : LamX.LamS X.env.scope scope) (hT : LamX.Tabs T H) (hdef : defaultsOf params X.env = ([], [])) (hbind : ∀ (q : Str) (cl : List (Str × Addr)) (pm cv ctv : Value), bindArgs (PySem.W.kla_fn "<lambda>" q params body scope cl pm cv ctv) ⟨[], []⟩ = pure [])
    (hbody : ∀ (pins : List (Addr × Obj)) (s' : Shared) (H1 : Hp) (A : Around) (outer : List Env) (s1 : Shared) (f c' : Addr), Inv X pins σ H1 s' → Gr T H H1 → Un (frs X.stack) [] H1 H1 s'.heap s1.heap → Room k (A.deeper (LamX.lamEnv X scope s1.heap.objs.size f c')) → EX (LamX.lamCx X A outer s1 H1 (tE X.K QL QP) scope f c') body σ H1 R')
    (hR : ∀ v H', R' v H' → R v H') (hL : ∀ H', QL H' → R (.str "large") H') (hP : ∀ H', QP H' → R (.str "person") H') (hg : Gl X "_law_told" := by rfl)
    (he : starEach [.Lambda params body scope lpos] X.env = (false, eval (.Lambda params body scope lpos) X.env) :: starEach [] X.env := by rfl) : EX X (.Call (.Name "_law_told" p1) [.Lambda params body scope lpos] [] pos) σ H R := by
  refine EX.of (t := fun σ' H' Q => σ' = σ ∧ H' = H ∧ ∀ v H2, R v H2 → Q v H2) ⟨fun pins s σ' H' Q I ⟨e1, e2, q⟩ => ?_⟩ ⟨rfl, rfl, fun _ _ h => h⟩
  subst e1 e2
  obtain ⟨fd, F⟩ := W.d_g_law_told
  have hb : Binds X.K fd ["_law_ask"] [] := F.bindsN fun _ _ _ _ _ _ us hl => match us, hl with | [_], _ => rfl
  refine wpAny_Call_Name_kw (ld_glob I hg W.g_law_told.mg ?_)
  refine PySem.W.callWith_K (h₀ := X.base) I.ok.mod.kin W.g_law_told.kp ?_ he (by rfl)
  rw [he]
  refine Calls.spliced_cons (thn ((pe_made B hdef fun ok => L.has ok).run pins s σ' H' (fun v H1 => ∃ f c', v = .ref f ∧ Gr T H' H1 ∧ H1 f = some (FnO (X.env.qual ++ "<lambda>") (cloFrom X.env.cells scope.names []) params body scope f c') ∧ H1 c' = some (LamX.CodeO c' (X.env.qual ++ "<lambda>"))) I ⟨hT, fun f c' H1 g _ h1 h2 => ⟨f, c', rfl, g, h1, h2⟩⟩) fun u s' ⟨v, H1, I1, rv, f, c', ev, g, hf, hc⟩ => ?_)
  subst ev
  obtain rfl : u = Value.ref f := rv
  refine Calls.spliced_nil ⟨I1.kIn, ?_⟩
  obtain ⟨oc, od, dV, kV, doc, pm, an, cdv, ct, osl, rfl, lk, hcd, _, _⟩ := F.ex
  have rc : codeAny (model X.prog X.w) X.A (.call (.ref (He.ga X.K "_law_told")) ⟨[.ref f], []⟩) (CR CX0 X.stack X.prog X.w H1 s' R (fun _ _ _ => False)) s' := by
    refine LamX.run_ofS (N := ["_law_ask"]) (ps := ["_law_ask"]) (us := [.ref f]) (vs := [.ref f]) lk hcd scTold (hr.mono (Nat.le_refl _)) I1.env0 (hb s' [.ref f] I1.kIn rfl) (.cons rfl .nil) rfl fun hr' => ?_
    refine ⟨_, PSs.nox (told_body (T := T) W (R := R') (QL := QL) (QP := QP) (fun Wx pn xe q1 q2 tk hW => ?_) hR hL hP), rfl, rfl, rfl⟩
    refine EX.of (t := fun σZ HZ Q => σZ = [some (.ref f)] ∧ HZ = H1 ∧ ∀ v H2, R' v H2 → Q v H2) ⟨fun pinsZ sZ σZ HZ QZ IZ ⟨z1, z2, z3⟩ => ?_⟩ ⟨rfl, rfl, fun _ _ h => h⟩
    subst z1 z2
    refine wpAny_Call_Name_kw (thn ((pe_var (pos := q1) (i := 0) rfl (.inl rfl)).run pinsZ sZ _ HZ (fun v H2 => v = .ref f ∧ H2 = HZ) IZ ⟨.ref f, rfl, rfl, rfl⟩) fun u2 s2 ⟨v2, H2, I2, r2, ev, eH⟩ => ?_)
    subst ev eH
    obtain rfl : u2 = Value.ref f := r2
    obtain ⟨⟨pm', ctv', of2⟩, _, _⟩ := I2.hok f _ hf
    refine PySem.W.callWith_F0 ⟨_, _, _, _, of2⟩ ?_
    have un : Un (frs X.stack) [] H2 H2 s'.heap s2.heap := I2.base
    have call := lam0_call (E := tE X.K QL QP) (Q := R') I1 L I2.env0 hr' un hf hc I2.nolimit (fun pm ctv => hbind _ _ _ _ _) (fun hroom => hbody pins s' H2 _ _ s2 f c' I1 g un hroom) ⟨rfl, rfl, fun _ _ h => h⟩
    refine wpAny_call (codeAny_mono call fun r s3 hq => ?_)
    cases r with
    | error e => exact passes_call tk hW pinsZ _ H2 s2 e s3 I2 hq
    | ok fl =>
      cases fl with
      | ret u3 =>
        obtain ⟨v3, H3, os, bare, un3, hok, rv3, q3⟩ := hq
        exact I2.after ⟨v3, H3, os, bare, un3, hok, rv3, z3 _ _ q3⟩
      | next => exact False.elim hq
      | brk => exact False.elim hq
      | cont => exact False.elim hq
  refine wpAny_call (codeAny_mono rc fun r s2 hq => ?_)
  cases r with
  | error e => exact (show False from hq).elim
  | ok fl =>
    cases fl with
    | ret u =>
      obtain ⟨v3, H3, os, bare, un3, hok, rv3, q3⟩ := hq
      exact I1.after ⟨v3, H3, os, bare, un3, hok, rv3, q _ _ q3⟩
    | next => exact False.elim hq
    | brk => exact False.elim hq
    | cont => exact False.elim hq
end
end Pan
set_option maxHeartbeats 1000000
/-! A list comprehension whose element is told the maker's state. -/
namespace L2
open PySem PySem.Spec PyProof.Rows
/-- what an element is told of the start of its block -/
def GoodB (X : Cx) (σ : St) (H : Hp) (s : Shared) (fp : List Addr) : Prop := ∃ pins, Inv X pins σ H s ∧ ∀ b ∈ fp, FpOk X pins H b
section
variable {X : Cx}
theorem lcI_core {pins : List (Addr × Obj)} {s : Shared} {σ : St} {H : Hp} {Q : VK} {elt tg iter : Expr} {scope : Scope} {own : List (Str × Nat)} {pos pos' : Pos} {wi : TI} {g : TG} {te : TE} {use : Option (Value → Sem Unit)} {Qf : Value → Shared → Prop}
    (hc : X.calm = true) (I : Inv X pins σ H s) (hN : X.N.Nodup) (hi : PI X tg iter wi) (ok : BlkOk X.N X.env.scope scope own)
    (hg : ∀ (s : Shared) (H : Hp) (C : Addr) (cl : List (Str × Addr)) (fp : List Addr), PG (X.blk s H scope (compEnvC scope cl C X.env) fp) tg g)
    (he : ∀ (s : Shared) (H : Hp) (C : Addr) (cl : List (Str × Addr)) (fp : List Addr), GoodB X σ H s fp → PE (X.blk s H scope (compEnvC scope cl C X.env) fp) elt te) (hs : ∀ x, foldedSetIterable iter X.env x = pure x)
    (h : tLc wi g (fun _ H Q => Q true H) te (own.map (·.2)) σ H Q)
    (hRR : ∀ D C s' m H', Inv X pins σ H' s' → Q (.ref D) H' → s'.heap.Ns C m → FpOk X pins H' C → compPost (model X.prog X.w) X.A X.xe use Qf (.ref D) C (.ok .next) s') :
    wpAny (model X.prog X.w) X.A (comprehension (.ListComp elt [⟨tg, iter, [], 0⟩] scope pos) scope X.env pos' (newList []) false (eval iter X.env) use) Qf X.xe s := by
  have hFr : ∀ y ∈ scope.names, y.2 = .free → ∃ c, X.env.cells.lookup y.1 = some c := fun y hy e => by
    rcases ok.free y hy e with k | k
    · exact I.ok.has _ (.inl k)
    · exact I.ok.has _ (.inr k)
  refine wpAny_comprehension_free (use := use) rfl hs (closure_ok hFr) ok.kind (fun y hy e => by rw [ok.uniq y hy, e])
    (thn (hi.run pins s σ H _ I h) fun xv t1 hx => thn hx fun itv t2 h2 => ?_)
  obtain ⟨it, fp, tn, J, G2, e, J2, T, sf2, fr2, q⟩ := h2
  subst e
  refine wpAny_newObj_type (newEnv_comp ?_) (by show 0 ≤ sizeLine; exact Nat.zero_le _)
  generalize hD : t2.heap.objs.size = D
  have hDf : G2 D = none := J2.hok.fresh (Nat.le_of_eq hD)
  obtain ⟨W, ⟨m0, w00⟩, turn⟩ := q D hDf
  generalize ht3 : ({ t2 with heap := t2.heap.push { cls := .type "list", data := .seq ([] : List Value).toArray } } : Shared) = t3
  have J3 : Inv X pins σ (upd G2 D (.lst [])) t3 := by
    rw [← ht3]
    refine J2.laid (t' := t2.toks) (fun b o e => Heap.get?_push_of_some _ e) (Nat.le_of_eq hD) ⟨Nat.zero_le _, [], 0, .nil, by rw [← hD]; exact Heap.get?_push_size _ rfl⟩
  have h3 : t3.heap = t2.heap.push { cls := .type "list", data := .seq ([] : List Value).toArray } := by rw [← ht3]
  have szs : ∀ b ∈ fp, b < t2.heap.objs.size := fun b hb => by
    obtain ⟨o, e, _⟩ := T.obj _ _ sf2 b hb
    exact Heap.lt_size e
  have fr3 : ∀ b ∈ fp, FpOk X pins (upd G2 D (.lst [])) b ∧ b < t3.heap.objs.size := fun b hb => by
    have hlt := szs b hb
    refine ⟨⟨?_, (fr2 b hb).2⟩, by rw [h3, Heap.size_push]; exact Nat.lt_succ_of_lt hlt⟩
    rw [upd_ne (by rw [← hD]; exact Nat.ne_of_lt hlt)]
    exact (fr2 b hb).1
  have sf3 : tn 0 t3.heap := T.keep _ _ _ sf2 fun b _ o e => by rw [h3]; exact Heap.get?_push_of_some _ e
  have J4 := block_start J3 ok hN fr3
  have qg := hg t3 (upd G2 D (.lst [])) t3.heap.objs.size (cellsFrom (t3.heap.objs.size + 1) scope.names (cloFrom X.env.cells scope.names [])) fp
  have qe := he t3 (upd G2 D (.lst [])) t3.heap.objs.size (cellsFrom (t3.heap.objs.size + 1) scope.names (cloFrom X.env.cells scope.names [])) fp ⟨pins, J3, fun b hb => (fr3 b hb).1⟩
  show codeAny _ _ (.compStart (.ListComp elt [⟨tg, iter, [], 0⟩] scope pos) 0 (.ref it) (.ref D) (compEnvC scope (cellsFrom (t3.heap.objs.size + 1) scope.names (cloFrom X.env.cells scope.names [])) t3.heap.objs.size X.env)) (compPost (model X.prog X.w) X.A X.xe use Qf (.ref D) t3.heap.objs.size) { t3 with heap := pushCells (t3.heap.push { cls := .type "dict", data := .dict #[] }) scope.names }
  have nof : ∀ b ∈ fp, (upd G2 D (.lst [])) b = none := fun b hb => (fr3 b hb).1.1
  generalize hbe : compEnvC scope (cellsFrom (t3.heap.objs.size + 1) scope.names (cloFrom X.env.cells scope.names [])) t3.heap.objs.size X.env = be at J4 qg qe ⊢
  have cL : be.locals = t3.heap.objs.size := by subst hbe; rfl
  generalize hH3 : upd G2 D (.lst []) = G3 at J3 J4 qg qe w00 nof fr3
  generalize ht4 : ({ t3 with heap := pushCells (t3.heap.push { cls := .type "dict", data := .dict #[] }) scope.names } : Shared) = t4 at J4 ⊢
  have sf4 : tn 0 t4.heap := T.keep _ _ _ sf3 fun b _ o e => by rw [← ht4]; exact pushCells_keeps _ _ _ _ (Heap.get?_push_of_some _ e)
  have stands : ∀ {σ' : St} {H' : Hp} {s' : Shared}, Inv (X.blk t3 G3 scope be fp) [] σ' H' s' → (∀ b ∈ fp, H' b = none) → ∀ b ∈ fp, FpOk (X.blk t3 G3 scope be fp) [] H' b := fun {σ' H' s'} I' hn b hb =>
    ⟨hn b hb, (I'.ok.exf b hb).1, I'.ok.exfs b hb, .inl hb, fun x c e => (I'.ok.exf b hb).2 x c e, fun p hp => absurd (show p ∈ ([] : List (Addr × Obj)) ++ [] from hp) (by simp)⟩
  have loop : codeAny (model X.prog X.w) X.A (.compLoop (.ListComp elt [⟨tg, iter, [], 0⟩] scope pos) 0 (.ref it) (.ref D) be) (compPost (model X.prog X.w) X.A X.xe use Qf (.ref D) t3.heap.objs.size) t4 := by
    refine compLoop_any (fun n s' => ∃ i H', Inv (X.blk t3 G3 scope be fp) [] (wipe σ (own.map (·.2))) H' s' ∧ tn i s'.heap ∧ (∀ b ∈ fp, H' b = none) ∧ W i n H') ?_ m0 ⟨0, G3, J4, sf4, nof, w00⟩
    rintro n t5 ⟨i, G5, J5, sf5, nn5, w5⟩
    rcases turn i n G5 w5 with ⟨stop, qq⟩ | ⟨go, Nx, hNx, step⟩
    · have tdn := T.done (X.blk t3 G3 scope be fp) rfl rfl rfl hc i [] t5 _ G5 (fun _ _ => False) J5 (stands J5 nn5) sf5 stop
      refine thnF tdn fun r t6 ⟨hr, J6⟩ => ?_
      subst hr
      have J7 : Inv X pins σ G5 t6 := J3.call' (ch := fp) J6.os J6.base J6.hok J6.bare fun b hb => ⟨(fr3 b hb).1.2.2.2.1, (fr3 b hb).1.2.1, (fr3 b hb).1.2.2.2.2.1, (fr3 b hb).1.2.2.2.2.2⟩
      have nC : G5 t3.heap.objs.size = none := by
        have z : G5 be.locals = none := J6.free
        rw [cL] at z
        exact z
      obtain ⟨m, hn, _⟩ := J6.loc
      have hn : t6.heap.Ns be.locals m := hn
      rw [cL] at hn
      exact hRR D t3.heap.objs.size t6 m G5 J7 qq hn (J3.fpOk (Nat.le_refl _) nC)
    · have tit := T.item (X.blk t3 G3 scope be fp) rfl rfl rfl hc i [] t5 _ G5 (fun _ _ => False) J5 (stands J5 nn5) sf5 go
      refine thnF tit fun r t6 ⟨u, hr, h6⟩ => ?_
      subst hr
      refine thnF h6 fun _ t7 ⟨x, G7, J7, r7, y7, sf7, nn7⟩ => ?_
      have J7' := J7.pinned (stands J7 nn7) (T.obj _ _ sf7)
      refine thnF (qg.run _ t7 _ G7 x u _ J7' r7 (step x G7 y7)) fun _ t8 ⟨σ8, G8, J8, hw8, u8⟩ => ?_
      have turned : ∀ {s' : Shared} {H' : Hp}, Inv (X.blk t3 G3 scope be fp) ([] ++ pinsAt fp t7.heap) σ8 H' s' → Nx H' → ∃ m, m < n ∧ ∃ i H', Inv (X.blk t3 G3 scope be fp) [] (wipe σ (own.map (·.2))) H' s' ∧ tn i s'.heap ∧ (∀ b ∈ fp, H' b = none) ∧ W i m H' := fun {s' H'} I' nx => by
        obtain ⟨m', hm, w'⟩ := hNx H' nx
        have pin' : ∀ b ∈ fp, ∀ o, t7.heap.get? b = some o → s'.heap.get? b = some o ∧ H' b = none := fun b hb o e =>
          let z := I'.pin (b, o) (List.mem_append_right _ (List.mem_append_right _ (mem_pinsAt hb e)))
          ⟨z.1, z.2.1⟩
        have hl : (wipe σ (own.map (·.2))).length = σ8.length := by rw [← hw8, wipe_length]
        refine ⟨m', hm, i + 1, H', (I'.unpinned (pins := [])).weak hl (fun j v e => ?_), T.keep _ _ _ sf7 fun b hb o e => (pin' b hb o e).1, fun b hb => ?_, w'⟩
        · rw [← hw8] at e
          exact (wipe_some e).1
        · obtain ⟨o, e, _⟩ := T.obj _ _ sf7 b hb
          exact (pin' b hb o e).2
      simp only [if_true] at u8
      refine thnF ((pts_nil (X := X.blk t3 G3 scope be fp)).run _ t8 σ8 G8 (fun b H' => b = true ∧ H' = G8) J8 ⟨rfl, rfl⟩) fun b t9 ⟨G9, J9, eb, eG⟩ => ?_
      subst eb eG
      simp only [if_true]
      refine thnF (qe.run _ t9 σ8 G9 _ J9 u8) fun z2 t11 ⟨yv, G11, J11, r11, acc, hD11, hz11, nx⟩ => ?_
      exact app_ok (X := X.blk t3 G3 scope be fp) J11 hD11 hz11 r11 fun t12 J12 => turned J12 nx
  exact codeAny_compStart_list loop (T.self X.A 0 _ _ _ sf4 loop)

def rdB (X : Cx) (σ0 : St) (scope : Scope) (elt : Expr) : TE := fun σ' H' Q => ∃ R : V → Hp → Prop, (∀ s Hs C cl fp, GoodB X σ0 Hs s fp → ∀ pins s', Inv (X.blk s Hs scope (compEnvC scope cl C X.env) fp) pins σ' H' s' → wpAny (model X.prog X.w) X.A (eval elt (compEnvC scope cl C X.env)) (EP (X.blk s Hs scope (compEnvC scope cl C X.env) fp) pins σ' R) (fun _ _ => False) s') ∧ ∀ v H2, R v H2 → Q v H2
theorem pe_rdB {σ0 : St} {scope : Scope} {elt : Expr} (s : Shared) (H : Hp) (C : Addr) (cl : List (Str × Addr)) (fp : List Addr) (g : GoodB X σ0 H s fp) : PE (X.blk s H scope (compEnvC scope cl C X.env) fp) elt (rdB X σ0 scope elt) :=
  ⟨fun pins s' σ' H' Q I ⟨R, h, q⟩ => thn (h s H C cl fp g pins s' I) fun u s2 ⟨v, H2, J, r, z⟩ => ⟨v, H2, J, r, q v H2 z⟩⟩
/-- the comprehension at slots σ and heap H -/
theorem run_lcI {pins : List (Addr × Obj)} {s : Shared} {σ : St} {H : Hp} {Q : VK} {elt tg iter : Expr} {scope : Scope} {own : List (Str × Nat)} {pos : Pos} {wi : TI} {g : TG} (I : Inv X pins σ H s) (hc : X.calm = true) (hN : X.N.Nodup) (hi : PI X tg iter wi) (ok : BlkOk X.N X.env.scope scope own)
    (hg : ∀ (s : Shared) (H : Hp) (C : Addr) (cl : List (Str × Addr)) (fp : List Addr), PG (X.blk s H scope (compEnvC scope cl C X.env) fp) tg g) (hs : ∀ x, foldedSetIterable iter X.env x = pure x) (h : tLc wi g (fun _ H Q => Q true H) (rdB X σ scope elt) (own.map (·.2)) σ H Q) :
    wpAny (model X.prog X.w) X.A (eval (.ListComp elt [⟨tg, iter, [], 0⟩] scope pos) X.env) (EP X pins σ Q) X.xe s := by
  rw [eval_ListComp]
  refine lcI_core hc I hN hi ok hg (fun s H C cl fp g => pe_rdB s H C cl fp g) hs h fun D C s' m H' J' q hn f => ⟨m, hn, fun g2 sb => ?_⟩
  obtain ⟨a0, a1, a2, a3, a4, a5⟩ := f
  exact ⟨.ref D, H', J'.turned (t' := s'.toks) (fun b o hb e => (sb.2 b hb).trans e) a0 a1 a3 a4 a5, rfl, q⟩
end
end L2
set_option maxHeartbeats 1000000
/-! A list comprehension that tells its element the maker's state; a kept lambda called within a lambda. -/
namespace Pan
open PySem PySem.Spec PyProof.Rows L2
theorem un_cell {fs ex : List Addr} {H H1 : Hp} {h h1 : Heap} {c : Addr} {x : Option Value} (u : Un fs ex H H1 h h1) (n : H c = none) (hx : c ∉ ex) (hc : h.IsCell c x) : h1.IsCell c x ∧ H1 c = none := by
  obtain ⟨o, ho, hd⟩ := hc
  obtain ⟨sl, e⟩ := u.any ho n hx
  exact ⟨⟨_, e, hd⟩, u.free c o ho n hx⟩
section
variable {T : List (Addr × Str)} {X : Cx} {tg iter elt : Expr} {σ : L2.St} {H : Hp} {pos : Pos} {α : Type} {xs : List α} {R : α → Pr T} {scope : Scope} {own : List (Str × Nat)}
/-- [elt for .. in iter], the elements Ro -/
theorem ex_lcI {g : TG} {Ro : α → V} {Bd : α → L2.St → L2.St → Hp → Prop} (hs : Src T X tg iter σ H bNow xs R) (hl : xs.length ≤ 1000) (hN : X.N.Nodup) (ok : BlkOk X.N X.env.scope scope own)
    (hg : ∀ s H C cl fp, PG (bl X scope s H C cl fp) tg g) (hB : ∀ x v σ' H' Q, (R x).p v H' → (∀ σ2, Bd x σ' σ2 H' → Q σ2 H') → g v σ' H' Q) (hw : ∀ x σ2 H', Bd x (wipe σ (own.map (·.2))) σ2 H' → wipe σ2 (own.map (·.2)) = wipe σ (own.map (·.2)))
    (he : ∀ x σ2 H', x ∈ xs → Gr T H H' → Bd x (wipe σ (own.map (·.2))) σ2 H' → ∀ s Hs C cl fp, GoodB X σ Hs s fp → EX (bl X scope s Hs C cl fp) elt σ2 H' fun v H2 => Gr T H' H2 ∧ v = Ro x)
    (hc : X.calm = true := by rfl) (hf : ∀ x, foldedSetIterable iter X.env x = pure x := by intro _; rfl) : EX X (.ListComp elt [⟨tg, iter, [], 0⟩] scope pos) σ H fun v H2 => Gr T H H2 ∧ ∃ D, v = .ref D ∧ H2 D = some (.lst (xs.map Ro)) := by
  refine EX.of (t := fun σ' H' Q => σ' = σ ∧ H' = H ∧ ∀ v H2, (Gr T H H2 ∧ ∃ D, v = .ref D ∧ H2 D = some (.lst (xs.map Ro))) → Q v H2) ⟨fun pins s σ' H' Q I ⟨e1, e2, r⟩ => ?_⟩ ⟨rfl, rfl, fun _ _ h => h⟩
  subst e1 e2
  refine run_lcI I hc hN hs ok hg hf ⟨rfl, .refl _, fun J H2 Hb g2 hb hw' D hD => ?_⟩
  obtain rfl : Hb = H2 := hb
  refine lc_it (g := g) (tt := fun _ H Q => Q true H) (te := rdB X σ' scope elt) (vs := own.map (·.2)) (σ := σ') (D := D) (Qd := Q (.ref D)) hw' (fun i H3 => i ≤ xs.length ∧ Gr T Hb H3 ∧ H3 D = some (.lst ((xs.take i).map Ro))) ⟨Nat.zero_le _, .new hD, upd_same⟩ (fun i H3 _ p => p.2.1) ?_ fun H3 p => ?_
  · intro i v H3 H4 hi' ⟨_, c1, c2⟩ ⟨g3, x, hx, hv⟩
    have d4 := g3.lst c2
    have gH : Gr T H' H4 := (g2.trans c1).trans g3
    refine hB x v _ H4 _ hv fun σ2 hbd => ⟨hw x σ2 H4 hbd, ?_⟩
    simp only [if_true]
    refine ⟨_, fun s Hs C cl fp good pins s' I => (he x σ2 H4 (List.mem_of_getElem? hx) gH hbd s Hs C cl fp good).run I, fun y H5 ⟨g5, ey⟩ => ?_⟩
    subst ey
    have d5 := g5.lst d4
    have et : xs.take (i + 1) = xs.take i ++ [x] := by rw [List.take_add_one, hx]; rfl
    refine ⟨_, d5, ?_, hi', ((c1.trans g3).trans g5).mut hD (calm_lst d5), ?_⟩
    · rw [List.length_map, List.length_take]
      have : (1000 : Nat) < sizeLine := by decide
      omega
    · rw [et, List.map_append, upd_same]
      rfl
  · obtain ⟨_, c1, c2⟩ := p
    rw [List.take_length] at c2
    exact r _ _ ⟨g2.trans c1, D, rfl, c2⟩
end
section
variable {T : List (Addr × Str)} {X : Cx} {σ σ1 : L2.St} {H : Hp} {pos pos1 : Pos} {scopeC scope0 : Scope} {E : XK} {R : V → Hp → Prop}
/-- a kept lambda of X, called by name within a lambda of a block of X -/
theorem ex_ask {s s' s2 : Shared} {Hs H2 : Hp} {C : Addr} {cl : List (Str × Addr)} {fp : List Addr} {pins1 : List (Addr × Obj)} {A : Around} {outer : List Env} {f0 c0 : Addr} {ia ib j k : Nat} {a b p : Str} {p1 p2 p3 : Pos} {v : V} {params : Arguments} {body : Expr} {scope : Scope} {fi ci : Addr}
    (good : GoodB X σ Hs s fp) (I1 : Inv (bl X scopeC s Hs C cl fp) pins1 σ1 H2 s') (un : Un (frs (bl X scopeC s Hs C cl fp).stack) [] H2 H2 s'.heap s2.heap) (hr : Room (k + 1) (A.deeper (LamX.lamEnv (bl X scopeC s Hs C cl fp) scope0 s2.heap.objs.size f0 c0)))
    (L : LamS1 X.env.scope scope p) (hN : X.N.Nodup) (hj : X.N[j]? = some p) (hbind : ∀ (q : Str) (cl : List (Str × Addr)) (pm cv ctv u : Value), bindArgs (PySem.W.kla_fn "<lambda>" q params body scope cl pm cv ctv) ⟨[u], []⟩ = pure [(p, u)])
    (hf : H2 fi = some (FnO (X.env.qual ++ "<lambda>") (cloFrom X.env.cells scope.names []) params body scope fi ci)) (hc : H2 ci = some (LamX.CodeO ci (X.env.qual ++ "<lambda>")))
    (ha : σ1[ia]? = some (some (.ref fi))) (hb : σ1[ib]? = some (some v)) (hNa : X.N[ia]? = some a) (hNb : X.N[ib]? = some b) (hva : Vis scope0 a) (hvb : Vis scope0 b)
    (hbody : ∀ A' outer' s3, Room k (A'.deeper (LamX.lamEnv X scope s3.heap.objs.size fi ci)) → EX (LamX.lamCx X A' outer' s3 H2 E scope fi ci) body (σ.set j (some v)) H2 R)
    (hda : (a == ("__debug__" : Str)) = false := by decide) (hca : (a == ("__classdict__" : Str)) = false := by decide) (hdb : (b == ("__debug__" : Str)) = false := by decide) (hcb : (b == ("__classdict__" : Str)) = false := by decide) :
    EX (LamX.lamCx (bl X scopeC s Hs C cl fp) A outer s2 H2 E scope0 f0 c0) (.Call (.Name a p1) [.Name b p2] [] p3) σ1 H2 R := by
  obtain ⟨pins, I, hfp⟩ := good
  refine EX.of (t := fun σZ HZ Q => σZ = σ1 ∧ HZ = H2 ∧ ∀ v H', R v H' → Q v H') ⟨fun pinsZ sZ σZ HZ QZ IZ ⟨z1, z2, z3⟩ => ?_⟩ ⟨rfl, rfl, fun _ _ h => h⟩
  subst z1 z2
  refine wpAny_Call_Name_kw (thn ((pe_var (X := LamX.lamCx (bl X scopeC s Hs C cl fp) A outer s2 HZ E scope0 f0 c0) (pos := p1) (i := ia) hNa hva hda hca).run pinsZ sZ _ HZ (fun v H3 => v = .ref fi ∧ H3 = HZ) IZ ⟨.ref fi, ha, rfl, rfl⟩) fun u2 s3 ⟨v2, H3, I2, r2, ev, eH⟩ => ?_)
  subst ev eH
  obtain rfl : u2 = Value.ref fi := r2
  obtain ⟨⟨pm', ctv', of2⟩, _, _⟩ := I2.hok fi _ hf
  refine PySem.W.callWith_F ⟨_, _, _, _, of2⟩ (Calls.spliced_cons (thn ((pe_var (X := LamX.lamCx (bl X scopeC s Hs C cl fp) A outer s2 H3 E scope0 f0 c0) (pos := p2) (i := ib) hNb hvb hdb hcb).run pinsZ s3 _ H3 (fun w H4 => w = v ∧ H4 = H3) I2 ⟨v, hb, rfl, rfl⟩) fun u3 s4 ⟨v3, H4, I3, r3, ev3, eH3⟩ => Calls.spliced_nil ?_)) (by rfl) (by rfl)
  subst ev3 eH3
  obtain ⟨⟨pm2, ctv2, of3⟩, _, _⟩ := I3.hok fi _ hf
  refine ⟨⟨_, _, _, _, of3⟩, ?_⟩
  have keep : ∀ (c : Addr) (x : Option Value), (∃ y, X.env.cells.lookup y = some c) → s.heap.IsCell c x → s4.heap.IsCell c x ∧ H4 c = none := fun c x ⟨y, hy⟩ hcell => by
    have n0 := I.freeC y c hy
    have k1 := un_cell I1.base n0 (fun hm => (hfp c hm).2.2.2.2.1 y c hy rfl) hcell
    have k2 := un_cell un k1.2 (fun z => nomatch z) k1.1
    exact un_cell I3.base k2.2 (fun z => nomatch (show c ∈ ([] : List Addr) from z)) k2.1
  have call := lam1_call (A := (LamX.lamCx (bl X scopeC s Hs C cl fp) A outer s2 H4 E scope0 f0 c0).A) (outer := (LamX.lamCx (bl X scopeC s Hs C cl fp) A outer s2 H4 E scope0 f0 c0).stack) (E := E) (Q := R) I L hN hj r3 I3.env0 hr keep hf hc I3.nolimit (fun pm ctv => hbind _ _ _ _ _ _) (fun hroom => hbody _ _ s4 hroom) ⟨rfl, rfl, fun _ _ h => h⟩
  refine wpAny_call (codeAny_mono call fun r s5 hq => ?_)
  cases r with
  | error e => exact passes_call (takes_of (X := LamX.lamCx (bl X scopeC s Hs C cl fp) A outer s2 H4 E scope0 f0 c0) rfl rfl rfl rfl) (fun _ _ _ _ h => h) pinsZ _ H4 s4 e s5 I3 hq
  | ok fl =>
    cases fl with
    | ret u4 =>
      obtain ⟨v4, H5, os, bare, un3, hok, rv3, q3⟩ := hq
      exact I3.after ⟨v4, H5, os, bare, un3, hok, rv3, z3 _ _ q3⟩
    | next => exact False.elim hq
    | brk => exact False.elim hq
    | cont => exact False.elim hq
end
end Pan
set_option maxHeartbeats 1000000
/-! The law's numbers and rows. -/
namespace Pan
open PySem PySem.Spec PyProof.Rows L2
section
variable {T : List (Addr × Str)} {X : Cx} {e a b : Expr} {σ : L2.St} {H : Hp} {pos p1 : Pos} {i : Int} {α : Type} {R : α → Pr T} {xs ys : List α}
theorem ee_conv {x : Str} (hm : X.mg x = none) (ha : EE T X a σ H (intP i)) (hv : bootBuiltins x = some (.type "int") := by decide +kernel) (hg : Gl X x := by rfl) (hn : x ≠ "__name__" := by decide) (hdb : (x == ("__debug__" : Str)) = false := by decide)
    (he : starEach [a] X.env = (false, eval a X.env) :: starEach [] X.env := by rfl) : EE T X (.Call (.Name x p1) [a] [] pos) σ H (intP i) :=
  ee_type call_int1 hm hv (ea_cons ha ea_nil he) (fun vs H1 _ hs Q z => by
    obtain ⟨v, rfl, h⟩ := sat1 hs
    exact .inl ⟨i, congrArg (fun y => [y]) h, z _ H1 (.refl _) rfl⟩) hg hn hdb he
theorem ee_sum {x : Str} {ns : List Int} (hm : X.mg x = none) (ha : EE T X a σ H (lstP X.K intP ns)) (hc : X.calm = true := by rfl) (hv : bootBuiltins x = some (.builtin "sum") := by decide +kernel) (hg : Gl X x := by rfl) (hn : x ≠ "__name__" := by decide) (hdb : (x == ("__debug__" : Str)) = false := by decide)
    (he : starEach [a] X.env = (false, eval a X.env) :: starEach [] X.env := by rfl) : EE T X (.Call (.Name x p1) [a] [] pos) σ H (intP ns.sum) :=
  ee_bltn (cr_sum hc) hm hv (ea_cons ha ea_nil he) (fun vs H1 g hs Q z => by
    obtain ⟨v, rfl, l, us, rfl, h1, h2⟩ := sat1 hs
    exact ⟨l, ns, rfl, by rw [← ints_all h2]; exact h1, z _ H1 (.refl _) rfl⟩) hg hn hdb he
/-- a list that is tracked itself -/
def lxP {α : Type} (R : α → Pr T) (xs : List α) : Pr T := ⟨fun v H => ∃ l vs, v = .ref l ∧ H l = some (.lst vs) ∧ All2 R vs xs H, fun _ _ _ g ⟨l, vs, e, h, k⟩ => ⟨l, vs, e, g.lst h, k.st g⟩⟩
theorem lxP.l {K : PySem.W.Frag} {v : V} (h : (lxP R xs).p v H) : (lstP K R xs).p v H := let ⟨l, vs, e, h1, h2⟩ := h; ⟨l, vs, e, .inl (.inl h1), h2⟩
theorem EE.lx (h : EE T X e σ H (lxP R xs)) : EE T X e σ H (lstP X.K R xs) := EE.imp h fun _ _ _ h => lxP.l h
theorem NewL.lx {S : List V → Hp → Prop} (h : NewL T X e σ H S) (q : ∀ vs H1, Gr T H H1 → S vs H1 → All2 R vs xs H1) : EE T X e σ H (lxP R xs) :=
  ⟨fun pins s σ' H1 Q I ⟨e1, g, r⟩ => by
    rw [e1] at I ⊢
    exact h.run pins s σ H1 Q I ⟨rfl, g, fun p vs H2 g2 hn hp hS => r _ H2 g2 ⟨p, vs, rfl, hp, (q vs _ ((g.trans g2).toDel (g.old p hn) hp trivial) hS).st .del⟩⟩⟩
theorem ee_cat (hl : xs.length + ys.length ≤ 1000) (ha : EE T X a σ H (lxP R xs)) (hb : EE T X b σ H (lxP R ys)) : EE T X (.BinOp a .Add b pos) σ H (lxP R (xs ++ ys)) :=
  ee_op op_cat ha hb fun x y H1 _ hx hy Q z => by
    obtain ⟨l, vs, rfl, h1, h2⟩ := hx
    obtain ⟨l', us, rfl, h3, h4⟩ := hy
    refine ⟨l, l', vs, us, rfl, rfl, h1, h3, ?_, fun p hp => z _ _ (.new hp) ⟨p, _, rfl, upd_same, (h2.app h4).st (.new hp)⟩⟩
    rw [h2.length, h4.length]
    exact Nat.le_trans hl (by decide)
/-- r + (n,) -/
theorem ee_catOne {r : List Int} {n : Int} (hl : r.length ≤ 900) (ha : EE T X a σ H (itX T X.K r)) (hb : EE T X b σ H (itX T X.K [n])) : EE T X (.BinOp a .Add b pos) σ H (itX T X.K (r ++ [n])) :=
  ee_op op_catA ha hb fun x y H1 _ hx hy Q z => by
    obtain ⟨_, l, rfl, h1⟩ := hx
    obtain ⟨_, l', rfl, h3⟩ := hy
    refine ⟨l, l', r.map V.int, [V.int n], rfl, rfl, SqT.of h1, SqT.of h3, ?_, fun h0 => ?_, fun _ h => (nomatch h), fun _ _ p hp => z _ _ (.new hp) ?_⟩
    · rw [List.length_map]
      show r.length + 1 ≤ sizeLine
      have : (1000 : Nat) < sizeLine := by decide
      omega
    · have : r = [] := List.map_eq_nil_iff.mp h0
      exact z _ _ (.refl _) (by rw [this]; exact itX_of h3 (all_ints [n]))
    · have e : r.map V.int ++ [V.int n] = (r ++ [n]).map V.int := by simp
      rw [e]
      exact itX_of upd_same (all_ints _)
theorem ee_oneX {n : Int} {z : Nat} (ha : EE T X a σ H (intP n)) (hs : starEach [a] X.env = (false, eval a X.env) :: starEach [] X.env := by rfl) : EE T X (.Tuple [a] z pos) σ H (itX T X.K [n]) :=
  ee_tup (ea_cons ha ea_nil hs) fun vs H1 p _ hv hp => by
    obtain ⟨x, rfl, hx⟩ := sat1 hv
    obtain rfl : x = V.int n := hx
    exact itX_of hp (all_ints [n])
end
section
variable {T : List (Addr × Str)} {P : Program} {w : World} {K : PySem.W.Frag} {mg : Str → Option Value} {base : Heap}
def spNum (T : List (Addr × Str)) (K : PySem.W.Frag) : Sp := fun vs H Q _ => ∃ (a : Addr) (ns : List Int) (i : Int), vs = [.ref a, .int i] ∧ SqL K H a (ns.map V.int) ∧ ns.length ≤ 63 ∧ ∀ (n : Int) H', Gr T H H' → Q (.int n) H'
theorem scNum : FnScope ["_law_script", "_law_index", "_law_cells", "_law_cell", "_law_low", "_law_high", "_law_whole", "_law_blend"] ["_law_script", "_law_index"] (defScope (top 51)) := ⟨rfl, rfl, rfl, by decide +kernel, rfl, by decide +kernel, by decide +kernel⟩
theorem ok_law_number (W : Wd K mg) : FnR P w K mg base CX0 1 (He.ga K "_law_number") (spNum T K) := by
  obtain ⟨fd, F⟩ := W.d_g_law_number
  have b : Binds K fd ["_law_script", "_law_index"] [] := F.bindsN fun _ _ _ _ _ _ us hl => match us, hl with | [_, _], _ => rfl
  refine fn_any (T := T) F scNum b (fun vs H Q E ⟨a, ns, i, e, _⟩ => by rw [e]; rfl) fun cdv A outer s H vs Q E hr ⟨a, ns, i, e, hsq, hl, hQ⟩ => ?_
  subst e
  obtain ⟨cells, hcd⟩ : ∃ cells, cells = if ns = [] then [5] else ns.take 63 := ⟨_, rfl⟩
  have hc1 : 1 ≤ cells.length ∧ cells.length ≤ 63 := by
    rw [hcd]
    split
    · exact ⟨Nat.le_refl _, by decide⟩
    · rename_i h
      rw [List.length_take]
      have := List.length_pos_iff.mpr h
      omega
  refine ss_set 2 (P := lstP K intP cells) (ee_if (t := !decide (ns = [])) (ET.cast (et_neD (k := 1) (k2 := 1) hr (Dat.lst (R := intP) (f := fun i : Int => .int i) fun i _ => Dat.int i) (Dat.lst (R := intP) (xs := []) (f := fun i : Int => .int i) fun i _ => Dat.int i) (ee_var 0 rfl (show (lstP K intP ns).p (.ref a) H from ⟨a, _, rfl, hsq, all_ints ns⟩)) (ee_new (nl_lst ea_nil) fun p vs H2 g hp hS => ?_)) ?_) (fun ht => ?_) fun hf => ?_) scNum.nd fun cv H1 g1 hcv => ?_
  · cases vs with
    | nil => exact ⟨p, [], rfl, .inl (.inl hp), trivial⟩
    | cons _ _ => exact hS.elim
  · cases ns <;> simp [PyData.eqv, PyData.eqvAll]
  · have hne : ¬ ns = [] := by simpa using ht
    rw [if_neg hne] at hcd
    rw [hcd]
    exact ee_cutHi 63 (ee_var 0 rfl (show (lstP K intP ns).p (.ref a) H from ⟨a, _, rfl, hsq, all_ints ns⟩)) ee_int
  · have hne : ns = [] := by simpa using hf
    rw [if_pos hne] at hcd
    rw [hcd]
    exact NewL.l (nl_lst (ea_cons (ee_int (n := 5)) ea_nil)) fun vs H1 _ hS => by
      obtain ⟨v, rfl, hv⟩ := sat1 hS
      exact ⟨hv, trivial⟩
  have hm0 : 0 ≤ i % (cells.length : Int) := Int.emod_nonneg _ (by omega)
  have hm1 : i % (cells.length : Int) < (cells.length : Int) := Int.emod_lt_of_pos _ (by omega)
  refine ss_set 3 (ee_add (ee_ixL (R := intP) (xs := cells) (i % (cells.length : Int)).toNat (getD_some (d := 0) (by omega)) (ee_var 2 rfl hcv) (EE.cast (ee_mod (by omega) (ee_conv W.f_int (ee_var 1 rfl (show V.int i = V.int i from rfl))) (ee_lenL (R := intP) (xs := cells) W.f_len (ee_var 2 rfl hcv))) (by rw [Int.toNat_of_nonneg hm0]))) (ee_mul (.inl (by decide)) ee_int (ee_div ⟨by omega, by omega⟩ (ee_var 1 rfl (show V.int i = V.int i from rfl)) (ee_lenL (R := intP) (xs := cells) W.f_len (ee_var 2 rfl hcv))))) scNum.nd fun v3 H2 g2 h3 => ?_
  refine ss_par 4 5 (ee_mod (by decide) (ee_conv W.f_int (ee_var 3 rfl h3)) ee_int) (ee_mod (by decide) (ee_conv W.f_int (ee_div ⟨by decide, by decide⟩ (ee_var 3 rfl h3) ee_int)) ee_int) scNum.nd fun v4 v5 H3 g3 h4 h5 => ?_
  have hcv3 := (lstP K intP cells).st _ _ _ (g2.trans g3) hcv
  refine ss_set 6 (ee_mod (by decide) (ee_conv W.f_int (ee_sum W.f_sum (ee_var 2 rfl hcv3))) ee_int) scNum.nd fun v6 H4 g4 h6 => ?_
  refine ss_set 7 (ee_mod (by decide) (ee_conv W.f_int (ee_add (ee_add (ee_mul (.inr (by decide)) (ee_add (ee_var 4 rfl ((intP _).st _ _ _ g4 h4)) (ee_mul (.inl (by decide)) ee_int (ee_var 1 rfl (show V.int i = V.int i from rfl)))) ee_int) (ee_mul (.inl (by decide)) ee_int (ee_var 5 rfl ((intP _).st _ _ _ g4 h5)))) (ee_var 6 rfl h6))) ee_int) scNum.nd fun v7 H5 g5 h7 => ?_
  refine ss_ret (ee_add (ee_mul (.inr (by decide)) (ee_mod (by decide) (ee_conv W.f_int (ee_mul (.inl ?_) (ee_var 7 rfl h7) (ee_add (ee_add (ee_var 7 rfl h7) (ee_mul (.inl (by decide)) ee_int (ee_var 1 rfl (show V.int i = V.int i from rfl)))) ee_int))) ee_int) ee_int) (ee_var 5 rfl ((intP _).st _ _ _ (g4.trans g5) h5))) fun v H6 g6 hv => by
    obtain rfl := hv
    exact hQ _ H6 (((((g1.trans g2).trans g3).trans g4).trans g5).trans g6)
  have h0 : ∀ z : Int, 0 ≤ z % 2147483647 ∧ z % 2147483647 < 2147483647 := fun z => ⟨Int.emod_nonneg _ (by decide), Int.emod_lt_of_pos _ (by decide)⟩
  constructor
  · exact Int.lt_of_lt_of_le (by decide) (h0 _).1
  · exact Int.lt_trans (h0 _).2 (by decide)
end
end Pan
set_option maxHeartbeats 1000000
/-! _law_rows, _law_keeps. -/
namespace Pan
open PySem PySem.Spec PyProof.Rows L2
section
variable {T : List (Addr × Str)} {P : Program} {w : World} {K : PySem.W.Frag} {mg : Str → Option Value} {base : Heap}
def spRowsL (T : List (Addr × Str)) (K : PySem.W.Frag) : Sp := prom T (fun qs : List (List (Int × Int)) => qs.length ≤ 3 ∧ ∀ q ∈ qs, q.length ≤ 3) (fun qs => [lstP K (fun q : List (Int × Int) => intP (q.length : Int)) qs]) fun qs => lstP K (itX T K) (rowsOfM qs)
theorem scRowsL : FnScope ["_law_sizes", "_law_found", "_law_size", "_law_longer", "_law_row", "_law_value"] ["_law_sizes"] (defScope (top 53)) := ⟨rfl, rfl, rfl, by decide +kernel, rfl, by decide +kernel, by decide +kernel⟩
theorem ok_law_rows (W : Wd K mg) : FnR P w K mg base CX0 1 (He.ga K "_law_rows") (spRowsL T K) := by
  obtain ⟨fd, F⟩ := W.d_g_law_rows
  have b : Binds K fd ["_law_sizes"] [] := F.bindsN fun _ _ _ _ _ _ us hl => match us, hl with | [_], _ => rfl
  refine fn_prom F scRowsL b (fun _ => rfl) fun cdv A outer s H vs E qs D hr ⟨lq, l3⟩ hs q _ => ?_
  obtain ⟨x, rfl, h1⟩ := sat1 hs
  refine ss_set 1 unitL scRowsL.nd fun f H1 g1 hf => ?_
  refine ss_for 2 (src_list (ee_var 0 rfl ((lstP K (fun q : List (Int × Int) => intP (q.length : Int)) qs).st _ _ _ g1 h1))) PassesOwn.never scRowsL.nd (fun i σ' H' => ∃ f u2 u3 u4, σ' = [some x, some f, u2, u3, u4, none] ∧ (lstP K (itX T K) (rowsOfM (qs.take i))).p f H') (fun H2 g => ⟨f, none, none, none, rfl, (lstP K (itX T K) [[]]).st _ _ _ g hf⟩) ?_ ?_
  · rintro i qi v σ' H' H3 hqs ⟨f', u2, u3, u4, rfl, hf'⟩ g2 g3 hv
    obtain rfl : v = V.int (qi.length : Int) := hv
    have hi : i < qs.length := (List.getElem?_eq_some_iff.mp hqs).1
    have hl3 := l3 qi (List.mem_of_getElem? hqs)
    obtain ⟨b1, b2⟩ := rows_len i (Nat.le_of_lt hi) l3
    have b3 : 3 ^ i ≤ 3 ^ 2 := Nat.pow_le_pow_right (by omega) (by omega)
    have hf3 := (lstP K (itX T K) (rowsOfM (qs.take i))).st _ _ _ g3 hf'
    generalize hfd : rowsOfM (qs.take i) = found at b1 b2 hf3
    refine ss_set 3 (NewL.lx (R := itX T K) (xs := []) (nl_lst ea_nil) fun vs H4 _ hS => ?_) scRowsL.nd fun lg H4 g4 hlg => ?_
    · cases vs with
      | nil => trivial
      | cons _ _ => exact hS.elim
    refine ss_for 4 (src_list (R := itX T K) (ee_var 1 rfl ((lstP K (itX T K) found).st _ _ _ g4 hf3))) PassesOwn.never scRowsL.nd (fun j σ' H' => ∃ lg u, σ' = [some x, some f', some (.int (qi.length : Int)), some lg, u, none] ∧ (lxP (itX T K) (stepRows (found.take j) qi)).p lg H') (fun H5 g5 => ⟨lg, _, rfl, (lxP (itX T K) []).st _ _ _ g5 hlg⟩) ?_ ?_
    · rintro j r v σ' H5 H6 hr' ⟨lg', u, rfl, hlg'⟩ g5 g6 hv
      have hrm := List.mem_of_getElem? hr'
      have hjl : j < found.length := (List.getElem?_eq_some_iff.mp hr').1
      have ls : (stepRows (found.take j) qi).length ≤ (found.take j).length * 3 := (step_len (m := (found.take j).length) (k := i) hl3 ⟨Nat.le_refl _, fun r hr => b2 r (List.mem_of_mem_take hr)⟩).1
      rw [List.length_take] at ls
      have e27 : (3 : Nat) ^ 2 = 9 := rfl
      refine ss_set 3 (P := lxP (itX T K) (stepRows (found.take (j + 1)) qi)) (EE.imp (ee_cat (R := itX T K) (xs := stepRows (found.take j) qi) (ys := (List.range qi.length).map fun n : Nat => r ++ [(n : Int)]) (by rw [List.length_map, List.length_range]; omega) (ee_var 3 rfl ((lxP (itX T K) _).st _ _ _ g6 hlg')) (NewL.lx (NewC.nl (EC.nc (ec_lc 5 scRowsL (Ro := fun n : Nat => itX T K (r ++ [(n : Int)])) (src_range (m := (qi.length : Int)) W.f_range (ee_var 2 rfl rfl) (by omega)) (by rw [List.length_range]; show qi.length ≤ 1000; omega)
        fun n v' H7 _ g7 hv' s' Hb C cl fp => ee_catOne (by rw [b2 r hrm]; omega) (ee_var 4 rfl ((itX T K r).st _ _ _ g7 hv)) (ee_oneX (ee_var 5 rfl hv'))))) fun vs H7 _ h => All2.map h)) fun v7 H7 _ h => ?_) scRowsL.nd fun lg2 H7 g7 hlg2 => ss_nil (T := T) ⟨g7, lg2, some v, rfl, hlg2⟩
      rw [take_snoc hr']
      unfold stepRows at h ⊢
      rw [List.flatMap_append]
      simpa using h
    · rintro σ' H5 g5 ⟨lg', u, rfl, hlg'⟩
      rw [List.take_length] at hlg'
      refine ss_set 1 (ee_var 3 rfl hlg') scRowsL.nd fun f2 H6 g6 hf2 => ss_nil (T := T) ⟨(g4.trans g5).trans g6, f2, _, _, _, rfl, ?_⟩
      rw [take_snoc hqs]
      unfold rowsOfM at hfd ⊢
      rw [List.foldl_append, hfd]
      exact lxP.l hf2
  · rintro σ' H' g ⟨f', u2, u3, u4, rfl, hf'⟩
    rw [List.take_length] at hf'
    exact ss_ret (ee_var 1 rfl hf') fun v H2 g2 hv => q v H2 ((g1.trans g).trans g2) hv
def okKL (a : List (List (Int × Int)) × List (List Int)) : Prop := a.2.length ≤ 8 ∧ (∀ r ∈ a.2, r.length = a.1.length) ∧ a.1.length ≤ 3 ∧ ∀ q ∈ a.1, q.length ≤ 3
def spKL (T : List (Addr × Str)) (K : PySem.W.Frag) : Sp := prom T okKL (fun a => [quosP T K a.1, lstP K (itX T K) a.2]) fun a => eqP (.bl (keepsM a.2 a.1 (allI a.2.length)))
theorem scKL : FnScope ["_law_quotas", "_law_people", "_law_trait", "_law_row", "_law_value", "_law_low", "_law_high", "_law_own"] ["_law_quotas", "_law_people"] (defScope (top 54)) := ⟨rfl, rfl, rfl, by decide +kernel, rfl, by decide +kernel, by decide +kernel⟩
theorem spots_row {qs : List (List (Int × Int))} {t v : Nat} (h1 : t < qs.length) (h2 : v < (qs.getD t []).length) : (t, v) ∈ spotsM qs := by
  unfold spotsM
  refine List.mem_flatMap.mpr ⟨(qs.getD t [], t), List.mem_of_getElem? (i := t) (by simp [h1]), List.mem_map.mpr ⟨v, List.mem_range.mpr h2, rfl⟩⟩
theorem spots_of_all {qs : List (List (Int × Int))} {f : Nat × Nat → Bool} (h : ∀ t v, t < qs.length → v < (qs.getD t []).length → f (t, v) = true) : (spotsM qs).all f = true := by
  rw [List.all_eq_true]
  intro s hs
  obtain ⟨m1, m2⟩ := spots_mem hs
  exact h s.1 s.2 m1 m2
theorem ok_law_keeps (W : Wd K mg) : FnR P w K mg base CX0 1 (He.ga K "_law_keeps") (spKL T K) := by
  obtain ⟨fd, F⟩ := W.d_g_law_keeps
  have b : Binds K fd ["_law_quotas", "_law_people"] [] := F.bindsN fun _ _ _ _ _ _ us hl => match us, hl with | [_, _], _ => rfl
  refine fn_prom F scKL b (fun _ => rfl) fun cdv A outer s H vs E a D hr ⟨hl8, hlr, hl3, hq3⟩ hs q _ => ?_
  obtain ⟨qs, rs⟩ := a
  obtain ⟨x, y, rfl, h1, h2⟩ := sat2 hs
  have hlr : ∀ r ∈ rs, r.length = qs.length := hlr
  refine ss_for2 2 3 (P1 := fun qi : List (Int × Int) × Nat => intP (qi.2 : Int)) (P2 := fun qi : List (Int × Int) × Nat => quoP T K qi.1) (src_enumT (R := quoP T K) (xs := qs) W.f_enumerate (ee_var 0 rfl h1)) PassesOwn.never scKL.nd
    (fun i σ' H' => (∃ u1 u2 u3 u4 u5, σ' = [some x, some y, u1, u2, u3, u4, u5, none]) ∧ ∀ t v, t < i → v < (qs.getD t []).length → spotM rs qs (allI rs.length) (t, v) = true) (fun H2 g => ⟨⟨_, _, _, _, _, rfl⟩, fun t v h => absurd h (Nat.not_lt_zero _)⟩) ?_ ?_
  · rintro i ⟨qi, i'⟩ v v' σ' H' H3 hqi ⟨⟨u1, u2, u3, u4, u5, rfl⟩, hall⟩ g1 g2 hv hv'
    have hil : i < qs.length := by
      have := (List.getElem?_eq_some_iff.mp hqi).1
      rwa [List.length_zipIdx] at this
    have eqi : (qi, i') = (qs[i], i) := by
      have h := zipIdx_at (List.getElem?_eq_getElem hil)
      rw [hqi] at h
      exact Option.some.inj h
    obtain ⟨rfl, rfl⟩ := Prod.mk.inj eqi
    obtain rfl : v = V.int (i' : Int) := hv
    have hv' : (quoP T K qs[i']).p v' H3 := hv'
    have eD : qs.getD i' [] = qs[i'] := by simp [List.getD, hil]
    have gg := g1.trans g2
    refine ss_for_core (g := gTup K 2 (gCons (gName 4) (gCons (gTup K 2 (gCons (gName 5) (gCons (gName 6) gNil))) gNil))) (src_enumT (R := frP K) (xs := qs[i']) W.f_enumerate (ee_var 3 rfl hv')) (pg_tup rfl (pgs_cons (pg_name scKL.nd rfl (by first | exact Or.inl rfl | exact Or.inr rfl) (.inl rfl)) (pgs_cons (pg_tup rfl (pgs_cons (pg_name scKL.nd rfl (.inl rfl) (.inl rfl)) (pgs_cons (pg_name scKL.nd rfl (.inl rfl) (.inl rfl)) pgs_nil rfl) rfl) rfl rfl) pgs_nil rfl) rfl) rfl rfl) PassesOwn.never rfl
      (fun Hb j σ' H' => Gr T Hb H' ∧ Gr T H3 H' ∧ (∃ u3 u4 u5, σ' = [some x, some y, some (.int (i' : Int)), some v', u3, u4, u5, none]) ∧ ∀ v, v < j → spotM rs qs (allI rs.length) (i', v) = true) (fun _ _ _ _ h => h.1) (fun Hb Hx g e => by
        obtain rfl : Hb = Hx := e
        exact ⟨.refl _, g, ⟨_, _, _, rfl⟩, fun v h => absurd h (Nat.not_lt_zero _)⟩) ?_ ?_ (by intro _; rfl)
    · rintro Hb j ⟨lh, j'⟩ w σ' H4 H5 hj ⟨gb, g4, ⟨u3', u4', u5', rfl⟩, hall2⟩ g5 hw
      have hjl : j < qs[i'].length := by
        have := (List.getElem?_eq_some_iff.mp hj).1
        rwa [List.length_zipIdx] at this
      have ej : (lh, j') = (qs[i'][j], j) := by
        have h := zipIdx_at (List.getElem?_eq_getElem hjl)
        rw [hj] at h
        exact Option.some.inj h
      obtain ⟨e1, rfl⟩ := Prod.mk.inj ej
      subst e1
      obtain ⟨ta, tx, ty, rfl, ts, hx, hy⟩ := hw
      obtain rfl : tx = V.int (j' : Int) := hx
      obtain ⟨tb, us, rfl, ts2, hu⟩ := hy
      have eu := ints_all hu
      subst eu
      refine ⟨ta, _, rfl, ts, rfl, _, _, rfl, _, _, rfl, ⟨tb, _, rfl, ts2, rfl, _, _, rfl, _, _, rfl, rfl, rfl, ?_⟩⟩
      have g45 := g4.trans g5
      have gy := (lstP K (itX T K) rs).st _ _ _ (gg.trans g45) h2
      refine ss_when (et_not (et_chainLe (ee_var (P := intP (qs[i'][j'].1)) 5 rfl rfl) (ee_lenL (R := itX T K) W.f_len (EC.ee (ec_lcIf 7 scKL (Ro := itX T K) (keep := fun r : List Int => decide (r.getD i' 0 = (j' : Int))) (src_list (R := itX T K) (ee_var 1 rfl gy)) (by show rs.length ≤ 1000; have : rs.length ≤ 8 := hl8; omega) (fun r v5 H6 hrm g6 hv5 s' Hb' C cl fp => ?_) fun r v5 H6 _ _ g6 hv5 s' Hb' C cl fp => ee_var 7 rfl hv5))) (ee_var (P := intP (qs[i'][j'].2)) 6 rfl rfl))) (fun ht H6 g6 => ?_) fun hf H6 g6 => ?_
      · have hlen : i' < r.length := by rw [hlr r hrm]; exact hil
        exact ET.cast (et_eqS (x := V.int (r.getD i' 0)) (y := V.int (j' : Int)) rfl (ee_ixT (R := intP) (xs := r) i' (getD_some hlen) (EE.imp (ee_var 7 rfl hv5) fun _ _ _ h => h.1) (ee_var 2 rfl rfl)) (ee_var 4 rfl rfl)) (by
          by_cases h : r.getD i' 0 = (j' : Int)
          · rw [h]; simp
          · simp [h])
      · refine ss_ret (P := eqP (.bl (keepsM rs qs (allI rs.length)))) (EE.cast ee_bl ?_) fun v6 H7 g7 hv7 => q v6 H7 (((gg.trans g45).trans g6).trans g7) hv7
        have hsp : spotM rs qs (allI rs.length) (i', j') = false := by
          unfold spotM
          rw [count_all]
          simp only [eD]
          rw [show qs[i'].getD j' (0, 0) = qs[i'][j'] by simp [List.getD, hjl]]
          rw [Bool.not_eq_true'] at ht
          exact ht
        have : keepsM rs qs (allI rs.length) = false := by
          unfold keepsM
          rw [List.all_eq_false]
          exact ⟨(i', j'), spots_row hil (by rw [eD]; exact hjl), by rw [hsp]; simp⟩
        rw [this]
      · refine ss_nil (T := T) ⟨(gb.trans g5).trans g6, g45.trans g6, ⟨_, _, _, rfl⟩, fun v hv => ?_⟩
        by_cases hvj : v < j'
        · exact hall2 v hvj
        · have : v = j' := by omega
          subst this
          unfold spotM
          rw [count_all]
          simp only [eD]
          rw [show qs[i'].getD v (0, 0) = qs[i'][v] by simp [List.getD, hjl]]
          rw [Bool.not_eq_false'] at hf
          exact hf
    · rintro Hb σ' H4 ⟨_, g4, ⟨u3', u4', u5', rfl⟩, hall2⟩
      rw [List.length_zipIdx] at hall2
      refine ss_nil (T := T) ⟨g4, ⟨_, _, _, _, _, rfl⟩, fun t v ht hv => ?_⟩
      by_cases h : t < i'
      · exact hall t v h hv
      · have : t = i' := by omega
        subst this
        rw [eD] at hv
        exact hall2 v hv
  · rintro σ' H' g ⟨⟨u1, u2, u3, u4, u5, rfl⟩, hall⟩
    rw [List.length_zipIdx] at hall
    refine ss_ret ee_bl fun v H6 g6 hv => q v H6 (g.trans g6) ?_
    have : keepsM rs qs (allI rs.length) = true := spots_of_all hall
    show v = V.bl (keepsM rs qs (allI rs.length))
    rw [this]
    exact hv
end
end Pan
set_option maxHeartbeats 2000000
/-! _law_drawn. -/
namespace Pan
open PySem PySem.Spec PyProof.Rows L2
/-! ### plain -/
theorem mn_le (i j : Int) : (if j < i then j else i) ≤ i ∧ (if j < i then j else i) ≤ j ∧ ((if j < i then j else i) = i ∨ (if j < i then j else i) = j) := by
  split <;> refine ⟨by omega, by omega, ?_⟩ <;> simp
theorem mx_ge (i j : Int) : i ≤ (if j > i then j else i) ∧ j ≤ (if j > i then j else i) ∧ ((if j > i then j else i) = i ∨ (if j > i then j else i) = j) := by
  split <;> refine ⟨by omega, by omega, ?_⟩ <;> simp
section
variable {T : List (Addr × Str)} {X : Cx} {e a b : Expr} {σ : L2.St} {H : Hp} {pos p1 : Pos} {rest : List Stmt} {D : Ends}
/-- x, y = [], [] -/
theorem ss_par2n {x y : Str} {kt k2 : Nat} {px py pt pt2 q1 q2 : Pos} (n m : Nat) (hN : X.N.Nodup) (q : ∀ l1 l2 H', H l1 = none → H l2 = none → l1 ≠ l2 → Gr T H H' → H' l1 = some (.lst []) → H' l2 = some (.lst []) → SS T X rest ((σ.set n (some (.ref l1))).set m (some (.ref l2))) H' D)
    (hc : X.calm = true := by rfl) (hi : X.N[n]? = some x := by rfl) (hj : X.N[m]? = some y := by rfl) (hij : n ≠ m := by decide) (hx : X.env.scope.names.lookup x = some .local := by rfl) (hy : X.env.scope.names.lookup y = some .local := by rfl)
    (hw : swappedStores [.Tuple [.Name x px, .Name y py] kt pt] (.Tuple [.List [] q1, .List [] q2] k2 pt2) X.env = pure (some [x, y]) := by rfl) (hs : swapsWithSole [.Tuple [.Name x px, .Name y py] kt pt] (.Tuple [.List [] q1, .List [] q2] k2 pt2) pos.line X.env = pure false := by rfl)
    (he : starEach [.List [] q1, .List [] q2] X.env = (false, eval (.List [] q1) X.env) :: starEach [.List [] q2] X.env := by rfl) (he2 : starEach [.List [] q2] X.env = (false, eval (.List [] q2) X.env) :: starEach [] X.env := by rfl) :
    SS T X (.Assign [.Tuple [.Name x px, .Name y py] kt pt] (.Tuple [.List [] q1, .List [] q2] k2 pt2) pos :: rest) σ H D :=
  ss_cons (S1.of (ps_par hc hN hi hj hij hx hy (pa_cons (pe_lst pa_nil) (pa_cons (pe_lst pa_nil) pa_nil he2) he) hw hs) ⟨Nat.zero_le _, fun l1 h1 => ⟨Nat.zero_le _, fun l2 h2 => ⟨.ref l1, .ref l2, rfl, by
    have ne : l1 ≠ l2 := fun e => by rw [← e, upd_same] at h2; exact nomatch h2
    exact q l1 l2 _ h1 (by rwa [upd_ne ne.symm] at h2) ne ((Gr.new h1).trans (.new h2)) (by rw [upd_ne ne, upd_same]) upd_same⟩⟩⟩)
/-- two lists being filled -/
structure Fil (T : List (Addr × Str)) {α β : Type} (R : α → Pr T) (S : β → Pr T) (B : Hp) (l1 l2 : Addr) (xs : List α) (ys : List β) (H : Hp) : Prop where
  ne : l1 ≠ l2
  b1 : B l1 = none
  b2 : B l2 = none
  gr : Gr T B (cut H [l1, l2])
  lists : ∃ vs us, H l1 = some (.lst vs) ∧ H l2 = some (.lst us) ∧ All2 R vs xs (cut H [l1, l2]) ∧ All2 S us ys (cut H [l1, l2])
variable {α β : Type} {R : α → Pr T} {S : β → Pr T} {B : Hp} {l1 l2 : Addr} {xs : List α} {ys : List β} {H' : Hp}
theorem Fil.new (n1 : B l1 = none) (n2 : B l2 = none) (ne : l1 ≠ l2) (g : Gr T B H) (h1 : H l1 = some (.lst [])) (h2 : H l2 = some (.lst [])) : Fil T R S B l1 l2 [] [] H :=
  ⟨ne, n1, n2, g.toCut (by simpa using ⟨n1, n2⟩) (by simpa using ⟨calm_lst h1, calm_lst h2⟩), [], [], h1, h2, trivial, trivial⟩
theorem Fil.cuts (f : Fil T R S B l1 l2 xs ys H) (g : Gr T H H') : Gr T (cut H [l1, l2]) (cut H' [l1, l2]) := by
  obtain ⟨vs, us, h1, h2, _⟩ := f.lists
  exact (Gr.cut.trans g).toCut (fun b hb => cut_in hb) (by simpa using ⟨calm_lst (g.lst h1), calm_lst (g.lst h2)⟩)
theorem Fil.st (f : Fil T R S B l1 l2 xs ys H) (g : Gr T H H') : Fil T R S B l1 l2 xs ys H' := by
  have c := f.cuts g
  obtain ⟨vs, us, h1, h2, h3, h4⟩ := f.lists
  exact ⟨f.ne, f.b1, f.b2, f.gr.trans c, vs, us, g.lst h1, g.lst h2, h3.st c, h4.st c⟩
theorem Fil.base (f : Fil T R S B l1 l2 xs ys H) : Gr T B H := f.gr.trans Gr.cut
theorem Fil.xs1 (f : Fil T R S B l1 l2 xs ys H) (K : PySem.W.Frag) : (lstP K R xs).p (.ref l1) H := by
  obtain ⟨vs, us, h1, h2, h3, h4⟩ := f.lists
  exact ⟨l1, vs, rfl, .inl (.inl h1), h3.st Gr.cut⟩
theorem Fil.ys2 (f : Fil T R S B l1 l2 xs ys H) (K : PySem.W.Frag) : (lstP K S ys).p (.ref l2) H := by
  obtain ⟨vs, us, h1, h2, h3, h4⟩ := f.lists
  exact ⟨l2, us, rfl, .inl (.inl h2), h4.st Gr.cut⟩
theorem Fil.allM (f : Fil T R S B l1 l2 xs ys H) : ∀ b ∈ [l1, l2], ∀ o, H b = some o → isM o := fun b hb o e => by
  obtain ⟨vs, us, h1, h2, _⟩ := f.lists
  rcases List.mem_cons.mp hb with k | k
  · rw [k, h1] at e; rw [← Option.some.inj e]; trivial
  · rw [List.mem_singleton.mp k, h2] at e; rw [← Option.some.inj e]; trivial
theorem cut_upd1 {o : HO} : cut (upd H l1 o) [l1, l2] = cut H [l1, l2] := by
  funext b
  by_cases h : b ∈ [l1, l2]
  · rw [cut_in h, cut_in h]
  · rw [cut_out h, cut_out h, upd_ne fun q => h (by rw [q]; simp)]
theorem cut_upd2 {o : HO} : cut (upd H l2 o) [l1, l2] = cut H [l1, l2] := by
  funext b
  by_cases h : b ∈ [l1, l2]
  · rw [cut_in h, cut_in h]
  · rw [cut_out h, cut_out h, upd_ne fun q => h (by rw [q]; simp)]
theorem Fil.add1 {x : α} {v : V} [hS : Soft isM (R x)] {vs : List V} (f : Fil T R S B l1 l2 xs ys H) (h1 : H l1 = some (.lst vs)) (hv : (R x).p v H) : Fil T R S B l1 l2 (xs ++ [x]) ys (upd H l1 (.lst (vs ++ [v]))) := by
  have hm := f.allM
  obtain ⟨vs', us, k1, h2, h3, h4⟩ := f.lists
  rw [h1] at k1
  obtain rfl : vs = vs' := by injection k1 with k1; injection k1
  refine ⟨f.ne, f.b1, f.b2, by rw [cut_upd1]; exact f.gr, vs ++ [v], us, upd_same, (upd_ne f.ne.symm).trans h2, ?_, by rw [cut_upd1]; exact h4⟩
  rw [cut_upd1]
  exact h3.snoc (hS.s _ _ _ hm hv)
theorem Fil.add2 {y : β} {v : V} [hS : Soft isM (S y)] {us : List V} (f : Fil T R S B l1 l2 xs ys H) (h2 : H l2 = some (.lst us)) (hv : (S y).p v H) : Fil T R S B l1 l2 xs (ys ++ [y]) (upd H l2 (.lst (us ++ [v]))) := by
  have hm := f.allM
  obtain ⟨vs, us', h1, k2, h3, h4⟩ := f.lists
  rw [h2] at k2
  obtain rfl : us = us' := by injection k2 with k2; injection k2
  refine ⟨f.ne, f.b1, f.b2, by rw [cut_upd2]; exact f.gr, vs, us ++ [v], (upd_ne f.ne).trans h1, upd_same, by rw [cut_upd2]; exact h3, ?_⟩
  rw [cut_upd2]
  exact h4.snoc (hS.s _ _ _ hm hv)
end
section
variable {T : List (Addr × Str)} {P : Program} {w : World} {K : PySem.W.Frag} {mg : Str → Option Value} {base : Heap}
/-- a tuple of three -/
def tri (K : PySem.W.Frag) (P1 P2 P3 : Pr T) : Pr T := ⟨fun v H => ∃ a x y z, v = .ref a ∧ SqT K H a [x, y, z] ∧ P1.p x H ∧ P2.p y H ∧ P3.p z H, fun _ _ _ g ⟨a, x, y, z, e, h, h1, h2, h3⟩ => ⟨a, x, y, z, e, g.sqT h, P1.st _ _ _ g h1, P2.st _ _ _ g h2, P3.st _ _ _ g h3⟩⟩
def drawnP (T : List (Addr × Str)) (K : PySem.W.Frag) (p : PoolM) : Pr T := tri K (intP p.size) (quosP T K p.quotas) (lstP K (itX T K) p.rows)
def spDrawn (T : List (Addr × Str)) (K : PySem.W.Frag) : Sp := fun vs H Q _ => ∃ (a : Addr) (ns : List Int) (i : Int), vs = [.ref a, .int i] ∧ SqL K H a (ns.map V.int) ∧ ns.length ≤ 63 ∧ ∀ (p : PoolM) v H', okPan p → Gr T H H' → (drawnP T K p).p v H' → Q v H'
theorem scDrawn : FnScope ["_law_script", "_law_at", "_law_seed", "_law_sizes", "_law_turn", "_law_count", "_law_size", "_law_people", "_law_quotas", "_law_person", "_law_some", "_law_trait", "_law_many", "_law_row", "_law_value", "_law_own", "_law_one", "_law_low"] ["_law_script", "_law_at"] (defScope (top 55)) := ⟨rfl, rfl, rfl, by decide +kernel, rfl, by decide +kernel, by decide +kernel⟩
end
section
variable {T : List (Addr × Str)} {X : Cx} {tg iter e a b : Expr} {σ : L2.St} {H : Hp} {pos p1 p2 : Pos} {α : Type} {R : α → Pr T} {xs : List α}
theorem ex_num (W : Wd X.K X.mg) {l : Addr} {ns : List Int} {i : Int} {m : Nat} (hr : Room m X.A) (hs : SqL X.K H l (ns.map V.int)) (hl : ns.length ≤ 63) (ha : EE T X a σ H (eqP (.ref l))) (hb : EE T X b σ H (intP i)) (hm : 1 ≤ m := by decide) (hg : Gl X "_law_number" := by rfl)
    (he : starEach [a, b] X.env = (false, eval a X.env) :: starEach [b] X.env := by rfl) (he2 : starEach [b] X.env = (false, eval b X.env) :: starEach [] X.env := by rfl) (hpl : (backTo pos (starEach [b] X.env)).any (·.1) = false := by rfl) : EX X (.Call (.Name "_law_number" p1) [a, b] [] pos) σ H fun v H' => Gr T H H' ∧ ∃ z : Int, v = .int z :=
  ex_call (T := T) (E := fun _ _ _ => False) (Ps := [eqP (.ref l), intP i]) (ok_law_number (T := T) (P := X.prog) (w := X.w) (base := X.base) W) W.g_law_number.mg W.g_law_number.kp hr (ea_cons ha (ea_cons hb ea_nil he2) he) (fun ws H2 g hws => by
    obtain ⟨v, w, rfl, hv, hw⟩ := sat2 hws
    obtain rfl : v = V.ref l := hv
    obtain rfl : w = V.int i := hw
    exact ⟨l, ns, i, rfl, g.sqL hs, hl, fun n H' g' => ⟨g.trans g', n, rfl⟩⟩) hm hg (by decide) he hpl
/-- tuple(e), itself new -/
theorem ee_tupX {x : Str} {ns : List Int} (hm : X.mg x = none) (ha : EE T X a σ H (lstP X.K intP ns)) (hv : bootBuiltins x = some (.type "tuple") := by decide +kernel) (hg : Gl X x := by rfl) (hn : x ≠ "__name__" := by decide) (hdb : (x == ("__debug__" : Str)) = false := by decide)
    (he : starEach [a] X.env = (false, eval a X.env) :: starEach [] X.env := by rfl) : EE T X (.Call (.Name x p1) [a] [] pos) σ H (itX T X.K ns) :=
  ee_type call_tuple_of hm hv (ea_cons ha ea_nil he) (fun vs H1 g hs Q z => by
    obtain ⟨v, rfl, p, ws, rfl, h1, h2⟩ := sat1 hs
    have e := ints_all h2
    subst e
    exact ⟨p, _, rfl, .inl ⟨h1, fun l hl => z _ _ (.new hl) (itX_of upd_same (all_ints _))⟩⟩) hg hn hdb he
/-- enumerate(a) of a list known ahead -/
theorem src_enumB {z : Nat} {elts : List Expr} {H0 : Hp} {l : Addr} {vs : List V} (hm : X.mg "enumerate" = none) (h : EE T X a σ H (eqP (.ref l))) (g0 : Gr T H0 H) (h1 : SqL X.K H0 l vs) (h2 : All2 R vs xs H0) (hg : Gl X "enumerate" := by rfl) (hs : starEach [a] X.env = (false, eval a X.env) :: starEach [] X.env := by rfl) :
    Src T X (.Tuple elts z p2) (.Call (.Name "enumerate" p1) [a] [] pos) σ H (bOld H0) xs.zipIdx (fun xi => pairP X.K (intP (xi.2 : Int)) (R xi.1)) :=
  Src.of (pi_enum hg hm (ea_cons h ea_nil hs) hs) fun H1 g Rr r => ⟨rfl, g, fun us H2 g2 hv => by
    obtain ⟨v, e1, e2⟩ := sat1 hv
    obtain rfl : v = V.ref l := e2
    refine ⟨l, vs, e1, ((g0.trans g).trans g2).sqL h1, r _ H2 H0 g2 rfl ?_⟩
    rw [List.length_zipIdx, ← h2.length]
    refine walk_enum.mono (fun H' g' => g'.sqL h1) fun i H' v H3 hi g' ⟨t, x, y, e3, e4, e5, e6, e7⟩ => ?_
    have g3 : Gr T H' H3 := by rw [e5]; exact .new e4
    obtain ⟨y', hy, hR⟩ := h2.get e7
    exact ⟨g3, (y', i), zipIdx_at hy, t, x, y, e3, .of (by rw [e5]; exact upd_same), (Option.some.inj e6).symm, (R y').st _ _ _ (g'.trans g3) hR⟩⟩
/-- a tuple display of ints -/
theorem ee_tupI {z : Nat} {es : List Expr} {ns : List Int} (h : EA T X es σ H (ns.map intP)) (hl : Nat.ble (ns.map (intP (T := T))).length 1000 = true := by rfl) : EE T X (.Tuple es z pos) σ H (itP X.K ns) :=
  ee_tup h (fun vs H1 p g hS hp => by
    have e : vs = ns.map V.int := by
      have : ∀ (ns : List Int) (vs : List V), Sat (ns.map (intP (T := T))) vs H1 → vs = ns.map V.int := fun ns => by
        induction ns with
        | nil => intro vs h; cases vs with
          | nil => rfl
          | cons _ _ => exact h.elim
        | cons n ns ih => intro vs h; cases vs with
          | nil => exact h.elim
          | cons v vs => rw [show v = V.int n from h.1, ih vs h.2]; rfl
      exact this ns vs hS
    exact ⟨p, vs, rfl, SqT.of hp, by rw [e]; exact all_ints ns⟩) hl
end
/-! ### rows and sizes -/
def rOk (ms r : List Int) : Prop := r.length = ms.length ∧ ∀ (i : Nat) (h : i < r.length) (h' : i < ms.length), 0 ≤ r[i] ∧ r[i] < ms[i]
theorem rOk_of {ms : List Int} {x : Int} {c : Nat → Int} (hm : ∀ m ∈ ms, 1 ≤ m) : rOk ms (ms.zipIdx.map fun mt => x / c mt.2 % mt.1) := by
  refine ⟨by rw [List.length_map, List.length_zipIdx], fun i h h' => ?_⟩
  have hp : 0 < ms[i] := by have := hm _ (List.getElem_mem h'); omega
  simp only [List.getElem_map, List.getElem_zipIdx, Nat.zero_add]
  exact ⟨Int.emod_nonneg _ (by omega), Int.emod_lt_of_pos _ hp⟩
theorem drawn_ok {sz : Int} {ms : List Int} {rows : List (List Int)} {qs : List (List (Int × Int))} (h1 : 1 ≤ sz ∧ sz ≤ 8) (hm : 1 ≤ ms.length ∧ ms.length ≤ 3) (hms : ∀ m ∈ ms, 1 ≤ m ∧ m ≤ 3) (hr : 1 ≤ rows.length ∧ rows.length ≤ 8) (hsz : sz = (rows.length : Int) ∨ sz = (rows.length : Int) + 1)
    (hrow : ∀ r ∈ rows, rOk ms r) (hq : qs.length = ms.length) (hql : ∀ t, t < qs.length → (qs.getD t []).length = (ms.getD t 0).toNat) (hqp : ∀ q ∈ qs, ∀ pr ∈ q, 0 ≤ pr.1 ∧ pr.1 ≤ pr.2 ∧ pr.2 ≤ sz) : okPan ⟨sz, qs, rows⟩ := by
  have ml : ∀ (t : Nat) (h : t < qs.length), qs[t].length = (ms[t]'(by omega)).toNat := fun t h => by
    have := hql t h
    simpa [List.getD, h, show t < ms.length by omega] using this
  refine ⟨⟨h1, ⟨by show 1 ≤ qs.length; omega, by show qs.length ≤ 3; omega⟩, fun q hq' => ?_, hr.1, hr.2, fun r hr' => ?_⟩, hsz⟩
  · obtain ⟨t, ht⟩ := List.getElem?_of_mem hq'
    obtain ⟨htl, et⟩ := List.getElem?_eq_some_iff.mp ht
    have htl : t < qs.length := htl
    have et : qs[t] = q := et
    have e := ml t htl
    rw [et] at e
    have hmt := hms _ (List.getElem_mem (show t < ms.length by omega))
    exact ⟨by omega, by omega, hqp q hq'⟩
  · obtain ⟨e1, e2⟩ := hrow r hr'
    refine ⟨by show r.length = qs.length; omega, fun x hx => ?_⟩
    obtain ⟨i, hi⟩ := List.getElem?_of_mem hx
    obtain ⟨x1, x2⟩ := x
    rw [List.getElem?_zip_eq_some] at hi
    obtain ⟨hi1, hi2⟩ := hi
    obtain ⟨l1, e3⟩ := List.getElem?_eq_some_iff.mp hi1
    obtain ⟨l2, e4⟩ := List.getElem?_eq_some_iff.mp hi2
    have l2 : i < qs.length := l2
    have e4 : qs[i] = x2 := e4
    have e := ml i l2
    rw [e4] at e
    have hmt := hms _ (List.getElem_mem (show i < ms.length by omega))
    have b := e2 i l1 (by omega)
    rw [e3] at b
    show 0 ≤ x1 ∧ x1 < (x2.length : Int)
    omega
end Pan
set_option maxHeartbeats 4000000
/-! _law_drawn, its walk. -/
namespace Pan
open PySem PySem.Spec PyProof.Rows L2
section
variable {T : List (Addr × Str)} {P : Program} {w : World} {K : PySem.W.Frag} {mg : Str → Option Value} {base : Heap}
theorem emod3 (z : Int) : 0 ≤ z % 3 ∧ z % 3 < 3 := ⟨Int.emod_nonneg _ (by decide), Int.emod_lt_of_pos _ (by decide)⟩
theorem emod2 (z : Int) : 0 ≤ z % 2 ∧ z % 2 < 2 := ⟨Int.emod_nonneg _ (by decide), Int.emod_lt_of_pos _ (by decide)⟩
theorem emod8 (z : Int) : 0 ≤ z % 8 ∧ z % 8 < 8 := ⟨Int.emod_nonneg _ (by decide), Int.emod_lt_of_pos _ (by decide)⟩
theorem emod5 (z : Int) : 0 ≤ z % 5 ∧ z % 5 < 5 := ⟨Int.emod_nonneg _ (by decide), Int.emod_lt_of_pos _ (by decide)⟩
def dv (t : Nat) : Int := ([3, 9] : List Int).getD t 1
def cv (t : Nat) : Int := ([1, 6, 36] : List Int).getD t 1
def dl (t : Nat) : Int := ([0, 0, 0, 1, -1] : List Int).getD t 0
theorem cv_ok (x : Int) : ∀ t : Nat, t < 3 → CDiv x (cv t)
  | 0, _ => ⟨by decide, by decide⟩
  | 1, _ => ⟨by decide, by decide⟩
  | 2, _ => ⟨by decide, by decide⟩
  | n + 3, h => absurd h (by omega)
theorem cv_at : ∀ t : Nat, t < 3 → ([1, 6, 36] : List Int)[t]? = some (cv t)
  | 0, _ => rfl
  | 1, _ => rfl
  | 2, _ => rfl
  | n + 3, h => absurd h (by omega)
theorem dl_at : ∀ t : Nat, t < 5 → ([0, 0, 0, 1, -1] : List Int)[t]? = some (dl t)
  | 0, _ => rfl
  | 1, _ => rfl
  | 2, _ => rfl
  | 3, _ => rfl
  | 4, _ => rfl
  | n + 5, h => absurd h (by omega)
theorem ok_law_drawn (W : Wd K mg) : FnR P w K mg base CX0 3 (He.ga K "_law_drawn") (spDrawn T K) := by
  obtain ⟨fd, F⟩ := W.d_g_law_drawn
  have b : Binds K fd ["_law_script", "_law_at"] [] := F.bindsN fun _ _ _ _ _ _ us hl => match us, hl with | [_, _], _ => rfl
  refine fn_any (T := T) F scDrawn b (fun vs H Q E ⟨a, ns, i, e, _⟩ => by rw [e]; rfl) fun cdv A outer s H vs Q E hr ⟨a, ns, i, e, hsq, hl, hQ⟩ => ?_
  subst e
  refine ssx_set 2 (ex_num (T := T) W hr hsq hl (ee_v 0 rfl) (ee_var 1 rfl (show V.int i = V.int i from rfl))) scDrawn.nd fun zv H1 ⟨g1, z, ez⟩ => ?_
  subst ez
  -- sizes
  refine ss_set 3 (P := lxP intP ((List.range 2).map (fun t : Nat => 1 + z / dv t % 3) ++ [1 + z / 27 % 2])) (ee_cat (R := intP) (by simp) (NewL.lx (NewC.nl (EC.nc (ec_lc 4 scDrawn (Ro := fun t : Nat => intP (1 + z / dv t % 3)) (src_range (m := 2) W.f_range ee_int (by decide)) (by decide)
    fun t v H2 ht g2 hv s' Hb C cl fp => ee_add ee_int (ee_mod (by decide) (ee_conv W.f_int (ee_div ?_ (ee_var (P := intP z) 2 rfl rfl) (ee_ixT (R := intP) (xs := [3, 9]) t ?_ (ee_tupI (ns := [3, 9]) (ea_cons ee_int (ea_cons ee_int ea_nil))) (ee_var 4 rfl hv)))) ee_int)))) fun vs H2 _ h => All2.map h)
    (NewL.lx (nl_lst (ea_cons (ee_add ee_int (ee_mod (by decide) (ee_conv W.f_int (ee_div ⟨by decide, by decide⟩ (ee_var (P := intP z) 2 rfl rfl) ee_int)) ee_int)) ea_nil)) fun vs H2 _ hS => by
      obtain ⟨v, rfl, hv⟩ := sat1 hS
      exact ⟨hv, trivial⟩)) scDrawn.nd fun sv H2 g2 hsv => ?_
  · have h2 : t < 2 := by simpa using ht
    match t, h2 with
    | 0, _ => exact ⟨by decide, by decide⟩
    | 1, _ => exact ⟨by decide, by decide⟩
  · have h2 : t < 2 := by simpa using ht
    match t, h2 with
    | 0, _ => rfl
    | 1, _ => rfl
  obtain ⟨ms0, hms0⟩ : ∃ ms0, ms0 = (List.range 2).map (fun t : Nat => 1 + z / dv t % 3) ++ [1 + z / 27 % 2] := ⟨_, rfl⟩
  rw [← hms0] at hsv
  have h03 : ms0.length = 3 := by rw [hms0]; simp
  have hm0 : ∀ m ∈ ms0, 1 ≤ m ∧ m ≤ 3 := fun m hm => by
    rw [hms0] at hm
    rcases List.mem_append.mp hm with h | h
    · obtain ⟨t, _, rfl⟩ := List.mem_map.mp h
      have := emod3 (z / dv t)
      omega
    · rw [List.mem_singleton.mp h]
      have := emod2 (z / 27)
      omega
  obtain ⟨k, hk⟩ : ∃ k : Nat, (k : Int) = 1 + z % 3 := ⟨(1 + z % 3).toNat, by have := emod3 z; omega⟩
  have hk13 : 1 ≤ k ∧ k ≤ 3 := by have := emod3 z; omega
  obtain ⟨cnt, hcnt⟩ : ∃ cnt : Nat, (cnt : Int) = 1 + z / 54 % 8 := ⟨(1 + z / 54 % 8).toNat, by have := emod8 (z / 54); omega⟩
  have hc18 : 1 ≤ cnt ∧ cnt ≤ 8 := by have := emod8 (z / 54); omega
  refine ss_par 3 5 (P1 := lstP K intP (ms0.take k)) (P2 := intP (cnt : Int)) (ee_cutHi k (EE.lx (ee_var 3 rfl hsv)) (EE.cast (ee_add ee_int (ee_mod (by decide) (ee_conv W.f_int (ee_var (P := intP z) 2 rfl rfl)) ee_int)) (by rw [hk]))) (EE.cast (ee_add ee_int (ee_mod (by decide) (ee_conv W.f_int (ee_div ⟨by decide, by decide⟩ (ee_var (P := intP z) 2 rfl rfl) ee_int)) ee_int)) (by rw [hcnt])) scDrawn.nd fun mv cv0 H3 g3 hmv hcv => ?_
  obtain rfl : cv0 = V.int (cnt : Int) := hcv
  have hms : ∀ m ∈ ms0.take k, 1 ≤ m ∧ m ≤ 3 := fun m hm => hm0 m (List.mem_of_mem_take hm)
  have hml : 1 ≤ (ms0.take k).length ∧ (ms0.take k).length ≤ 3 := by rw [List.length_take, h03]; omega
  generalize ms0.take k = ms at hms hml hmv
  obtain ⟨sz, hsz⟩ : ∃ sz, sz = if decide (z / 432 % 2 = 0) = true then (cnt : Int) else (if (cnt : Int) + 1 < 8 then (cnt : Int) + 1 else 8) := ⟨_, rfl⟩
  have hsz8 : (1 ≤ sz ∧ sz ≤ 8) ∧ (sz = (cnt : Int) ∨ sz = (cnt : Int) + 1) := by
    rw [hsz]
    split
    · omega
    · have := mn_le 8 ((cnt : Int) + 1)
      split <;> omega
  refine ss_set 6 (P := intP sz) (ee_if (t := decide (z / 432 % 2 = 0)) (ET.cast (et_eqS (x := V.int (z / 432 % 2)) (y := V.int 0) rfl (ee_mod (by decide) (ee_conv W.f_int (ee_div ⟨by decide, by decide⟩ (ee_var (P := intP z) 2 rfl rfl) ee_int)) ee_int) ee_int) (by
      by_cases h : z / 432 % 2 = 0 <;> simp [h])) (fun ht => EE.cast (ee_var (P := intP (cnt : Int)) 5 rfl rfl) (by rw [hsz, if_pos ht])) fun hf => EE.cast (ee_min2 W.f_min ee_int (ee_add (ee_var (P := intP (cnt : Int)) 5 rfl rfl) ee_int)) (by rw [hsz]; exact congrArg intP (if_neg (by rw [hf]; exact Bool.false_ne_true)).symm)) scDrawn.nd fun szv H4 g4 hszv => ?_
  obtain rfl : szv = V.int sz := hszv
  have hm4 := (lstP K intP ms).st _ _ _ g4 hmv
  have g04 := ((g1.trans g2).trans g3).trans g4
  refine ss_par2n (T := T) 7 8 scDrawn.nd fun l1 l2 H5 n1 n2 ne g5 q1 q2 => ?_
  have f0 : Fil T (itX T K) (quoP T K) H4 l1 l2 [] [] H5 := Fil.new n1 n2 ne g5 q1 q2
  -- people
  refine ss_forB (H0 := H4) 9 (xs := List.range cnt) (R := fun n : Nat => intP (n : Int)) (src_rangeO H4 (m := (cnt : Int)) W.f_range (ee_var 5 rfl rfl) (by omega)) PassesOwn.never scDrawn.nd
    (fun j σ' H' => ∃ u9 u10, σ' = [some (.ref a), some (.int i), some (.int z), some mv, none, some (.int (cnt : Int)), some (.int sz), some (.ref l1), some (.ref l2), u9, u10, none, none, none, none, none, none, none] ∧ ∃ rows, rows.length = j ∧ (∀ r ∈ rows, rOk ms r) ∧ Fil T (itX T K) (quoP T K) H4 l1 l2 rows [] H')
    (fun Hx g => ⟨none, none, rfl, [], rfl, fun r h => (nomatch h), f0.st g⟩) (fun j σ' H' ⟨_, _, _, _, _, _, f⟩ => f.base) ?_ ?_
  · rintro j jn v σ' H' H6 hj ⟨u9, u10, rfl, rows, hrl, hrok, f⟩ g6 hv
    obtain rfl : v = V.int (jn : Int) := hv
    have hjc : j < cnt := by
      have := (List.getElem?_eq_some_iff.mp hj).1
      rwa [List.length_range] at this
    have f6 := f.st g6
    refine ssx_set 10 (ex_num (T := T) W hr ((g04.trans f6.base).sqL hsq) hl (ee_v 0 rfl) (ee_add (ee_add (ee_var 1 rfl (show V.int i = V.int i from rfl)) ee_int) (ee_var (P := intP (jn : Int)) 9 rfl rfl))) scDrawn.nd fun xv H7 ⟨g7, x, ex⟩ => ?_
    subst ex
    have f7 := f6.st g7
    obtain ⟨vs7, us7, k1, k2, _, _⟩ := f7.lists
    have lv : vs7.length ≤ 1000 := by
      have := f7.xs1 K
      obtain ⟨_, _, e, hq, ha⟩ := this
      have : vs7.length = rows.length := by
        obtain ⟨vs', us', k3, _, k5, _⟩ := f7.lists
        rw [k1] at k3
        obtain rfl : vs7 = vs' := by injection k3 with k3; injection k3
        exact k5.length
      omega
    refine ss_append 7 rfl k1 lv (ee_tupX (ns := ms.zipIdx.map fun mt => x / cv mt.2 % mt.1) W.f_tuple (NewL.l (NewC.nl (EC.nc (ec_lcP 11 12 scDrawn (R1 := fun mt : Int × Nat => intP (mt.2 : Int)) (R2 := fun mt : Int × Nat => intP mt.1) (Ro := fun mt : Int × Nat => intP (x / cv mt.2 % mt.1)) (src_enumL (R := intP) W.f_enumerate (ee_var 3 rfl ((lstP K intP ms).st _ _ _ f7.base hm4))) (by rw [List.length_zipIdx]; omega)
      fun mt v w H8 hmt g8 hv hw s' Hb C cl fp => ee_mod ?_ (ee_conv W.f_int (ee_div ?_ (ee_var (P := intP x) 10 rfl rfl) (ee_ixT (R := intP) (xs := [1, 6, 36]) mt.2 ?_ (ee_tupI (ns := [1, 6, 36]) (ea_cons ee_int (ea_cons ee_int (ea_cons ee_int ea_nil)))) (ee_var 11 rfl hv)))) (ee_var 12 rfl hw)))) fun vs H8 _ h => All2.map h)) fun v H8 g8 hv => ?_
    · have h1 := (List.mem_zipIdx hmt).2.2
      have : mt.1 ∈ ms := by rw [h1]; exact List.getElem_mem _
      have := hms _ this
      omega
    · have h1 := (List.mem_zipIdx hmt).2.1
      exact cv_ok x mt.2 (by omega)
    · have h1 := (List.mem_zipIdx hmt).2.1
      exact cv_at mt.2 (by omega)
    · have f8 := f7.st g8
      exact ss_nil (T := T) ⟨_, _, rfl, rows ++ [ms.zipIdx.map fun mt => x / cv mt.2 % mt.1], by rw [List.length_append, hrl]; rfl, fun r hr' => by
        rcases List.mem_append.mp hr' with h | h
        · exact hrok r h
        · rw [List.mem_singleton.mp h]
          exact rOk_of fun m hm => (hms m hm).1, f8.add1 (g8.lst k1) hv⟩
  · rintro σ' H' ⟨u9, u10, rfl, rows, hrl, hrok, f⟩
    rw [List.length_range] at hrl
    obtain ⟨ml, mvs, emv, msq, mall⟩ := hm4
    obtain rfl : mv = V.ref ml := emv
    have hm4 : (lstP (T := T) K intP ms).p (.ref ml) H4 := ⟨ml, mvs, rfl, msq, mall⟩
    -- quotas
    refine ss_for_core (g := gTup K 2 (gCons (gName 11) (gCons (gName 12) gNil))) (B := bOld H4) (xs := ms.zipIdx) (R := fun mt : Int × Nat => pairP K (intP (mt.2 : Int)) (intP mt.1)) (src_enumB (R := intP) (xs := ms) W.f_enumerate (ee_v 3 rfl) f.base msq mall) (pg_tup rfl (pgs_cons (pg_name scDrawn.nd rfl (by first | exact Or.inl rfl | exact Or.inr rfl) (.inl rfl)) (pgs_cons (pg_name scDrawn.nd rfl (by first | exact Or.inl rfl | exact Or.inr rfl) (.inl rfl)) pgs_nil rfl) rfl) rfl rfl) PassesOwn.never rfl
      (fun Hb j σ' H' => Hb = H4 ∧ ∃ u9 u10 u11 u12 u13 u14 u15 u17, σ' = [some (.ref a), some (.int i), some (.int z), some (.ref ml), none, some (.int (cnt : Int)), some (.int sz), some (.ref l1), some (.ref l2), u9, u10, u11, u12, u13, u14, u15, none, u17] ∧
        ∃ qs, qs.length = j ∧ (∀ t, t < qs.length → (qs.getD t []).length = (ms.getD t 0).toNat) ∧ (∀ q ∈ qs, ∀ pr ∈ q, 0 ≤ pr.1 ∧ pr.1 ≤ pr.2 ∧ pr.2 ≤ sz) ∧ Fil T (itX T K) (quoP T K) H4 l1 l2 rows qs H')
      (fun Hb j σ' H' ⟨e, _, _, _, _, _, _, _, _, _, _, _, _, _, f⟩ => by rw [e]; exact f.base) (fun Hb Hx g e => ⟨e, u9, u10, none, none, none, none, none, none, rfl, [], rfl, fun t h => absurd h (Nat.not_lt_zero _), fun q h => (nomatch h), f.st g⟩) ?_ ?_ (by intro _; rfl)
    · rintro Hb j ⟨m, t⟩ v σ' H6 H7 hj ⟨rfl, v9, v10, v11, v12, v13, v14, v15, v17, rfl, qs, hql, hqm, hqp, f6⟩ g7 hv
      have hjl : j < ms.length := by
        have := (List.getElem?_eq_some_iff.mp hj).1
        rwa [List.length_zipIdx] at this
      have ej : (m, t) = (ms[j], j) := by
        have h := zipIdx_at (List.getElem?_eq_getElem hjl)
        rw [hj] at h
        exact Option.some.inj h
      obtain ⟨em, rfl⟩ := Prod.mk.inj ej
      have hm13 : 1 ≤ m ∧ m ≤ 3 := by rw [em]; exact hms _ (List.getElem_mem _)
      have emD : ms.getD t 0 = m := by rw [em]; simp [List.getD, hjl]
      refine g_pair hv fun tv wv htv hwv => ?_
      obtain rfl : tv = V.int (t : Int) := htv
      obtain rfl : wv = V.int m := hwv
      have f7 := f6.st g7
      refine ss_setL 13 (nl_lst ea_nil) scDrawn.nd fun l3 xs3 H8 g8 n3 h3 hS => ?_
      have hx3 : xs3 = [] := by
        cases xs3 with
        | nil => rfl
        | cons _ _ => exact hS.elim
      subst hx3
      refine ss_forB (H0 := H7) 14 (xs := List.range m.toNat) (R := fun n : Nat => intP (n : Int)) (src_rangeO H7 (m := m) W.f_range (ee_var 12 rfl rfl) (by omega)) PassesOwn.never scDrawn.nd
        (fun jj σ' H' => ∃ y10 y14 y15 y17, σ' = [some (.ref a), some (.int i), some (.int z), some (.ref ml), none, some (.int (cnt : Int)), some (.int sz), some (.ref l1), some (.ref l2), v9, y10, some (.int (t : Int)), some (.int m), some (.ref l3), y14, y15, none, y17] ∧
          ∃ prs ws, prs.length = jj ∧ ws.length = jj ∧ (∀ pr ∈ prs, 0 ≤ pr.1 ∧ pr.1 ≤ pr.2 ∧ pr.2 ≤ sz) ∧ Gr T H7 (cut H' [l3]) ∧ H' l3 = some (.lst ws) ∧ All2 (frP (T := T) K) ws prs (cut H' [l3]))
        (fun Hx g => ⟨_, _, _, _, rfl, [], [], rfl, rfl, fun p h => (nomatch h), (g8.trans g).toCut (by simpa using n3) (by simpa using calm_lst (g.lst h3)), g.lst h3, trivial⟩) (fun jj σ' H' h => by
          obtain ⟨_, _, _, _, _, _, _, _, _, _, gg, _⟩ := h
          exact gg.trans Gr.cut) ?_ ?_
      · rintro jj jn v σ' H9 H10 hjj ⟨y10, y14, y15, y17, rfl, prs, ws, hp1, hw1, hpr, gg, hl3, hall⟩ g10 hv
        obtain rfl : v = V.int (jn : Int) := hv
        have hjm : (jj : Int) < m := by
          have := (List.getElem?_eq_some_iff.mp hjj).1
          rw [List.length_range] at this
          omega
        have step : ∀ {Ha Hb : Hp}, Gr T H7 (cut Ha [l3]) → Ha l3 = some (.lst ws) → All2 (frP (T := T) K) ws prs (cut Ha [l3]) → Gr T Ha Hb → Gr T H7 (cut Hb [l3]) ∧ Hb l3 = some (.lst ws) ∧ All2 (frP (T := T) K) ws prs (cut Hb [l3]) := fun {Ha Hb} g1 g2 g3 g4 => by
          have c : Gr T (cut Ha [l3]) (cut Hb [l3]) := (Gr.cut.trans g4).toCut (fun b hb => cut_in hb) (by simpa using calm_lst (g4.lst g2))
          exact ⟨g1.trans c, g4.lst g2, g3.st c⟩
        obtain ⟨gg10, hl10, hall10⟩ := step gg hl3 hall g10
        have f10 := f7.st (gg10.trans Gr.cut)
        refine ssx_set 10 (ex_num (T := T) W hr ((g04.trans f10.base).sqL hsq) hl (ee_v 0 rfl) (ee_add (ee_add (ee_add (ee_var 1 rfl (show V.int i = V.int i from rfl)) ee_int) (ee_mul (.inl (by decide)) ee_int (ee_var (P := intP (t : Int)) 11 rfl rfl))) (ee_var (P := intP (jn : Int)) 14 rfl rfl))) scDrawn.nd fun xv H11 ⟨g11, x, ex⟩ => ?_
        subst ex
        obtain ⟨gg11, hl11, hall11⟩ := step gg10 hl10 hall10 g11
        have f11 := f7.st (gg11.trans Gr.cut)
        obtain ⟨own, hown⟩ : ∃ own : Int, own = ((rows.filter fun r : List Int => decide (r.getD t 0 = (jn : Int))).length : Int) := ⟨_, rfl⟩
        refine ss_set 15 (P := intP own) (EE.cast (ee_lenL (R := itX T K) W.f_len (EC.ee (ec_lcIf 16 scDrawn (Ro := itX T K) (keep := fun r : List Int => decide (r.getD t 0 = (jn : Int))) (src_list (R := itX T K) (ee_var 7 rfl (f11.xs1 K))) (by omega) (fun r v5 H6 hrm g6 hv5 s' Hb' C cl fp => ET.cast (et_eqS (x := V.int (r.getD t 0)) (y := V.int (jn : Int)) rfl (ee_ixT (R := intP) (xs := r) t (getD_some (by have := (hrok r hrm).1; omega)) (EE.imp (ee_var 16 rfl hv5) fun _ _ _ h => h.1) (ee_var 11 rfl rfl)) (ee_var 14 rfl rfl)) (by
            by_cases h : r.getD t 0 = (jn : Int)
            · rw [h]; simp
            · simp [h])) fun r v5 H6 _ _ g6 hv5 s' Hb' C cl fp => ee_var 16 rfl hv5))) (by rw [hown])) scDrawn.nd fun ov H12 g12 hov => ?_
        obtain rfl : ov = V.int own := hov
        obtain ⟨kk, hkk⟩ : ∃ kk : Nat, (kk : Int) = x / 9 % 5 := ⟨(x / 9 % 5).toNat, by have := emod5 (x / 9); omega⟩
        have hk5 : kk < 5 := by have := emod5 (x / 9); omega
        obtain ⟨ow2, how2⟩ : ∃ ow2 : Int, ow2 = (if (if own + dl kk < sz then own + dl kk else sz) > 0 then (if own + dl kk < sz then own + dl kk else sz) else 0) := ⟨_, rfl⟩
        refine ss_set 15 (P := intP ow2) (EE.cast (ee_max2 W.f_max ee_int (ee_min2 W.f_min (ee_var (P := intP sz) 6 rfl rfl) (ee_add (ee_var (P := intP own) 15 rfl rfl) (ee_ixT (R := intP) (xs := [0, 0, 0, 1, -1]) kk (dl_at kk hk5) (ee_tupI (ns := [0, 0, 0, 1, -1]) (ea_cons ee_int (ea_cons ee_int (ea_cons ee_int (ea_cons ee_int (ea_cons (ee_neg ee_int) ea_nil)))))) (EE.cast (ee_mod (by decide) (ee_conv W.f_int (ee_div ⟨by decide, by decide⟩ (ee_var (P := intP x) 10 rfl rfl) ee_int)) ee_int) (by rw [hkk])))))) (by rw [how2])) scDrawn.nd fun o2 H13 g13 ho2 => ?_
        obtain rfl : o2 = V.int ow2 := ho2
        obtain ⟨lo, hlo⟩ : ∃ lo : Int, lo = (if ow2 - x % 3 > 0 then ow2 - x % 3 else 0) := ⟨_, rfl⟩
        refine ss_set 17 (P := intP lo) (EE.cast (ee_max2 W.f_max ee_int (ee_sub (ee_var (P := intP ow2) 15 rfl rfl) (ee_mod (by decide) (ee_conv W.f_int (ee_var (P := intP x) 10 rfl rfl)) ee_int))) (by rw [hlo])) scDrawn.nd fun lv H14 g14 hlv => ?_
        obtain rfl : lv = V.int lo := hlv
        obtain ⟨hi, hhi⟩ : ∃ hi : Int, hi = (if (if ow2 + x / 3 % 3 < sz then ow2 + x / 3 % 3 else sz) > lo then (if ow2 + x / 3 % 3 < sz then ow2 + x / 3 % 3 else sz) else lo) := ⟨_, rfl⟩
        obtain ⟨gg14, hl14, hall14⟩ := step gg11 hl11 hall11 ((g12.trans g13).trans g14)
        refine ss_append 13 rfl hl14 (by omega) (P := frP K (lo, hi)) (ee_tupI (ns := [lo, hi]) (ea_cons (ee_var (P := intP lo) 17 rfl rfl) (ea_cons (EE.cast (ee_max2 W.f_max (ee_var (P := intP lo) 17 rfl rfl) (ee_min2 W.f_min (ee_var (P := intP sz) 6 rfl rfl) (ee_add (ee_var (P := intP ow2) 15 rfl rfl) (ee_mod (by decide) (ee_conv W.f_int (ee_div ⟨by decide, by decide⟩ (ee_var (P := intP x) 10 rfl rfl) ee_int)) ee_int)))) (by rw [hhi])) ea_nil))) fun pv H15 g15 hpv => ?_
        obtain ⟨gg15, hl15, hall15⟩ := step gg14 hl14 hall14 g15
        have ecut : cut (upd H15 l3 (.lst (ws ++ [pv]))) [l3] = cut H15 [l3] := by
          funext c
          by_cases h : c ∈ [l3]
          · rw [cut_in h, cut_in h]
          · rw [cut_out h, cut_out h, upd_ne fun q => h (by rw [q]; simp)]
        have hpc : (frP (T := T) K (lo, hi)).p pv (cut H15 [l3]) := Soft.s (f := isM) _ _ _ (fun c hc o e => by
          rw [List.mem_singleton.mp hc, hl15] at e
          rw [← Option.some.inj e]
          trivial) hpv
        refine ss_nil (T := T) ⟨_, _, _, _, rfl, prs ++ [(lo, hi)], ws ++ [pv], by rw [List.length_append, hp1]; rfl, by rw [List.length_append, hw1]; rfl, fun pr hpr' => ?_, by rw [ecut]; exact gg15, upd_same, by rw [ecut]; exact hall15.snoc hpc⟩
        rcases List.mem_append.mp hpr' with h | h
        · exact hpr pr h
        · rw [List.mem_singleton.mp h]
          have m1 := mn_le sz (own + dl kk)
          have m2 := mx_ge 0 (if own + dl kk < sz then own + dl kk else sz)
          have m3 := mx_ge 0 (ow2 - x % 3)
          have m4 := mn_le sz (ow2 + x / 3 % 3)
          have m5 := mx_ge lo (if ow2 + x / 3 % 3 < sz then ow2 + x / 3 % 3 else sz)
          rw [← how2] at m2
          rw [← hlo] at m3
          rw [← hhi] at m5
          have e3 := emod3 x
          show 0 ≤ lo ∧ lo ≤ hi ∧ hi ≤ sz
          omega
      · rintro σ' H9 ⟨y10, y14, y15, y17, rfl, prs, ws, hp1, hw1, hpr, gg, hl3, hall⟩
        rw [List.length_range] at hp1
        have f9 := f7.st (gg.trans Gr.cut)
        obtain ⟨vs9, us9, k1, k2, _, k4⟩ := f9.lists
        have lu : us9.length = qs.length := k4.length
        refine ss_append 8 rfl k2 (by omega) (P := quoP T K prs) (ee_tupL (R := frP K) (xs := prs) W.f_tuple (ee_var 13 rfl ⟨l3, ws, rfl, .inl (.inl hl3), hall.st Gr.cut⟩)) fun pv H10 g10 hpv => ?_
        have f10 := f9.st g10
        refine ss_nil (T := T) ⟨rfl, _, _, _, _, _, _, _, _, rfl, qs ++ [prs], by rw [List.length_append, hql]; rfl, fun t' ht' => ?_, fun q hq' => ?_, f10.add2 (g10.lst k2) hpv⟩
        · rw [List.length_append] at ht'
          have ht' : t' < qs.length + 1 := ht'
          by_cases h : t' < qs.length
          · rw [← hqm t' h]
            simp [List.getD, List.getElem?_append_left h]
          · have e : t' = qs.length := by omega
            subst e
            rw [show ms.getD qs.length 0 = m by rw [hql]; exact emD]
            simp [List.getD, hp1]
        · rcases List.mem_append.mp hq' with h | h
          · exact hqp q h
          · rw [List.mem_singleton.mp h]
            exact hpr
    · rintro Hb σ' H6 ⟨rfl, v9, v10, v11, v12, v13, v14, v15, v17, rfl, qs, hql, hqm, hqp, f6⟩
      rw [List.length_zipIdx] at hql
      have ok : okPan ⟨sz, qs, rows⟩ := drawn_ok hsz8.1 hml hms (by omega) (by have := hsz8.2; omega) hrok hql hqm hqp
      refine ss_ret (P := drawnP T K ⟨sz, qs, rows⟩) (ee_tup (ea_cons (ee_var (P := intP sz) 6 rfl rfl) (ea_cons (ee_tupL (R := quoP T K) (xs := qs) W.f_tuple (ee_var 8 rfl (f6.ys2 K))) (ea_cons (ee_var 7 rfl (f6.xs1 K)) ea_nil))) fun vs H7 p g7 hs hp => ?_) fun v H7 g7 hv => hQ ⟨sz, qs, rows⟩ v H7 ok ((g04.trans f6.base).trans g7) hv
      obtain ⟨x, y, z', rfl, h1, h2, h3⟩ := sat3 hs
      exact ⟨p, x, y, z', rfl, SqT.of hp, h1, h2, h3⟩
end
end Pan
set_option maxHeartbeats 1000000
/-! list(d.items()) of a dict by tuples. -/
namespace Mz
open PySem PySem.Spec PyProof.Rows L2
section
variable {prog : Program} {w : World} {A : Around} {E : Value → Shared → Prop} {s : Shared} {r d : Addr} {es : Array DictEntry} {ep : Nat}
theorem list_init {R : Result → Shared → Prop} (hh : A.handled = none) (hv : s.heap.IsItemsView r d) (hm : DT.Raw s.heap d es ep) (S : Addr) (n1 : S ≠ r) (n2 : d ≠ S) (hS : s.heap.get? S = some { cls := .type "list", data := .seq #[] }) (hn : es.size ≤ sizeLine)
    (hR : ∀ h' tk acc c as, (∀ b o, b ≠ S → s.heap.get? b = some o → h'.get? b = some o) → h'.get? S = some { cls := .type "list", dict := none, data := .seq acc c, slots := #[] } → as.length = es.size → DT.Made es S h' as → acc.toList = as.map Value.ref → R (.ok (.ret .none)) { s with heap := h', toks := tk }) :
    wpAny (model prog w) A.in1 (Builtin.«list.__init__» ⟨[.ref S, .ref r], []⟩) (fun fin s' => match fin with | .done f => R (.ok f) s' | .again c' => c'.quiet = true ∧ codeAny (model prog w) A c' R s') (fun e s' => R (.error e) s') s := by
  refine id (?_ : wpAny _ _ (do let old ← Builtin.List.listItems (.ref S); Builtin.List.listUpdate (.ref S) (fun _ => #[]); letGo old.toList.reverse; Builtin.List.listExtendWith (.ref S) (.ref r) .none) _ _ s)
  refine wpAny_bind ?_; unfold Builtin.List.listItems; refine wpAny_bind (wpAny_seqItems hS rfl (wpAny_pure ?_))
  refine id (?_ : wpAny _ _ (updateSeq S (fun _ => #[]) >>= fun _ => letGo (#[] : Array Value).toList.reverse >>= fun _ => Builtin.List.listExtendWith (.ref S) (.ref r) .none) _ _ s)
  refine wpAny_bind (wpAny_updateSeq hS rfl ?_)
  have S2 := Heap.get?_update_self (Obj.mapSeq (fun _ => (#[] : Array Value))) hS rfl
  have kp : ∀ b o, b ≠ S → s.heap.get? b = some o → (s.heap.update S (Obj.mapSeq (fun _ => (#[] : Array Value)))).get? b = some o := fun b o hb e => (Heap.get?_update_other _ _ (Ne.symm hb)).trans e
  exact wpAny_bind (wpAny_letGo (DT.extI (es := es) (ep := ep) hh (let ⟨o, ho, x⟩ := hv; ⟨o, kp r o n1.symm ho, x⟩) (hm.at' fun o e => kp d o n2 e) S n1 n2 .none _ S2 (fun h' tk acc c as hk hS' hl hG hacc => hR h' tk acc c as (fun b o hb e => hk b o hb (kp b o hb e)) hS' hl (hG.low (Nat.le_of_lt (Heap.lt_size S2))) hacc) hn))
theorem list_call {Q : Value → Shared → Prop} (hh : A.handled = none) (hv : s.heap.IsItemsView r d) (hm : DT.Raw s.heap d es ep) (hn : es.size ≤ sizeLine)
    (hQ : ∀ h' tk acc c as, (∀ b o, s.heap.get? b = some o → h'.get? b = some o) → h'.get? s.heap.objs.size = some { cls := .type "list", dict := none, data := .seq acc c, slots := #[] } → as.length = es.size → DT.Made es s.heap.objs.size h' as → acc.toList = as.map Value.ref → Q (.ref s.heap.objs.size) { s with heap := h', toks := tk }) :
    wpAny (model prog w) A (call (.type "list") [.ref r]) Q E s := by
  refine callType_codes (Q₁ := fun obj s₁ => obj = .ref s.heap.objs.size ∧ s₁ = { s with heap := s.heap.push { cls := .type "list", data := .seq #[] } }) PySem.F.called_list (PySem.F.typeCall_list_1 _) PySem.F.entry_list_init (code_list_new _ ⟨rfl, rfl⟩) fun obj s₁ h₁ => ?_
  obtain ⟨rfl, rfl⟩ := h₁
  have at1 : (s.heap.push { cls := .type "list", data := .seq #[] }).get? s.heap.objs.size = some { cls := .type "list", data := .seq #[] } := Heap.get?_push_size _ rfl
  have l1 : r < s.heap.objs.size := let ⟨_, ho, _⟩ := hv; Heap.lt_size ho
  have l2 : d < s.heap.objs.size := hm.lt
  exact ⟨⟨_, at1, rfl⟩, PySem.F.args_list_init_2 _ _, list_init (es := es) (ep := ep) (A := A.in1) hh (let ⟨o, ho, x⟩ := hv; ⟨o, Heap.get?_push_of_some _ ho, x⟩) (hm.push _) _ (Nat.ne_of_gt l1) (Nat.ne_of_lt l2) at1 hn fun h' tk acc c as hk hS' hl hG hacc => ⟨rfl, hQ h' tk acc c as (fun b o e => hk b o (Nat.ne_of_lt (Heap.lt_size e)) (Heap.get?_push_of_some _ e)) hS' hl hG hacc⟩⟩
end
end Mz
namespace L2
open PySem PySem.Spec PyProof.Rows
/-- many new things are tracked at once -/
def layL (H : Hp) (L : List (Addr × HO)) : Hp := fun b => match L.lookup b with
  | some o => some o
  | none => H b
theorem layL_in {H : Hp} : ∀ {L : List (Addr × HO)} {a : Addr} {o : HO}, (L.map (·.1)).Nodup → (a, o) ∈ L → layL H L a = some o := fun {L a o} hn hm => by
  have : L.lookup a = some o := by
    induction L with
    | nil => exact nomatch hm
    | cons p L ih =>
      rw [List.map_cons, List.nodup_cons] at hn
      rcases List.mem_cons.mp hm with e | e
      · rw [← e]; simp
      · have ne : ¬ a = p.1 := fun q => hn.1 (List.mem_map.mpr ⟨_, e, q⟩)
        obtain ⟨p1, p2⟩ := p
        rw [List.lookup_cons]
        rw [show (a == p1) = false from beq_eq_false_iff_ne.mpr ne]
        exact ih hn.2 e
  unfold layL
  rw [this]
theorem layL_out {H : Hp} {L : List (Addr × HO)} {a : Addr} (h : a ∉ L.map (·.1)) : layL H L a = H a := by
  have : L.lookup a = none := by
    induction L with
    | nil => rfl
    | cons p L ih =>
      rw [List.map_cons, List.mem_cons, not_or] at h
      obtain ⟨p1, p2⟩ := p
      rw [List.lookup_cons, show (a == p1) = false from beq_eq_false_iff_ne.mpr h.1]
      exact ih h.2
  unfold layL
  rw [this]
theorem lk_mem {a : Addr} {o : HO} : ∀ {L : List (Addr × HO)}, L.lookup a = some o → (a, o) ∈ L
  | [], h => nomatch h
  | (p1, p2) :: L, h => by
    by_cases e : a = p1
    · rw [e] at h ⊢
      simp at h
      rw [h]
      exact List.mem_cons_self
    · rw [List.lookup_cons, show (a == p1) = false from beq_eq_false_iff_ne.mpr e] at h
      exact List.mem_cons_of_mem _ (lk_mem h)
theorem layL_cases {H : Hp} {L : List (Addr × HO)} {a : Addr} {o : HO} (h : layL H L a = some o) : (a ∈ L.map (·.1) ∧ (a, o) ∈ L) ∨ (a ∉ L.map (·.1) ∧ H a = some o) := by
  by_cases hm : a ∈ L.map (·.1)
  · refine .inl ⟨hm, ?_⟩
    have : ∃ u, L.lookup a = some u := by
      induction L with
      | nil => exact nomatch hm
      | cons p L ih =>
        obtain ⟨p1, p2⟩ := p
        by_cases e : a = p1
        · exact ⟨p2, by rw [e]; simp⟩
        · rw [List.lookup_cons, show (a == p1) = false from beq_eq_false_iff_ne.mpr e]
          refine ih ?_ ?_
          · unfold layL at h ⊢
            rw [List.lookup_cons, show (a == p1) = false from beq_eq_false_iff_ne.mpr e] at h
            exact h
          · rcases List.mem_cons.mp hm with q | q
            · exact absurd q e
            · exact q
    obtain ⟨u, hu⟩ := this
    unfold layL at h
    rw [hu] at h
    rw [← Option.some.inj h]
    exact lk_mem hu
  · exact .inr ⟨hm, by rw [layL_out hm] at h; exact h⟩
section
variable {X : Cx} {pins : List (Addr × Obj)} {σ : St} {H : Hp} {s : Shared} {h' : Heap} {tk : Nat} {L : List (Addr × HO)}
theorem lay_all (I : Inv X pins σ H s) (hk : ∀ b o, s.heap.get? b = some o → h'.get? b = some o) (hn : ∀ p ∈ L, s.heap.objs.size ≤ p.1) (hob : ∀ p ∈ L, ObjOk X.prog X.w (layL H L) h' p.1 p.2) : Inv X pins σ (layL H L) { s with heap := h', toks := tk } := by
  have off : ∀ b o, s.heap.get? b = some o → b ∉ L.map (·.1) := fun b o e hm => by
    obtain ⟨p, hp, ep⟩ := List.mem_map.mp hm
    have := hn p hp
    rw [ep] at this
    exact absurd (Heap.lt_size e) (Nat.not_lt.mpr this)
  have kp : ∀ b u, H b = some u → layL H L b = some u := fun b u e => by
    rw [layL_out fun hm => ?_]
    · exact e
    · obtain ⟨p, hp, ep⟩ := List.mem_map.mp hm
      have := hn p hp
      rw [ep] at this
      exact absurd (I.hok.lt e) (Nat.not_lt.mpr this)
  refine I.call' (ch := []) rfl ⟨fun b o q _ _ _ => hk b o q, fun b o q _ _ _ => ⟨o.slots, hk b o q⟩, fun b o q n _ => ?_, fun b o q _ => ⟨o, hk b o q⟩, fun b xs q => kp b _ q, fun b o u q => kp b _ q, fun b ps q => ⟨#[], by rw [kp b _ q]; simp⟩⟩ (fun b u q => ?_) I.bare fun b z => by simp at z
  · rw [layL_out (off b o q)]; exact n
  · rcases layL_cases q with ⟨_, hm⟩ | ⟨_, hm⟩
    · exact hob _ hm
    · exact (I.hok b u hm).stay (fun c v _ y => hk c v y) (fun c y => kp c _ y) fun c xs y => kp c _ y
end
section
variable {X : Cx} {e : Expr} {te : TE} {p apos cpos pos : Pos}
def tListT (te : TE) : TE := fun σ H Q => te σ H fun x H1 => ∃ (d : Addr) (kvs : List (List Key × V)), x = .ref d ∧ H1 d = some (.dT kvs) ∧
  ∀ (H' : Hp) (q : Addr) (ts : List Addr), (∀ b o, H1 b = some o → H' b = some o) → H' q = some (.lst (ts.map V.ref)) → ts.length = kvs.length → (∀ (i : Nat) (t : Addr) (k : List Key) (v : V), ts[i]? = some t → kvs[i]? = some (k, v) → ∃ b, H' t = some (.tup [.ref b, v]) ∧ H' b = some (.tup (k.map kV))) → Q (.ref q) H'
theorem vals_ref : ∀ as : List Addr, Vals (as.map V.ref) (as.map Value.ref)
  | [] => .nil
  | _ :: as => .cons rfl (vals_ref as)
theorem pe_listT (hc : X.calm = true) (he : PE X e te) (hg : Gl X "list") (hm : X.mg "list" = none) (hbase : attributeBase e "items" X.env (eval e X.env) = eval e X.env := by rfl) (hline : (apos.endLine == cpos.line) = true := by rfl)
    (hs : starEach [.Call (.Attribute e "items" apos) [] [] cpos] X.env = (false, eval (.Call (.Attribute e "items" apos) [] [] cpos) X.env) :: starEach [] X.env := by rfl) : PE X (.Call (.Name "list" p) [.Call (.Attribute e "items" apos) [] [] cpos] [] pos) (tListT te) := by
  refine ⟨fun pins s σ H Q I hq => ?_⟩
  refine wpAny_Call_Name_kw (ld_blt I hg hm (u := .type "list") (by decide +kernel) (PyProof.Rows.callWith_type1 ?_ hs rfl))
  rw [hs]
  refine Calls.spliced_cons (wpAny_Call_method (T := "dict") (id := "dict.items") hbase rfl hline PySem.F.plainAttrs_dict PySem.F.slot_dict_items PySem.F.type_dict_items (thn (he.run pins s σ H _ I hq) fun u s1 ⟨x, H1, I1, rx, d, kvs, ex, hd, q⟩ => ?_))
  subst ex
  obtain rfl : u = Value.ref d := rx
  obtain ⟨hz, hs0, xs, rel, o, es, ep, ho, hx, hdt, hes, hnd⟩ := I1.hok d _ hd
  have raw : DT.Raw s1.heap d es ep := ⟨o, ho, hx, hdt⟩
  have lk : kvs.length = xs.length := Paired.length rel
  have ls : es.size = xs.length := size_of_entries hes
  have I2 : Inv X pins σ H1 { s1 with heap := s1.heap.push { cls := .type "dict_items", data := .fields #[.ref d] } } := I1.kept (t' := s1.toks) fun b ob q => Heap.get?_push_of_some _ q
  refine ⟨⟨o, ho, hx.1⟩, fun b z => by cases z; exact ⟨o, ho, hx.2.1⟩, ?_⟩
  refine id (?_ : wpAny _ _ (callWith cpos (.builtin "dict.items") [.ref d] [] []) _ X.xe s1)
  refine method_meetsIn PySem.F.slot_dict_items PySem.F.entry_dict_items rfl (PySem.evalArgs_none ⟨rfl, ⟨o, ho, hx.1⟩, PySem.F.args_dict_items_1 _, _, meets_dict_items_raw d hs0, ⟨es, ep, o, ho, hx, hdt⟩, Calls.spliced_nil ?_⟩)
  refine Mz.list_call (es := es) (ep := ep) (I1.ok.hd hc) ⟨_, Heap.get?_push_size _ rfl, rfl, rfl⟩ (raw.push _) (by omega) fun h' tk acc c as hk hS hl hG hacc => ?_
  -- what the pairs are
  have ent : ∀ (i : Nat) (t : Addr), as[i]? = some t → ∃ (k : List Key) (v : V) (b : Addr) (u : Value), kvs[i]? = some (k, v) ∧ H1 b = some (.tup (k.map kV)) ∧ RelV v u ∧ h'.get? t = some { cls := .type "tuple", data := .seq #[.ref b, u] } := fun i t ht => by
    obtain ⟨en, e1, e2⟩ := hG.pairs i t ht
    rw [entry_at hes i] at e1
    cases hxi : xs[i]? with
    | none => rw [hxi] at e1; exact nomatch e1
    | some x =>
      rw [hxi] at e1
      have hi : i < kvs.length := by rw [lk]; exact (List.getElem?_eq_some_iff.mp hxi).1
      obtain ⟨y, hy, r1, r2, r3⟩ := paired_get rel (List.getElem?_eq_getElem hi)
      rw [hxi] at hy
      cases hy
      rw [← Option.some.inj e1] at e2
      exact ⟨_, _, x.2.1, x.2.2, List.getElem?_eq_getElem hi, r2, r3, e2⟩
  let vOf : Nat → List V := fun i => match kvs[i]? with
    | some kv => match xs[i]? with
      | some x => [.ref x.2.1, kv.2]
      | none => []
    | none => []
  let L : List (Addr × HO) := (({ s1 with heap := s1.heap.push { cls := .type "dict_items", data := .fields #[.ref d] } } : Shared).heap.objs.size, .lst (as.map V.ref)) :: as.zipIdx.map fun ti => (ti.1, .tup (vOf ti.2))
  have vOf_ok : ∀ (i : Nat) (t : Addr), as[i]? = some t → ∃ (k : List Key) (v : V) (b : Addr) (u : Value), kvs[i]? = some (k, v) ∧ vOf i = [.ref b, v] ∧ H1 b = some (.tup (k.map kV)) ∧ RelV v u ∧ h'.get? t = some { cls := .type "tuple", data := .seq #[.ref b, u] } := fun i t ht => by
    obtain ⟨en, e1, e2⟩ := hG.pairs i t ht
    rw [entry_at hes i] at e1
    cases hxi : xs[i]? with
    | none => rw [hxi] at e1; exact nomatch e1
    | some x =>
      rw [hxi] at e1
      have hi : i < kvs.length := by rw [lk]; exact (List.getElem?_eq_some_iff.mp hxi).1
      obtain ⟨y, hy, r1, r2, r3⟩ := paired_get rel (List.getElem?_eq_getElem hi)
      rw [hxi] at hy
      cases hy
      rw [← Option.some.inj e1] at e2
      refine ⟨_, _, x.2.1, x.2.2, List.getElem?_eq_getElem hi, ?_, r2, r3, e2⟩
      show (match kvs[i]? with | some kv => (match xs[i]? with | some x => [V.ref x.2.1, kv.2] | none => []) | none => []) = _
      rw [List.getElem?_eq_getElem hi, hxi]; rfl
  have memL : ∀ (i : Nat) (t : Addr), as[i]? = some t → (t, HO.tup (vOf i)) ∈ L := fun i t ht => List.mem_cons_of_mem _ (List.mem_map.mpr ⟨(t, i), List.mem_of_getElem? (i := i) (by simp [ht]), rfl⟩)
  have size2 : ({ s1 with heap := s1.heap.push { cls := .type "dict_items", data := .fields #[.ref d] } } : Shared).heap.objs.size = s1.heap.objs.size + 1 := Heap.size_push ..
  have keysL : L.map (·.1) = ({ s1 with heap := s1.heap.push { cls := .type "dict_items", data := .fields #[.ref d] } } : Shared).heap.objs.size :: as := by
    show _ :: _ = _ :: _
    congr 1
    rw [List.map_map]
    have : (fun ti : Addr × Nat => ti.1) = Prod.fst := rfl
    show as.zipIdx.map (fun ti : Addr × Nat => ti.1) = as
    exact List.zipIdx_map_fst 0 as
  have nd : (L.map (·.1)).Nodup := by
    rw [keysL, List.nodup_cons]
    exact ⟨fun hm => Nat.lt_irrefl _ (hG.above _ hm), List.Pairwise.imp (fun {a b} (h : a < b) => Nat.ne_of_lt h) hG.rise⟩
  have J := lay_all (L := L) (tk := tk) I2 hk (fun p hp => ?_) (fun p hp => ?_)
  · refine ⟨.ref _, _, J, rfl, q _ _ as (fun b o hb => ?_) (layL_in nd List.mem_cons_self) (by rw [hl, ls, lk]) fun i t k v ht hkv => ?_⟩
    · rw [layL_out fun hm => ?_]
      · exact hb
      · rw [keysL] at hm
        have hlt := I2.hok.lt hb
        rcases List.mem_cons.mp hm with e | e
        · rw [e] at hlt; exact absurd hlt (Nat.lt_irrefl _)
        · exact absurd hlt (Nat.not_lt.mpr (Nat.le_of_lt (hG.above _ e)))
    · obtain ⟨k', v', b, u, e1, e2, e3, e4, e5⟩ := vOf_ok i t ht
      rw [hkv] at e1
      cases e1
      have z := layL_in (H := H1) nd (memL i t ht)
      rw [e2] at z
      refine ⟨b, z, ?_⟩
      rw [layL_out fun hm => ?_]
      · exact e3
      · rw [keysL] at hm
        have hlt := I2.hok.lt e3
        rcases List.mem_cons.mp hm with e | e
        · rw [e] at hlt; exact absurd hlt (Nat.lt_irrefl _)
        · exact absurd hlt (Nat.not_lt.mpr (Nat.le_of_lt (hG.above _ e)))
  · rcases List.mem_cons.mp hp with e | e
    · rw [e]; exact Nat.le_refl _
    · obtain ⟨ti, hti, e2⟩ := List.mem_map.mp e
      rw [← e2]
      have : ti.1 ∈ as := by
        have := (List.mem_zipIdx hti).2.2
        rw [this]
        exact List.getElem_mem _
      exact Nat.le_of_lt (hG.above _ this)
  · rcases List.mem_cons.mp hp with e | e
    · rw [e]
      refine ⟨by rw [List.length_map]; omega, as.map Value.ref, c, vals_ref as, ?_⟩
      rw [← hacc, Array.toArray_toList]
      exact hS
    · obtain ⟨ti, hti, e2⟩ := List.mem_map.mp e
      rw [← e2]
      have hget : as[ti.2]? = some ti.1 := by
        have h1 := (List.mem_zipIdx hti).2.1
        have h2 := (List.mem_zipIdx hti).2.2
        rw [h2]
        simp at h1 ⊢
      obtain ⟨k', v', b, u, e1, e2', e3, e4, e5⟩ := vOf_ok ti.2 ti.1 hget
      show ObjOk _ _ _ h' ti.1 (.tup (vOf ti.2))
      rw [e2']
      exact ⟨by show 2 ≤ sizeLine; decide, [.ref b, u], .cons rfl (.cons e4 .nil), ⟨_, e5, rfl, _, rfl⟩⟩
end
end L2
set_option maxHeartbeats 1000000
/-! Plain facts for the law; rules for its body. -/
namespace Pan
open PySem PySem.Spec PyProof.Rows L2
/-! ### plain -/
theorem told_set {rows : List (List Int)} {n : Nat} {r : List Int} (h : n < rows.length) : toldM rows (n : Int) r = rows.take n ++ [r] ++ rows.drop (n + 1) := by
  have e1 : rows.take n ++ [r] ++ rows.drop (n + 1) = rows.set n r := by
    rw [List.set_eq_take_append_cons_drop, if_pos h, List.append_assoc]
    rfl
  rw [e1]
  unfold toldM
  apply List.ext_getElem?
  intro k
  rw [List.getElem?_map, List.getElem?_zipIdx, List.getElem?_set]
  by_cases hk : k < rows.length
  · rw [List.getElem?_eq_getElem hk]
    by_cases e : n = k
    · rw [if_pos e, if_pos h]
      simp [e]
    · rw [if_neg e]
      simp
      intro q
      exact absurd (Int.ofNat.inj q.symm) e
  · rw [List.getElem?_eq_none (by omega)]
    have ne : n ≠ k := by omega
    rw [if_neg ne]
    rfl
def inRg (qs : List (List (Int × Int))) (r : List Int) : Prop := r.length = qs.length ∧ ∀ x ∈ r.zip qs, 0 ≤ x.1 ∧ x.1 < (x.2.length : Int)
theorem rows_snoc (qs : List (List (Int × Int))) (q : List (Int × Int)) : rowsOfM (qs ++ [q]) = stepRows (rowsOfM qs) q := by
  unfold rowsOfM
  rw [List.foldl_append]
  rfl
theorem mem_rows (qs : List (List (Int × Int))) : ∀ r, r ∈ rowsOfM qs ↔ inRg qs r := by
  suffices H : ∀ rq : List (List (Int × Int)), ∀ r, r ∈ rowsOfM rq.reverse ↔ inRg rq.reverse r by
    have := H qs.reverse
    rwa [List.reverse_reverse] at this
  intro rq
  induction rq with
  | nil =>
    intro r
    constructor
    · intro h
      have : r = [] := by simpa [rowsOfM] using h
      rw [this]
      exact ⟨rfl, fun x hx => nomatch hx⟩
    · intro h
      have : r = [] := List.length_eq_zero_iff.mp h.1
      rw [this]
      simp [rowsOfM]
  | cons q rq ih =>
    intro r
    rw [List.reverse_cons, rows_snoc]
    constructor
    · intro h
      obtain ⟨r', h1, h2⟩ := List.mem_flatMap.mp h
      obtain ⟨v, hv, rfl⟩ := List.mem_map.mp h2
      obtain ⟨i1, i2⟩ := (ih r').mp h1
      refine ⟨by rw [List.length_append, List.length_append, i1]; rfl, fun x hx => ?_⟩
      rw [List.zip_append i1] at hx
      rcases List.mem_append.mp hx with k | k
      · exact i2 x k
      · have hv' := List.mem_range.mp hv
        rw [List.mem_singleton.mp k]
        exact ⟨by show (0 : Int) ≤ (v : Int); omega, by show (v : Int) < (q.length : Int); omega⟩
    · rintro ⟨h1, h2⟩
      rw [List.length_append] at h1
      have hne : r ≠ [] := fun e => by rw [e] at h1; simp at h1
      obtain ⟨r', x, rfl⟩ : ∃ r' x, r = r' ++ [x] := ⟨r.dropLast, r.getLast hne, (List.dropLast_concat_getLast hne).symm⟩
      have h1' : r'.length = rq.reverse.length := by rw [List.length_append] at h1; simpa using h1
      rw [List.zip_append h1'] at h2
      have hx := h2 (x, q) (List.mem_append_right _ (by simp))
      have hx1 : 0 ≤ x ∧ x < (q.length : Int) := hx
      refine List.mem_flatMap.mpr ⟨r', (ih r').mpr ⟨h1', fun y hy => h2 y (List.mem_append_left _ hy)⟩, List.mem_map.mpr ⟨x.toNat, List.mem_range.mpr (by omega), ?_⟩⟩
      rw [Int.toNat_of_nonneg hx1.1]
theorem okDoor_of {p : PoolM} (h : okPan p) : OkDoor p := by
  refine ⟨h.1, fun hf i hi => ?_⟩
  have hp := h.1
  have hrow : ∀ r ∈ p.rows, inRg p.quotas r := fun r hr => hp.2.2.2.2.2 r hr
  have hil : i.toNat < p.rows.length := by omega
  have hown : p.rows.getD i.toNat [] ∈ p.rows := by
    rw [show p.rows.getD i.toNat [] = p.rows[i.toNat] by simp [List.getD, hil]]
    exact List.getElem_mem _
  refine ⟨hp, hi, hf.2, fun row hr => ⟨hp, ?_, hf.1, hi⟩, (mem_rows _ _).mpr (hrow _ hown)⟩
  have hin := (mem_rows _ _).mp hr
  have hl := toldM_length p.rows i row
  refine ⟨⟨hp.1, hp.2.1, hp.2.2.1, by show 1 ≤ (toldM p.rows i row).length; rw [hl]; exact hp.2.2.2.1, by show (toldM p.rows i row).length ≤ 8; rw [hl]; exact hp.2.2.2.2.1, fun r hr' => ?_⟩, ?_⟩
  · obtain ⟨z, hz, ez⟩ := List.mem_map.mp hr'
    by_cases e : (z.2 : Int) = i
    · rw [if_pos e] at ez
      rw [← ez]
      exact hin
    · rw [if_neg e] at ez
      rw [← ez]
      have : z.1 ∈ p.rows := by
        have := (List.mem_zipIdx hz).2.2
        rw [this]
        exact List.getElem_mem _
      exact hrow _ this
  · show p.size = ((toldM p.rows i row).length : Int) ∨ p.size = ((toldM p.rows i row).length : Int) + 1
    rw [hl]
    exact h.2
theorem keys_put {zs : List (List Int × List Int)} {r : List Int} : (putM zs r r).map (·.1) = if r ∈ zs.map (·.1) then zs.map (·.1) else zs.map (·.1) ++ [r] := by
  unfold putM
  by_cases h : r ∈ zs.map (·.1)
  · have ha : (zs.any fun z => decide (z.1 = r)) = true := by
      obtain ⟨z, hz, ez⟩ := List.mem_map.mp h
      exact List.any_eq_true.mpr ⟨z, hz, decide_eq_true ez⟩
    rw [if_pos ha, if_pos h, List.map_map]
    refine List.map_congr_left fun z _ => ?_
    simp only [Function.comp]
    split <;> rfl
  · have ha : ¬ (zs.any fun z => decide (z.1 = r)) = true := fun ha => by
      obtain ⟨z, hz, ez⟩ := List.any_eq_true.mp ha
      exact h (List.mem_map.mpr ⟨z, hz, of_decide_eq_true ez⟩)
    rw [if_neg ha, if_neg h, List.map_append]
    rfl
theorem find_keys (d : List Int → Bool) : ∀ (xs : List (List Int)) (zs : List (List Int × List Int)), ((xs.foldl (fun zs a => putM zs a a) zs).map (·.1)).find? d = (zs.map (·.1) ++ xs).find? d
  | [], zs => by rw [List.append_nil]; rfl
  | x :: xs, zs => by
    rw [List.foldl_cons, find_keys d xs (putM zs x x), keys_put]
    split
    · rename_i h
      rw [List.find?_append, List.find?_append, List.find?_cons]
      cases hz : (zs.map (·.1)).find? d with
      | some y => rfl
      | none =>
        have hx : ¬ d x = true := List.find?_eq_none.mp hz x h
        simp [hx]
    · rw [List.append_assoc]
      rfl
theorem tel_find (p : PoolM) (d : List Int → Bool) : ((telM p).map (·.1)).find? d = (rowsOfM p.quotas).find? d := by
  have := find_keys d (rowsOfM p.quotas) []
  simpa [telM, dctM] using this
theorem best_fold (d : List Int → Bool) : ∀ (ts : List (List Int × List Int)) (own : List Int), ts.foldl (fun best z => if (d z.1 && !d best) = true then z.1 else best) own = if d own = true then own else ((ts.map (·.1)).find? d).getD own
  | [], own => by simp
  | z :: ts, own => by
    rw [List.foldl_cons, best_fold d ts]
    by_cases h : d own = true
    · simp [h]
    · have h : d own = false := by simpa using h
      by_cases hz : d z.1 = true
      · simp [h, hz]
      · have hz : d z.1 = false := by simpa using hz
        simp [h, hz]
/-- the law's own way to the best -/
theorem best_law (p : PoolM) (i : Int) : bestM p i = if (!drawsM (toldPool p i (p.rows.getD i.toNat [])) && !decide ((rowsOfM p.quotas).filter (fun r => drawsM (toldPool p i r)) = [])) = true then ((rowsOfM p.quotas).filter (fun r => drawsM (toldPool p i r))).headD [] else p.rows.getD i.toNat [] := by
  unfold bestM betM
  rw [best_fold (fun r => drawsM (toldPool p i r)), tel_find p (fun r => drawsM (toldPool p i r)), ← List.head?_filter]
  cases h : drawsM (toldPool p i (p.rows.getD i.toNat [])) with
  | true => simp
  | false =>
    cases hf : (rowsOfM p.quotas).filter (fun r => drawsM (toldPool p i r)) with
    | nil => simp
    | cons a l => simp
/-! ### rules -/
section
variable {T : List (Addr × Str)} {X : Cx} {a b c e : Expr} {σ : L2.St} {H : Hp} {pos p1 p2 apos cpos : Pos} {R : V → Hp → Prop} {D : Ends} {rest body : List Stmt} {α : Type} {m : Nat}
def TT1 (X : Cx) (c : Expr) (σ : L2.St) (H : Hp) (R : Bool → Hp → Prop) : Prop := PT X c fun σ' H1 Q => σ' = σ ∧ H1 = H ∧ ∀ b H2, R b H2 → Q b H2
def TW1 (X : Cx) (c : Expr) (σ : L2.St) (H : Hp) (R : Bool → Hp → Prop) : Prop := PW X c fun σ' H1 Q => σ' = σ ∧ H1 = H ∧ ∀ b H2, R b H2 → Q b H2
theorem ssx_when {Rb : Bool → Hp → Prop} (h : TT1 X c σ H Rb) (q : ∀ b H1, Rb b H1 → (b = true → SS T X body σ H1 (thenD T X rest D)) ∧ (b = false → SS T X rest σ H1 D)) : SS T X (.If c body [] pos :: rest) σ H D :=
  ss_cons (S1.of (ps_if h (t := fun D' σ' H' => D' = thenD T X rest D ∧ SS T X body σ' H' D') (u := fun D' σ' H' => D' = thenD T X rest D ∧ SS T X [] σ' H' D') ⟨fun pins s σ' H' D' I ⟨e1, z⟩ => z.run pins s σ' H' D' I ⟨rfl, rfl, rfl⟩⟩ ⟨fun pins s σ' H' D' I ⟨e1, z⟩ => z.run pins s σ' H' D' I ⟨rfl, rfl, rfl⟩⟩)
    ⟨rfl, rfl, fun b H1 hb => by
      obtain ⟨q1, q2⟩ := q b H1 hb
      cases b with
      | true => exact iteT ⟨rfl, q1 rfl⟩
      | false => exact iteF ⟨rfl, ss_nil (q2 rfl)⟩⟩)
/-- a != b, a by a triple -/
theorem tt_neD {k k2 : Nat} {Sx : Bool → Hp → Prop} (hr : Room m X.A) (ha : EX X a σ H R) (hb : ∀ v H1, R v H1 → ∃ (P1 P2 : Pr T) (d d2 : PyData), P1.p v H1 ∧ Dat T X.K k P1 d ∧ Dat T X.K k2 P2 d2 ∧ EE T X b σ H1 P2 ∧ ∀ H2, Gr T H1 H2 → Sx (!PyData.eqv d d2) H2) (hk : k ≤ 64 := by decide) (hk2 : k2 ≤ 64 := by decide) : TT1 X (.Compare a [.NotEq] [b] pos) σ H Sx :=
  ⟨fun pins s' σ' H' Q I ⟨e1, e2, q⟩ => (pt_cmpR (op_neD hr.units) ha (pe_rdG (T := T)) (nomark _)).run pins s' σ' H' Q I (by
    subst e1 e2
    refine ⟨rfl, rfl, fun v H1 hv => ?_⟩
    obtain ⟨P1, P2, d, d2, h1, h2, h3, h4, h5⟩ := hb v H1 hv
    exact ⟨P2, h4, fun w H2 g hw => ⟨d, d2, h2.dp _ _ (P1.st _ _ _ g h1), h3.dp _ _ hw, h2.shaped hk, h3.shaped hk2, _, rfl, q _ _ (h5 H2 g)⟩⟩)⟩
def rdXx (X : Cx) (b : Expr) : TE := fun σ' H' Q => ∃ R : V → Hp → Prop, EX X b σ' H' R ∧ ∀ w H2, R w H2 → Q w H2
theorem pe_rdXx : PE X b (rdXx X b) := ⟨fun pins s σ' H' Q I ⟨R, h, q⟩ => thnE (h.run I) q⟩
/-- a != b, both by triples -/
theorem tt_neX {k k2 : Nat} {Sx : Bool → Hp → Prop} (hr : Room m X.A) (ha : EX X a σ H R) (hb : ∀ v H1, R v H1 → ∃ Rw : V → Hp → Prop, EX X b σ H1 Rw ∧ ∀ w H2, Rw w H2 → ∃ (P1 P2 : Pr T) (d d2 : PyData), P1.p v H2 ∧ P2.p w H2 ∧ Dat T X.K k P1 d ∧ Dat T X.K k2 P2 d2 ∧ Sx (!PyData.eqv d d2) H2) (hk : k ≤ 64 := by decide) (hk2 : k2 ≤ 64 := by decide) : TT1 X (.Compare a [.NotEq] [b] pos) σ H Sx :=
  ⟨fun pins s' σ' H' Q I ⟨e1, e2, q⟩ => (pt_cmpR (op_neD hr.units) ha pe_rdXx (nomark _)).run pins s' σ' H' Q I (by
    subst e1 e2
    refine ⟨rfl, rfl, fun v H1 hv => ?_⟩
    obtain ⟨Rw, h4, h5⟩ := hb v H1 hv
    refine ⟨Rw, h4, fun w H2 hw => ?_⟩
    obtain ⟨P1, P2, d, d2, h1, h1', h2, h3, h6⟩ := h5 w H2 hw
    exact ⟨d, d2, h2.dp _ _ h1, h3.dp _ _ h1', h2.shaped hk, h3.shaped hk2, _, rfl, q _ _ h6⟩)⟩
def rdTT (X : Cx) (b : Expr) : TT := fun σ' H' Q => ∃ R : Bool → Hp → Prop, TT1 X b σ' H' R ∧ ∀ w H2, R w H2 → Q w H2
theorem pt_rdTT : PT X b (rdTT X b) := ⟨fun pins s σ' H' Q I ⟨R, h, q⟩ => h.run pins s σ' H' Q I ⟨rfl, rfl, q⟩⟩
/-- a or b -/
theorem tt_or {Ra Rb : Bool → Hp → Prop} {q1 : Pos} (ha : TT1 X a σ H Ra) (hb : ∀ u H1, Ra u H1 → (u = true → Rb true H1) ∧ (u = false → TT1 X b σ H1 Rb)) : TT1 X (.BoolOp .Or [a, b] q1) σ H Rb :=
  PW.pt ⟨fun w pins s σ' H' Q I ⟨e1, e2, q⟩ => (pw_or ha (pw_or1 pt_rdTT)).run w pins s σ' H' Q I (by
    subst e1 e2
    refine ⟨rfl, rfl, fun u H1 hu => ?_⟩
    obtain ⟨h1, h2⟩ := hb u H1 hu
    cases u with
    | true => exact iteT (q _ _ (h1 rfl))
    | false => exact iteF ⟨Rb, h2 rfl, q⟩)⟩
theorem Dat.str {K : PySem.W.Frag} (x : Str) (hx : PyData.strOk x = true) : Dat T K 0 (eqP (.str x)) (.str x) := ⟨fun v H h => by rw [show v = V.str x from h]; exact .str x, by simpa only [PyData.canLay0] using hx, by simp only [PyData.depth]; omega⟩
/-- d[k] = v, d a dict by tuples -/
theorem ss_dputT {o i : Expr} {P : Pr T} {Dd : Addr} {kvs : List (List Key × V)} {k : List Int} {q2 : Pos} (hr : Room m X.A) (hd : H Dd = some (.dT kvs)) (hl : kvs.length ≤ 1000) (ho : EE T X o σ H (eqP (.ref Dd))) (hi : EE T X i σ H (itX T X.K k)) (hv : EE T X e σ H P)
    (q : ∀ v H1, Gr T H H1 → P.p v H1 → SS T X rest σ (upd H1 Dd (.dT (putK kvs (kT k) v))) D) (hs : swapsWith e (some (.Subscript o i q2)) pos.line X.env = pure false := by rfl) : SS T X (.Assign [.Subscript o i q2] e pos :: rest) σ H D :=
  ss_cons (S1.of (ps_dput (Room.u1 hr) ho hi hv hs) ⟨rfl, .refl _, fun v H1 g1 h1 => ⟨rfl, g1, fun x H2 g2 h2 => ⟨rfl, g1.trans g2, fun y H3 g3 h3 => by
    obtain ⟨_, kb, rfl, hk⟩ := h3
    exact ⟨Dd, _, h2, DPut.t (((g1.trans g2).trans g3).dT hd) (by rw [kT_tup]; exact hk) (Nat.lt_of_le_of_lt hl (by decide)), q v H3 ((g1.trans g2).trans g3) (P.st _ _ _ (g2.trans g3) h1)⟩⟩⟩⟩)
/-- list(d.items()) -/
theorem ex_listT {RR : α → Pr T} {ts : List (List Int × α)} (hm : X.mg "list" = none) (he : EX X e σ H R) (q : ∀ v H1, R v H1 → ∃ Dd kvs, v = .ref Dd ∧ H1 Dd = some (.dT kvs) ∧ DK2 kT RR kvs ts H1) (hc : X.calm = true := by rfl) (hg : Gl X "list" := by rfl) (hbase : attributeBase e "items" X.env (eval e X.env) = eval e X.env := by rfl) (hline : (apos.endLine == cpos.line) = true := by rfl)
    (hs : starEach [.Call (.Attribute e "items" apos) [] [] cpos] X.env = (false, eval (.Call (.Attribute e "items" apos) [] [] cpos) X.env) :: starEach [] X.env := by rfl) : EX X (.Call (.Name "list" p1) [.Call (.Attribute e "items" apos) [] [] cpos] [] pos) σ H fun w H2 => ∃ v H1, R v H1 ∧ Gr T H1 H2 ∧ (lstP X.K (fun z : List Int × α => pairP X.K (itX T X.K z.1) (RR z.2)) ts).p w H2 :=
  EX.of (pe_listT hc he hg hm hbase hline hs) ⟨rfl, rfl, fun v H1 hv => by
    obtain ⟨Dd, kvs, rfl, hd, hk⟩ := q v H1 hv
    refine ⟨Dd, kvs, rfl, hd, fun H' l tl hkeep hl hlen hp => ⟨_, H1, hv, ?_, l, _, rfl, .inl (.inl hl), ?_⟩⟩
    · exact Gr.of_same fun b o e => hkeep b o e
    · have g : Gr T H1 H' := Gr.of_same fun b o e => hkeep b o e
      have hk' := hk.st g
      have all : ∀ (tl : List Addr) (kvs : List (List Key × V)) (ts : List (List Int × α)), tl.length = kvs.length → DK2 kT RR kvs ts H' → (∀ (i : Nat) (t : Addr) (k : List Key) (v : V), tl[i]? = some t → kvs[i]? = some (k, v) → ∃ b, H' t = some (.tup [.ref b, v]) ∧ H' b = some (.tup (k.map kV))) → All2 (fun z : List Int × α => pairP X.K (itX T X.K z.1) (RR z.2)) (tl.map V.ref) ts H' := fun tl => by
        induction tl with
        | nil => intro kvs ts h1 h2 _; cases kvs with
          | nil => cases ts with
            | nil => trivial
            | cons _ _ => exact h2.elim
          | cons _ _ => exact nomatch h1
        | cons t tl ih => intro kvs ts h1 h2 h3; cases kvs with
          | nil => exact nomatch h1
          | cons kv kvs => cases ts with
            | nil => exact h2.elim
            | cons z ts =>
              refine ⟨?_, ih kvs ts (Nat.succ.inj h1) h2.2 fun i t k v e1 e2 => h3 (i + 1) t k v e1 e2⟩
              obtain ⟨b, e1, e2⟩ := h3 0 t kv.1 kv.2 rfl rfl
              rw [h2.1.1, kT_tup] at e2
              exact ⟨t, .ref b, kv.2, rfl, SqT.of e1, itX_of e2 (all_ints _), h2.1.2⟩
      exact all tl kvs ts hlen hk' hp⟩
end
end Pan
set_option maxHeartbeats 4000000
/-! law, its first steps. -/
namespace Pan
open PySem PySem.Spec PyProof.Rows L2
section
variable {T : List (Addr × Str)} {X : Cx} {e a b c : Expr} {σ : L2.St} {H : Hp} {pos p1 p2 p3 : Pos} {R : V → Hp → Prop} {D : Ends} {rest body : List Stmt}
/-- x, y, z = e -/
theorem ss_unp3X {x y z : Str} {kt : Nat} {p4 : Pos} (i j l : Nat) (h : EX X e σ H R) (hN : X.N.Nodup) (q : ∀ v H1, R v H1 → ∃ t v1 v2 v3, v = .ref t ∧ SqT X.K H1 t [v1, v2, v3] ∧ SS T X rest (((σ.set i (some v1)).set j (some v2)).set l (some v3)) H1 D)
    (hc : X.calm = true := by rfl) (hi : X.N[i]? = some x := by rfl) (hj : X.N[j]? = some y := by rfl) (hl : X.N[l]? = some z := by rfl) (hx : Loc X.env.scope x := by first | exact Or.inl rfl | exact Or.inr rfl) (hy : Loc X.env.scope y := by first | exact Or.inl rfl | exact Or.inr rfl) (hz : Loc X.env.scope z := by first | exact Or.inl rfl | exact Or.inr rfl)
    (hf : X.fn x = true ∨ X.env.scope.names.lookup x = some .local := by first | exact .inl rfl | exact .inr rfl) (hf2 : X.fn y = true ∨ X.env.scope.names.lookup y = some .local := by first | exact .inl rfl | exact .inr rfl) (hf3 : X.fn z = true ∨ X.env.scope.names.lookup z = some .local := by first | exact .inl rfl | exact .inr rfl)
    (hs : swapsWithSole [.Tuple [.Name x p1, .Name y p2, .Name z p3] kt p4] e pos.line X.env = pure false := by rfl) (hw : swappedStores [.Tuple [.Name x p1, .Name y p2, .Name z p3] kt p4] e X.env = pure none := by rfl)
    (h1 : (assignEach [.Tuple [.Name x p1, .Name y p2, .Name z p3] kt p4] X.env).map (·.2) = [assign (.Tuple [.Name x p1, .Name y p2, .Name z p3] kt p4) X.env] := by rfl)
    (hn : (assignEach [.Name x p1, .Name y p2, .Name z p3] X.env).length = 3 := by rfl) (hst0 : (assignEach [.Name x p1, .Name y p2, .Name z p3] X.env).findIdx? (·.1) = none := by rfl)
    (b1 : (assignEach [.Name x p1, .Name y p2, .Name z p3] X.env).map (·.2) = assign (.Name x p1) X.env :: (assignEach [.Name y p2, .Name z p3] X.env).map (·.2) := by rfl) (b2 : (assignEach [.Name y p2, .Name z p3] X.env).map (·.2) = assign (.Name y p2) X.env :: (assignEach [.Name z p3] X.env).map (·.2) := by rfl) (b3 : (assignEach [.Name z p3] X.env).map (·.2) = assign (.Name z p3) X.env :: (assignEach [] X.env).map (·.2) := by rfl) :
    SS T X (.Assign [.Tuple [.Name x p1, .Name y p2, .Name z p3] kt p4] e pos :: rest) σ H D :=
  ss_cons (S1.of (ps_asg h (pg_tup hc (pgs_cons (pg_name hN hi hx hf) (pgs_cons (pg_name hN hj hy hf2) (pgs_cons (pg_name hN hl hz hf3) pgs_nil b3) b2) b1) hn hst0) hs hw h1) ⟨rfl, rfl, fun v H1 hv => by
    obtain ⟨t, v1, v2, v3, ev, hsq, h⟩ := q v H1 hv
    exact ⟨t, [v1, v2, v3], ev, hsq, rfl, _, _, rfl, _, _, rfl, _, _, rfl, rfl, h⟩⟩)
/-- some int -/
def someI (T : List (Addr × Str)) : Pr T := ⟨fun v _ => ∃ z, v = .int z, fun _ _ _ _ h => h⟩
/-- some int from 0 below n -/
def idxP (T : List (Addr × Str)) (n : Nat) : Pr T := ⟨fun v _ => ∃ k : Nat, k < n ∧ v = .int (k : Int), fun _ _ _ _ h => h⟩
theorem ee_convS {x : Str} (hm : X.mg x = none) (ha : EE T X a σ H (someI T)) (hv : bootBuiltins x = some (.type "int") := by decide +kernel) (hg : Gl X x := by rfl) (hn : x ≠ "__name__" := by decide) (hdb : (x == ("__debug__" : Str)) = false := by decide)
    (he : starEach [a] X.env = (false, eval a X.env) :: starEach [] X.env := by rfl) : EE T X (.Call (.Name x p1) [a] [] pos) σ H (someI T) :=
  ee_type call_int1 hm hv (ea_cons ha ea_nil he) (fun vs H1 _ hs Q z => by
    obtain ⟨v, rfl, i, h⟩ := sat1 hs
    exact .inl ⟨i, congrArg (fun y => [y]) h, z _ H1 (.refl _) ⟨i, rfl⟩⟩) hg hn hdb he
theorem ee_modS {n : Nat} (hn : 0 < n) (ha : EE T X a σ H (someI T)) (hb : EE T X b σ H (intP (n : Int))) : EE T X (.BinOp a .Mod b pos) σ H (idxP T n) :=
  ee_op op_mod ha hb fun x y H1 _ ⟨i, hx⟩ hy Q z => ⟨i, n, hx, hy, by show (0 : Int) < (n : Int); omega, z _ H1 (.refl _) ⟨(i % n).toNat, by
    have h1 := Int.emod_nonneg i (show (n : Int) ≠ 0 by omega)
    have h2 := Int.emod_lt_of_pos i (show (0 : Int) < (n : Int) by omega)
    omega, by rw [Int.toNat_of_nonneg (Int.emod_nonneg i (show (n : Int) ≠ 0 by omega))]⟩⟩
end
theorem scLaw : FnScope ["_law_script", "_law_turn", "_law_size", "_law_quotas", "_law_people", "_law_pool", "_law_row", "_law_rows_here", "_law_person", "_law_asks", "_law_ask", "_law_gains", "_law_one", "_law_due", "_law_some", "_law_fine", "_law_best", "_law_a", "_law_b", "_law_c"] ["_law_script"] (defScope (top 56)) := ⟨rfl, rfl, rfl, by decide +kernel, rfl, by decide +kernel, by decide +kernel⟩
theorem lamSX {X : Cx} {N ps : List Str} {sc scope : Scope} (S : FnScope N ps sc) (hs : X.env.scope = sc := by rfl) (h : LamX.lamSB sc scope = true := by decide +kernel) : LamX.LamS X.env.scope scope := by
  rw [hs]
  exact LamX.lamS_by h
section
variable {T : List (Addr × Str)} {P : Program} {w : World} {K : PySem.W.Frag} {mg : Str → Option Value} {base : Heap}
abbrev LawT (T : List (Addr × Str)) (K : PySem.W.Frag) (mg : Str → Option Value) (base : Heap) : Prop := TabsB T K mg base ("law", none) "law.<locals>.<lambda>"
def spLaw (T : List (Addr × Str)) (K : PySem.W.Frag) : Sp := fun vs H Q _ => ∃ (a : Addr) (ns : List Int), vs = [.ref a] ∧ LamX.Tabs T H ∧ SqL K H a (ns.map V.int) ∧ ns.length ≤ 63 ∧ ∀ H', Gr T H H' → Q (.bl true) H'
/-- what the law's lambdas ask -/
theorem law_B {X : Cx} (B : LawT T X.K X.mg X.base) (hcd : X.env.code = .ref (He.codeOf X.K ("law", none))) (hq : X.env.qual = "law.<locals>.") : LamB T X (He.cT X.K ("law", none)).1 (He.cT X.K ("law", none)).2 :=
  ⟨B.tb, hcd, by rw [hq]; exact B.mem, by rw [hq]; exact B.one⟩
abbrev lawX (P : Program) (w : World) (K : PySem.W.Frag) (mg : Str → Option Value) (base : Heap) (cdv : Value) (A : Around) (outer : List Env) (s : Shared) (H : Hp) (E : XK) : Cx := (cxOf CX0 P w K mg base ["_law_script", "_law_turn", "_law_size", "_law_quotas", "_law_people", "_law_pool", "_law_row", "_law_rows_here", "_law_person", "_law_asks", "_law_ask", "_law_gains", "_law_one", "_law_due", "_law_some", "_law_fine", "_law_best", "_law_a", "_law_b", "_law_c"] "law" (defScope (top 56)) (He.ga K "law") cdv A outer s H E).nox
def forB : Stmt → List Stmt
  | .For _ _ b _ _ => b
  | _ => []
def ifT : Stmt → List Stmt
  | .If _ t _ _ => t
  | _ => []
def ifF : Stmt → List Stmt
  | .If _ _ t _ => t
  | _ => []
def lawBody : List Stmt := forB ((defBody (top 56)).getD 0 (.Pass ⟨0, 0, 0, 0⟩))
def lawIf : Stmt := lawBody.getD 5 (.Pass ⟨0, 0, 0, 0⟩)
/-- a kept lambda -/
structure LamE where
  params : Arguments
  body : Expr
  scope : Scope
def lamOf : Expr → LamE
  | .Lambda p b s _ => ⟨p, b, s⟩
  | e => ⟨defArgs (top 56), e, defScope (top 56)⟩
def lstOf : Stmt → List Expr
  | .Assign _ (.List es _) _ => es
  | _ => []
def askL (n : Nat) : LamE := lamOf ((lstOf ((ifT lawIf).getD 0 (.Pass ⟨0, 0, 0, 0⟩))).getD n (.Constant .none 0 ⟨0, 0, 0, 0⟩))
/-- the value is this lambda, made in X -/
def keptP (T : List (Addr × Str)) (X : Cx) (l : LamE) : Pr T := ⟨fun v H => ∃ f c, v = .ref f ∧ H f = some (FnO (X.env.qual ++ "<lambda>") (cloFrom X.env.cells l.scope.names []) l.params l.body l.scope f c) ∧ H c = some (LamX.CodeO c (X.env.qual ++ "<lambda>")),
  fun _ _ _ g ⟨f, c, e, h1, h2⟩ => ⟨f, c, e, g.ext _ _ h1 fun ps => fnO_tbl ps, g.ext _ _ h2 LamX.codeO_ne⟩⟩
end
end Pan
set_option maxHeartbeats 4000000
/-! law: too many people or tellings. -/
namespace Pan
open PySem PySem.Spec PyProof.Rows L2
section
variable {T : List (Addr × Str)} {X : Cx} {e a b c : Expr} {σ : L2.St} {H : Hp} {pos : Pos}
theorem lamSY {X : Cx} {sc scope : Scope} (hs : X.env.scope = sc) (h : LamX.lamSB sc scope = true := by decide +kernel) : LamX.LamS X.env.scope scope := by
  rw [hs]
  exact LamX.lamS_by h
theorem law_Bb {s : Shared} {Hs : Hp} {C : Addr} {cl : List (Str × Addr)} {fp : List Addr} {scope : Scope} {c P : Addr} (B : LamB T X c P) : LamB T (bl X scope s Hs C cl fp) c P := ⟨B.tb, B.code, B.mem, B.one⟩
/-- [s] * n -/
theorem ee_repS {x : Str} {n : Nat} {q1 q2 q3 : Pos} {z1 z2 : Nat} (hn : n ≤ 100) : EE T X (.BinOp (.List [.Constant (.str x) z1 q1] q3) .Mult (.Constant (.int (n : Int)) z2 q2) pos) σ H (lstP X.K (fun _ : Nat => eqP (.str x)) (List.range n)) := by
  refine ee_op (P1 := lxP (fun _ : Unit => eqP (.str x)) [()]) (P2 := intP (n : Int)) op_rep (NewL.lx (nl_lst (ea_cons ee_str ea_nil)) fun vs H1 _ hS => ?_) ee_int fun u v H1 _ hu hv Q z => ?_
  · obtain ⟨y, rfl, hy⟩ := sat1 hS
    exact ⟨hy, trivial⟩
  · obtain ⟨l, vs, e, hl, ha⟩ := hu
    have e2 : vs = [.str x] := by
      cases vs with
      | nil => exact ha.elim
      | cons y ys =>
        cases ys with
        | nil => rw [show y = V.str x from ha.1]
        | cons _ _ => exact ha.2.elim
    subst e2
    refine ⟨l, (n : Int), _, e, hv, hl, by omega, by omega, ?_, fun q hq => z _ _ (.new hq) ⟨q, _, rfl, .inl (.inl upd_same), ?_⟩⟩
    · have : (1000 : Nat) ≤ sizeLine := by decide
      simp only [List.length_singleton, Int.toNat_natCast]
      omega
    · rw [Int.toNat_natCast]
      have all : ∀ (H' : Hp) (n : Nat) (is : List Nat), is.length = n → All2 (T := T) (fun _ : Nat => eqP (.str x)) (List.replicate n [V.str x]).flatten is H' := fun H' n => by
        induction n with
        | zero => intro is h; rw [List.length_eq_zero_iff.mp h]; trivial
        | succ n ih => intro is h; cases is with
          | nil => exact nomatch h
          | cons i is => exact ⟨rfl, ih is (Nat.succ.inj h)⟩
      exact all _ n _ List.length_range
end
section
variable {T : List (Addr × Str)} {P : Program} {w : World} {K : PySem.W.Frag} {mg : Str → Option Value} {base : Heap}
theorem law_large (W : Wd K mg) (BB : BadT T K mg base) {cdv : Value} {A : Around} {outer : List Env} {s : Shared} {H0 H : Hp} {E : XK} {D : Ends} {p : PoolM} {k : Nat} {u0 u1 u2 u3 u4 u6 u7 u9 u11 u12 u13 u14 u15 u16 : Option V} {pv : V}
    (B : LamB T (lawX P w K mg base cdv A outer s H0 E) (He.cT K ("law", none)).1 (He.cT K ("law", none)).2)
    (hr : Room 16 (A.deeper (envOfC "law" (defScope (top 56)) s.heap.objs.size (He.ga K "law") cdv))) (hT : LamX.Tabs T H) (hpv : (poolP T K p).p pv H) (ok : okPan p) (hk : k < p.rows.length) (hf : ¬ fewM p)
    (hD : ∀ v9 H', Gr T H H' → D.nx [u0, u1, u2, u3, u4, some pv, u6, u7, some (.int (k : Int)), v9, none, u11, u12, u13, u14, u15, u16, none, none, none] H') :
    SS T (lawX P w K mg base cdv A outer s H0 E) (ifT lawIf) [u0, u1, u2, u3, u4, some pv, u6, u7, some (.int (k : Int)), u9, none, u11, u12, u13, u14, u15, u16, none, none, none] H D := by
  have Lt := ok_tellings (T := T) (P := P) (w := w) (base := base) W BB
  have Lb := ok_best_telling (T := T) (P := P) (w := w) (base := base) W BB
  have Lg := ok_who_gains (T := T) (P := P) (w := w) (base := base) W BB
  have od := okDoor_of ok
  refine ssx_set 9 (R := fun v H' => Gr T H H' ∧ (lstP K (keptP T (lawX P w K mg base cdv A outer s H0 E)) [askL 0, askL 1, askL 2]).p v H') (EX.of (pe_lst (pa_cons (pe_made B rfl fun ok => (lamS1X (p := "_law_a") scLaw).has ok) (pa_cons (pe_made B rfl fun ok => (lamS1X (p := "_law_b") scLaw).has ok) (pa_cons (pe_made B rfl fun ok => (lamS1X (p := "_law_c") scLaw).has ok) pa_nil)))) ⟨hT, fun f1 c1 G1 g1 n1 a1 b1 => ⟨g1.tab hT, fun f2 c2 G2 g2 n2 a2 b2 => ⟨(g1.trans g2).tab hT, fun f3 c3 G3 g3 n3 a3 b3 => ⟨(by decide : (3 : Nat) ≤ sizeLine), fun q hq => ⟨((g1.trans g2).trans g3).trans (.new hq), ?_⟩⟩⟩⟩⟩) scLaw.nd fun lv H1 ⟨g1, hlv⟩ => ?_
  · have k1 : (keptP T (lawX P w K mg base cdv A outer s H0 E) (askL 0)).p (.ref f1) G1 := ⟨f1, c1, rfl, a1, b1⟩
    have k2 : (keptP T (lawX P w K mg base cdv A outer s H0 E) (askL 1)).p (.ref f2) G2 := ⟨f2, c2, rfl, a2, b2⟩
    have k3 : (keptP T (lawX P w K mg base cdv A outer s H0 E) (askL 2)).p (.ref f3) G3 := ⟨f3, c3, rfl, a3, b3⟩
    exact ⟨q, _, rfl, .inl (.inl upd_same), Pr.st _ _ _ _ ((g2.trans g3).trans (.new hq)) k1, Pr.st _ _ _ _ (g3.trans (.new hq)) k2, Pr.st _ _ _ _ (.new hq) k3, trivial⟩
  · refine ssx_when (Rb := fun b H' => b = false ∧ Gr T H1 H') (tt_neD (T := T) (k := 1) (k2 := 1) hr (ex_lcI (T := T) (g := gName 10) (own := [("_law_ask", 10)]) (Ro := fun _ : LamE => V.str "large") (Bd := fun l σ' σ2 H' => ∃ v, (keptP T (lawX P w K mg base cdv A outer s H0 E) l).p v H' ∧ σ2 = σ'.set 10 (some v)) (src_list (ee_var 9 rfl hlv)) (by decide) scLaw.nd (blkX scLaw [("_law_ask", 10)]) (pgNc 10 scLaw.nd rfl rfl rfl) (fun l v σ' H' Q hv q => q _ ⟨v, hv, rfl⟩) (fun l σ2 H' ⟨v, _, e⟩ => by rw [e]; rfl) ?_) ?_) fun b H2 ⟨eb, g2⟩ => ⟨fun e => absurd (eb.symm.trans e) (by decide), fun _ => ss_nil (T := T) (hD _ H2 (g1.trans g2))⟩
    · rintro l σ2 H2 hl g2 ⟨lf, hlf, eσ⟩ s2 Hs C cl fp good
      subst eσ
      have g02 := g1.trans g2
      refine ex_lawTold (T := T) (R := fun v H' => Gr T H2 H' ∧ v = V.str "large") (R' := fun _ _ => False) (QL := fun H' => Gr T H2 H') (QP := fun _ => False) (k := 14) W (law_Bb B) hr (lamSY (sc := relS _ (defScope (top 56))) rfl) (g02.tab hT) rfl (fun _ _ _ _ _ => rfl) (fun pins s' H3 A' outer' s1 f c' I3 g3 un hr3 => ?_) (fun _ _ h => h.elim) (fun _ g => ⟨g, rfl⟩) (fun _ h => h.elim)
      obtain ⟨fi, ci, rfl, hfi, hci⟩ := (keptP T (lawX P w K mg base cdv A outer s H0 E) l).st _ _ _ g3 hlf
      have g03 := g02.trans g3
      have hp3 := (poolP T K p).st _ _ _ g03 hpv
      rcases List.mem_cons.mp hl with rfl | hl
      · exact ex_ask (ia := 10) (ib := 5) (j := 17) (k := 13) good I3 un hr3 (lamS1X scLaw) scLaw.nd rfl (fun _ _ _ _ _ _ => rfl) hfi hci rfl rfl rfl rfl (.inr (.inr rfl)) (.inr (.inr rfl)) fun A2 o2 s3 hr4 => ex_callC (T := T) (E := tE K (fun H' => Gr T H2 H') (fun _ => False)) (Ps := [poolP T K p, intP (k : Int)]) (takes_of rfl rfl rfl rfl) Lt W.g_tellings.mg W.g_tellings.kp hr4 (ea_cons (ee_var 17 rfl hp3) (ea_cons (ee_var (P := intP (k : Int)) 8 rfl rfl) ea_nil)) fun ws H8 g8 hws => ⟨p, (k : Int), od, (g03.trans g8).tab hT, hws, fun h => absurd (by omega) h, fun _ _ H' g => .inl ⟨rfl, (g3.trans g8).trans g⟩, fun _ h => absurd h hf⟩
      rcases List.mem_cons.mp hl with rfl | hl
      · exact ex_ask (ia := 10) (ib := 5) (j := 18) (k := 13) good I3 un hr3 (lamS1X scLaw) scLaw.nd rfl (fun _ _ _ _ _ _ => rfl) hfi hci rfl rfl rfl rfl (.inr (.inr rfl)) (.inr (.inr rfl)) fun A2 o2 s3 hr4 => ex_callC (T := T) (E := tE K (fun H' => Gr T H2 H') (fun _ => False)) (Ps := [poolP T K p, intP (k : Int)]) (takes_of rfl rfl rfl rfl) Lb W.g_best_telling.mg W.g_best_telling.kp hr4 (ea_cons (ee_var 18 rfl hp3) (ea_cons (ee_var (P := intP (k : Int)) 8 rfl rfl) ea_nil)) fun ws H8 g8 hws => ⟨p, (k : Int), od, (g03.trans g8).tab hT, hws, by omega, fun _ H' g => .inl ⟨rfl, (g3.trans g8).trans g⟩, fun h => absurd h hf⟩
      · rw [List.mem_singleton] at hl
        subst hl
        exact ex_ask (ia := 10) (ib := 5) (j := 19) (k := 13) good I3 un hr3 (lamS1X scLaw) scLaw.nd rfl (fun _ _ _ _ _ _ => rfl) hfi hci rfl rfl rfl rfl (.inr (.inr rfl)) (.inr (.inr rfl)) fun A2 o2 s3 hr4 => ex_callC (T := T) (E := tE K (fun H' => Gr T H2 H') (fun _ => False)) (Ps := [poolP T K p]) (takes_of rfl rfl rfl rfl) Lg W.g_who_gains.mg W.g_who_gains.kp hr4 (ea_cons (ee_var 19 rfl hp3) ea_nil) fun ws H8 g8 hws => ⟨p, od, (g03.trans g8).tab hT, hws, fun _ H' g => .inl ⟨rfl, (g3.trans g8).trans g⟩, fun h => absurd h hf⟩
    · rintro v H2 ⟨g2, D', rfl, hD'⟩
      exact ⟨lstP K (fun _ : Nat => eqP (.str "large")) (List.range 3), lstP K (fun _ : Nat => eqP (.str "large")) (List.range 3), _, _, ⟨D', _, rfl, .inl (.inl hD'), rfl, rfl, rfl, trivial⟩, Dat.lst (k := 0) (f := fun _ => .str "large") fun i _ => Dat.str _ (by decide +kernel), Dat.lst (k := 0) (f := fun _ => .str "large") fun i _ => Dat.str _ (by decide +kernel), ee_repS (n := 3) (by decide), fun H3 g3 => ⟨by decide +kernel, g2.trans g3⟩⟩
end
end Pan
set_option maxHeartbeats 4000000
/-! law: few people, few tellings. -/
namespace Pan
open PySem PySem.Spec PyProof.Rows L2
def lawLoop : List Stmt := forB ((ifF lawIf).getD 1 (.Pass ⟨0, 0, 0, 0⟩))
theorem dct_snoc {xs : List (List Int)} {i : Nat} {r : List Int} (h : xs[i]? = some r) : dctM (fun r : List Int => r) (xs.take (i + 1)) = putM (dctM (fun r : List Int => r) (xs.take i)) r r := by
  unfold dctM
  rw [List.take_add_one, h, List.foldl_append]
  rfl
theorem putM_len {zs : List (List Int × List Int)} {r v : List Int} : (putM zs r v).length ≤ zs.length + 1 := by
  unfold putM
  split
  · rw [List.length_map]; omega
  · rw [List.length_append]; exact Nat.le_refl _
theorem dct_len : ∀ (xs : List (List Int)), (dctM (fun r : List Int => r) xs).length ≤ xs.length := fun xs => by
  have H : ∀ (xs : List (List Int)) (zs : List (List Int × List Int)), (xs.foldl (fun zs a => putM zs a a) zs).length ≤ zs.length + xs.length := fun xs => by
    induction xs with
    | nil => intro zs; exact Nat.le_refl _
    | cons x xs ih =>
      intro zs
      have h1 := ih (putM zs x x)
      have h2 := putM_len (zs := zs) (r := x) (v := x)
      rw [List.foldl_cons, List.length_cons]
      omega
  have := H xs []
  simpa [dctM] using this
/-- a told pool draws -/
theorem draws_told {p : PoolM} {j : Nat} {r : List Int} (hj : j < p.rows.length) : drawsM (toldPool p (j : Int) r) = (decide (p.size = (p.rows.length : Int)) && keepsM (p.rows.take j ++ [r] ++ p.rows.drop (j + 1)) p.quotas (allI (p.rows.take j ++ [r] ++ p.rows.drop (j + 1)).length)) := by
  have hl := toldM_length p.rows (j : Int) r
  unfold drawsM toldPool
  simp only
  rw [hl, ← told_set hj, hl]
theorem told_len {rows : List (List Int)} {j : Nat} {r : List Int} (hj : j < rows.length) : (rows.take j ++ [r] ++ rows.drop (j + 1)).length = rows.length := by
  rw [← told_set hj]
  exact toldM_length _ _ _
theorem eqv_same {α : Type} {f : α → PyData} : ∀ (xs : List α), (∀ z ∈ xs, PyData.eqv (f z) (f z) = true) → PyData.eqv (.list (xs.map f)) (.list (xs.map f)) = true := fun xs h => by
  simp only [PyData.eqv]
  induction xs with
  | nil => rfl
  | cons x xs ih =>
    simp only [List.map_cons, PyData.eqvAll, h x List.mem_cons_self, ih fun z hz => h z (List.mem_cons_of_mem _ hz), Bool.and_self]
def optD (b : Bool) : PyData := if b = true then dI [1, 1] else .none
theorem dat_opt {T : List (Addr × Str)} {K : PySem.W.Frag} {b : Bool} : Dat T K 1 (optP T K b) (optD b) := by
  cases b with
  | true => exact Dat.ints [1, 1]
  | false => exact Dat.non.mono (by decide)
theorem eqv_two {a b : PyData} (h1 : PyData.eqv a a = true) (h2 : PyData.eqv b b = true) : PyData.eqv (.tuple [a, b]) (.tuple [a, b]) = true := by
  simp only [PyData.eqv, PyData.eqvAll, h1, h2, Bool.and_self]
theorem eqv_ent {r : List Int} {b : Bool} : PyData.eqv (.tuple [dI r, optD b]) (.tuple [dI r, optD b]) = true := by
  have h1 : PyData.eqv (dI r) (dI r) = true := by rw [eqv_ints]; exact decide_eq_true rfl
  have h2 : PyData.eqv (optD b) (optD b) = true := by
    cases b with
    | true => exact (eqv_ints (xs := [1, 1]) (ys := [1, 1])).trans (by decide)
    | false => rfl
  exact eqv_two h1 h2
theorem gains_snoc {p : PoolM} {j : Nat} : (List.range (j + 1)).filter (gainM p) = (List.range j).filter (gainM p) ++ if gainM p j = true then [j] else [] := by
  rw [List.range_succ, List.filter_append, List.filter_cons, List.filter_nil]
section
variable {T : List (Addr × Str)} {P : Program} {w : World} {K : PySem.W.Frag} {mg : Str → Option Value} {base : Heap} {cdv : Value} {A : Around} {outer : List Env} {s : Shared} {H0 H : Hp} {E : XK} {D : Ends} {p : PoolM} {k j : Nat} {u0 u1 u2 u3 u4 u5 u6 u7 u8 u9 u11 u12 u13 u14 u15 u16 : Option V} {v3 v4 pv gv bv : V} {d rl : Addr} {kvs : List (List Key × V)}
theorem law_tail (W : Wd K mg) (BB : BadT T K mg base) (hr : Room 16 (A.deeper (envOfC "law" (defScope (top 56)) s.heap.objs.size (He.ga K "law") cdv))) (hT : LamX.Tabs T H) (ok : okPan p) (hf : fewM p) (hj : j < p.rows.length)
    (hpv : (poolP T K p).p pv H) (h4 : (lstP K (itX T K) p.rows).p v4 H) (hgv : (lxP (T := T) (fun n : Nat => intP (n : Int)) ((List.range j).filter (gainM p))).p gv H) (hd : H d = some (.dT kvs)) (hk : DK2 kT (chP T K p (j : Int)) kvs (telM p) H) (hbv : (itX T K (bestM p (j : Int))).p bv H)
    (hD : ∀ gv' H', Gr T H H' → (lxP (T := T) (fun n : Nat => intP (n : Int)) ((List.range (j + 1)).filter (gainM p))).p gv' H' → D.nx [u0, u1, u2, u3, some v4, some pv, u6, u7, u8, u9, none, some gv', some (.int (j : Int)), some (.ref d), u14, u15, some bv, none, none, none] H') :
    SS T (lawX P w K mg base cdv A outer s H0 E) (lawLoop.drop 5) [u0, u1, u2, u3, some v4, some pv, u6, u7, u8, u9, none, some gv, some (.int (j : Int)), some (.ref d), u14, u15, some bv, none, none, none] H D := by
  have Lt := ok_tellings (T := T) (P := P) (w := w) (base := base) W BB
  have Lb := ok_best_telling (T := T) (P := P) (w := w) (base := base) W BB
  have od := okDoor_of ok
  have hn : 1 ≤ p.rows.length ∧ p.rows.length ≤ 8 := ⟨ok.1.2.2.2.1, ok.1.2.2.2.2.1⟩
  refine ss_set 11 (P := lxP (fun n : Nat => intP (n : Int)) ((List.range (j + 1)).filter (gainM p))) (EE.cast (ee_cat (R := fun n : Nat => intP (n : Int)) (xs := (List.range j).filter (gainM p)) (ys := if gainM p j = true then [j] else []) ?_ (ee_var 11 rfl hgv) (ee_if (t := gainM p j) (ET.cast (et_neD hr (dat_itX (bestM p (j : Int))) (dat_itX (p.rows.getD j [])) (ee_var 16 rfl hbv) (ee_ixL (R := itX T K) j (getD_some hj) (ee_var 4 rfl h4) (ee_var (P := intP (j : Int)) 12 rfl rfl))) ?_) (fun ht => NewL.lx (nl_lst (ea_cons (ee_var (P := intP (j : Int)) 12 rfl rfl) ea_nil)) fun vs H1 _ hS => ?_) fun hff => NewL.lx (nl_lst ea_nil) fun vs H1 _ hS => ?_)) (by rw [gains_snoc])) scLaw.nd fun gv' H1 g1 hgv' => ?_
  · have h1 : ((List.range j).filter (gainM p)).length ≤ (List.range j).length := List.length_filter_le _ _
    rw [List.length_range] at h1
    have h2 : (if gainM p j = true then [j] else []).length ≤ 1 := by split <;> simp
    omega
  · rw [show PyData.tuple ((bestM p (j : Int)).map .int) = dI (bestM p (j : Int)) from rfl, show PyData.tuple ((p.rows.getD j []).map .int) = dI (p.rows.getD j []) from rfl, eqv_ints]
    rfl
  · obtain ⟨y, rfl, hy⟩ := sat1 hS
    rw [if_pos ht]
    exact ⟨hy, trivial⟩
  · rw [if_neg (by rw [hff]; exact Bool.false_ne_true)]
    cases vs with
    | nil => trivial
    | cons _ _ => exact hS.elim
  · have hp1 := (poolP T K p).st _ _ _ g1 hpv
    have hb1 := (itX T K (bestM p (j : Int))).st _ _ _ g1 hbv
    have hd1 := g1.dT hd
    have hk1 := hk.st g1
    have hji : 0 ≤ (j : Int) ∧ (j : Int) < (p.rows.length : Int) := by omega
    refine ssx_when (Rb := fun b H' => b = false ∧ Gr T H1 H') (tt_or (Ra := fun b H' => b = false ∧ Gr T H1 H') (tt_neX (T := T) (k := 3) (k2 := 3) hr (ex_listT (T := T) (RR := chP T K p (j : Int)) (ts := telM p) (R := fun v H' => Gr T H1 H' ∧ ∃ D kvs, v = .ref D ∧ H' D = some (.dT kvs) ∧ DK2 kT (chP T K p (j : Int)) kvs (telM p) H') W.f_list (ex_callC (T := T) (E := fun _ _ _ => False) (Ps := [poolP T K p, intP (j : Int)]) LamX.takes0 Lt W.g_tellings.mg W.g_tellings.kp hr (ea_cons (ee_var 5 rfl hp1) (ea_cons (ee_var (P := intP (j : Int)) 12 rfl rfl) ea_nil)) fun ws H2 g2 hws => ⟨p, (j : Int), od, ((g1.trans g2).tab hT), hws, fun h => absurd hji h, fun _ h => absurd hf h, fun _ _ v H' g h => ⟨g2.trans g, h⟩⟩) fun v H2 ⟨_, h⟩ => h) fun v H2 ⟨v', G, ⟨gG, _⟩, g2, hv⟩ => ⟨_, ex_listT (T := T) (RR := chP T K p (j : Int)) (ts := telM p) W.f_list (EE.x (T := T) (P := eqP (.ref d)) (ee_v 13 rfl)) (fun v H3 ⟨g3, ev⟩ => ⟨d, kvs, ev, ((gG.trans g2).trans g3).dT hd1, hk1.st ((gG.trans g2).trans g3)⟩), fun x H3 ⟨x', G', ⟨gG', _⟩, g3, hx⟩ => ⟨_, _, _, _, Pr.st _ _ _ _ (gG'.trans g3) hv, hx, Dat.lst (k := 2) (f := fun z : List Int × List Int => .tuple [dI z.1, optD (drawsM (toldPool p (j : Int) z.2))]) fun z _ => Dat.pair (dat_itX z.1) dat_opt, Dat.lst (k := 2) (f := fun z : List Int × List Int => .tuple [dI z.1, optD (drawsM (toldPool p (j : Int) z.2))]) fun z _ => Dat.pair (dat_itX z.1) dat_opt, by rw [eqv_same _ fun z _ => eqv_ent]; rfl, ((gG.trans g2).trans gG').trans g3⟩⟩) fun u H2 ⟨eu, g2⟩ => ⟨fun e => absurd (eu.symm.trans e) (by decide), fun _ => ?_⟩) fun b H2 ⟨eb, g2⟩ => ⟨fun e => absurd (eb.symm.trans e) (by decide), fun _ => ss_nil (T := T) (hD gv' H2 (g1.trans g2) (Pr.st _ _ _ _ g2 hgv'))⟩
    refine tt_neD (T := T) (k := 1) (k2 := 1) (R := fun v H' => Gr T H2 H' ∧ (itX T K (bestM p (j : Int))).p v H') hr (ex_callC (T := T) (E := fun _ _ _ => False) (Ps := [poolP T K p, intP (j : Int)]) LamX.takes0 Lb W.g_best_telling.mg W.g_best_telling.kp hr (ea_cons (ee_var 5 rfl ((poolP T K p).st _ _ _ g2 hp1)) (ea_cons (ee_var (P := intP (j : Int)) 12 rfl rfl) ea_nil)) fun ws H3 g3 hws => ⟨p, (j : Int), od, (((g1.trans g2).trans g3).tab hT), hws, hji, fun h => absurd hf h, fun _ v H' g h => ⟨g3.trans g, h⟩⟩) fun v H3 ⟨g3, hv⟩ => ⟨_, _, _, _, hv, dat_itX (bestM p (j : Int)), dat_itX (bestM p (j : Int)), ee_var 16 rfl ((itX T K (bestM p (j : Int))).st _ _ _ (g2.trans g3) hb1), fun H4 g4 => ⟨?_, (g2.trans g3).trans g4⟩⟩
    rw [show PyData.tuple ((bestM p (j : Int)).map .int) = dI (bestM p (j : Int)) from rfl, eqv_ints, decide_eq_true rfl]
    rfl
theorem law_one (W : Wd K mg) (hr : Room 16 (A.deeper (envOfC "law" (defScope (top 56)) s.heap.objs.size (He.ga K "law") cdv))) (ok : okPan p) (hf : fewM p) (hj : j < p.rows.length)
    (h3 : (quosP T K p.quotas).p v3 H) (h4 : (lstP K (itX T K) p.rows).p v4 H) {rvs : List V} (hrl : SqL K H rl rvs) (hra : All2 (itX T K) rvs (rowsOfM p.quotas) H)
    (hrest : ∀ v6 v14 v15 d kvs bv H', Gr T H H' → H' d = some (.dT kvs) → DK2 kT (chP T K p (j : Int)) kvs (telM p) H' → (itX T K (bestM p (j : Int))).p bv H' →
      SS T (lawX P w K mg base cdv A outer s H0 E) (lawLoop.drop 5) [u0, u1, some (.int p.size), some v3, some v4, u5, v6, some (.ref rl), u8, u9, none, u11, some (.int (j : Int)), some (.ref d), v14, v15, some bv, none, none, none] H' D) :
    SS T (lawX P w K mg base cdv A outer s H0 E) lawLoop [u0, u1, some (.int p.size), some v3, some v4, u5, u6, some (.ref rl), u8, u9, none, u11, some (.int (j : Int)), u13, u14, u15, u16, none, none, none] H D := by
  have Lk := ok_law_keeps (T := T) (P := P) (w := w) (base := base) W
  have hn : 1 ≤ p.rows.length ∧ p.rows.length ≤ 8 := ⟨ok.1.2.2.2.1, ok.1.2.2.2.2.1⟩
  have hrow9 := hf.2
  have hown : p.rows.getD j [] ∈ rowsOfM p.quotas := ((okDoor_of ok).all hf (j : Int) (by omega)).own
  refine ssx_set 13 (NewT.x (T := T) nk_emptyT) scLaw.nd fun dv H1 ⟨g1, d, kvs0, ev, hn0, hd, hS⟩ => ?_
  subst ev
  obtain rfl : kvs0 = [] := hS
  refine ss_forB (H0 := H) 6 (xs := rowsOfM p.quotas) (R := itX T K) (src_listB (ee_v 7 rfl) g1 hrl hra) PassesOwn.never scLaw.nd
    (fun i σ' H' => ∃ v6 v14 kvs, σ' = [u0, u1, some (.int p.size), some v3, some v4, u5, v6, some (.ref rl), u8, u9, none, u11, some (.int (j : Int)), some (.ref d), v14, u15, u16, none, none, none] ∧ H' d = some (.dT kvs) ∧ Gr T H (cut H' [d]) ∧ DK2 kT (chP T K p (j : Int)) kvs (dctM (fun r : List Int => r) ((rowsOfM p.quotas).take i)) (cut H' [d]))
    (fun H2 g => ⟨_, _, [], rfl, g.dT hd, (g1.trans g).toCut (by simpa using hn0) (by simpa using calm_dT (g.dT hd)), trivial⟩) (fun i σ' H' ⟨_, _, _, _, _, gg, _⟩ => gg.trans Gr.cut) ?_ ?_
  · rintro i r v σ' H' H3 hi ⟨v6, v14, kvs, rfl, hd', gg, hk'⟩ g3 hv
    have hil : i < (rowsOfM p.quotas).length := (List.getElem?_eq_some_iff.mp hi).1
    have step : ∀ {Ha Hb : Hp}, Gr T H (cut Ha [d]) ∧ Ha d = some (.dT kvs) ∧ DK2 kT (chP T K p (j : Int)) kvs (dctM (fun r : List Int => r) ((rowsOfM p.quotas).take i)) (cut Ha [d]) → Gr T Ha Hb → Gr T H (cut Hb [d]) ∧ Hb d = some (.dT kvs) ∧ DK2 kT (chP T K p (j : Int)) kvs (dctM (fun r : List Int => r) ((rowsOfM p.quotas).take i)) (cut Hb [d]) := fun {Ha Hb} ⟨a1, a2, a3⟩ g => by
      have c : Gr T (cut Ha [d]) (cut Hb [d]) := (Gr.cut.trans g).toCut (fun b hb => cut_in hb) (by simpa using calm_dT (g.dT a2))
      exact ⟨a1.trans c, g.dT a2, a3.st c⟩
    obtain ⟨gg3, hd3, hk3⟩ := step ⟨gg, hd', hk'⟩ g3
    have h43 := (lstP K (itX T K) p.rows).st _ _ _ (gg3.trans Gr.cut) h4
    have hlen := told_len (r := r) hj
    rw [List.length_append, List.length_append, List.length_singleton] at hlen
    refine ss_set 14 (P := lxP (itX T K) (p.rows.take j ++ [r] ++ p.rows.drop (j + 1))) (ee_cat (by rw [List.length_append, List.length_singleton]; omega) (ee_cat (by rw [List.length_singleton]; omega) (NewL.lx (nl_cutHi j (ee_var 4 rfl h43) (ee_var (P := intP (j : Int)) 12 rfl rfl)) fun _ _ _ h => h) (NewL.lx (nl_lst (ea_cons (ee_var (P := itX T K r) 6 rfl hv) ea_nil)) fun vs H4 _ hS => ?_)) (NewL.lx (nl_cutLo (j + 1) (ee_var 4 rfl h43) (EE.cast (ee_add (ee_var (P := intP (j : Int)) 12 rfl rfl) ee_int) (by rw [Int.natCast_add]; rfl))) fun _ _ _ h => h)) scLaw.nd fun sv H4 g4 hsv => ?_
    · obtain ⟨y, rfl, hy⟩ := sat1 hS
      exact ⟨hy, trivial⟩
    obtain ⟨gg4, hd4, hk4⟩ := step ⟨gg3, hd3, hk3⟩ g4
    have h44 := (lstP K (itX T K) p.rows).st _ _ _ (gg4.trans Gr.cut) h4
    have h34 := (quosP T K p.quotas).st _ _ _ (gg4.trans Gr.cut) h3
    have hkl : kvs.length ≤ 9 := by
      rw [hk4.length]
      have h1 := dct_len ((rowsOfM p.quotas).take i)
      rw [List.length_take] at h1
      omega
    refine ss_dputT (T := T) (k := r) (P := chP T K p (j : Int) r) hr hd4 (by omega) (ee_v 13 rfl) (ee_var 6 rfl ((itX T K r).st _ _ _ g4 hv)) (ee_if (t := drawsM (toldPool p (j : Int) r)) (ET.cast (et_w (ew_and (t := decide (p.size = (p.rows.length : Int))) (u := keepsM (p.rows.take j ++ [r] ++ p.rows.drop (j + 1)) p.quotas (allI (p.rows.take j ++ [r] ++ p.rows.drop (j + 1)).length)) (ET.cast (et_eqS (x := V.int p.size) (y := V.int (p.rows.length : Int)) rfl (ee_var (P := intP p.size) 2 rfl rfl) (ee_lenL (R := itX T K) W.f_len (ee_var 4 rfl h44))) ?_) fun _ H5 g5 => ew_and1 (et_val (ee_callP (P := eqP (.bl (keepsM (p.rows.take j ++ [r] ++ p.rows.drop (j + 1)) p.quotas (allI (p.rows.take j ++ [r] ++ p.rows.drop (j + 1)).length)))) Lk W.g_law_keeps.mg W.g_law_keeps.kp hr (p.quotas, p.rows.take j ++ [r] ++ p.rows.drop (j + 1)) ?_ (ea_cons (ee_var 3 rfl ((quosP T K p.quotas).st _ _ _ g5 h34)) (ea_cons (EE.lx (ee_var 14 rfl ((lxP (itX T K) _).st _ _ _ g5 hsv))) ea_nil)))))) (draws_told hj).symm) (fun ht => EE.cast (ee_tupI (ns := [1, 1]) (ea_cons ee_int (ea_cons ee_int ea_nil))) ?_) fun hff => EE.cast ee_non ?_) fun v5 H5 g5 hv5 => ?_
    · by_cases e : p.size = (p.rows.length : Int)
      · simp [e]
      · simp [e]
    · refine ⟨by show (p.rows.take j ++ [r] ++ p.rows.drop (j + 1)).length ≤ 8; rw [told_len hj]; exact hn.2, fun q hq => ?_, ok.1.2.1.2, fun q hq => (ok.1.2.2.1 q hq).2.1⟩
      have hq : q ∈ p.rows.take j ++ [r] ++ p.rows.drop (j + 1) := hq
      rcases List.mem_append.mp hq with h | h
      · rcases List.mem_append.mp h with h | h
        · exact (ok.1.2.2.2.2.2 q (List.mem_of_mem_take h)).1
        · rw [List.mem_singleton.mp h]
          exact ((mem_rows _ _).mp (List.mem_of_getElem? hi)).1
      · exact (ok.1.2.2.2.2.2 q (List.mem_of_mem_drop h)).1
    · unfold chP optP
      rw [if_pos ht]
      rfl
    · unfold chP optP
      rw [if_neg (by rw [hff]; exact Bool.false_ne_true)]
    · obtain ⟨gg5, hd5, hk5⟩ := step ⟨gg4, hd4, hk4⟩ g5
      have ecut : cut (upd H5 d (.dT (putK kvs (kT r) v5))) [d] = cut H5 [d] := by
        funext c
        by_cases h : c ∈ [d]
        · rw [cut_in h, cut_in h]
        · rw [cut_out h, cut_out h, upd_ne fun q => h (by rw [q]; simp)]
      have hvc : (chP T K p (j : Int) r).p v5 (cut H5 [d]) := Soft.s (f := isD) _ _ _ (fun c hc o e => by
        rw [List.mem_singleton.mp hc, hd5] at e
        rw [← Option.some.inj e]
        trivial) hv5
      exact ss_nil (T := T) ⟨_, _, putK kvs (kT r) v5, rfl, upd_same, by rw [ecut]; exact gg5, by rw [ecut, dct_snoc hi]; exact DK2.put kT_inj hvc hk5⟩
  · rintro σ' H' ⟨v6, v14, kvs, rfl, hd', gg, hk'⟩
    rw [List.take_length] at hk'
    have hkk : DK2 kT (chP T K p (j : Int)) kvs (telM p) H' := hk'.st Gr.cut
    have gH : Gr T H H' := gg.trans Gr.cut
    have hdp : (dtP (chP T K p (j : Int)) (telM p)).p (.ref d) H' := ⟨d, kvs, rfl, .inl hd', hkk⟩
    have hrows : (lstP K (itX T K) (rowsOfM p.quotas)).p (.ref rl) H' := (lstP K (itX T K) (rowsOfM p.quotas)).st _ _ _ gH ⟨rl, rvs, rfl, hrl, hra⟩
    refine ss_setC 15 (ec_lcIf 6 scLaw (Ro := itX T K) (keep := fun r => drawsM (toldPool p (j : Int) r)) (src_list (R := itX T K) (ee_var 7 rfl hrows)) (by omega) (fun r v H5 hr5 g5 hv s' Hb C cl fp => ET.cast (et_notN (fun v H1 hv => optP_non hv) (ee_dgetT (R := chP T K p (j : Int)) hr (tel_val hr5) (ee_var 13 rfl (Pr.st _ _ _ _ g5 hdp)) (ee_var 6 rfl hv))) (Bool.not_not _)) fun r v H5 _ _ g5 hv s' Hb C cl fp => ee_var 6 rfl hv) fun fv H5 g5 hfv => ?_
    obtain ⟨fine, hfine⟩ : ∃ fine, fine = (rowsOfM p.quotas).filter fun r => drawsM (toldPool p (j : Int) r) := ⟨_, rfl⟩
    rw [← hfine] at hfv
    have h45 := (lstP K (itX T K) p.rows).st _ _ _ (gH.trans g5) h4
    refine ss_set 16 (P := itX T K (p.rows.getD j [])) (ee_ixL (R := itX T K) j (getD_some hj) (ee_var 4 rfl h45) (ee_var (P := intP (j : Int)) 12 rfl rfl)) scLaw.nd fun bv H6 g6 hbv => ?_
    have hd6 := Pr.st _ _ _ _ (g5.trans g6) hdp
    have hf6 := (lstP K (itX T K) fine).st _ _ _ g6 hfv
    have ebest := best_law p (j : Int)
    rw [← hfine, Int.toNat_natCast] at ebest
    refine ss_when (t := !drawsM (toldPool p (j : Int) (p.rows.getD j [])) && !decide (fine = [])) (et_w (ew_and (t := !drawsM (toldPool p (j : Int) (p.rows.getD j []))) (u := !decide (fine = [])) (et_isN (fun v H1 hv => optP_non hv) (ee_dgetT (R := chP T K p (j : Int)) hr (tel_val hown) (ee_var 13 rfl hd6) (ee_var 16 rfl hbv))) fun _ H7 g7 => ew_and1 (ET.cast (et_neD hr (Dat.lst (k := 1) (xs := fine) (f := fun r : List Int => dI r) fun r _ => dat_itX r) (Dat.lst (k := 1) (R := itX T K) (xs := []) (f := fun r : List Int => dI r) fun r h => nomatch h) (ee_var 15 rfl ((lstP K (itX T K) fine).st _ _ _ g7 hf6)) (EE.lx (NewL.lx (nl_lst ea_nil) fun vs H8 _ hS => ?_))) ?_))) (fun ht H7 g7 => ?_) fun hff H7 g7 => ?_
    · cases vs with
      | nil => trivial
      | cons _ _ => exact hS.elim
    · cases fine with
      | nil => rfl
      | cons _ _ => simp [PyData.eqv, PyData.eqvAll]
    · have hne : fine ≠ [] := by
        simp only [Bool.and_eq_true, Bool.not_eq_true', decide_eq_false_iff_not] at ht
        exact ht.2
      rw [if_pos ht] at ebest
      have h0 : fine[0]? = some (fine.headD []) := by
        cases hfc : fine with
        | nil => exact absurd hfc hne
        | cons x xs => rfl
      refine ss_set 16 (P := itX T K (bestM p (j : Int))) (EE.cast (ee_ixL (R := itX T K) 0 h0 (ee_var 15 rfl ((lstP K (itX T K) fine).st _ _ _ g7 hf6)) ee_int) (by rw [ebest])) scLaw.nd fun bv2 H8 g8 hb2 => ss_nil (T := T) (hrest _ _ _ d kvs bv2 H8 ((((gH.trans g5).trans g6).trans g7).trans g8) ((((g5.trans g6).trans g7).trans g8).dT hd') (hkk.st (((g5.trans g6).trans g7).trans g8)) hb2)
    · rw [if_neg (by rw [hff]; exact Bool.false_ne_true)] at ebest
      exact hrest _ _ _ d kvs bv H7 (((gH.trans g5).trans g6).trans g7) (((g5.trans g6).trans g7).dT hd') (hkk.st ((g5.trans g6).trans g7)) (by rw [ebest]; exact (itX T K _).st _ _ _ g7 hbv)
theorem law_few (W : Wd K mg) (BB : BadT T K mg base) (B : LamB T (lawX P w K mg base cdv A outer s H0 E) (He.cT K ("law", none)).1 (He.cT K ("law", none)).2)
    (hr : Room 16 (A.deeper (envOfC "law" (defScope (top 56)) s.heap.objs.size (He.ga K "law") cdv))) (hT : LamX.Tabs T H) (ok : okPan p) (hf : fewM p)
    (hpv : (poolP T K p).p pv H) (h3 : (quosP T K p.quotas).p v3 H) (h4 : (lstP K (itX T K) p.rows).p v4 H) {rvs : List V} (hrl : SqL K H rl rvs) (hra : All2 (itX T K) rvs (rowsOfM p.quotas) H)
    (hD : ∀ v6 v11 v12 v13 v14 v15 v16 H', Gr T H H' → D.nx [u0, u1, some (.int p.size), some v3, some v4, some pv, v6, some (.ref rl), u8, u9, none, v11, v12, v13, v14, v15, v16, none, none, none] H') :
    SS T (lawX P w K mg base cdv A outer s H0 E) (ifF lawIf) [u0, u1, some (.int p.size), some v3, some v4, some pv, u6, some (.ref rl), u8, u9, none, u11, u12, u13, u14, u15, u16, none, none, none] H D := by
  have Lg := ok_who_gains (T := T) (P := P) (w := w) (base := base) W BB
  have od := okDoor_of ok
  have hn : 1 ≤ p.rows.length ∧ p.rows.length ≤ 8 := ⟨ok.1.2.2.2.1, ok.1.2.2.2.2.1⟩
  refine ss_set 11 (NewL.lx (R := fun n : Nat => intP (n : Int)) (xs := []) (nl_lst ea_nil) fun vs H4 _ hS => ?_) scLaw.nd fun gv H1 g1 hgv => ?_
  · cases vs with
    | nil => trivial
    | cons _ _ => exact hS.elim
  refine ss_for 12 (xs := List.range p.rows.length) (R := fun n : Nat => intP (n : Int)) (src_range (m := (p.rows.length : Int)) W.f_range (ee_lenL (R := itX T K) W.f_len (ee_var 4 rfl ((lstP K (itX T K) p.rows).st _ _ _ g1 h4))) (by omega)) PassesOwn.never scLaw.nd
    (fun j σ' H' => ∃ v6 gv v12 v13 v14 v15 v16, σ' = [u0, u1, some (.int p.size), some v3, some v4, some pv, v6, some (.ref rl), u8, u9, none, some gv, v12, v13, v14, v15, v16, none, none, none] ∧ (lxP (T := T) (fun n : Nat => intP (n : Int)) ((List.range j).filter (gainM p))).p gv H')
    (fun H2 g => ⟨_, gv, _, _, _, _, _, rfl, (lxP (T := T) (fun n : Nat => intP (n : Int)) []).st _ _ _ g hgv⟩) ?_ ?_
  · rintro j jn v σ' H2 H3 hjn ⟨v6, gv', v12, v13, v14, v15, v16, rfl, hg'⟩ g2 g3 hv
    have hj : j < p.rows.length := by
      have := (List.getElem?_eq_some_iff.mp hjn).1
      rwa [List.length_range] at this
    have ejn : jn = j := by
      rw [List.getElem?_range hj] at hjn
      exact (Option.some.inj hjn).symm
    subst ejn
    obtain rfl : v = V.int (jn : Int) := hv
    have g03 := (g1.trans g2).trans g3
    exact law_one (T := T) W hr ok hf hj ((quosP T K p.quotas).st _ _ _ g03 h3) ((lstP K (itX T K) p.rows).st _ _ _ g03 h4) (g03.sqL hrl) (hra.st g03) fun v6 v14 v15 d kvs bv H4 g4 hd hk hb => law_tail (T := T) W BB hr ((g03.trans g4).tab hT) ok hf hj ((poolP T K p).st _ _ _ (g03.trans g4) hpv) ((lstP K (itX T K) p.rows).st _ _ _ (g03.trans g4) h4) (Pr.st _ _ _ _ (g3.trans g4) hg') hd hk hb fun gv2 H5 g5 hg5 => ⟨g4.trans g5, v6, gv2, _, _, _, _, _, rfl, hg5⟩
  · rintro σ' H2 g2 ⟨v6, gv', v12, v13, v14, v15, v16, rfl, hg'⟩
    rw [List.length_range] at hg'
    have g02 := g1.trans g2
    refine ssx_when (Rb := fun b H' => b = false ∧ Gr T H2 H') (tt_neD (T := T) (k := 1) (k2 := 1) hr (ex_lawTold (T := T) (R := fun v H' => Gr T H2 H' ∧ (lstP (T := T) K (fun n : Nat => intP (n : Int)) (gainsM p)).p v H') (R' := fun v H' => Gr T H2 H' ∧ (lstP (T := T) K (fun n : Nat => intP (n : Int)) (gainsM p)).p v H') (QL := fun _ => False) (QP := fun _ => False) (k := 13) W B (hr.mono (by decide)) (lamSX scLaw) (g02.tab hT) rfl (fun _ _ _ _ _ => rfl) (fun pins s' H7 A' outer' s1 f c' I7 g7 un hr7 => ?_) (fun _ _ h => h) (fun _ h => h.elim) fun _ h => h.elim) fun v H3 ⟨g3, hv⟩ => ⟨_, _, _, _, hv, datN (gainsM p), datN (gainsM p), ee_var 11 rfl (lxP.l (Pr.st _ _ _ _ g3 hg')), fun H4 g4 => ⟨?_, g3.trans g4⟩⟩) fun b H3 ⟨eb, g3⟩ => ⟨fun e => absurd (eb.symm.trans e) (by decide), fun _ => ss_nil (T := T) (hD _ _ _ _ _ _ _ H3 (g02.trans g3))⟩
    · exact ex_callC (T := T) (E := tE K (fun _ => False) (fun _ => False)) (Ps := [poolP T K p]) (takes_of rfl rfl rfl rfl) Lg W.g_who_gains.mg W.g_who_gains.kp hr7 (ea_cons (ee_var 5 rfl ((poolP T K p).st _ _ _ (g02.trans g7) hpv)) ea_nil) fun ws H8 g8 hws => ⟨p, od, ((g02.trans g7).trans g8).tab hT, hws, fun h => absurd hf h, fun _ v H' g h => ⟨(g7.trans g8).trans g, h⟩⟩
    · rw [eqv_same _ fun z _ => by simp only [PyData.eqv]; exact decide_eq_true rfl]
      rfl
end
end Pan
set_option maxHeartbeats 4000000
/-! law, its walk. -/
namespace Pan
open PySem PySem.Spec PyProof.Rows L2
section
variable {T : List (Addr × Str)} {P : Program} {w : World} {K : PySem.W.Frag} {mg : Str → Option Value} {base : Heap}
theorem law_walk (W : Wd K mg) (B : LawT T K mg base) (BB : BadT T K mg base) {cdv : Value} {A : Around} {outer : List Env} {s : Shared} {H : Hp} {E : XK} {a : Addr} {ns : List Int} {Q : VK} (hcd : cdv = .ref (He.codeOf K ("law", none)))
    (hr : Room 16 (A.deeper (envOfC "law" (defScope (top 56)) s.heap.objs.size (He.ga K "law") cdv))) (hT : LamX.Tabs T H) (hsq : SqL K H a (ns.map V.int)) (hl : ns.length ≤ 63) (hQ : ∀ H', Gr T H H' → Q (.bl true) H') :
    SS T (lawX P w K mg base cdv A outer s H E) (defBody (top 56)) (start ["_law_script", "_law_turn", "_law_size", "_law_quotas", "_law_people", "_law_pool", "_law_row", "_law_rows_here", "_law_person", "_law_asks", "_law_ask", "_law_gains", "_law_one", "_law_due", "_law_some", "_law_fine", "_law_best", "_law_a", "_law_b", "_law_c"] [.ref a]) H { nx := fun _ H' => Q .non H', rt := Q } := by
  have B' : LamB T (lawX P w K mg base cdv A outer s H E) (He.cT K ("law", none)).1 (He.cT K ("law", none)).2 := law_B B hcd rfl
  have Ld := ok_law_drawn (T := T) (P := P) (w := w) (base := base) W
  have Lp := ok_Pool_init (T := T) (P := P) (w := w) (base := base) W
  have Lr := ok_law_rows (T := T) (P := P) (w := w) (base := base) W
  have Lt := ok_tellings (T := T) (P := P) (w := w) (base := base) W BB
  refine ss_for 1 (xs := List.range 3) (R := fun n : Nat => intP (n : Int)) (src_range (m := 3) W.f_range ee_int (by decide)) PassesOwn.never scLaw.nd (fun i σ' H' => ∃ u1 u2 u3 u4 u5 u6 u7 u8 u9 u11 u12 u13 u14 u15 u16, σ' = [some (.ref a), u1, u2, u3, u4, u5, u6, u7, u8, u9, none, u11, u12, u13, u14, u15, u16, none, none, none]) (fun H2 g => ⟨none, none, none, none, none, none, none, none, none, none, none, none, none, none, none, rfl⟩) ?_ ?_
  · rintro i i' v σ' H1 H2 hi ⟨u1, u2, u3, u4, u5, u6, u7, u8, u9, u11, u12, u13, u14, u15, u16, rfl⟩ g1 g2 hv
    obtain rfl : v = V.int (i' : Int) := hv
    have g02 := g1.trans g2
    refine ss_unp3X 2 3 4 (R := fun v H' => Gr T H2 H' ∧ ∃ p, okPan p ∧ (drawnP T K p).p v H') (ex_call (T := T) (E := fun _ _ _ => False) (Ps := [eqP (.ref a), intP (40 * (i' : Int))]) Ld W.g_law_drawn.mg W.g_law_drawn.kp hr (ea_cons (ee_v 0 rfl) (ea_cons (ee_mul (.inl (by decide)) ee_int (ee_var (P := intP (i' : Int)) 1 rfl rfl)) ea_nil)) fun ws H3 g3 hws => ?_) scLaw.nd fun v H3 ⟨g3, p, ok, tt, v1, v2, v3, ev, hsq3, h1, h2, h3⟩ => ?_
    · obtain ⟨x, y, rfl, hx, hy⟩ := sat2 hws
      obtain rfl : x = V.ref a := hx
      obtain rfl : y = V.int (40 * (i' : Int)) := hy
      exact ⟨a, ns, _, rfl, (g02.trans g3).sqL hsq, hl, fun p v H' okp g hv => ⟨g3.trans g, p, okp, hv⟩⟩
    · refine ⟨tt, v1, v2, v3, ev, hsq3, ?_⟩
      obtain rfl : v1 = V.int p.size := h1
      have hn : 1 ≤ p.rows.length ∧ p.rows.length ≤ 8 := ⟨ok.1.2.2.2.1, ok.1.2.2.2.2.1⟩
      refine ssx_set 5 (ex_make (T := T) (E := fun _ _ _ => False) (R := fun v H' => Gr T H3 H' ∧ (poolP T K p).p v H') (Ps := [intP p.size, quosP T K p.quotas, rowsP T K p.rows]) W.mk_Pool Lp hr W.mg_Pool (ea_cons (ee_var 2 rfl rfl) (ea_cons (ee_var 3 rfl h2) (ea_cons (ee_tupL (R := itX T K) W.f_tuple (ee_var 4 rfl h3)) ea_nil))) fun ws H4 q dq g4 hws a1 a2 a3 => ⟨q, dq, H4, ws, p, rfl, Ins.made a1 a2 a3, a1, a2, gr_made a1 a2 a3, ok.1, hws, fun H' g h => ⟨rfl, g4.trans g, h⟩⟩) scLaw.nd fun pv H4 ⟨g4, hpv⟩ => ?_
      have h2' := (quosP T K p.quotas).st _ _ _ g4 h2
      refine ss_set 7 (ee_callP (P := lstP K (itX T K) (rowsOfM p.quotas)) Lr W.g_law_rows.mg W.g_law_rows.kp hr p.quotas ⟨ok.1.2.1.2, fun q hq => (ok.1.2.2.1 q hq).2.1⟩ (ea_cons (EC.ee (ec_lc 6 scLaw (Ro := fun q : List (Int × Int) => intP (q.length : Int)) (src_tup (R := quoP T K) (ee_var 3 rfl h2')) (by have := ok.1.2.1.2; omega) fun q v H5 hq g5 hv s' Hb C cl fp => ee_lenT W.f_len (ee_var 6 rfl hv))) ea_nil)) scLaw.nd fun rv H5 g5 hrv => ?_
      have g35 := g4.trans g5
      have h3' := (lstP K (itX T K) p.rows).st _ _ _ g35 h3
      refine ss_set 8 (ee_modS (n := p.rows.length) hn.1 (ee_convS W.f_int (EE.ofX fun H6 g6 => EX.imp (ex_num (T := T) W hr ((((g02.trans g3).trans g35).trans g6).sqL hsq) hl (ee_v 0 rfl) (ee_add (ee_mul (.inl (by decide)) ee_int (ee_var (P := intP (i' : Int)) 1 rfl rfl)) ee_int)) fun v H7 ⟨g, z, e⟩ => ⟨g, z, e⟩)) (ee_lenL (R := itX T K) W.f_len (ee_var 4 rfl h3'))) scLaw.nd fun kv H6 g6 ⟨k, hk, ek⟩ => ?_
      subst ek
      have g36 := g35.trans g6
      have hp6 := (poolP T K p).st _ _ _ (g5.trans g6) hpv
      have h36 := (lstP K (itX T K) p.rows).st _ _ _ g36 h3
      have g06 := (g02.trans g3).trans g36
      have od := okDoor_of ok
      refine ssx_when (Rb := fun b H' => b = false ∧ Gr T H6 H') (tt_neD (T := T) (k := 0) (k2 := 0) hr (ex_lawTold (T := T) (R := fun v H' => Gr T H6 H' ∧ v = .str "person") (R' := fun _ _ => False) (QL := fun _ => False) (QP := fun H' => Gr T H6 H') (k := 13) W B' (hr.mono (by decide)) (lamSX scLaw) (g06.tab hT) rfl (fun _ _ _ _ _ => rfl) (fun pins s' H7 A' outer' s1 f c' I7 g7 un hr7 => ?_) (fun _ _ h => h.elim) (fun _ h => h.elim) fun H' g => ⟨g, rfl⟩) fun v H7 ⟨g7, ev⟩ => ⟨eqP (.str "person"), eqP (.str "person"), .str "person", .str "person", ev, Dat.str _ (by decide +kernel), Dat.str _ (by decide +kernel), ee_str, fun H8 g8 => ⟨by decide +kernel, g7.trans g8⟩⟩) fun b H7 ⟨eb, g7⟩ => ⟨fun e => absurd (eb.symm.trans e) (by decide), fun _ => ?_⟩
      · refine ex_callC (T := T) (E := tE K (fun _ => False) (fun H' => Gr T H6 H')) (Ps := [poolP T K p, intP (p.rows.length : Int)]) (takes_of rfl rfl rfl rfl) Lt W.g_tellings.mg W.g_tellings.kp hr7 (ea_cons (ee_var 5 rfl ((poolP T K p).st _ _ _ g7 hp6)) (ea_cons (ee_lenL (R := itX T K) W.f_len (ee_var 4 rfl ((lstP K (itX T K) p.rows).st _ _ _ g7 h36))) ea_nil)) fun ws H8 g8 hws => ⟨p, (p.rows.length : Int), od, ((g06.trans g7).trans g8).tab hT, hws, fun _ H' g => .inr ⟨rfl, (g7.trans g8).trans g⟩, fun h => absurd h.2 (by omega), fun h => absurd h.2 (by omega)⟩
      · have g37 := g36.trans g7
        have g57 := g6.trans g7
        obtain ⟨rl, rvs, rfl, hrl, hra⟩ := hrv
        have h47 := (lstP K (itX T K) p.rows).st _ _ _ g37 h3
        refine ss_one (s1_if (t := decide (¬ fewM p)) (ET.cast (et_w (ew_or (t := decide ((p.rows.length : Int) > 6)) (u := decide (((rowsOfM p.quotas).length : Int) > 9)) (et_gt (ee_lenL (R := itX T K) W.f_len (ee_var 4 rfl h47)) ee_int) fun _ H8 g8 => ew_or1 (et_gt (ee_lenL (R := itX T K) (xs := rowsOfM p.quotas) W.f_len (ee_var 7 rfl ⟨rl, rvs, rfl, (g57.trans g8).sqL hrl, hra.st (g57.trans g8)⟩)) ee_int))) ?_) (fun ht H8 g8 => ?_) fun hff H8 g8 => ?_)
        · by_cases h : fewM p
          · have := h.1
            have := h.2
            simp [h]
            omega
          · simp only [h, not_false_eq_true, decide_true]
            unfold fewM at h
            simp
            omega
        · exact law_large (T := T) (k := k) W BB B' hr (((g06.trans g7).trans g8).tab hT) ((poolP T K p).st _ _ _ (g7.trans g8) hp6) ok hk (of_decide_eq_true ht) fun v9 H9 g9 => ⟨(((g3.trans g36).trans g7).trans g8).trans g9, _, _, _, _, _, _, _, _, _, _, _, _, _, _, _, rfl⟩
        · exact law_few (T := T) W BB B' hr (((g06.trans g7).trans g8).tab hT) ok (Decidable.not_not.mp (of_decide_eq_false hff)) ((poolP T K p).st _ _ _ (g7.trans g8) hp6) ((quosP T K p.quotas).st _ _ _ (g37.trans g8) h2) ((lstP K (itX T K) p.rows).st _ _ _ g8 h47) ((g57.trans g8).sqL hrl) (hra.st (g57.trans g8)) fun v6 v11 v12 v13 v14 v15 v16 H9 g9 => ⟨(((g3.trans g36).trans g7).trans g8).trans g9, _, _, _, _, _, _, _, _, _, _, _, _, _, _, _, rfl⟩
  · rintro σ' H1 g1 ⟨u1, u2, u3, u4, u5, u6, u7, u8, u9, u11, u12, u13, u14, u15, u16, rfl⟩
    refine ss_ret ee_bl fun v H2 g2 hv => ?_
    rw [show v = V.bl true from hv]
    exact hQ H2 (g1.trans g2)
/-- law's promise, with its tables -/
theorem ok_law {fd : FuncData} (F : FunD K "law" "law" (defArgs (top 56)) (defBody (top 56)) (defScope (top 56)) [] [] (He.ga K "law") fd) (W : Wd K mg) (B : LawT T K mg base) (BB : BadT T K mg base) : FnOk P w K mg base CX0 17 (He.ga K "law") fd ["_law_script"] (spLaw T K) := by
  obtain ⟨oc, od, dV, kV, doc, pm, an, cdv, ct, osl, rfl, lk, hcd, _, _⟩ := F.ex
  obtain ⟨c, rfl⟩ := He.codeIn_ref hcd
  have hc : He.codeOf K ("law", none) = c := He.codeOf_eq lk rfl
  refine fn_of lk hcd scLaw (fun vs H Q E ⟨a, ns, e, _⟩ => by rw [e]; rfl) fun A outer s H vs Q E hr ⟨a, ns, e, hT, hsq, hl, hQ⟩ => ?_
  subst e
  exact ⟨_, PSs.nox (law_walk (T := T) W B BB (by rw [hc]) hr hT hsq hl hQ), rfl, rfl, rfl⟩
end
end Pan
set_option maxHeartbeats 0
/-! The head, the end. -/
namespace Pan
open PySem PySem.Spec PyProof.Rows L2
/-- the two defs that make lambdas -/
abbrev pLaw : He.Defn := ("law", none)
abbrev pBad : He.Defn := ("Table", some "bad_line")
def tf : List He.Defn := [pLaw, pBad]
/-- the facts, and that the two tables are two -/
def exC (K : PySem.W.Frag) : Bool := exB K && !decide ((He.cT K pLaw).2 = (He.cT K pBad).2)
abbrev hk : PySem.W.Hook := He.hookX 6 fa fn [] tf exC
abbrev lawR : PySem.W.OpenRow := PySem.W.OpenLaw.row PySem.Challenge.rw_drawnpanel_k40_whole_many_tellings
def ob (s : PySem.W.SharedT) : He.AlX := He.obsX 6 fa fn [] tf exC (HandSHeadRun.getT s)
theorem ob_eq (s : PySem.W.SharedT) : ob s = hk.obs s.abs := He.obsX_eq (HandSHeadRun.getT_eq s)
def others1 : List Str := ["_wall", "PanelError", "BadPool", "BadPerson", "TooLarge", "NONE", "ONE", "lowest", "plus", "minus", "times", "over", "is_less", "total", "Table", "MAX_PEOPLE", "MAX_TRAITS", "MAX_VALUES", "is_integer", "are_integers", "is_trait", "are_people", "Pool", "check_pool", "check_person"]
def others2 : List Str := ["spots_of", "count_of", "keeps_quotas", "groups_of", "panels_of", "chances_of", "Step", "Levels", "levels_of", "MAX_FEW", "MAX_TELLINGS", "check_few", "rows_of", "told_people", "Told", "is_better", "tellings", "best_telling", "who_gains", "_law_number", "_law_told", "_law_rows", "_law_keeps", "_law_drawn"]
abbrev others : List Str := others1 ++ others2
theorem head_run (w : World) : HandSHeadRun.RunEq lawR (PySem.W.view lawR.prog [56]) hk ob 8000 others w := by
  intro os
  kernel_rfl
def tabT (K : PySem.W.Frag) : List (Addr × Str) := [((He.cT K pLaw).2, "law.<locals>.<lambda>"), ((He.cT K pBad).2, "Table.bad_line.<locals>.<lambda>")]
theorem law_at {P : Program} {w : World} {K : PySem.W.Frag} {h : Heap} {mg : Str → Option Value} {f : Addr} (X : K.In h) (G : h.Ns mainGlobals mg) (hfa : mg ("law" : Str) = some (.ref f)) (c : He.SaysX fa fn [] tf exC w h K) (hP : PySem.Challenge.rw_drawnpanel_k40_whole_many_tellings.prog = P) :
    LamX.LawAtS PySem.Challenge.rw_drawnpanel_k40_whole_many_tellings w K CX0 17 63 "_law_script" mg f h := by
  obtain ⟨ex1, ex2⟩ := He.ba c.more
  have ne : (He.cT K pLaw).2 ≠ (He.cT K pBad).2 := by simpa using ex2
  have W : Wd K mg := ⟨fun i d e => c.t.d.fact i e, fun i d e => c.t.d.def_ i e, ex1, h, X, G⟩
  obtain ⟨fd, F⟩ := W.d_g_law
  have e := hfa.symm.trans W.g_law.mg
  cases e
  have hb : Binds K fd ["_law_script"] [] := F.bindsN fun _ _ _ _ _ _ us hl => match us, hl with | [_], _ => rfl
  have ba := FunD.bindsA (ps := ["_law_script"]) F fun _ _ _ _ _ _ us hl => match us, hl with | [_], _ => rfl
  have inT : ∀ q ∈ tf.map (He.cT K), ∃ p ∈ tf, He.cT K p = q := fun q hq => List.mem_map.mp hq
  refine ⟨fd, tf.map (He.cT K), spLaw (tabT K) K, fun q hq => ?_, fun q hq => ?_, fun q hq => ?_, fun s v => ba s [v] rfl, fun H a ns hl _ hT hS => ⟨a, ns, rfl, fun z hz => ?_, hS, hl, fun _ _ => rfl⟩, fun base KB NB hTB => ?_⟩
  · obtain ⟨p, hp, rfl⟩ := inT q hq
    exact c.empty p hp
  · obtain ⟨p, hp, rfl⟩ := inT q hq
    exact c.out p hp
  · obtain ⟨p, hp, rfl⟩ := inT q hq
    exact PySem.W.codeHd_of_K X (c.hd p hp)
  · rcases List.mem_cons.mp hz with rfl | hz
    · exact LamX.TabS.nil (hT _ (List.mem_map.mpr ⟨pLaw, by simp [tf], rfl⟩))
    · rw [List.mem_singleton.mp hz]
      exact LamX.TabS.nil (hT _ (List.mem_map.mpr ⟨pBad, by simp [tf], rfl⟩))
  · refine ok_law F W ⟨hTB _ (List.mem_map.mpr ⟨pLaw, by simp [tf], rfl⟩), by simp [tabT], fun z hz e => ?_⟩ ⟨hTB _ (List.mem_map.mpr ⟨pBad, by simp [tf], rfl⟩), by simp [tabT], fun z hz e => ?_⟩
    · rcases List.mem_cons.mp hz with rfl | hz
      · rfl
      · rw [List.mem_singleton.mp hz] at e
        exact absurd e.symm ne
    · rcases List.mem_cons.mp hz with rfl | hz
      · exact absurd e ne
      · rw [List.mem_singleton.mp hz]
end Pan
open PySem PySem.W PySem.Calls PyProof.Rows
theorem PySem.Challenge.cw_drawnpanel_k40_whole_many_tellings_holds : PySem.Challenge.rw_drawnpanel_k40_whole_many_tellings.Holds := by
  w_on; o_law
  refine HandSHeadRun.head_any (r := Pan.lawR) (q := view Pan.lawR.prog [56]) (H := Pan.hk) (ob := Pan.ob) (M := 8000) (loose := Pan.others) (d := HandSHeadRun.topDef Pan.lawR.prog 56) (kwd := []) Pan.ob_eq
    (by kernel_rfl) (fun s => by kernel_rfl) Pan.head_run (by kernel_rfl) (by kernel_rfl) (by kernel_rfl) (by rfl) (by first | assumption | decide +kernel) (by decide +kernel) ⟨rfl, rfl, rfl, rfl, rfl, by decide +kernel⟩ ?hw ?hc
  case hw => w_witness2
  case hc =>
    refine LamX.walk_ofTsE (l := PySem.Challenge.rw_drawnpanel_k40_whole_many_tellings) (n := 63) (k := 17) (x := "_law_script") (CX := fun _ => L2.CX0) rfl (by decide) (by kernel_rfl) ⟨rfl, by decide, by decide⟩ ?F (fun _ _ _ _ _ z => z)
    intro w mg fa h Y G hmg0
    obtain ⟨K, KX, c⟩ := Y
    have hmg : mg ("law" : PySem.Str) = some (.ref fa) := by
      have e : (HandSHeadRun.topDef Pan.lawR.prog 56).name = ("law" : PySem.Str) := by kernel_rfl
      rw [← e]
      exact hmg0
    exact ⟨K, KX, Pan.law_at KX G hmg c rfl⟩
