import PyProof.Rows.All
import Wide.All
import OpenK.AllK
import Wide.FinOn
import HandS.ForMost
import HandS.ForExc
import HandS.TupAny
import HandS.TupMul
import HandS.IsInst
import HandS.Walk
import HandS.Zip
import HandS.Style
import HandS.WideBits
import KE.GoesEnum
import KE.GoesMore
import HandS.WordsExc
import HandS.ExcOwn
import HandS.ExcIs
import HandS.TryOnly
import KE.RegKIsAll
import HandS.Dict
import HandS.Text
import PySem.Challenge.RW_primefold_k03_whole_read
set_option Elab.async false
set_option linter.all false
set_option maxRecDepth 100000
set_option maxHeartbeats 2000000
/-! Pf1: heap-free readings of expressions. -/
namespace Pf
open PySem PySem.Spec PyProof.Rows L2

/-- data -/
inductive D where
  | non | bl (b : Bool) | int (i : Int) | str (z : Str) | tup (ds : List D) | lst (ds : List D) | scr (ns : List Int)
abbrev tI (ns : List Int) : D := .tup (ns.map D.int)
abbrev lI (ns : List Int) : D := .lst (ns.map D.int)

mutual
inductive Dq (K : PySem.W.Frag) (H : Hp) : V → D → Prop
  | non : Dq K H .non .non
  | bl (b : Bool) : Dq K H (.bl b) (.bl b)
  | int (i : Int) : Dq K H (.int i) (.int i)
  | str (x : Str) : Dq K H (.str x) (.str x)
  | tup {a : Addr} {xs : List V} {ds : List D} : SqT K H a xs → DqA K H xs ds → Dq K H (.ref a) (.tup ds)
  | lst {a : Addr} {xs : List V} {ds : List D} : H a = some (.lst xs) → DqA K H xs ds → Dq K H (.ref a) (.lst ds)
  | scr {a : Addr} {ns : List Int} : SqL K H a (ns.map V.int) → Dq K H (.ref a) (.scr ns)
inductive DqA (K : PySem.W.Frag) (H : Hp) : List V → List D → Prop
  | nil : DqA K H [] []
  | cons {v : V} {vs : List V} {d : D} {ds : List D} : Dq K H v d → DqA K H vs ds → DqA K H (v :: vs) (d :: ds)
end
section
variable {K : PySem.W.Frag} {H H' : Hp}
theorem Same.seqT {a : Addr} {xs : List V} (e : Same H H') (h : SqT K H a xs) : SqT K H' a xs := by
  rcases h with (h | ⟨o, h⟩) | h
  · exact .inl (.inl (e _ _ h))
  · exact .inl (.inr ⟨o, e _ _ h⟩)
  · exact .inr h
mutual
theorem Dq.mono (e : Same H H') : ∀ (d : D) (v : V), Dq K H v d → Dq K H' v d
  | .non, _, h => by cases h; exact .non
  | .bl b, _, h => by cases h; exact .bl _
  | .int i, _, h => by cases h; exact .int _
  | .str z, _, h => by cases h; exact .str _
  | .tup ds, _, h => by
    cases h with
    | tup h1 h2 => exact .tup (Same.seqT e h1) (DqA.mono e ds _ h2)
  | .lst ds, _, h => by
    cases h with
    | lst h1 h2 => exact .lst (e _ _ h1) (DqA.mono e ds _ h2)
  | .scr ns, _, h => by
    cases h with
    | scr h1 => exact .scr (e.seq h1)
theorem DqA.mono (e : Same H H') : ∀ (ds : List D) (vs : List V), DqA K H vs ds → DqA K H' vs ds
  | [], _, h => by cases h; exact .nil
  | d :: ds, _, h => by
    cases h with
    | cons h1 h2 => exact .cons (Dq.mono e d _ h1) (DqA.mono e ds _ h2)
end
theorem DqA.length : ∀ {ds : List D} {vs : List V}, DqA K H vs ds → vs.length = ds.length
  | [], _, h => by cases h; rfl
  | d :: ds, _, h => by
    cases h with
    | cons h1 h2 => simp [DqA.length h2]
theorem DqA.get : ∀ {ds : List D} {vs : List V} {i : Nat} {d : D}, DqA K H vs ds → ds[i]? = some d → ∃ v, vs[i]? = some v ∧ Dq K H v d
  | [], _, _, _, h, e => by simp at e
  | d :: ds, _, 0, d', h, e => by
    cases h with
    | cons h1 h2 => simp at e; subst e; exact ⟨_, rfl, h1⟩
  | d :: ds, _, i + 1, d', h, e => by
    cases h with
    | cons h1 h2 =>
      obtain ⟨v, e1, e2⟩ := DqA.get (i := i) h2 (by simpa using e)
      exact ⟨v, by simpa using e1, e2⟩
theorem DqA.getV : ∀ {ds : List D} {vs : List V} {i : Nat} {v : V}, DqA K H vs ds → vs[i]? = some v → ∃ d, ds[i]? = some d ∧ Dq K H v d
  | [], _, i, v, h, e => by cases h; simp at e
  | d :: ds, _, 0, v, h, e => by
    cases h with
    | cons h1 h2 => simp at e; subst e; exact ⟨_, rfl, h1⟩
  | d :: ds, _, i + 1, v, h, e => by
    cases h with
    | cons h1 h2 =>
      obtain ⟨d, e1, e2⟩ := DqA.getV (i := i) h2 (by simpa using e)
      exact ⟨d, by simpa using e1, e2⟩
theorem DqA.append : ∀ {ds es : List D} {vs us : List V}, DqA K H vs ds → DqA K H us es → DqA K H (vs ++ us) (ds ++ es)
  | [], _, _, _, h, g => by cases h; exact g
  | d :: ds, _, _, _, h, g => by
    cases h with
    | cons h1 h2 => exact .cons h1 (DqA.append h2 g)
theorem DqA.take : ∀ {ds : List D} {vs : List V} (n : Nat), DqA K H vs ds → DqA K H (vs.take n) (ds.take n)
  | _, _, 0, _ => by simp; exact .nil
  | [], _, n + 1, h => by cases h; exact .nil
  | d :: ds, _, n + 1, h => by
    cases h with
    | cons h1 h2 => exact .cons h1 (DqA.take n h2)
theorem DqA.drop : ∀ {ds : List D} {vs : List V} (n : Nat), DqA K H vs ds → DqA K H (vs.drop n) (ds.drop n)
  | _, _, 0, h => by simpa using h
  | [], _, n + 1, h => by cases h; exact .nil
  | d :: ds, _, n + 1, h => by
    cases h with
    | cons h1 h2 => simpa using DqA.drop n h2
theorem DqA.set : ∀ {ds : List D} {vs : List V} (i : Nat) {v : V} {d : D}, DqA K H vs ds → Dq K H v d → DqA K H (vs.set i v) (ds.set i d)
  | [], _, i, _, _, h, g => by cases h; simp; exact .nil
  | d :: ds, _, 0, _, _, h, g => by
    cases h with
    | cons h1 h2 => exact .cons g h2
  | d :: ds, _, i + 1, _, _, h, g => by
    cases h with
    | cons h1 h2 => exact .cons h1 (DqA.set i h2 g)
theorem DqA.reverse : ∀ {ds : List D} {vs : List V}, DqA K H vs ds → DqA K H vs.reverse ds.reverse
  | [], _, h => by cases h; exact .nil
  | d :: ds, _, h => by
    cases h with
    | cons h1 h2 =>
      simp only [List.reverse_cons]
      exact DqA.append (DqA.reverse h2) (.cons h1 .nil)
theorem DqA.rep {ds : List D} {vs : List V} (h : DqA K H vs ds) : ∀ n : Nat, DqA K H (List.replicate n vs).flatten (List.replicate n ds).flatten
  | 0 => .nil
  | n + 1 => by
    simp only [List.replicate_succ, List.flatten_cons]
    exact DqA.append h (DqA.rep h n)
theorem DqA.ints : ∀ ns : List Int, DqA K H (ns.map V.int) (ns.map D.int)
  | [] => .nil
  | n :: ns => .cons (.int n) (DqA.ints ns)
theorem DqA.of_ints : ∀ {ns : List Int} {vs : List V}, DqA K H vs (ns.map D.int) → vs = ns.map V.int
  | [], _, h => by cases h; rfl
  | n :: ns, _, h => by
    cases h with
    | cons h1 h2 => cases h1; rw [DqA.of_ints h2]; rfl
theorem DqA.strs : ∀ ns : List Str, DqA K H (ns.map V.str) (ns.map D.str)
  | [] => .nil
  | n :: ns => .cons (.str n) (DqA.strs ns)
theorem DqA.of_strs : ∀ {ns : List Str} {vs : List V}, DqA K H vs (ns.map D.str) → vs = ns.map V.str
  | [], _, h => by cases h; rfl
  | n :: ns, _, h => by
    cases h with
    | cons h1 h2 => cases h1; rw [DqA.of_strs h2]; rfl
theorem DqA.bls : ∀ {ns : List Bool} {vs : List V}, DqA K H vs (ns.map D.bl) → vs = ns.map V.bl
  | [], _, h => by cases h; rfl
  | n :: ns, _, h => by
    cases h with
    | cons h1 h2 => cases h1; rw [DqA.bls h2]; rfl
theorem same_upd {p : Addr} {o : HO} (h : H p = none) : Same H (upd H p o) := fun b x e => by
  rw [upd_ne (ne_of_none e h)]
  exact e
end

/-! ### slots -/
inductive Slot where
  | un | im (d : D) | ow (ds : List D) | ex (a : Addr)
abbrev En := List Slot
def SlOk (K : PySem.W.Frag) (H : Hp) : Option V → Slot → Prop
  | _, .un => True
  | ov, .im d => ∃ v, ov = some v ∧ Dq K H v d
  | ov, .ow ds => ∃ p xs, ov = some (.ref p) ∧ H p = some (.lst xs) ∧ DqA K H xs ds
  | ov, .ex a => ov = some (.ref a)
structure Env (K : PySem.W.Frag) (H : Hp) (σ : L2.St) (ρ : En) : Prop where
  len : σ.length = ρ.length
  at_ : ∀ (i : Nat) (s : Slot) (ov : Option V), ρ[i]? = some s → σ[i]? = some ov → SlOk K H ov s
theorem SlOk.mono {K : PySem.W.Frag} {H H' : Hp} (e : Same H H') {ov : Option V} {s : Slot} (h : SlOk K H ov s) : SlOk K H' ov s := by
  cases s with
  | un => trivial
  | im d => obtain ⟨v, e1, e2⟩ := h; exact ⟨v, e1, e2.mono e⟩
  | ow ds => obtain ⟨p, xs, e1, e2, e3⟩ := h; exact ⟨p, xs, e1, e _ _ e2, e3.mono e⟩
  | ex a => exact h
theorem Env.mono {K : PySem.W.Frag} {H H' : Hp} {σ : L2.St} {ρ : En} (h : Env K H σ ρ) (e : Same H H') : Env K H' σ ρ :=
  ⟨h.len, fun i s ov a b => (h.at_ i s ov a b).mono e⟩
/-- what a slot holds -/
def slD : Slot → Option D
  | .un => none
  | .im d => some d
  | .ow ds => some (.lst ds)
  | .ex _ => none
def gV (i : Nat) : En → Option D := fun ρ => (ρ[i]?).bind slD
theorem Env.get {K : PySem.W.Frag} {H : Hp} {σ : L2.St} {ρ : En} (h : Env K H σ ρ) {i : Nat} {d : D} (e : gV i ρ = some d) : ∃ v, σ[i]? = some (some v) ∧ Dq K H v d := by
  unfold gV at e
  cases q : ρ[i]? with
  | none => rw [q] at e; cases e
  | some s =>
    rw [q] at e
    have hi : i < σ.length := by rw [h.len]; exact (List.getElem?_eq_some_iff.mp q).1
    have z := h.at_ i s σ[i] q (List.getElem?_eq_getElem hi)
    have e2 : slD s = some d := e
    cases s with
    | un => cases e2
    | im d' =>
      cases e2
      obtain ⟨v, e1, e2⟩ := z
      exact ⟨v, by rw [List.getElem?_eq_getElem hi, e1], e2⟩
    | ow ds =>
      cases e2
      obtain ⟨p, xs, e1, e2, e3⟩ := z
      exact ⟨.ref p, by rw [List.getElem?_eq_getElem hi, e1], .lst e2 e3⟩
    | ex a => cases e2

/-! ### contexts -/
structure Ct where
  P : Program
  w : World
  K : PySem.W.Frag
  mg : Str → Option Value
  base : Heap
  lv : Nat
  N : List Str
  sc : Scope
  df : Bool
  md : Option (Cx → Prop)
structure Good (T : Ct) (X : Cx) : Prop where
  hP : X.prog = T.P
  hw : X.w = T.w
  hK : X.K = T.K
  hm : X.mg = T.mg
  hb : X.base = T.base
  hN : X.N = T.N
  hs : X.env.scope = T.sc
  calm : T.md = none → X.calm = true
  nd : T.N.Nodup
  hf : T.df = true → ∀ x, X.fn x = true
  room : T.md = none → Room T.lv X.A
  hu : X.A.units + 100 < cLine
  md : ∀ p, T.md = some p → p X
/-- canonical readings -/
def wE (X : Cx) (e : Expr) : TE := fun σ H Q => ∃ t, PE X e t ∧ t σ H Q
def wA (X : Cx) (es : List Expr) : TA := fun σ H Q => ∃ t, PA X es t ∧ t σ H Q
def wT (X : Cx) (e : Expr) : TT := fun σ H Q => ∃ t, PT X e t ∧ t σ H Q
def wW (X : Cx) (e : Expr) : TT := fun σ H Q => ∃ t, PW X e t ∧ t σ H Q
theorem pe_w {X : Cx} {e : Expr} : PE X e (wE X e) := ⟨fun pins s σ H Q I ⟨_, p, h⟩ => p.run pins s σ H Q I h⟩
theorem pa_w {X : Cx} {e : List Expr} : PA X e (wA X e) := ⟨fun pos pins s σ H Q I ⟨_, p, h⟩ => p.run pos pins s σ H Q I h⟩
theorem pt_w {X : Cx} {e : Expr} : PT X e (wT X e) := ⟨fun pins s σ H Q I ⟨_, p, h⟩ => p.run pins s σ H Q I h⟩
theorem pw_w {X : Cx} {e : Expr} : PW X e (wW X e) := ⟨fun wh pins s σ H Q I ⟨_, p, h⟩ => p.run wh pins s σ H Q I h⟩

/-- an expression and its data -/
def SE (T : Ct) (e : Expr) (g : En → Option D) : Prop :=
  ∀ X, Good T X → ∀ (σ : L2.St) (H : Hp) (ρ : En) (d : D), Env T.K H σ ρ → g ρ = some d → ∀ Q : VK, (∀ v H', Same H H' → Dq T.K H' v d → Q v H') → wE X e σ H Q
/-- an expression that gives a new list -/
def SL (T : Ct) (e : Expr) (g : En → Option (List D)) : Prop :=
  ∀ X, Good T X → ∀ (σ : L2.St) (H : Hp) (ρ : En) (ds : List D), Env T.K H σ ρ → g ρ = some ds → ∀ Q : VK, (∀ p xs H', H p = none → Same H H' → H' p = some (.lst xs) → DqA T.K H' xs ds → Q (.ref p) H') → wE X e σ H Q
def ST (T : Ct) (e : Expr) (g : En → Option Bool) : Prop :=
  ∀ X, Good T X → ∀ (σ : L2.St) (H : Hp) (ρ : En) (b : Bool), Env T.K H σ ρ → g ρ = some b → ∀ Q : Bool → Hp → Prop, (∀ H', Same H H' → Q b H') → wT X e σ H Q
def SW (T : Ct) (e : Expr) (g : En → Option Bool) : Prop :=
  ∀ X, Good T X → ∀ (σ : L2.St) (H : Hp) (ρ : En) (b : Bool), Env T.K H σ ρ → g ρ = some b → ∀ Q : Bool → Hp → Prop, (∀ H', Same H H' → Q b H') → wW X e σ H Q
def SA (T : Ct) (es : List Expr) (g : En → Option (List D)) : Prop :=
  ∀ X, Good T X → ∀ (σ : L2.St) (H : Hp) (ρ : En) (ds : List D), Env T.K H σ ρ → g ρ = some ds → ∀ Q : List V → Hp → Prop, (∀ vs H', Same H H' → DqA T.K H' vs ds → Q vs H') → wA X es σ H Q

section
variable {T : Ct}
def gL (g : En → Option (List D)) : En → Option D := fun ρ => (g ρ).map D.lst
theorem se_of_sl {e : Expr} {g : En → Option (List D)} (h : SL T e g) : SE T e (gL g) := by
  intro X G σ H ρ d env hd Q q
  unfold gL at hd
  cases r : g ρ with
  | none => rw [r] at hd; cases hd
  | some ds =>
    rw [r] at hd
    cases hd
    exact h X G σ H ρ ds env r Q fun p xs H' _ s h1 h2 => q _ _ s (.lst h1 h2)

/-! names and constants -/
def visB (sc : Scope) (x : Str) : Bool := match sc.names.lookup x with
  | some .local => true
  | some .cell => true
  | some .free => true
  | _ => false
theorem vis_of {sc : Scope} {x : Str} (h : visB sc x = true) : Vis sc x := by
  unfold visB at h
  split at h
  · rename_i h'; exact .inl h'
  · rename_i h'; exact .inr (.inl h')
  · rename_i h'; exact .inr (.inr h')
  · cases h
theorem se_var (i : Nat) {x : Str} {pos : Pos} (hN : T.N[i]? = some x) (hv : visB T.sc x = true) (hd : (x == ("__debug__" : Str)) = false := by decide) (hcd : (x == ("__classdict__" : Str)) = false := by decide) : SE T (.Name x pos) (gV i) := by
  intro X G σ H ρ d env hd' Q q
  obtain ⟨v, e1, e2⟩ := env.get hd'
  exact ⟨_, pe_var (i := i) (by rw [G.hN]; exact hN) (by rw [G.hs]; exact vis_of hv) hd hcd, v, e1, q v H (Same.refl H) e2⟩
def gC (d : D) : En → Option D := fun _ => some d
theorem se_int {i : Int} {j : Nat} {pos : Pos} : SE T (.Constant (.int i) j pos) (gC (.int i)) := fun X G σ H ρ d env hd Q q => by
  cases hd; exact ⟨_, pe_int, q _ H (Same.refl H) (.int _)⟩
theorem se_bl {i : Bool} {j : Nat} {pos : Pos} : SE T (.Constant (.bool i) j pos) (gC (.bl i)) := fun X G σ H ρ d env hd Q q => by
  cases hd; exact ⟨_, pe_bl, q _ H (Same.refl H) (.bl _)⟩
theorem se_non {j : Nat} {pos : Pos} : SE T (.Constant .none j pos) (gC .non) := fun X G σ H ρ d env hd Q q => by
  cases hd; exact ⟨_, pe_non, q _ H (Same.refl H) .non⟩
theorem se_str {x : Str} {j : Nat} {pos : Pos} : SE T (.Constant (.str x) j pos) (gC (.str x)) := fun X G σ H ρ d env hd Q q => by
  cases hd; exact ⟨_, pe_str, q _ H (Same.refl H) (.str _)⟩
/-- a module's constant -/
theorem se_glob {x : Str} {pos : Pos} {d : D} {v : V} {u : Value} (hg : T.sc.names.lookup x = some .globalImplicit) (hm : T.mg x = some u) (r : RelV v u) (hd : ∀ H, Dq T.K H v d) (hdb : (x == ("__debug__" : Str)) = false := by decide) : SE T (.Name x pos) (gC d) := by
  intro X G σ H ρ d' env he Q q
  cases he
  exact ⟨_, pe_glob (by show X.env.scope.names.lookup x = _; rw [G.hs]; exact hg) (by rw [G.hm]; exact hm) r hdb, q _ H (Same.refl H) (hd H)⟩

/-! two places -/
def OpD (T : Ct) (f : Value → Value → Sem Value) (h : D → D → Option D) : Prop :=
  ∀ X, Good T X → ∀ (H : Hp) (x y : V) (d e z : D), Dq T.K H x d → Dq T.K H y e → h d e = some z → ∀ Q : VK, (∀ v H', Same H H' → Dq T.K H' v z → Q v H') → ∃ r : R2, OpR X f r ∧ r x y H Q
def g2 (h : D → D → Option D) (a b : En → Option D) : En → Option D := fun ρ => (a ρ).bind fun x => (b ρ).bind fun y => h x y
theorem g2_some {h : D → D → Option D} {a b : En → Option D} {ρ : En} {z : D} (e : g2 h a b ρ = some z) : ∃ x y, a ρ = some x ∧ b ρ = some y ∧ h x y = some z := by
  unfold g2 at e
  cases ha : a ρ with
  | none => rw [ha] at e; cases e
  | some x =>
    rw [ha] at e
    cases hb : b ρ with
    | none => rw [hb] at e; cases e
    | some y => rw [hb] at e; exact ⟨x, y, rfl, rfl, e⟩
variable {a b c : Expr} {ga gb gc : En → Option D} {pos : Pos}
theorem se_bin {op : Operator} {h : D → D → Option D} (o : OpD T (binaryOp op) h) (ha : SE T a ga) (hb : SE T b gb) : SE T (.BinOp a op b pos) (g2 h ga gb) := by
  intro X G σ H ρ d env hd Q q
  obtain ⟨x, y, e1, e2, e3⟩ := g2_some hd
  let r : R2 := fun x y H Q => ∃ r : R2, OpR X (binaryOp op) r ∧ r x y H Q
  have hr : OpR X (binaryOp op) r := fun pins s σ H x y v u Q I rx ry ⟨r, h1, h2⟩ => h1 pins s σ H x y v u Q I rx ry h2
  refine ⟨_, pe_op hr pe_w pe_w, ?_⟩
  refine ha X G σ H ρ x env e1 _ fun v H1 s1 d1 => ?_
  refine hb X G σ H1 ρ y (env.mono s1) e2 _ fun u H2 s2 d2 => ?_
  exact o X G H2 v u x y d (d1.mono s2) d2 e3 Q fun v' H' s3 d3 => q v' H' ((s1.trans s2).trans s3) d3
theorem se_cmp {op : CmpOp} {h : D → D → Option D} (o : OpD T (compareOp op) h) (ha : SE T a ga) (hb : SE T b gb) (hm : behindInMarks op b = false) : SE T (.Compare a [op] [b] pos) (g2 h ga gb) := by
  intro X G σ H ρ d env hd Q q
  obtain ⟨x, y, e1, e2, e3⟩ := g2_some hd
  let r : R2 := fun x y H Q => ∃ r : R2, OpR X (compareOp op) r ∧ r x y H Q
  have hr : OpR X (compareOp op) r := fun pins s σ H x y v u Q I rx ry ⟨r, h1, h2⟩ => h1 pins s σ H x y v u Q I rx ry h2
  refine ⟨_, pe_cmpR hr pe_w pe_w hm, ?_⟩
  refine ha X G σ H ρ x env e1 _ fun v H1 s1 d1 => ?_
  refine hb X G σ H1 ρ y (env.mono s1) e2 _ fun u H2 s2 d2 => ?_
  exact o X G H2 v u x y d (d1.mono s2) d2 e3 Q fun v' H' s3 d3 => q v' H' ((s1.trans s2).trans s3) d3
def gT (g : En → Option D) : En → Option Bool := fun ρ => (g ρ).bind fun d => match d with
  | .bl b => some b
  | _ => none
theorem gT_some {g : En → Option D} {ρ : En} {k : Bool} (e : gT g ρ = some k) : g ρ = some (.bl k) := by
  unfold gT at e
  cases ha : g ρ with
  | none => rw [ha] at e; cases e
  | some x =>
    rw [ha] at e
    cases x <;> first | (cases e; rfl) | cases e
theorem st_cmp {op : CmpOp} {h : D → D → Option D} (o : OpD T (compareOp op) h) (ha : SE T a ga) (hb : SE T b gb) (hm : behindInMarks op b = false) : ST T (.Compare a [op] [b] pos) (gT (g2 h ga gb)) := by
  intro X G σ H ρ d env hd Q q
  obtain ⟨x, y, e1, e2, e3⟩ := g2_some (gT_some hd)
  let r : R2 := fun x y H Q => ∃ r : R2, OpR X (compareOp op) r ∧ r x y H Q
  have hr : OpR X (compareOp op) r := fun pins s σ H x y v u Q I rx ry ⟨r, h1, h2⟩ => h1 pins s σ H x y v u Q I rx ry h2
  refine ⟨_, pt_cmpR hr pe_w pe_w hm, ?_⟩
  refine ha X G σ H ρ x env e1 _ fun v H1 s1 d1 => ?_
  refine hb X G σ H1 ρ y (env.mono s1) e2 _ fun u H2 s2 d2 => ?_
  refine o X G H2 v u x y (.bl d) (d1.mono s2) d2 e3 _ fun v' H' s3 d3 => ?_
  cases d3
  exact ⟨d, rfl, q H' ((s1.trans s2).trans s3)⟩
/-- a value that is a truth, as a test -/
theorem st_val (ha : SE T a ga) (he : ∀ env whole, isTrue a env whole = (do let v ← whole; standAt a.pos; holding [v] (truthy v)) := by intro _ _; rfl) : ST T a (gT ga) := by
  intro X G σ H ρ d env hd Q q
  refine ⟨_, pt_val pe_w (he X.env), ?_⟩
  refine ha X G σ H ρ (.bl d) env (gT_some hd) _ fun v H1 s1 d1 => ?_
  cases d1
  exact ⟨d, rfl, q H1 s1⟩

/-! and, or, not -/
variable {ta tb : En → Option Bool} {rest : List Expr}
def gAnd (a b : En → Option Bool) : En → Option Bool := fun ρ => (a ρ).bind fun x => if x = true then b ρ else some false
def gOr (a b : En → Option Bool) : En → Option Bool := fun ρ => (a ρ).bind fun x => if x = true then some true else b ρ
def gNot (a : En → Option Bool) : En → Option Bool := fun ρ => (a ρ).map fun x => !x
def gB (a : En → Option Bool) : En → Option D := fun ρ => (a ρ).map D.bl
theorem gB_some {a : En → Option Bool} {ρ : En} {d : D} (e : gB a ρ = some d) : ∃ b, a ρ = some b ∧ d = .bl b := by
  unfold gB at e
  cases ha : a ρ with
  | none => rw [ha] at e; cases e
  | some x => rw [ha] at e; cases e; exact ⟨x, rfl, rfl⟩
theorem sw_and1 (ha : ST T a ta) : SW T (.BoolOp .And [a] pos) ta := fun X G σ H ρ d env hd Q q => ⟨_, pw_and1 pt_w, ha X G σ H ρ d env hd Q q⟩
theorem sw_or1 (ha : ST T a ta) : SW T (.BoolOp .Or [a] pos) ta := fun X G σ H ρ d env hd Q q => ⟨_, pw_or1 pt_w, ha X G σ H ρ d env hd Q q⟩
theorem gAnd_some {ρ : En} {k : Bool} (e : gAnd ta tb ρ = some k) : (ta ρ = some true ∧ tb ρ = some k) ∨ (ta ρ = some false ∧ k = false) := by
  unfold gAnd at e
  cases ha : ta ρ with
  | none => rw [ha] at e; cases e
  | some x =>
    rw [ha] at e
    cases x with
    | true => exact .inl ⟨rfl, e⟩
    | false => cases e; exact .inr ⟨rfl, rfl⟩
theorem gOr_some {ρ : En} {k : Bool} (e : gOr ta tb ρ = some k) : (ta ρ = some false ∧ tb ρ = some k) ∨ (ta ρ = some true ∧ k = true) := by
  unfold gOr at e
  cases ha : ta ρ with
  | none => rw [ha] at e; cases e
  | some x =>
    rw [ha] at e
    cases x with
    | false => exact .inl ⟨rfl, e⟩
    | true => cases e; exact .inr ⟨rfl, rfl⟩
theorem sw_and (ha : ST T a ta) (hb : SW T (.BoolOp .And (b :: rest) pos) tb) : SW T (.BoolOp .And (a :: b :: rest) pos) (gAnd ta tb) := by
  intro X G σ H ρ d env hd Q q
  refine ⟨_, pw_and pt_w pw_w, ?_⟩
  rcases gAnd_some hd with ⟨e1, e2⟩ | ⟨e1, e2⟩
  · refine ha X G σ H ρ true env e1 _ fun H1 s1 => ?_
    rw [if_pos rfl]
    exact hb X G σ H1 ρ d (env.mono s1) e2 Q fun H2 s2 => q H2 (s1.trans s2)
  · refine ha X G σ H ρ false env e1 _ fun H1 s1 => ?_
    rw [if_neg Bool.false_ne_true]
    rw [← e2]
    exact q H1 s1
theorem sw_or (ha : ST T a ta) (hb : SW T (.BoolOp .Or (b :: rest) pos) tb) : SW T (.BoolOp .Or (a :: b :: rest) pos) (gOr ta tb) := by
  intro X G σ H ρ d env hd Q q
  refine ⟨_, pw_or pt_w pw_w, ?_⟩
  rcases gOr_some hd with ⟨e1, e2⟩ | ⟨e1, e2⟩
  · refine ha X G σ H ρ false env e1 _ fun H1 s1 => ?_
    rw [if_neg Bool.false_ne_true]
    exact hb X G σ H1 ρ d (env.mono s1) e2 Q fun H2 s2 => q H2 (s1.trans s2)
  · refine ha X G σ H ρ true env e1 _ fun H1 s1 => ?_
    rw [if_pos rfl]
    rw [← e2]
    exact q H1 s1
theorem st_sw {e : Expr} (h : SW T e ta) : ST T e ta := fun X G σ H ρ d env hd Q q => by
  obtain ⟨t, p, hq⟩ := h X G σ H ρ d env hd Q q
  exact ⟨t, p.pt, hq⟩
theorem st_not (ha : ST T a ta) : ST T (.UnaryOp .Not a pos) (gNot ta) := by
  intro X G σ H ρ d env hd Q q
  refine ⟨_, pt_not pt_w, ?_⟩
  unfold gNot at hd
  cases e : ta ρ with
  | none => rw [e] at hd; cases hd
  | some x =>
    rw [e] at hd
    cases hd
    exact ha X G σ H ρ x env e _ fun H1 s1 => q H1 s1
/-- .. as values -/
theorem se_one {op : BoolOp} (ha : SE T a ga) : SE T (.BoolOp op [a] pos) ga := fun X G σ H ρ d env hd Q q => ⟨_, pe_one pe_w, ha X G σ H ρ d env hd Q q⟩
theorem se_and (ha : SE T a (gB ta)) (hb : SE T (.BoolOp .And (b :: rest) pos) (gB tb)) : SE T (.BoolOp .And (a :: b :: rest) pos) (gB (gAnd ta tb)) := by
  intro X G σ H ρ d env hd Q q
  obtain ⟨k, hk, rfl⟩ := gB_some hd
  refine ⟨_, pe_and pe_w pe_w, ?_⟩
  rcases gAnd_some hk with ⟨e1, e2⟩ | ⟨e1, e2⟩
  · refine ha X G σ H ρ (.bl true) env (by unfold gB; rw [e1]; rfl) _ fun v H1 s1 d1 => ?_
    cases d1
    refine ⟨true, rfl, ?_⟩
    rw [if_pos rfl]
    exact hb X G σ H1 ρ _ (env.mono s1) (by unfold gB; rw [e2]; rfl) Q fun v H2 s2 d2 => q v H2 (s1.trans s2) d2
  · refine ha X G σ H ρ (.bl false) env (by unfold gB; rw [e1]; rfl) _ fun v H1 s1 d1 => ?_
    cases d1
    refine ⟨false, rfl, ?_⟩
    rw [if_neg Bool.false_ne_true]
    subst e2
    exact q _ H1 s1 (.bl _)
theorem se_or (ha : SE T a (gB ta)) (hb : SE T (.BoolOp .Or (b :: rest) pos) (gB tb)) : SE T (.BoolOp .Or (a :: b :: rest) pos) (gB (gOr ta tb)) := by
  intro X G σ H ρ d env hd Q q
  obtain ⟨k, hk, rfl⟩ := gB_some hd
  refine ⟨_, pe_or pe_w pe_w, ?_⟩
  rcases gOr_some hk with ⟨e1, e2⟩ | ⟨e1, e2⟩
  · refine ha X G σ H ρ (.bl false) env (by unfold gB; rw [e1]; rfl) _ fun v H1 s1 d1 => ?_
    cases d1
    refine ⟨false, rfl, ?_⟩
    rw [if_neg Bool.false_ne_true]
    exact hb X G σ H1 ρ _ (env.mono s1) (by unfold gB; rw [e2]; rfl) Q fun v H2 s2 d2 => q v H2 (s1.trans s2) d2
  · refine ha X G σ H ρ (.bl true) env (by unfold gB; rw [e1]; rfl) _ fun v H1 s1 d1 => ?_
    cases d1
    refine ⟨true, rfl, ?_⟩
    rw [if_pos rfl]
    subst e2
    exact q _ H1 s1 (.bl _)
theorem se_not (ha : SE T a (gB ta)) : SE T (.UnaryOp .Not a pos) (gB (gNot ta)) := by
  intro X G σ H ρ d env hd Q q
  obtain ⟨k, hk, rfl⟩ := gB_some hd
  refine ⟨_, pe_not pe_w, ?_⟩
  unfold gNot at hk
  cases e : ta ρ with
  | none => rw [e] at hk; cases hk
  | some x =>
    rw [e] at hk
    cases hk
    refine ha X G σ H ρ (.bl x) env (by unfold gB; rw [e]; rfl) _ fun v H1 s1 d1 => ?_
    cases d1
    exact ⟨x, rfl, q _ H1 s1 (.bl _)⟩
/-- a value known to be a truth -/
theorem se_tr (ha : SE T a ga) : SE T a (gB (gT ga)) := fun X G σ H ρ d env hd Q q => by
  obtain ⟨k, hk, rfl⟩ := gB_some hd
  exact ha X G σ H ρ _ env (gT_some hk) Q q
def gIf (t : En → Option Bool) (a b : En → Option D) : En → Option D := fun ρ => (t ρ).bind fun x => if x = true then a ρ else b ρ
theorem se_if (hc : ST T c ta) (ha : SE T a ga) (hb : SE T b gb) : SE T (.IfExp c a b pos) (gIf ta ga gb) := by
  intro X G σ H ρ d env hd Q q
  refine ⟨_, pe_ifExp pt_w pe_w pe_w, ?_⟩
  unfold gIf at hd
  cases e : ta ρ with
  | none => rw [e] at hd; cases hd
  | some x =>
    rw [e] at hd
    refine hc X G σ H ρ x env e _ fun H1 s1 => ?_
    cases x with
    | true =>
      rw [if_pos rfl]
      exact ha X G σ H1 ρ d (env.mono s1) hd Q fun v H2 s2 d2 => q v H2 (s1.trans s2) d2
    | false =>
      rw [if_neg Bool.false_ne_true]
      exact hb X G σ H1 ρ d (env.mono s1) hd Q fun v H2 s2 d2 => q v H2 (s1.trans s2) d2

/-! argument lists, displays -/
def gNil : En → Option (List D) := fun _ => some []
def gCons (a : En → Option D) (r : En → Option (List D)) : En → Option (List D) := fun ρ => (a ρ).bind fun x => (r ρ).bind fun xs => some (x :: xs)
theorem sa_nil : SA T [] gNil := fun X G σ H ρ d env hd Q q => by
  cases hd
  exact ⟨_, pa_nil, q [] H (Same.refl H) .nil⟩
theorem sa_cons {es : List Expr} {gr : En → Option (List D)} (ha : SE T a ga) (hr : SA T es gr) (hs : ∀ env, starEach (a :: es) env = (false, eval a env) :: starEach es env := by intro _; rfl) : SA T (a :: es) (gCons ga gr) := by
  intro X G σ H ρ ds env hd Q q
  unfold gCons at hd
  cases e1 : ga ρ with
  | none => rw [e1] at hd; cases hd
  | some x =>
    rw [e1] at hd
    cases e2 : gr ρ with
    | none => rw [e2] at hd; cases hd
    | some xs =>
      rw [e2] at hd
      cases hd
      refine ⟨_, pa_cons pe_w pa_w (hs X.env), ?_⟩
      refine ha X G σ H ρ x env e1 _ fun v H1 s1 d1 => ?_
      exact hr X G σ H1 ρ xs (env.mono s1) e2 _ fun vs H2 s2 d2 => q _ H2 (s1.trans s2) (.cons (d1.mono s2) d2)
def gTup (g : En → Option (List D)) : En → Option D := fun ρ => (g ρ).bind fun ds => if ds.length ≤ 1000000 then some (.tup ds) else none
theorem sz {n : Nat} (h : n ≤ 1000000) : n ≤ sizeLine := Nat.le_trans h (by decide)
theorem se_tup {es : List Expr} {k : Nat} {gr : En → Option (List D)} (h : SA T es gr) : SE T (.Tuple es k pos) (gTup gr) := by
  intro X G σ H ρ d env hd Q q
  unfold gTup at hd
  cases e1 : gr ρ with
  | none => rw [e1] at hd; cases hd
  | some ds =>
    rw [e1] at hd
    have hd : (if ds.length ≤ 1000000 then some (D.tup ds) else none) = some d := hd
    split at hd
    · cases hd
      refine ⟨_, pe_tup pa_w, ?_⟩
      refine h X G σ H ρ ds env e1 _ fun vs H1 s1 d1 => ⟨by rw [d1.length]; exact sz (by assumption), fun p hp => ?_⟩
      have s2 := same_upd (o := .tup vs) hp
      exact q _ _ (s1.trans s2) (.tup (SqT.of upd_same) (d1.mono s2))
    · cases hd
def gLst (g : En → Option (List D)) : En → Option (List D) := fun ρ => (g ρ).bind fun ds => if ds.length ≤ 1000000 then some ds else none
theorem sl_lst {es : List Expr} {gr : En → Option (List D)} (h : SA T es gr) : SL T (.List es pos) (gLst gr) := by
  intro X G σ H ρ d env hd Q q
  unfold gLst at hd
  cases e1 : gr ρ with
  | none => rw [e1] at hd; cases hd
  | some ds =>
    rw [e1] at hd
    have hd : (if ds.length ≤ 1000000 then some ds else none) = some d := hd
    split at hd
    · have hd := Option.some.inj hd
      subst hd
      refine ⟨_, pe_lst pa_w, ?_⟩
      refine h X G σ H ρ ds env e1 _ fun vs H1 s1 d1 => ⟨by rw [d1.length]; exact sz (by assumption), fun p hp => ?_⟩
      have s2 := same_upd (o := .lst vs) hp
      exact q _ vs _ (s1.free hp) (s1.trans s2) upd_same (d1.mono s2)
    · cases hd
end
end Pf

set_option Elab.async false
set_option linter.all false
set_option maxRecDepth 100000
set_option maxHeartbeats 2000000
/-! Pf2: operators. -/
namespace Pf
open PySem PySem.Spec L2
section
variable {T : Ct}
/-! ### numbers, texts, tuples: + - * // % ** -/
def addD : D → D → Option D
  | .int i, .int j => some (.int (i + j))
  | .str a, .str b => if a.length + b.length ≤ 1000000 then some (.str (a ++ b)) else none
  | .tup a, .tup b => if a.length + b.length ≤ 1000000 then some (.tup (a ++ b)) else none
  | _, _ => none
def subD : D → D → Option D
  | .int i, .int j => some (.int (i - j))
  | _, _ => none
def mulD : D → D → Option D
  | .int i, .int j => if (-(2 ^ 64) < i ∧ i < 2 ^ 64) ∨ (-(2 ^ 64) < j ∧ j < 2 ^ 64) then some (.int (i * j)) else none
  | _, _ => none
def modD : D → D → Option D
  | .int i, .int j => if 0 < j then some (.int (i % j)) else none
  | _, _ => none
def fdivD : D → D → Option D
  | .int i, .int j => if 0 < j ∧ j < 1073741824 then some (.int (i / j)) else none
  | _, _ => none
def powD : D → D → Option D
  | .int i, .int j => if 0 ≤ j ∧ j ≤ 1000000 ∧ i.natAbs < 2 ^ 64 then some (.int (i ^ j.toNat)) else none
  | _, _ => none
theorem od_add : OpD T (binaryOp .Add) addD := by
  intro X G H x y d e z dx dy h Q q
  cases d <;> cases e <;> try (cases h; done)
  · cases h; cases dx; cases dy
    exact ⟨_, op_add, _, _, rfl, rfl, q _ H (Same.refl H) (.int _)⟩
  · rename_i a b
    cases dx; cases dy
    have h : (if a.length + b.length ≤ 1000000 then some (D.str (a ++ b)) else none) = some z := h
    split at h
    · cases h
      exact ⟨_, op_add_str, _, _, rfl, rfl, sz (by assumption), q _ H (Same.refl H) (.str _)⟩
    · cases h
  · rename_i a b
    have h : (if a.length + b.length ≤ 1000000 then some (D.tup (a ++ b)) else none) = some z := h
    split at h
    · rename_i hl
      cases h
      cases dx with
      | tup h1 h2 =>
        cases dy with
        | tup h3 h4 =>
          have l1 := h2.length
          have l2 := h4.length
          refine ⟨_, op_catA, _, _, _, _, rfl, rfl, by rw [G.hK]; exact h1, by rw [G.hK]; exact h3, by rw [l1, l2]; exact sz hl, fun e1 => ?_, fun e1 e2 => ?_, fun e1 e2 p hp => ?_⟩
          · subst e1
            have : a = [] := List.eq_nil_of_length_eq_zero (by simpa using l1.symm)
            subst this
            exact q _ H (Same.refl H) (.tup h3 h4)
          · subst e2
            have : b = [] := List.eq_nil_of_length_eq_zero (by simpa using l2.symm)
            subst this
            rw [List.append_nil] at q
            exact q _ H (Same.refl H) (.tup h1 h2)
          · exact q _ _ (same_upd hp) (.tup (SqT.of upd_same) ((h2.append h4).mono (same_upd hp)))
    · cases h
theorem od_sub : OpD T (binaryOp .Sub) subD := by
  intro X G H x y d e z dx dy h Q q
  cases d <;> cases e <;> try (cases h; done)
  cases h; cases dx; cases dy
  exact ⟨_, op_sub, _, _, rfl, rfl, q _ H (Same.refl H) (.int _)⟩
theorem od_mul : OpD T (binaryOp .Mult) mulD := by
  intro X G H x y d e z dx dy h Q q
  cases d <;> cases e <;> try (cases h; done)
  rename_i i j
  have h : (if (-(2 ^ 64) < i ∧ i < 2 ^ 64) ∨ (-(2 ^ 64) < j ∧ j < 2 ^ 64) then some (D.int (i * j)) else none) = some z := h
  split at h
  · rename_i hc
    cases h; cases dx; cases dy
    exact ⟨_, op_mul, _, _, rfl, rfl, hc, q _ H (Same.refl H) (.int _)⟩
  · cases h
theorem od_mod : OpD T (binaryOp .Mod) modD := by
  intro X G H x y d e z dx dy h Q q
  cases d <;> cases e <;> try (cases h; done)
  rename_i i j
  have h : (if 0 < j then some (D.int (i % j)) else none) = some z := h
  split at h
  · rename_i hc
    cases h; cases dx; cases dy
    exact ⟨_, op_mod, _, _, rfl, rfl, hc, q _ H (Same.refl H) (.int _)⟩
  · cases h
theorem od_fdiv : OpD T (binaryOp .FloorDiv) fdivD := by
  intro X G H x y d e z dx dy h Q q
  cases d <;> cases e <;> try (cases h; done)
  rename_i i j
  have h : (if 0 < j ∧ j < 1073741824 then some (D.int (i / j)) else none) = some z := h
  split at h
  · rename_i hc
    cases h; cases dx; cases dy
    exact ⟨_, op_fdiv, _, _, rfl, rfl, hc, q _ H (Same.refl H) (.int _)⟩
  · cases h
theorem od_pow : OpD T (binaryOp .Pow) powD := by
  intro X G H x y d e z dx dy h Q q
  cases d <;> cases e <;> try (cases h; done)
  rename_i i j
  have h : (if 0 ≤ j ∧ j ≤ 1000000 ∧ i.natAbs < 2 ^ 64 then some (D.int (i ^ j.toNat)) else none) = some z := h
  split at h
  · rename_i hc
    cases h; cases dx; cases dy
    exact ⟨_, op_pow, _, _, rfl, rfl, hc, q _ H (Same.refl H) (.int _)⟩
  · cases h
variable {a b c : Expr} {ga gb gc : En → Option D} {pos : Pos}
def negD : D → Option D
  | .int i => some (.int (-i))
  | _ => none
def g1 (h : D → Option D) (a : En → Option D) : En → Option D := fun ρ => (a ρ).bind h
theorem se_neg (ha : SE T a ga) : SE T (.UnaryOp .USub a pos) (g1 negD ga) := by
  intro X G σ H ρ d env hd Q q
  unfold g1 at hd
  cases e : ga ρ with
  | none => rw [e] at hd; cases hd
  | some x =>
    rw [e] at hd
    have hd : negD x = some d := hd
    cases x <;> try (cases hd; done)
    cases hd
    refine ⟨_, pe_un un_neg pe_w, ?_⟩
    refine ha X G σ H ρ _ env e _ fun v H1 s1 d1 => ?_
    cases d1
    exact ⟨_, rfl, q _ H1 s1 (.int _)⟩
/-! ### comparisons -/
def cmpD (p : Int → Int → Bool) : D → D → Option D
  | .int i, .int j => some (.bl (p i j))
  | _, _ => none
theorem od_cmp {op : CmpOp} {p : Int → Int → Bool} (rule : ∀ X, OpR X (compareOp op) (rI0 fun i j => .bl (p i j))) : OpD T (compareOp op) (cmpD p) := by
  intro X G H x y d e z dx dy h Q q
  cases d <;> cases e <;> try (cases h; done)
  cases h; cases dx; cases dy
  exact ⟨_, rule X, _, _, rfl, rfl, q _ H (Same.refl H) (.bl _)⟩
abbrev ltD := cmpD fun i j => decide (i < j)
abbrev leD := cmpD fun i j => decide (i ≤ j)
abbrev gtD := cmpD fun i j => decide (j < i)
abbrev geD := cmpD fun i j => decide (j ≤ i)
theorem od_lt : OpD T (compareOp .Lt) ltD := od_cmp fun _ => op_lt
theorem od_le : OpD T (compareOp .LtE) leD := od_cmp fun _ => op_le
theorem od_gt : OpD T (compareOp .Gt) gtD := od_cmp fun _ => op_gt
theorem od_ge : OpD T (compareOp .GtE) geD := od_cmp fun _ => op_ge
mutual
def toPy : D → Option PyData
  | .non => some .none
  | .bl b => some (.bool b)
  | .int i => some (.int i)
  | .str z => some (.str z)
  | .tup ds => (toPyA ds).map .tuple
  | .lst ds => (toPyA ds).map .list
  | .scr _ => none
def toPyA : List D → Option (List PyData)
  | [] => some []
  | d :: ds => (toPy d).bind fun p => (toPyA ds).map fun ps => p :: ps
end
mutual
theorem dp_of {K : PySem.W.Frag} {H : Hp} : ∀ (d : D) (v : V) (p : PyData), Dq K H v d → toPy d = some p → Dp K H v p
  | .non, _, _, h, e => by cases h; simp only [toPy] at e; cases e; exact .non
  | .bl b, _, _, h, e => by cases h; simp only [toPy] at e; cases e; exact .bl _
  | .int i, _, _, h, e => by cases h; simp only [toPy] at e; cases e; exact .int _
  | .str z, _, _, h, e => by cases h; simp only [toPy] at e; cases e; exact .str _
  | .tup ds, _, _, h, e => by
    cases h with
    | tup h1 h2 =>
      simp only [toPy] at e
      cases q : toPyA ds with
      | none => rw [q] at e; cases e
      | some ps =>
        rw [q] at e
        cases e
        exact .tup h1 (dp_ofA ds _ ps h2 q)
  | .lst ds, _, _, h, e => by
    cases h with
    | lst h1 h2 =>
      simp only [toPy] at e
      cases q : toPyA ds with
      | none => rw [q] at e; cases e
      | some ps =>
        rw [q] at e
        cases e
        exact .lst (SqL.of h1) (dp_ofA ds _ ps h2 q)
  | .scr _, _, _, _, e => by simp only [toPy] at e; cases e
theorem dp_ofA {K : PySem.W.Frag} {H : Hp} : ∀ (ds : List D) (vs : List V) (ps : List PyData), DqA K H vs ds → toPyA ds = some ps → DpAll K H vs ps
  | [], _, _, h, e => by cases h; simp only [toPyA] at e; cases e; exact .nil
  | d :: ds, _, _, h, e => by
    cases h with
    | cons h1 h2 =>
      simp only [toPyA] at e
      cases q : toPy d with
      | none => rw [q] at e; cases e
      | some p =>
        rw [q] at e
        cases q2 : toPyA ds with
        | none => rw [q2] at e; cases e
        | some ps =>
          rw [q2] at e
          cases e
          exact .cons (dp_of d _ p h1 q) (dp_ofA ds _ ps h2 q2)
end
def eqB (d e : D) : Option Bool := (toPy d).bind fun p => (toPy e).bind fun q => if SeqAt.shaped p = true ∧ SeqAt.shaped q = true then some (PyData.eqv p q) else none
def eqD (d e : D) : Option D := (eqB d e).map D.bl
def neD (d e : D) : Option D := (eqB d e).map fun b => D.bl (!b)
theorem eqB_some {d e : D} {b : Bool} (h : eqB d e = some b) : ∃ p q, toPy d = some p ∧ toPy e = some q ∧ SeqAt.shaped p = true ∧ SeqAt.shaped q = true ∧ b = PyData.eqv p q := by
  unfold eqB at h
  cases e1 : toPy d with
  | none => rw [e1] at h; cases h
  | some p =>
    rw [e1] at h
    cases e2 : toPy e with
    | none => rw [e2] at h; cases h
    | some q =>
      rw [e2] at h
      have h : (if SeqAt.shaped p = true ∧ SeqAt.shaped q = true then some (PyData.eqv p q) else none) = some b := h
      split at h
      · rename_i hc
        cases h
        exact ⟨p, q, rfl, rfl, hc.1, hc.2, rfl⟩
      · cases h
theorem od_eq : OpD T (compareOp .Eq) eqD := by
  intro X G H x y d e z dx dy h Q q
  unfold eqD at h
  cases hb : eqB d e with
  | none => rw [hb] at h; cases h
  | some b =>
    rw [hb] at h
    cases h
    obtain ⟨p, p', e1, e2, s1, s2, rfl⟩ := eqB_some hb
    refine ⟨_, op_eqD (by have := G.hu; omega), p, p', ?_, ?_, s1, s2, q _ H (Same.refl H) (.bl _)⟩
    · rw [G.hK]; exact dp_of d x p dx e1
    · rw [G.hK]; exact dp_of e y p' dy e2
theorem od_ne : OpD T (compareOp .NotEq) neD := by
  intro X G H x y d e z dx dy h Q q
  unfold neD at h
  cases hb : eqB d e with
  | none => rw [hb] at h; cases h
  | some b =>
    rw [hb] at h
    cases h
    obtain ⟨p, p', e1, e2, s1, s2, rfl⟩ := eqB_some hb
    refine ⟨_, op_neD (by have := G.hu; omega), p, p', ?_, ?_, s1, s2, q _ H (Same.refl H) (.bl _)⟩
    · rw [G.hK]; exact dp_of d x p dx e1
    · rw [G.hK]; exact dp_of e y p' dy e2
def isNon : D → Bool
  | .non => true
  | _ => false
theorem Dq.isNon {K : PySem.W.Frag} {H : Hp} {v : V} {d : D} (h : Dq K H v d) : decide (v = .non) = Pf.isNon d := by
  cases h <;> first | rfl | exact decide_eq_false (fun q => nomatch q)
def isND : D → D → Option D
  | d, .non => some (.bl (isNon d))
  | _, _ => none
def notND : D → D → Option D
  | d, .non => some (.bl (!isNon d))
  | _, _ => none
theorem od_isN : OpD T (compareOp .Is) isND := by
  intro X G H x y d e z dx dy h Q q
  cases e <;> try (cases d <;> cases h; done)
  have h : some (D.bl (isNon d)) = some z := by cases d <;> exact h
  cases h; cases dy
  exact ⟨_, op_isN, rfl, by rw [dx.isNon]; exact q _ H (Same.refl H) (.bl _)⟩
theorem od_notN : OpD T (compareOp .IsNot) notND := by
  intro X G H x y d e z dx dy h Q q
  cases e <;> try (cases d <;> cases h; done)
  have h : some (D.bl (!isNon d)) = some z := by cases d <;> exact h
  cases h; cases dy
  exact ⟨_, op_notN, rfl, by rw [dx.isNon]; exact q _ H (Same.refl H) (.bl _)⟩
def dInts : List D → Option (List Int)
  | [] => some []
  | .int i :: r => (dInts r).map (i :: ·)
  | _ => none
@[simp] theorem dInts_map : ∀ ns : List Int, dInts (ns.map D.int) = some ns
  | [] => rfl
  | n :: ns => by simp [dInts, dInts_map ns]
theorem dInts_some : ∀ {ds : List D} {ns : List Int}, dInts ds = some ns → ds = ns.map D.int
  | [], _, h => by simp only [dInts] at h; cases h; rfl
  | d :: ds, ns, h => by
    cases d with
    | int i =>
      simp only [dInts] at h
      cases q : dInts ds with
      | none => rw [q] at h; cases h
      | some ms =>
        rw [q] at h
        cases h
        rw [dInts_some q]; rfl
    | _ => simp only [dInts] at h; cases h
theorem inV_ints (i : Int) : ∀ ns : List Int, inV (.int i) (ns.map V.int) = decide (i ∈ ns)
  | [] => by simp [inV]
  | n :: ns => by
    have ih := inV_ints i ns
    unfold inV at ih ⊢
    rw [List.map_cons, List.any_cons, ih]
    have e : eqV (.int n) (.int i) = decide (n = i) := by
      simp only [eqV]
      exact Bool.beq_eq_decide_eq n i
    rw [e]
    by_cases h : n = i
    · subst h; simp
    · have h' : ¬ i = n := fun z => h z.symm
      simp [h, h']
def inD : D → D → Option D
  | .int i, .tup ds => (dInts ds).map fun ns => .bl (decide (i ∈ ns))
  | .str i, .str j => some (.bl (!(Builtin.Str.occurrences j i 0 j.length 1).isEmpty))
  | _, _ => none
def notInD : D → D → Option D
  | .int i, .tup ds => (dInts ds).map fun ns => .bl (!decide (i ∈ ns))
  | .str i, .str j => some (.bl (!(!(Builtin.Str.occurrences j i 0 j.length 1).isEmpty)))
  | _, _ => none
theorem flat_ints (ns : List Int) : (ns.map V.int).all flatV = true := by
  rw [List.all_map, List.all_eq_true]
  intro _ _
  rfl
theorem od_in : OpD T (compareOp .In) inD := by
  intro X G H x y d e z dx dy h Q q
  cases d <;> cases e <;> try (cases h; done)
  · rename_i i ds
    have h : ((dInts ds).map fun ns => D.bl (decide (i ∈ ns))) = some z := h
    cases hn : dInts ds with
    | none => rw [hn] at h; cases h
    | some ns =>
      rw [hn] at h
      cases h; cases dx
      rw [dInts_some hn] at dy
      cases dy with
      | tup h1 h2 =>
        have e1 := h2.of_ints
        subst e1
        refine ⟨_, op_in_seq, _, _, rfl, .inr (by rw [G.hK]; exact h1), rfl, flat_ints ns, ?_⟩
        rw [if_neg Bool.false_ne_true, inV_ints]
        exact q _ H (Same.refl H) (.bl _)
  · cases h; cases dx; cases dy
    exact ⟨_, op_in_str, _, _, rfl, rfl, q _ H (Same.refl H) (.bl _)⟩
theorem od_notIn : OpD T (compareOp .NotIn) notInD := by
  intro X G H x y d e z dx dy h Q q
  cases d <;> cases e <;> try (cases h; done)
  · rename_i i ds
    have h : ((dInts ds).map fun ns => D.bl (!decide (i ∈ ns))) = some z := h
    cases hn : dInts ds with
    | none => rw [hn] at h; cases h
    | some ns =>
      rw [hn] at h
      cases h; cases dx
      rw [dInts_some hn] at dy
      cases dy with
      | tup h1 h2 =>
        have e1 := h2.of_ints
        subst e1
        refine ⟨_, op_notIn_seq, _, _, rfl, .inr (by rw [G.hK]; exact h1), rfl, flat_ints ns, ?_⟩
        rw [if_pos rfl, inV_ints]
        exact q _ H (Same.refl H) (.bl _)
  · cases h; cases dx; cases dy
    exact ⟨_, op_notin_str, _, _, rfl, rfl, q _ H (Same.refl H) (.bl _)⟩
/-! ### chains low <= x <= high -/
def gCh (h h' : D → D → Option D) (a b c : En → Option D) : En → Option Bool := fun ρ => (a ρ).bind fun x => (b ρ).bind fun y => (h x y).bind fun z => match z with
  | .bl true => (c ρ).bind fun u => (h' y u).bind fun z' => match z' with
    | .bl k => some k
    | _ => none
  | .bl false => some false
  | _ => none
theorem gCh_some {h h' : D → D → Option D} {ρ : En} {k : Bool} (e : gCh h h' ga gb gc ρ = some k) : ∃ x y, ga ρ = some x ∧ gb ρ = some y ∧ ((h x y = some (.bl false) ∧ k = false) ∨ (h x y = some (.bl true) ∧ ∃ u, gc ρ = some u ∧ h' y u = some (.bl k))) := by
  unfold gCh at e
  cases e1 : ga ρ with
  | none => rw [e1] at e; cases e
  | some x =>
    rw [e1] at e
    cases e2 : gb ρ with
    | none => rw [e2] at e; cases e
    | some y =>
      rw [e2] at e
      refine ⟨x, y, rfl, rfl, ?_⟩
      simp only [Option.bind_some] at e
      cases e3 : h x y with
      | none => rw [e3] at e; cases e
      | some z =>
        rw [e3] at e
        simp only [Option.bind_some] at e
        cases z with
        | bl z =>
          cases z with
          | false => cases e; exact .inl ⟨rfl, rfl⟩
          | true =>
            simp only at e
            refine .inr ⟨rfl, ?_⟩
            cases e4 : gc ρ with
            | none => rw [e4] at e; cases e
            | some u =>
              rw [e4] at e
              simp only [Option.bind_some] at e
              cases e5 : h' y u with
              | none => rw [e5] at e; cases e
              | some w =>
                rw [e5] at e
                simp only [Option.bind_some] at e
                cases w <;> first | (cases e; exact ⟨u, rfl, e5⟩) | cases e
        | _ => cases e
theorem se_chain {op op' : CmpOp} {h h' : D → D → Option D} (o : OpD T (compareOp op) h) (o' : OpD T (compareOp op') h') (ha : SE T a ga) (hb : SE T b gb) (hc : SE T c gc) (hm : lastMarks [op, op'] [b, c] = false := by with_unfolding_all rfl) : SE T (.Compare a [op, op'] [b, c] pos) (gB (gCh h h' ga gb gc)) := by
  intro X G σ H ρ d env hd Q q
  obtain ⟨k, hk, rfl⟩ := gB_some hd
  obtain ⟨x, y, e1, e2, e3⟩ := gCh_some hk
  have hr : OpR X (compareOp op) (fun x y H Q => ∃ r : R2, OpR X (compareOp op) r ∧ r x y H Q) := fun pins s σ H x y v u Q I rx ry ⟨r, h1, h2⟩ => h1 pins s σ H x y v u Q I rx ry h2
  have hr' : OpR X (compareOp op') (fun x y H Q => ∃ r : R2, OpR X (compareOp op') r ∧ r x y H Q) := fun pins s σ H x y v u Q I rx ry ⟨r, h1, h2⟩ => h1 pins s σ H x y v u Q I rx ry h2
  refine ⟨_, pe_chain hr hr' pe_w pe_w pe_w hm, ?_⟩
  refine ha X G σ H ρ x env e1 _ fun v H1 s1 d1 => ?_
  refine hb X G σ H1 ρ y (env.mono s1) e2 _ fun u H2 s2 d2 => ?_
  rcases e3 with ⟨e3, rfl⟩ | ⟨e3, z, e4, e5⟩
  · refine o X G H2 v u x y (.bl false) (d1.mono s2) d2 e3 _ fun v' H' s3 d3 => ?_
    cases d3
    refine ⟨false, rfl, ?_⟩
    rw [if_neg Bool.false_ne_true]
    exact q _ H' ((s1.trans s2).trans s3) (.bl _)
  · refine o X G H2 v u x y (.bl true) (d1.mono s2) d2 e3 _ fun v' H' s3 d3 => ?_
    cases d3
    refine ⟨true, rfl, ?_⟩
    rw [if_pos rfl]
    refine hc X G σ H' ρ z (env.mono ((s1.trans s2).trans s3)) e4 _ fun w H4 s4 d4 => ?_
    exact o' X G H4 u w y z (.bl k) (d2.mono (s3.trans s4)) d4 e5 Q fun v' H' s5 d5 => q v' H' ((((s1.trans s2).trans s3).trans s4).trans s5) d5
end
end Pf

set_option Elab.async false
set_option linter.all false
set_option maxRecDepth 100000
set_option maxHeartbeats 2000000
/-! Pf3: subscripts, slices, calls. -/
namespace Pf
open PySem PySem.Spec L2
section
variable {T : Ct}
variable {a b c : Expr} {ga gb gc : En → Option D} {pos : Pos}
/-! ### a[i] -/
theorem ixN_of {n : Nat} {i : Int} {α : Type} {xs : List α} {v : α} (h : atI xs i = some v) : ∃ j, ixN xs.length i = some j ∧ xs[j]? = some v := by
  unfold atI at h
  cases q : ixN xs.length i with
  | none => rw [q] at h; cases h
  | some j => rw [q] at h; exact ⟨j, rfl, h⟩
theorem at_dq {K : PySem.W.Frag} {H : Hp} {xs : List V} {ds : List D} {i : Int} {d : D} (h : DqA K H xs ds) (e : atI ds i = some d) : ∃ v, atI xs i = some v ∧ Dq K H v d := by
  obtain ⟨j, e1, e2⟩ := ixN_of (n := 0) e
  obtain ⟨v, e3, e4⟩ := h.get e2
  refine ⟨v, ?_, e4⟩
  unfold atI
  rw [h.length, e1]
  exact e3
def ixD : D → D → Option D
  | .tup ds, .int i => atI ds i
  | .lst ds, .int i => atI ds i
  | .scr ns, .int i => (atI ns i).map D.int
  | .str z, .int i => if z.length ≤ 1000000 then (atI z.cps.toList i).map fun c => .str ⟨#[c]⟩ else none
  | _, _ => none
theorem atI_map {α β : Type} (f : α → β) (xs : List α) (i : Int) : atI (xs.map f) i = (atI xs i).map f := by
  unfold atI
  rw [List.length_map]
  cases ixN xs.length i with
  | none => rfl
  | some j => simp
theorem se_ix (ha : SE T a ga) (hb : SE T b gb) (hs : PlainIx b) : SE T (.Subscript a b pos) (g2 ixD ga gb) := by
  intro X G σ H ρ d env hd Q q
  obtain ⟨x, y, e1, e2, e3⟩ := g2_some hd
  have hr : IxR X (fun x y H Q => ∃ r : R2, IxR X r ∧ r x y H Q) := fun va sl pins s σ H x y v u Q I rx ry ⟨r, h1, h2⟩ hs => h1 va sl pins s σ H x y v u Q I rx ry h2 hs
  refine ⟨_, pe_ix hr pe_w pe_w hs, ?_⟩
  refine ha X G σ H ρ x env e1 _ fun v H1 s1 d1 => ?_
  refine hb X G σ H1 ρ y (env.mono s1) e2 _ fun u H2 s2 d2 => ?_
  have d1 := d1.mono s2
  cases x <;> cases y <;> try (cases e3; done)
  · rename_i z _ i
    cases d1; cases d2
    have e3 : (if z.length ≤ 1000000 then (atI z.cps.toList i).map fun c => D.str ⟨#[c]⟩ else none) = some d := e3
    split at e3
    · rename_i hz
      cases q' : atI z.cps.toList i with
      | none => rw [q'] at e3; cases e3
      | some c =>
        rw [q'] at e3
        cases e3
        exact ⟨_, ix_str, z, i, c, rfl, rfl, sz hz, q', q _ H2 (s1.trans s2) (.str _)⟩
    · cases e3
  · rename_i ds _ i
    cases d2
    cases d1 with
    | tup h1 h2 =>
      obtain ⟨w, e4, e5⟩ := at_dq h2 e3
      exact ⟨_, ix_tup, _, _, i, w, rfl, rfl, by rw [G.hK]; exact h1, e4, q _ H2 (s1.trans s2) e5⟩
  · rename_i ds _ i
    cases d2
    cases d1 with
    | lst h1 h2 =>
      obtain ⟨w, e4, e5⟩ := at_dq h2 e3
      exact ⟨_, ix_list, _, _, i, w, rfl, rfl, SqL.of h1, e4, q _ H2 (s1.trans s2) e5⟩
  · rename_i ns _ i
    cases d2
    cases d1 with
    | scr h1 =>
      have e3 : (atI ns i).map D.int = some d := e3
      cases q' : atI ns i with
      | none => rw [q'] at e3; cases e3
      | some n =>
        rw [q'] at e3
        cases e3
        exact ⟨_, ix_list, _, _, i, .int n, rfl, rfl, by rw [G.hK]; exact h1, by rw [atI_map, q']; rfl, q _ H2 (s1.trans s2) (.int _)⟩
/-! ### a[lo:hi] -/
def cutD (ds : List D) (lo hi : Option Int) : List D := (ds.drop (HT.sIx ds.length 0 lo)).take (HT.sIx ds.length ds.length hi - HT.sIx ds.length 0 lo)
theorem DqA.cut {K : PySem.W.Frag} {H : Hp} {xs : List V} {ds : List D} (h : DqA K H xs ds) (lo hi : Option Int) : DqA K H (cutV xs lo hi) (cutD ds lo hi) := by
  unfold cutV cutD
  rw [h.length]
  exact (h.drop _).take _
def SO (T : Ct) (e : Option Expr) (g : En → Option (Option Int)) : Prop :=
  ∀ X, Good T X → ∀ (σ : L2.St) (H : Hp) (ρ : En) (o : Option Int), Env T.K H σ ρ → g ρ = some o → ∀ Q : Option Int → Hp → Prop, (∀ H', Same H H' → Q o H') → ∃ t, PO X e t ∧ t σ H Q
def gON : En → Option (Option Int) := fun _ => some none
def gOS (g : En → Option D) : En → Option (Option Int) := fun ρ => (g ρ).bind fun d => match d with
  | .int i => some (some i)
  | _ => none
theorem so_none : SO T none gON := fun X G σ H ρ o env ho Q q => by
  cases ho
  exact ⟨_, po_none, q H (Same.refl H)⟩
theorem so_some (ha : SE T a ga) : SO T (some a) (gOS ga) := by
  intro X G σ H ρ o env ho Q q
  unfold gOS at ho
  cases e : ga ρ with
  | none => rw [e] at ho; cases ho
  | some d =>
    rw [e] at ho
    cases d <;> try (cases ho; done)
    cases ho
    refine ⟨_, po_some pe_w, ?_⟩
    refine ha X G σ H ρ _ env e _ fun v H1 s1 d1 => ?_
    cases d1
    exact ⟨_, rfl, q H1 s1⟩
theorem po_any {X : Cx} {e : Option Expr} : PO X e (fun σ H Q => ∃ t, PO X e t ∧ t σ H Q) := ⟨fun pins s σ H Q I ⟨_, p, h⟩ => p.run pins s σ H Q I h⟩
def slD' : D → Option Int → Option Int → Option D
  | .tup ds, lo, hi => some (.tup (cutD ds lo hi))
  | .str z, lo, hi => if z.length ≤ 1000000 then some (.str (cutS z lo hi)) else none
  | _, _, _ => none
def gSl (g : En → Option D) (lo hi : En → Option (Option Int)) : En → Option D := fun ρ => (g ρ).bind fun d => (lo ρ).bind fun l => (hi ρ).bind fun h => slD' d l h
variable {lo hi : Option Expr} {gl gh : En → Option (Option Int)} {p2 : Pos}
theorem cut_whole {ds : List D} {lo hi : Option Int} (h : HT.sIx ds.length 0 lo = 0 ∧ HT.sIx ds.length ds.length hi = ds.length) : cutD ds lo hi = ds := by
  unfold cutD
  rw [h.1, h.2]
  simp
theorem se_sl (ha : SE T a ga) (hl : SO T lo gl) (hh : SO T hi gh) : SE T (.Subscript a (.Slice lo hi none p2) pos) (gSl ga gl gh) := by
  intro X G σ H ρ d env hd Q q
  unfold gSl at hd
  cases e1 : ga ρ with
  | none => rw [e1] at hd; cases hd
  | some x =>
  cases e2 : gl ρ with
  | none => rw [e1, e2] at hd; cases hd
  | some l =>
  cases e3 : gh ρ with
  | none => rw [e1, e2, e3] at hd; cases hd
  | some h =>
  rw [e1, e2, e3] at hd
  have hd : slD' x l h = some d := hd
  have hr : SlR X (fun x lo hi H Q => ∃ r, SlR X r ∧ r x lo hi H Q) := fun pins s σ H x v vl vu lo hi sl Q I rx hs pl pu ⟨r, h1, h2⟩ => h1 pins s σ H x v vl vu lo hi sl Q I rx hs pl pu h2
  refine ⟨_, pe_slice hr pe_w po_any po_any, ?_⟩
  refine ha X G σ H ρ x env e1 _ fun v H1 s1 d1 => ?_
  refine hl X G σ H1 ρ l (env.mono s1) e2 _ fun H2 s2 => ?_
  refine hh X G σ H2 ρ h (env.mono (s1.trans s2)) e3 _ fun H3 s3 => ?_
  have d1 := d1.mono (s2.trans s3)
  have s := (s1.trans s2).trans s3
  cases x <;> try (cases hd; done)
  · rename_i z _ _
    have hd : (if z.length ≤ 1000000 then some (D.str (cutS z l h)) else none) = some d := hd
    split at hd
    · rename_i hz
      cases hd; cases d1
      exact ⟨_, sl_str, z, rfl, sz hz, q _ H3 s (.str _)⟩
    · cases hd
  · rename_i ds _
    cases hd
    cases d1 with
    | @tup ad xs _ h1 h2 =>
      refine ⟨_, sl_tupA, ad, xs, rfl, by rw [G.hK]; exact h1, fun hw => ?_, fun hw p hp => ?_⟩
      · rw [h2.length] at hw
        rw [cut_whole hw] at q
        exact q _ H3 s (.tup h1 h2)
      · have s4 := same_upd (o := .tup (cutV xs l h)) hp
        exact q _ _ (s.trans s4) (.tup (SqT.of upd_same) ((h2.cut l h).mono s4))
def gSlL (g : En → Option D) (lo hi : En → Option (Option Int)) : En → Option (List D) := fun ρ => (g ρ).bind fun d => (lo ρ).bind fun l => (hi ρ).bind fun h => match d with
  | .lst ds => some (cutD ds l h)
  | _ => none
theorem sl_sl (ha : SE T a ga) (hl : SO T lo gl) (hh : SO T hi gh) : SL T (.Subscript a (.Slice lo hi none p2) pos) (gSlL ga gl gh) := by
  intro X G σ H ρ d env hd Q q
  unfold gSlL at hd
  cases e1 : ga ρ with
  | none => rw [e1] at hd; cases hd
  | some x =>
  cases e2 : gl ρ with
  | none => rw [e1, e2] at hd; cases hd
  | some l =>
  cases e3 : gh ρ with
  | none => rw [e1, e2, e3] at hd; cases hd
  | some h =>
  rw [e1, e2, e3] at hd
  cases x <;> try (cases hd; done)
  rename_i ds
  cases hd
  refine ⟨_, pe_slice sl_list pe_w po_any po_any, ?_⟩
  refine ha X G σ H ρ _ env e1 _ fun v H1 s1 d1 => ?_
  refine hl X G σ H1 ρ l (env.mono s1) e2 _ fun H2 s2 => ?_
  refine hh X G σ H2 ρ h (env.mono (s1.trans s2)) e3 _ fun H3 s3 => ?_
  have d1 := d1.mono (s2.trans s3)
  have s := (s1.trans s2).trans s3
  cases d1 with
  | @lst ad xs _ h1 h2 =>
    refine ⟨ad, xs, rfl, SqL.of h1, fun p hp => ?_⟩
    have s4 := same_upd (o := .lst (cutV xs l h)) hp
    exact q _ _ _ (s.free hp) (s.trans s4) upd_same ((h2.cut l h).mono s4)
/-! ### list + list, list * int -/
variable {la lb : En → Option (List D)}
def gCat (a b : En → Option (List D)) : En → Option (List D) := fun ρ => (a ρ).bind fun x => (b ρ).bind fun y => if x.length + y.length ≤ 1000000 then some (x ++ y) else none
/-- a list whatever it is -/
def gAsL (g : En → Option D) : En → Option (List D) := fun ρ => (g ρ).bind fun d => match d with
  | .lst ds => some ds
  | _ => none
def SR (T : Ct) (e : Expr) (g : En → Option (List D)) : Prop :=
  ∀ X, Good T X → ∀ (σ : L2.St) (H : Hp) (ρ : En) (ds : List D), Env T.K H σ ρ → g ρ = some ds → ∀ Q : VK, (∀ p xs H', Same H H' → H' p = some (.lst xs) → DqA T.K H' xs ds → Q (.ref p) H') → wE X e σ H Q
theorem sr_of_sl {e : Expr} {g : En → Option (List D)} (h : SL T e g) : SR T e g := fun X G σ H ρ ds env hd Q q => h X G σ H ρ ds env hd Q fun p xs H' _ s h1 h2 => q p xs H' s h1 h2
theorem sr_of_se (h : SE T a ga) : SR T a (gAsL ga) := by
  intro X G σ H ρ ds env hd Q q
  unfold gAsL at hd
  cases e : ga ρ with
  | none => rw [e] at hd; cases hd
  | some d =>
    rw [e] at hd
    cases d <;> try (cases hd; done)
    cases hd
    refine h X G σ H ρ _ env e _ fun v H1 s1 d1 => ?_
    cases d1 with
    | lst h1 h2 => exact q _ _ H1 s1 h1 h2
theorem sl_cat (ha : SR T a la) (hb : SR T b lb) : SL T (.BinOp a .Add b pos) (gCat la lb) := by
  intro X G σ H ρ d env hd Q q
  unfold gCat at hd
  cases e1 : la ρ with
  | none => rw [e1] at hd; cases hd
  | some x =>
  cases e2 : lb ρ with
  | none => rw [e1, e2] at hd; cases hd
  | some y =>
  rw [e1, e2] at hd
  have hd : (if x.length + y.length ≤ 1000000 then some (x ++ y) else none) = some d := hd
  split at hd
  · rename_i hl
    have hd := Option.some.inj hd
    subst hd
    refine ⟨_, pe_op op_cat pe_w pe_w, ?_⟩
    refine ha X G σ H ρ x env e1 _ fun p xs H1 s1 h1 d1 => ?_
    refine hb X G σ H1 ρ y (env.mono s1) e2 _ fun p' ys H2 s2 h2 d2 => ?_
    have d1 := d1.mono s2
    refine ⟨p, p', xs, ys, rfl, rfl, s2 _ _ h1, h2, by rw [d1.length, d2.length]; exact sz hl, fun r hr => ?_⟩
    have s3 := same_upd (o := .lst (xs ++ ys)) hr
    exact q _ _ _ ((s1.trans s2).free hr) ((s1.trans s2).trans s3) upd_same ((d1.append d2).mono s3)
  · cases hd
def gRep (a : En → Option (List D)) (b : En → Option D) : En → Option (List D) := fun ρ => (a ρ).bind fun x => (b ρ).bind fun y => match y with
  | .int k => if -(2 ^ 63) ≤ k ∧ k < 2 ^ 63 ∧ x.length * k.toNat ≤ 1000000 then some (List.replicate k.toNat x).flatten else none
  | _ => none
theorem sl_rep (ha : SR T a la) (hb : SE T b gb) : SL T (.BinOp a .Mult b pos) (gRep la gb) := by
  intro X G σ H ρ d env hd Q q
  unfold gRep at hd
  cases e1 : la ρ with
  | none => rw [e1] at hd; cases hd
  | some x =>
  cases e2 : gb ρ with
  | none => rw [e1, e2] at hd; cases hd
  | some y =>
  rw [e1, e2] at hd
  cases y <;> try (cases hd; done)
  rename_i k
  have hd : (if -(2 ^ 63) ≤ k ∧ k < 2 ^ 63 ∧ x.length * k.toNat ≤ 1000000 then some (List.replicate k.toNat x).flatten else none) = some d := hd
  split at hd
  · rename_i hl
    have hd := Option.some.inj hd
    subst hd
    refine ⟨_, pe_op op_rep pe_w pe_w, ?_⟩
    refine ha X G σ H ρ x env e1 _ fun p xs H1 s1 h1 d1 => ?_
    refine hb X G σ H1 ρ _ (env.mono s1) e2 _ fun u H2 s2 d2 => ?_
    cases d2
    have d1 := d1.mono s2
    refine ⟨p, k, xs, rfl, rfl, s2 _ _ h1, hl.1, hl.2.1, by rw [d1.length]; exact sz hl.2.2, fun r hr => ?_⟩
    have s3 := same_upd (o := .lst (List.replicate k.toNat xs).flatten) hr
    exact q _ _ _ ((s1.trans s2).free hr) ((s1.trans s2).trans s3) upd_same ((d1.rep k.toNat).mono s3)
  · cases hd
/-! ### calls of own defs -/
/-- a def's promise, by a function of data -/
def spD (K : PySem.W.Frag) (f : List D → Option D) : Sp := fun vs H Q _ => ∃ ds d, DqA K H vs ds ∧ f ds = some d ∧ ∀ v H', Same H H' → Dq K H' v d → Q v H'
/-- .. that hands back a new list -/
def spL (K : PySem.W.Frag) (f : List D → Option (List D)) : Sp := fun vs H Q _ => ∃ ds d, DqA K H vs ds ∧ f ds = some d ∧ ∀ p xs H', H p = none → Same H H' → H' p = some (.lst xs) → DqA K H' xs d → Q (.ref p) H'
def CalleeS (T : Ct) (x : Str) (sp : Sp) : Prop := ∃ (CX : CXT) (k : Nat) (f : Addr) (fd : FuncData) (ps : List Str), FnOk T.P T.w T.K T.mg T.base CX k f fd ps sp ∧ k ≤ T.lv ∧ T.mg x = some (.ref f) ∧ PySem.W.keepIn T.K (.ref f) = true ∧ Binds T.K fd ps [] ∧
  ∀ X : Cx, X.prog = T.P → X.w = T.w → Passes CX X E0
abbrev Callee (T : Ct) (x : Str) (f : List D → Option D) : Prop := CalleeS T x (spD T.K f)
def gCall (f : List D → Option D) (g : En → Option (List D)) : En → Option D := fun ρ => (g ρ).bind f
theorem se_call {x : Str} {f : List D → Option D} {e : Expr} {es : List Expr} {g : En → Option (List D)} {p : Pos} (C : Callee T x f) (h : SA T (e :: es) g) (hg : T.sc.names.lookup x = some .globalImplicit)
    (hdb : (x == ("__debug__" : Str)) = false := by decide) (he : ∀ env, starEach (e :: es) env = (false, eval e env) :: starEach es env := by intro _; rfl) (hpl : ∀ env, (backTo pos (starEach es env)).any (·.1) = false := by intro _; rfl) (hmd : T.md = none := by rfl) : SE T (.Call (.Name x p) (e :: es) [] pos) (gCall f g) := by
  intro X G σ H ρ d env hd Q q
  obtain ⟨CX, k, fa, fd, ps, F, hk, hm, hkp, hb, hx⟩ := C
  unfold gCall at hd
  cases e1 : g ρ with
  | none => rw [e1] at hd; cases hd
  | some ds =>
  rw [e1] at hd
  have hd : f ds = some d := hd
  refine ⟨_, pe_call (CX := CX) (k := k) (f := fa) (fd := fd) (ps := ps) (sp := spD T.K f) (dvs := []) (ds := []) (E := E0) (by rw [G.hP, G.hw, G.hK, G.hm, G.hb]; exact F) ((G.room hmd).mono hk) (by show X.env.scope.names.lookup x = _; rw [G.hs]; exact hg) (by rw [G.hm]; exact hm) (by rw [G.hK]; exact hkp)
    (by rw [G.hK]; exact hb) .nil (hx X G.hP G.hw) pa_w hdb (he X.env) (hpl X.env), ?_⟩
  refine h X G σ H ρ ds env e1 _ fun vs H1 s1 d1 => ?_
  rw [List.append_nil]
  exact ⟨ds, d, d1, hd, fun v H' s2 d2 => q v H' (s1.trans s2) d2⟩
def gCallL (f : List D → Option (List D)) (g : En → Option (List D)) : En → Option (List D) := fun ρ => (g ρ).bind f
theorem sl_call {x : Str} {f : List D → Option (List D)} {e : Expr} {es : List Expr} {g : En → Option (List D)} {p : Pos} (C : CalleeS T x (spL T.K f)) (h : SA T (e :: es) g) (hg : T.sc.names.lookup x = some .globalImplicit)
    (hdb : (x == ("__debug__" : Str)) = false := by decide) (he : ∀ env, starEach (e :: es) env = (false, eval e env) :: starEach es env := by intro _; rfl) (hpl : ∀ env, (backTo pos (starEach es env)).any (·.1) = false := by intro _; rfl) (hmd : T.md = none := by rfl) : SL T (.Call (.Name x p) (e :: es) [] pos) (gCallL f g) := by
  intro X G σ H ρ d env hd Q q
  obtain ⟨CX, k, fa, fd, ps, F, hk, hm, hkp, hb, hx⟩ := C
  unfold gCallL at hd
  cases e1 : g ρ with
  | none => rw [e1] at hd; cases hd
  | some ds =>
  rw [e1] at hd
  have hd : f ds = some d := hd
  refine ⟨_, pe_call (CX := CX) (k := k) (f := fa) (fd := fd) (ps := ps) (sp := spL T.K f) (dvs := []) (ds := []) (E := E0) (by rw [G.hP, G.hw, G.hK, G.hm, G.hb]; exact F) ((G.room hmd).mono hk) (by show X.env.scope.names.lookup x = _; rw [G.hs]; exact hg) (by rw [G.hm]; exact hm) (by rw [G.hK]; exact hkp)
    (by rw [G.hK]; exact hb) .nil (hx X G.hP G.hw) pa_w hdb (he X.env) (hpl X.env), ?_⟩
  refine h X G σ H ρ ds env e1 _ fun vs H1 s1 d1 => ?_
  rw [List.append_nil]
  exact ⟨ds, d, d1, hd, fun p' xs H' n s2 h2 d2 => q p' xs H' (s1.free n) (s1.trans s2) h2 d2⟩
/-! ### calls of built-ins -/
def CalD (T : Ct) (f : Value) (h : List D → Option D) : Prop :=
  ∀ X, Good T X → ∀ (H : Hp) (vs : List V) (ds : List D) (z : D), DqA T.K H vs ds → h ds = some z → ∀ Q : VK, (∀ v H', Same H H' → Dq T.K H' v z → Q v H') → ∃ r, CallR X f r ∧ r vs H Q
theorem se_b {x id : String} {h : List D → Option D} {e : Expr} {es : List Expr} {g : En → Option (List D)} {p : Pos} (o : CalD T (.builtin id) h) (hm : T.mg x = none) (hv : bootBuiltins x = some (.builtin id)) (ha : SA T (e :: es) g) (hg : T.sc.names.lookup (x : Str) = some .globalImplicit)
    (hn : (x : Str) ≠ "__name__" := by decide) (hdb : ((x : Str) == ("__debug__" : Str)) = false := by decide) (he : ∀ env, starEach (e :: es) env = (false, eval e env) :: starEach es env := by intro _; rfl) (hpl : ∀ env, (backTo pos (starEach es env)).any (·.1) = false := by intro _; rfl) :
    SE T (.Call (.Name (x : Str) p) (e :: es) [] pos) (gCall h g) := by
  intro X G σ H ρ d env hd Q q
  unfold gCall at hd
  cases e1 : g ρ with
  | none => rw [e1] at hd; cases hd
  | some ds =>
  rw [e1] at hd
  have hd : h ds = some d := hd
  have hr : CallR X (.builtin id) (fun vs H Q => ∃ r, CallR X (.builtin id) r ∧ r vs H Q) := fun pins s σ H xs us Q I rx ⟨r, h1, h2⟩ => h1 pins s σ H xs us Q I rx h2
  refine ⟨_, pe_callB hr (by show X.env.scope.names.lookup _ = _; rw [G.hs]; exact hg) (by rw [G.hm]; exact hm) hv pa_w hn hdb (he X.env) (hpl X.env), ?_⟩
  refine ha X G σ H ρ ds env e1 _ fun vs H1 s1 d1 => ?_
  exact o X G H1 vs ds d d1 hd Q fun v H' s2 d2 => q v H' (s1.trans s2) d2
theorem se_t {x id : String} {h : List D → Option D} {e : Expr} {es : List Expr} {g : En → Option (List D)} {p : Pos} (o : CalD T (.type id) h) (hm : T.mg x = none) (hv : bootBuiltins x = some (.type id)) (ha : SA T (e :: es) g) (hg : T.sc.names.lookup (x : Str) = some .globalImplicit)
    (hn : (x : Str) ≠ "__name__" := by decide) (hdb : ((x : Str) == ("__debug__" : Str)) = false := by decide) (he : ∀ env, starEach (e :: es) env = (false, eval e env) :: starEach es env := by intro _; rfl) (hpl : ∀ env, (backTo pos (starEach es env)).any (·.1) = false := by intro _; rfl) :
    SE T (.Call (.Name (x : Str) p) (e :: es) [] pos) (gCall h g) := by
  intro X G σ H ρ d env hd Q q
  unfold gCall at hd
  cases e1 : g ρ with
  | none => rw [e1] at hd; cases hd
  | some ds =>
  rw [e1] at hd
  have hd : h ds = some d := hd
  have hr : CallR X (.type id) (fun vs H Q => ∃ r, CallR X (.type id) r ∧ r vs H Q) := fun pins s σ H xs us Q I rx ⟨r, h1, h2⟩ => h1 pins s σ H xs us Q I rx h2
  refine ⟨_, pe_callTy hr (by show X.env.scope.names.lookup _ = _; rw [G.hs]; exact hg) (by rw [G.hm]; exact hm) hv pa_w hn hdb (he X.env) (hpl X.env), ?_⟩
  refine ha X G σ H ρ ds env e1 _ fun vs H1 s1 d1 => ?_
  exact o X G H1 vs ds d d1 hd Q fun v H' s2 d2 => q v H' (s1.trans s2) d2
theorem dqa1 {K : PySem.W.Frag} {H : Hp} {vs : List V} {d : D} (h : DqA K H vs [d]) : ∃ v, vs = [v] ∧ Dq K H v d := by
  cases h with
  | cons h1 h2 => cases h2; exact ⟨_, rfl, h1⟩
theorem dqa2 {K : PySem.W.Frag} {H : Hp} {vs : List V} {d e : D} (h : DqA K H vs [d, e]) : ∃ v u, vs = [v, u] ∧ Dq K H v d ∧ Dq K H u e := by
  cases h with
  | cons h1 h2 =>
    obtain ⟨u, rfl, h3⟩ := dqa1 h2
    exact ⟨_, _, rfl, h1, h3⟩
def lenD : List D → Option D
  | [.tup ds] => some (.int ds.length)
  | [.lst ds] => some (.int ds.length)
  | [.scr ns] => some (.int ns.length)
  | [.str z] => if z.length ≤ 1000000 then some (.int z.length) else none
  | _ => none
theorem cd_len : CalD T (.builtin "len") lenD := by
  intro X G H vs ds z dv h Q q
  unfold lenD at h
  split at h
  · cases h
    obtain ⟨v, rfl, d1⟩ := dqa1 dv
    cases d1 with
    | tup h1 h2 =>
      rw [← h2.length] at q
      exact ⟨_, call_len_seq, _, _, rfl, .inr (by rw [G.hK]; exact h1), q _ H (Same.refl H) (.int _)⟩
  · cases h
    obtain ⟨v, rfl, d1⟩ := dqa1 dv
    cases d1 with
    | lst h1 h2 =>
      rw [← h2.length] at q
      exact ⟨_, call_len_seq, _, _, rfl, .inl (SqL.of h1), q _ H (Same.refl H) (.int _)⟩
  · rename_i ns
    cases h
    obtain ⟨v, rfl, d1⟩ := dqa1 dv
    cases d1 with
    | scr h1 =>
      refine ⟨_, call_len_seq, _, _, rfl, .inl (by rw [G.hK]; exact h1), ?_⟩
      rw [List.length_map]
      exact q _ H (Same.refl H) (.int _)
  · split at h
    · rename_i hz
      cases h
      obtain ⟨v, rfl, d1⟩ := dqa1 dv
      cases d1
      exact ⟨_, call_len_str, _, rfl, sz hz, q _ H (Same.refl H) (.int _)⟩
    · cases h
  · cases h
def maxD : List D → Option D
  | [.int i, .int j] => some (.int (if j > i then j else i))
  | _ => none
theorem cd_max (hmd : T.md = none := by rfl) : CalD T (.builtin "max") maxD := by
  intro X G H vs ds z dv h Q q
  unfold maxD at h
  split at h
  · cases h
    obtain ⟨v, u, rfl, d1, d2⟩ := dqa2 dv
    cases d1; cases d2
    exact ⟨_, call_max2 (G.calm hmd), _, _, rfl, q _ H (Same.refl H) (.int _)⟩
  · cases h
def dBls : List D → Option (List Bool)
  | [] => some []
  | .bl i :: r => (dBls r).map (i :: ·)
  | _ => none
@[simp] theorem dBls_map : ∀ ns : List Bool, dBls (ns.map D.bl) = some ns
  | [] => rfl
  | n :: ns => by simp [dBls, dBls_map ns]
theorem dBls_some : ∀ {ds : List D} {ns : List Bool}, dBls ds = some ns → ds = ns.map D.bl
  | [], _, h => by simp only [dBls] at h; cases h; rfl
  | d :: ds, ns, h => by
    cases d with
    | bl i =>
      simp only [dBls] at h
      cases q : dBls ds with
      | none => rw [q] at h; cases h
      | some ms =>
        rw [q] at h
        cases h
        rw [dBls_some q]; rfl
    | _ => simp only [dBls] at h; cases h
def allD : List D → Option D
  | [.lst ds] => (dBls ds).map fun bs => .bl (bs.all id)
  | _ => none
theorem cd_all (hmd : T.md = none := by rfl) : CalD T (.builtin "all") allD := by
  intro X G H vs ds z dv h Q q
  unfold allD at h
  split at h
  · rename_i ds
    cases e : dBls ds with
    | none => rw [e] at h; cases h
    | some bs =>
      rw [e] at h
      cases h
      obtain ⟨v, rfl, d1⟩ := dqa1 dv
      rw [dBls_some e] at d1
      cases d1 with
      | lst h1 h2 =>
        have e1 := h2.bls
        subst e1
        exact ⟨_, cr_all (G.calm hmd), _, bs, rfl, SqL.of h1, q _ H (Same.refl H) (.bl _)⟩
  · cases h
def intD : List D → Option D
  | [.int i] => some (.int i)
  | [.bl k] => some (.int (if k then 1 else 0))
  | [.str a] => if a.length ≤ 640 then (PySem.intText? a).map D.int else none
  | _ => none
theorem cd_int : CalD T (.type "int") intD := by
  intro X G H vs ds z dv h Q q
  unfold intD at h
  split at h
  · cases h
    obtain ⟨v, rfl, d1⟩ := dqa1 dv
    cases d1
    exact ⟨_, call_int1, .inl ⟨_, rfl, q _ H (Same.refl H) (.int _)⟩⟩
  · cases h
    obtain ⟨v, rfl, d1⟩ := dqa1 dv
    cases d1
    exact ⟨_, call_int1, .inr ⟨_, rfl, q _ H (Same.refl H) (.int _)⟩⟩
  · rename_i a
    split at h
    · rename_i hz
      cases e : PySem.intText? a with
      | none => rw [e] at h; cases h
      | some n =>
        rw [e] at h
        cases h
        obtain ⟨v, rfl, d1⟩ := dqa1 dv
        cases d1
        exact ⟨_, call_int_str, _, n, rfl, e, hz, q _ H (Same.refl H) (.int _)⟩
    · cases h
  · cases h
def strD : List D → Option D
  | [.int i] => if i.natAbs.log2 < 1920 then some (.str (toString i)) else none
  | _ => none
theorem cd_str : CalD T (.type "str") strD := by
  intro X G H vs ds z dv h Q q
  unfold strD at h
  split at h
  · split at h
    · rename_i hz
      cases h
      obtain ⟨v, rfl, d1⟩ := dqa1 dv
      cases d1
      exact ⟨_, call_str_int, _, rfl, hz, q _ H (Same.refl H) (.str _)⟩
    · cases h
  · cases h
def tupD : List D → Option D
  | [.tup ds] => some (.tup ds)
  | [.lst ds] => some (.tup ds)
  | _ => none
theorem cd_tup : CalD T (.type "tuple") tupD := by
  intro X G H vs ds z dv h Q q
  unfold tupD at h
  split at h
  · cases h
    obtain ⟨v, rfl, d1⟩ := dqa1 dv
    cases d1 with
    | tup h1 h2 => exact ⟨_, call_tuple_of, _, _, rfl, .inr ⟨by rw [G.hK]; exact h1, q _ H (Same.refl H) (.tup h1 h2)⟩⟩
  · cases h
    obtain ⟨v, rfl, d1⟩ := dqa1 dv
    cases d1 with
    | @lst _ xs _ h1 h2 =>
      refine ⟨_, call_tuple_of, _, xs, rfl, .inl ⟨SqL.of h1, fun l hl => ?_⟩⟩
      have s := same_upd (o := .tup xs) hl
      exact q _ _ s (.tup (SqT.of upd_same) (h2.mono s))
  · cases h
/-- list(x) -/
def gToL (g : En → Option D) : En → Option (List D) := fun ρ => (g ρ).bind fun d => match d with
  | .tup ds => some ds
  | .lst ds => some ds
  | _ => none
theorem sl_list {p : Pos} (hm : T.mg "list" = none) (ha : SE T a ga) (hg : T.sc.names.lookup ("list" : Str) = some .globalImplicit) (he : ∀ env, starEach [a] env = (false, eval a env) :: starEach [] env := by intro _; rfl) : SL T (.Call (.Name "list" p) [a] [] pos) (gToL ga) := by
  intro X G σ H ρ d env hd Q q
  unfold gToL at hd
  cases e1 : ga ρ with
  | none => rw [e1] at hd; cases hd
  | some x =>
  rw [e1] at hd
  refine ⟨_, pe_callTy call_list_of (by show X.env.scope.names.lookup _ = _; rw [G.hs]; exact hg) (by rw [G.hm]; exact hm) (by decide +kernel) (pa_cons pe_w pa_nil (he X.env)) (by decide) (by decide) (he X.env) rfl, ?_⟩
  refine ha X G σ H ρ x env e1 _ fun v H1 s1 d1 => ?_
  cases x <;> try (cases hd; done)
  · cases hd
    cases d1 with
    | @tup _ xs _ h1 h2 =>
      refine ⟨_, xs, rfl, .inr (by rw [G.hK]; exact h1), fun l hl => ?_⟩
      have s := same_upd (o := .lst xs) hl
      exact q _ _ _ (s1.free hl) (s1.trans s) upd_same (h2.mono s)
  · cases hd
    cases d1 with
    | @lst _ xs _ h1 h2 =>
      refine ⟨_, xs, rfl, .inl (SqL.of h1), fun l hl => ?_⟩
      have s := same_upd (o := .lst xs) hl
      exact q _ _ _ (s1.free hl) (s1.trans s) upd_same (h2.mono s)
/-! ### isinstance(x, T) -/
def tyD : D → String
  | .non => "NoneType"
  | .bl _ => "bool"
  | .int _ => "int"
  | .str _ => "str"
  | .tup _ => "tuple"
  | .lst _ => "list"
  | .scr _ => "list"
theorem Dq.ty {K : PySem.W.Frag} {H : Hp} {v : V} {d : D} (h : Dq K H v d) : TyX K H v (.type (tyD d)) := by
  cases h with
  | non => exact .base .non
  | bl b => exact .base (.bl b)
  | int b => exact .base (.int b)
  | str b => exact .base (.str b)
  | tup h1 h2 =>
    rcases h1 with (h1 | ⟨o, h1⟩) | ⟨o, its, n, h1, h3, _⟩
    · exact .base (.tup h1)
    · exact .fTuple h1
    · exact .kTuple h1 h3
  | lst h1 h2 => exact .base (.lst h1)
  | scr h1 =>
    rcases h1 with (h1 | ⟨o, h1⟩) | ⟨o, its, n, h1, h3, _⟩
    · exact .base (.lst h1)
    · exact .base (.frz h1)
    · exact .kList h1 h3
def isiD (Tn : String) (d : D) : Option D := (kitB (tyD d) Tn).map D.bl
theorem se_isi (Tn : String) {p p' : Pos} (hm : T.mg "isinstance" = none) (hm2 : T.mg Tn = none) (hv : bootBuiltins Tn = some (.type Tn)) (ha : SE T a ga) (hg : T.sc.names.lookup ("isinstance" : Str) = some .globalImplicit) (hg2 : T.sc.names.lookup (Tn : Str) = some .globalImplicit)
    (hn : (Tn : Str) ≠ "__name__" := by decide) (hdb : ((Tn : Str) == ("__debug__" : Str)) = false := by decide)
    (he : ∀ env, starEach [a, .Name (Tn : Str) p'] env = (false, eval a env) :: starEach [.Name (Tn : Str) p'] env := by intro _; rfl) : SE T (.Call (.Name "isinstance" p) [a, .Name (Tn : Str) p'] [] pos) (g1 (isiD Tn) ga) := by
  intro X G σ H ρ d env hd Q q
  unfold g1 at hd
  cases e1 : ga ρ with
  | none => rw [e1] at hd; cases hd
  | some x =>
  rw [e1] at hd
  have hd : (kitB (tyD x) Tn).map D.bl = some d := hd
  cases e2 : kitB (tyD x) Tn with
  | none => rw [e2] at hd; cases hd
  | some k =>
  rw [e2] at hd
  cases hd
  refine ⟨_, pe_callB call_isi (by show X.env.scope.names.lookup _ = _; rw [G.hs]; exact hg) (by rw [G.hm]; exact hm) (by decide +kernel)
    (pa_cons pe_w (pa_cons (pe_bltn (v := .ty Tn) (by show X.env.scope.names.lookup _ = _; rw [G.hs]; exact hg2) (by rw [G.hm]; exact hm2) hv rfl hn hdb) pa_nil) (he X.env)) (by decide) (by decide) (he X.env) rfl, ?_⟩
  refine ha X G σ H ρ x env e1 _ fun v H1 s1 d1 => ?_
  exact ⟨v, .ty Tn, _, _, k, rfl, .ty Tn, by rw [G.hK]; exact d1.ty, kit_ty e2, q _ H1 s1 (.bl _)⟩
end
end Pf

set_option Elab.async false
set_option linter.all false
set_option maxRecDepth 100000
set_option maxHeartbeats 2000000
/-! Pf4a: enumerate over a tuple. -/
namespace Pf
open PySem PySem.Spec L2
open AutoSeq1 (wpAny_loadPart')
theorem new_enumT (t : Addr) (items : Array Value) (n : Nat) (dd : Option Addr) (sl : Array (Option Value)) :
    Meets (Builtin.«enumerate.__new__» ⟨[.type "enumerate", .ref t], []⟩) (fun _ R s => s.heap.get? t = some { cls := .type "tuple", dict := dd, data := .seq items n, slots := sl } ∧
      R (.ok (.ret (.ref (s.heap.push { cls := .type "tuple_iterator", data := .fields #[.ref t, .int 0 0] }).objs.size)))
        { s with heap := (s.heap.push { cls := .type "tuple_iterator", data := .fields #[.ref t, .int 0 0] }).push { cls := .type "enumerate", data := .fields #[.none, .bool false, .ref s.heap.objs.size, rawInt 0, .none, .none] } }) :=
  .of_wp fun prog w A R s hh => by
    obtain ⟨hp, gens, dr, tk, os⟩ := s
    obtain ⟨hl, hR⟩ := hh
    have hsub := sub_enumerate
    have hT : Heap.IsTuple (Shared.heap ⟨hp, gens, dr, tk, os⟩) t items := ⟨_, hl, rfl, n, rfl⟩
    wp_walk using wpAny_loadPart' hl
    refine wpAny_stack_any fun st => wpAny_pure ?_
    split
    · rename_i c _ _ _ _ _
      cases (c == Value.type "enumerate") <;> (wp_walk using wpAny_loadPart' hl, wpAny_pyIter_tuple hT; exact ⟨_, rfl, hR⟩)
    · wp_walk using wpAny_loadPart' hl, wpAny_pyIter_tuple hT
      exact ⟨_, rfl, hR⟩
section
variable {prog : Program} {w : World} {A : Around} {E : Value → Shared → Prop} {s : Shared}
theorem call_enumT {t : Addr} {items : Array Value} {Q : Value → Shared → Prop} (hT : s.heap.IsTuple t items)
    (q : ∀ h', IsEnum h' (s.heap.objs.size + 1) s.heap.objs.size 0 .none → h'.IsTupleIter s.heap.objs.size t 0 → (∀ b o, s.heap.get? b = some o → h'.get? b = some o) → Q (.ref (s.heap.objs.size + 1)) { s with heap := h' }) :
    wpAny (model prog w) A (call (.type "enumerate") [.ref t]) Q E s := by
  obtain ⟨⟨cl, dd, da, sl⟩, hl, e1, n, e2⟩ := hT
  simp only at e1 e2
  subst e1 e2
  refine callType_new F.called_enumerate (by decide) (F.typeCall_enumerate_1 _) (F.newCall_enumerate_1 _) (fun obj => F.args_object_init_2 obj _) F.entry_enumerate_new (new_enumT t items n dd sl) ⟨hl, ?_⟩
  generalize hit : ({ cls := .type "tuple_iterator", data := .fields #[.ref t, .int 0 0] } : Obj) = it
  have z1 : (s.heap.push it).objs.size = s.heap.objs.size + 1 := Heap.size_push ..
  have fr : it.isFreed = false := by rw [← hit]; rfl
  generalize hen : ({ cls := .type "enumerate", data := .fields #[.none, .bool false, .ref s.heap.objs.size, rawInt 0, .none, .none] } : Obj) = en
  have fr2 : en.isFreed = false := by rw [← hen]; rfl
  show _ ∧ _
  rw [z1]
  have he : ((s.heap.push it).push en).get? (s.heap.objs.size + 1) = some en := by
    have z := Heap.get?_push_size (s.heap.push it) (o := en) fr2
    rw [z1] at z
    exact z
  have hi : ((s.heap.push it).push en).get? s.heap.objs.size = some it := Heap.get?_push_of_some _ (Heap.get?_push_size _ fr)
  refine ⟨⟨_, he, by rw [← hen]⟩, q _ ?_ ⟨it, hi, by rw [← hit], by rw [← hit]; rfl⟩ fun b o e => Heap.get?_push_of_some _ (Heap.get?_push_of_some _ e)⟩
  rw [← hen] at he ⊢
  exact he
end
/-- the tuple at a, each item in a new pair -/
def IteT (K : PySem.W.Frag) (a : Addr) : It :=
  ⟨fun i H => ∃ (xs : List V) (x : V), SqT K H a xs ∧ xs[i]? = some x, fun i H v H' => ∃ t x, v = .ref t ∧ H t = none ∧ H' = upd H t (.tup [.int (i : Nat), x]) ∧ ∀ xs, SqT K H a xs → xs[i]? = some x, fun i H => ∃ xs : List V, SqT K H a xs ∧ xs.length ≤ i⟩
theorem turn_enumT {P : Program} {w : World} {K : PySem.W.Frag} {elts : List Expr} {kk : Nat} {tpos : Pos} (a e it : Addr) :
    Turn P w K (.Tuple elts kk tpos) (IteT K a) [e, it] e (fun i h => (∃ old, IsEnum h e it ((i : Nat) : Int) old) ∧ h.IsTupleIter it a i ∧ e ≠ it) where
  mem := by simp
  obj := fun i h st b hb => by
    obtain ⟨⟨old, he⟩, ⟨o, ho, _, hd⟩, _⟩ := st
    rcases List.mem_cons.mp hb with z | z
    · subst z; exact ⟨_, he, fun v q => nomatch q⟩
    · have z := List.mem_singleton.mp z
      subst z; exact ⟨o, ho, fun v q => by rw [hd] at q; cases q⟩
  keep := fun i h h' st k => by
    obtain ⟨⟨old, he⟩, hi, hne⟩ := st
    exact ⟨⟨old, k e (by simp) _ he⟩, hi.at fun o q => k it (by simp) o q, hne⟩
  item := by
    intro X hP hw hK hc i pins s σ H E I hf st hg
    subst hP hw hK
    obtain ⟨⟨old, he⟩, hit, hne⟩ := st
    obtain ⟨xs, x, hq, hx⟩ := hg
    obtain ⟨its, rv, p, _⟩ := I.tuple hq
    have hT : s.heap.IsTuple a its.toArray := p
    obtain ⟨u, hu, ru⟩ := rv.get hx
    have le : e < s.heap.objs.size := Heap.lt_size he
    have li : it < s.heap.objs.size := by obtain ⟨_, q, _⟩ := hit; exact Heap.lt_size q
    have hai : a ≠ it := fun z => by
      obtain ⟨o1, h1, c1, _⟩ := hT
      obtain ⟨o2, h2, c2, _⟩ := hit
      rw [z, h2] at h1
      cases h1
      rw [c2] at c1
      exact absurd c1 (by decide)
    have hae : a ≠ e := fun z => by
      obtain ⟨o1, h1, c1, _⟩ := hT
      have he' : s.heap.get? e = some _ := he
      rw [z, he'] at h1
      cases h1
      exact absurd (show Value.type "enumerate" = Value.type "tuple" from c1) (by decide)
    have hin : i < its.toArray.size := by
      have := (List.getElem?_eq_some_iff.mp hu).1
      simpa using this
    have hef : e ∉ [it, a] := by
      intro z
      rcases List.mem_cons.mp z with z | z
      · exact hne z
      · exact hae (List.mem_singleton.mp z).symm
    refine wpAny_pyNext_enum_itemD (Draws.tuple (A := X.A.in1) (I.ok.hd hc) it a hai its.toArray) he ⟨hit, hT⟩ hin hne hef fun y h' tk hy ho hst hnew hsz hk => ?_
    have ey : y = u := by
      have z : its.toArray[i]? = some u := by simpa using hu
      exact Option.some.inj (hy.symm.trans z)
    subst ey
    refine ⟨_, rfl, wpAny_letOwnedTupleGo_enum (s := { s with heap := h', toks := tk + 1 }) ho fun h2 he2 sb => ?_⟩
    have hT2 : h2.get? s.heap.objs.size = some { cls := .type "tuple", data := .seq #[.int i tk, y] } := (sb.2 _ (Nat.ne_of_gt le)).trans hnew
    have new : ObjOk X.prog X.w (upd H s.heap.objs.size (.tup [.int (i : Nat), x])) h2 s.heap.objs.size (.tup [.int (i : Nat), x]) :=
      ⟨by show 2 ≤ sizeLine; decide, [.int i tk, y], .cons ⟨_, rfl⟩ (.cons ru .nil), ⟨_, hT2, rfl, _, rfl⟩⟩
    have I1 : Inv X pins σ (upd H s.heap.objs.size (.tup [.int (i : Nat), x])) { s with heap := h2, toks := tk + 1 } :=
      I.turnedNew (ch := [e, it]) (fun b ob hb q => (sb.2 b (fun z => hb (by simp [z]))).trans (hk b ob (fun z => hb (by simp [z])) (fun z => hb (by simp [z])) q)) hf (Nat.le_refl _) new
    refine ⟨.ref s.heap.objs.size, _, I1, rfl, ⟨_, x, rfl, I.hok.fresh (Nat.le_refl _), rfl, fun ys hy => by rw [I.tuple_inj hy hq]; exact hx⟩, ⟨⟨y, ?_⟩, hst.1.at fun o q => (sb.2 it (Ne.symm hne)).trans q, hne⟩, fun b hb => ?_⟩
    · have e1 : ((i + 1 : Nat) : Int) = (i : Int) + 1 := by omega
      rw [e1]; exact he2
    · have lb : b < s.heap.objs.size := by
        rcases List.mem_cons.mp hb with z | z
        · rw [z]; exact le
        · rw [List.mem_singleton.mp z]; exact li
      rw [upd_ne (Nat.ne_of_lt lb)]
      exact (hf b hb).1
  done := by
    intro X hP hw hK hc i pins s σ H E I hf st hg
    subst hP hw hK
    obtain ⟨⟨old, he⟩, hit, hne⟩ := st
    obtain ⟨xs, hq, hx⟩ := hg
    obtain ⟨its, rv, p, _⟩ := I.tuple hq
    have hT : s.heap.IsTuple a its.toArray := p
    obtain ⟨f0, f1, f2, f3, f4, f5⟩ := hf it (by simp)
    have hl := rv.length
    have hT0 : s.TypeIs (.ref e) "enumerate" := ⟨_, he, rfl⟩
    unfold pyNext
    refine wpAny_bind (wpAny_attempt (wpAny_callSpecial?_slot (name := Str.ofString "__next__") hT0 F.slot_enumerate_next (wpAny_call_entry F.slot_enumerate_next hT0 F.entry_enumerate_next ?_ (F.args_enumerate_next_1 _))))
    show wpAny _ _ (field (.ref e) 2 >>= _) _ _ _
    refine wpAny_bind (wpAny_field he rfl (x := .ref it) rfl ?_)
    refine wpAny_bind (wpAny_nextOf_tuple_end (I.ok.hd hc) hit hT (by simp; omega) fun h' x hx1 hx2 => ?_)
    obtain ⟨o, ho, hcl⟩ := hx2
    refine wpAny_bind (wpAny_isInstance (T := "StopIteration") (b := true) ⟨o, ho, hcl⟩ isSubtype_stop ?_)
    exact wpAny_pure ⟨rfl, I.turned (t' := s.toks) (fun b o hb q => hx1 b o hb q) f0 f1 f3 f4 f5⟩
  self := fun A i s Q E st h => let ⟨⟨_, he⟩, _⟩ := st; wpAny_pyIter_enum he h
def iEnumT (K : PySem.W.Frag) (ta : TA) : TI := fun σ H R => ta σ H fun vs H1 => ∃ a xs, vs = [.ref a] ∧ SqT K H1 a xs ∧ R (IteT K a) H1
theorem pi_enumT {X : Cx} {e : Expr} {ta : TA} {p pos tpos : Pos} {elts : List Expr} {kk : Nat} (hg : Gl X "enumerate") (hm : X.mg "enumerate" = none) (ha : PA X [e] ta) (hs : starEach [e] X.env = [(false, eval e X.env)]) :
    PI X (.Tuple elts kk tpos) (.Call (.Name "enumerate" p) [e] [] pos) (iEnumT X.K ta) := by
  refine ⟨fun pins s σ H R I h => ?_⟩
  refine PyProof.Rows.Call_ (ld_blt I hg hm PyProof.Rows.boot_enumerate (PyProof.Rows.callWith_type1 (thn (ha.run pos pins s σ H _ I h) fun us s1 ⟨vs, H1, I1, r1, q1⟩ => ?_) hs rfl))
  obtain ⟨a, xs, ex, hq, q⟩ := q1
  subst ex
  cases r1 with
  | cons r rr =>
    cases rr
    cases r
    obtain ⟨its, rv, p', _⟩ := I1.tuple hq
    refine call_enumT (show s1.heap.IsTuple a its.toArray from p') fun h' he hit hk => wpAny_pyIter_enum he ?_
    have I2 : Inv X pins σ H1 { s1 with heap := h' } := I1.kept (t' := s1.toks) hk
    refine ⟨s1.heap.objs.size + 1, [s1.heap.objs.size + 1, s1.heap.objs.size], _, _, H1, rfl, I2, turn_enumT a (s1.heap.objs.size + 1) s1.heap.objs.size, ⟨⟨.none, he⟩, hit, Nat.succ_ne_self _⟩, fun b hb => ?_, q⟩
    have hle : s1.heap.objs.size ≤ b := by
      rcases List.mem_cons.mp hb with z | z
      · rw [z]; exact Nat.le_add_right _ _
      · rw [List.mem_singleton.mp z]; exact Nat.le_refl _
    exact I1.fpOk hle (I1.hok.fresh hle)
theorem walk_enumT {K : PySem.W.Frag} {a : Addr} {xs : List V} : Walk (IteT K a) xs.length (fun H => SqT K H a xs) (YPair (fun i => some (.int (i : Nat))) (fun i => xs[i]?)) := by
  refine ⟨fun i _ hi q => ⟨xs, xs[i], q, by simp [hi]⟩, fun _ q => ⟨xs, q, Nat.le_refl _⟩, fun i H v H' _ q y => ?_⟩
  obtain ⟨t, x, h1, h2, h3, h4⟩ := y
  exact ⟨t, .int (i : Nat), x, h1, h2, h3, rfl, h4 xs q⟩
end Pf

set_option Elab.async false
set_option linter.all false
set_option maxRecDepth 100000
set_option maxHeartbeats 2000000
/-! Pf5: targets, what is walked, comprehensions. -/
namespace Pf
open PySem PySem.Spec L2
/-! ### data without lists -/
mutual
def lf : D → Bool
  | .non => true
  | .bl _ => true
  | .int _ => true
  | .str _ => true
  | .tup ds => lfA ds
  | .lst _ => false
  | .scr _ => false
def lfA : List D → Bool
  | [] => true
  | d :: ds => lf d && lfA ds
end
@[simp] theorem lfA_ints : ∀ ns : List Int, lfA (ns.map D.int) = true
  | [] => rfl
  | n :: ns => by simp only [List.map_cons, lfA, lf, lfA_ints ns, Bool.and_self]
theorem lfA_mem : ∀ {ds : List D} {d : D}, lfA ds = true → d ∈ ds → lf d = true
  | e :: ds, d, h, m => by
    simp only [lfA, Bool.and_eq_true] at h
    rcases List.mem_cons.mp m with z | z
    · rw [z]; exact h.1
    · exact lfA_mem h.2 z
theorem lfA_of : ∀ {ds : List D}, (∀ d ∈ ds, lf d = true) → lfA ds = true
  | [], _ => rfl
  | e :: ds, h => by
    simp only [lfA, Bool.and_eq_true]
    exact ⟨h e (by simp), lfA_of fun d hd => h d (by simp [hd])⟩
/-- all but lists are kept -/
def Kp (H H' : Hp) : Prop := ∀ a o, H a = some o → (∀ xs, o ≠ .lst xs) → H' a = some o
theorem Kp.refl (H : Hp) : Kp H H := fun _ _ h _ => h
theorem Kp.trans {H H1 H2 : Hp} (a : Kp H H1) (b : Kp H1 H2) : Kp H H2 := fun x o h n => b x o (a x o h n) n
theorem kp_of {H H' : Hp} (s : Same H H') : Kp H H' := fun a o h _ => s a o h
section
variable {K : PySem.W.Frag} {H H' : Hp}
theorem Kp.seqT {a : Addr} {xs : List V} (e : Kp H H') (h : SqT K H a xs) : SqT K H' a xs := by
  rcases h with (h | ⟨o, h⟩) | h
  · exact .inl (.inl (e _ _ h (fun _ z => nomatch z)))
  · exact .inl (.inr ⟨o, e _ _ h (fun _ z => nomatch z)⟩)
  · exact .inr h
mutual
theorem Dq.kp (e : Kp H H') : ∀ (d : D) (v : V), lf d = true → Dq K H v d → Dq K H' v d
  | .non, _, _, h => by cases h; exact .non
  | .bl b, _, _, h => by cases h; exact .bl _
  | .int i, _, _, h => by cases h; exact .int _
  | .str z, _, _, h => by cases h; exact .str _
  | .tup ds, _, l, h => by
    simp only [lf] at l
    cases h with
    | tup h1 h2 => exact .tup (e.seqT h1) (DqA.kp e ds _ l h2)
  | .lst ds, _, l, _ => by simp only [lf] at l; cases l
  | .scr ns, _, l, _ => by simp only [lf] at l; cases l
theorem DqA.kp (e : Kp H H') : ∀ (ds : List D) (vs : List V), lfA ds = true → DqA K H vs ds → DqA K H' vs ds
  | [], _, _, h => by cases h; exact .nil
  | d :: ds, _, l, h => by
    simp only [lfA, Bool.and_eq_true] at l
    cases h with
    | cons h1 h2 => exact .cons (Dq.kp e d _ l.1 h1) (DqA.kp e ds _ l.2 h2)
end
theorem kp_upd {p : Addr} {xs : List V} {o : HO} (h : H p = some (.lst xs)) : Kp H (upd H p o) := fun a u e n => by
  by_cases z : a = p
  · subst z
    rw [h] at e
    cases e
    exact absurd rfl (n xs)
  · rw [upd_ne z]; exact e
end
/-! ### slots set, forgotten -/
theorem Env.set {K : PySem.W.Frag} {H : Hp} {σ : L2.St} {ρ : En} (h : Env K H σ ρ) (i : Nat) {v : V} {d : D} (hd : Dq K H v d) : Env K H (σ.set i (some v)) (ρ.set i (.im d)) := by
  refine ⟨by simp [h.len], fun j s ov e1 e2 => ?_⟩
  by_cases z : i = j
  · subst z
    have hi : i < ρ.length := by have := (List.getElem?_eq_some_iff.mp e1).1; simpa using this
    rw [List.getElem?_set_self hi] at e1
    rw [List.getElem?_set_self (by rw [h.len]; exact hi)] at e2
    cases e1; cases e2
    exact ⟨v, rfl, hd⟩
  · rw [List.getElem?_set_ne z] at e1 e2
    exact h.at_ j s ov e1 e2
theorem Env.setL {K : PySem.W.Frag} {H : Hp} {σ : L2.St} {ρ : En} (h : Env K H σ ρ) (i : Nat) {p : Addr} {xs : List V} {ds : List D} (hp : H p = some (.lst xs)) (hd : DqA K H xs ds) : Env K H (σ.set i (some (.ref p))) (ρ.set i (.ow ds)) := by
  refine ⟨by simp [h.len], fun j s ov e1 e2 => ?_⟩
  by_cases z : i = j
  · subst z
    have hi : i < ρ.length := by have := (List.getElem?_eq_some_iff.mp e1).1; simpa using this
    rw [List.getElem?_set_self hi] at e1
    rw [List.getElem?_set_self (by rw [h.len]; exact hi)] at e2
    cases e1; cases e2
    exact ⟨p, xs, rfl, hp, hd⟩
  · rw [List.getElem?_set_ne z] at e1 e2
    exact h.at_ j s ov e1 e2
/-- the slots forgotten -/
def wipeR (ρ : En) : List Nat → En
  | [] => ρ
  | i :: is => (wipeR ρ is).set i .un
theorem wipeR_len (ρ : En) : ∀ vs, (wipeR ρ vs).length = ρ.length
  | [] => rfl
  | i :: is => by unfold wipeR; rw [List.length_set, wipeR_len ρ is]
theorem Env.un {K : PySem.W.Frag} {H : Hp} {σ : L2.St} {ρ : En} (h : Env K H σ ρ) (i : Nat) (ov : Option V) : Env K H (σ.set i ov) (ρ.set i .un) := by
  refine ⟨by simp [h.len], fun j s ov' e1 e2 => ?_⟩
  by_cases z : i = j
  · subst z
    have hi : i < ρ.length := by have := (List.getElem?_eq_some_iff.mp e1).1; simpa using this
    rw [List.getElem?_set_self hi] at e1
    cases e1
    trivial
  · rw [List.getElem?_set_ne z] at e1 e2
    exact h.at_ j s ov' e1 e2
theorem Env.wipe {K : PySem.W.Frag} {H : Hp} {σ : L2.St} {ρ : En} (h : Env K H σ ρ) : ∀ vs, Env K H (L2.wipe σ vs) (wipeR ρ vs)
  | [] => h
  | i :: is => by
    unfold L2.wipe wipeR
    exact (Env.wipe h is).un i none
theorem wipe_set {σ : L2.St} {i : Nat} {ov : Option V} : ∀ {vs : List Nat}, i ∈ vs → wipe (σ.set i ov) vs = wipe σ vs
  | j :: vs, h => by
    have gen : ∀ (vs : List Nat), i ∉ vs → wipe (σ.set i ov) vs = (wipe σ vs).set i ov := fun vs => by
      induction vs with
      | nil => intro _; rfl
      | cons k vs ih =>
        intro hn
        unfold wipe
        rw [ih fun z => hn (List.mem_cons_of_mem _ z)]
        exact List.set_comm _ _ fun z => hn (by simp [z])
    unfold wipe
    by_cases hv : i ∈ vs
    · rw [wipe_set hv]
    · have e : i = j := by
        rcases List.mem_cons.mp h with z | z
        · exact z
        · exact absurd z hv
      subst e
      rw [gen vs hv, List.set_set]
theorem wipe_idem {σ : L2.St} : ∀ (vs us : List Nat), (∀ i ∈ vs, i ∈ us) → wipe (wipe σ vs) us = wipe σ us
  | [], us, _ => rfl
  | i :: vs, us, h => by
    show wipe ((wipe σ vs).set i none) us = wipe σ us
    rw [wipe_set (h i (by simp))]
    exact wipe_idem vs us fun j hj => h j (by simp [hj])
section
variable {T : Ct}
/-! ### targets -/
def wG (X : Cx) (tg : Expr) : TG := fun v σ H Q => ∃ t, PG X tg t ∧ t v σ H Q
theorem pg_w {X : Cx} {tg : Expr} : PG X tg (wG X tg) := ⟨fun pins s σ H v u Q I r ⟨_, p, h⟩ => p.run pins s σ H v u Q I r h⟩
def SG (T : Ct) (tg : Expr) (is : List Nat) (set : D → En → Option En) : Prop :=
  ∀ X, Good T X → ∀ (σ : L2.St) (H : Hp) (ρ : En) (v : V) (d : D) (ρ' : En), Env T.K H σ ρ → Dq T.K H v d → set d ρ = some ρ' →
    ∀ Q : L2.St → Hp → Prop, (∀ σ', Env T.K H σ' ρ' → (∀ vs : List Nat, (∀ i ∈ is, i ∈ vs) → wipe σ' vs = wipe σ vs) → (∀ i, i ∉ is → σ'[i]? = σ[i]? ∧ ρ'[i]? = ρ[i]?) → (∀ i ds, i ∈ is → ρ'[i]? ≠ some (.ow ds)) → Q σ' H) → wG X tg v σ H Q
def locB (T : Ct) (x : Str) : Bool := match T.sc.names.lookup x with
  | some .local => true
  | some .cell => T.df
  | _ => false
theorem loc_of {X : Cx} (G : Good T X) {x : Str} (h : locB T x = true) : Loc X.env.scope x ∧ (X.fn x = true ∨ X.env.scope.names.lookup x = some .local) := by
  unfold locB at h
  split at h
  · rename_i e
    exact ⟨.inl (by rw [G.hs]; exact e), .inr (by rw [G.hs]; exact e)⟩
  · rename_i e
    exact ⟨.inr (by rw [G.hs]; exact e), .inl (G.hf h x)⟩
  · cases h
def set1 (i : Nat) (d : D) (ρ : En) : Option En := some (ρ.set i (.im d))
theorem sg1 (i : Nat) {x : Str} {pos : Pos} (hN : T.N[i]? = some x) (hx : locB T x = true) : SG T (.Name x pos) [i] (set1 i) := by
  intro X G σ H ρ v d ρ' env dv hs Q q
  cases hs
  obtain ⟨h1, h2⟩ := loc_of G hx
  refine ⟨_, pg_name (i := i) (by rw [G.hN]; exact G.nd) (by rw [G.hN]; exact hN) h1 h2, ?_⟩
  refine q _ (env.set i dv) (fun vs hv => wipe_set (hv i (by simp))) (fun j hj => ?_) fun j ds hj => ?_
  · have ne : i ≠ j := fun z => hj (by simp [z])
    exact ⟨List.getElem?_set_ne ne, List.getElem?_set_ne ne⟩
  · have e := List.mem_singleton.mp hj
    subst e
    rw [List.getElem?_set]
    split
    · split <;> (intro z; cases z)
    · contradiction
def set2 (i j : Nat) (d : D) (ρ : En) : Option En := match d with
  | .tup [x, y] => some ((ρ.set i (.im x)).set j (.im y))
  | _ => none
theorem sg2 (i j : Nat) {x y : Str} {px py pos : Pos} {k : Nat} (hN : T.N[i]? = some x) (hx : locB T x = true) (hN2 : T.N[j]? = some y) (hy : locB T y = true) (hmd : T.md = none := by rfl) : SG T (.Tuple [.Name x px, .Name y py] k pos) [i, j] (set2 i j) := by
  intro X G σ H ρ v d ρ' env dv hs Q q
  unfold set2 at hs
  split at hs
  · rename_i d1 d2
    cases hs
    obtain ⟨h1, h2⟩ := loc_of G hx
    obtain ⟨h3, h4⟩ := loc_of G hy
    cases dv with
    | tup q1 q2 =>
      obtain ⟨v1, v2, rfl, e1, e2⟩ := dqa2 q2
      refine ⟨_, pg_tup (G.calm hmd) (pgs_cons (pg_name (i := i) (by rw [G.hN]; exact G.nd) (by rw [G.hN]; exact hN) h1 h2) (pgs_cons (pg_name (i := j) (by rw [G.hN]; exact G.nd) (by rw [G.hN]; exact hN2) h3 h4) pgs_nil)) rfl rfl, ?_⟩
      refine ⟨_, _, rfl, by rw [G.hK]; exact q1, rfl, v1, [v2], rfl, v2, [], rfl, rfl, ?_⟩
      refine q _ ((env.set i e1).set j e2) (fun vs hv => ?_) (fun l hl => ?_) fun l ds hl => ?_
      · rw [wipe_set (hv j (by simp)), wipe_set (hv i (by simp))]
      · have n1 : i ≠ l := fun z => hl (by simp [z])
        have n2 : j ≠ l := fun z => hl (by simp [z])
        exact ⟨by rw [List.getElem?_set_ne n2, List.getElem?_set_ne n1], by rw [List.getElem?_set_ne n2, List.getElem?_set_ne n1]⟩
      · rw [List.getElem?_set]
        split
        · split <;> (intro z; cases z)
        · rename_i nj
          have e : l = i := by
            rcases List.mem_cons.mp hl with z | z
            · exact z
            · exact absurd (List.mem_singleton.mp z).symm nj
          subst e
          rw [List.getElem?_set]
          split
          · split <;> (intro z; cases z)
          · contradiction
  · cases hs
/-! ### what is walked -/
def wI (X : Cx) (tg iter : Expr) : TI := fun σ H R => ∃ t, PI X tg iter t ∧ t σ H R
theorem pi_w {X : Cx} {tg iter : Expr} : PI X tg iter (wI X tg iter) := ⟨fun pins s σ H R I ⟨_, p, h⟩ => p.run pins s σ H R I h⟩
def noOw (ρ : En) : Bool := ρ.all fun s => match s with
  | .ow _ => false
  | _ => true
def SI (T : Ct) (tg iter : Expr) (gi : En → Option (List D)) : Prop :=
  ∀ X, Good T X → ∀ (σ : L2.St) (H : Hp) (ρ : En) (ds : List D), Env T.K H σ ρ → gi ρ = some ds → ∀ R : It → Hp → Prop,
    (∀ (J : It) (H' : Hp) (a : Addr) (Gp : Hp → Prop) (Y : Nat → Hp → V → Hp → Prop), Same H H' → Walk J ds.length Gp Y → (∀ H1, (∀ o, H' a = some o → H1 a = some o) → Gp H1) → ((∀ xs, H' a ≠ some (.lst xs)) ∨ H a = none ∨ noOw ρ = true) →
      (∀ i Ha x Hb, i < ds.length → Gp Ha → (Same H' Ha ∨ (lfA ds = true ∧ Kp H' Ha)) → Y i Ha x Hb → Same Ha Hb ∧ ∃ d, ds[i]? = some d ∧ Dq T.K Hb x d) → R J H') → wI X tg iter σ H R
theorem dq_at {K : PySem.W.Frag} {H' Ha : Hp} {xs : List V} {ds : List D} {i : Nat} {x : V} (h : DqA K H' xs ds) (e : xs[i]? = some x) (k : Same H' Ha ∨ (lfA ds = true ∧ Kp H' Ha)) : ∃ d, ds[i]? = some d ∧ Dq K Ha x d := by
  obtain ⟨d, e1, e2⟩ := h.getV e
  refine ⟨d, e1, ?_⟩
  rcases k with k | ⟨l, k⟩
  · exact e2.mono k
  · exact e2.kp k _ _ (lfA_mem l (List.mem_of_getElem? e1))
variable {a b c tg : Expr} {ga gb gc : En → Option D} {pos : Pos}
def gTu (g : En → Option D) : En → Option (List D) := fun ρ => (g ρ).bind fun d => match d with
  | .tup ds => some ds
  | _ => none
theorem gTu_some {g : En → Option D} {ρ : En} {ds : List D} (h : gTu g ρ = some ds) : g ρ = some (.tup ds) := by
  unfold gTu at h
  cases e : g ρ with
  | none => rw [e] at h; cases h
  | some d =>
    rw [e] at h
    cases d <;> first | (cases h; rfl) | cases h
theorem sqT_stab {K : PySem.W.Frag} {H' H1 : Hp} {a : Addr} {xs : List V} (h : SqT K H' a xs) (k : ∀ o, H' a = some o → H1 a = some o) : SqT K H1 a xs := by
  rcases h with (h | ⟨o, h⟩) | h
  · exact .inl (.inl (k _ h))
  · exact .inl (.inr ⟨o, k _ h⟩)
  · exact .inr h
/-- where a tuple stands no list stands -/
theorem sqT_nl {X : Cx} {pins : List (Addr × Obj)} {σ : L2.St} {H : Hp} {s : Shared} {a : Addr} {xs ys : List V} (I : L2.Inv X pins σ H s) (h : SqT X.K H a xs) : H a ≠ some (.lst ys) := by
  intro z
  obtain ⟨its, _, p, _⟩ := I.tuple h
  obtain ⟨o, h1, c1, _⟩ := id p
  obtain ⟨_, its2, n2, _, h2⟩ := I.hok a _ z
  rw [h1] at h2
  cases h2
  exact absurd (show Value.type "list" = Value.type "tuple" from c1) (by decide)
theorem si_tup (ha : SE T a ga) : SI T tg a (gTu ga) := by
  intro X G σ H ρ ds env hd R r
  refine ⟨fun σ H R => ∃ t, PE X a t ∧ t σ H fun x H1 => ∃ a, x = .ref a ∧ (∃ xs, SqT X.K H1 a xs) ∧ ((∀ ys, H1 a ≠ some (.lst ys)) → R (Itt X.K a) H1), ⟨fun pins s σ H R I h => ?_⟩, ?_⟩
  · obtain ⟨t, p, h⟩ := h
    refine thn (p.run pins s σ H _ I h) fun v s1 ⟨x, H1, I1, r1, q1⟩ => ?_
    obtain ⟨ad, e, ⟨xs, hq⟩, q⟩ := q1
    subst e
    cases r1
    obtain ⟨its, rv, p, hz⟩ := I1.tuple hq
    refine wpAny_pyIter_tuple (show s1.heap.IsTuple ad its.toArray from p) ?_
    refine ⟨s1.heap.objs.size, [s1.heap.objs.size], _, _, H1, rfl, I1.kept (t' := s1.toks) fun b o e => Heap.get?_push_of_some _ e, turn_tuple ad _, ⟨_, Heap.get?_push_size _ rfl, rfl, rfl⟩, fun b hb => ?_, q fun ys => sqT_nl I1 hq⟩
    rw [List.mem_singleton.mp hb]
    exact I1.fpOk (Nat.le_refl _) (I1.hok.fresh (Nat.le_refl _))
  · refine ha X G σ H ρ _ env (gTu_some hd) _ fun v H1 s1 d1 => ?_
    cases d1 with
    | @tup ad xs _ h1 h2 =>
      refine ⟨ad, rfl, ⟨xs, by rw [G.hK]; exact h1⟩, fun nl => ?_⟩
      rw [G.hK]
      have wk := walk_tup (K := T.K) (a := ad) (xs := xs)
      rw [h2.length] at wk
      refine r _ H1 ad _ _ s1 wk (fun H2 k => sqT_stab h1 k) (.inl nl) fun i Ha x Hb hi _ k y => ?_
      obtain ⟨e, hx⟩ := y
      subst e
      exact ⟨Same.refl _, dq_at h2 hx k⟩
def gLs (g : En → Option D) : En → Option (List D) := fun ρ => (g ρ).bind fun d => match d with
  | .lst ds => if noOw ρ = true then some ds else none
  | _ => none
theorem gLs_some {g : En → Option D} {ρ : En} {ds : List D} (h : gLs g ρ = some ds) : g ρ = some (.lst ds) ∧ noOw ρ = true := by
  unfold gLs at h
  cases e : g ρ with
  | none => rw [e] at h; cases h
  | some d =>
    rw [e] at h
    cases d <;> try (cases h; done)
    simp only [Option.bind_some] at h
    split at h
    · cases h; exact ⟨rfl, by assumption⟩
    · cases h
theorem si_lst (ha : SE T a ga) : SI T tg a (gLs ga) := by
  intro X G σ H ρ ds env hd R r
  obtain ⟨e1, e2⟩ := gLs_some hd
  refine ⟨_, pi_list pe_w, ?_⟩
  refine ha X G σ H ρ _ env e1 _ fun v H1 s1 d1 => ?_
  cases d1 with
  | @lst ad xs _ h1 h2 =>
    refine ⟨ad, rfl, ⟨xs, SqL.of h1⟩, ?_⟩
    have wk := walk_list (K := X.K) (a := ad) (xs := xs)
    rw [h2.length] at wk
    refine r _ H1 ad _ _ s1 wk (fun H2 k => SqL.of (k _ h1)) (.inr (.inr e2)) fun i Ha x Hb hi _ k y => ?_
    obtain ⟨e, hx⟩ := y
    subst e
    exact ⟨Same.refl _, dq_at h2 hx k⟩
theorem si_new {gl : En → Option (List D)} (ha : SL T a gl) : SI T tg a gl := by
  intro X G σ H ρ ds env hd R r
  refine ⟨_, pi_list pe_w, ?_⟩
  refine ha X G σ H ρ _ env hd _ fun ad xs H1 n s1 h1 h2 => ?_
  refine ⟨ad, rfl, ⟨xs, SqL.of h1⟩, ?_⟩
  have wk := walk_list (K := X.K) (a := ad) (xs := xs)
  rw [h2.length] at wk
  refine r _ H1 ad _ _ s1 wk (fun H2 k => SqL.of (k _ h1)) (.inr (.inl n)) fun i Ha x Hb hi _ k y => ?_
  obtain ⟨e, hx⟩ := y
  subst e
  exact ⟨Same.refl _, dq_at h2 hx k⟩
/-- lo, lo + 1, .. -/
def rngD (lo : Int) (n : Nat) : List D := (List.range n).map fun i => D.int (lo + (i : Nat))
theorem rngD_len (lo : Int) (n : Nat) : (rngD lo n).length = n := by simp [rngD]
theorem rngD_get (lo : Int) {n i : Nat} (h : i < n) : (rngD lo n)[i]? = some (.int (lo + (i : Nat))) := by
  unfold rngD
  rw [List.getElem?_map, List.getElem?_range h]
  rfl
def gR1 (g : En → Option (List D)) : En → Option (List D) := fun ρ => (g ρ).bind fun ds => match ds with
  | [.int j] => if -(2 ^ 62) ≤ j ∧ j < 2 ^ 62 then some (rngD 0 j.toNat) else none
  | _ => none
def gR2 (g : En → Option (List D)) : En → Option (List D) := fun ρ => (g ρ).bind fun ds => match ds with
  | [.int i, .int j] => if -(2 ^ 62) ≤ i ∧ i < 2 ^ 62 ∧ -(2 ^ 62) ≤ j ∧ j < 2 ^ 62 then some (rngD i (j - i).toNat) else none
  | _ => none
theorem rng_it {T : Ct} {H H1 : Hp} {ρ : En} {lo : Int} {n : Nat} {R : It → Hp → Prop} (s1 : Same H H1) (hn : ∃ z, H1 z = none)
    (r : ∀ (J : It) (H' : Hp) (a : Addr) (Gp : Hp → Prop) (Y : Nat → Hp → V → Hp → Prop), Same H H' → Walk J (rngD lo n).length Gp Y → (∀ H1, (∀ o, H' a = some o → H1 a = some o) → Gp H1) → ((∀ xs, H' a ≠ some (.lst xs)) ∨ H a = none ∨ noOw ρ = true) →
      (∀ i Ha x Hb, i < (rngD lo n).length → Gp Ha → (Same H' Ha ∨ (lfA (rngD lo n) = true ∧ Kp H' Ha)) → Y i Ha x Hb → Same Ha Hb ∧ ∃ d, (rngD lo n)[i]? = some d ∧ Dq T.K Hb x d) → R J H') : R (Itr lo n) H1 := by
  obtain ⟨z, hz⟩ := hn
  have wk := walk_range (lo := lo) (n := n)
  rw [← rngD_len lo n] at wk
  have e0 : (rngD lo n).length = n := rngD_len lo n
  refine r (Itr lo n) H1 z _ _ s1 (by rw [e0] at wk ⊢; exact wk) (fun _ _ => trivial) (.inl fun xs q => by rw [hz] at q; cases q) fun i Ha x Hb hi _ _ y => ?_
  obtain ⟨e, hx⟩ := y
  subst e hx
  rw [e0] at hi
  exact ⟨Same.refl _, _, rngD_get lo hi, .int _⟩
theorem none_at {X : Cx} {pins : List (Addr × Obj)} {σ : L2.St} {H : Hp} {s : Shared} (I : L2.Inv X pins σ H s) : ∃ z, H z = none := ⟨_, I.hok.fresh (Nat.le_refl _)⟩
theorem pi_none {X : Cx} {tg iter : Expr} {w : TI} (h : PI X tg iter w) : PI X tg iter (fun σ H R => w σ H fun J H1 => (∃ z, H1 z = none) → R J H1) := by
  refine ⟨fun pins s σ H R I hw => ?_⟩
  refine thn (h.run pins s σ H _ I hw) fun v s1 h1 => thn h1 fun itv s2 h2 => ?_
  obtain ⟨it, fp, tn, J, H2, e, I2, t, st2, f2, q⟩ := h2
  exact ⟨it, fp, tn, J, H2, e, I2, t, st2, f2, q (none_at I2)⟩
theorem si_rng1 {p : Pos} {g : En → Option (List D)} (hm : T.mg "range" = none) (ha : SA T [a] g) (hg : T.sc.names.lookup ("range" : Str) = some .globalImplicit) (he : ∀ env, starEach [a] env = [(false, eval a env)] := by intro _; rfl) : SI T tg (.Call (.Name "range" p) [a] [] pos) (gR1 g) := by
  intro X G σ H ρ ds env hd R r
  refine ⟨_, pi_none (pi_range1 (by show X.env.scope.names.lookup _ = _; rw [G.hs]; exact hg) (by rw [G.hm]; exact hm) pa_w (he X.env)), ?_⟩
  unfold gR1 at hd
  cases e1 : g ρ with
  | none => rw [e1] at hd; cases hd
  | some es =>
  rw [e1] at hd
  refine ha X G σ H ρ es env e1 _ fun vs H1 s1 d1 => ?_
  simp only [Option.bind_some] at hd
  split at hd
  · split at hd
    · rename_i hb
      cases hd
      obtain ⟨v, rfl, d2⟩ := dqa1 d1
      cases d2
      exact ⟨_, rfl, hb.1, hb.2, fun hn => rng_it s1 hn r⟩
    · cases hd
  · cases hd
theorem si_rng2 {p : Pos} {g : En → Option (List D)} (hm : T.mg "range" = none) (ha : SA T [a, b] g) (hg : T.sc.names.lookup ("range" : Str) = some .globalImplicit) (he : ∀ env, starEach [a, b] env = [(false, eval a env), (false, eval b env)] := by intro _; rfl) (he2 : ∀ env, starEach [b] env = [(false, eval b env)] := by intro _; rfl) : SI T tg (.Call (.Name "range" p) [a, b] [] pos) (gR2 g) := by
  intro X G σ H ρ ds env hd R r
  refine ⟨_, pi_none (pi_range2 (by show X.env.scope.names.lookup _ = _; rw [G.hs]; exact hg) (by rw [G.hm]; exact hm) pa_w (he X.env) (he2 X.env)), ?_⟩
  unfold gR2 at hd
  cases e1 : g ρ with
  | none => rw [e1] at hd; cases hd
  | some es =>
  rw [e1] at hd
  refine ha X G σ H ρ es env e1 _ fun vs H1 s1 d1 => ?_
  simp only [Option.bind_some] at hd
  split at hd
  · split at hd
    · rename_i hb
      cases hd
      obtain ⟨v, u, rfl, d2, d3⟩ := dqa2 d1
      cases d2; cases d3
      exact ⟨_, _, rfl, hb, fun hn => rng_it s1 hn r⟩
    · cases hd
  · cases hd
/-- (k, x), (k + 1, y), .. -/
def enD : Nat → List D → List D
  | _, [] => []
  | k, d :: ds => .tup [.int (k : Nat), d] :: enD (k + 1) ds
theorem enD_len : ∀ (k : Nat) (ds : List D), (enD k ds).length = ds.length
  | _, [] => rfl
  | k, d :: ds => by simp [enD, enD_len (k + 1) ds]
theorem enD_get : ∀ (k : Nat) (ds : List D) (i : Nat), (enD k ds)[i]? = ds[i]?.map fun d => D.tup [.int ((k + i : Nat) : Int), d]
  | _, [], i => by simp [enD]
  | k, d :: ds, 0 => by simp [enD]
  | k, d :: ds, i + 1 => by
    simp only [enD, List.getElem?_cons_succ]
    rw [enD_get (k + 1) ds i]
    have e : k + 1 + i = k + (i + 1) := by omega
    rw [e]
theorem lfA_enD : ∀ (k : Nat) (ds : List D), lfA (enD k ds) = lfA ds
  | _, [] => rfl
  | k, d :: ds => by simp [enD, lfA, lf, lfA_enD (k + 1) ds]
theorem pair_dq {K : PySem.W.Frag} {H' Ha Hb : Hp} {xs : List V} {ds : List D} {i : Nat} {x : V} (h : DqA K H' xs ds) (k : Same H' Ha ∨ (lfA (enD 0 ds) = true ∧ Kp H' Ha)) (y : YPair (fun i => some (.int (i : Nat))) (fun i => xs[i]?) i Ha x Hb) : Same Ha Hb ∧ ∃ d, (enD 0 ds)[i]? = some d ∧ Dq K Hb x d := by
  obtain ⟨t, u, z, rfl, hn, rfl, e1, e2⟩ := y
  cases e1
  have s := same_upd (o := .tup [.int (i : Nat), z]) hn
  rw [lfA_enD] at k
  obtain ⟨d, e3, e4⟩ := dq_at h e2 k
  refine ⟨s, _, by rw [enD_get, e3]; rfl, .tup (SqT.of upd_same) ?_⟩
  rw [Nat.zero_add]
  exact .cons (.int _) (.cons (e4.mono s) .nil)
def gEnT (g : En → Option D) : En → Option (List D) := fun ρ => (gTu g ρ).map (enD 0)
theorem si_enT {p tp : Pos} {elts : List Expr} {k : Nat} (hm : T.mg "enumerate" = none) (ha : SE T a ga) (hg : T.sc.names.lookup ("enumerate" : Str) = some .globalImplicit) (he : ∀ env, starEach [a] env = [(false, eval a env)] := by intro _; rfl) : SI T (.Tuple elts k tp) (.Call (.Name "enumerate" p) [a] [] pos) (gEnT ga) := by
  intro X G σ H ρ ds env hd R r
  unfold gEnT at hd
  cases e1 : gTu ga ρ with
  | none => rw [e1] at hd; cases hd
  | some es =>
  rw [e1] at hd
  have hd := Option.some.inj hd
  subst hd
  refine ⟨_, pi_none (pi_enumT (by show X.env.scope.names.lookup _ = _; rw [G.hs]; exact hg) (by rw [G.hm]; exact hm) (pa_cons pe_w pa_nil (he X.env)) (he X.env)), ?_⟩
  refine ha X G σ H ρ _ env (gTu_some e1) _ fun v H1 s1 d1 => ?_
  cases d1 with
  | @tup ad xs _ h1 h2 =>
    refine ⟨ad, xs, rfl, by rw [G.hK]; exact h1, fun hn => ?_⟩
    rw [G.hK]
    have wk := walk_enumT (K := T.K) (a := ad) (xs := xs)
    rw [h2.length, ← enD_len 0 es] at wk
    have nl : (∀ ys, H1 ad ≠ some (.lst ys)) ∨ noOw ρ = true ∨ True := .inr (.inr trivial)
    by_cases hl : ∃ ys, H1 ad = some (.lst ys)
    · -- a static tuple whose address would hold a tracked list: G's Gp is then static
      obtain ⟨z, hz⟩ := hn
      rcases h1 with (h1 | ⟨o, h1⟩) | h1
      · obtain ⟨ys, hl⟩ := hl; rw [h1] at hl; cases hl
      · obtain ⟨ys, hl⟩ := hl; rw [h1] at hl; cases hl
      · exact r _ H1 z _ _ s1 wk (fun H2 _ => .inr h1) (.inl fun xs q => by rw [hz] at q; cases q) fun i Ha x Hb hi _ k y => pair_dq h2 k y
    · exact r _ H1 ad _ _ s1 wk (fun H2 k => sqT_stab h1 k) (.inl fun ys q => hl ⟨ys, q⟩) fun i Ha x Hb hi _ k y => pair_dq h2 k y
def gEnL (g : En → Option D) : En → Option (List D) := fun ρ => (gLs g ρ).map (enD 0)
theorem si_enL {p tp : Pos} {elts : List Expr} {k : Nat} (hm : T.mg "enumerate" = none) (ha : SE T a ga) (hg : T.sc.names.lookup ("enumerate" : Str) = some .globalImplicit) (he : ∀ env, starEach [a] env = [(false, eval a env)] := by intro _; rfl) : SI T (.Tuple elts k tp) (.Call (.Name "enumerate" p) [a] [] pos) (gEnL ga) := by
  intro X G σ H ρ ds env hd R r
  unfold gEnL at hd
  cases e1 : gLs ga ρ with
  | none => rw [e1] at hd; cases hd
  | some es =>
  rw [e1] at hd
  have hd := Option.some.inj hd
  subst hd
  refine ⟨_, pi_enum (by show X.env.scope.names.lookup _ = _; rw [G.hs]; exact hg) (by rw [G.hm]; exact hm) (pa_cons pe_w pa_nil (he X.env)) (he X.env), ?_⟩
  refine ha X G σ H ρ _ env (gLs_some e1).1 _ fun v H1 s1 d1 => ?_
  cases d1 with
  | @lst ad xs _ h1 h2 =>
    refine ⟨ad, xs, rfl, SqL.of h1, ?_⟩
    have wk := walk_enum (K := X.K) (a := ad) (xs := xs)
    rw [h2.length, ← enD_len 0 es] at wk
    exact r _ H1 ad _ _ s1 wk (fun H2 k => SqL.of (k _ h1)) (.inr (.inr (gLs_some e1).2)) fun i Ha x Hb hi _ k y => pair_dq h2 k y
/-! ### [e for target in iter if test] -/
def SPt (T : Ct) (ifs : List Expr) (g : En → Option Bool) : Prop :=
  ∀ X, Good T X → ∀ (σ : L2.St) (H : Hp) (ρ : En) (b : Bool), Env T.K H σ ρ → g ρ = some b → ∀ Q : Bool → Hp → Prop, (∀ H', Same H H' → Q b H') → ∃ t, PTs X ifs t ∧ t σ H Q
def gYes : En → Option Bool := fun _ => some true
theorem sp_nil : SPt T [] gYes := fun X G σ H ρ b env hb Q q => by
  cases hb
  exact ⟨_, pts_nil, q H (Same.refl H)⟩
theorem sp_one {tt : En → Option Bool} (h : ST T a tt) : SPt T [a] tt := fun X G σ H ρ b env hb Q q => by
  obtain ⟨t, p, hq⟩ := h X G σ H ρ b env hb Q q
  exact ⟨t, pts_one p, hq⟩
theorem pts_any {X : Cx} {ifs : List Expr} : PTs X ifs (fun σ H Q => ∃ t, PTs X ifs t ∧ t σ H Q) := ⟨fun pins s σ H Q I ⟨_, p, h⟩ => p.run pins s σ H Q I h⟩
def lcG (set : D → En → Option En) (gt : En → Option Bool) (ge : En → Option D) (ρ : En) : List D → Option (List D)
  | [] => some []
  | d :: r => (set d ρ).bind fun ρ' => (gt ρ').bind fun b => if b = true then (ge ρ').bind fun x => if lf x = true then (lcG set gt ge ρ r).map fun xs => x :: xs else none else lcG set gt ge ρ r
def gLc (gi : En → Option (List D)) (own : List Nat) (set : D → En → Option En) (gt : En → Option Bool) (ge : En → Option D) : En → Option (List D) := fun ρ => (gi ρ).bind fun ds => if ds.length ≤ 1000000 then lcG set gt ge (wipeR ρ own) ds else none
abbrev Ct.blk (T : Ct) (scope : Scope) : Ct := { T with sc := relS scope T.sc, df := false }
theorem good_blk {X : Cx} (G : Good T X) (hmd : T.md = none) {scope : Scope} {s : Shared} {H : Hp} {C : Addr} {cl : List (Str × Addr)} {fp : List Addr} : Good (T.blk scope) (X.blk s H scope (compEnvC scope cl C X.env) fp) :=
  ⟨G.hP, G.hw, G.hK, G.hm, G.hb, G.hN, by show relS scope X.env.scope = relS scope T.sc; rw [G.hs], G.calm, G.nd, (fun z => nomatch z), G.room, G.hu, fun p e => by rw [show T.md = none from hmd] at e; cases e⟩
/-- the reading of an element, whatever the block -/
def bE (X : Cx) (scope : Scope) (e : Expr) : TE := fun σ H Q => ∀ (s : Shared) (H0 : Hp) (C : Addr) (cl : List (Str × Addr)) (fp : List Addr), wE (X.blk s H0 scope (compEnvC scope cl C X.env) fp) e σ H Q
def bT (X : Cx) (scope : Scope) (ifs : List Expr) : TT := fun σ H Q => ∀ (s : Shared) (H0 : Hp) (C : Addr) (cl : List (Str × Addr)) (fp : List Addr), ∃ t, PTs (X.blk s H0 scope (compEnvC scope cl C X.env) fp) ifs t ∧ t σ H Q
def bG (X : Cx) (scope : Scope) (tg : Expr) : TG := fun v σ H Q => ∀ (s : Shared) (H0 : Hp) (C : Addr) (cl : List (Str × Addr)) (fp : List Addr), wG (X.blk s H0 scope (compEnvC scope cl C X.env) fp) tg v σ H Q
theorem lc_read {elt iter : Expr} {ifs : List Expr} {scope : Scope} {own : List (Str × Nat)} {is : List Nat} {set : D → En → Option En} {gi : En → Option (List D)} {gt : En → Option Bool} {ge : En → Option D}
    (hi : SI T tg iter gi) (hg : SG (T.blk scope) tg is set) (his : ∀ i ∈ is, i ∈ own.map (·.2)) (ht : SPt (T.blk scope) ifs gt) (he : SE (T.blk scope) elt ge)
    (hmd : T.md = none)
    {X : Cx} (G : Good T X) {σ : L2.St} {H : Hp} {ρ : En} {res : List D} (env : Env T.K H σ ρ) (hd : gLc gi (own.map (·.2)) set gt ge ρ = some res) {Q : VK} (q : ∀ p xs H', H p = none → Same H H' → H' p = some (.lst xs) → DqA T.K H' xs res → Q (.ref p) H') :
    tLc (wI X tg iter) (bG X scope tg) (bT X scope ifs) (bE X scope elt) (own.map (·.2)) σ H Q := by
  unfold gLc at hd
  cases e1 : gi ρ with
  | none => rw [e1] at hd; cases hd
  | some ds =>
  rw [e1] at hd
  have hd : (if ds.length ≤ 1000000 then lcG set gt ge (wipeR ρ (own.map (·.2))) ds else none) = some res := hd
  split at hd
  · rename_i hz
    refine hi X G σ H ρ ds env e1 _ fun J H1 ad Gp Y s1 wk stab _ item => fun L hL => ?_
    -- the part made so far and the part to come
    let Pv : Nat → Hp → Prop := fun i H2 => (∀ a o, H1 a = some o → H2 a = some o) ∧ ∃ acc accD rest, H2 L = some (.lst acc) ∧ acc.length ≤ i ∧ DqA T.K H2 acc accD ∧ lfA accD = true ∧ lcG set gt ge (wipeR ρ (own.map (·.2))) (ds.drop i) = some rest ∧ res = accD ++ rest
    refine lc_it wk Pv ?_ (fun i H2 _ p => stab H2 fun o => p.1 ad o) (fun i x Ha Hb hlt p y => ?_) fun H2 p => ?_
    · refine ⟨fun a o h => ?_, [], [], res, upd_same, Nat.le_refl _, .nil, rfl, hd, rfl⟩
      rw [upd_ne (ne_of_none h hL)]
      exact h
    · obtain ⟨k1, acc, accD, rest, hacc, hle, hdq, hlf, hrest, eres⟩ := p
      obtain ⟨sab, d, hdi, hx⟩ := item i Ha x Hb hlt (stab Ha fun o => k1 ad o) (.inl k1) y
      have edrop : ds.drop i = d :: ds.drop (i + 1) := by
        have h1 := List.getElem?_eq_some_iff.mp hdi
        rw [← h1.2]
        exact List.drop_eq_getElem_cons h1.1
      rw [edrop] at hrest
      unfold lcG at hrest
      cases es : set d (wipeR ρ (own.map (·.2))) with
      | none => rw [es] at hrest; cases hrest
      | some ρ' =>
      rw [es] at hrest
      simp only [Option.bind_some] at hrest
      cases et : gt ρ' with
      | none => rw [et] at hrest; cases hrest
      | some bt =>
      rw [et] at hrest
      simp only [Option.bind_some] at hrest
      have envb : Env T.K Hb (wipe σ (own.map (·.2))) (wipeR ρ (own.map (·.2))) := (env.mono ((s1.trans k1).trans sab)).wipe _
      intro s0 H0 C0 cl0 fp0
      refine hg _ (good_blk G hmd) _ _ _ _ d ρ' envb hx es _ fun σ' env' hw _ _ => ⟨?_, ?_⟩
      · rw [hw _ his, wipe_idem _ _ fun _ h => h]
      intro s0 H0 C0 cl0 fp0
      refine ht _ (good_blk G hmd) σ' Hb ρ' bt env' et _ fun Hc sbc => ?_
      cases bt with
      | false =>
        rw [if_neg Bool.false_ne_true]
        exact ⟨fun a o h => sbc _ _ (sab _ _ (k1 a o h)), acc, accD, rest, sbc _ _ (sab _ _ hacc), by omega, (hdq.mono sab).mono sbc, hlf, hrest, eres⟩
      | true =>
        rw [if_pos rfl]
        have hrest : ((ge ρ').bind fun x => if lf x = true then (lcG set gt ge (wipeR ρ (own.map (·.2))) (ds.drop (i + 1))).map fun xs => x :: xs else none) = some rest := hrest
        cases ee : ge ρ' with
        | none => rw [ee] at hrest; cases hrest
        | some z =>
        rw [ee] at hrest
        have hrest : (if lf z = true then (lcG set gt ge (wipeR ρ (own.map (·.2))) (ds.drop (i + 1))).map fun xs => z :: xs else none) = some rest := hrest
        split at hrest
        · rename_i hlz
          cases er : lcG set gt ge (wipeR ρ (own.map (·.2))) (ds.drop (i + 1)) with
          | none => rw [er] at hrest; cases hrest
          | some rest' =>
          rw [er] at hrest
          have hrest := Option.some.inj hrest
          intro s0 H0 C0 cl0 fp0
          refine he _ (good_blk G hmd) σ' Hc ρ' z (env'.mono sbc) ee _ fun v He sce dz => ?_
          have hLe : He L = some (.lst acc) := sce _ _ (sbc _ _ (sab _ _ hacc))
          have kp := kp_upd (o := .lst (acc ++ [v])) hLe
          refine ⟨acc, hLe, ?_, fun a o h => ?_, acc ++ [v], accD ++ [z], rest', upd_same, by rw [List.length_append]; exact Nat.succ_le_succ hle, ?_, ?_, er, ?_⟩
          · have : i < ds.length := hlt
            exact Nat.lt_of_le_of_lt hle (Nat.lt_of_lt_of_le this (sz hz))
          · have ne : a ≠ L := ne_of_none h hL
            rw [upd_ne ne]
            exact sce _ _ (sbc _ _ (sab _ _ (k1 a o h)))
          · exact ((((hdq.mono sab).mono sbc).mono sce).kp kp _ _ hlf).append (.cons (dz.kp kp _ _ hlz) .nil)
          · exact lfA_of fun w hw => by
              rcases List.mem_append.mp hw with hw | hw
              · exact lfA_mem hlf hw
              · rw [List.mem_singleton.mp hw]; exact hlz
          · rw [eres, ← hrest]
            simp
        · cases hrest
    · obtain ⟨k1, acc, accD, rest, hacc, hle, hdq, hlf, hrest, eres⟩ := p
      have e0 : ds.drop ds.length = [] := List.drop_length
      rw [e0] at hrest
      have hrest : some ([] : List D) = some rest := hrest
      cases hrest
      rw [List.append_nil] at eres
      subst eres
      exact q L acc H2 (s1.free hL) (s1.trans k1) hacc hdq
  · cases hd
theorem bG_pg {X : Cx} {scope : Scope} {tg : Expr} (s : Shared) (H : Hp) (C : Addr) (cl : List (Str × Addr)) (fp : List Addr) : PG (X.blk s H scope (compEnvC scope cl C X.env) fp) tg (bG X scope tg) := ⟨fun pins s' σ H' v u Q I r h => pg_w.run pins s' σ H' v u Q I r (h s H C cl fp)⟩
theorem bT_pt {X : Cx} {scope : Scope} {ifs : List Expr} (s : Shared) (H : Hp) (C : Addr) (cl : List (Str × Addr)) (fp : List Addr) : PTs (X.blk s H scope (compEnvC scope cl C X.env) fp) ifs (bT X scope ifs) := ⟨fun pins s' σ H' Q I h => pts_any.run pins s' σ H' Q I (h s H C cl fp)⟩
theorem bE_pe {X : Cx} {scope : Scope} {e : Expr} (s : Shared) (H : Hp) (C : Addr) (cl : List (Str × Addr)) (fp : List Addr) : PE (X.blk s H scope (compEnvC scope cl C X.env) fp) e (bE X scope e) := ⟨fun pins s' σ H' Q I h => pe_w.run pins s' σ H' Q I (h s H C cl fp)⟩
theorem sl_lc {elt iter : Expr} {ifs : List Expr} {scope : Scope} {own : List (Str × Nat)} {is : List Nat} {set : D → En → Option En} {gi : En → Option (List D)} {gt : En → Option Bool} {ge : En → Option D}
    (hi : SI T tg iter gi) (ok : blkC T.N T.sc scope own = true) (hg : SG (T.blk scope) tg is set) (his : ∀ i ∈ is, i ∈ own.map (·.2)) (ht : SPt (T.blk scope) ifs gt) (he : SE (T.blk scope) elt ge)
    (hs : ∀ env x, foldedSetIterable iter env x = pure x := by intro _ _; rfl) (hmd : T.md = none := by rfl) : SL T (.ListComp elt [⟨tg, iter, ifs, 0⟩] scope pos) (gLc gi (own.map (·.2)) set gt ge) := by
  intro X G σ H ρ res env hd Q q
  exact ⟨_, pe_lc (own := own) (G.calm hmd) (by rw [G.hN]; exact G.nd) pi_w (blkOk_by (by rw [G.hN, G.hs]; exact ok)) bG_pg bT_pt bE_pe (hs X.env), lc_read hi hg his ht he hmd G env hd q⟩
end
end Pf

set_option Elab.async false
set_option linter.all false
set_option maxRecDepth 100000
set_option maxHeartbeats 2000000
/-! Pf6: statements, defs. -/
namespace Pf
open PySem PySem.Spec L2
/-- the address of a list that a slot owns -/
def own (ρ : En) (σ : L2.St) (a : Addr) : Prop := ∃ (i : Nat) (ds : List D), ρ[i]? = some (.ow ds) ∧ σ[i]? = some (some (.ref a))
structure Evo (ρ : En) (σ : L2.St) (H : Hp) (ρ' : En) (σ' : L2.St) (H' : Hp) : Prop where
  keep : ∀ a o, H a = some o → ¬ own ρ σ a → H' a = some o
  owns : ∀ a, own ρ' σ' a → own ρ σ a ∨ H a = none
  kp : Kp H H'
theorem Evo.refl (ρ : En) (σ : L2.St) (H : Hp) : Evo ρ σ H ρ σ H := ⟨fun _ _ h _ => h, fun _ h => .inl h, Kp.refl H⟩
theorem Evo.trans {ρ ρ1 ρ2 : En} {σ σ1 σ2 : L2.St} {H H1 H2 : Hp} (a : Evo ρ σ H ρ1 σ1 H1) (b : Evo ρ1 σ1 H1 ρ2 σ2 H2) : Evo ρ σ H ρ2 σ2 H2 := by
  refine ⟨fun x o h n => b.keep x o (a.keep x o h n) fun z => ?_, fun x z => ?_, a.kp.trans b.kp⟩
  · rcases a.owns x z with q | q
    · exact n q
    · rw [q] at h; cases h
  · rcases b.owns x z with q | q
    · exact a.owns x q
    · cases e : H x with
      | none => exact .inr rfl
      | some o =>
        by_cases q2 : own ρ σ x
        · exact .inl q2
        · have := a.keep x o e q2
          rw [this] at q; cases q
theorem evo_same {ρ : En} {σ : L2.St} {H H' : Hp} (s : Same H H') : Evo ρ σ H ρ σ H' := ⟨fun a o h _ => s a o h, fun _ h => .inl h, kp_of s⟩
theorem noOw_own {ρ : En} {σ : L2.St} {a : Addr} (h : noOw ρ = true) : ¬ own ρ σ a := by
  rintro ⟨i, ds, e, _⟩
  unfold noOw at h
  rw [List.all_eq_true] at h
  have := h _ (List.mem_of_getElem? e)
  cases this
theorem Evo.same {ρ ρ' : En} {σ σ' : L2.St} {H H' : Hp} (e : Evo ρ σ H ρ' σ' H') (h : noOw ρ = true) : Same H H' := fun a o q => e.keep a o q (noOw_own h)
theorem im_ne (d : D) : ∀ ds, Slot.im d ≠ .ow ds := fun ds z => by cases z
/-- a slot set to what is no owned list -/
theorem evo_set {ρ : En} {σ : L2.St} {H : Hp} (i : Nat) {ov : Option V} {s : Slot} (hs : ∀ ds, s ≠ .ow ds) : Evo ρ σ H (ρ.set i s) (σ.set i ov) H := by
  refine ⟨fun a o h _ => h, fun a ⟨j, ds, e1, e2⟩ => .inl ?_, Kp.refl H⟩
  by_cases z : i = j
  · subst z
    rw [List.getElem?_set] at e1
    split at e1
    · split at e1
      · exact absurd (Option.some.inj e1) (hs ds)
      · cases e1
    · contradiction
  · rw [List.getElem?_set_ne z] at e1 e2
    exact ⟨j, ds, e1, e2⟩
theorem evo_new {ρ : En} {σ : L2.St} {H H' : Hp} (i : Nat) {p : Addr} {ds : List D} (n : H p = none) (s : Same H H') : Evo ρ σ H (ρ.set i (.ow ds)) (σ.set i (some (.ref p))) H' := by
  refine ⟨fun a o h _ => s a o h, fun a ⟨j, ds', e1, e2⟩ => ?_, kp_of s⟩
  by_cases z : i = j
  · subst z
    rw [List.getElem?_set] at e2
    split at e2
    · split at e2
      · cases e2; exact .inr n
      · cases e2
    · contradiction
  · rw [List.getElem?_set_ne z] at e1 e2
    exact .inl ⟨j, ds', e1, e2⟩
theorem evo_any {ρ ρ' : En} {σ σ' : L2.St} {H : Hp} {is : List Nat} (h : ∀ i, i ∉ is → σ'[i]? = σ[i]? ∧ ρ'[i]? = ρ[i]?) (h2 : ∀ i ds, i ∈ is → ρ'[i]? ≠ some (.ow ds)) : Evo ρ σ H ρ' σ' H := by
  refine ⟨fun a o q _ => q, fun a ⟨j, ds, e1, e2⟩ => ?_, Kp.refl H⟩
  by_cases hj : j ∈ is
  · exact absurd e1 (h2 j ds hj)
  · obtain ⟨q1, q2⟩ := h j hj
    rw [q1] at e2
    rw [q2] at e1
    exact .inl ⟨j, ds, e1, e2⟩
/-! ### statements -/
structure Po where
  nx : En → Prop
  rt : D → Prop
  bk : En → Prop := fun _ => False
  ct : En → Prop := fun _ => False
structure Cont (K : PySem.W.Frag) (ρ : En) (σ : L2.St) (H : Hp) (P : Po) (E : Ends) : Prop where
  nx : ∀ σ' H' ρ', Env K H' σ' ρ' → Evo ρ σ H ρ' σ' H' → P.nx ρ' → E.nx σ' H'
  rt : ∀ v σ' H' ρ' d, Evo ρ σ H ρ' σ' H' → Dq K H' v d → P.rt d → E.rt v H'
  bk : ∀ σ' H' ρ', Env K H' σ' ρ' → Evo ρ σ H ρ' σ' H' → P.bk ρ' → E.bk σ' H'
  ct : ∀ σ' H' ρ', Env K H' σ' ρ' → Evo ρ σ H ρ' σ' H' → P.ct ρ' → E.ct σ' H'
theorem Cont.on {K : PySem.W.Frag} {ρ ρ1 : En} {σ σ1 : L2.St} {H H1 : Hp} {P : Po} {E : Ends} (c : Cont K ρ σ H P E) (e : Evo ρ σ H ρ1 σ1 H1) : Cont K ρ1 σ1 H1 P E :=
  ⟨fun σ' H' ρ' h1 h2 h3 => c.nx σ' H' ρ' h1 (e.trans h2) h3, fun v σ' H' ρ' d h1 h2 h3 => c.rt v σ' H' ρ' d (e.trans h1) h2 h3, fun σ' H' ρ' h1 h2 h3 => c.bk σ' H' ρ' h1 (e.trans h2) h3, fun σ' H' ρ' h1 h2 h3 => c.ct σ' H' ρ' h1 (e.trans h2) h3⟩
def wS (X : Cx) (st : Stmt) : TS := fun E σ H => ∃ t, PS X st t ∧ t E σ H
def wB (X : Cx) (st : List Stmt) : TS := fun E σ H => ∃ t, PSs X st t ∧ t E σ H
theorem ps_w {X : Cx} {st : Stmt} : PS X st (wS X st) := ⟨fun pins s σ H E I ⟨_, p, h⟩ => p.run pins s σ H E I h⟩
theorem pss_w {X : Cx} {st : List Stmt} : PSs X st (wB X st) := ⟨fun pins s σ H E I ⟨_, p, h⟩ => p.run pins s σ H E I h⟩
def GoodS (T : Ct) (X : Cx) : Prop := Good T X ∧ PassesOwn (model X.prog X.w) X.A X.env X.xe ∧ (X.stack = X.env :: X.outer ∧ X.env.frame = some X.env.locals)
def SS (T : Ct) (st : Stmt) (W : Po → En → Prop) : Prop :=
  ∀ X, GoodS T X → ∀ (σ : L2.St) (H : Hp) (ρ : En) (P : Po) (E : Ends), Env T.K H σ ρ → W P ρ → Cont T.K ρ σ H P E → wS X st E σ H
def SB (T : Ct) (st : List Stmt) (W : Po → En → Prop) : Prop :=
  ∀ X, GoodS T X → ∀ (σ : L2.St) (H : Hp) (ρ : En) (P : Po) (E : Ends), Env T.K H σ ρ → W P ρ → Cont T.K ρ σ H P E → wB X st E σ H
section
variable {T : Ct} {a b c tg iter : Expr} {ga gb gc : En → Option D} {pos : Pos}
def wNil : Po → En → Prop := fun P ρ => P.nx ρ
def wCons (U V : Po → En → Prop) : Po → En → Prop := fun P ρ => U { P with nx := V P } ρ
theorem sb_nil : SB T [] wNil := fun X G σ H ρ P E env h c => ⟨_, pss_nil, c.nx σ H ρ env (Evo.refl _ _ _) h⟩
theorem sb_cons {st : Stmt} {r : List Stmt} {U V : Po → En → Prop} (h1 : SS T st U) (h2 : SB T r V) : SB T (st :: r) (wCons U V) := by
  intro X G σ H ρ P E env h c
  refine ⟨_, pss_cons ps_w pss_w, ?_⟩
  refine h1 X G σ H ρ { P with nx := V P } { E with nx := wB X r E } env h ⟨fun σ' H' ρ' e1 e2 e3 => ?_, c.rt, c.bk, c.ct⟩
  exact h2 X G σ' H' ρ' P E e1 e3 (c.on e2)
def wSet (i : Nat) (g : En → Option D) : Po → En → Prop := fun P ρ => ∃ d, g ρ = some d ∧ P.nx (ρ.set i (.im d))
theorem ss_set (i : Nat) {x : Str} {px : Pos} (he : SE T a ga) (hN : T.N[i]? = some x) (hx : locB T x = true) (hs : ∀ env, swapsWith a (some (.Name x px)) pos.line env = pure false := by intro _; rfl) : SS T (.Assign [.Name x px] a pos) (wSet i ga) := by
  intro X G σ H ρ P E env h c
  obtain ⟨d, h1, h2⟩ := h
  obtain ⟨l1, l2⟩ := loc_of G.1 hx
  refine ⟨_, ps_set (i := i) (by rw [G.1.hN]; exact G.1.nd) (by rw [G.1.hN]; exact hN) l1 pe_w (hs X.env) l2, ?_⟩
  refine he X G.1 σ H ρ d env h1 _ fun v H1 s1 d1 => ?_
  exact c.nx _ H1 _ ((env.mono s1).set i d1) ((evo_same s1).trans (evo_set i fun ds z => nomatch z)) h2
def wSetL (i : Nat) (g : En → Option (List D)) : Po → En → Prop := fun P ρ => ∃ ds, g ρ = some ds ∧ P.nx (ρ.set i (.ow ds))
theorem ss_setL (i : Nat) {x : Str} {px : Pos} {gl : En → Option (List D)} (he : SL T a gl) (hN : T.N[i]? = some x) (hx : locB T x = true) (hs : ∀ env, swapsWith a (some (.Name x px)) pos.line env = pure false := by intro _; rfl) : SS T (.Assign [.Name x px] a pos) (wSetL i gl) := by
  intro X G σ H ρ P E env h c
  obtain ⟨d, h1, h2⟩ := h
  obtain ⟨l1, l2⟩ := loc_of G.1 hx
  refine ⟨_, ps_set (i := i) (by rw [G.1.hN]; exact G.1.nd) (by rw [G.1.hN]; exact hN) l1 pe_w (hs X.env) l2, ?_⟩
  refine he X G.1 σ H ρ d env h1 _ fun p xs H1 n s1 e1 d1 => ?_
  exact c.nx _ H1 _ ((env.mono s1).setL i e1 d1) (evo_new i n s1) h2
def wRet (g : En → Option D) : Po → En → Prop := fun P ρ => ∃ d, g ρ = some d ∧ P.rt d
theorem ss_ret (he : SE T a ga) : SS T (.Return (some a) pos) (wRet ga) := by
  intro X G σ H ρ P E env h c
  obtain ⟨d, h1, h2⟩ := h
  refine ⟨_, ps_ret pe_w, ?_⟩
  exact he X G.1 σ H ρ d env h1 _ fun v H1 s1 d1 => c.rt v σ H1 ρ d (evo_same s1) d1 h2
def wIf (g : En → Option Bool) (U V : Po → En → Prop) : Po → En → Prop := fun P ρ => ∃ k, g ρ = some k ∧ (k = true → U P ρ) ∧ (k = false → V P ρ)
theorem ss_if {tt : En → Option Bool} {u v : List Stmt} {U V : Po → En → Prop} (ht : ST T c tt) (hu : SB T u U) (hv : SB T v V) : SS T (.If c u v pos) (wIf tt U V) := by
  intro X G σ H ρ P E env h k
  obtain ⟨b, h1, h2, h3⟩ := h
  refine ⟨_, ps_if pt_w pss_w pss_w, ?_⟩
  refine ht X G.1 σ H ρ b env h1 _ fun H1 s1 => ?_
  cases b with
  | true =>
    rw [if_pos rfl]
    exact hu X G σ H1 ρ P E (env.mono s1) (h2 rfl) (k.on (evo_same s1))
  | false =>
    rw [if_neg Bool.false_ne_true]
    exact hv X G σ H1 ρ P E (env.mono s1) (h3 rfl) (k.on (evo_same s1))
def wFor (gi : En → Option (List D)) (set : D → En → Option En) (U : Po → En → Prop) : Po → En → Prop := fun P ρ => ∃ ds, gi ρ = some ds ∧ (noOw ρ || lfA ds) = true ∧ ∃ Iv : Nat → En → Prop, Iv 0 ρ ∧
  (∀ i d ρ1, ds[i]? = some d → Iv i ρ1 → ∃ ρ2, set d ρ1 = some ρ2 ∧ U { nx := Iv (i + 1), rt := P.rt, bk := P.nx, ct := Iv (i + 1) } ρ2) ∧ ∀ ρ1, Iv ds.length ρ1 → P.nx ρ1
theorem ss_for {is : List Nat} {set : D → En → Option En} {gi : En → Option (List D)} {u : List Stmt} {U : Po → En → Prop} (hi : SI T tg iter gi) (hg : SG T tg is set) (hu : SB T u U) (hs : ∀ env x, foldedSetIterable iter env x = pure x := by intro _ _; rfl) (hmd : T.md = none := by rfl) : SS T (.For tg iter u [] pos) (wFor gi set U) := by
  intro X G σ H ρ P E env h k
  obtain ⟨ds, h1, hlf, Iv, i0, turn, fin⟩ := h
  refine ⟨_, ps_for G.2.1 (G.1.calm hmd) pi_w pg_w pss_w (hs X.env), ?_⟩
  refine hi X G.1 σ H ρ ds env h1 _ fun J H1 ad Gp Y s1 wk stab nl item => ?_
  have stay : ∀ {ρ1 : En} {σ1 : L2.St} {H2 : Hp}, Evo ρ σ H1 ρ1 σ1 H2 → Gp H2 ∧ (Same H1 H2 ∨ (lfA ds = true ∧ Kp H1 H2)) := fun {ρ1 σ1 H2} ev => by
    refine ⟨stab H2 fun o ho => ?_, ?_⟩
    · rcases nl with nl | nl | nl
      · exact ev.kp ad o ho fun xs z => nl xs (by rw [ho, z])
      · refine ev.keep ad o ho ?_
        rintro ⟨i, es, e1, e2⟩
        obtain ⟨p, xs, e3, e4, _⟩ := env.at_ i _ _ e1 e2
        cases e3
        rw [nl] at e4
        cases e4
      · exact ev.same nl ad o ho
    · rcases Bool.or_eq_true_iff.mp hlf with z | z
      · exact .inl (ev.same z)
      · exact .inr ⟨z, ev.kp⟩
  refine for_it wk (fun i σ1 H2 => ∃ ρ1, Env T.K H2 σ1 ρ1 ∧ Evo ρ σ H1 ρ1 σ1 H2 ∧ Iv i ρ1) ⟨ρ, env.mono s1, Evo.refl _ _ _, i0⟩ (fun i σ1 H2 _ ⟨ρ1, _, ev, _⟩ => (stay ev).1) (fun i x σ1 Ha Hb hlt p y => ?_) fun σ1 H2 ⟨ρ1, e1, ev, iv⟩ => ?_
  · obtain ⟨ρ1, e1, ev, iv⟩ := p
    obtain ⟨gp, kp⟩ := stay ev
    obtain ⟨sab, d, hd, hx⟩ := item i Ha x Hb hlt gp kp y
    obtain ⟨ρ2, es, hU⟩ := turn i d ρ1 hd iv
    have ev2 := ev.trans (evo_same (ρ := ρ1) (σ := σ1) sab)
    refine hg X G.1 σ1 Hb ρ1 x d ρ2 (e1.mono sab) hx es _ fun σ2 env2 _ q1 q2 => ?_
    have ev3 := ev2.trans (evo_any (H := Hb) q1 q2)
    refine hu X G σ2 Hb ρ2 _ _ env2 hU ⟨fun σ' H' ρ' h1 h2 h3 => ⟨ρ', h1, ev3.trans h2, h3⟩, fun v σ' H' ρ' d' h1 h2 h3 => k.rt v σ' H' ρ' d' ((evo_same s1).trans (ev3.trans h1)) h2 h3, fun σ' H' ρ' h1 h2 h3 => k.nx σ' H' ρ' h1 ((evo_same s1).trans (ev3.trans h2)) h3, fun σ' H' ρ' h1 h2 h3 => ⟨ρ', h1, ev3.trans h2, h3⟩⟩
  · exact k.nx σ1 H2 ρ1 e1 ((evo_same s1).trans ev) (fin ρ1 iv)
def wWhile (g : En → Option Bool) (U : Po → En → Prop) : Po → En → Prop := fun P ρ => ∃ Iv : Nat → En → Prop, (∃ n, Iv n ρ) ∧ ∀ n ρ1, Iv n ρ1 → ∃ b, g ρ1 = some b ∧ (b = true → U { nx := fun ρ2 => ∃ m, m < n ∧ Iv m ρ2, rt := P.rt, bk := P.nx, ct := fun ρ2 => ∃ m, m < n ∧ Iv m ρ2 } ρ1) ∧ (b = false → P.nx ρ1)
theorem ss_while {tt : En → Option Bool} {u : List Stmt} {U : Po → En → Prop} (ht : ST T c tt) (hu : SB T u U) : SS T (.While c u [] pos) (wWhile tt U) := by
  intro X G σ H ρ P E env h k
  obtain ⟨Iv, ⟨n0, i0⟩, turn⟩ := h
  refine ⟨_, ps_while G.2.1 pt_w pss_w, ?_⟩
  refine ⟨fun n σ1 H2 => ∃ ρ1, Env T.K H2 σ1 ρ1 ∧ Evo ρ σ H ρ1 σ1 H2 ∧ Iv n ρ1, ⟨n0, ρ, env, Evo.refl _ _ _, i0⟩, fun n σ1 H2 ⟨ρ1, e1, ev, iv⟩ => ?_⟩
  obtain ⟨b, hb, h1, h2⟩ := turn n ρ1 iv
  refine ht X G.1 σ1 H2 ρ1 b e1 hb _ fun H3 s3 => ?_
  have ev3 := ev.trans (evo_same (ρ := ρ1) (σ := σ1) s3)
  cases b with
  | true =>
    rw [if_pos rfl]
    refine ⟨fun σ' H' => ∃ m, m < n ∧ ∃ ρ2, Env T.K H' σ' ρ2 ∧ Evo ρ σ H ρ2 σ' H' ∧ Iv m ρ2, fun σ' H' z => z, ?_⟩
    refine hu X G σ1 H3 ρ1 _ _ (e1.mono s3) (h1 rfl) ⟨fun σ' H' ρ' q1 q2 ⟨m, hm, q3⟩ => ⟨m, hm, ρ', q1, ev3.trans q2, q3⟩, fun v σ' H' ρ' d' q1 q2 q3 => k.rt v σ' H' ρ' d' (ev3.trans q1) q2 q3, fun σ' H' ρ' q1 q2 q3 => k.nx σ' H' ρ' q1 (ev3.trans q2) q3, fun σ' H' ρ' q1 q2 ⟨m, hm, q3⟩ => ⟨m, hm, ρ', q1, ev3.trans q2, q3⟩⟩
  | false =>
    rw [if_neg Bool.false_ne_true]
    exact k.nx σ1 H3 ρ1 (e1.mono s3) ev3 (h2 rfl)
def wSkip : Po → En → Prop := fun P ρ => P.nx ρ
theorem ss_pass : SS T (.Pass pos) wSkip := fun X G σ H ρ P E env h c => ⟨_, ps_pass, c.nx σ H ρ env (Evo.refl _ _ _) h⟩
def wBrk : Po → En → Prop := fun P ρ => P.bk ρ
theorem ss_break : SS T (.Break pos) wBrk := fun X G σ H ρ P E env h c => ⟨_, ps_break, c.bk σ H ρ env (Evo.refl _ _ _) h⟩
/-- a, b = e; a, b, c = e -/
def wAsg (g : En → Option D) (set : D → En → Option En) : Po → En → Prop := fun P ρ => ∃ d ρ', g ρ = some d ∧ set d ρ = some ρ' ∧ P.nx ρ'
theorem ss_asg {is : List Nat} {set : D → En → Option En} (he : SE T a ga) (hg : SG T tg is set) (hs : ∀ env, swapsWithSole [tg] a pos.line env = pure false := by intro _; rfl) (hw : ∀ env, swappedStores [tg] a env = pure none := by intro _; rfl) (h1 : ∀ env, (assignEach [tg] env).map (·.2) = [assign tg env] := by intro _; rfl) : SS T (.Assign [tg] a pos) (wAsg ga set) := by
  intro X G σ H ρ P E env h c
  obtain ⟨d, ρ', e1, e2, h⟩ := h
  refine ⟨_, ps_asg pe_w pg_w (hs X.env) (hw X.env) (h1 X.env), ?_⟩
  refine he X G.1 σ H ρ d env e1 _ fun v H1 s1 d1 => ?_
  refine hg X G.1 σ H1 ρ v d ρ' (env.mono s1) d1 e2 _ fun σ' env' _ q1 q2 => ?_
  exact c.nx σ' H1 ρ' env' ((evo_same s1).trans (evo_any q1 q2)) h
def set3 (i j k : Nat) (d : D) (ρ : En) : Option En := match d with
  | .tup [x, y, z] => some (((ρ.set i (.im x)).set j (.im y)).set k (.im z))
  | _ => none
theorem im_notow {ρ : En} {i l : Nat} {x : D} {ds : List D} (h : l = i ∨ ρ[l]? ≠ some (.ow ds)) : (ρ.set i (.im x))[l]? ≠ some (.ow ds) := by
  rw [List.getElem?_set]
  split
  · split <;> (intro z; cases z)
  · rename_i n
    rcases h with h | h
    · exact absurd h.symm n
    · exact h
theorem sg3 (i j k : Nat) {x y z : Str} {px py pz pos : Pos} {n : Nat} (hN : T.N[i]? = some x) (hx : locB T x = true) (hN2 : T.N[j]? = some y) (hy : locB T y = true) (hN3 : T.N[k]? = some z) (hz : locB T z = true) (hmd : T.md = none := by rfl) : SG T (.Tuple [.Name x px, .Name y py, .Name z pz] n pos) [i, j, k] (set3 i j k) := by
  intro X G σ H ρ v d ρ' env dv hs Q q
  unfold set3 at hs
  split at hs
  · cases hs
    obtain ⟨h1, h2⟩ := loc_of G hx
    obtain ⟨h3, h4⟩ := loc_of G hy
    obtain ⟨h5, h6⟩ := loc_of G hz
    cases dv with
    | tup q1 q2 =>
      cases q2 with
      | @cons v1 vs _ _ e1 q2 =>
        obtain ⟨v2, v3, rfl, e2, e3⟩ := dqa2 q2
        refine ⟨_, pg_tup (G.calm hmd) (pgs_cons (pg_name (i := i) (by rw [G.hN]; exact G.nd) (by rw [G.hN]; exact hN) h1 h2) (pgs_cons (pg_name (i := j) (by rw [G.hN]; exact G.nd) (by rw [G.hN]; exact hN2) h3 h4) (pgs_cons (pg_name (i := k) (by rw [G.hN]; exact G.nd) (by rw [G.hN]; exact hN3) h5 h6) pgs_nil))) rfl rfl, ?_⟩
        refine ⟨_, _, rfl, by rw [G.hK]; exact q1, rfl, v1, [v2, v3], rfl, v2, [v3], rfl, v3, [], rfl, rfl, ?_⟩
        refine q _ (((env.set i e1).set j e2).set k e3) (fun vs hv => ?_) (fun l hl => ?_) fun l ds hl => ?_
        · rw [wipe_set (hv k (by simp)), wipe_set (hv j (by simp)), wipe_set (hv i (by simp))]
        · have n1 : i ≠ l := fun z => hl (by simp [z])
          have n2 : j ≠ l := fun z => hl (by simp [z])
          have n3 : k ≠ l := fun z => hl (by simp [z])
          exact ⟨by rw [List.getElem?_set_ne n3, List.getElem?_set_ne n2, List.getElem?_set_ne n1], by rw [List.getElem?_set_ne n3, List.getElem?_set_ne n2, List.getElem?_set_ne n1]⟩
        · by_cases z1 : l = k
          · exact im_notow (.inl z1)
          by_cases z2 : l = j
          · exact im_notow (.inr (im_notow (.inl z2)))
          have z3 : l = i := by
            rcases List.mem_cons.mp hl with z | z
            · exact z
            · rcases List.mem_cons.mp z with z | z
              · exact absurd z z2
              · exact absurd (List.mem_singleton.mp z) z1
          exact im_notow (.inr (im_notow (.inr (im_notow (.inl z3)))))
  · cases hs
/-- a, b = e1, e2, plain names -/
def wPar (i j : Nat) (g : En → Option (List D)) : Po → En → Prop := fun P ρ => ∃ x y, g ρ = some [x, y] ∧ P.nx ((ρ.set i (.im x)).set j (.im y))
theorem ss_par (i j : Nat) {x y : Str} {px py pt pt2 : Pos} {kt k2 : Nat} {g : En → Option (List D)} (ha : SA T [a, b] g) (hN : T.N[i]? = some x) (hN2 : T.N[j]? = some y) (hij : i ≠ j) (hx : T.sc.names.lookup x = some .local) (hy : T.sc.names.lookup y = some .local)
    (hw : ∀ env : PySem.Env, env.scope = T.sc → swappedStores [.Tuple [.Name x px, .Name y py] kt pt] (.Tuple [a, b] k2 pt2) env = pure (some [x, y])) (hs : ∀ env, swapsWithSole [.Tuple [.Name x px, .Name y py] kt pt] (.Tuple [a, b] k2 pt2) pos.line env = pure false := by intro _; rfl) (hmd : T.md = none := by rfl) :
    SS T (.Assign [.Tuple [.Name x px, .Name y py] kt pt] (.Tuple [a, b] k2 pt2) pos) (wPar i j g) := by
  intro X G σ H ρ P E env h c
  obtain ⟨d, e, h1, h2⟩ := h
  refine ⟨_, ps_par (i := i) (j := j) (G.1.calm hmd) (by rw [G.1.hN]; exact G.1.nd) (by rw [G.1.hN]; exact hN) (by rw [G.1.hN]; exact hN2) hij (by rw [G.1.hs]; exact hx) (by rw [G.1.hs]; exact hy) pa_w (hw X.env G.1.hs) (hs X.env), ?_⟩
  refine ha X G.1 σ H ρ _ env h1 _ fun vs H1 s1 d1 => ?_
  obtain ⟨v, u, rfl, d2, d3⟩ := dqa2 d1
  refine ⟨v, u, rfl, ?_⟩
  exact c.nx _ H1 _ (((env.mono s1).set i d2).set j d3) ((evo_same s1).trans ((evo_set (s := .im d) i (im_ne d)).trans (evo_set (s := .im e) j (im_ne e)))) h2
/-! ### an owned list changed -/
def othLf (ρ : En) (i : Nat) : Bool := (ρ.set i .un).all fun s => match s with
  | .un => true
  | .im d => lf d
  | .ow _ => false
  | .ex _ => true
theorem env_ch {K : PySem.W.Frag} {H : Hp} {σ : L2.St} {ρ : En} {i : Nat} {p : Addr} {ds ds' : List D} {xs xs' : List V} (env : Env K H σ ρ) (hr : ρ[i]? = some (.ow ds)) (hs : σ[i]? = some (some (.ref p))) (hp : H p = some (.lst xs)) (ho : othLf ρ i = true) (hd : DqA K (upd H p (.lst xs')) xs' ds') : Env K (upd H p (.lst xs')) σ (ρ.set i (.ow ds')) := by
  refine ⟨by rw [List.length_set]; exact env.len, fun j s ov e1 e2 => ?_⟩
  by_cases z : i = j
  · subst z
    have hi : i < ρ.length := (List.getElem?_eq_some_iff.mp hr).1
    rw [List.getElem?_set_self hi] at e1
    cases e1
    rw [hs] at e2
    cases e2
    exact ⟨p, xs', rfl, upd_same, hd⟩
  · rw [List.getElem?_set_ne z] at e1
    have q := env.at_ j s ov e1 e2
    unfold othLf at ho
    rw [List.all_eq_true] at ho
    have l := ho s (List.mem_of_getElem? (i := j) (by rw [List.getElem?_set_ne z]; exact e1))
    cases s with
    | un => trivial
    | im d =>
      obtain ⟨v, rfl, q⟩ := q
      exact ⟨v, rfl, q.kp (kp_upd hp) _ _ l⟩
    | ow es => cases l
    | ex a => exact q
theorem evo_ch {ρ : En} {σ : L2.St} {H : Hp} {i : Nat} {p : Addr} {ds ds' : List D} {xs : List V} {o : HO} (hr : ρ[i]? = some (.ow ds)) (hs : σ[i]? = some (some (.ref p))) (hp : H p = some (.lst xs)) : Evo ρ σ H (ρ.set i (.ow ds')) σ (upd H p o) := by
  refine ⟨fun a u h n => ?_, fun a ⟨j, es, e1, e2⟩ => ?_, kp_upd hp⟩
  · rw [upd_ne fun z => n (by rw [z]; exact ⟨i, ds, hr, hs⟩)]
    exact h
  · by_cases z : i = j
    · subst z
      exact .inl ⟨i, ds, hr, e2⟩
    · rw [List.getElem?_set_ne z] at e1
      exact .inl ⟨j, es, e1, e2⟩
theorem Env.owned {K : PySem.W.Frag} {H : Hp} {σ : L2.St} {ρ : En} (env : Env K H σ ρ) {i : Nat} {ds : List D} (hr : ρ[i]? = some (.ow ds)) : ∃ p xs, σ[i]? = some (some (.ref p)) ∧ H p = some (.lst xs) ∧ DqA K H xs ds := by
  have hi : i < σ.length := by rw [env.len]; exact (List.getElem?_eq_some_iff.mp hr).1
  obtain ⟨p, xs, e1, e2, e3⟩ := env.at_ i _ σ[i] hr (List.getElem?_eq_getElem hi)
  exact ⟨p, xs, by rw [List.getElem?_eq_getElem hi, e1], e2, e3⟩
/-- x[i] = e -/
def wIx (i : Nat) (gi ge : En → Option D) : Po → En → Prop := fun P ρ => ∃ ds k j d, ge ρ = some d ∧ ρ[i]? = some (.ow ds) ∧ gi ρ = some (.int k) ∧ ixN ds.length k = some j ∧ lf d = true ∧ lfA ds = true ∧ othLf ρ i = true ∧ P.nx (ρ.set i (.ow (ds.set j d)))
theorem ss_ix (i : Nat) {x : Str} {px ps : Pos} {gi ge : En → Option D} (hN : T.N[i]? = some x) (hv : visB T.sc x = true) (hi : SE T b gi) (he : SE T a ge)
    (ha : ∀ env v, assign (.Subscript (.Name x px) b ps) env v = (do
      let ov ← holding [v] (eval (.Name x px) env)
      let iv ← holding [v, ov] (eval b env)
      standAt ps
      holding [v, ov, iv] (setItem ov iv v)
      release [v, ov, iv] []) := by intro _ _; rfl)
    (hs : ∀ env, swapsWithSole [.Subscript (.Name x px) b ps] a pos.line env = pure false := by intro _; rfl) (hw : ∀ env, swappedStores [.Subscript (.Name x px) b ps] a env = pure none := by intro _; rfl) (h1 : ∀ env, (assignEach [.Subscript (.Name x px) b ps] env).map (·.2) = [assign (.Subscript (.Name x px) b ps) env] := by intro _; rfl)
    (hd : (x == ("__debug__" : Str)) = false := by decide) (hcd : (x == ("__classdict__" : Str)) = false := by decide) : SS T (.Assign [.Subscript (.Name x px) b ps] a pos) (wIx i gi ge) := by
  intro X G σ H ρ P E env h c
  obtain ⟨ds, k, j, d, q0, hr, q1, q2, l1, l2, l3, h⟩ := h
  obtain ⟨p, xs, e1, e2, e3⟩ := env.owned hr
  refine ⟨_, ps_asg pe_w (pg_sub (pe_var (i := i) (by rw [G.1.hN]; exact hN) (by rw [G.1.hs]; exact vis_of hv) hd hcd) pe_w set_list (ha X.env)) (hs X.env) (hw X.env) (h1 X.env), ?_⟩
  refine he X G.1 σ H ρ d env q0 _ fun v H1 s1 d1 => ?_
  refine ⟨.ref p, e1, ?_⟩
  refine hi X G.1 σ H1 ρ _ (env.mono s1) q1 _ fun u H2 s2 d2 => ?_
  cases d2
  have hp2 := s2 _ _ (s1 _ _ e2)
  have e3 := (e3.mono s1).mono s2
  refine ⟨p, xs, k, j, rfl, rfl, hp2, by rw [e3.length]; exact q2, ?_⟩
  have kp := kp_upd (o := .lst (xs.set j v)) hp2
  exact c.nx σ _ _ (env_ch (env.mono (s1.trans s2)) hr e1 hp2 l3 ((e3.kp kp _ _ l2).set j ((d1.mono s2).kp kp _ _ l1))) ((evo_same (s1.trans s2)).trans (evo_ch hr e1 hp2)) h
/-- x.append(e) -/
def wApp (i : Nat) (ge : En → Option D) : Po → En → Prop := fun P ρ => ∃ ds d, ρ[i]? = some (.ow ds) ∧ ge ρ = some d ∧ ds.length < 1000000 ∧ lf d = true ∧ lfA ds = true ∧ othLf ρ i = true ∧ P.nx (ρ.set i (.ow (ds ++ [d])))
theorem ss_app (i : Nat) {x : Str} {px ap cp : Pos} {ge : En → Option D} (hN : T.N[i]? = some x) (hv : visB T.sc x = true) (he : SE T a ge) (hline : (ap.endLine == cp.line) = true := by rfl)
    (hbase : ∀ env, attributeBase (.Name x px) "append" env (eval (.Name x px) env) = eval (.Name x px) env := by intro _; rfl)
    (hfew : ∀ env, ((backTo cp (starEach [a] env)).all (fun x => !x.1) && (backToKw cp (keywordEach [] env)).all (fun x => x.1.isSome)
      && decide ([a].length + ([] : List Keyword).length + (if ([] : List Keyword).isEmpty then 0 else 1) < 30)) = true := by intro _; rfl) (hst : ∀ env, starEach [a] env = (false, eval a env) :: starEach [] env := by intro _; rfl)
    (hsw : ∀ env, swapsWith (.Call (.Attribute (.Name x px) "append" ap) [a] [] cp) none pos.line env = pure false := by intro _; rfl)
    (hd : (x == ("__debug__" : Str)) = false := by decide) (hcd : (x == ("__classdict__" : Str)) = false := by decide) : SS T (.Expr (.Call (.Attribute (.Name x px) "append" ap) [a] [] cp) pos) (wApp i ge) := by
  intro X G σ H ρ P E env h c
  obtain ⟨ds, d, hr, q0, hz, l1, l2, l3, h⟩ := h
  obtain ⟨p, xs, e1, e2, e3⟩ := env.owned hr
  refine ⟨_, ps_expr (pe_bm PySem.F.plainAttrs_list PySem.F.slot_list_append PySem.F.type_list_append mt_append (pe_var (i := i) (by rw [G.1.hN]; exact hN) (by rw [G.1.hs]; exact vis_of hv) hd hcd) (pa_cons pe_w pa_nil (hst X.env)) (hbase X.env) (hfew X.env) hline (hst X.env) rfl) (hsw X.env), ?_⟩
  refine ⟨.ref p, e1, .inl ⟨rfl, xs, SqL.of e2⟩, ?_⟩
  refine he X G.1 σ H ρ d env q0 _ fun v H1 s1 d1 => ?_
  have hp := s1 _ _ e2
  have e3 := e3.mono s1
  refine ⟨p, xs, v, rfl, rfl, hp, by rw [e3.length]; exact Nat.lt_of_lt_of_le hz (by decide), ?_⟩
  have kp := kp_upd (o := .lst (xs ++ [v])) hp
  exact c.nx σ _ _ (env_ch (env.mono s1) hr e1 hp l3 ((e3.kp kp _ _ l2).append (.cons (d1.kp kp _ _ l1) .nil))) ((evo_same s1).trans (evo_ch hr e1 hp)) h
/-- x.pop() -/
def wPop (i : Nat) : Po → En → Prop := fun P ρ => ∃ ds, ρ[i]? = some (.ow ds) ∧ ds ≠ [] ∧ lfA ds = true ∧ othLf ρ i = true ∧ P.nx (ρ.set i (.ow ds.dropLast))
theorem DqA.dropLast {K : PySem.W.Frag} {H : Hp} {xs : List V} {ds : List D} (h : DqA K H xs ds) : DqA K H xs.dropLast ds.dropLast := by
  rw [List.dropLast_eq_take, List.dropLast_eq_take, h.length]
  exact h.take _
theorem ss_pop (i : Nat) {x : Str} {px ap cp : Pos} (hN : T.N[i]? = some x) (hv : visB T.sc x = true) (hline : (ap.endLine == cp.line) = true := by rfl)
    (hbase : ∀ env, attributeBase (.Name x px) "pop" env (eval (.Name x px) env) = eval (.Name x px) env := by intro _; rfl)
    (hsw : ∀ env, swapsWith (.Call (.Attribute (.Name x px) "pop" ap) [] [] cp) none pos.line env = pure false := by intro _; rfl)
    (hd : (x == ("__debug__" : Str)) = false := by decide) (hcd : (x == ("__classdict__" : Str)) = false := by decide) : SS T (.Expr (.Call (.Attribute (.Name x px) "pop" ap) [] [] cp) pos) (wPop i) := by
  intro X G σ H ρ P E env h c
  obtain ⟨ds, hr, hne, l2, l3, h⟩ := h
  obtain ⟨p, xs, e1, e2, e3⟩ := env.owned hr
  have hlen := e3.length
  have pos' : 0 < ds.length := List.length_pos_iff.mpr hne
  refine ⟨_, ps_expr (pe_bm0 PySem.F.plainAttrs_list PySem.F.slot_list_pop PySem.F.type_list_pop mt_pop (pe_var (i := i) (by rw [G.1.hN]; exact hN) (by rw [G.1.hs]; exact vis_of hv) hd hcd) (hbase X.env) hline) (hsw X.env), ?_⟩
  refine ⟨.ref p, e1, .inl ⟨rfl, xs, SqL.of e2⟩, p, xs, xs[xs.length - 1]'(by omega), rfl, rfl, e2, List.getElem?_eq_getElem _, ?_⟩
  have kp := kp_upd (o := .lst xs.dropLast) e2
  exact c.nx σ _ _ (env_ch env hr e1 e2 l3 ((e3.kp kp _ _ l2).dropLast)) (evo_ch hr e1 e2) h
end
end Pf

set_option Elab.async false
set_option linter.all false
set_option maxRecDepth 100000
set_option maxHeartbeats 2000000
/-! Pf7: defs; more rules. -/
namespace Pf
open PySem PySem.Spec L2
section
variable {T : Ct} {a b c tg iter : Expr} {ga gb gc : En → Option D} {pos : Pos}
/-- y = [comprehension], y a plain local -/
theorem ss_setLc (i : Nat) {y : Str} {py : Pos} {elt : Expr} {ifs : List Expr} {scope : Scope} {own : List (Str × Nat)} {is : List Nat} {set : D → En → Option En} {gi : En → Option (List D)} {gt : En → Option Bool} {ge : En → Option D} {lpos : Pos}
    (hi : SI T tg iter gi) (ok : blkC T.N T.sc scope own = true) (hg : SG (T.blk scope) tg is set) (his : ∀ j ∈ is, j ∈ own.map (·.2)) (ht : SPt (T.blk scope) ifs gt) (he : SE (T.blk scope) elt ge)
    (hN : T.N[i]? = some y) (hyl : T.sc.names.lookup y = some .local) (hk : T.sc.kind = .function) (hl : (py.line == lpos.line) = true) (hno : (scope.names.any fun (n, k) => n == y && (k == .local || k == .cell)) = false)
    (hs : ∀ env x, foldedSetIterable iter env x = pure x := by intro _ _; rfl) (hmd : T.md = none := by rfl) : SS T (.Assign [.Name y py] (.ListComp elt [⟨tg, iter, ifs, 0⟩] scope lpos) pos) (wSetL i (gLc gi (own.map (·.2)) set gt ge)) := by
  intro X G σ H ρ P E env h c
  obtain ⟨ds, h1, h2⟩ := h
  refine ⟨_, ps_setLc (i := i) (own := own) (G.1.calm hmd) (by rw [G.1.hN]; exact G.1.nd) (by rw [G.1.hN]; exact hN) (by rw [G.1.hs]; exact hyl) (sw_true (by rw [G.1.hs]; exact hk) (by rw [G.1.hs]; exact hyl) hl hno) pi_w (blkOk_by (by rw [G.1.hN, G.1.hs]; exact ok)) bG_pg bT_pt bE_pe (hs X.env), ?_⟩
  refine lc_read hi hg his ht he hmd G.1 env h1 fun p xs H' n s e1 e2 => ?_
  exact c.nx _ H' _ ((env.mono s).setL i e1 e2) (evo_new i n s) h2
/-! ### defs -/
def stR (N : List Str) (ds : List D) : En := ds.map .im ++ List.replicate (N.length - ds.length) .un
theorem env_start {K : PySem.W.Frag} {H : Hp} {N : List Str} {vs : List V} {ds : List D} (h : DqA K H vs ds) : Env K H (L2.start N vs) (stR N ds) := by
  have hl := h.length
  refine ⟨by simp [L2.start, stR, hl], fun i s ov e1 e2 => ?_⟩
  unfold L2.start at e2
  unfold stR at e1
  by_cases hi : i < ds.length
  · rw [List.getElem?_append_left (by simpa using hi)] at e1
    rw [List.getElem?_append_left (by simpa [hl] using hi)] at e2
    rw [List.getElem?_map] at e1 e2
    cases q1 : ds[i]? with
    | none => rw [q1] at e1; cases e1
    | some d =>
      rw [q1] at e1
      obtain ⟨v, q2, q3⟩ := h.get q1
      rw [q2] at e2
      cases e1; cases e2
      exact ⟨v, rfl, q3⟩
  · rw [List.getElem?_append_right (by simpa using hi)] at e1
    rw [List.getElem?_replicate] at e1
    split at e1
    · cases e1; trivial
    · cases e1
theorem noOw_start (N : List Str) (ds : List D) : noOw (stR N ds) = true := by
  unfold noOw stR
  rw [List.all_append, Bool.and_eq_true]
  constructor
  · rw [List.all_map, List.all_eq_true]; intro _ _; rfl
  · rw [List.all_eq_true]
    intro s hs
    rw [List.eq_of_mem_replicate hs]
end
section
variable {P : Program} {w : World} {K : PySem.W.Frag} {mg : Str → Option Value} {base : Heap}
abbrev ctx (P : Program) (w : World) (K : PySem.W.Frag) (mg : Str → Option Value) (base : Heap) (k : Nat) (N : List Str) (st : Stmt) : Ct := ⟨P, w, K, mg, base, k, N, defScope st, true, none⟩
/-- what the end knows of a def of the text -/
def Hd (K : PySem.W.Frag) (mg : Str → Option Value) (x : Str) (st : Stmt) (ps : List Str) : Prop := ∃ (f : Addr) (fd : FuncData), Fun K x x st f fd ∧ mg x = some (.ref f) ∧ Binds K fd ps []
/-- .. and what it does -/
def FnT (P : Program) (w : World) (K : PySem.W.Frag) (mg : Str → Option Value) (base : Heap) (k : Nat) (x : Str) (fn : List D → Option D) : Prop :=
  ∃ (f : Addr) (fd : FuncData) (ps : List Str), FnOk P w K mg base CX0 k f fd ps (spD K fn) ∧ mg x = some (.ref f) ∧ PySem.W.keepIn K (.ref f) = true ∧ Binds K fd ps []
theorem FnT.cal {k : Nat} {x : Str} {fn : List D → Option D} (h : FnT P w K mg base k x fn) {lv : Nat} {N : List Str} {sc : Scope} {df : Bool} {md : Option (Cx → Prop)} (hk : k ≤ lv := by first | exact Nat.le_of_ble_eq_true rfl | exact Nat.le_refl _ | assumption) : Callee ⟨P, w, K, mg, base, lv, N, sc, df, md⟩ x fn := by
  obtain ⟨f, fd, ps, F, hm, kp, b⟩ := h
  exact ⟨CX0, k, f, fd, ps, F, hk, hm, kp, b, fun X _ _ => pass0⟩
theorem un_of {k : Nat} {A : Around} (r : Room k A) : A.units + 100 < cLine := by have := r.un; omega
theorem fnok_mk {x : Str} {st : Stmt} {f : Addr} {fd : FuncData} {N ps : List Str} {k : Nat} (F : Fun K x x st f fd) (S : FnScope N ps (defScope st)) (fn : List D → Option D) {W : Po → En → Prop} (hb : SB (ctx P w K mg base k N st) (defBody st) W)
    (hlen : ∀ ds d, fn ds = some d → ds.length = ps.length) (hW : ∀ ds d, fn ds = some d → W { nx := fun _ => d = .non, rt := fun d' => d' = d } (stR N ds)) : FnOk P w K mg base CX0 (k + 1) f fd ps (spD K fn) := by
  refine F.ok S (fun vs H Q E h => ?_) (fun cdv A outer s H vs Q E hr h => ?_)
  · obtain ⟨ds, d, h1, h2, _⟩ := h
    rw [h1.length]
    exact hlen ds d h2
  · obtain ⟨ds, d, h1, h2, q⟩ := h
    have G : GoodS (ctx P w K mg base k N st) (cxOf CX0 P w K mg base N x (defScope st) f cdv A outer s H E).nox := ⟨⟨rfl, rfl, rfl, rfl, rfl, rfl, rfl, fun _ => rfl, S.nd, fun _ _ => rfl, fun _ => hr, un_of hr, fun _ e => (nomatch e)⟩, PassesOwn.never, rfl, rfl⟩
    refine ⟨_, pss_w, hb _ G (L2.start N vs) H (stR N ds) _ _ (env_start h1) (hW ds d h2) ⟨fun σ' H' ρ' _ e3 e4 => ?_, fun v σ' H' ρ' d' e3 e4 e5 => ?_, fun _ _ _ _ _ z => z.elim, fun _ _ _ _ _ z => z.elim⟩⟩
    · have e4 : d = .non := e4
      subst e4
      exact q .non H' (e3.same (noOw_start N ds)) .non
    · have e5 : d' = d := e5
      subst e5
      exact q v H' (e3.same (noOw_start N ds)) e4
theorem fn_mk {x : Str} {st : Stmt} {N ps : List Str} {k : Nat} (h : Hd K mg x st ps) (S : FnScope N ps (defScope st)) (fn : List D → Option D) {W : Po → En → Prop} (hb : SB (ctx P w K mg base k N st) (defBody st) W)
    (hlen : ∀ ds d, fn ds = some d → ds.length = ps.length) (hW : ∀ ds d, fn ds = some d → W { nx := fun _ => d = .non, rt := fun d' => d' = d } (stR N ds)) : FnT P w K mg base (k + 1) x fn := by
  obtain ⟨f, fd, F, hm, b⟩ := h
  exact ⟨f, fd, ps, fnok_mk F S fn hb hlen hW, hm, F.kp, b⟩
end
end Pf

set_option linter.all false
/-! Pf8: functions of data by the kinds of their arguments (printed by genkinds.py). -/
namespace Pf
open PySem PySem.Spec L2
def kCI {α : Type} (g : List Int → Int → Option α) : List D → Option α
  | [.scr x0, .int x1] => g x0 x1
  | _ => none
@[simp] theorem kCI_mk {α : Type} (g : List Int → Int → Option α) (x0 : List Int) (x1 : Int) : kCI g [.scr x0, .int x1] = g x0 x1 := by simp [kCI]
theorem kCI_of {α : Type} {g : List Int → Int → Option α} {ds : List D} {d : α} (h : kCI g ds = some d) : ∃ x0 x1, ds = [.scr x0, .int x1] ∧ g x0 x1 = some d := by
  unfold kCI at h
  split at h
  · rename_i x0 x1
    exact ⟨_, _, rfl, h⟩
  · cases h
def kII {α : Type} (g : Int → Int → Option α) : List D → Option α
  | [.int x0, .int x1] => g x0 x1
  | _ => none
@[simp] theorem kII_mk {α : Type} (g : Int → Int → Option α) (x0 : Int) (x1 : Int) : kII g [.int x0, .int x1] = g x0 x1 := by simp [kII]
theorem kII_of {α : Type} {g : Int → Int → Option α} {ds : List D} {d : α} (h : kII g ds = some d) : ∃ x0 x1, ds = [.int x0, .int x1] ∧ g x0 x1 = some d := by
  unfold kII at h
  split at h
  · rename_i x0 x1
    exact ⟨_, _, rfl, h⟩
  · cases h
def kIII {α : Type} (g : Int → Int → Int → Option α) : List D → Option α
  | [.int x0, .int x1, .int x2] => g x0 x1 x2
  | _ => none
@[simp] theorem kIII_mk {α : Type} (g : Int → Int → Int → Option α) (x0 : Int) (x1 : Int) (x2 : Int) : kIII g [.int x0, .int x1, .int x2] = g x0 x1 x2 := by simp [kIII]
theorem kIII_of {α : Type} {g : Int → Int → Int → Option α} {ds : List D} {d : α} (h : kIII g ds = some d) : ∃ x0 x1 x2, ds = [.int x0, .int x1, .int x2] ∧ g x0 x1 x2 = some d := by
  unfold kIII at h
  split at h
  · rename_i x0 x1 x2
    exact ⟨_, _, _, rfl, h⟩
  · cases h
def kAI {α : Type} (g : D → Int → Option α) : List D → Option α
  | [x0, .int x1] => g x0 x1
  | _ => none
@[simp] theorem kAI_mk {α : Type} (g : D → Int → Option α) (x0 : D) (x1 : Int) : kAI g [x0, .int x1] = g x0 x1 := by simp [kAI]
theorem kAI_of {α : Type} {g : D → Int → Option α} {ds : List D} {d : α} (h : kAI g ds = some d) : ∃ x0 x1, ds = [x0, .int x1] ∧ g x0 x1 = some d := by
  unfold kAI at h
  split at h
  · rename_i x0 x1
    exact ⟨_, _, rfl, h⟩
  · cases h
def kAII {α : Type} (g : D → Int → Int → Option α) : List D → Option α
  | [x0, .int x1, .int x2] => g x0 x1 x2
  | _ => none
@[simp] theorem kAII_mk {α : Type} (g : D → Int → Int → Option α) (x0 : D) (x1 : Int) (x2 : Int) : kAII g [x0, .int x1, .int x2] = g x0 x1 x2 := by simp [kAII]
theorem kAII_of {α : Type} {g : D → Int → Int → Option α} {ds : List D} {d : α} (h : kAII g ds = some d) : ∃ x0 x1 x2, ds = [x0, .int x1, .int x2] ∧ g x0 x1 x2 = some d := by
  unfold kAII at h
  split at h
  · rename_i x0 x1 x2
    exact ⟨_, _, _, rfl, h⟩
  · cases h
def kL {α : Type} (g : List Int → Option α) : List D → Option α
  | [.lst x0] => (dInts x0).bind fun x0 => g x0
  | _ => none
@[simp] theorem kL_mk {α : Type} (g : List Int → Option α) (x0 : List Int) : kL g [lI x0] = g x0 := by simp [kL]
theorem kL_of {α : Type} {g : List Int → Option α} {ds : List D} {d : α} (h : kL g ds = some d) : ∃ x0, ds = [lI x0] ∧ g x0 = some d := by
  unfold kL at h
  split at h
  · rename_i x0
    cases e0 : dInts x0 with
    | none => rw [e0] at h; cases h
    | some y0 =>
    rw [e0] at h
    simp only [Option.bind_some] at h
    have e0 := dInts_some e0
    subst e0
    exact ⟨_, rfl, h⟩
  · cases h
def kTTI {α : Type} (g : List Int → List Int → Int → Option α) : List D → Option α
  | [.tup x0, .tup x1, .int x2] => (dInts x0).bind fun x0 => (dInts x1).bind fun x1 => g x0 x1 x2
  | _ => none
@[simp] theorem kTTI_mk {α : Type} (g : List Int → List Int → Int → Option α) (x0 : List Int) (x1 : List Int) (x2 : Int) : kTTI g [tI x0, tI x1, .int x2] = g x0 x1 x2 := by simp [kTTI]
theorem kTTI_of {α : Type} {g : List Int → List Int → Int → Option α} {ds : List D} {d : α} (h : kTTI g ds = some d) : ∃ x0 x1 x2, ds = [tI x0, tI x1, .int x2] ∧ g x0 x1 x2 = some d := by
  unfold kTTI at h
  split at h
  · rename_i x0 x1 x2
    cases e0 : dInts x0 with
    | none => rw [e0] at h; cases h
    | some y0 =>
    rw [e0] at h
    simp only [Option.bind_some] at h
    have e0 := dInts_some e0
    subst e0
    cases e1 : dInts x1 with
    | none => rw [e1] at h; cases h
    | some y1 =>
    rw [e1] at h
    simp only [Option.bind_some] at h
    have e1 := dInts_some e1
    subst e1
    exact ⟨_, _, _, rfl, h⟩
  · cases h
def kTITII {α : Type} (g : List Int → Int → List Int → Int → Int → Option α) : List D → Option α
  | [.tup x0, .int x1, .tup x2, .int x3, .int x4] => (dInts x0).bind fun x0 => (dInts x2).bind fun x2 => g x0 x1 x2 x3 x4
  | _ => none
@[simp] theorem kTITII_mk {α : Type} (g : List Int → Int → List Int → Int → Int → Option α) (x0 : List Int) (x1 : Int) (x2 : List Int) (x3 : Int) (x4 : Int) : kTITII g [tI x0, .int x1, tI x2, .int x3, .int x4] = g x0 x1 x2 x3 x4 := by simp [kTITII]
theorem kTITII_of {α : Type} {g : List Int → Int → List Int → Int → Int → Option α} {ds : List D} {d : α} (h : kTITII g ds = some d) : ∃ x0 x1 x2 x3 x4, ds = [tI x0, .int x1, tI x2, .int x3, .int x4] ∧ g x0 x1 x2 x3 x4 = some d := by
  unfold kTITII at h
  split at h
  · rename_i x0 x1 x2 x3 x4
    cases e0 : dInts x0 with
    | none => rw [e0] at h; cases h
    | some y0 =>
    rw [e0] at h
    simp only [Option.bind_some] at h
    have e0 := dInts_some e0
    subst e0
    cases e2 : dInts x2 with
    | none => rw [e2] at h; cases h
    | some y2 =>
    rw [e2] at h
    simp only [Option.bind_some] at h
    have e2 := dInts_some e2
    subst e2
    exact ⟨_, _, _, _, _, rfl, h⟩
  · cases h
def kTII {α : Type} (g : List Int → Int → Int → Option α) : List D → Option α
  | [.tup x0, .int x1, .int x2] => (dInts x0).bind fun x0 => g x0 x1 x2
  | _ => none
@[simp] theorem kTII_mk {α : Type} (g : List Int → Int → Int → Option α) (x0 : List Int) (x1 : Int) (x2 : Int) : kTII g [tI x0, .int x1, .int x2] = g x0 x1 x2 := by simp [kTII]
theorem kTII_of {α : Type} {g : List Int → Int → Int → Option α} {ds : List D} {d : α} (h : kTII g ds = some d) : ∃ x0 x1 x2, ds = [tI x0, .int x1, .int x2] ∧ g x0 x1 x2 = some d := by
  unfold kTII at h
  split at h
  · rename_i x0 x1 x2
    cases e0 : dInts x0 with
    | none => rw [e0] at h; cases h
    | some y0 =>
    rw [e0] at h
    simp only [Option.bind_some] at h
    have e0 := dInts_some e0
    subst e0
    exact ⟨_, _, _, rfl, h⟩
  · cases h
def kTI {α : Type} (g : List Int → Int → Option α) : List D → Option α
  | [.tup x0, .int x1] => (dInts x0).bind fun x0 => g x0 x1
  | _ => none
@[simp] theorem kTI_mk {α : Type} (g : List Int → Int → Option α) (x0 : List Int) (x1 : Int) : kTI g [tI x0, .int x1] = g x0 x1 := by simp [kTI]
theorem kTI_of {α : Type} {g : List Int → Int → Option α} {ds : List D} {d : α} (h : kTI g ds = some d) : ∃ x0 x1, ds = [tI x0, .int x1] ∧ g x0 x1 = some d := by
  unfold kTI at h
  split at h
  · rename_i x0 x1
    cases e0 : dInts x0 with
    | none => rw [e0] at h; cases h
    | some y0 =>
    rw [e0] at h
    simp only [Option.bind_some] at h
    have e0 := dInts_some e0
    subst e0
    exact ⟨_, _, rfl, h⟩
  · cases h
def kT {α : Type} (g : List Int → Option α) : List D → Option α
  | [.tup x0] => (dInts x0).bind fun x0 => g x0
  | _ => none
@[simp] theorem kT_mk {α : Type} (g : List Int → Option α) (x0 : List Int) : kT g [tI x0] = g x0 := by simp [kT]
theorem kT_of {α : Type} {g : List Int → Option α} {ds : List D} {d : α} (h : kT g ds = some d) : ∃ x0, ds = [tI x0] ∧ g x0 = some d := by
  unfold kT at h
  split at h
  · rename_i x0
    cases e0 : dInts x0 with
    | none => rw [e0] at h; cases h
    | some y0 =>
    rw [e0] at h
    simp only [Option.bind_some] at h
    have e0 := dInts_some e0
    subst e0
    exact ⟨_, rfl, h⟩
  · cases h
def kTITI {α : Type} (g : List Int → Int → List Int → Int → Option α) : List D → Option α
  | [.tup x0, .int x1, .tup x2, .int x3] => (dInts x0).bind fun x0 => (dInts x2).bind fun x2 => g x0 x1 x2 x3
  | _ => none
@[simp] theorem kTITI_mk {α : Type} (g : List Int → Int → List Int → Int → Option α) (x0 : List Int) (x1 : Int) (x2 : List Int) (x3 : Int) : kTITI g [tI x0, .int x1, tI x2, .int x3] = g x0 x1 x2 x3 := by simp [kTITI]
theorem kTITI_of {α : Type} {g : List Int → Int → List Int → Int → Option α} {ds : List D} {d : α} (h : kTITI g ds = some d) : ∃ x0 x1 x2 x3, ds = [tI x0, .int x1, tI x2, .int x3] ∧ g x0 x1 x2 x3 = some d := by
  unfold kTITI at h
  split at h
  · rename_i x0 x1 x2 x3
    cases e0 : dInts x0 with
    | none => rw [e0] at h; cases h
    | some y0 =>
    rw [e0] at h
    simp only [Option.bind_some] at h
    have e0 := dInts_some e0
    subst e0
    cases e2 : dInts x2 with
    | none => rw [e2] at h; cases h
    | some y2 =>
    rw [e2] at h
    simp only [Option.bind_some] at h
    have e2 := dInts_some e2
    subst e2
    exact ⟨_, _, _, _, rfl, h⟩
  · cases h
def kTTTTI {α : Type} (g : List Int → List Int → List Int → List Int → Int → Option α) : List D → Option α
  | [.tup x0, .tup x1, .tup x2, .tup x3, .int x4] => (dInts x0).bind fun x0 => (dInts x1).bind fun x1 => (dInts x2).bind fun x2 => (dInts x3).bind fun x3 => g x0 x1 x2 x3 x4
  | _ => none
@[simp] theorem kTTTTI_mk {α : Type} (g : List Int → List Int → List Int → List Int → Int → Option α) (x0 : List Int) (x1 : List Int) (x2 : List Int) (x3 : List Int) (x4 : Int) : kTTTTI g [tI x0, tI x1, tI x2, tI x3, .int x4] = g x0 x1 x2 x3 x4 := by simp [kTTTTI]
theorem kTTTTI_of {α : Type} {g : List Int → List Int → List Int → List Int → Int → Option α} {ds : List D} {d : α} (h : kTTTTI g ds = some d) : ∃ x0 x1 x2 x3 x4, ds = [tI x0, tI x1, tI x2, tI x3, .int x4] ∧ g x0 x1 x2 x3 x4 = some d := by
  unfold kTTTTI at h
  split at h
  · rename_i x0 x1 x2 x3 x4
    cases e0 : dInts x0 with
    | none => rw [e0] at h; cases h
    | some y0 =>
    rw [e0] at h
    simp only [Option.bind_some] at h
    have e0 := dInts_some e0
    subst e0
    cases e1 : dInts x1 with
    | none => rw [e1] at h; cases h
    | some y1 =>
    rw [e1] at h
    simp only [Option.bind_some] at h
    have e1 := dInts_some e1
    subst e1
    cases e2 : dInts x2 with
    | none => rw [e2] at h; cases h
    | some y2 =>
    rw [e2] at h
    simp only [Option.bind_some] at h
    have e2 := dInts_some e2
    subst e2
    cases e3 : dInts x3 with
    | none => rw [e3] at h; cases h
    | some y3 =>
    rw [e3] at h
    simp only [Option.bind_some] at h
    have e3 := dInts_some e3
    subst e3
    exact ⟨_, _, _, _, _, rfl, h⟩
  · cases h
def kSI {α : Type} (g : Str → Int → Option α) : List D → Option α
  | [.str x0, .int x1] => g x0 x1
  | _ => none
@[simp] theorem kSI_mk {α : Type} (g : Str → Int → Option α) (x0 : Str) (x1 : Int) : kSI g [.str x0, .int x1] = g x0 x1 := by simp [kSI]
theorem kSI_of {α : Type} {g : Str → Int → Option α} {ds : List D} {d : α} (h : kSI g ds = some d) : ∃ x0 x1, ds = [.str x0, .int x1] ∧ g x0 x1 = some d := by
  unfold kSI at h
  split at h
  · rename_i x0 x1
    exact ⟨_, _, rfl, h⟩
  · cases h
def kI {α : Type} (g : Int → Option α) : List D → Option α
  | [.int x0] => g x0
  | _ => none
@[simp] theorem kI_mk {α : Type} (g : Int → Option α) (x0 : Int) : kI g [.int x0] = g x0 := by simp [kI]
theorem kI_of {α : Type} {g : Int → Option α} {ds : List D} {d : α} (h : kI g ds = some d) : ∃ x0, ds = [.int x0] ∧ g x0 = some d := by
  unfold kI at h
  split at h
  · rename_i x0
    exact ⟨_, rfl, h⟩
  · cases h
def kC {α : Type} (g : List Int → Option α) : List D → Option α
  | [.scr x0] => g x0
  | _ => none
@[simp] theorem kC_mk {α : Type} (g : List Int → Option α) (x0 : List Int) : kC g [.scr x0] = g x0 := by simp [kC]
theorem kC_of {α : Type} {g : List Int → Option α} {ds : List D} {d : α} (h : kC g ds = some d) : ∃ x0, ds = [.scr x0] ∧ g x0 = some d := by
  unfold kC at h
  split at h
  · rename_i x0
    exact ⟨_, rfl, h⟩
  · cases h
def kTIA {α : Type} (g : List Int → Int → D → Option α) : List D → Option α
  | [.tup x0, .int x1, x2] => (dInts x0).bind fun x0 => g x0 x1 x2
  | _ => none
@[simp] theorem kTIA_mk {α : Type} (g : List Int → Int → D → Option α) (x0 : List Int) (x1 : Int) (x2 : D) : kTIA g [tI x0, .int x1, x2] = g x0 x1 x2 := by simp [kTIA]
theorem kTIA_of {α : Type} {g : List Int → Int → D → Option α} {ds : List D} {d : α} (h : kTIA g ds = some d) : ∃ x0 x1 x2, ds = [tI x0, .int x1, x2] ∧ g x0 x1 x2 = some d := by
  unfold kTIA at h
  split at h
  · rename_i x0 x1 x2
    cases e0 : dInts x0 with
    | none => rw [e0] at h; cases h
    | some y0 =>
    rw [e0] at h
    simp only [Option.bind_some] at h
    have e0 := dInts_some e0
    subst e0
    exact ⟨_, _, _, rfl, h⟩
  · cases h
def kS {α : Type} (g : Str → Option α) : List D → Option α
  | [.str x0] => g x0
  | _ => none
@[simp] theorem kS_mk {α : Type} (g : Str → Option α) (x0 : Str) : kS g [.str x0] = g x0 := by simp [kS]
theorem kS_of {α : Type} {g : Str → Option α} {ds : List D} {d : α} (h : kS g ds = some d) : ∃ x0, ds = [.str x0] ∧ g x0 = some d := by
  unfold kS at h
  split at h
  · rename_i x0
    exact ⟨_, rfl, h⟩
  · cases h
def kA {α : Type} (g : D → Option α) : List D → Option α
  | [x0] => g x0
  | _ => none
@[simp] theorem kA_mk {α : Type} (g : D → Option α) (x0 : D) : kA g [x0] = g x0 := by simp [kA]
theorem kA_of {α : Type} {g : D → Option α} {ds : List D} {d : α} (h : kA g ds = some d) : ∃ x0, ds = [x0] ∧ g x0 = some d := by
  unfold kA at h
  split at h
  · rename_i x0
    exact ⟨_, rfl, h⟩
  · cases h
end Pf

set_option Elab.async false
set_option linter.all false
set_option maxRecDepth 100000
set_option maxHeartbeats 2000000
/-! Pf9: how the readings are reckoned with (simp), and rules left out before. -/
namespace Pf
open PySem PySem.Spec L2
section
variable {T : Ct} {a b c tg iter : Expr} {pos : Pos}
variable (ρ : En) (ga gb gc : En → Option D) (ta tb : En → Option Bool) (la lb : En → Option (List D)) (P : Po) (U V : Po → En → Prop) (i j k : Nat)
@[simp] theorem gV_ap : gV i ρ = (ρ[i]?).bind slD := rfl
@[simp] theorem slD_im (d : D) : slD (.im d) = some d := rfl
@[simp] theorem slD_ow (d : List D) : slD (.ow d) = some (.lst d) := rfl
@[simp] theorem slD_un : slD .un = none := rfl
@[simp] theorem gC_ap (d : D) : gC d ρ = some d := rfl
@[simp] theorem g2_ap (h : D → D → Option D) : g2 h ga gb ρ = (ga ρ).bind fun x => (gb ρ).bind fun y => h x y := rfl
@[simp] theorem g1_ap (h : D → Option D) : g1 h ga ρ = (ga ρ).bind h := rfl
@[simp] theorem gAnd_ap : gAnd ta tb ρ = (ta ρ).bind fun x => if x = true then tb ρ else some false := rfl
@[simp] theorem gOr_ap : gOr ta tb ρ = (ta ρ).bind fun x => if x = true then some true else tb ρ := rfl
@[simp] theorem gNot_ap : gNot ta ρ = (ta ρ).map fun x => !x := rfl
@[simp] theorem gB_ap : gB ta ρ = (ta ρ).map D.bl := rfl
@[simp] theorem gIf_ap : gIf ta ga gb ρ = (ta ρ).bind fun x => if x = true then ga ρ else gb ρ := rfl
@[simp] theorem gNil_ap : gNil ρ = some [] := rfl
@[simp] theorem gCons_ap : gCons ga la ρ = (ga ρ).bind fun x => (la ρ).bind fun xs => some (x :: xs) := rfl
@[simp] theorem gTup_ap : gTup la ρ = (la ρ).bind fun ds => if ds.length ≤ 1000000 then some (.tup ds) else none := rfl
@[simp] theorem gLst_ap : gLst la ρ = (la ρ).bind fun ds => if ds.length ≤ 1000000 then some ds else none := rfl
@[simp] theorem gL_ap : gL la ρ = (la ρ).map D.lst := rfl
@[simp] theorem gON_ap : gON ρ = some none := rfl
@[simp] theorem gOS_ap : gOS ga ρ = (ga ρ).bind fun d => match d with
  | .int i => some (some i)
  | _ => none := rfl
@[simp] theorem gSl_ap (lo hi : En → Option (Option Int)) : gSl ga lo hi ρ = (ga ρ).bind fun d => (lo ρ).bind fun l => (hi ρ).bind fun h => slD' d l h := rfl
@[simp] theorem gSlL_ap (lo hi : En → Option (Option Int)) : gSlL ga lo hi ρ = (ga ρ).bind fun d => (lo ρ).bind fun l => (hi ρ).bind fun h => match d with
  | .lst ds => some (cutD ds l h)
  | _ => none := rfl
@[simp] theorem gCat_ap : gCat la lb ρ = (la ρ).bind fun x => (lb ρ).bind fun y => if x.length + y.length ≤ 1000000 then some (x ++ y) else none := rfl
@[simp] theorem gRep_ap : gRep la gb ρ = (la ρ).bind fun x => (gb ρ).bind fun y => match y with
  | .int k => if -(2 ^ 63) ≤ k ∧ k < 2 ^ 63 ∧ x.length * k.toNat ≤ 1000000 then some (List.replicate k.toNat x).flatten else none
  | _ => none := rfl
@[simp] theorem gAsL_ap : gAsL ga ρ = (ga ρ).bind fun d => match d with
  | .lst ds => some ds
  | _ => none := rfl
@[simp] theorem gToL_ap : gToL ga ρ = (ga ρ).bind fun d => match d with
  | .tup ds => some ds
  | .lst ds => some ds
  | _ => none := rfl
@[simp] theorem gCall_ap (f : List D → Option D) : gCall f la ρ = (la ρ).bind f := rfl
@[simp] theorem gTu_ap : gTu ga ρ = (ga ρ).bind fun d => match d with
  | .tup ds => some ds
  | _ => none := rfl
@[simp] theorem gLs_ap : gLs ga ρ = (ga ρ).bind fun d => match d with
  | .lst ds => if noOw ρ = true then some ds else none
  | _ => none := rfl
@[simp] theorem gR1_ap : gR1 la ρ = (la ρ).bind fun ds => match ds with
  | [.int j] => if -(2 ^ 62) ≤ j ∧ j < 2 ^ 62 then some (rngD 0 j.toNat) else none
  | _ => none := rfl
@[simp] theorem gR2_ap : gR2 la ρ = (la ρ).bind fun ds => match ds with
  | [.int i, .int j] => if -(2 ^ 62) ≤ i ∧ i < 2 ^ 62 ∧ -(2 ^ 62) ≤ j ∧ j < 2 ^ 62 then some (rngD i (j - i).toNat) else none
  | _ => none := rfl
@[simp] theorem gEnT_ap : gEnT ga ρ = (gTu ga ρ).map (enD 0) := rfl
@[simp] theorem gEnL_ap : gEnL ga ρ = (gLs ga ρ).map (enD 0) := rfl
@[simp] theorem gYes_ap : gYes ρ = some true := rfl
@[simp] theorem set1_ap (d : D) : set1 i d ρ = some (ρ.set i (.im d)) := rfl
@[simp] theorem set2_ap (x y : D) : set2 i j (.tup [x, y]) ρ = some ((ρ.set i (.im x)).set j (.im y)) := rfl
@[simp] theorem set3_ap (x y z : D) : set3 i j k (.tup [x, y, z]) ρ = some (((ρ.set i (.im x)).set j (.im y)).set k (.im z)) := rfl
@[simp] theorem gLc_ap (own : List Nat) (set : D → En → Option En) : gLc la own set ta ga ρ = (la ρ).bind fun ds => if ds.length ≤ 1000000 then lcG set ta ga (wipeR ρ own) ds else none := rfl
@[simp] theorem wipeR_nil : wipeR ρ [] = ρ := rfl
@[simp] theorem wipeR_cons (is : List Nat) : wipeR ρ (i :: is) = (wipeR ρ is).set i .un := rfl
@[simp] theorem wNil_ap : wNil P ρ = P.nx ρ := rfl
@[simp] theorem wCons_ap : wCons U V P ρ = U { P with nx := V P } ρ := rfl
@[simp] theorem wSet_ap : wSet i ga P ρ = ∃ d, ga ρ = some d ∧ P.nx (ρ.set i (.im d)) := rfl
@[simp] theorem wSetL_ap : wSetL i la P ρ = ∃ d, la ρ = some d ∧ P.nx (ρ.set i (.ow d)) := rfl
@[simp] theorem wRet_ap : wRet ga P ρ = ∃ d, ga ρ = some d ∧ P.rt d := rfl
@[simp] theorem wIf_ap : wIf ta U V P ρ = ∃ k, ta ρ = some k ∧ (k = true → U P ρ) ∧ (k = false → V P ρ) := rfl
@[simp] theorem wAsg_ap (set : D → En → Option En) : wAsg ga set P ρ = ∃ d ρ', ga ρ = some d ∧ set d ρ = some ρ' ∧ P.nx ρ' := rfl
@[simp] theorem wPar_ap : wPar i j la P ρ = ∃ x y, la ρ = some [x, y] ∧ P.nx ((ρ.set i (.im x)).set j (.im y)) := rfl
@[simp] theorem wApp_ap : wApp i ga P ρ = ∃ ds d, ρ[i]? = some (.ow ds) ∧ ga ρ = some d ∧ ds.length < 1000000 ∧ lf d = true ∧ lfA ds = true ∧ othLf ρ i = true ∧ P.nx (ρ.set i (.ow (ds ++ [d]))) := rfl
@[simp] theorem wPop_ap : wPop i P ρ = ∃ ds, ρ[i]? = some (.ow ds) ∧ ds ≠ [] ∧ lfA ds = true ∧ othLf ρ i = true ∧ P.nx (ρ.set i (.ow ds.dropLast)) := rfl
@[simp] theorem wIx_ap : wIx i ga gb P ρ = ∃ ds k j d, gb ρ = some d ∧ ρ[i]? = some (.ow ds) ∧ ga ρ = some (.int k) ∧ ixN ds.length k = some j ∧ lf d = true ∧ lfA ds = true ∧ othLf ρ i = true ∧ P.nx (ρ.set i (.ow (ds.set j d))) := rfl
@[simp] theorem stR_ap (N : List Str) (ds : List D) : stR N ds = ds.map .im ++ List.replicate (N.length - ds.length) .un := rfl
/-! ### operators on data -/
variable (x y : Int) (s z : Str) (ds es : List D) (d e : D)
@[simp] theorem addD_int : addD (.int x) (.int y) = some (.int (x + y)) := rfl
@[simp] theorem addD_str : addD (.str s) (.str z) = if s.length + z.length ≤ 1000000 then some (.str (s ++ z)) else none := rfl
@[simp] theorem addD_tup : addD (.tup ds) (.tup es) = if ds.length + es.length ≤ 1000000 then some (.tup (ds ++ es)) else none := rfl
@[simp] theorem subD_int : subD (.int x) (.int y) = some (.int (x - y)) := rfl
@[simp] theorem mulD_int : mulD (.int x) (.int y) = if (-(2 ^ 64) < x ∧ x < 2 ^ 64) ∨ (-(2 ^ 64) < y ∧ y < 2 ^ 64) then some (.int (x * y)) else none := rfl
@[simp] theorem modD_int : modD (.int x) (.int y) = if 0 < y then some (.int (x % y)) else none := rfl
@[simp] theorem fdivD_int : fdivD (.int x) (.int y) = if 0 < y ∧ y < 1073741824 then some (.int (x / y)) else none := rfl
@[simp] theorem powD_int : powD (.int x) (.int y) = if 0 ≤ y ∧ y ≤ 1000000 ∧ x.natAbs < 2 ^ 64 then some (.int (x ^ y.toNat)) else none := rfl
@[simp] theorem negD_int : negD (.int x) = some (.int (-x)) := rfl
@[simp] theorem cmpD_int (p : Int → Int → Bool) : cmpD p (.int x) (.int y) = some (.bl (p x y)) := rfl
@[simp] theorem isND_ap : isND d .non = some (.bl (isNon d)) := by cases d <;> rfl
@[simp] theorem notND_ap : notND d .non = some (.bl (!isNon d)) := by cases d <;> rfl
@[simp] theorem isNon_non : isNon .non = true := rfl
@[simp] theorem isNon_int : isNon (.int x) = false := rfl
@[simp] theorem isNon_tup : isNon (.tup ds) = false := rfl
@[simp] theorem isNon_str : isNon (.str s) = false := rfl
@[simp] theorem isNon_lst : isNon (.lst ds) = false := rfl
@[simp] theorem isNon_bl (b : Bool) : isNon (.bl b) = false := rfl
theorem shaped_int : SeqAt.shaped (.int x) = true := by
  simp [SeqAt.shaped, PyData.canLay0, PyData.depth]
theorem shaped_non : SeqAt.shaped .none = true := by
  simp [SeqAt.shaped, PyData.canLay0, PyData.depth]
theorem shaped_bool (b : Bool) : SeqAt.shaped (.bool b) = true := by
  simp [SeqAt.shaped, PyData.canLay0, PyData.depth]
theorem toPyA_ints : ∀ ns : List Int, toPyA (ns.map D.int) = some (ns.map PyData.int)
  | [] => rfl
  | n :: ns => by simp [toPyA, toPy, toPyA_ints ns]
theorem canLay_ints : ∀ ns : List Int, PyData.canLayAll0 (ns.map PyData.int) = true
  | [] => rfl
  | n :: ns => by simp [PyData.canLayAll0, PyData.canLay0, canLay_ints ns]
theorem depth_ints : ∀ ns : List Int, PyData.depthAll (ns.map PyData.int) ≤ 1
  | [] => by simp [PyData.depthAll]
  | n :: ns => by
    have := depth_ints ns
    simp only [List.map_cons, PyData.depthAll, PyData.depth]
    omega
theorem shaped_ints (ns : List Int) : SeqAt.shaped (.tuple (ns.map .int)) = true := by
  have h1 := canLay_ints ns
  have h2 := depth_ints ns
  simp only [SeqAt.shaped, PyData.canLay0, PyData.depth, h1, Bool.true_and]
  exact decide_eq_true (by omega)
theorem shaped_intsL (ns : List Int) : SeqAt.shaped (.list (ns.map .int)) = true := by
  have h1 := canLay_ints ns
  have h2 := depth_ints ns
  simp only [SeqAt.shaped, PyData.canLay0, PyData.depth, h1, Bool.true_and]
  exact decide_eq_true (by omega)
theorem eqv_ints : ∀ xs ys : List Int, PyData.eqvAll (xs.map .int) (ys.map .int) = decide (xs = ys)
  | [], [] => rfl
  | [], y :: ys => by simp [PyData.eqvAll]
  | x :: xs, [] => by simp [PyData.eqvAll]
  | x :: xs, y :: ys => by
    simp only [List.map_cons, PyData.eqvAll, PyData.eqv, eqv_ints xs ys]
    by_cases h : x = y <;> by_cases h2 : xs = ys <;> simp [h, h2]
theorem eqB_int : eqB (.int x) (.int y) = some (decide (x = y)) := by
  simp only [eqB, toPy, Option.bind_some, shaped_int, and_self, if_true, PyData.eqv]
  rw [Bool.beq_eq_decide_eq]
theorem eqB_tI (xs ys : List Int) : eqB (tI xs) (tI ys) = some (decide (xs = ys)) := by
  simp only [eqB, toPy, toPyA_ints, Option.map_some, Option.bind_some, shaped_ints, and_self, if_true, PyData.eqv, eqv_ints]
theorem eqB_lI (xs ys : List Int) : eqB (lI xs) (lI ys) = some (decide (xs = ys)) := by
  simp only [eqB, toPy, toPyA_ints, Option.map_some, Option.bind_some, shaped_intsL, and_self, if_true, PyData.eqv, eqv_ints]
theorem eqB_bl (x y : Bool) : eqB (.bl x) (.bl y) = some (decide (x = y)) := by
  simp only [eqB, toPy, Option.bind_some, shaped_bool, and_self, if_true, PyData.eqv]
  cases x <;> cases y <;> rfl
@[simp] theorem eqD_int : eqD (.int x) (.int y) = some (.bl (decide (x = y))) := by simp [eqD, eqB_int]
@[simp] theorem neD_int : neD (.int x) (.int y) = some (.bl (!decide (x = y))) := by simp [neD, eqB_int]
@[simp] theorem eqD_bl (x y : Bool) : eqD (.bl x) (.bl y) = some (.bl (decide (x = y))) := by simp only [eqD, eqB_bl, Option.map_some]
@[simp] theorem eqD_tI (xs ys : List Int) : eqD (.tup (xs.map .int)) (.tup (ys.map .int)) = some (.bl (decide (xs = ys))) := by simp only [eqD, eqB_tI, Option.map_some]
@[simp] theorem neD_tI (xs ys : List Int) : neD (.tup (xs.map .int)) (.tup (ys.map .int)) = some (.bl (!decide (xs = ys))) := by simp only [neD, eqB_tI, Option.map_some]
@[simp] theorem eqD_tn (xs : List Int) : eqD (.tup (xs.map .int)) (.tup []) = some (.bl (decide (xs = []))) := eqD_tI xs []
@[simp] theorem neD_tn (xs : List Int) : neD (.tup (xs.map .int)) (.tup []) = some (.bl (!decide (xs = []))) := neD_tI xs []
@[simp] theorem neD_lI (xs ys : List Int) : neD (.lst (xs.map .int)) (.lst (ys.map .int)) = some (.bl (!decide (xs = ys))) := by simp only [neD, eqB_lI, Option.map_some]
@[simp] theorem neD_ln (xs : List Int) : neD (.lst (xs.map .int)) (.lst []) = some (.bl (!decide (xs = []))) := neD_lI xs []
@[simp] theorem ixD_tup : ixD (.tup ds) (.int x) = atI ds x := rfl
@[simp] theorem ixD_lst : ixD (.lst ds) (.int x) = atI ds x := rfl
@[simp] theorem ixD_scr (ns : List Int) : ixD (.scr ns) (.int x) = (atI ns x).map D.int := rfl
@[simp] theorem ixD_str : ixD (.str s) (.int x) = if s.length ≤ 1000000 then (atI s.cps.toList x).map fun c => .str ⟨#[c]⟩ else none := rfl
@[simp] theorem slD'_tup (lo hi : Option Int) : slD' (.tup ds) lo hi = some (.tup (cutD ds lo hi)) := rfl
@[simp] theorem slD'_str (lo hi : Option Int) : slD' (.str s) lo hi = if s.length ≤ 1000000 then some (.str (cutS s lo hi)) else none := rfl
@[simp] theorem lenD_tup : lenD [.tup ds] = some (.int ds.length) := rfl
@[simp] theorem lenD_lst : lenD [.lst ds] = some (.int ds.length) := rfl
@[simp] theorem lenD_scr (ns : List Int) : lenD [.scr ns] = some (.int ns.length) := rfl
@[simp] theorem lenD_str : lenD [.str s] = if s.length ≤ 1000000 then some (.int s.length) else none := rfl
@[simp] theorem maxD_int : maxD [.int x, .int y] = some (.int (if y > x then y else x)) := rfl
@[simp] theorem allD_bls (bs : List Bool) : allD [.lst (bs.map .bl)] = some (.bl (bs.all id)) := by simp [allD]
@[simp] theorem intD_int : intD [.int x] = some (.int x) := rfl
@[simp] theorem intD_bl (k : Bool) : intD [.bl k] = some (.int (if k then 1 else 0)) := rfl
@[simp] theorem intD_str : intD [.str s] = if s.length ≤ 640 then (PySem.intText? s).map D.int else none := rfl
@[simp] theorem strD_int : strD [.int x] = if x.natAbs.log2 < 1920 then some (.str (toString x)) else none := rfl
@[simp] theorem tupD_tup : tupD [.tup ds] = some (.tup ds) := rfl
@[simp] theorem tupD_lst : tupD [.lst ds] = some (.tup ds) := rfl
def isIn (l : List String) (s : String) : Bool := l.any fun t => t == s
@[simp] theorem isi_int : isiD "int" d = some (.bl (match d with | .int _ => true | .bl _ => true | _ => false)) := by cases d <;> rfl
@[simp] theorem isi_bool : isiD "bool" d = some (.bl (match d with | .bl _ => true | _ => false)) := by cases d <;> rfl
@[simp] theorem isi_tuple : isiD "tuple" d = some (.bl (match d with | .tup _ => true | _ => false)) := by cases d <;> rfl
@[simp] theorem isi_str : isiD "str" d = some (.bl (match d with | .str _ => true | _ => false)) := by cases d <;> rfl
@[simp] theorem lf_int : lf (.int x) = true := rfl
@[simp] theorem lf_bl (b : Bool) : lf (.bl b) = true := rfl
@[simp] theorem lf_str : lf (.str s) = true := rfl
@[simp] theorem lf_tI (xs : List Int) : lf (.tup (xs.map .int)) = true := by simp [lf]
@[simp] theorem lf_tup : lf (.tup ds) = lfA ds := by simp [lf]
@[simp] theorem lf_lst : lf (.lst ds) = false := by simp [lf]
@[simp] theorem lf_non : lf .non = true := by simp [lf]
@[simp] theorem lfA_nil : lfA [] = true := rfl
@[simp] theorem lfA_cons : lfA (d :: ds) = (lf d && lfA ds) := by simp [lfA]
@[simp] theorem lfA_app : lfA (ds ++ es) = (lfA ds && lfA es) := by
  induction ds with
  | nil => rfl
  | cons a r ih => simp [ih, Bool.and_assoc]
def asB : D → Option Bool
  | .bl b => some b
  | _ => none
@[simp] theorem asB_bl (b : Bool) : asB (.bl b) = some b := rfl
@[simp] theorem gCh_ap (h h' : D → D → Option D) : gCh h h' ga gb gc ρ = (ga ρ).bind fun x => (gb ρ).bind fun y => ((h x y).bind asB).bind fun z => if z = true then (gc ρ).bind fun u => (h' y u).bind asB else some false := by
  unfold gCh
  cases ga ρ with
  | none => rfl
  | some x =>
  cases gb ρ with
  | none => rfl
  | some y =>
  simp only [Option.bind_some]
  cases h x y with
  | none => rfl
  | some z =>
  simp only [Option.bind_some]
  cases z <;> try rfl
  rename_i b
  cases b with
  | false => rfl
  | true =>
    simp only [asB_bl, Option.bind_some, if_true]
    cases gc ρ with
    | none => rfl
    | some u =>
      simp only [Option.bind_some]
      cases h' y u with
      | none => rfl
      | some z => simp only [Option.bind_some]; cases z <;> rfl
@[simp] theorem gT_ap : gT ga ρ = (ga ρ).bind asB := by unfold gT; rfl
@[simp] theorem ite_bind' {α β : Type} {c : Prop} [Decidable c] (v : α) (f : α → Option β) : (if c then some v else none).bind f = if c then f v else none := by
  split <;> rfl
@[simp] theorem ite_map' {α β : Type} {c : Prop} [Decidable c] (v : α) (f : α → β) : (if c then some v else none).map f = if c then some (f v) else none := by
  split <;> rfl
/-- constants of the module -/
theorem se_globI {x : Str} {pos : Pos} {n : Int} (hg : T.sc.names.lookup x = some .globalImplicit) (hm : ∃ t, T.mg x = some (.int n t)) (hdb : (x == ("__debug__" : Str)) = false := by decide) : SE T (.Name x pos) (gC (.int n)) := by
  obtain ⟨t, hm⟩ := hm
  exact se_glob (v := .int n) hg hm ⟨t, rfl⟩ (fun _ => .int _) hdb
theorem se_globS {x : Str} {pos : Pos} {n : Str} (hg : T.sc.names.lookup x = some .globalImplicit) (hm : ∃ t, T.mg x = some (.str n t)) (hdb : (x == ("__debug__" : Str)) = false := by decide) : SE T (.Name x pos) (gC (.str n)) := by
  obtain ⟨t, hm⟩ := hm
  exact se_glob (v := .str n) hg hm ⟨t, rfl⟩ (fun _ => .str _) hdb
end
section
variable {P : Program} {w : World} {K : PySem.W.Frag} {mg : Str → Option Value} {base : Heap}
/-- a def of which nothing is claimed (where a call is never reached) -/
theorem fn_none {x : Str} {st : Stmt} {ps : List Str} (h : Hd K mg x st ps) (k : Nat) : FnT P w K mg base k x (fun _ => none) := by
  obtain ⟨f, fd, F, hm, b⟩ := h
  exact ⟨f, fd, ps, ⟨fun vs H Q E h => (by obtain ⟨_, _, _, z, _⟩ := h; cases z), fun A outer s H args us vs Q E _ _ _ _ h => (by obtain ⟨_, _, _, z, _⟩ := h; cases z)⟩, hm, F.kp, b⟩
end
end Pf

set_option Elab.async false
set_option linter.all false
set_option maxRecDepth 100000
set_option maxHeartbeats 2000000
/-! Pf10: the end. -/
namespace Pf
open PySem PySem.Spec L2
theorem hd_mk {K : PySem.W.Frag} {h : Heap} {mg : Str → Option Value} (X : K.In h) (G : h.Ns mainGlobals mg) {x : Str} {st : Stmt} {ps : List Str} {f : Addr} {oc : Value} {od an : Option Addr} {osl : Array (Option Value)} {kV doc pm cdv ct : Value}
    (a : PySem.W.nsIn K mainGlobals x = some (some (.ref f))) (l : K.lookup f = some ⟨oc, od, .func (PySem.W.fnOf x x (defArgs st) (defBody st) (defScope st) .none kV doc pm an cdv ct), osl⟩) (c : PySem.W.codeIn K cdv x = true) (k : PySem.W.keepIn K (.ref f) = true)
    (b : ∀ (kV doc pm : Value) (an : Option Addr) (cdv ct : Value) (us : List Value), us.length = ps.length → bindArgs (PySem.W.fnOf x x (defArgs st) (defBody st) (defScope st) .none kV doc pm an cdv ct) ⟨us, []⟩ = pure (ps.zip us)) : Hd K mg x st ps :=
  ⟨f, _, fun_mk l c k, PySem.W.mg_of X G a, (fun_mk l c k).binds b⟩
abbrev HdG {K : PySem.W.Frag} {h : Heap} (_ : K.In h) (mg : Str → Option Value) (x : Str) (st : Stmt) (ps : List Str) : Prop := Hd K mg x st ps
theorem mgI_of {K : PySem.W.Frag} {h : Heap} {mg : Str → Option Value} (X : K.In h) (G : h.Ns mainGlobals mg) {x : Str} {n : Int} {t : Tok} (a : PySem.W.nsIn K mainGlobals x = some (some (.int n t))) : ∃ t, mg x = some (.int n t) := ⟨t, PySem.W.mg_of X G a⟩
theorem mgS_of {K : PySem.W.Frag} {h : Heap} {mg : Str → Option Value} (X : K.In h) (G : h.Ns mainGlobals mg) {x : Str} {n : Str} {t : Tok} (a : PySem.W.nsIn K mainGlobals x = some (some (.str n t))) : ∃ t, mg x = some (.str n t) := ⟨t, PySem.W.mg_of X G a⟩
/-- the law's end -/
theorem law_end {l : PySem.W.OpenLaw} {k : Nat} {q : Program} {loose : List Str} {XP : (Str → Option Value) → Heap → Prop} {YP : World → Heap → Prop} {d : DefRec} {K : Params → PySem.W.Frag} {x : Str} (hn : l.most = some 63) (hdf : d.params.defaults = []) (hr : Room k callerA) (hY : ∀ (w : World) (h : Heap), YP w h → (K w.params).In h)
    (f : List D → Option D) (hf : ∀ ns : List Int, ns.length ≤ 63 → f [.scr ns] = some (.bl true))
    (F : ∀ (w : World) (mg : Str → Option Value) (fa : Addr) (h : Heap), (K w.params).In h → h.Ns mainGlobals mg → mg d.name = some (.ref fa) →
      ∃ fd : FuncData, (∀ (s : Shared) (u : Value), BindsTo s fd ⟨[u], []⟩ [(x, u)]) ∧ ∀ base : Heap, (K w.params).In base → base.Ns mainGlobals mg → FnOk l.prog w (K w.params) mg base CX0 k fa fd [x] (spD (K w.params) f)) :
    PySem.W.WalkO q loose XP YP l.row.toRowW d [] (fun f vs => PySem.call f vs) := by
  refine L2.walk_of (l := l) (n := 63) (k := k) (x := x) (CX := fun _ => L2.CX0) (sp := fun w => spD (K w.params) f) hn (by decide) hdf hr hY F (fun w H a ns h1 _ h3 => ?_) (fun _ _ _ _ _ h => h)
  refine ⟨[.scr ns], .bl true, .cons (.scr h3) .nil, hf ns h1, fun v H' _ hv => ?_⟩
  cases hv
  rfl
/-- .. from the law's own def -/
theorem law_fn {P : Program} {w : World} {K : PySem.W.Frag} {mg : Str → Option Value} {k : Nat} {x : Str} {st : Stmt} {y : Str} {f : List D → Option D} {fa : Addr} (h : Hd K mg x st [y]) (hmg : mg x = some (.ref fa)) (hdf : ∀ (kV doc pm : Value) (an : Option Addr) (cdv ct : Value) (s : Shared) (v : Value), BindsTo s (PySem.W.fnOf x x (defArgs st) (defBody st) (defScope st) .none kV doc pm an cdv ct) ⟨[v], []⟩ [(y, v)])
    (F : ∀ (base : Heap) (fd : FuncData), Fun K x x st fa fd → FnOk P w K mg base CX0 k fa fd [y] (spD K f)) : ∃ fd : FuncData, (∀ (s : Shared) (u : Value), BindsTo s fd ⟨[u], []⟩ [(y, u)]) ∧ ∀ base : Heap, K.In base → base.Ns mainGlobals mg → FnOk P w K mg base CX0 k fa fd [y] (spD K f) := by
  obtain ⟨g, fd, F1, hm, b⟩ := h
  have e := hm.symm.trans hmg
  cases e
  refine ⟨fd, fun s v => ?_, fun base _ _ => F base fd F1⟩
  obtain ⟨oc, od, kV, doc, pm, an, cdv, ct, osl, rfl, _, _⟩ := F1.ex
  exact hdf _ _ _ _ _ _ s v
end Pf

set_option Elab.async false
set_option linter.all false
set_option maxRecDepth 100000
set_option maxHeartbeats 4000000
/-! Pf11: more rules. -/
namespace Pf
open PySem PySem.Spec L2
open AutoSeq1 (wpAny_loadPart')
section
variable {T : Ct} {a b c tg iter : Expr} {ga gb gc : En → Option D} {pos : Pos}
/-! ### [x for x in a tuple if test]: the items themselves -/
def lvG (i : Nat) (gt : En → Option Bool) (ρ : En) : List D → Option (List D)
  | [] => some []
  | d :: r => (gt (ρ.set i (.im d))).bind fun b => if b = true then (lvG i gt ρ r).map fun xs => d :: xs else lvG i gt ρ r
def gLv (g : En → Option (List D)) (i : Nat) (gt : En → Option Bool) : En → Option (List D) := fun ρ => (g ρ).bind fun ds => if ds.length ≤ 1000000 ∧ i < ρ.length then lvG i gt (ρ.set i .un) ds else none
theorem lc_item {scope : Scope} {x : Str} {ifs : List Expr} {i : Nat} {gt : En → Option Bool} (ht : SPt (T.blk scope) ifs gt) (hN : T.N[i]? = some x) (hx : locB (T.blk scope) x = true)
    (hmd : T.md = none) {X : Cx} (G : Good T X) {σ : L2.St} {H : Hp} {ρ : En} {res ds : List D} (env : Env T.K H σ ρ) (hd : lvG i gt (ρ.set i .un) ds = some res) (hz : ds.length ≤ 1000000) (hir : i < ρ.length) {ad : Addr} {xs : List V} (h1 : SqT T.K H ad xs) (h2 : DqA T.K H xs ds) {Q : VK} (q : ∀ p xs H', H p = none → Same H H' → H' p = some (.lst xs) → DqA T.K H' xs res → Q (.ref p) H') :
    ∀ L, H L = none → ∃ W : Nat → Nat → Hp → Prop, (∃ m, W 0 m (upd H L (.lst []))) ∧ ∀ j m Hj, W j m Hj →
      ((Itt T.K ad).stop j Hj ∧ Q (.ref L) Hj) ∨ ((Itt T.K ad).go j Hj ∧ ∃ Nx : Hp → Prop, (∀ H', Nx H' → ∃ m', m' < m ∧ W (j + 1) m' H') ∧ ∀ y H', (Itt T.K ad).yld j Hj y H' → gName i y (wipe σ [i]) H' fun σ2 H2 => wipe σ2 [i] = wipe σ [i] ∧ bT X scope ifs σ2 H2 fun b H3 =>
        if b = true then tVar i σ2 H3 fun y H4 => ∃ acc, H4 L = some (.lst acc) ∧ acc.length < sizeLine ∧ Nx (upd H4 L (.lst (acc ++ [y]))) else Nx H3) := by
  intro L hL
  let Pv : Nat → Hp → Prop := fun j H2 => (∀ a o, H a = some o → H2 a = some o) ∧ ∃ acc accD rest, H2 L = some (.lst acc) ∧ acc.length ≤ j ∧ DqA T.K H acc accD ∧ lvG i gt (ρ.set i .un) (ds.drop j) = some rest ∧ res = accD ++ rest
  refine lc_tup (K := T.K) (a := ad) (xs := xs) Pv ?_ (fun j H2 _ p => Same.seqT p.1 h1) (fun j x Hj hx p => ?_) fun H2 p => ?_
  · refine ⟨fun a o h => ?_, [], [], res, upd_same, Nat.le_refl _, .nil, hd, rfl⟩
    rw [upd_ne (ne_of_none h hL)]
    exact h
  · obtain ⟨k1, acc, accD, rest, hacc, hle, hdq, hrest, eres⟩ := p
    obtain ⟨d, hdj, hxd⟩ := h2.getV hx
    have hj := List.getElem?_eq_some_iff.mp hdj
    have edrop : ds.drop j = d :: ds.drop (j + 1) := by
      rw [← hj.2]
      exact List.drop_eq_getElem_cons hj.1
    rw [edrop] at hrest
    unfold lvG at hrest
    cases et : gt ((ρ.set i .un).set i (.im d)) with
    | none => rw [et] at hrest; cases hrest
    | some bt =>
    rw [et] at hrest
    simp only [Option.bind_some] at hrest
    have envb : Env T.K Hj (wipe σ [i]) (ρ.set i .un) := (env.mono k1).un i none
    have hi : i < σ.length := by rw [env.len]; exact hir
    refine ⟨by show wipe ((wipe σ [i]).set i (some x)) [i] = wipe σ [i]; rw [wipe_set (by simp), wipe_idem _ _ fun _ h => h], ?_⟩
    intro s0 H0 C0 cl0 fp0
    refine ht _ (good_blk G hmd) _ Hj _ bt (envb.set i (hxd.mono k1)) et _ fun Hc sbc => ?_
    cases bt with
    | false =>
      rw [if_neg Bool.false_ne_true]
      exact ⟨fun a o h => sbc _ _ (k1 a o h), acc, accD, rest, sbc _ _ hacc, by omega, hdq, hrest, eres⟩
    | true =>
      rw [if_pos rfl]
      have hrest : (lvG i gt (ρ.set i .un) (ds.drop (j + 1))).map (fun xs => d :: xs) = some rest := hrest
      cases er : lvG i gt (ρ.set i .un) (ds.drop (j + 1)) with
      | none => rw [er] at hrest; cases hrest
      | some rest' =>
      rw [er] at hrest
      have hrest := Option.some.inj hrest
      refine ⟨x, by rw [List.getElem?_set_self (by rw [wipe_length]; exact hi)], acc, sbc _ _ hacc, ?_, fun a o h => ?_, acc ++ [x], accD ++ [d], rest', upd_same, by rw [List.length_append]; exact Nat.succ_le_succ hle, hdq.append (.cons hxd .nil), er, ?_⟩
      · exact Nat.lt_of_le_of_lt hle (Nat.lt_of_lt_of_le hj.1 (sz hz))
      · rw [upd_ne (ne_of_none h hL)]
        exact sbc _ _ (k1 a o h)
      · rw [eres, ← hrest]
        simp
  · obtain ⟨k1, acc, accD, rest, hacc, hle, hdq, hrest, eres⟩ := p
    have e0 : ds.drop xs.length = [] := by rw [h2.length]; exact List.drop_length
    rw [e0] at hrest
    have hrest : some ([] : List D) = some rest := hrest
    cases hrest
    rw [List.append_nil] at eres
    subst eres
    exact q L acc H2 hL k1 hacc (hdq.mono k1)
theorem sl_lcv {scope : Scope} {x : Str} {ifs : List Expr} {gt : En → Option Bool} {px px2 : Pos} (i : Nat) (he : SE T a ga) (ok : blkC T.N T.sc scope [(x, i)] = true) (hN : T.N[i]? = some x) (hx : locB (T.blk scope) x = true) (ht : SPt (T.blk scope) ifs gt) (hv : visB (relS scope T.sc) x = true)
    (hs : ∀ env y, foldedSetIterable a env y = pure y := by intro _ _; rfl) (hdb : (x == ("__debug__" : Str)) = false := by decide) (hcd : (x == ("__classdict__" : Str)) = false := by decide) (hmd : T.md = none := by rfl) :
    SL T (.ListComp (.Name x px) [⟨.Name x px2, a, ifs, 0⟩] scope pos) (gLv (gTu ga) i gt) := by
  intro X G σ H ρ res env hd Q q
  unfold gLv at hd
  cases e1 : gTu ga ρ with
  | none => rw [e1] at hd; cases hd
  | some ds =>
  rw [e1] at hd
  have hd : (if ds.length ≤ 1000000 ∧ i < ρ.length then lvG i gt (ρ.set i .un) ds else none) = some res := hd
  split at hd
  · rename_i hz
    have gg : ∀ (s : Shared) (H : Hp) (C : Addr) (cl : List (Str × Addr)) (fp : List Addr), PG (X.blk s H scope (compEnvC scope cl C X.env) fp) (.Name x px2) (gName i) := fun s H C cl fp => by
      obtain ⟨l1, l2⟩ := loc_of (good_blk (s := s) (H := H) (C := C) (cl := cl) (fp := fp) G hmd) hx
      exact pg_name (by rw [show (X.blk s H scope (compEnvC scope cl C X.env) fp).N = T.N from G.hN]; exact G.nd) (by rw [show (X.blk s H scope (compEnvC scope cl C X.env) fp).N = T.N from G.hN]; exact hN) l1 l2
    have ge : ∀ (s : Shared) (H : Hp) (C : Addr) (cl : List (Str × Addr)) (fp : List Addr), PE (X.blk s H scope (compEnvC scope cl C X.env) fp) (.Name x px) (tVar i) := fun s H C cl fp =>
      pe_var (by rw [show (X.blk s H scope (compEnvC scope cl C X.env) fp).N = T.N from G.hN]; exact hN) (by rw [show (X.blk s H scope (compEnvC scope cl C X.env) fp).env.scope = relS scope T.sc by show relS scope X.env.scope = _; rw [G.hs]]; exact vis_of hv) hdb hcd
    refine ⟨_, pe_lc (own := [(x, i)]) (G.calm hmd) (by rw [G.hN]; exact G.nd) (pi_tup pe_w) (blkOk_by (by rw [G.hN, G.hs]; exact ok)) gg bT_pt ge (hs X.env), ?_⟩
    refine he X G σ H ρ _ env (gTu_some e1) _ fun v H1 s1 d1 => ?_
    cases d1 with
    | @tup ad xs _ h1 h2 =>
      refine ⟨ad, rfl, ⟨xs, by rw [G.hK]; exact h1⟩, ?_⟩
      rw [G.hK]
      exact lc_item ht hN hx hmd G (env.mono s1) hd hz.1 hz.2 h1 h2 fun p xs H' n s e d => q p xs H' (s1.free n) (s1.trans s) e d
  · cases hd
theorem lvG_fm {i : Nat} {gt : En → Option Bool} {ρ : En} (p : D → Bool) : ∀ {ds : List D}, (∀ d ∈ ds, gt (ρ.set i (.im d)) = some (p d)) → lvG i gt ρ ds = some (ds.filter p)
  | [], _ => rfl
  | d :: ds, h => by
    unfold lvG
    rw [h d (by simp), lvG_fm p (ds := ds) fun e he => h e (by simp [he])]
    cases hp : p d <;> simp [hp]
theorem lcG_fm {set : D → En → Option En} {gt : En → Option Bool} {ge : En → Option D} {ρ : En} (p : D → Bool) (f : D → D) : ∀ {ds : List D}, (∀ d ∈ ds, ∃ ρ', set d ρ = some ρ' ∧ gt ρ' = some (p d) ∧ (p d = true → ge ρ' = some (f d) ∧ lf (f d) = true)) → lcG set gt ge ρ ds = some ((ds.filter p).map f)
  | [], _ => rfl
  | d :: ds, h => by
    obtain ⟨ρ', h1, h2, h3⟩ := h d (by simp)
    unfold lcG
    rw [h1, lcG_fm p f (ds := ds) fun e he => h e (by simp [he])]
    simp only [Option.bind_some, h2]
    cases hp : p d
    · simp [hp]
    · obtain ⟨h4, h5⟩ := h3 hp
      simp [h4, h5, hp]
theorem lcG_m {set : D → En → Option En} {ge : En → Option D} {ρ : En} (f : D → D) {ds : List D} (h : ∀ d ∈ ds, ∃ ρ', set d ρ = some ρ' ∧ ge ρ' = some (f d) ∧ lf (f d) = true) : lcG set gYes ge ρ ds = some (ds.map f) := by
  have := lcG_fm (set := set) (gt := gYes) (ge := ge) (ρ := ρ) (fun _ => true) f (ds := ds) fun d hd => by
    obtain ⟨ρ', h1, h2, h3⟩ := h d hd
    exact ⟨ρ', h1, rfl, fun _ => ⟨h2, h3⟩⟩
  rw [this, List.filter_eq_self.mpr fun _ _ => rfl]
@[simp] theorem gLv_ap (g : En → Option (List D)) (i : Nat) (gt : En → Option Bool) (ρ : En) : gLv g i gt ρ = (g ρ).bind fun ds => if ds.length ≤ 1000000 ∧ i < ρ.length then lvG i gt (ρ.set i .un) ds else none := rfl
/-! ### tuple * int -/
theorem tup_mul_one (l : Addr) (items : Array Value) (n : Nat) (dd : Option Addr) (sl : Array (Option Value)) (x : Int) (u : Tok) (c0 : (decide (x < -(2 ^ 63)) || decide (x ≥ 2 ^ 63)) = false) (c1 : (items.isEmpty || x == 1) = true) :
    Meets (Builtin.«tuple.__mul__» ⟨[.ref l, .int x u], []⟩) (fun _ R s => s.heap.get? l = some { cls := .type "tuple", dict := dd, data := .seq items n, slots := sl } ∧ R (.ok (.ret (Value.ref l))) s) :=
  .of_wp fun prog w A R s h => by
    obtain ⟨hp, g, d, tk, os⟩ := s
    obtain ⟨hl, h⟩ := h
    have f1 := AutoSeq1.idx_int
    wp_walk using wpAny_loadPart' hl
    repeat (first
      | (refine wpAny_ite_false (decide_eq_false (by rw [c0]; exact Bool.false_ne_true)) ?_; wp_walk using wpAny_loadPart' hl)
      | (refine wpAny_ite_true (decide_eq_true c1) ?_; wp_walk using wpAny_loadPart' hl))
    exact ⟨_, rfl, h⟩
theorem tup_mul_nil (l : Addr) (items : Array Value) (n : Nat) (dd : Option Addr) (sl : Array (Option Value)) (x : Int) (u : Tok) (c0 : (decide (x < -(2 ^ 63)) || decide (x ≥ 2 ^ 63)) = false) (c1 : (items.isEmpty || x == 1) = false) (c2 : (decide (x ≤ 0) || items.isEmpty) = true) :
    Meets (Builtin.«tuple.__mul__» ⟨[.ref l, .int x u], []⟩) (fun _ R s => s.heap.get? l = some { cls := .type "tuple", dict := dd, data := .seq items n, slots := sl } ∧ R (.ok (.ret (Value.ref s.heap.objs.size))) { s with heap := s.heap.push { cls := Value.type "tuple", data := Data.seq #[] }, toks := s.toks }) :=
  .of_wp fun prog w A R s h => by
    obtain ⟨hp, g, d, tk, os⟩ := s
    obtain ⟨hl, h⟩ := h
    have f1 := AutoSeq1.idx_int
    wp_walk using wpAny_loadPart' hl
    repeat (first
      | (refine wpAny_ite_false (decide_eq_false (by rw [c0]; exact Bool.false_ne_true)) ?_; wp_walk using wpAny_loadPart' hl)
      | (refine wpAny_ite_false (decide_eq_false (by rw [c1]; exact Bool.false_ne_true)) ?_; wp_walk using wpAny_loadPart' hl)
      | (refine wpAny_ite_true (decide_eq_true c2) ?_; wp_walk using wpAny_loadPart' hl)
      | (refine wpAny_ite_false (decide_eq_false (Nat.not_lt.mpr (Nat.zero_le _))) ?_; wp_walk using wpAny_loadPart' hl))
    exact ⟨_, rfl, h⟩
end
end Pf

set_option Elab.async false
set_option linter.all false
set_option maxRecDepth 100000
set_option maxHeartbeats 4000000
/-! Pf12: tuple * int, tuple[::-1]. -/
namespace Pf
open PySem PySem.Spec PyProof.Rows L2 HT
section
variable {X : Cx}
/-- a tuple times an int, by what tuple.__mul__ gives -/
theorem mulT_by {R : Value → Shared → Prop} {E : Value → Shared → Prop} {s : Shared} {l : Addr} {items : Array Value} {n : Nat} {dd : Option Addr} {sl : Array (Option Value)} {k : Int} {t : Tok}
    (ho : s.heap.get? l = some { cls := .type "tuple", dict := dd, data := .seq items n, slots := sl }) {Sp : Value → Shared → Shared → Prop}
    (M : Meets (Builtin.«tuple.__mul__» ⟨[.ref l, .int k t], []⟩) (fun _ R s => s.heap.get? l = some { cls := .type "tuple", dict := dd, data := .seq items n, slots := sl } ∧ ∃ v s', Sp v s s' ∧ R (.ok (.ret v)) s'))
    (q : ∃ v s', Sp v s s' ∧ R v s') : wpAny (model X.prog X.w) X.A (binaryOp .Mult (.ref l) (.int k t)) R E s := by
  obtain ⟨v, s', h1, h2⟩ := q
  exact wpAny_binaryOp_repeat_ref (T := "tuple") (U := "int") (by decide) ⟨_, ho, rfl⟩ (fun s' => typeIs_int s' k t) noFill_tuple_mul F.fills_int_mul F.slot_int_rmul repeat_tuple F.slot_int_index.lookup
    (call_meets F.slot_int_rmul (typeIs_int s k t) F.entry_int_rmul (F.args_int_rmul_2 _ _) (int_rmul_tuple k t l items n dd sl) ⟨ho, rfl, ⟨_, ho, rfl⟩, call_meets F.slot_tuple_mul ⟨_, ho, rfl⟩ F.entry_tuple_mul (F.args_tuple_mul_2 _ _) M ⟨ho, v, s', h1, h2⟩⟩)
theorem op_repSame : OpR X (binaryOp .Mult) (fun x y H Q => ∃ l k xs, x = .ref l ∧ y = .int k ∧ SqT X.K H l xs ∧ (xs = [] ∨ k = 1) ∧ -1000 ≤ k ∧ k ≤ 1000 ∧ Q (.ref l) H) := by
  intro pins s σ H x y v u Q I rx ry h
  obtain ⟨l, k, xs, rfl, rfl, hT, h1, hk0, hk1, q⟩ := h
  cases rx
  obtain ⟨t, rfl⟩ := ry
  obtain ⟨its, r, ⟨⟨cls, dd, data, sl⟩, ho, hc, n, hd⟩, hs⟩ := I.tuple hT
  simp only at hc hd
  subst hc hd
  have c0 : (decide (k < -(2 ^ 63)) || decide (k ≥ 2 ^ 63)) = false := by rw [decide_eq_false (by omega), decide_eq_false (by omega)] <;> rfl
  have c1 : (its.toArray.isEmpty || k == 1) = true := by
    rcases h1 with h1 | h1
    · subst h1; cases r; rfl
    · subst h1; rw [Bool.or_eq_true]; exact .inr rfl
  refine mulT_by (Sp := fun v s s' => v = .ref l ∧ s' = s) ho (Meets.of_imp (tup_mul_one l its.toArray n dd sl k t c0 c1) fun A R s' h => ?_) ⟨_, _, ⟨rfl, rfl⟩, .ref l, H, I, rfl, q⟩
  obtain ⟨e, v, s2, ⟨e1, e2⟩, q2⟩ := h
  subst e1 e2
  exact ⟨e, q2⟩
theorem op_repNil : OpR X (binaryOp .Mult) (fun x y H Q => ∃ l k xs, x = .ref l ∧ y = .int k ∧ SqT X.K H l xs ∧ xs ≠ [] ∧ k ≤ 0 ∧ -1000 ≤ k ∧ ∀ p, H p = none → Q (.ref p) (upd H p (.tup []))) := by
  intro pins s σ H x y v u Q I rx ry h
  obtain ⟨l, k, xs, rfl, rfl, hT, h1, hk0, hk1, q⟩ := h
  cases rx
  obtain ⟨t, rfl⟩ := ry
  obtain ⟨its, r, ⟨⟨cls, dd, data, sl⟩, ho, hc, n, hd⟩, hs⟩ := I.tuple hT
  simp only at hc hd
  subst hc hd
  have c0 : (decide (k < -(2 ^ 63)) || decide (k ≥ 2 ^ 63)) = false := by rw [decide_eq_false (by omega), decide_eq_false (by omega)] <;> rfl
  have hi : its.toArray.isEmpty = false := by
    cases its with
    | nil => cases r; exact absurd rfl h1
    | cons a b => rfl
  have c1 : (its.toArray.isEmpty || k == 1) = false := by
    rw [hi, Bool.false_or]
    exact beq_eq_false_iff_ne.mpr (by omega)
  have c2 : (decide (k ≤ 0) || its.toArray.isEmpty) = true := by rw [Bool.or_eq_true]; exact .inl (decide_eq_true hk0)
  have fin : L2.Inv X pins σ (upd H s.heap.objs.size (.tup [])) { s with heap := s.heap.push { cls := .type "tuple", data := .seq #[] } } :=
    I.laid (t' := s.toks) (o := .tup []) (fun b ob q => Heap.get?_push_of_some _ q) (Nat.le_refl _) ⟨Nat.zero_le _, [], .nil, PyProof.Rows.IsTup.new _ _⟩
  refine mulT_by (Sp := fun v s s' => v = .ref s.heap.objs.size ∧ s' = { s with heap := s.heap.push { cls := .type "tuple", data := .seq #[] } }) ho (Meets.of_imp (tup_mul_nil l its.toArray n dd sl k t c0 c1 c2) fun A R s' h => ?_) ⟨_, _, ⟨rfl, rfl⟩, .ref s.heap.objs.size, _, fin, rfl, q _ (I.hok.fresh (Nat.le_refl _))⟩
  obtain ⟨e, v, s2, ⟨e1, e2⟩, q2⟩ := h
  subst e1 e2
  exact ⟨e, q2⟩
/-! ### t[::-1] -/
theorem fm_map {α β : Type} {f : α → Option β} {g : α → β} : ∀ {l : List α}, (∀ x ∈ l, f x = some (g x)) → l.filterMap f = l.map g
  | [], _ => rfl
  | x :: l, h => by
    rw [List.filterMap_cons, h x (by simp), fm_map (l := l) fun y hy => h y (by simp [hy])]
    rfl
theorem rev_pick (xs : List Value) : ((List.range xs.length).filterMap fun (k : Nat) => xs.toArray[(((xs.length : Int) - 1) + (k : Int) * (-1)).toNat]?) = xs.reverse := by
  apply List.ext_getElem?
  intro i
  have e : (List.range xs.length).filterMap (fun (k : Nat) => xs.toArray[(((xs.length : Int) - 1) + (k : Int) * (-1)).toNat]?) = (List.range xs.length).map fun (k : Nat) => xs.reverse.getD k .none := by
    apply fm_map
    intro k hk
    have hk := List.mem_range.mp hk
    have e1 : (((xs.length : Int) - 1) + (k : Int) * (-1)).toNat = xs.length - 1 - k := by omega
    rw [e1]
    simp only [List.getElem?_toArray]
    rw [List.getD_eq_getElem?_getD, List.getElem?_reverse hk]
    have h2 : xs.length - 1 - k < xs.length := by omega
    rw [List.getElem?_eq_getElem h2]
    rfl
  rw [e, List.getElem?_map]
  by_cases hi : i < xs.length
  · rw [List.getElem?_range hi]
    have h2 : i < xs.reverse.length := by simpa using hi
    simp [List.getElem?_eq_getElem h2]
  · rw [List.getElem?_eq_none (by simpa using hi), List.getElem?_eq_none (by simpa using hi)]
    rfl
theorem sliceRev {prog : Program} {w : World} {A : Around} {E : Value → Shared → Prop} {s : Shared} {sl : Addr} {c : Value} {n : Nat} {Q : Int × Int × Nat → Shared → Prop} (hs : s.heap.IsSliceOf sl .none .none c) (pc : IsPart c (some (-1)))
    (h : Q ((n : Int) - 1, -1, n) s) : wpAny (model prog w) A (Builtin.Slice.sliceApplied (.ref sl) (pure (n : Int))) Q E s := by
  obtain ⟨os, hos, hcs, hds⟩ := id hs
  unfold Builtin.Slice.sliceApplied Builtin.Slice.sliceFields
  refine wpAny_bind (wpAny_bind (wpAny_field hos hds (x := .none) rfl (wpAny_bind (wpAny_field hos hds (x := .none) rfl (wpAny_bind (wpAny_field hos hds (x := c) rfl (wpAny_pure ?_)))))))
  refine wpAny_bind (slicePart_ pc ?_)
  show wpAny _ _ (if ((-1 : Int) == 0) = true then _ else _) _ _ s
  rw [if_neg (by decide)]
  refine wpAny_bind (slicePart_none (wpAny_bind (slicePart_none (wpAny_bind (wpAny_pure ?_)))))
  have e1 : Builtin.Slice.sliceAdjust none none (-1) (n : Int) = ((n : Int) - 1, -1) := rfl
  have e2 : Builtin.Slice.slicePlaces ((n : Int) - 1) (-1) (-1) = n := by
    unfold Builtin.Slice.slicePlaces
    rw [if_neg (by decide)]
    split
    · show (((n : Int) - 1 - -1 - 1) / 1 + 1).toNat = n
      rw [Int.ediv_one]; omega
    · show (0 : Int).toNat = n
      have : n = 0 := by omega
      subst this; rfl
  show wpAny _ _ (match Builtin.Slice.sliceAdjust none none (-1) (n : Int) with | (lo, hi) => pure (lo, (-1 : Int), Builtin.Slice.slicePlaces lo hi (-1))) _ _ s
  rw [e1]
  show wpAny _ _ (pure ((n : Int) - 1, (-1 : Int), Builtin.Slice.slicePlaces ((n : Int) - 1) (-1) (-1))) _ _ s
  rw [e2]
  exact wpAny_pure h
theorem getRev {prog : Program} {w : World} {A : Around} {E : Value → Shared → Prop} {s : Shared} {t sl : Addr} {its : List Value} {c : Value} {Q : Value → Shared → Prop} (ht : PyProof.Rows.IsTup s.heap t its.toArray) (hs : s.heap.IsSliceOf sl .none .none c) (pc : IsPart c (some (-1)))
    (h : Q (.ref s.heap.objs.size) { s with heap := s.heap.push { cls := .type "tuple", data := .seq its.reverse.toArray } }) (hsz : its.length ≤ sizeLine) : wpAny (model prog w) A (getItem (.ref t) (.ref sl)) Q E s := by
  have fits : sizeOk (.seq its.reverse.toArray) := by
    show its.reverse.toArray.size ≤ sizeLine
    rw [List.size_toArray, List.length_reverse]
    exact hsz
  obtain ⟨os, hos, hcs, hds⟩ := id hs
  have hTs : s.TypeIs (.ref sl) "slice" := ⟨os, hos, hcs⟩
  unfold getItem
  try with_reducible refine wpAny_holding ?_
  first | refine wpAny_bind (wpAny_pure ?_) | skip
  refine wpAny_bind (wpAny_sequenceKey ht.typeIs (by decide) ?_)
  refine wpAny_bind (wpAny_callSpecial?_slot (name := Str.ofString "__getitem__") ht.typeIs PyProof.Rows.slot_tuple_getitem (wpAny_call_entry PyProof.Rows.slot_tuple_getitem ht.typeIs entry_tuple_getitem ?_ (args_tuple_getitem _ _)))
  show wpAny _ _ (Builtin.Tuple.tupleItemsOf (.ref t) >>= _) _ _ s
  refine wpAny_bind (PyProof.Rows.tupleItemsOf_ ht ?_)
  refine wpAny_bind (wpAny_typeOf hTs ?_)
  rw [if_pos (by decide)]
  refine wpAny_bind (sliceRev (n := its.toArray.size) hs pc ?_)
  have no : ¬ ((((its.toArray.size : Int) - 1) == 0 && (-1 : Int) == 1 && its.toArray.size == its.toArray.size) = true) := by
    intro q
    rw [Bool.and_eq_true, Bool.and_eq_true] at q
    exact absurd q.1.2 (by decide)
  have pick : ((List.range its.toArray.size).filterMap fun (k : Nat) => its.toArray[(((its.toArray.size : Int) - 1) + (k : Int) * (-1)).toNat]?) = its.reverse := by
    rw [List.size_toArray]
    exact rev_pick its
  show wpAny _ _ (if (((its.toArray.size : Int) - 1) == 0 && (-1 : Int) == 1 && its.toArray.size == its.toArray.size) = true then _ else (Builtin.Tuple.tupleExact (((List.range its.toArray.size).filterMap fun (k : Nat) => its.toArray[(((its.toArray.size : Int) - 1) + (k : Int) * (-1)).toNat]?)).toArray >>= _)) _ _ s
  rw [if_neg no, pick]
  exact wpAny_bind (m := Builtin.Tuple.tupleExact _) (wpAny_newObj_type (wpAny_pure ⟨_, rfl, wpAny_pure h⟩) fits)
def tRevT (K : PySem.W.Frag) (te : TE) : TE := fun σ H Q => te σ H fun x H1 => ∃ a xs, x = .ref a ∧ SqT K H1 a xs ∧ ∀ p, H1 p = none → Q (.ref p) (upd H1 p (.tup xs.reverse))
theorem pe_revT {e : Expr} {te : TE} {k : Nat} {p1 p2 p3 pos : Pos} (he : PE X e te) : PE X (.Subscript e (.Slice none none (some (.UnaryOp .USub (.Constant (.int 1) k p1) p2)) p3) pos) (tRevT X.K te) := by
  refine ⟨fun pins s σ H Q I h => Subscript_ (thn (he.run pins s σ H _ I h) fun v s1 ⟨x, H1, I1, r1, q1⟩ => ?_)⟩
  obtain ⟨ad, xs, ex, hx, q⟩ := q1
  subst ex
  cases r1
  refine wpAny_Slice (thn (po_none.run pins s1 σ H1 (fun o H2 => o = none ∧ H2 = H1) I1 ⟨rfl, rfl⟩) fun vl s2 ⟨l, H2, I2, pl, el, e2⟩ => ?_)
  subst el e2
  cases pl
  refine thn (po_none.run pins s2 σ H2 (fun o H3 => o = none ∧ H3 = H2) I2 ⟨rfl, rfl⟩) fun vu s3 ⟨u, H3, I3, pu, eu, e3⟩ => ?_
  subst eu e3
  cases pu
  have step : PO X (some (.UnaryOp .USub (.Constant (.int 1) k p1) p2)) (tPart (tUn (rU fun i => .int (-i)) (tC (.int 1)))) := po_some (pe_un un_neg pe_int)
  refine thn (step.run pins s3 σ H3 (fun o H4 => o = some (-1) ∧ H4 = H3) I3 ⟨1, rfl, -1, rfl, rfl, rfl⟩) fun vs s4 ⟨o, H4, I4, ps, eo, e4⟩ => ?_
  subst eo e4
  have I5 : L2.Inv X pins σ H4 { s4 with heap := s4.heap.push { cls := .type "slice", data := .fields #[.none, .none, vs] } } := I4.kept (t' := s4.toks) fun b ob q => Heap.get?_push_of_some _ q
  obtain ⟨its, r, ht, hz⟩ := I5.tuple hx
  show wpAny (model X.prog X.w) X.A (subscriptTail e (.Slice none none (some (.UnaryOp .USub (.Constant (.int 1) k p1) p2)) p3) (.ref ad) (.ref s4.heap.objs.size)) (EP X pins σ Q) X.xe { s4 with heap := s4.heap.push { cls := .type "slice", data := .fields #[.none, .none, vs] } }
  refine tail_any (ops := [.ref ad, .ref s4.heap.objs.size]) ht.typeIs (slot_tuple_getitem.lookup) ?_ (by with_unfolding_all rfl)
  refine getRev ht (Heap.IsSliceOf.new _ .none .none vs) ps ?_ (by rw [← r.length]; exact hz)
  refine ⟨.ref _, _, I5.laid (t' := s4.toks) (o := .tup xs.reverse) (fun b ob q => Heap.get?_push_of_some _ q) (Nat.le_refl _) ?_, rfl, q _ (I5.hok.fresh (Nat.le_refl _))⟩
  exact ⟨by rw [List.length_reverse]; exact hz, _, r.reverse, IsTup.new _ _⟩
end
section
variable {T : Ct} {a : Expr} {ga : En → Option D} {pos : Pos}
def revD : D → Option D
  | .tup ds => some (.tup ds.reverse)
  | _ => none
@[simp] theorem revD_tup (ds : List D) : revD (.tup ds) = some (.tup ds.reverse) := rfl
theorem se_rev {k : Nat} {p1 p2 p3 : Pos} (ha : SE T a ga) : SE T (.Subscript a (.Slice none none (some (.UnaryOp .USub (.Constant (.int 1) k p1) p2)) p3) pos) (g1 revD ga) := by
  intro X G σ H ρ d env hd Q q
  unfold g1 at hd
  cases e : ga ρ with
  | none => rw [e] at hd; cases hd
  | some x =>
    rw [e] at hd
    cases x <;> try (cases hd; done)
    rename_i ds
    cases hd
    refine ⟨_, pe_revT pe_w, ?_⟩
    refine ha X G σ H ρ _ env e _ fun v H1 s1 d1 => ?_
    cases d1 with
    | @tup ad xs _ h1 h2 =>
      refine ⟨ad, xs, rfl, by rw [G.hK]; exact h1, fun p hp => ?_⟩
      have s2 := same_upd (o := .tup xs.reverse) hp
      exact q _ _ (s1.trans s2) (.tup (SqT.of upd_same) (h2.reverse.mono s2))
theorem sl_rev {k : Nat} {p1 p2 p3 : Pos} {gl : En → Option (List D)} (ha : SR T a gl) : SL T (.Subscript a (.Slice none none (some (.UnaryOp .USub (.Constant (.int 1) k p1) p2)) p3) pos) (fun ρ => (gl ρ).map List.reverse) := by
  intro X G σ H ρ d env hd Q q
  cases e : gl ρ with
  | none => simp [e] at hd
  | some ds =>
    simp [e] at hd
    subst hd
    refine ⟨_, pe_revL pe_w, ?_⟩
    refine ha X G σ H ρ _ env e _ fun ad xs H1 s1 h1 h2 => ?_
    refine ⟨ad, xs, rfl, SqL.of h1, fun p hp => ?_⟩
    have s2 := same_upd (o := .lst xs.reverse) hp
    exact q _ _ _ (s1.free hp) (s1.trans s2) upd_same (h2.reverse.mono s2)
def mulTD : D → D → Option D
  | .tup ds, .int k => if -1000 ≤ k ∧ k ≤ 1000 ∧ ds.length ≤ 1000 then some (.tup (List.replicate k.toNat ds).flatten) else none
  | _, _ => none
@[simp] theorem mulTD_tup (ds : List D) (k : Int) : mulTD (.tup ds) (.int k) = if -1000 ≤ k ∧ k ≤ 1000 ∧ ds.length ≤ 1000 then some (.tup (List.replicate k.toNat ds).flatten) else none := rfl
theorem flat_nil {α : Type} (n : Nat) : (List.replicate n ([] : List α)).flatten = [] := by
  induction n with
  | zero => rfl
  | succ n ih => rw [List.replicate_succ, List.flatten_cons, ih]; rfl
theorem od_mulT : OpD T (binaryOp .Mult) mulTD := by
  intro X G H x y d e z dx dy h Q q
  cases d <;> cases e <;> try (cases h; done)
  rename_i ds k
  have h : (if -1000 ≤ k ∧ k ≤ 1000 ∧ ds.length ≤ 1000 then some (D.tup (List.replicate k.toNat ds).flatten) else none) = some z := h
  split at h
  · rename_i hc
    cases h; cases dy
    cases dx with
    | @tup ad xs _ h1 h2 =>
      have hl := h2.length
      by_cases h0 : xs = [] ∨ k = 1
      · refine ⟨_, op_repSame, ad, k, xs, rfl, rfl, by rw [G.hK]; exact h1, h0, hc.1, hc.2.1, ?_⟩
        have e : (List.replicate k.toNat ds).flatten = ds := by
          rcases h0 with h0 | h0
          · subst h0
            have : ds = [] := List.eq_nil_of_length_eq_zero (by simpa using hl.symm)
            subst this
            exact flat_nil _
          · subst h0
            simp
        rw [e] at q
        exact q _ H (Same.refl H) (.tup h1 h2)
      · have hne : xs ≠ [] := fun z => h0 (.inl z)
        have hk1 : k ≠ 1 := fun z => h0 (.inr z)
        by_cases hk : k ≤ 0
        · refine ⟨_, op_repNil, ad, k, xs, rfl, rfl, by rw [G.hK]; exact h1, hne, hk, hc.1, fun p hp => ?_⟩
          have e : k.toNat = 0 := by omega
          rw [e] at q
          have s2 := same_upd (o := .tup []) hp
          exact q _ _ s2 (.tup (SqT.of upd_same) .nil)
        · refine ⟨_, op_repT, ad, k, xs, rfl, rfl, by rw [G.hK]; exact h1, hne, by omega, hc.2.1, by rw [hl]; exact hc.2.2, fun p hp => ?_⟩
          have s2 := same_upd (o := .tup (List.replicate k.toNat xs).flatten) hp
          exact q _ _ s2 (.tup (SqT.of upd_same) ((h2.rep k.toNat).mono s2))
  · cases h
end
end Pf

set_option Elab.async false
set_option linter.all false
set_option maxRecDepth 100000
set_option maxHeartbeats 2000000
/-! Pm1: what the small defs give. -/
namespace Pf
open PySem PySem.Spec L2
theorem wFor_by {gi : En → Option (List D)} {set : D → En → Option En} {U : Po → En → Prop} {P : Po} {ρ : En} (ds : List D) (h1 : gi ρ = some ds) (h2 : (noOw ρ || lfA ds) = true) (Iv : Nat → En → Prop) (h0 : Iv 0 ρ)
    (turn : ∀ i d ρ1, ds[i]? = some d → Iv i ρ1 → ∃ ρ2, set d ρ1 = some ρ2 ∧ U { nx := Iv (i + 1), rt := P.rt, bk := P.nx, ct := Iv (i + 1) } ρ2) (fin : ∀ ρ1, Iv ds.length ρ1 → P.nx ρ1) : wFor gi set U P ρ := ⟨ds, h1, h2, Iv, h0, turn, fin⟩
theorem wWhile_by {g : En → Option Bool} {U : Po → En → Prop} {P : Po} {ρ : En} (Iv : Nat → En → Prop) (n0 : Nat) (h0 : Iv n0 ρ) (turn : ∀ n ρ1, Iv n ρ1 → ∃ b, g ρ1 = some b ∧ (b = true → U { nx := fun ρ2 => ∃ m, m < n ∧ Iv m ρ2, rt := P.rt, bk := P.nx, ct := fun ρ2 => ∃ m, m < n ∧ Iv m ρ2 } ρ1) ∧ (b = false → P.nx ρ1)) : wWhile g U P ρ := ⟨Iv, ⟨n0, h0⟩, turn⟩
theorem rngD_some {lo : Int} {n i : Nat} {d : D} (h : (rngD lo n)[i]? = some d) : i < n ∧ d = .int (lo + (i : Nat)) := by
  have hi := (List.getElem?_eq_some_iff.mp h).1
  rw [rngD_len] at hi
  rw [rngD_get lo hi] at h
  cases h
  exact ⟨hi, rfl⟩
@[simp] theorem lfA_rng (lo : Int) (n : Nat) : lfA (rngD lo n) = true := lfA_of fun d hd => by
  unfold rngD at hd
  obtain ⟨i, _, rfl⟩ := List.mem_map.mp hd
  rfl
theorem atI_get {α : Type} {xs : List α} {k : Int} {v : α} (h0 : 0 ≤ k) (h : xs[k.toNat]? = some v) : atI xs k = some v := by
  have e : k = (k.toNat : Int) := by omega
  rw [e]
  exact atI_nat h
theorem atI_neg1 {α : Type} {xs : List α} {v : α} (h : xs.getLast? = some v) : atI xs (-1) = some v := by
  cases xs with
  | nil => cases h
  | cons a r =>
    have e : (a :: r) = (a :: r).dropLast ++ [v] := by
      have h2 : (a :: r).getLast (List.cons_ne_nil a r) = v := by
        rw [List.getLast?_eq_getLast (List.cons_ne_nil a r)] at h
        exact Option.some.inj h
      rw [← h2, List.dropLast_concat_getLast]
    rw [e]
    exact atI_last _ _
@[simp] theorem allD_map {α : Type} (f : α → Bool) (ds : List α) : allD [.lst (ds.map fun d => D.bl (f d))] = some (.bl (ds.all f)) := by
  have e : (ds.map fun d => D.bl (f d)) = (ds.map f).map D.bl := by rw [List.map_map]; rfl
  rw [e, allD_bls, List.all_map]
  rfl
/-- the last item, not nought -/
theorem last_ne {ns : List Int} : (g2 neD (g2 ixD (gC (tI ns)) (g1 negD (gC (.int 1)))) (gC (.int 0))) [] = (ns.getLast?).map fun i => D.bl (!decide (i = 0)) := by
  simp only [g2_ap, gC_ap, g1_ap, negD_int, Option.bind_some, ixD_tup]
  cases h : ns.getLast? with
  | none =>
    have : ns = [] := by
      cases ns with
      | nil => rfl
      | cons a r => rw [List.getLast?_eq_getLast (List.cons_ne_nil a r)] at h; cases h
    subst this
    rfl
  | some i =>
    have := atI_neg1 h
    rw [atI_map, this]
    simp
theorem last_at {ns : List Int} {i : Int} (h : ns.getLast? = some i) : atI (ns.map D.int) (-1) = some (.int i) := by
  rw [atI_map, atI_neg1 h]; rfl
/-! numbers -/
def isNum : D → Int → Bool
  | .int i, s => decide (0 ≤ i) && decide (i < s)
  | _, _ => false
def f_is_number : List D → Option D := kAI fun x s => some (.bl (isNum x s))
def cellM (ns : List Int) (k : Int) : Int := if k < ns.length then ns.getD k.toNat 0 else 0
def f_law_cell_at : List D → Option D := kCI fun ns k => if 0 ≤ k then some (.int (cellM ns k)) else none
def mixM (c k : Int) : Int :=
  let d := (c + 7919 * k + 1) * 48271 % 2147483647
  (d * d + 7 * d + k) % 2147483629
def mixS (ns : List Int) (k : Int) : Int := mixM (cellM ns k) k
theorem mixS_nonneg (ns : List Int) (k : Int) : 0 ≤ mixS ns k := Int.emod_nonneg _ (by decide)
theorem mixS_lt (ns : List Int) (k : Int) : mixS ns k < 2147483629 := Int.emod_lt_of_pos _ (by decide)
def f_law_mixed : List D → Option D := kCI fun ns k => if 0 ≤ k then some (.int (mixS ns k)) else none
def drawM (n k : Int) : Int :=
  let d := (n + 104729 * k + 17) * 69621 % 2147483647
  (d * d + 3 * d + k) % 2147483629
theorem drawM_nonneg (n k : Int) : 0 ≤ drawM n k := Int.emod_nonneg _ (by decide)
theorem drawM_lt (n k : Int) : drawM n k < 2147483629 := Int.emod_lt_of_pos _ (by decide)
def f_law_drawn : List D → Option D := kII fun n k => some (.int (drawM n k))
def isNumB : D → Int → Int → Bool
  | .int i, lo, hi => decide (lo ≤ i) && decide (i ≤ hi)
  | _, _, _ => false
def f_law_number : List D → Option D := kAII fun x lo hi => some (.bl (isNumB x lo hi))
/-! drawn sums -/
def coefM (n s : Int) (k : Nat) : Int := drawM n k / 8 % s * (if n / 16 % 3 > 0 ∨ drawM n k % 3 = 0 then 1 else 0)
def sumM (n s m : Int) : List Int :=
  let l := (List.range (n % (m + 1)).toNat).map (coefM n s)
  if 0 < n % (m + 1) then l.set ((n % (m + 1)).toNat - 1) (1 + drawM n 40 % (s - 1)) else l
def f_law_sum : List D → Option D := kIII fun n s m => if 0 ≤ n ∧ 2 ≤ s ∧ s ≤ 5 ∧ 0 ≤ m ∧ m ≤ 20 then some (tI (sumM n s m)) else none
/-! whether it is a sum -/
def lastNZ (ds : List D) : Bool := match ds.getLast? with
  | some (.int i) => !decide (i = 0)
  | _ => true
def isSumB : D → Int → Bool
  | .tup ds, s => decide (ds.length ≤ 9) && ds.all (fun d => isNum d s) && lastNZ ds
  | _, _ => false
def f_is_sum : List D → Option D := kAI fun x s => some (.bl (isSumB x s))
mutual
def okN : Nat → D → Bool
  | _, .non => true
  | _, .bl _ => true
  | _, .int _ => true
  | _, .str z => z.cps.all (· < 0x110000)
  | 0, .tup _ => false
  | n + 1, .tup ds => okNA n ds
  | 0, .lst _ => false
  | n + 1, .lst ds => okNA n ds
  | _, .scr _ => false
def okNA : Nat → List D → Bool
  | _, [] => true
  | n, d :: ds => okN n d && okNA n ds
end
mutual
theorem okN_py : ∀ (d : D) (n : Nat), okN n d = true → ∃ p, toPy d = some p ∧ p.canLay0 = true ∧ p.depth ≤ n
  | .non, n, _ => ⟨.none, by simp only [toPy], by simp only [PyData.canLay0], by simp [PyData.depth]⟩
  | .bl b, n, _ => ⟨.bool b, by simp only [toPy], by simp only [PyData.canLay0], by simp [PyData.depth]⟩
  | .int i, n, _ => ⟨.int i, by simp only [toPy], by simp only [PyData.canLay0], by simp [PyData.depth]⟩
  | .str z, n, h => ⟨.str z, by simp only [toPy], by simp only [okN] at h; simp only [PyData.canLay0, PyData.strOk]; exact h, by simp [PyData.depth]⟩
  | .tup ds, 0, h => by simp only [okN] at h; cases h
  | .tup ds, n + 1, h => by
    simp only [okN] at h
    obtain ⟨ps, h1, h2, h3⟩ := okNA_py ds n h
    exact ⟨.tuple ps, by simp only [toPy, h1, Option.map_some], by simp only [PyData.canLay0]; exact h2, by simp only [PyData.depth]; omega⟩
  | .lst ds, 0, h => by simp only [okN] at h; cases h
  | .lst ds, n + 1, h => by
    simp only [okN] at h
    obtain ⟨ps, h1, h2, h3⟩ := okNA_py ds n h
    exact ⟨.list ps, by simp only [toPy, h1, Option.map_some], by simp only [PyData.canLay0]; exact h2, by simp only [PyData.depth]; omega⟩
  | .scr _, n, h => by simp only [okN] at h; cases h
theorem okNA_py : ∀ (ds : List D) (n : Nat), okNA n ds = true → ∃ ps, toPyA ds = some ps ∧ PyData.canLayAll0 ps = true ∧ PyData.depthAll ps ≤ n
  | [], n, _ => ⟨[], by simp only [toPyA], by simp only [PyData.canLayAll0], by simp [PyData.depthAll]⟩
  | d :: ds, n, h => by
    simp only [okNA, Bool.and_eq_true] at h
    obtain ⟨p, h1, h2, h3⟩ := okN_py d n h.1
    obtain ⟨ps, h4, h5, h6⟩ := okNA_py ds n h.2
    exact ⟨p :: ps, by simp only [toPyA, h1, h4, Option.bind_some, Option.map_some], by simp only [PyData.canLayAll0, h2, h5, Bool.and_self], by simp only [PyData.depthAll]; omega⟩
end
theorem okNA_filter {n : Nat} (p : D → Bool) : ∀ {ds : List D}, okNA n ds = true → okNA n (ds.filter p) = true
  | [], _ => rfl
  | d :: ds, h => by
    simp only [okNA, Bool.and_eq_true] at h
    rw [List.filter_cons]
    split
    · simp only [okNA, Bool.and_eq_true]; exact ⟨h.1, okNA_filter p h.2⟩
    · exact okNA_filter p h.2
theorem okNA_of {n : Nat} : ∀ {ds : List D}, (∀ d ∈ ds, okN n d = true) → okNA n ds = true
  | [], _ => rfl
  | d :: ds, h => by
    simp only [okNA, Bool.and_eq_true]
    exact ⟨h d (by simp), okNA_of fun e he => h e (by simp [he])⟩
theorem okNA_mem {n : Nat} : ∀ {ds : List D} {d : D}, okNA n ds = true → d ∈ ds → okN n d = true
  | e :: ds, d, h, m => by
    simp only [okNA, Bool.and_eq_true] at h
    rcases List.mem_cons.mp m with z | z
    · rw [z]; exact h.1
    · exact okNA_mem h.2 z
mutual
theorem okN_mono : ∀ (d : D) {m n : Nat}, m ≤ n → okN m d = true → okN n d = true
  | .non, m, n, _, _ => by simp only [okN]
  | .bl b, m, n, _, _ => by simp only [okN]
  | .int i, m, n, _, _ => by simp only [okN]
  | .str z, m, n, _, h => by simp only [okN] at h ⊢; exact h
  | .tup ds, 0, n, _, h => by simp only [okN] at h; cases h
  | .tup ds, m + 1, 0, l, h => by omega
  | .tup ds, m + 1, n + 1, l, h => by simp only [okN] at h ⊢; exact okNA_mono ds (by omega) h
  | .lst ds, 0, n, _, h => by simp only [okN] at h; cases h
  | .lst ds, m + 1, 0, l, h => by omega
  | .lst ds, m + 1, n + 1, l, h => by simp only [okN] at h ⊢; exact okNA_mono ds (by omega) h
  | .scr _, m, n, _, h => by simp only [okN] at h; cases h
theorem okNA_mono : ∀ (ds : List D) {m n : Nat}, m ≤ n → okNA m ds = true → okNA n ds = true
  | [], m, n, _, _ => by simp only [okNA]
  | d :: ds, m, n, l, h => by
    simp only [okNA, Bool.and_eq_true] at h ⊢
    exact ⟨okN_mono d l h.1, okNA_mono ds l h.2⟩
end
theorem eqB_lnil {ds : List D} (h : okNA 60 ds = true) : eqB (.lst ds) (.lst []) = some (decide (ds = [])) := by
  obtain ⟨ps, h1, h2, h3⟩ := okNA_py ds 60 h
  have s1 : SeqAt.shaped (.list ps) = true := by
    simp only [SeqAt.shaped, PyData.canLay0, PyData.depth, h2, Bool.true_and]
    exact decide_eq_true (by omega)
  have s2 : SeqAt.shaped (.list []) = true := by decide
  simp only [eqB, toPy, h1, toPyA, Option.map_some, Option.bind_some, s1, s2, and_self, if_true, PyData.eqv]
  cases ds with
  | nil => simp only [toPyA] at h1; cases h1; rfl
  | cons d r =>
    have : ps ≠ [] := fun z => by
      subst z
      simp only [toPyA] at h1
      cases hq : toPy d with
      | none => rw [hq] at h1; cases h1
      | some p => rw [hq] at h1; cases hr : toPyA r with
        | none => rw [hr] at h1; cases h1
        | some q => rw [hr] at h1; cases h1
    cases ps with
    | nil => exact absurd rfl this
    | cons a b => simp [PyData.eqvAll]
def isLongB : D → Int → Bool
  | .tup ds, s => ds.all (fun d => isNumB d 0 (s - 1)) && lastNZ ds
  | _, _ => false
def szD : D → Bool
  | .tup ds => decide (ds.length ≤ 1000000)
  | _ => true
@[simp] theorem eqD_nn : eqD (.tup []) (.tup []) = some (.bl true) := eqD_tI [] []
def f_law_is_long_sum : List D → Option D := kAI fun x s => if okN 60 x = true ∧ szD x = true then some (.bl (isLongB x s)) else none
def lenLe9 : D → Bool
  | .tup ds => decide (ds.length ≤ 9)
  | _ => true
def f_law_is_sum : List D → Option D := kAI fun x s => if okN 60 x = true ∧ szD x = true then some (.bl (isLongB x s && lenLe9 x)) else none
theorem all_int {ds : List D} {p : D → Bool} (hp : ∀ d, p d = true → ∃ i, d = .int i) (h : ds.all p = true) : ∃ ns : List Int, ds = ns.map .int := by
  induction ds with
  | nil => exact ⟨[], rfl⟩
  | cons d r ih =>
    rw [List.all_cons, Bool.and_eq_true] at h
    obtain ⟨i, rfl⟩ := hp d h.1
    obtain ⟨ns, rfl⟩ := ih h.2
    exact ⟨i :: ns, rfl⟩
theorem isNum_int {s : Int} : ∀ d, isNum d s = true → ∃ i, d = .int i
  | .int i, _ => ⟨i, rfl⟩
theorem isNumB_int {lo hi : Int} : ∀ d, isNumB d lo hi = true → ∃ i, d = .int i
  | .int i, _ => ⟨i, rfl⟩
/-- the last number is not nought -/
def nzL (ns : List Int) : Bool := match ns.getLast? with
  | some i => !decide (i = 0)
  | none => true
theorem lastNZ_ints (ns : List Int) : lastNZ (ns.map .int) = nzL ns := by
  unfold lastNZ nzL
  rw [List.getLast?_map]
  cases ns.getLast? <;> rfl
theorem nzL_nil : nzL [] = true := rfl
theorem nzL_some {ns : List Int} {i : Int} (h : ns.getLast? = some i) : nzL ns = !decide (i = 0) := by
  unfold nzL; rw [h]
theorem cutD_le (ds : List D) (lo hi : Option Int) : (cutD ds lo hi).length ≤ ds.length := by
  unfold cutD
  rw [List.length_take, List.length_drop]
  omega
/-! odd things, spoilt ones -/
def oddL : List D := [.int (-1), .int 0, .int 1, .int 2, .int 5, .bl true, .bl false, .non, .str "", .str "x", .tup [], .lst [], .tup [.int 0], .tup [.int 1], .tup [.int 1, .int 0], .tup [.int 0, .int 1], .tup [.int 5], .tup [.non], .lst [.int 1],
  .tup [.int 1, .int 1, .int 1], .tup [.tup [.int 1]], .tup [.bl true], .tup [.int 0, .int 0], .int 3, .tup [.int 1, .int (-1)]]
def oddM (n : Int) : Option D := atI oddL (n % 25)
def f_law_odd : List D → Option D := kI fun n => oddM n
def spT (ds : List D) (n : Int) : List D := [.lst ds, .tup (cutD ds none (some (-1))), .tup (ds ++ cutD ds (some (-1)) none), .tup (cutD ds (some 1) none), .tup ds.reverse, .tup (cutD (List.replicate 11 ds).flatten none (some (7 + n / 72 % 5)))]
def spI (i : Int) : List D := [.str (toString i), .int (-i), .int (i + 1), .bl (decide (i = 1)), .int (i + 5)]
def spoilt1 (rc : D → Int → Option D) (pos : Bool) (x : D) (n : Int) : Option D := match x with
  | .tup ds => if ds.length ≤ 20 then
      if pos = true ∧ 0 < ds.length ∧ 0 < n % 6 then (atI ds (n / 6 % ds.length)).bind fun y => (rc y (n / 60)).map fun p => .tup (cutD ds none (some (n / 6 % ds.length)) ++ [p] ++ cutD ds (some (n / 6 % ds.length + 1)) none)
      else if 0 < ds.length ∧ n / 6 % 2 = 0 then atI (spT ds n) (n / 12 % 6) else oddM (n / 6)
    else none
  | .int i => if -1000 ≤ i ∧ i ≤ 1000 then if n / 6 % 2 = 0 then atI (spI i) (n / 12 % 5) else oddM (n / 6) else none
  | _ => none
def f_law_spoilt : List D → Option D := kAII fun x n deep => if deep ≤ 1 then spoilt1 (spoilt1 (fun _ _ => none) false) (decide (0 < deep)) x n else none
/-! the law's own drawing -/
def szM (n : Int) : Int := if n % 3 = 0 then 2 else if n % 3 = 1 then 3 else 5
theorem szM_mem (n : Int) : szM n = 2 ∨ szM n = 3 ∨ szM n = 5 := by
  unfold szM
  split
  · exact .inl rfl
  · split
    · exact .inr (.inl rfl)
    · exact .inr (.inr rfl)
theorem atI_235 (n : Int) : atI [D.int 2, D.int 3, D.int 5] (n % 3) = some (.int (szM n)) := by
  have h : n % 3 = 0 ∨ n % 3 = 1 ∨ n % 3 = 2 := by omega
  unfold szM
  rcases h with h | h | h <;> rw [h] <;> rfl
/-- numbers of the clock, at most so many -/
structure NumsOk (ns : List Int) (s : Int) (m : Nat) : Prop where
  lo : ∀ i ∈ ns, 0 ≤ i
  hi : ∀ i ∈ ns, i < s
  len : ns.length ≤ m
theorem sumM_mem {n s m : Int} (hs : 2 ≤ s) {i : Int} (h : i ∈ sumM n s m) : 0 ≤ i ∧ i < s := by
  have hc : ∀ k : Nat, 0 ≤ coefM n s k ∧ coefM n s k < s := fun k => by
    have h1 := Int.emod_nonneg (drawM n k / 8) (show s ≠ 0 by omega)
    have h2 := Int.emod_lt_of_pos (drawM n k / 8) (show 0 < s by omega)
    unfold coefM
    split
    · rw [Int.mul_one]; exact ⟨h1, h2⟩
    · rw [Int.mul_zero]; omega
  have hl : ∀ j ∈ (List.range (n % (m + 1)).toNat).map (coefM n s), 0 ≤ j ∧ j < s := fun j hj => by
    obtain ⟨k, _, rfl⟩ := List.mem_map.mp hj
    exact hc k
  have h40 : 0 ≤ 1 + drawM n 40 % (s - 1) ∧ 1 + drawM n 40 % (s - 1) < s := by
    have h1 := Int.emod_nonneg (drawM n 40) (show s - 1 ≠ 0 by omega)
    have h2 := Int.emod_lt_of_pos (drawM n 40) (show 0 < s - 1 by omega)
    omega
  unfold sumM at h
  simp only at h
  split at h
  · rcases List.mem_or_eq_of_mem_set h with h | h
    · exact hl i h
    · rw [h]; exact h40
  · exact hl i h
theorem sumM_len (n s m : Int) : (sumM n s m).length = (n % (m + 1)).toNat := by
  unfold sumM
  simp only
  split <;> simp
theorem sumM_ok (n s m : Int) (hs : 2 ≤ s) (hm : 0 ≤ m ∧ m ≤ 20 := by omega) : NumsOk (sumM n s m) s m.toNat := by
  refine ⟨fun i hi => (sumM_mem hs hi).1, fun i hi => (sumM_mem hs hi).2, ?_⟩
  rw [sumM_len]
  have := Int.emod_lt_of_pos n (show 0 < m + 1 by omega)
  omega
theorem okNA_ints (n : Nat) : ∀ ns : List Int, okNA n (ns.map .int) = true
  | [] => by simp only [List.map_nil, okNA]
  | i :: ns => by simp only [List.map_cons, okNA, okN, okNA_ints n ns, Bool.and_self]
theorem tI_ok {ns : List Int} {s : Int} {m : Nat} (h : NumsOk ns s m) (hm : m ≤ 1000 := by omega) : okN 60 (tI ns) = true ∧ szD (tI ns) = true := by
  refine ⟨by simp only [okN]; exact okNA_ints _ ns, ?_⟩
  have := h.len
  exact decide_eq_true (by rw [List.length_map]; omega)
theorem isSum_long (d : D) (s : Int) : isSumB d s = (isLongB d s && lenLe9 d) := by
  cases d with
  | tup ds =>
    have e : (fun d => isNum d s) = fun d => isNumB d 0 (s - 1) := by
      funext d
      cases d <;> simp only [isNum, isNumB]
      rename_i i
      congr 1
      exact decide_eq_decide.mpr (by omega)
    simp only [isSumB, isLongB, lenLe9, e]
    cases decide (ds.length ≤ 9) <;> cases (ds.all fun d => isNumB d 0 (s - 1)) <;> cases lastNZ ds <;> rfl
  | _ => rfl
theorem atI_mem {α : Type} {xs : List α} {i : Int} {v : α} (h : atI xs i = some v) : v ∈ xs := by
  obtain ⟨j, _, e⟩ := ixN_of (n := 0) h
  exact List.mem_of_getElem? e
theorem atI_ex {α : Type} {xs : List α} {i : Int} (h0 : 0 ≤ i) (h1 : i < xs.length) : ∃ v, atI xs i = some v :=
  ⟨_, atI_get h0 (List.getElem?_eq_getElem (show i.toNat < xs.length by omega))⟩
theorem odd_ok (n : Int) : ∃ d, oddM n = some d ∧ okN 4 d = true ∧ szD d = true := by
  have h1 := Int.emod_nonneg n (show (25 : Int) ≠ 0 by decide)
  have h2 := Int.emod_lt_of_pos n (show (0 : Int) < 25 by decide)
  obtain ⟨d, hd⟩ := atI_ex (xs := oddL) h1 (show n % 25 < (25 : Int) by omega)
  have all : ∀ d ∈ oddL, okN 4 d = true ∧ szD d = true := by
    intro d hd
    simp only [oddL, List.mem_cons, List.not_mem_nil, or_false] at hd
    rcases hd with rfl | rfl | rfl | rfl | rfl | rfl | rfl | rfl | rfl | rfl | rfl | rfl | rfl | rfl | rfl | rfl | rfl | rfl | rfl | rfl | rfl | rfl | rfl | rfl | rfl <;> exact ⟨by decide +kernel, by decide +kernel⟩
  exact ⟨d, hd, all d (atI_mem hd)⟩
theorem cps_str (s : String) : (Str.ofString s).cps.all (· < 0x110000) = true := by
  rw [Str.ofString_eq_toList]
  rw [Array.all_eq_true_iff_forall_mem]
  intro x hx
  simp only [List.mem_toArray, List.mem_map] at hx
  obtain ⟨c, _, rfl⟩ := hx
  have := c.valid
  simp only [decide_eq_true_eq]
  rcases this with h | ⟨h1, h2⟩
  · exact Nat.lt_trans h (by decide)
  · exact h2
theorem okNA_app {n : Nat} : ∀ {ds es : List D}, okNA n ds = true → okNA n es = true → okNA n (ds ++ es) = true
  | [], _, _, h => h
  | d :: ds, es, h, g => by
    simp only [okNA, Bool.and_eq_true, List.cons_append] at h ⊢
    exact ⟨h.1, okNA_app h.2 g⟩
theorem okNA_cut {n : Nat} {ds : List D} (h : okNA n ds = true) (lo hi : Option Int) : okNA n (cutD ds lo hi) = true :=
  okNA_of fun d hd => okNA_mem h (List.mem_of_mem_drop (List.mem_of_mem_take hd))
theorem spI_ok {i n : Int} : ∃ d, atI (spI i) (n / 12 % 5) = some d ∧ okN 4 d = true ∧ szD d = true := by
  obtain ⟨d, hd⟩ := atI_ex (xs := spI i) (i := n / 12 % 5) (Int.emod_nonneg _ (by decide)) (by have := Int.emod_lt_of_pos (n / 12) (show (0 : Int) < 5 by decide); show n / 12 % 5 < 5; omega)
  refine ⟨d, hd, ?_⟩
  have m := atI_mem hd
  simp only [spI, List.mem_cons, List.not_mem_nil, or_false] at m
  rcases m with rfl | rfl | rfl | rfl | rfl
  · exact ⟨by simp only [okN]; exact cps_str _, rfl⟩
  · exact ⟨rfl, rfl⟩
  · exact ⟨rfl, rfl⟩
  · exact ⟨rfl, rfl⟩
  · exact ⟨rfl, rfl⟩
theorem spT_ok {ds : List D} {k : Nat} (hk : okNA k ds = true) (hl : ds.length ≤ 20) (n : Int) : ∃ d, atI (spT ds n) (n / 12 % 6) = some d ∧ okN (k + 1) d = true ∧ szD d = true := by
  obtain ⟨d, hd⟩ := atI_ex (xs := spT ds n) (i := n / 12 % 6) (Int.emod_nonneg _ (by decide)) (by have := Int.emod_lt_of_pos (n / 12) (show (0 : Int) < 6 by decide); show n / 12 % 6 < 6; omega)
  refine ⟨d, hd, ?_⟩
  have m := atI_mem hd
  have tup : ∀ es : List D, okNA k es = true → es.length ≤ 1000 → okN (k + 1) (.tup es) = true ∧ szD (.tup es) = true := fun es h1 h2 => ⟨by simp only [okN]; exact h1, decide_eq_true (by omega)⟩
  have rp : ∀ m : Nat, okNA k (List.replicate m ds).flatten = true ∧ (List.replicate m ds).flatten.length = m * ds.length := fun m => by
    induction m with
    | zero => exact ⟨rfl, by simp⟩
    | succ m ih =>
      rw [List.replicate_succ, List.flatten_cons]
      refine ⟨okNA_app hk ih.1, ?_⟩
      rw [List.length_append, ih.2, Nat.succ_mul]
      omega
  simp only [spT, List.mem_cons, List.not_mem_nil, or_false] at m
  rcases m with rfl | rfl | rfl | rfl | rfl | rfl
  · exact ⟨by simp only [okN]; exact hk, rfl⟩
  · exact tup _ (okNA_cut hk _ _) (Nat.le_trans (cutD_le _ _ _) (by omega))
  · refine tup _ (okNA_app hk (okNA_cut hk _ _)) ?_
    rw [List.length_append]
    have := cutD_le ds (some (-1)) none
    omega
  · exact tup _ (okNA_cut hk _ _) (Nat.le_trans (cutD_le _ _ _) (by omega))
  · exact tup _ (okNA_of fun d hd => okNA_mem hk (List.mem_reverse.mp hd)) (by rw [List.length_reverse]; omega)
  · refine tup _ (okNA_cut (rp 11).1 _ _) (Nat.le_trans (cutD_le _ _ _) ?_)
    rw [(rp 11).2]
    omega
theorem spoilt_ok {ns : List Int} {s n deep : Int} {m : Nat} (h : NumsOk ns s m) (hm : m ≤ 20) (hs : s ≤ 5) (hd : deep ≤ 1 := by omega) : ∃ d, f_law_spoilt [tI ns, .int n, .int deep] = some d ∧ okN 60 d = true ∧ szD d = true := by
  have hl : (ns.map D.int).length ≤ 20 := by rw [List.length_map]; exact Nat.le_trans h.len hm
  have up : ∀ {k : Nat} {d : D}, k ≤ 60 → okN k d = true → okN 60 d = true := fun h => okN_mono _ h
  simp only [f_law_spoilt, kAII_mk, if_pos hd]
  unfold spoilt1
  simp only [if_pos hl]
  split
  · rename_i hc
    have hlen : 0 < ((ns.map D.int).length : Int) := by have := hc.2.1; omega
    have e1 := Int.emod_nonneg (n / 6) (show ((ns.map D.int).length : Int) ≠ 0 by omega)
    have e2 := Int.emod_lt_of_pos (n / 6) hlen
    obtain ⟨y, hy⟩ := atI_ex (xs := ns.map D.int) e1 e2
    rw [hy]
    obtain ⟨i, hi, rfl⟩ := List.mem_map.mp (atI_mem hy)
    have lo := h.lo i hi
    have hi := h.hi i hi
    simp only [Option.bind_some, if_pos (show -1000 ≤ i ∧ i ≤ 1000 by omega)]
    have fin : ∀ p, okN 4 p = true → okN 60 (.tup (cutD (ns.map D.int) none (some (n / 6 % ((ns.map D.int).length : Int))) ++ [p] ++ cutD (ns.map D.int) (some (n / 6 % ((ns.map D.int).length : Int) + 1)) none)) = true ∧ szD (.tup (cutD (ns.map D.int) none (some (n / 6 % ((ns.map D.int).length : Int))) ++ [p] ++ cutD (ns.map D.int) (some (n / 6 % ((ns.map D.int).length : Int) + 1)) none)) = true := fun p hp => by
      refine ⟨?_, ?_⟩
      · simp only [okN]
        refine okNA_app (okNA_app (okNA_cut (okNA_ints _ _) _ _) ?_) (okNA_cut (okNA_ints _ _) _ _)
        simp only [okNA, Bool.and_true]
        exact okN_mono _ (by decide) hp
      · refine decide_eq_true ?_
        have l1 := cutD_le (ns.map D.int) none (some (n / 6 % ((ns.map D.int).length : Int)))
        have l2 := cutD_le (ns.map D.int) (some (n / 6 % ((ns.map D.int).length : Int) + 1)) none
        rw [List.length_append, List.length_append, List.length_singleton]
        omega
    split
    · obtain ⟨d, hd, h4, _⟩ := spI_ok (i := i) (n := n / 60)
      rw [hd]
      exact ⟨_, rfl, fin d h4⟩
    · obtain ⟨d, hd, h4, _⟩ := odd_ok (n / 60 / 6)
      rw [hd]
      exact ⟨_, rfl, fin d h4⟩
  · split
    · obtain ⟨d, hd, h4, h5⟩ := spT_ok (okNA_ints 3 ns) hl n
      exact ⟨d, hd, up (by decide) h4, h5⟩
    · obtain ⟨d, hd, h4, h5⟩ := odd_ok (n / 6)
      exact ⟨d, hd, up (by decide) h4, h5⟩
def f_law : List D → Option D := kC fun ns => if ns.length ≤ 63 then some (.bl true) else none
theorem f_law_true (ns : List Int) (h : ns.length ≤ 63) : f_law [.scr ns] = some (.bl true) := by simp [f_law, kC, h]
end Pf

set_option Elab.async false
set_option linter.all false
set_option maxRecDepth 100000
set_option maxHeartbeats 2000000
/-! Pm2: sums as elements of a ring. -/
namespace Pf
def conv : Nat → (Nat → Int) → (Nat → Int) → Int
  | 0, p, q => p 0 * q 0
  | n + 1, p, q => p 0 * q (n + 1) + conv n (fun i => p (i + 1)) q
theorem conv_cong {s : Int} : ∀ (n : Nat) {p p' q q' : Nat → Int}, (∀ i, p i % s = p' i % s) → (∀ i, q i % s = q' i % s) → conv n p q % s = conv n p' q' % s
  | 0, p, p', q, q', h1, h2 => by
    simp only [conv]
    rw [Int.mul_emod, h1, h2, ← Int.mul_emod]
  | n + 1, p, p', q, q', h1, h2 => by
    simp only [conv]
    rw [Int.add_emod, Int.mul_emod, h1, h2, ← Int.mul_emod, conv_cong n (fun i => h1 (i + 1)) h2, ← Int.add_emod]
theorem conv_addl : ∀ (n : Nat) (p p' q : Nat → Int), conv n (fun i => p i + p' i) q = conv n p q + conv n p' q
  | 0, p, p', q => by simp only [conv]; rw [Int.add_mul]
  | n + 1, p, p', q => by
    simp only [conv]
    rw [conv_addl n (fun i => p (i + 1)) (fun i => p' (i + 1)) q, Int.add_mul]
    omega
theorem conv_mull : ∀ (n : Nat) (c : Int) (p q : Nat → Int), conv n (fun i => c * p i) q = c * conv n p q
  | 0, c, p, q => by simp only [conv]; rw [Int.mul_assoc]
  | n + 1, c, p, q => by
    simp only [conv]
    rw [conv_mull n c (fun i => p (i + 1)) q, Int.mul_add, Int.mul_assoc]
theorem conv_succ : ∀ (n : Nat) (p q : Nat → Int), conv (n + 1) p q = p (n + 1) * q 0 + conv n p (fun i => q (i + 1))
  | 0, p, q => by simp only [conv]; omega
  | n + 1, p, q => by
    rw [conv, conv_succ n (fun i => p (i + 1)) q]
    simp only [conv]
    omega
theorem conv_comm : ∀ (n : Nat) (p q : Nat → Int), conv n p q = conv n q p
  | 0, p, q => by simp only [conv]; rw [Int.mul_comm]
  | n + 1, p, q => by
    rw [conv_succ, conv, conv_comm n, Int.mul_comm]
theorem conv_assoc : ∀ (n : Nat) (p q r : Nat → Int), conv n (fun m => conv m p q) r = conv n p (fun m => conv m q r)
  | 0, p, q, r => by simp only [conv]; rw [Int.mul_assoc]
  | n + 1, p, q, r => by
    rw [conv, conv]
    simp only [conv]
    rw [conv_addl n (fun i => p 0 * q (i + 1)) (fun i => conv i (fun i => p (i + 1)) q) r, conv_mull n (p 0) (fun i => q (i + 1)) r, conv_assoc n (fun i => p (i + 1)) q r, Int.mul_add, Int.mul_assoc]
    omega
def unitF (c : Int) : Nat → Int := fun i => if i = 0 then c else 0
theorem conv_zero : ∀ (n : Nat) (q : Nat → Int), conv n (fun _ => 0) q = 0
  | 0, q => by simp only [conv]; rw [Int.zero_mul]
  | n + 1, q => by simp only [conv]; rw [conv_zero n, Int.zero_mul]; rfl
theorem conv_unit (n : Nat) (c : Int) (q : Nat → Int) : conv n (unitF c) q = c * q n := by
  cases n with
  | zero => rfl
  | succ n =>
    simp only [conv]
    have : (fun i => unitF c (i + 1)) = fun _ => 0 := rfl
    rw [this, conv_zero]
    simp [unitF]
def rgS (s : Int) : Setoid (Nat → Int) := ⟨fun f g => ∀ i, f i % s = g i % s, fun _ _ => rfl, fun h i => (h i).symm, fun h g i => (h i).trans (g i)⟩
/-- sums (and longer ones) on a clock -/
def Rg (s : Int) : Type := Quotient (rgS s)
def mkR (s : Int) (f : Nat → Int) : Rg s := Quotient.mk (rgS s) f
theorem mkR_eq {s : Int} {f g : Nat → Int} : mkR s f = mkR s g ↔ ∀ i, f i % s = g i % s := ⟨fun h => Quotient.exact h, fun h => Quotient.sound h⟩
variable {s : Int}
def addR : Rg s → Rg s → Rg s := Quotient.lift₂ (fun f g => mkR s fun i => f i + g i) fun a b a' b' h1 h2 => mkR_eq.mpr fun i => by rw [Int.add_emod, h1 i, h2 i, ← Int.add_emod]
def mulR : Rg s → Rg s → Rg s := Quotient.lift₂ (fun f g => mkR s fun i => conv i f g) fun a b a' b' h1 h2 => mkR_eq.mpr fun i => conv_cong i h1 h2
def negR : Rg s → Rg s := Quotient.lift (fun f => mkR s fun i => - f i) fun a b h => mkR_eq.mpr fun i => by
  have h : a i % s = b i % s := h i
  have : (-1 * a i) % s = (-1 * b i) % s := by rw [Int.mul_emod, h, ← Int.mul_emod]
  simpa using this
def powR (a : Rg s) : Nat → Rg s
  | 0 => mkR s (unitF 1)
  | n + 1 => mulR (powR a n) a
theorem rg_ind {p : Rg s → Prop} (h : ∀ f, p (mkR s f)) : ∀ a, p a := fun a => Quotient.ind h a
instance : Add (Rg s) := ⟨addR⟩
instance : Mul (Rg s) := ⟨mulR⟩
instance : Neg (Rg s) := ⟨negR⟩
instance : Sub (Rg s) := ⟨fun a b => a + -b⟩
instance : NatCast (Rg s) := ⟨fun n => mkR s (unitF n)⟩
instance : IntCast (Rg s) := ⟨fun n => mkR s (unitF n)⟩
instance (n : Nat) : OfNat (Rg s) n := ⟨mkR s (unitF n)⟩
instance : SMul Nat (Rg s) := ⟨fun n a => (n : Rg s) * a⟩
instance : SMul Int (Rg s) := ⟨fun n a => (n : Rg s) * a⟩
instance : HPow (Rg s) Nat (Rg s) := ⟨powR⟩
theorem add_mk (f g : Nat → Int) : mkR s f + mkR s g = mkR s fun i => f i + g i := rfl
theorem mul_mk (f g : Nat → Int) : mkR s f * mkR s g = mkR s fun i => conv i f g := rfl
theorem neg_mk (f : Nat → Int) : - mkR s f = mkR s fun i => - f i := rfl
theorem nat_mk (n : Nat) : (n : Rg s) = mkR s (unitF n) := rfl
theorem int_mk (n : Int) : (n : Rg s) = mkR s (unitF n) := rfl
theorem ofn_mk (n : Nat) : (OfNat.ofNat n : Rg s) = mkR s (unitF n) := rfl
theorem mk_eq {f g : Nat → Int} (h : ∀ i, f i = g i) : mkR s f = mkR s g := congrArg _ (funext h)
theorem rg_mul_comm (a b : Rg s) : a * b = b * a := by
  revert a b
  exact rg_ind fun f => rg_ind fun g => mk_eq fun i => conv_comm i f g
theorem rg_ldist (a b c : Rg s) : a * (b + c) = a * b + a * c := by
  revert a b c
  exact rg_ind fun f => rg_ind fun g => rg_ind fun h => mk_eq fun i => by
    show conv i f (fun i => g i + h i) = conv i f g + conv i f h
    rw [conv_comm, conv_addl, conv_comm i g, conv_comm i h]
theorem rg_one_mul (a : Rg s) : 1 * a = a := by
  revert a
  exact rg_ind fun f => mk_eq fun i => by
    show conv i (unitF 1) f = f i
    rw [conv_unit, Int.one_mul]
theorem rg_zero_mul (a : Rg s) : 0 * a = 0 := by
  revert a
  exact rg_ind fun f => mk_eq fun i => by
    show conv i (unitF 0) f = unitF 0 i
    rw [conv_unit, Int.zero_mul]
    simp [unitF]
instance : Lean.Grind.Semiring (Rg s) where
  add_zero := rg_ind fun f => mk_eq fun i => by
    show f i + unitF 0 i = f i
    simp [unitF]
  add_comm := rg_ind fun f => rg_ind fun g => mk_eq fun i => Int.add_comm _ _
  add_assoc := rg_ind fun f => rg_ind fun g => rg_ind fun h => mk_eq fun i => Int.add_assoc _ _ _
  mul_assoc := rg_ind fun f => rg_ind fun g => rg_ind fun h => mk_eq fun i => conv_assoc i f g h
  mul_one a := by rw [rg_mul_comm, rg_one_mul]
  one_mul := rg_one_mul
  left_distrib := rg_ldist
  right_distrib a b c := by rw [rg_mul_comm, rg_ldist, rg_mul_comm c, rg_mul_comm c]
  zero_mul := rg_zero_mul
  mul_zero a := by rw [rg_mul_comm, rg_zero_mul]
  pow_zero a := rfl
  pow_succ a n := rfl
  ofNat_succ n := mk_eq fun i => by
    show unitF ((n + 1 : Nat) : Int) i = unitF (n : Int) i + unitF ((1 : Nat) : Int) i
    unfold unitF
    split <;> simp
  ofNat_eq_natCast n := rfl
  nsmul_eq_natCast_mul n a := rfl
instance : Lean.Grind.Ring (Rg s) where
  neg_add_cancel := rg_ind fun f => mk_eq fun i => by
    show - f i + f i = unitF 0 i
    unfold unitF
    split <;> omega
  sub_eq_add_neg a b := rfl
  neg_zsmul i := rg_ind fun f => mk_eq fun j => by
    show conv j (unitF (-i)) f = - conv j (unitF i) f
    rw [conv_unit, conv_unit, Int.neg_mul]
  zsmul_natCast_eq_nsmul n a := rfl
  intCast_ofNat n := rfl
  intCast_neg i := mk_eq fun j => by
    show unitF (-i) j = - unitF i j
    unfold unitF
    split <;> rfl
instance : Lean.Grind.CommRing (Rg s) where
  mul_comm := rg_mul_comm
theorem rg_s0 (n : Nat) (h : (n : Int) = s) : (OfNat.ofNat n : Rg s) = 0 := mkR_eq.mpr fun i => by
  subst h
  unfold unitF
  split <;> simp
end Pf

set_option Elab.async false
set_option linter.all false
set_option maxRecDepth 100000
set_option maxHeartbeats 2000000
/-! Pm3: lists of numbers and the ring. -/
namespace Pf
section
variable {s : Int}
def cf (l : List Int) (i : Nat) : Int := l.getD i 0
theorem cf_nil (i : Nat) : cf [] i = 0 := rfl
theorem cf_ge {l : List Int} {i : Nat} (h : l.length ≤ i) : cf l i = 0 := by
  unfold cf; rw [List.getD_eq_getElem?_getD, List.getElem?_eq_none h]; rfl
theorem cf_lt {l : List Int} {i : Nat} (h : i < l.length) : cf l i = l[i] := by
  unfold cf; rw [List.getD_eq_getElem?_getD, List.getElem?_eq_getElem h]; rfl
theorem cf_mem {l : List Int} {i : Nat} (h : i < l.length) : cf l i ∈ l := by rw [cf_lt h]; exact List.getElem_mem h
theorem cf_get {l : List Int} {i : Nat} {x : Int} (h : l[i]? = some x) : cf l i = x := by
  unfold cf; rw [List.getD_eq_getElem?_getD, h]; rfl
theorem cf_ext {a b : List Int} (h : a.length = b.length) (e : ∀ i, i < a.length → cf a i = cf b i) : a = b := by
  apply List.ext_getElem h
  intro i h1 h2
  rw [← cf_lt h1, ← cf_lt h2, e i h1]
theorem cf_map (f : Int → Int) (l : List Int) {i : Nat} (h : i < l.length) : cf (l.map f) i = f (cf l i) := by
  rw [cf_lt (by simpa using h), cf_lt h, List.getElem_map]
theorem cf_rng (f : Nat → Int) (n i : Nat) : cf ((List.range n).map f) i = if i < n then f i else 0 := by
  split
  · rw [cf_lt (by simpa using by assumption)]; simp
  · rw [cf_ge (by simpa using by omega)]
theorem cf_set (l : List Int) (j : Nat) (x : Int) (i : Nat) (h : j < l.length) : cf (l.set j x) i = if i = j then x else cf l i := by
  by_cases hi : i < l.length
  · rw [cf_lt (by simpa using hi), cf_lt hi, List.getElem_set]
    by_cases e : j = i
    · rw [if_pos e, if_pos e.symm]
    · rw [if_neg e, if_neg (fun z => e z.symm)]
  · rw [cf_ge (by simpa using by omega), cf_ge (by omega), if_neg (by omega)]
theorem cf_rep (n : Nat) (x : Int) (i : Nat) : cf (List.replicate n x) i = if i < n then x else 0 := by
  split
  · rw [cf_lt (by simpa using by assumption)]; simp
  · rw [cf_ge (by simpa using by omega)]
theorem cf_app (a b : List Int) (i : Nat) : cf (a ++ b) i = if i < a.length then cf a i else cf b (i - a.length) := by
  unfold cf
  simp only [List.getD_eq_getElem?_getD]
  split
  · rw [List.getElem?_append_left (by assumption)]
  · rw [List.getElem?_append_right (by omega)]
theorem cf_take (l : List Int) (n i : Nat) : cf (l.take n) i = if i < n then cf l i else 0 := by
  unfold cf
  simp only [List.getD_eq_getElem?_getD]
  split
  · rw [List.getElem?_take_of_lt (by assumption)]
  · rw [List.getElem?_eq_none (by simp; omega)]; rfl
theorem cf_cons (a : Int) (l : List Int) (i : Nat) : cf (a :: l) (i + 1) = cf l i := rfl
theorem cf_cons0 (a : Int) (l : List Int) : cf (a :: l) 0 = a := rfl
theorem cf_last {l : List Int} {x : Int} (h : l.getLast? = some x) : l ≠ [] ∧ cf l (l.length - 1) = x := by
  have hne : l ≠ [] := fun z => by subst z; cases h
  refine ⟨hne, ?_⟩
  have hp := List.length_pos_iff.mpr hne
  rw [cf_lt (by omega)]
  rw [List.getLast?_eq_getElem?] at h
  rw [List.getElem?_eq_getElem (by omega)] at h
  exact Option.some.inj h
/-- noughts at the end left out -/
def trimM : List Int → List Int
  | [] => []
  | a :: r => if trimM r = [] ∧ a = 0 then [] else a :: trimM r
theorem trim_cf : ∀ (l : List Int) (i : Nat), cf (trimM l) i = cf l i
  | [], i => rfl
  | a :: r, i => by
    unfold trimM
    split
    · rename_i h
      cases i with
      | zero => rw [cf_nil, cf_cons0, h.2]
      | succ i => rw [cf_nil, cf_cons, ← trim_cf r i, h.1, cf_nil]
    · cases i with
      | zero => rfl
      | succ i => rw [cf_cons, cf_cons, trim_cf r i]
theorem trim_len : ∀ l : List Int, (trimM l).length ≤ l.length
  | [] => Nat.le_refl _
  | a :: r => by
    have := trim_len r
    unfold trimM
    split <;> simp <;> omega
theorem trim_mem : ∀ {l : List Int} {x : Int}, x ∈ trimM l → x ∈ l
  | [], x, h => h
  | a :: r, x, h => by
    unfold trimM at h
    split at h
    · cases h
    · rcases List.mem_cons.mp h with z | z
      · rw [z]; simp
      · exact List.mem_cons_of_mem _ (trim_mem z)
theorem nzL_cons {a : Int} {l : List Int} : nzL (a :: l) = if l = [] then !decide (a = 0) else nzL l := by
  unfold nzL
  cases l with
  | nil => rfl
  | cons b r =>
    rw [if_neg (List.cons_ne_nil b r), List.getLast?_cons_cons]
theorem trim_nz : ∀ l : List Int, nzL (trimM l) = true
  | [] => rfl
  | a :: r => by
    unfold trimM
    split
    · rfl
    · rename_i h
      rw [nzL_cons]
      split
      · rename_i h2
        have : a ≠ 0 := fun z => h ⟨h2, z⟩
        simp [this]
      · exact trim_nz r
theorem trim_id : ∀ {l : List Int}, nzL l = true → trimM l = l
  | [], _ => rfl
  | a :: r, h => by
    rw [nzL_cons] at h
    unfold trimM
    split at h
    · rename_i h2
      subst h2
      have : a ≠ 0 := by simpa using h
      rw [if_neg (fun z => this z.2)]
      rfl
    · rename_i h2
      rw [trim_id h, if_neg (fun z => h2 z.1)]
theorem trim_snoc0 : ∀ l : List Int, trimM (l ++ [0]) = trimM l
  | [] => rfl
  | a :: r => by
    have := trim_snoc0 r
    rw [List.cons_append]
    simp only [trimM, this]
theorem nz_last {l : List Int} (h : nzL l = true) (hne : l ≠ []) : cf l (l.length - 1) ≠ 0 := by
  cases q : l.getLast? with
  | none => exact absurd (List.getLast?_eq_none_iff.mp q) hne
  | some x =>
    rw [(cf_last q).2]
    rw [nzL_some q] at h
    simpa using h
theorem nz_of {l : List Int} (h : l ≠ [] → cf l (l.length - 1) ≠ 0) : nzL l = true := by
  cases q : l.getLast? with
  | none => rw [List.getLast?_eq_none_iff.mp q]; rfl
  | some x =>
    obtain ⟨h1, h2⟩ := cf_last q
    have := h h1
    rw [h2] at this
    rw [nzL_some q]
    simpa using this
/-! coefficients of a ring element -/
def ce (x : Rg s) (i : Nat) : Int := Quotient.lift (s := rgS s) (fun f => f i % s) (fun _ _ h => h i) x
theorem ce_mk (f : Nat → Int) (i : Nat) : ce (mkR s f) i = f i % s := rfl
theorem rg_ext {x y : Rg s} (h : ∀ i, ce x i = ce y i) : x = y := by
  have : ∀ x y : Rg s, (∀ i, ce x i = ce y i) → x = y := rg_ind fun f => rg_ind fun g h => mkR_eq.mpr h
  exact this x y h
theorem ce_add (x y : Rg s) (i : Nat) : ce (x + y) i = (ce x i + ce y i) % s := by
  revert x y
  refine rg_ind fun f => rg_ind fun g => ?_
  rw [add_mk, ce_mk, ce_mk, ce_mk, ← Int.add_emod]
theorem ce_neg (x : Rg s) (i : Nat) : ce (-x) i = (- ce x i) % s := by
  revert x
  refine rg_ind fun f => ?_
  rw [neg_mk, ce_mk, ce_mk]
  have := Int.mul_emod (-1) (f i) s
  have h2 := Int.mul_emod (-1) (f i % s) s
  rw [Int.emod_emod] at h2
  have e := this.trans h2.symm
  simpa using e
theorem ce_mul (x y : Rg s) (n : Nat) : ce (x * y) n = conv n (ce x) (ce y) % s := by
  revert x y
  refine rg_ind fun f => rg_ind fun g => ?_
  rw [mul_mk, ce_mk]
  exact (conv_cong n (fun i => by rw [ce_mk, Int.emod_emod]) (fun i => by rw [ce_mk, Int.emod_emod])).symm
theorem ce_lo (hs : 0 < s) (x : Rg s) (i : Nat) : 0 ≤ ce x i := by
  revert x
  exact rg_ind fun f => Int.emod_nonneg _ (by omega)
theorem ce_hi (hs : 0 < s) (x : Rg s) (i : Nat) : ce x i < s := by
  revert x
  exact rg_ind fun f => Int.emod_lt_of_pos _ hs
theorem ce_zero (i : Nat) : ce (0 : Rg s) i = 0 := by
  rw [ofn_mk, ce_mk]; unfold unitF; split <;> simp
theorem ce_int (c : Int) (i : Nat) : ce (c : Rg s) i = if i = 0 then c % s else 0 := by
  rw [int_mk, ce_mk]; unfold unitF; split <;> simp
/-- of length n at most -/
def Le (x : Rg s) (n : Nat) : Prop := ∀ i, n ≤ i → ce x i = 0
theorem Le.mono {x : Rg s} {m n : Nat} (h : Le x m) (k : m ≤ n) : Le x n := fun i hi => h i (by omega)
theorem Le.add {x y : Rg s} {n : Nat} (h : Le x n) (g : Le y n) : Le (x + y) n := fun i hi => by rw [ce_add, h i hi, g i hi]; simp
theorem Le.neg {x : Rg s} {n : Nat} (h : Le x n) : Le (-x) n := fun i hi => by rw [ce_neg, h i hi]; simp
theorem Le.sub {x y : Rg s} {n : Nat} (h : Le x n) (g : Le y n) : Le (x - y) n := h.add g.neg
theorem le_zero {n : Nat} : Le (0 : Rg s) n := fun i _ => ce_zero i
theorem le_int (c : Int) : Le (c : Rg s) 1 := fun i hi => by rw [ce_int, if_neg (by omega)]
theorem le_0 {x : Rg s} : Le x 0 ↔ x = 0 := ⟨fun h => rg_ext fun i => by rw [h i (Nat.zero_le _), ce_zero], fun h => by rw [h]; exact le_zero⟩
theorem conv_hi : ∀ (n m k : Nat) (f g : Nat → Int), (∀ i, n < i → f i = 0) → (∀ i, m < i → g i = 0) → n + m < k → conv k f g = 0
  | 0, m, 0, f, g, _, _, h => by omega
  | 0, m, k + 1, f, g, h1, h2, h => by
    have e : (fun i => f (i + 1)) = fun _ => 0 := funext fun i => h1 _ (by omega)
    rw [conv, e, conv_zero, h2 _ (by omega)]; omega
  | n + 1, m, 0, f, g, _, _, h => by omega
  | n + 1, m, k + 1, f, g, h1, h2, h => by
    rw [conv, h2 _ (by omega), conv_hi n m k (fun i => f (i + 1)) g (fun i hi => h1 _ (by omega)) h2 (by omega)]; omega
theorem conv_top : ∀ (n m : Nat) (f g : Nat → Int), (∀ i, n < i → f i = 0) → (∀ i, m < i → g i = 0) → conv (n + m) f g = f n * g m
  | 0, 0, f, g, _, _ => rfl
  | 0, m + 1, f, g, h1, h2 => by
    have e : (fun i => f (i + 1)) = fun _ => 0 := funext fun i => h1 _ (by omega)
    rw [Nat.zero_add, conv, e, conv_zero]; omega
  | n + 1, m, f, g, h1, h2 => by
    have e : n + 1 + m = n + m + 1 := by omega
    rw [e, conv, h2 _ (by omega), conv_top n m (fun i => f (i + 1)) g (fun i hi => h1 _ (by omega)) h2]; omega
theorem Le.mul {x y : Rg s} {n m : Nat} (h : Le x (n + 1)) (g : Le y (m + 1)) : Le (x * y) (n + m + 1) := fun i hi => by
  rw [ce_mul, conv_hi n m i _ _ (fun j hj => h j (by omega)) (fun j hj => g j (by omega)) (by omega)]; simp
theorem ce_top {x y : Rg s} {n m : Nat} (h : Le x (n + 1)) (g : Le y (m + 1)) : ce (x * y) (n + m) = ce x n * ce y m % s := by
  rw [ce_mul, conv_top n m _ _ (fun j hj => h j (by omega)) (fun j hj => g j (by omega))]
/-! lists in the ring -/
def pl (s : Int) (l : List Int) : Rg s := mkR s (cf l)
theorem ce_pl (l : List Int) (i : Nat) : ce (pl s l) i = cf l i % s := rfl
theorem le_pl (l : List Int) : Le (pl s l) l.length := fun i hi => by rw [ce_pl, cf_ge hi]; simp
theorem pl_trim (l : List Int) : pl s (trimM l) = pl s l := rg_ext fun i => by rw [ce_pl, ce_pl, trim_cf]
theorem pl_nil : pl s [] = 0 := rg_ext fun i => by rw [ce_pl, ce_zero, cf_nil]; simp
theorem pl_one : pl s [1] = 1 := mkR_eq.mpr fun i => by cases i <;> simp [cf, unitF]
/-- a sum, of whatever length -/
structure Can (s : Int) (l : List Int) : Prop where
  lo : ∀ i ∈ l, 0 ≤ i
  hi : ∀ i ∈ l, i < s
  nz : nzL l = true
theorem Can.nil : Can s [] := ⟨fun _ h => (nomatch h), fun _ h => (nomatch h), rfl⟩
theorem Can.cf_lo {l : List Int} (c : Can s l) (i : Nat) : 0 ≤ cf l i := by
  by_cases h : i < l.length
  · exact c.lo _ (cf_mem h)
  · rw [cf_ge (by omega)]; omega
theorem cf_mod {l : List Int} (h1 : ∀ i ∈ l, 0 ≤ i) (h2 : ∀ i ∈ l, i < s) (i : Nat) : cf l i % s = cf l i := by
  by_cases h : i < l.length
  · exact Int.emod_eq_of_lt (h1 _ (cf_mem h)) (h2 _ (cf_mem h))
  · rw [cf_ge (by omega)]; simp
theorem Can.ce {l : List Int} (c : Can s l) (i : Nat) : ce (pl s l) i = cf l i := cf_mod c.lo c.hi i
theorem Can.top {l : List Int} (c : Can s l) (h : l ≠ []) : Pf.ce (pl s l) (l.length - 1) ≠ 0 := by
  rw [c.ce]; exact nz_last c.nz h
theorem Can.le {l : List Int} (c : Can s l) {n : Nat} (h : Le (pl s l) n) : l.length ≤ n := by
  by_cases hl : l = []
  · rw [hl]; exact Nat.zero_le _
  · by_cases hn : l.length ≤ n
    · exact hn
    · exact absurd (h (l.length - 1) (by omega)) (c.top hl)
theorem can_ext {a b : List Int} (c : Can s a) (d : Can s b) (h : pl s a = pl s b) : a = b := by
  have h1 : a.length = b.length := Nat.le_antisymm (c.le (by rw [h]; exact le_pl b)) (d.le (by rw [← h]; exact le_pl a))
  refine cf_ext h1 fun i hi => ?_
  rw [← c.ce, ← d.ce, h]
theorem can_trim {l : List Int} (h1 : ∀ i ∈ l, 0 ≤ i) (h2 : ∀ i ∈ l, i < s) : Can s (trimM l) := ⟨fun i h => h1 i (trim_mem h), fun i h => h2 i (trim_mem h), trim_nz l⟩
/-- the list of a ring element -/
def li (x : Rg s) (n : Nat) : List Int := trimM ((List.range n).map (ce x))
theorem li_can (hs : 0 < s) (x : Rg s) (n : Nat) : Can s (li x n) := can_trim (fun i h => by
  obtain ⟨j, _, rfl⟩ := List.mem_map.mp h
  exact ce_lo hs x j) (fun i h => by
  obtain ⟨j, _, rfl⟩ := List.mem_map.mp h
  exact ce_hi hs x j)
theorem ce_mod (x : Rg s) (i : Nat) : ce x i % s = ce x i := by
  revert x
  exact rg_ind fun f => Int.emod_emod _ _
theorem pl_li {x : Rg s} {n : Nat} (h : Le x n) : pl s (li x n) = x := rg_ext fun i => by
  unfold li
  rw [pl_trim, ce_pl, cf_rng]
  split
  · exact ce_mod x i
  · rw [h i (by omega)]; simp
theorem li_len (x : Rg s) (n : Nat) : (li x n).length ≤ n := by
  have := trim_len ((List.range n).map (ce x))
  rw [List.length_map, List.length_range] at this
  exact this
theorem li_pl (hs : 0 < s) {l : List Int} (c : Can s l) {n : Nat} (h : l.length ≤ n) : li (pl s l) n = l :=
  can_ext (li_can hs _ _) c (pl_li ((le_pl l).mono h))
theorem li_ext (hs : 0 < s) {x : Rg s} {m n : Nat} (h : Le x m) (g : Le x n) : li x m = li x n :=
  can_ext (li_can hs _ _) (li_can hs _ _) (by rw [pl_li h, pl_li g])
/-- the three sizes -/
def Sz (s : Int) : Prop := s = 2 ∨ s = 3 ∨ s = 5
theorem Sz.pos (h : Sz s) : 0 < s := by rcases h with h | h | h <;> omega
theorem Sz.dom (h : Sz s) {a b : Int} (a0 : 0 ≤ a) (a1 : a < s) (b0 : 0 ≤ b) (b1 : b < s) (e : a * b % s = 0) : a = 0 ∨ b = 0 := by
  have : a = 0 ∨ a = 1 ∨ a = 2 ∨ a = 3 ∨ a = 4 := by rcases h with h | h | h <;> omega
  rcases h with h | h | h <;> subst h <;> rcases this with h | h | h | h | h <;> subst h <;> omega
theorem len_mul (h : Sz s) {a b c : List Int} (ca : Can s a) (cb : Can s b) (cc : Can s c) (ha : a ≠ []) (hb : b ≠ []) (e : pl s c = pl s a * pl s b) : c.length + 1 = a.length + b.length := by
  have la := List.length_pos_iff.mpr ha
  have lb := List.length_pos_iff.mpr hb
  have l1 : Le (pl s a) (a.length - 1 + 1) := by rw [Nat.sub_add_cancel la]; exact le_pl a
  have l2 : Le (pl s b) (b.length - 1 + 1) := by rw [Nat.sub_add_cancel lb]; exact le_pl b
  have l3 := cc.le (by rw [e]; exact l1.mul l2)
  have t := ce_top l1 l2
  have tn : ce (pl s c) (a.length - 1 + (b.length - 1)) ≠ 0 := by
    rw [e, t]
    intro z
    rcases h.dom (ce_lo h.pos _ _) (ce_hi h.pos _ _) (ce_lo h.pos _ _) (ce_hi h.pos _ _) z with q | q
    · exact ca.top ha q
    · exact cb.top hb q
  have : a.length - 1 + (b.length - 1) < c.length := by
    by_cases q : a.length - 1 + (b.length - 1) < c.length
    · exact q
    · exact absurd (le_pl c _ (by omega)) tn
  omega
theorem mul_ne (h : Sz s) {x y : Rg s} {n m : Nat} (lx : Le x n) (ly : Le y m) (hx : x ≠ 0) (hy : y ≠ 0) : x * y ≠ 0 := by
  intro z
  have ca := li_can h.pos x n
  have cb := li_can h.pos y m
  have ha : li x n ≠ [] := fun q => hx (by rw [← pl_li lx, q, pl_nil])
  have hb : li y m ≠ [] := fun q => hy (by rw [← pl_li ly, q, pl_nil])
  have := len_mul h ca cb Can.nil ha hb (by rw [pl_nil, pl_li lx, pl_li ly, z])
  have la := List.length_pos_iff.mpr ha
  have lb := List.length_pos_iff.mpr hb
  simp at this
  omega
/-- the next power -/
def xR (s : Int) : Rg s := mkR s fun i => if i = 1 then 1 else 0
theorem conv_x (n : Nat) (q : Nat → Int) : conv n (fun i => if i = 1 then 1 else 0) q = if n = 0 then 0 else q (n - 1) := by
  cases n with
  | zero => simp [conv]
  | succ n =>
    have e : (fun i : Nat => if i + 1 = 1 then (1 : Int) else 0) = unitF 1 := by
      funext i
      unfold unitF
      by_cases h : i = 0 <;> simp [h]
    rw [conv, e, conv_unit]
    simp
theorem ce_x (y : Rg s) (i : Nat) : ce (xR s * y) i = if i = 0 then 0 else ce y (i - 1) := by
  revert y
  refine rg_ind fun f => ?_
  show conv i (fun i => if i = 1 then 1 else 0) f % s = _
  rw [conv_x]
  split
  · simp
  · rfl
theorem pl_cons (a : Int) (l : List Int) : pl s (a :: l) = (a : Rg s) + xR s * pl s l := rg_ext fun i => by
  rw [ce_add, ce_int, ce_x, ce_pl]
  cases i with
  | zero => simp [cf]
  | succ i => rw [if_neg (by omega), if_neg (by omega), cf_cons, ce_pl]; simp
theorem Le.x {y : Rg s} {n : Nat} (h : Le y n) : Le (xR s * y) (n + 1) := fun i hi => by
  rw [ce_x, if_neg (by omega), h _ (by omega)]
theorem pl_shift (l : List Int) : ∀ k : Nat, pl s (List.replicate k 0 ++ l) = xR s ^ k * pl s l
  | 0 => by rw [List.replicate_zero, List.nil_append]; grind
  | k + 1 => by
    rw [List.replicate_succ, List.cons_append, pl_cons, pl_shift l k]
    have : ((0 : Int) : Rg s) = 0 := rfl
    rw [this]
    grind
theorem pl_smul (c : Int) (l : List Int) : pl s (l.map fun n => c * n % s) = (c : Rg s) * pl s l := rg_ext fun i => by
  rw [ce_mul]
  have e : conv i (ce (c : Rg s)) (ce (pl s l)) % s = conv i (unitF c) (cf l) % s := conv_cong i (fun i => by rw [int_mk, ce_mk, Int.emod_emod]) (fun i => by rw [ce_pl, Int.emod_emod])
  rw [e, conv_unit, ce_pl]
  by_cases h : i < l.length
  · rw [cf_map _ _ h, Int.emod_emod]
  · rw [cf_ge (by simpa using by omega), cf_ge (by omega)]; simp
theorem int_mul (a b : Int) : ((a * b : Int) : Rg s) = (a : Rg s) * (b : Rg s) := mk_eq fun i => by
  show unitF (a * b) i = conv i (unitF a) (unitF b)
  rw [conv_unit]
  unfold unitF
  split <;> simp
theorem int_cong {a b : Int} (h : a % s = b % s) : (a : Rg s) = (b : Rg s) := mkR_eq.mpr fun i => by
  unfold unitF
  split
  · exact h
  · rfl
theorem int_mod (a : Int) : ((a % s : Int) : Rg s) = (a : Rg s) := int_cong (Int.emod_emod _ _)
theorem int_one : ((1 : Int) : Rg s) = 1 := rfl
theorem int_zero : ((0 : Int) : Rg s) = 0 := rfl
theorem pl_set {l : List Int} {j : Nat} {x : Int} (h : j < l.length) (h0 : cf l j = 0) : pl s (l.set j x) = pl s l + (x : Rg s) * xR s ^ j := by
  have e : (x : Rg s) * xR s ^ j = pl s (List.replicate j 0 ++ [x]) := by
    rw [pl_shift, pl_cons, pl_nil]; grind
  rw [e]
  refine rg_ext fun i => ?_
  rw [ce_add, ce_pl, ce_pl, ce_pl, cf_set _ _ _ _ h, cf_app, cf_rep, ← Int.add_emod]
  by_cases hi : i = j
  · subst hi
    rw [h0, if_pos rfl, if_neg (by simp), List.length_replicate, Nat.sub_self, cf_cons0, Int.zero_add]
  · rw [if_neg hi]
    by_cases h1 : i < j
    · simp [h1]
    · rw [if_neg (by simpa using h1), cf_ge (l := [x]) (by simp; omega)]
      simp
end
end Pf

set_option Elab.async false
set_option linter.all false
set_option maxRecDepth 100000
set_option maxHeartbeats 2000000
/-! Pm4: sums added, multiplied, parted. -/
namespace Pf
section
variable {s : Int}
instance : Decidable (Sz s) := by unfold Sz; infer_instance
instance (l : List Int) : Decidable (Can s l) := decidable_of_iff ((∀ i ∈ l, 0 ≤ i) ∧ (∀ i ∈ l, i < s) ∧ nzL l = true) ⟨fun h => ⟨h.1, h.2.1, h.2.2⟩, fun h => ⟨h.lo, h.hi, h.nz⟩⟩
def plusM (s : Int) (a b : List Int) : List Int := li (pl s a + pl s b) (max a.length b.length)
def timesM (s : Int) (a b : List Int) : List Int := li (pl s a * pl s b) (a.length + b.length)
theorem le_plus (a b : List Int) : Le (pl s a + pl s b) (max a.length b.length) := ((le_pl a).mono (by omega)).add ((le_pl b).mono (by omega))
theorem pl_plus (a b : List Int) : pl s (plusM s a b) = pl s a + pl s b := pl_li (le_plus a b)
theorem le_mul0 {x y : Rg s} {n m : Nat} (h : Le x n) (g : Le y m) : Le (x * y) (n + m - 1) := by
  cases n with
  | zero => rw [le_0.mp h]; have : (0 : Rg s) * y = 0 := by grind
            rw [this]; exact le_zero
  | succ n => cases m with
    | zero => rw [le_0.mp g]; have : x * (0 : Rg s) = 0 := by grind
              rw [this]; exact le_zero
    | succ m => exact (h.mul g).mono (by omega)
theorem le_times (a b : List Int) : Le (pl s a * pl s b) (a.length + b.length) := (le_mul0 (le_pl a) (le_pl b)).mono (by omega)
theorem pl_times (a b : List Int) : pl s (timesM s a b) = pl s a * pl s b := pl_li (le_times a b)
theorem plus_can (h : Sz s) (a b : List Int) : Can s (plusM s a b) := li_can h.pos _ _
theorem times_can (h : Sz s) (a b : List Int) : Can s (timesM s a b) := li_can h.pos _ _
theorem plus_len (a b : List Int) : (plusM s a b).length ≤ max a.length b.length := li_len _ _
theorem times_len (h : Sz s) (a b : List Int) : (timesM s a b).length ≤ a.length + b.length - 1 :=
  (times_can h a b).le (by rw [pl_times]; exact le_mul0 (le_pl a) (le_pl b))
theorem times_len_eq (h : Sz s) {a b : List Int} (ca : Can s a) (cb : Can s b) (ha : a ≠ []) (hb : b ≠ []) : (timesM s a b).length + 1 = a.length + b.length :=
  len_mul h ca cb (times_can h a b) ha hb (pl_times a b)
theorem can_pl0 {a : List Int} (c : Can s a) : pl s a = 0 ↔ a = [] := ⟨fun h => can_ext c Can.nil (h.trans pl_nil.symm), fun h => by rw [h, pl_nil]⟩
/-- what turns a number over -/
def invM (s a : Int) : Int := (((List.range s.toNat).map Int.ofNat).filter fun k => decide (a * k % s = 1)).headD 0
theorem inv_ok (h : Sz s) {a : Int} (a0 : 0 < a) (a1 : a < s) : 0 < invM s a ∧ invM s a < s ∧ a * invM s a % s = 1 ∧ ∃ r, ((List.range s.toNat).map Int.ofNat).filter (fun k => decide (a * k % s = 1)) = invM s a :: r := by
  have : a = 1 ∨ a = 2 ∨ a = 3 ∨ a = 4 := by rcases h with h | h | h <;> omega
  rcases h with h | h | h <;> subst h <;> rcases this with q | q | q | q <;> subst q <;> first | omega | exact ⟨by decide, by decide, by decide, [], by decide⟩
/-- a sum less another one so often, the powers moved up -/
def lowM (s : Int) (r : List Int) (c : Int) (b : List Int) (k : Nat) : List Int := li (pl s r - pl s (List.replicate k 0 ++ b.map fun n => c * n % s)) (max r.length (k + b.length))
theorem le_low (r : List Int) (c : Int) (b : List Int) (k : Nat) : Le (pl s r - pl s (List.replicate k 0 ++ b.map fun n => c * n % s)) (max r.length (k + b.length)) :=
  ((le_pl r).mono (by omega)).sub ((le_pl _).mono (by simp; omega))
theorem pl_low (r : List Int) (c : Int) (b : List Int) (k : Nat) : pl s (lowM s r c b k) = pl s r - (c : Rg s) * xR s ^ k * pl s b := by
  unfold lowM
  rw [pl_li (le_low r c b k), pl_shift, pl_smul]
  grind
theorem low_can (h : Sz s) (r : List Int) (c : Int) (b : List Int) (k : Nat) : Can s (lowM s r c b k) := li_can h.pos _ _
theorem ce_sub (x y : Rg s) (i : Nat) : ce (x - y) i = (ce x i - ce y i) % s := by
  show ce (x + -y) i = _
  rw [ce_add, ce_neg, Int.add_emod, Int.emod_emod, ← Int.add_emod]
  rfl
/-- .. shorter -/
theorem low_len (h : Sz s) {r b : List Int} (cr : Can s r) (cb : Can s b) (hb : b ≠ []) (hl : b.length ≤ r.length) {lead : Int} (e : cf b (b.length - 1) * lead % s = 1) :
    (lowM s r (cf r (r.length - 1) * lead % s) b (r.length - b.length)).length < r.length := by
  have lb := List.length_pos_iff.mpr hb
  have lr : 0 < r.length := by omega
  have l1 : (lowM s r (cf r (r.length - 1) * lead % s) b (r.length - b.length)).length ≤ r.length := by
    have := li_len (pl s r - pl s (List.replicate (r.length - b.length) 0 ++ b.map fun n => cf r (r.length - 1) * lead % s * n % s)) (max r.length (r.length - b.length + b.length))
    unfold lowM
    omega
  refine Nat.lt_of_le_of_lt ((low_can h r _ b _).le (n := r.length - 1) fun i hi => ?_) (by omega)
  by_cases q : i = r.length - 1
  · subst q
    unfold lowM
    rw [pl_li (le_low _ _ _ _), ce_sub, cr.ce, ce_pl, cf_app, List.length_replicate, if_neg (by omega)]
    have e1 : r.length - 1 - (r.length - b.length) = b.length - 1 := by omega
    rw [e1, cf_map _ _ (by omega), Int.emod_emod]
    have e2 : cf r (r.length - 1) * lead % s * cf b (b.length - 1) % s = cf r (r.length - 1) := by
      rw [Int.mul_emod, Int.emod_emod, ← Int.mul_emod, Int.mul_assoc, Int.mul_comm lead, Int.mul_emod, e, Int.mul_one, Int.emod_emod, cf_mod cr.lo cr.hi]
    rw [e2, Int.sub_self]; rfl
  · exact le_pl _ i (by omega)
def divM (s : Int) (b : List Int) (lead : Int) : Nat → List Int → List Int → List Int × List Int
  | 0, m, r => (m, r)
  | n + 1, m, r => if b.length ≤ r.length then divM s b lead n (m.set (r.length - b.length) (cf r (r.length - 1) * lead % s)) (lowM s r (cf r (r.length - 1) * lead % s) b (r.length - b.length)) else (m, r)
theorem emod_in (h : Sz s) (x : Int) : 0 ≤ x % s ∧ x % s < s := ⟨Int.emod_nonneg _ (by have := h.pos; omega), Int.emod_lt_of_pos _ h.pos⟩
theorem div_ok (h : Sz s) {b : List Int} (cb : Can s b) (hb : b ≠ []) {lead : Int} (e : cf b (b.length - 1) * lead % s = 1) : ∀ (n : Nat) (m r : List Int), Can s r → r.length ≤ n → (∀ i, i + b.length ≤ r.length → cf m i = 0) → r.length + 1 ≤ m.length + b.length → (∀ i ∈ m, 0 ≤ i ∧ i < s) →
    Can s (divM s b lead n m r).2 ∧ (divM s b lead n m r).2.length < b.length ∧ pl s (divM s b lead n m r).1 * pl s b + pl s (divM s b lead n m r).2 = pl s m * pl s b + pl s r ∧ (∀ i ∈ (divM s b lead n m r).1, 0 ≤ i ∧ i < s) ∧ (divM s b lead n m r).1.length = m.length
  | 0, m, r, cr, hn, hz, hl, hm => by
    have lb := List.length_pos_iff.mpr hb
    exact ⟨cr, by unfold divM; show r.length < b.length; omega, rfl, hm, rfl⟩
  | n + 1, m, r, cr, hn, hz, hl, hm => by
    have lb := List.length_pos_iff.mpr hb
    unfold divM
    split
    · rename_i hle
      have sh := low_len h cr cb hb hle e
      obtain ⟨q1, q2, q3, q4, q5⟩ := div_ok h cb hb e n (m.set (r.length - b.length) (cf r (r.length - 1) * lead % s)) (lowM s r (cf r (r.length - 1) * lead % s) b (r.length - b.length)) (low_can h _ _ _ _) (by omega) (fun i hi => by
        rw [cf_set _ _ _ _ (by omega), if_neg (by omega)]
        exact hz i (by omega)) (by rw [List.length_set]; omega) (fun i hi => by
        rcases List.mem_or_eq_of_mem_set hi with z | z
        · exact hm i z
        · rw [z]; exact emod_in h _)
      refine ⟨q1, q2, ?_, q4, by rw [q5, List.length_set]⟩
      rw [q3, pl_low, pl_set (by omega) (hz _ (by omega))]
      generalize xR s ^ (r.length - b.length) = x
      grind
    · rename_i hlt
      exact ⟨cr, by show r.length < b.length; omega, rfl, hm, rfl⟩
/-- how often a sum goes into another one, and the rest -/
def leadM (s : Int) (b : List Int) : Int := invM s (cf b (b.length - 1))
def partM (s : Int) (a b : List Int) : List Int × List Int :=
  let z := divM s b (leadM s b) a.length (List.replicate (a.length + 1 - b.length) 0) a
  (trimM z.1, z.2)
def quoM (s : Int) (a b : List Int) : List Int := (partM s a b).1
def restM (s : Int) (a b : List Int) : List Int := (partM s a b).2
theorem last_in {b : List Int} (cb : Can s b) (hb : b ≠ []) : 0 < cf b (b.length - 1) ∧ cf b (b.length - 1) < s := by
  have lb := List.length_pos_iff.mpr hb
  have h1 := cb.lo _ (cf_mem (show b.length - 1 < b.length by omega))
  have h2 := cb.hi _ (cf_mem (show b.length - 1 < b.length by omega))
  have h3 := nz_last cb.nz hb
  omega
theorem lead_ok (h : Sz s) {b : List Int} (cb : Can s b) (hb : b ≠ []) : cf b (b.length - 1) * leadM s b % s = 1 := (inv_ok h (last_in cb hb).1 (last_in cb hb).2).2.2.1
structure PartOk (s : Int) (a b q r : List Int) : Prop where
  cq : Can s q
  cr : Can s r
  lt : r.length < b.length
  eq : pl s a = pl s q * pl s b + pl s r
  lq : q.length ≤ a.length + 1 - b.length
theorem part_ok (h : Sz s) {a b : List Int} (ca : Can s a) (cb : Can s b) (hb : b ≠ []) : PartOk s a b (quoM s a b) (restM s a b) := by
  have lb := List.length_pos_iff.mpr hb
  obtain ⟨q1, q2, q3, q4, q5⟩ := div_ok h cb hb (lead_ok h cb hb) a.length (List.replicate (a.length + 1 - b.length) 0) a ca (Nat.le_refl _) (fun i _ => by rw [cf_rep]; split <;> rfl) (by rw [List.length_replicate]; omega) (fun i hi => by
    rw [List.eq_of_mem_replicate hi]; exact ⟨Int.le_refl _, h.pos⟩)
  refine ⟨can_trim (fun i hi => (q4 i hi).1) (fun i hi => (q4 i hi).2), q1, q2, ?_, ?_⟩
  · show _ = pl s (trimM _) * _ + _
    rw [pl_trim, restM, partM]
    simp only
    rw [q3]
    have : pl s (List.replicate (a.length + 1 - b.length) 0) = 0 := by
      have e := pl_shift (s := s) [] (a.length + 1 - b.length)
      rw [List.append_nil, pl_nil] at e
      rw [e]; grind
    rw [this]
    grind
  · have := trim_len (divM s b (leadM s b) a.length (List.replicate (a.length + 1 - b.length) 0) a).1
    rw [q5, List.length_replicate] at this
    exact this
/-- parted in one way alone -/
theorem part_uniq (h : Sz s) {b : List Int} (cb : Can s b) (hb : b ≠ []) {x y x' y' : Rg s} {n m k : Nat} (lx : Le x n) (lx' : Le x' m) (ly : Le y k) (ly' : Le y' k) (hk : k < b.length) (e : x * pl s b + y = x' * pl s b + y') : x = x' ∧ y = y' := by
  have e1 : (x - x') * pl s b = y' - y := by grind
  have lxx : Le (x - x') (max n m) := (lx.mono (by omega)).sub (lx'.mono (by omega))
  have lyy : Le (y' - y) k := ly'.sub ly
  by_cases hx : x - x' = 0
  · rw [hx] at e1
    exact ⟨by grind, by grind⟩
  · exfalso
    have c1 := li_can h.pos (x - x') (max n m)
    have c2 := li_can h.pos (y' - y) k
    have h1 : li (x - x') (max n m) ≠ [] := fun z => hx (by rw [← pl_li lxx, z, pl_nil])
    have := len_mul h c1 cb c2 h1 hb (by rw [pl_li lxx, pl_li lyy, e1])
    have l1 := List.length_pos_iff.mpr h1
    have l2 := li_len (y' - y) k
    omega
theorem part_by (h : Sz s) {a b : List Int} (ca : Can s a) (cb : Can s b) (hb : b ≠ []) {x y : Rg s} {n k : Nat} (lx : Le x n) (ly : Le y k) (hk : k < b.length) (e : pl s a = x * pl s b + y) : pl s (quoM s a b) = x ∧ pl s (restM s a b) = y := by
  have p := part_ok h ca cb hb
  have lt := p.lt
  exact part_uniq h cb hb (le_pl _) lx ((le_pl _).mono (show (restM s a b).length ≤ b.length - 1 by omega)) (ly.mono (by omega)) (by omega) (by rw [← p.eq, e])
/-- poly: of some length -/
def Fi (x : Rg s) : Prop := ∃ n, Le x n
theorem fi_pl (l : List Int) : Fi (pl s l) := ⟨_, le_pl l⟩
theorem Fi.add {x y : Rg s} : Fi x → Fi y → Fi (x + y) := fun ⟨n, h⟩ ⟨m, g⟩ => ⟨max n m, (h.mono (by omega)).add (g.mono (by omega))⟩
theorem Fi.neg {x : Rg s} : Fi x → Fi (-x) := fun ⟨n, h⟩ => ⟨n, h.neg⟩
theorem Fi.sub {x y : Rg s} (h : Fi x) (g : Fi y) : Fi (x - y) := h.add g.neg
theorem Fi.mul {x y : Rg s} : Fi x → Fi y → Fi (x * y) := fun ⟨n, h⟩ ⟨m, g⟩ => ⟨_, le_mul0 h g⟩
theorem fi_zero : Fi (0 : Rg s) := ⟨0, le_zero⟩
theorem fi_int (c : Int) : Fi (c : Rg s) := ⟨1, le_int c⟩
theorem fi_one : Fi (1 : Rg s) := fi_int 1
theorem fi_x : Fi (xR s) := ⟨2, fun i hi => by
  show (if i = 1 then (1 : Int) else 0) % s = 0
  rw [if_neg (by omega)]; simp⟩
theorem Fi.pow {x : Rg s} (h : Fi x) : ∀ n : Nat, Fi (x ^ n)
  | 0 => by have : x ^ 0 = 1 := by grind
            rw [this]; exact fi_one
  | n + 1 => by have : x ^ (n + 1) = x ^ n * x := by grind
                rw [this]; exact (h.pow n).mul h
theorem Fi.list (h : Sz s) {x : Rg s} : Fi x → ∃ l, Can s l ∧ pl s l = x := fun ⟨n, g⟩ => ⟨li x n, li_can h.pos _ _, pl_li g⟩
/-- y is x so often -/
def Dv (x y : Rg s) : Prop := ∃ z, Fi z ∧ y = z * x
theorem rest_nil (h : Sz s) {a b : List Int} (ca : Can s a) (cb : Can s b) (hb : b ≠ []) : restM s a b = [] ↔ Dv (pl s b) (pl s a) := by
  have p := part_ok h ca cb hb
  constructor
  · intro e
    refine ⟨pl s (quoM s a b), fi_pl _, ?_⟩
    rw [p.eq, e, pl_nil]; grind
  · rintro ⟨z, ⟨n, hz⟩, e⟩
    have := (part_by h ca cb hb hz (le_zero (n := 0)) (List.length_pos_iff.mpr hb) (by rw [e]; grind)).2
    exact (can_pl0 p.cr).mp this
/-- rests alike -/
def Cg (b x y : Rg s) : Prop := Dv b (x - y)
theorem Cg.refl (b x : Rg s) : Cg b x x := ⟨0, fi_zero, by grind⟩
theorem Cg.symm {b x y : Rg s} : Cg b x y → Cg b y x := fun ⟨z, f, e⟩ => ⟨-z, f.neg, by grind⟩
theorem Cg.trans {b x y z : Rg s} : Cg b x y → Cg b y z → Cg b x z := fun ⟨u, f, e⟩ ⟨v, g, e2⟩ => ⟨u + v, f.add g, by grind⟩
theorem Cg.mul {b x y z w : Rg s} (fx : Fi x) (fw : Fi w) : Cg b x y → Cg b z w → Cg b (x * z) (y * w) := fun ⟨u, f, e⟩ ⟨v, g, e2⟩ => ⟨u * w + v * x, (f.mul fw).add (g.mul fx), by grind⟩
theorem Cg.add {b x y z w : Rg s} : Cg b x y → Cg b z w → Cg b (x + z) (y + w) := fun ⟨u, f, e⟩ ⟨v, g, e2⟩ => ⟨u + v, f.add g, by grind⟩
theorem rest_cg (h : Sz s) {a b : List Int} (ca : Can s a) (cb : Can s b) (hb : b ≠ []) : Cg (pl s b) (pl s (restM s a b)) (pl s a) := by
  have p := part_ok h ca cb hb
  exact ⟨-pl s (quoM s a b), (fi_pl _).neg, by rw [p.eq]; grind⟩
theorem rest_eq (h : Sz s) {a c b : List Int} (ca : Can s a) (cc : Can s c) (cb : Can s b) (hb : b ≠ []) : restM s a b = restM s c b ↔ Cg (pl s b) (pl s a) (pl s c) := by
  have p := part_ok h ca cb hb
  have q := part_ok h cc cb hb
  constructor
  · intro e
    have h1 := rest_cg h ca cb hb
    rw [e] at h1
    exact h1.symm.trans (rest_cg h cc cb hb)
  · rintro ⟨z, hz, e⟩
    have lt := q.lt
    obtain ⟨n, l⟩ := (hz.add (fi_pl (quoM s c b)))
    have := (part_by h ca cb hb l ((le_pl (restM s c b)).mono (show _ ≤ b.length - 1 by omega)) (by omega) (by
      have := q.eq
      grind)).2
    exact can_ext p.cr q.cr this
theorem rest_id (h : Sz s) {a b : List Int} (ca : Can s a) (cb : Can s b) (hl : a.length < b.length) : restM s a b = a := by
  have hb : b ≠ [] := fun z => by rw [z] at hl; exact absurd hl (Nat.not_lt_zero _)
  have := (part_by h ca cb hb (le_zero (n := 0)) (le_pl a) hl (by grind)).2
  exact can_ext (part_ok h ca cb hb).cr ca this
end
end Pf

set_option Elab.async false
set_option linter.all false
set_option maxRecDepth 100000
set_option maxHeartbeats 2000000
/-! Pf13: slices of either kind; what is never reached. -/
namespace Pf
open PySem PySem.Spec L2
section
variable {T : Ct} {a b c tg iter : Expr} {ga gb gc : En → Option D} {pos : Pos}
def slA (d : D) (lo hi : Option Int) : Option D := match d with
  | .lst ds => some (.lst (cutD ds lo hi))
  | d => slD' d lo hi
def gSlA (g : En → Option D) (lo hi : En → Option (Option Int)) : En → Option D := fun ρ => (g ρ).bind fun d => (lo ρ).bind fun l => (hi ρ).bind fun h => slA d l h
variable {lo hi : Option Expr} {gl gh : En → Option (Option Int)} {p2 : Pos}
theorem se_slA (ha : SE T a ga) (hl : SO T lo gl) (hh : SO T hi gh) : SE T (.Subscript a (.Slice lo hi none p2) pos) (gSlA ga gl gh) := by
  intro X G σ H ρ d env hd Q q
  unfold gSlA at hd
  cases e1 : ga ρ with
  | none => rw [e1] at hd; cases hd
  | some x =>
  cases x with
  | lst ds =>
    refine se_of_sl (sl_sl ha hl hh) X G σ H ρ d env ?_ Q q
    rw [e1] at hd
    unfold gL gSlL
    rw [e1]
    cases e2 : gl ρ with
    | none => rw [e2] at hd; cases hd
    | some l =>
    cases e3 : gh ρ with
    | none => rw [e2, e3] at hd; cases hd
    | some h => rw [e2, e3] at hd; exact hd
  | _ =>
    refine se_sl ha hl hh X G σ H ρ d env ?_ Q q
    rw [e1] at hd
    unfold gSl
    rw [e1]
    exact hd
@[simp] theorem slA_lst (ds : List D) (l h : Option Int) : slA (.lst ds) l h = some (.lst (cutD ds l h)) := rfl
@[simp] theorem slA_tup (ds : List D) (l h : Option Int) : slA (.tup ds) l h = some (.tup (cutD ds l h)) := rfl
@[simp] theorem gSlA_ap (ρ : En) (lo hi : En → Option (Option Int)) : gSlA ga lo hi ρ = (ga ρ).bind fun d => (lo ρ).bind fun l => (hi ρ).bind fun h => slA d l h := rfl
theorem env_fg {K : PySem.W.Frag} {H : Hp} {σ : L2.St} {ρ : En} (h : Env K H σ ρ) (i : Nat) : Env K H σ (ρ.set i .un) := by
  refine ⟨by rw [List.length_set]; exact h.len, fun j s ov e1 e2 => ?_⟩
  by_cases z : i = j
  · subst z
    have hi : i < ρ.length := by
      rw [← h.len]
      exact (List.getElem?_eq_some_iff.mp e2).1
    rw [List.getElem?_set_self hi] at e1
    cases e1
    trivial
  · rw [List.getElem?_set_ne z] at e1
    exact h.at_ j s ov e1 e2
theorem own_fg {ρ : En} {σ : L2.St} {a : Addr} {i : Nat} (h : own (ρ.set i .un) σ a) : own ρ σ a := by
  obtain ⟨j, ds, e1, e2⟩ := h
  by_cases z : i = j
  · subst z
    rw [List.getElem?_set] at e1
    split at e1
    · split at e1
      · cases e1
      · cases e1
    · contradiction
  · rw [List.getElem?_set_ne z] at e1
    exact ⟨j, ds, e1, e2⟩
theorem evo_fg {ρ ρ' : En} {σ σ' : L2.St} {H H' : Hp} {i : Nat} (e : Evo (ρ.set i .un) σ H ρ' σ' H') : Evo ρ σ H ρ' σ' H' :=
  ⟨fun a o h n => e.keep a o h fun z => n (own_fg z), fun a h => (e.owns a h).imp own_fg id, e.kp⟩
/-- a slot forgotten -/
def wFg (i : Nat) (W : Po → En → Prop) : Po → En → Prop := fun P ρ => W P (ρ.set i .un)
theorem sb_fg (i : Nat) {st : List Stmt} {W : Po → En → Prop} (h : SB T st W) : SB T st (wFg i W) := fun X G σ H ρ P E env w c =>
  h X G σ H (ρ.set i .un) P E (env_fg env i) w ⟨fun σ' H' ρ' h1 h2 h3 => c.nx σ' H' ρ' h1 (evo_fg h2) h3, fun v σ' H' ρ' d h1 h2 h3 => c.rt v σ' H' ρ' d (evo_fg h1) h2 h3, fun σ' H' ρ' h1 h2 h3 => c.bk σ' H' ρ' h1 (evo_fg h2) h3, fun σ' H' ρ' h1 h2 h3 => c.ct σ' H' ρ' h1 (evo_fg h2) h3⟩
@[simp] theorem wFg_ap (i : Nat) (W : Po → En → Prop) (P : Po) (ρ : En) : wFg i W P ρ = W P (ρ.set i .un) := rfl
/-- a list no more owned (it stays as it is) -/
theorem env_di {K : PySem.W.Frag} {H : Hp} {σ : L2.St} {ρ : En} (h : Env K H σ ρ) {i : Nat} {ds : List D} (hr : ρ[i]? = some (.ow ds)) : Env K H σ (ρ.set i (.im (.lst ds))) := by
  refine ⟨by rw [List.length_set]; exact h.len, fun j s ov e1 e2 => ?_⟩
  by_cases z : i = j
  · subst z
    have hi : i < ρ.length := (List.getElem?_eq_some_iff.mp hr).1
    rw [List.getElem?_set_self hi] at e1
    cases e1
    obtain ⟨p, xs, rfl, q1, q2⟩ := h.at_ i _ ov hr e2
    exact ⟨.ref p, rfl, .lst q1 q2⟩
  · rw [List.getElem?_set_ne z] at e1
    exact h.at_ j s ov e1 e2
theorem own_di {ρ : En} {σ : L2.St} {a : Addr} {i : Nat} {d : D} (h : own (ρ.set i (.im d)) σ a) : own ρ σ a := by
  obtain ⟨j, ds, e1, e2⟩ := h
  by_cases z : i = j
  · subst z
    rw [List.getElem?_set] at e1
    split at e1
    · split at e1
      · cases e1
      · cases e1
    · contradiction
  · rw [List.getElem?_set_ne z] at e1
    exact ⟨j, ds, e1, e2⟩
theorem evo_di {ρ ρ' : En} {σ σ' : L2.St} {H H' : Hp} {i : Nat} {d : D} (e : Evo (ρ.set i (.im d)) σ H ρ' σ' H') : Evo ρ σ H ρ' σ' H' :=
  ⟨fun a o h n => e.keep a o h fun z => n (own_di z), fun a h => (e.owns a h).imp own_di id, e.kp⟩
def wDi (i : Nat) (W : Po → En → Prop) : Po → En → Prop := fun P ρ => ∃ ds, ρ[i]? = some (.ow ds) ∧ W P (ρ.set i (.im (.lst ds)))
theorem sb_di (i : Nat) {st : List Stmt} {W : Po → En → Prop} (h : SB T st W) : SB T st (wDi i W) := fun X G σ H ρ P E env ⟨ds, hr, w⟩ c =>
  h X G σ H (ρ.set i (.im (.lst ds))) P E (env_di env hr) w ⟨fun σ' H' ρ' h1 h2 h3 => c.nx σ' H' ρ' h1 (evo_di h2) h3, fun v σ' H' ρ' d h1 h2 h3 => c.rt v σ' H' ρ' d (evo_di h1) h2 h3, fun σ' H' ρ' h1 h2 h3 => c.bk σ' H' ρ' h1 (evo_di h2) h3, fun σ' H' ρ' h1 h2 h3 => c.ct σ' H' ρ' h1 (evo_di h2) h3⟩
@[simp] theorem wDi_ap (i : Nat) (W : Po → En → Prop) (P : Po) (ρ : En) : wDi i W P ρ = ∃ ds, ρ[i]? = some (.ow ds) ∧ W P (ρ.set i (.im (.lst ds))) := rfl
theorem ss_asgS {ga : En → Option D} {is : List Nat} {set : D → En → Option En} (he : SE T a ga) (hg : SG T tg is set) (hw : ∀ env : PySem.Env, env.scope = T.sc → swappedStores [tg] a env = pure none) (hs : ∀ env, swapsWithSole [tg] a pos.line env = pure false := by intro _; rfl) (h1 : ∀ env, (assignEach [tg] env).map (·.2) = [assign tg env] := by intro _; rfl) : SS T (.Assign [tg] a pos) (wAsg ga set) := by
  intro X G σ H ρ P E env h c
  obtain ⟨d, ρ', e1, e2, h⟩ := h
  refine ⟨_, ps_asg pe_w pg_w (hs X.env) (hw X.env G.1.hs) (h1 X.env), ?_⟩
  refine he X G.1 σ H ρ d env e1 _ fun v H1 s1 d1 => ?_
  refine hg X G.1 σ H1 ρ v d ρ' (env.mono s1) d1 e2 _ fun σ' env' _ q1 q2 => ?_
  exact c.nx σ' H1 ρ' env' ((evo_same s1).trans (evo_any q1 q2)) h
def wDead : Po → En → Prop := fun _ _ => False
theorem ss_dead {st : Stmt} : SS T st wDead := fun _ _ _ _ _ _ _ _ h _ => h.elim
@[simp] theorem wDead_ap (P : Po) (ρ : En) : wDead P ρ = False := rfl
end
end Pf

set_option Elab.async false
set_option linter.all false
set_option maxRecDepth 100000
set_option maxHeartbeats 2000000
/-! Pm5: what the reckoning defs give. -/
namespace Pf
open PySem PySem.Spec L2
theorem atI_cf {ns : List Int} {k : Int} (h0 : 0 ≤ k) (h1 : k < ns.length) : atI (ns.map D.int) k = some (.int (cf ns k.toNat)) := by
  rw [atI_map, atI_get h0 (List.getElem?_eq_getElem (show k.toNat < ns.length by omega)), cf_lt (show k.toNat < ns.length by omega)]
  rfl
theorem atI_end {ns : List Int} (h : ns ≠ []) : atI (ns.map D.int) (-1) = some (.int (cf ns (ns.length - 1))) := by
  cases q : ns.getLast? with
  | none => exact absurd (List.getLast?_eq_none_iff.mp q) h
  | some i => rw [last_at q, (cf_last q).2]
theorem cut_to {ds : List D} {k : Int} (h0 : 0 ≤ k) : cutD ds none (some k) = ds.take k.toNat := by
  unfold cutD
  show (ds.drop 0).take ((if k < 0 then (k + (ds.length : Int)).toNat else min k.toNat ds.length) - 0) = _
  rw [if_neg (by omega), Nat.sub_zero, List.drop_zero]
  by_cases h : k.toNat ≤ ds.length
  · rw [Nat.min_eq_left h]
  · rw [Nat.min_eq_right (by omega), List.take_length, List.take_of_length_le (by omega)]
theorem map_take' (ns : List Int) (n : Nat) : (ns.map D.int).take n = (ns.take n).map D.int := by rw [List.map_take]
theorem map_set' (ns : List Int) (n : Nat) (x : Int) : (ns.map D.int).set n (.int x) = (ns.set n x).map D.int := by rw [List.map_set]
theorem map_rep' (n : Nat) : (List.replicate n [D.int 0]).flatten = (List.replicate n (0 : Int)).map D.int := by
  induction n with
  | zero => rfl
  | succ n ih => rw [List.replicate_succ, List.flatten_cons, ih]; rfl
theorem rep_flat {α : Type} (n : Nat) (x : α) : (List.replicate n [x]).flatten = List.replicate n x := by
  induction n with
  | zero => rfl
  | succ n ih => rw [List.replicate_succ, List.flatten_cons, ih]; rfl
theorem getD_map (ns : List Int) (i : Nat) : (ns.map D.int)[i]? = if i < ns.length then some (.int (cf ns i)) else none := by
  rw [List.getElem?_map]
  split
  · rename_i h
    rw [List.getElem?_eq_getElem h, cf_lt h]; rfl
  · rename_i h
    rw [List.getElem?_eq_none (by omega)]; rfl
theorem en_get {ns : List Int} {i : Nat} {d : D} (h : (enD 0 (ns.map D.int))[i]? = some d) : i < ns.length ∧ d = .tup [.int (i : Nat), .int (cf ns i)] := by
  rw [enD_get, getD_map] at h
  split at h
  · rename_i hi
    refine ⟨hi, ?_⟩
    simp only [Option.map_some, Option.some.injEq, Nat.zero_add] at h
    exact h.symm
  · cases h
@[simp] theorem lfA_en (ns : List Int) : lfA (enD 0 (ns.map D.int)) = true := by rw [lfA_enD]; exact lfA_ints ns
theorem ixN_in {n : Nat} {k : Int} (h0 : 0 ≤ k) (h1 : k < n) : ixN n k = some k.toNat := by
  unfold ixN
  rw [if_pos h0, if_pos h1]
theorem trim_step {l : List Int} {n : Nat} (h : n < l.length) (e : cf l n = 0) : trimM (l.take (n + 1)) = trimM (l.take n) := by
  have : l.take (n + 1) = l.take n ++ [0] := by
    rw [List.take_succ, List.getElem?_eq_getElem h]
    rw [cf_lt h] at e
    rw [e]; rfl
  rw [this, trim_snoc0]
theorem trim_stop {l : List Int} {n : Nat} (h : n ≤ l.length) (e : n = 0 ∨ cf l (n - 1) ≠ 0) : trimM (l.take n) = l.take n := by
  refine trim_id (nz_of fun hne => ?_)
  have hl : (l.take n).length = n := by rw [List.length_take]; omega
  have hp := List.length_pos_iff.mpr hne
  rw [hl, cf_take, if_pos (by omega)]
  rcases e with z | z
  · omega
  · exact z
def trimD (ds : List D) : Option D := (dInts ds).bind fun ns => if ns.length ≤ 2000 then some (tI (trimM ns)) else none
def trimA (x : D) : Option D := match x with
  | .lst ds => trimD ds
  | .tup ds => trimD ds
  | _ => none
def f_trimmed : List D → Option D := kA trimA
@[simp] theorem trimA_lst (ns : List Int) : trimA (.lst (ns.map .int)) = if ns.length ≤ 2000 then some (tI (trimM ns)) else none := by simp [trimA, trimD]
@[simp] theorem trimA_tup (ns : List Int) : trimA (.tup (ns.map .int)) = if ns.length ≤ 2000 then some (tI (trimM ns)) else none := by simp [trimA, trimD]
theorem trimA_of {x d : D} (h : trimA x = some d) : ∃ ns : List Int, (x = lI ns ∨ x = tI ns) ∧ ns.length ≤ 2000 ∧ d = tI (trimM ns) := by
  have go : ∀ ds, trimD ds = some d → ∃ ns : List Int, ds = ns.map D.int ∧ ns.length ≤ 2000 ∧ d = tI (trimM ns) := fun ds h => by
    unfold trimD at h
    cases e : dInts ds with
    | none => rw [e] at h; cases h
    | some ns =>
      rw [e] at h
      simp only [Option.bind_some, Option.ite_none_right_eq_some] at h
      exact ⟨ns, dInts_some e, h.1, (Option.some.inj h.2).symm⟩
  cases x <;> try (cases h; done)
  · obtain ⟨ns, rfl, h1, h2⟩ := go _ h
    exact ⟨ns, .inr rfl, h1, h2⟩
  · obtain ⟨ns, rfl, h1, h2⟩ := go _ h
    exact ⟨ns, .inl rfl, h1, h2⟩
def f_law_trim : List D → Option D := kL fun ns => if ns.length ≤ 2000 then some (tI (trimM ns)) else none
def f_inverse_of : List D → Option D := kII fun a s => if Sz s ∧ 0 < a ∧ a < s then some (.int (invM s a)) else none
def okC (s : Int) (a b : List Int) (m : Nat) : Prop := Sz s ∧ Can s a ∧ Can s b ∧ a.length + b.length ≤ m
instance (s : Int) (a b : List Int) (m : Nat) : Decidable (okC s a b m) := by unfold okC; infer_instance
def f_plus : List D → Option D := kTTI fun a b s => if okC s a b 1000 then some (tI (plusM s a b)) else none
def f_times : List D → Option D := kTTI fun a b s => if okC s a b 1000 then some (tI (timesM s a b)) else none
def f_law_plus : List D → Option D := kTTI fun a b s => if okC s a b 1000 then some (tI (plusM s a b)) else none
/-- numbers of the clock -/
structure InR (s : Int) (l : List Int) : Prop where
  lo : ∀ i ∈ l, 0 ≤ i
  hi : ∀ i ∈ l, i < s
theorem Can.inR {s : Int} {l : List Int} (c : Can s l) : InR s l := ⟨c.lo, c.hi⟩
theorem InR.cf_lo {s : Int} {l : List Int} (c : InR s l) (i : Nat) : 0 ≤ cf l i := by
  by_cases h : i < l.length
  · exact c.lo _ (cf_mem h)
  · rw [cf_ge (by omega)]; omega
theorem InR.take {s : Int} {l : List Int} (c : InR s l) (n : Nat) : InR s (l.take n) := ⟨fun i hi => c.lo i (List.mem_of_mem_take hi), fun i hi => c.hi i (List.mem_of_mem_take hi)⟩
instance (s : Int) (l : List Int) : Decidable (InR s l) := decidable_of_iff ((∀ i ∈ l, 0 ≤ i) ∧ (∀ i ∈ l, i < s)) ⟨fun h => ⟨h.1, h.2⟩, fun h => ⟨h.lo, h.hi⟩⟩
def okI (s : Int) (a b : List Int) (m : Nat) : Prop := Sz s ∧ InR s a ∧ InR s b ∧ a.length + b.length ≤ m
instance (s : Int) (a b : List Int) (m : Nat) : Decidable (okI s a b m) := by unfold okI; infer_instance
def f_law_times : List D → Option D := kTTI fun a b s => if okI s a b 1000 then some (tI (timesM s a b)) else none
def f_lowered : List D → Option D := kTITII fun a c b k s => if okC s a b 400 ∧ 0 ≤ c ∧ c < s ∧ 0 ≤ k ∧ k ≤ 400 then some (tI (lowM s a c b k.toNat)) else none
def okP (s : Int) (a b : List Int) : Prop := okC s a b 400 ∧ b ≠ []
instance (s : Int) (a b : List Int) : Decidable (okP s a b) := by unfold okP; infer_instance
def f_parted : List D → Option D := kTTI fun a b s => if okP s a b then some (.tup [tI (quoM s a b), tI (restM s a b)]) else none
def f_law_rest : List D → Option D := kTTI fun a b s => if okP s a b then some (tI (restM s a b)) else none
/-- the value at a number -/
def evM (s : Int) (a : List Int) (n : Int) : Int := a.foldr (fun c v => (v * n + c) % s) 0
def f_value : List D → Option D := kTII fun a n s => if Sz s ∧ Can s a ∧ a.length ≤ 400 ∧ 0 ≤ n ∧ n < s then some (.int (evM s a n)) else none
def f_law_value : List D → Option D := kTII fun a n s => if Sz s ∧ Can s a ∧ a.length ≤ 400 ∧ 0 ≤ n ∧ n < s then some (.int (evM s a n)) else none
def rootsM (s : Int) (a : List Int) : List Int := ((List.range s.toNat).map Int.ofNat).filter fun n => decide (evM s a n = 0)
def f_roots : List D → Option D := kTI fun a s => if Sz s ∧ Can s a ∧ a.length ≤ 400 then some (tI (rootsM s a)) else none
theorem rngD_ints (n : Nat) : rngD 0 n = ((List.range n).map Int.ofNat).map D.int := by
  unfold rngD
  rw [List.map_map]
  refine List.map_congr_left fun i _ => ?_
  simp
theorem rngD_ints' (lo : Int) (n : Nat) : rngD lo n = ((List.range n).map fun i : Nat => lo + (i : Int)).map D.int := by
  unfold rngD
  rw [List.map_map]
  rfl
theorem lcG_int {i : Nat} {gt : En → Option Bool} {ge : En → Option D} {ρ : En} (p : Int → Bool) (f : Int → Int) : ∀ {ns : List Int}, (∀ x ∈ ns, gt (ρ.set i (.im (.int x))) = some (p x) ∧ (p x = true → ge (ρ.set i (.im (.int x))) = some (.int (f x)))) → lcG (set1 i) gt ge ρ (ns.map D.int) = some (((ns.filter p).map f).map D.int)
  | [], _ => rfl
  | x :: ns, h => by
    have ih := lcG_int p f (ns := ns) fun y hy => h y (List.mem_cons_of_mem _ hy)
    obtain ⟨h1, h2⟩ := h x List.mem_cons_self
    have hs : lcG (set1 i) gt ge ρ ((x :: ns).map D.int) = some ((((x :: ns).map D.int).filter fun d => match d with | .int y => p y | _ => false).map fun d => match d with | .int y => .int (f y) | d => d) := by
      refine lcG_fm _ _ fun d hd => ?_
      obtain ⟨y, hy, rfl⟩ := List.mem_map.mp hd
      obtain ⟨g1, g2⟩ := h y hy
      exact ⟨_, rfl, g1, fun hp => ⟨g2 hp, rfl⟩⟩
    rw [hs]
    congr 1
    clear ih hs h h1 h2
    induction (x :: ns) with
    | nil => rfl
    | cons y r ih =>
      simp only [List.map_cons, List.filter_cons]
      split <;> simp [ih]
theorem of_cf {s : Int} (hs : Sz s) {L : List Int} {x : Rg s} {n : Nat} (hx : Le x n) (h : ∀ i, cf L i = ce x i) : trimM L = li x n := by
  refine can_ext (s := s) (can_trim (fun i hi => ?_) (fun i hi => ?_)) (li_can hs.pos _ _) ?_
  · obtain ⟨j, hj, rfl⟩ := List.getElem_of_mem hi
    rw [← cf_lt hj, h j]; exact ce_lo hs.pos _ _
  · obtain ⟨j, hj, rfl⟩ := List.getElem_of_mem hi
    rw [← cf_lt hj, h j]; exact ce_hi hs.pos _ _
  · rw [pl_trim, pl_li hx]
    exact rg_ext fun i => by rw [ce_pl, h i, ce_mod]
theorem plus_of {s : Int} (hs : Sz s) {a b L : List Int} (ca : Can s a) (cb : Can s b) (hL : L.length = max a.length b.length) (h : ∀ i, cf L i = (cf a i + cf b i) % s) : trimM L = plusM s a b :=
  of_cf hs (le_plus a b) fun i => by rw [h i, ce_add, ca.ce, cb.ce]
theorem at0 {α : Type} (x : α) (l : List α) : atI (x :: l) 0 = some x := atI_get (Int.le_refl 0) rfl
theorem conv_mono : ∀ (k j : Nat) (c : Int) (q : Nat → Int), conv k (fun i => if i = j then c else 0) q = if j ≤ k then c * q (k - j) else 0
  | 0, j, c, q => by
    simp only [conv]
    by_cases h : j = 0
    · subst h; simp
    · rw [if_neg (fun z => h z.symm), if_neg (by omega), Int.zero_mul]
  | k + 1, 0, c, q => by
    have e : (fun i : Nat => if i + 1 = 0 then c else 0) = fun _ => 0 := funext fun i => if_neg (by omega)
    rw [conv, e, conv_zero]
    simp
  | k + 1, j + 1, c, q => by
    have e : (fun i : Nat => if i + 1 = j + 1 then c else 0) = fun i => if i = j then c else 0 := funext fun i => by
      by_cases h : i = j
      · rw [if_pos h, if_pos (by omega)]
      · rw [if_neg h, if_neg (by omega)]
    rw [conv, e, conv_mono k j, if_neg (by omega), Int.zero_mul, Int.zero_add]
    by_cases h : j ≤ k
    · rw [if_pos h, if_pos (by omega)]
      have : k + 1 - (j + 1) = k - j := by omega
      rw [this]
    · rw [if_neg h, if_neg (by omega)]
theorem conv_take (x : List Int) (k j : Nat) (q : Nat → Int) : conv k (cf (x.take (j + 1))) q = conv k (cf (x.take j)) q + if j ≤ k then cf x j * q (k - j) else 0 := by
  have e : cf (x.take (j + 1)) = fun i => cf (x.take j) i + if i = j then cf x j else 0 := funext fun i => by
    rw [cf_take, cf_take]
    by_cases h : i = j
    · subst h; rw [if_pos (by omega), if_neg (by omega), if_pos rfl]; omega
    · by_cases h2 : i < j
      · rw [if_pos (by omega), if_pos h2, if_neg h]; omega
      · rw [if_neg (by omega), if_neg h2, if_neg h]; omega
  rw [e, conv_addl k (cf (x.take j)) (fun i => if i = j then cf x j else 0) q, conv_mono]
theorem times_of {s : Int} (hs : Sz s) {a b L : List Int} (h : ∀ i, cf L i = conv i (cf a) (cf b) % s) : trimM L = timesM s a b :=
  of_cf hs (le_times a b) fun i => by
    rw [h i, ce_mul]
    exact conv_cong i (fun i => by rw [ce_pl, Int.emod_emod]) (fun i => by rw [ce_pl, Int.emod_emod])
theorem mulD_in {x y : Int} (h0 : -1000 ≤ x) (h1 : x ≤ 1000) : mulD (.int x) (.int y) = some (.int (x * y)) := by
  rw [mulD_int, if_pos (.inl ⟨Int.lt_of_lt_of_le (by decide) h0, Int.lt_of_le_of_lt h1 (by decide)⟩)]
theorem mulD_in2 {x y : Int} (h0 : -1000 ≤ y) (h1 : y ≤ 1000) : mulD (.int x) (.int y) = some (.int (x * y)) := by
  rw [mulD_int, if_pos (.inr ⟨Int.lt_of_lt_of_le (by decide) h0, Int.lt_of_le_of_lt h1 (by decide)⟩)]
@[simp] theorem neD_nn : neD (.lst []) (.lst []) = some (.bl false) := neD_lI [] []
theorem gRep_by {la : En → Option (List D)} {gb : En → Option D} {ρ : En} {x : List D} {k : Int} (h1 : la ρ = some x) (h2 : gb ρ = some (.int k)) (c : -(2 ^ 63) ≤ k ∧ k < 2 ^ 63 ∧ x.length * k.toNat ≤ 1000000) : gRep la gb ρ = some (List.replicate k.toNat x).flatten := by
  unfold gRep
  rw [h1, h2]
  exact if_pos c
theorem rep_c (n : Nat) (hn : n ≤ 1000000) : [D.int 0].length * (n : Int).toNat ≤ 1000000 := by rw [List.length_singleton, Int.toNat_natCast, Nat.one_mul]; exact hn
theorem rep0 {gn : En → Option D} {ρ : En} {n : Nat} (h : gn ρ = some (.int (n : Int))) (hn : n ≤ 1000000) : gRep (gLst (gCons (gC (.int 0)) gNil)) gn ρ = some ((List.replicate n (0 : Int)).map .int) := by
  have e : gLst (gCons (gC (.int 0)) gNil) ρ = some [D.int 0] := by simp
  have c1 : -(2 ^ 63) ≤ (n : Int) := Int.le_trans (by decide) (Int.natCast_nonneg n)
  have c2 : (n : Int) < 2 ^ 63 := Int.lt_of_le_of_lt (Int.ofNat_le.mpr hn) (by decide)
  rw [gRep_by e h ⟨c1, c2, rep_c n hn⟩, Int.toNat_natCast, rep_flat, List.map_replicate]
theorem low_plus {s : Int} (hs : Sz s) (a : List Int) (c : Int) (b : List Int) (k : Nat) : plusM s a (trimM (List.replicate k 0 ++ b.map fun n => -c * n % s)) = lowM s a c b k := by
  refine can_ext (plus_can hs _ _) (low_can hs _ _ _ _) ?_
  rw [pl_plus, pl_trim, pl_shift, pl_smul, pl_low]
  have : ((-c : Int) : Rg s) = -(c : Rg s) := Lean.Grind.Ring.intCast_neg c
  rw [this]
  grind
theorem low_can2 {s : Int} (hs : Sz s) (k : Nat) (c : Int) (b : List Int) : Can s (trimM (List.replicate k 0 ++ b.map fun n => c * n % s)) := by
  have hm : ∀ i ∈ List.replicate k 0 ++ b.map (fun n => c * n % s), 0 ≤ i ∧ i < s := fun i hi => by
    rcases List.mem_append.mp hi with z | z
    · rw [List.eq_of_mem_replicate z]; exact ⟨Int.le_refl _, hs.pos⟩
    · obtain ⟨n, _, rfl⟩ := List.mem_map.mp z
      exact emod_in hs _
  exact can_trim (fun i hi => (hm i hi).1) (fun i hi => (hm i hi).2)
theorem div_stop {s : Int} {b : List Int} {lead : Int} {n : Nat} {m r : List Int} (h : r.length < b.length) : divM s b lead n m r = (m, r) := by
  cases n with
  | zero => rfl
  | succ n => unfold divM; rw [if_neg (by omega)]
theorem div_go {s : Int} {b : List Int} {lead : Int} {n : Nat} {m r : List Int} (h : b.length ≤ r.length) : divM s b lead (n + 1) m r = divM s b lead n (m.set (r.length - b.length) (cf r (r.length - 1) * lead % s)) (lowM s r (cf r (r.length - 1) * lead % s) b (r.length - b.length)) := by
  rw [divM, if_pos h]
theorem lcG_intm {i : Nat} {ge : En → Option D} {ρ : En} (f : Int → Int) {ns : List Int} (h : ∀ x ∈ ns, ge (ρ.set i (.im (.int x))) = some (.int (f x))) : lcG (set1 i) gYes ge ρ (ns.map D.int) = some ((ns.map f).map D.int) := by
  have := lcG_int (i := i) (gt := gYes) (ge := ge) (ρ := ρ) (fun _ => true) f (ns := ns) fun x hx => ⟨rfl, fun _ => h x hx⟩
  rw [this, List.filter_eq_self.mpr fun _ _ => rfl]
def hvM (a : List Int) (n : Int) : Int := a.foldr (fun c v => c + n * v) 0
theorem ev_hv (s : Int) (n : Int) : ∀ a : List Int, evM s a n = hvM a n % s
  | [] => by simp [evM, hvM]
  | c :: r => by
    have ih := ev_hv s n r
    show (evM s r n * n + c) % s = (c + n * hvM r n) % s
    rw [ih, Int.add_emod, Int.mul_emod, Int.emod_emod, ← Int.mul_emod, ← Int.add_emod, Int.mul_comm, Int.add_comm]
theorem ev_fold (s n : Int) (a : List Int) : evM s a n = a.reverse.foldl (fun v c => (v * n + c) % s) 0 := by
  unfold evM
  rw [List.foldl_reverse]
theorem fold_take (f : Int → Int → Int) (l : List Int) (j : Nat) (h : j < l.length) : (l.take (j + 1)).foldl f 0 = f ((l.take j).foldl f 0) (cf l j) := by
  rw [List.take_succ, List.getElem?_eq_getElem h, cf_lt h, List.foldl_append]
  rfl
theorem ev_in {s : Int} (hs : Sz s) (a : List Int) (n : Int) : 0 ≤ evM s a n ∧ evM s a n < s := by rw [ev_hv]; exact emod_in hs _
theorem hv_drop (a : List Int) (n : Int) (j : Nat) (h : j < a.length) : hvM (a.drop j) n = cf a j + n * hvM (a.drop (j + 1)) n := by
  rw [List.drop_eq_getElem_cons h, cf_lt h]
  rfl
theorem gCat_by {la lb : En → Option (List D)} {ρ : En} {x y : List D} (h1 : la ρ = some x) (h2 : lb ρ = some y) (c : x.length + y.length ≤ 1000000) : gCat la lb ρ = some (x ++ y) := by
  unfold gCat
  rw [h1, h2]
  exact if_pos c
theorem lcG_en {i j : Nat} {ge : En → Option D} {ρ : En} (f : Nat → Int) {ns : List Int} (h : ∀ k, k < ns.length → ge ((ρ.set i (.im (.int (k : Nat)))).set j (.im (.int (cf ns k)))) = some (.int (f k))) : lcG (set2 i j) gYes ge ρ (enD 0 (ns.map D.int)) = some (((List.range ns.length).map f).map D.int) := by
  have := lcG_m (set := set2 i j) (ge := ge) (ρ := ρ) (fun d => match d with | .tup [.int k, _] => .int (f k.toNat) | d => d) (ds := enD 0 (ns.map D.int)) fun d hd => by
    obtain ⟨k, hk⟩ := List.mem_iff_getElem?.mp hd
    obtain ⟨hk2, rfl⟩ := en_get hk
    exact ⟨_, rfl, by rw [h k hk2]; rfl, rfl⟩
  rw [this]
  congr 1
  apply List.ext_getElem?
  intro k
  rw [List.getElem?_map, enD_get, getD_map, List.getElem?_map, List.getElem?_map]
  by_cases hk : k < ns.length
  · rw [if_pos hk, List.getElem?_range hk]
    simp
  · rw [if_neg hk, List.getElem?_eq_none (by simp; omega)]
    rfl
theorem low_law {s : Int} (hs : Sz s) {r b : List Int} (cr : Can s r) (of : Int) {j : Nat} (hj : j + b.length = r.length) : trimM ((List.range r.length).map fun i => (cf r i - of * cf (List.replicate j 0 ++ b) i) % s) = lowM s r (of % s) b j := by
  refine of_cf hs (le_low r (of % s) b j) fun i => ?_
  rw [cf_rng, ce_sub, cr.ce, ce_pl]
  split
  · rename_i hi
    rw [cf_app, cf_app, List.length_replicate, cf_rep]
    by_cases h : i < j
    · simp [h]
    · rw [if_neg h, if_neg h, cf_map _ _ (by omega), Int.emod_emod]
      have e : of % s * cf b (i - j) % s = of * cf b (i - j) % s := by rw [Int.mul_emod, Int.emod_emod, ← Int.mul_emod]
      rw [e, Int.sub_emod (cf r i) (of * cf b (i - j) % s), Int.emod_emod, ← Int.sub_emod]
  · rw [cf_ge (l := r) (by omega), cf_ge (by simp; omega)]
    simp
theorem gR1_by {la : En → Option (List D)} {ρ : En} {k : Int} (h : la ρ = some [.int k]) (c : -(2 ^ 62) ≤ k ∧ k < 2 ^ 62) : gR1 la ρ = some (rngD 0 k.toNat) := by
  unfold gR1
  rw [h]
  exact if_pos c
theorem gR1_nat {la : En → Option (List D)} {ρ : En} {n : Nat} (h : la ρ = some [.int (n : Int)]) (hn : n ≤ 1000000) : gR1 la ρ = some (rngD 0 n) := by
  have c1 : -(2 ^ 62) ≤ (n : Int) := Int.le_trans (by decide) (Int.natCast_nonneg n)
  have c2 : (n : Int) < 2 ^ 62 := Int.lt_of_le_of_lt (Int.ofNat_le.mpr hn) (by decide)
  rw [gR1_by h ⟨c1, c2⟩, Int.toNat_natCast]
theorem gLc_by {gi : En → Option (List D)} {own : List Nat} {set : D → En → Option En} {gt : En → Option Bool} {ge : En → Option D} {ρ : En} {ds es : List D} (h : gi ρ = some ds) (hl : ds.length ≤ 1000000) (h2 : lcG set gt ge (wipeR ρ own) ds = some es) : gLc gi own set gt ge ρ = some es := by
  unfold gLc
  rw [h]
  exact (if_pos hl).trans h2
theorem Sz.ge (h : Sz s) : 2 ≤ s ∧ s ≤ 5 := by rcases h with h | h | h <;> omega
end Pf

set_option Elab.async false
set_option linter.all false
set_option maxRecDepth 100000
set_option maxHeartbeats 2000000
/-! Pm6: values and roots. -/
namespace Pf
section
variable {s : Int}
theorem int_add (a b : Int) : ((a + b : Int) : Rg s) = (a : Rg s) + (b : Rg s) := Lean.Grind.Ring.intCast_add a b
theorem int_neg (a : Int) : ((-a : Int) : Rg s) = -(a : Rg s) := Lean.Grind.Ring.intCast_neg a
theorem int_sub (a b : Int) : ((a - b : Int) : Rg s) = (a : Rg s) - (b : Rg s) := Lean.Grind.Ring.intCast_sub a b
theorem ev_div (a : Int) : ∀ l : List Int, ∃ q : Rg s, Fi q ∧ pl s l = q * (xR s - (a : Rg s)) + (hvM l a : Rg s)
  | [] => ⟨0, fi_zero, by rw [pl_nil]; show (0 : Rg s) = 0 * _ + ((0 : Int) : Rg s); rw [int_zero]; grind⟩
  | c :: r => by
    obtain ⟨q, f, e⟩ := ev_div a r
    refine ⟨xR s * q + (hvM r a : Rg s), (fi_x.mul f).add (fi_int _), ?_⟩
    rw [pl_cons, e]
    show _ = _ + ((c + a * hvM r a : Int) : Rg s)
    rw [int_add, int_mul]
    grind
/-- x less a number -/
def linM (s a : Int) : List Int := [-a % s, 1]
theorem lin_can (h : Sz s) (a : Int) : Can s (linM s a) := by
  have := emod_in h (-a)
  have g := h.ge
  refine ⟨fun i hi => ?_, fun i hi => ?_, rfl⟩
  · simp only [linM, List.mem_cons, List.not_mem_nil, or_false] at hi
    rcases hi with z | z <;> rw [z]
    · exact this.1
    · omega
  · simp only [linM, List.mem_cons, List.not_mem_nil, or_false] at hi
    rcases hi with z | z <;> rw [z]
    · exact this.2
    · omega
theorem pl_lin (a : Int) : pl s (linM s a) = xR s - (a : Rg s) := by
  unfold linM
  rw [pl_cons, pl_one, int_mod, int_neg]
  grind
theorem int_z {c : Int} (h : (c : Rg s) = 0) : c % s = 0 := by
  have := congrArg (fun x => ce x 0) h
  simpa [ce_int, ce_zero] using this
theorem int_z' {c : Int} (h : c % s = 0) : (c : Rg s) = 0 := by
  have : (c : Rg s) = ((0 : Int) : Rg s) := int_cong (by rw [h]; simp)
  exact this
theorem ev_root (h : Sz s) {l : List Int} (c : Can s l) (a : Int) : restM s l (linM s a) = [] ↔ evM s l a = 0 := by
  rw [rest_nil h c (lin_can h a) (by simp [linM]), pl_lin, ev_hv]
  obtain ⟨q, f, e⟩ := ev_div (s := s) a l
  constructor
  · rintro ⟨z, g, e2⟩
    obtain ⟨n, hq⟩ := f
    obtain ⟨m, hz⟩ := g
    have := (part_uniq h (lin_can h a) (by simp [linM]) hq hz (le_int (hvM l a)) (le_zero (n := 1)) (by simp [linM]) (by rw [pl_lin, ← e, e2]; grind)).2
    exact int_z this
  · intro z
    refine ⟨q, f, ?_⟩
    rw [e, int_z' z]
    grind
theorem inv_ex (h : Sz s) {a : Int} (ha : a % s ≠ 0) : ∃ u : Int, (u : Rg s) * (a : Rg s) = 1 := by
  have e := emod_in h a
  obtain ⟨_, _, h3, _⟩ := inv_ok h (a := a % s) (by omega) e.2
  refine ⟨invM s (a % s), ?_⟩
  have : (invM s (a % s) : Rg s) * (a : Rg s) = ((a % s * invM s (a % s) : Int) : Rg s) := by
    rw [int_mul, int_mod]; grind
  rw [this, ← int_one]
  exact int_cong (by rw [h3]; rcases h with h | h | h <;> rw [h] <;> rfl)
theorem lin_len (h : Sz s) {x q : Rg s} {a : Int} {n : Nat} (fq : Fi q) (hx : x ≠ 0) (lx : Le x n) (e : x = q * (xR s - (a : Rg s))) : q ≠ 0 ∧ 1 ≤ n ∧ Le q (n - 1) := by
  have hq : q ≠ 0 := fun z => hx (by rw [e, z]; grind)
  obtain ⟨lq, cq, rfl⟩ := fq.list h
  have cx := li_can h.pos x n
  have hq' : lq ≠ [] := fun z => hq (by rw [z, pl_nil])
  have := len_mul h cq (lin_can h a) cx hq' (by simp [linM]) (by rw [pl_li lx, e, pl_lin])
  have l2 := li_len x n
  have l3 : (linM s a).length = 2 := rfl
  exact ⟨hq, by omega, (le_pl lq).mono (by omega)⟩
theorem roots_le (h : Sz s) : ∀ (rs : List Int) (x : Rg s) (n : Nat), rs.Pairwise (· ≠ ·) → (∀ r ∈ rs, 0 ≤ r ∧ r < s) → x ≠ 0 → Le x n → (∀ r ∈ rs, Dv (xR s - (r : Rg s)) x) → rs.length < n
  | [], x, n, _, _, hx, lx, _ => by
    cases n with
    | zero => exact absurd (le_0.mp lx) hx
    | succ n => simp
  | r :: rs, x, n, hp, hr, hx, lx, hd => by
    obtain ⟨q, fq, e⟩ := hd r (by simp)
    obtain ⟨hq, hn, lq⟩ := lin_len h fq hx lx e
    rw [List.pairwise_cons] at hp
    have := roots_le h rs q (n - 1) hp.2 (fun r' h' => hr r' (List.mem_cons_of_mem _ h')) hq lq fun r' h' => by
      obtain ⟨z, fz, e2⟩ := hd r' (List.mem_cons_of_mem _ h')
      have b1 := hr r (by simp)
      have b2 := hr r' (List.mem_cons_of_mem _ h')
      have b3 := hp.1 r' h'
      obtain ⟨u, hu⟩ := inv_ex h (a := r' - r) (fun z => by
        have := h.ge
        rcases h with h | h | h <;> rw [h] at z b1 b2 <;> omega)
      rw [int_sub] at hu
      refine ⟨(u : Rg s) * (z - q), (fi_int u).mul (fz.sub fq), ?_⟩
      have e3 : q * (xR s - (r : Rg s)) = z * (xR s - (r' : Rg s)) := by rw [← e, e2]
      generalize (r : Rg s) = R at *
      generalize (r' : Rg s) = R' at *
      generalize (u : Rg s) = U at *
      generalize xR s = X at *
      grind
    simp
    omega
theorem roots_lt (h : Sz s) {l : List Int} (c : Can s l) (hl : l ≠ []) : (rootsM s l).length < l.length := by
  refine roots_le h (rootsM s l) (pl s l) l.length ?_ (fun r hr => ?_) (fun z => hl ((can_pl0 c).mp z)) (le_pl l) fun r hr => ?_
  · unfold rootsM
    refine List.Pairwise.filter _ ?_
    rw [List.pairwise_map]
    exact List.nodup_range.imp fun hne z => hne (Int.ofNat.inj z)
  · obtain ⟨h1, _⟩ := List.mem_filter.mp hr
    obtain ⟨i, hi, rfl⟩ := List.mem_map.mp h1
    have := List.mem_range.mp hi
    have g := h.ge
    exact ⟨Int.natCast_nonneg i, by show (i : Int) < s; omega⟩
  · have h2 := of_decide_eq_true (List.mem_filter.mp hr).2
    have := (ev_root h c r).mpr h2
    rw [rest_nil h c (lin_can h r) (by simp [linM]), pl_lin] at this
    exact this
theorem roots_mem (h : Sz s) {l : List Int} {n : Int} (h0 : 0 ≤ n) (h1 : n < s) : n ∈ rootsM s l ↔ evM s l n = 0 := by
  unfold rootsM
  rw [List.mem_filter]
  have : n ∈ (List.range s.toNat).map Int.ofNat := List.mem_map.mpr ⟨n.toNat, List.mem_range.mpr (by omega), by show ((n.toNat : Nat) : Int) = n; omega⟩
  simp [this]
theorem sum_can (h : Sz s) (n : Int) {m : Int} (hm : 0 ≤ m ∧ m ≤ 20 := by omega) : Can s (sumM n s m) := by
  have g := h.ge
  have ok := sumM_ok n s m g.1 hm
  refine ⟨ok.lo, ok.hi, nz_of fun hne => ?_⟩
  have lp := List.length_pos_iff.mpr hne
  have hl := sumM_len n s m
  have hp : 0 < n % (m + 1) := by omega
  have h40 := Int.emod_nonneg (drawM n 40) (show s - 1 ≠ 0 by omega)
  have e : sumM n s m = ((List.range (n % (m + 1)).toNat).map (coefM n s)).set ((n % (m + 1)).toNat - 1) (1 + drawM n 40 % (s - 1)) := by
    simp only [sumM, if_pos hp]
  rw [hl, e, cf_set _ _ _ _ (by simp; omega), if_pos rfl]
  omega
theorem sum_le (h : Sz s) (n : Int) {m : Int} (hm : 0 ≤ m ∧ m ≤ 20 := by omega) : (sumM n s m).length ≤ m.toNat := (sumM_ok n s m h.ge.1 hm).len
theorem sz_szM (n : Int) : Sz (szM n) := szM_mem n
theorem f_sum_ok (h : Sz s) {n : Int} (hn : 0 ≤ n) {m : Int} (hm : 0 ≤ m ∧ m ≤ 20 := by omega) : f_law_sum [.int n, .int s, .int m] = some (tI (sumM n s m)) := by
  have g := h.ge
  simp [f_law_sum]
  omega
@[simp] theorem neD_bl (x y : Bool) : neD (.bl x) (.bl y) = some (.bl (!decide (x = y))) := by simp only [neD, eqB_bl, Option.map_some]
@[simp] theorem inD_ints (i : Int) (ns : List Int) : inD (.int i) (.tup (ns.map .int)) = some (.bl (decide (i ∈ ns))) := by
  have : inD (.int i) (.tup (ns.map .int)) = (dInts (ns.map .int)).map fun ns => .bl (decide (i ∈ ns)) := rfl
  rw [this]; simp
theorem cell_of (ns : List Int) : f_law_mixed [.scr ns, .int 0] = some (.int (mixS ns 0)) := by simp [f_law_mixed]
theorem f_mixed (ns : List Int) {k : Int} (h : 0 ≤ k) : f_law_mixed [.scr ns, .int k] = some (.int (mixS ns k)) := by simp [f_law_mixed, h]
end
end Pf

set_option Elab.async false
set_option linter.all false
set_option maxRecDepth 100000
set_option maxHeartbeats 2000000
/-! Pm7: powers, common parts. -/
namespace Pf
open PySem PySem.Spec L2
section
variable {s : Int}
def powM (s : Int) (a : List Int) : Nat → List Int → List Int
  | 0, b => restM s [1] b
  | n + 1, b => restM s (timesM s (powM s a n b) a) b
theorem one_can (h : Sz s) : Can s [1] := by
  have g := h.ge
  exact ⟨fun i hi => by rw [List.mem_singleton.mp hi]; omega, fun i hi => by rw [List.mem_singleton.mp hi]; omega, rfl⟩
theorem rest_can (h : Sz s) {a b : List Int} (ca : Can s a) (cb : Can s b) (hb : b ≠ []) : Can s (restM s a b) ∧ (restM s a b).length < b.length := ⟨(part_ok h ca cb hb).cr, (part_ok h ca cb hb).lt⟩
theorem rest_le (h : Sz s) {a b : List Int} (ca : Can s a) (cb : Can s b) (hb : b ≠ []) : (restM s a b).length ≤ a.length := by
  by_cases hl : a.length < b.length
  · rw [rest_id h ca cb hl]; exact Nat.le_refl _
  · have := (rest_can h ca cb hb).2
    omega
theorem pow_ok (h : Sz s) {a b : List Int} (ca : Can s a) (cb : Can s b) (hb : b ≠ []) : ∀ n, Can s (powM s a n b) ∧ (powM s a n b).length < b.length ∧ Cg (pl s b) (pl s (powM s a n b)) (pl s a ^ n)
  | 0 => by
    have c1 := one_can h
    have r := rest_can h c1 cb hb
    refine ⟨r.1, r.2, ?_⟩
    have := rest_cg h c1 cb hb
    rw [pl_one] at this
    have e : pl s a ^ 0 = 1 := Lean.Grind.Semiring.pow_zero _
    rw [e]
    exact this
  | n + 1 => by
    obtain ⟨h1, h2, h3⟩ := pow_ok h ca cb hb n
    have ct := times_can h (powM s a n b) a
    have r := rest_can h ct cb hb
    refine ⟨r.1, r.2, ?_⟩
    have e : pl s a ^ (n + 1) = pl s a ^ n * pl s a := Lean.Grind.Semiring.pow_succ _ _
    rw [e]
    have q := rest_cg h ct cb hb
    rw [pl_times] at q
    exact q.trans (Cg.mul (fi_pl _) (fi_pl _) h3 (Cg.refl _ _))
theorem pow_sq (x : Rg s) : ∀ n : Nat, (x * x) ^ n = x ^ (2 * n)
  | 0 => by
    have e : (x * x) ^ 0 = 1 := Lean.Grind.Semiring.pow_zero _
    have e2 : x ^ (2 * 0) = 1 := Lean.Grind.Semiring.pow_zero _
    rw [e, e2]
  | n + 1 => by
    have e : (x * x) ^ (n + 1) = (x * x) ^ n * (x * x) := Lean.Grind.Semiring.pow_succ _ _
    have e2 : x ^ (2 * (n + 1)) = x ^ (2 * n) * x * x := by
      have : 2 * (n + 1) = 2 * n + 1 + 1 := by omega
      rw [this, Lean.Grind.Semiring.pow_succ, Lean.Grind.Semiring.pow_succ]
    rw [e, e2, pow_sq x n]
    grind
theorem Fi.pw {x : Rg s} (h : Fi x) (n : Nat) : Fi (x ^ n) := h.pow n
theorem Cg.pow {b x y : Rg s} (fx : Fi x) (fy : Fi y) (h : Cg b x y) : ∀ n : Nat, Cg b (x ^ n) (y ^ n)
  | 0 => by
    have e : x ^ 0 = 1 := Lean.Grind.Semiring.pow_zero _
    have e2 : y ^ 0 = 1 := Lean.Grind.Semiring.pow_zero _
    rw [e, e2]; exact Cg.refl _ _
  | n + 1 => by
    rw [Lean.Grind.Semiring.pow_succ, Lean.Grind.Semiring.pow_succ]
    exact Cg.mul (fx.pow n) fy (Cg.pow fx fy h n) h
theorem pow_even (x : Rg s) (n : Nat) (h : n % 2 = 0) : x ^ n = (x * x) ^ (n / 2) := by
  rw [pow_sq]; congr 1; omega
theorem pow_odd (x : Rg s) (n : Nat) (h : n % 2 = 1) : x ^ n = x * (x * x) ^ (n / 2) := by
  rw [pow_sq]
  have : n = 2 * (n / 2) + 1 := by omega
  have e : x ^ n = x ^ (2 * (n / 2)) * x := by
    conv => lhs; rw [this]
    exact Lean.Grind.Semiring.pow_succ _ _
  rw [e]; grind
theorem rest_by (h : Sz s) {a b r : List Int} (ca : Can s a) (cb : Can s b) (cr : Can s r) (hr : r.length < b.length) (e : Cg (pl s b) (pl s r) (pl s a)) : r = restM s a b := by
  have hb : b ≠ [] := fun z => by rw [z] at hr; exact absurd hr (Nat.not_lt_zero _)
  rw [← (rest_eq h cr ca cb hb).mpr e, rest_id h cr cb hr]
theorem pow_by (h : Sz s) {a b r : List Int} (ca : Can s a) (cb : Can s b) (cr : Can s r) (hr : r.length < b.length) {n : Nat} (e : Cg (pl s b) (pl s r) (pl s a ^ n)) : r = powM s a n b := by
  have hb : b ≠ [] := fun z => by rw [z] at hr; exact absurd hr (Nat.not_lt_zero _)
  obtain ⟨h1, h2, h3⟩ := pow_ok h ca cb hb n
  rw [rest_by h h1 cb cr hr (e.trans h3.symm), rest_id h h1 cb h2]
def f_rest_of : List D → Option D := kTTI fun a b s => if okP s a b then some (tI (restM s a b)) else none
def f_power : List D → Option D := kTITI fun a n b s => if okC s a b 130 ∧ b ≠ [] ∧ 0 ≤ n then some (tI (powM s a n.toNat b)) else none
/-! common parts -/
def negM (s : Int) (q : List Int) : List Int := q.map fun n => -n % s
theorem neg_can (h : Sz s) {q : List Int} (c : Can s q) : Can s (negM s q) := by
  refine ⟨fun i hi => ?_, fun i hi => ?_, nz_of fun hne => ?_⟩
  · obtain ⟨n, _, rfl⟩ := List.mem_map.mp hi; exact (emod_in h _).1
  · obtain ⟨n, _, rfl⟩ := List.mem_map.mp hi; exact (emod_in h _).2
  · have hq : q ≠ [] := fun z => hne (by rw [z]; rfl)
    have lp := List.length_pos_iff.mpr hq
    have li := last_in c hq
    unfold negM
    rw [List.length_map, cf_map _ _ (by omega)]
    rcases h with h | h | h <;> rw [h] at li ⊢ <;> omega
theorem pl_neg (q : List Int) : pl s (negM s q) = -pl s q := by
  have e := pl_smul (s := s) (-1) q
  have e2 : (q.map fun n => -1 * n % s) = negM s q := List.map_congr_left fun n _ => by rw [Int.neg_mul, Int.one_mul]
  rw [e2] at e
  rw [e, int_neg, int_one]
  grind
abbrev T3 := List Int × List Int × List Int
def stepC (s : Int) (h t : T3) : T3 := (restM s h.1 t.1, plusM s h.2.1 (timesM s (negM s (quoM s h.1 t.1)) t.2.1), plusM s h.2.2 (timesM s (negM s (quoM s h.1 t.1)) t.2.2))
def comL (s : Int) : Nat → T3 → T3 → T3
  | 0, h, _ => h
  | n + 1, h, t => if t.1 = [] then h else comL s n t (stepC s h t)
theorem com_stop {n : Nat} {h t : T3} (e : t.1 = []) : comL s n h t = h := by
  cases n with
  | zero => rfl
  | succ n => rw [comL, if_pos e]
theorem com_go {n : Nat} {h t : T3} (e : t.1 ≠ []) : comL s (n + 1) h t = comL s n t (stepC s h t) := by rw [comL, if_neg e]
/-- what holds all the while -/
structure ComI (s : Int) (A B : Rg s) (k : Nat) (h t : T3) : Prop where
  h1 : Can s h.1
  h2 : Can s h.2.1
  h3 : Can s h.2.2
  t1 : Can s t.1
  t2 : Can s t.2.1
  t3 : Can s t.2.2
  eh : pl s h.1 = pl s h.2.1 * A + pl s h.2.2 * B
  et : pl s t.1 = pl s t.2.1 * A + pl s t.2.2 * B
  l2 : h.2.1.length + h.1.length + t.1.length ≤ k
  l3 : h.2.2.length + h.1.length + t.1.length ≤ k
  m2 : t.2.1.length + h.1.length + t.1.length ≤ k
  m3 : t.2.2.length + h.1.length + t.1.length ≤ k
  dv : ∀ g, Fi g → Dv g (pl s h.1) → Dv g (pl s t.1) → Dv g A ∧ Dv g B
theorem Dv.add {x y z : Rg s} : Dv x y → Dv x z → Dv x (y + z) := fun ⟨u, f, e⟩ ⟨v, g, e2⟩ => ⟨u + v, f.add g, by grind⟩
theorem Dv.sub {x y z : Rg s} : Dv x y → Dv x z → Dv x (y - z) := fun ⟨u, f, e⟩ ⟨v, g, e2⟩ => ⟨u - v, f.sub g, by grind⟩
theorem Dv.mul {x y z : Rg s} (hz : Fi z) : Dv x y → Dv x (z * y) := fun ⟨u, f, e⟩ => ⟨z * u, hz.mul f, by grind⟩
theorem Dv.refl (x : Rg s) : Dv x x := ⟨1, fi_one, by grind⟩
theorem Dv.zero (x : Rg s) : Dv x 0 := ⟨0, fi_zero, by grind⟩
theorem Dv.trans {x y z : Rg s} : Dv x y → Dv y z → Dv x z := fun ⟨u, f, e⟩ ⟨v, g, e2⟩ => ⟨v * u, g.mul f, by grind⟩
theorem com_step (hs : Sz s) {A B : Rg s} {k : Nat} {h t : T3} (I : ComI s A B k h t) (hne : t.1 ≠ []) : ComI s A B k t (stepC s h t) ∧ (stepC s h t).1.length < t.1.length := by
  have p := part_ok hs I.h1 I.t1 hne
  have cn := neg_can hs p.cq
  have ln : (negM s (quoM s h.1 t.1)).length = (quoM s h.1 t.1).length := List.length_map _
  have lt := p.lt
  have lq := p.lq
  have lr := rest_le hs I.h1 I.t1 hne
  have a1 := plus_len (s := s) h.2.1 (timesM s (negM s (quoM s h.1 t.1)) t.2.1)
  have a2 := times_len hs (negM s (quoM s h.1 t.1)) t.2.1
  have a3 := plus_len (s := s) h.2.2 (timesM s (negM s (quoM s h.1 t.1)) t.2.2)
  have a4 := times_len hs (negM s (quoM s h.1 t.1)) t.2.2
  have i1 := I.l2
  have i2 := I.l3
  have i3 := I.m2
  have i4 := I.m3
  have eq := p.eq
  refine ⟨⟨I.t1, I.t2, I.t3, p.cr, plus_can hs _ _, plus_can hs _ _, I.et, ?_, ?_, ?_, ?_, ?_, fun g fg d1 d2 => ?_⟩, lt⟩
  · have eh := I.eh
    have et := I.et
    show pl s (restM s h.1 t.1) = pl s (plusM s h.2.1 _) * A + pl s (plusM s h.2.2 _) * B
    rw [pl_plus, pl_plus, pl_times, pl_times, pl_neg]
    grind
  · show t.2.1.length + t.1.length + (restM s h.1 t.1).length ≤ k
    omega
  · show t.2.2.length + t.1.length + (restM s h.1 t.1).length ≤ k
    omega
  · show (plusM s h.2.1 (timesM s (negM s (quoM s h.1 t.1)) t.2.1)).length + t.1.length + (restM s h.1 t.1).length ≤ k
    omega
  · show (plusM s h.2.2 (timesM s (negM s (quoM s h.1 t.1)) t.2.2)).length + t.1.length + (restM s h.1 t.1).length ≤ k
    omega
  · refine I.dv g fg ?_ d1
    rw [eq]
    exact (d1.mul (fi_pl _)).add d2
theorem com_fin (hs : Sz s) {A B : Rg s} {k : Nat} : ∀ (n : Nat) (h t : T3), ComI s A B k h t → t.1.length ≤ n → ∃ t', t'.1 = [] ∧ ComI s A B k (comL s n h t) t'
  | 0, h, t, I, hn => ⟨t, List.length_eq_zero_iff.mp (by omega), I⟩
  | n + 1, h, t, I, hn => by
    by_cases e : t.1 = []
    · rw [com_stop e]; exact ⟨t, e, I⟩
    · obtain ⟨I2, lt⟩ := com_step hs I e
      rw [com_go e]
      exact com_fin hs n _ _ I2 (by omega)
def comM (s : Int) (a b : List Int) : T3 :=
  let h := comL s b.length (a, [1], []) (b, [], [1])
  if h.1 = [] then ([], [], []) else (timesM s h.1 [leadM s h.1], timesM s h.2.1 [leadM s h.1], timesM s h.2.2 [leadM s h.1])
theorem com_start (hs : Sz s) {a b : List Int} (ca : Can s a) (cb : Can s b) : ComI s (pl s a) (pl s b) (a.length + b.length + 1) (a, [1], []) (b, [], [1]) :=
  ⟨ca, one_can hs, Can.nil, cb, Can.nil, one_can hs, by show pl s a = pl s [1] * _ + pl s [] * _; rw [pl_one, pl_nil]; grind, by show pl s b = pl s [] * _ + pl s [1] * _; rw [pl_one, pl_nil]; grind,
    by show 1 + a.length + b.length ≤ _; omega, by show 0 + a.length + b.length ≤ _; omega, by show 0 + a.length + b.length ≤ _; omega, by show 1 + a.length + b.length ≤ _; omega, fun g _ d1 d2 => ⟨d1, d2⟩⟩
theorem num_can (hs : Sz s) {x : Int} (h0 : 0 < x) (h1 : x < s) : Can s [x] :=
  ⟨fun i hi => by rw [List.mem_singleton.mp hi]; omega, fun i hi => by rw [List.mem_singleton.mp hi]; omega, by rw [nzL_cons, if_pos rfl]; simp; omega⟩
theorem pl_num (x : Int) : pl s [x] = (x : Rg s) := by rw [pl_cons, pl_nil]; grind
theorem top_mul {x y : List Int} (cx : Can s x) (c : Int) (hx : x ≠ []) (i : Nat) : ce (pl s x * (c : Rg s)) i = cf x i * c % s := by
  have e : pl s x * (c : Rg s) = pl s (x.map fun n => c * n % s) := by rw [pl_smul]; grind
  rw [e, ce_pl]
  by_cases hi : i < x.length
  · rw [cf_map _ _ hi, Int.emod_emod, Int.mul_comm]
  · rw [cf_ge (by simp; omega), cf_ge (by omega)]; simp
structure ComOk (s : Int) (a b : List Int) (z : T3) : Prop where
  c1 : Can s z.1
  c2 : Can s z.2.1
  c3 : Can s z.2.2
  eq : pl s z.1 = pl s z.2.1 * pl s a + pl s z.2.2 * pl s b
  d1 : Dv (pl s z.1) (pl s a)
  d2 : Dv (pl s z.1) (pl s b)
  ze : a = [] → b = [] → z = ([], [], [])
  ne : a ≠ [] ∨ b ≠ [] → z.1 ≠ [] ∧ cf z.1 (z.1.length - 1) = 1
  l1 : z.1.length ≤ a.length + b.length + 2
  l2 : z.2.1.length ≤ a.length + b.length + 2
  l3 : z.2.2.length ≤ a.length + b.length + 2
theorem com_ok (hs : Sz s) {a b : List Int} (ca : Can s a) (cb : Can s b) : ComOk s a b (comM s a b) := by
  obtain ⟨t, ht, I⟩ := com_fin hs b.length _ _ (com_start hs ca cb) (Nat.le_refl _)
  obtain ⟨h, hh⟩ : ∃ h, h = comL s b.length (a, [1], []) (b, [], [1]) := ⟨_, rfl⟩
  have e : comM s a b = if h.1 = [] then ([], [], []) else (timesM s h.1 [leadM s h.1], timesM s h.2.1 [leadM s h.1], timesM s h.2.2 [leadM s h.1]) := by rw [hh]; rfl
  rw [← hh] at I
  have dd := I.dv (pl s h.1) (fi_pl _) (Dv.refl _) (by rw [ht, pl_nil]; exact Dv.zero _)
  rw [e]
  by_cases he : h.1 = []
  · rw [if_pos he]
    rw [he, pl_nil] at dd
    have z : ∀ l, Can s l → Dv 0 (pl s l) → l = [] := fun l c ⟨u, _, eu⟩ => (can_pl0 c).mp (by rw [eu]; grind)
    have za := z a ca dd.1
    have zb := z b cb dd.2
    subst za; subst zb
    refine ⟨Can.nil, Can.nil, Can.nil, ?_, ?_, ?_, fun _ _ => rfl, fun q => by rcases q with q | q <;> exact absurd rfl q, by simp, by simp, by simp⟩
    · simp only [pl_nil]; grind
    · simp only [pl_nil]; exact Dv.zero _
    · simp only [pl_nil]; exact Dv.zero _
  · rw [if_neg he]
    have li := last_in I.h1 he
    have lk := lead_ok hs I.h1 he
    have lv := inv_ok hs li.1 li.2
    have cl : Can s [leadM s h.1] := num_can hs lv.1 lv.2.1
    have a1 := times_len hs h.1 [leadM s h.1]
    have a2 := times_len hs h.2.1 [leadM s h.1]
    have a3 := times_len hs h.2.2 [leadM s h.1]
    have i1 := I.l2
    have i2 := I.l3
    simp only [List.length_singleton] at a1 a2 a3
    have unit : (leadM s h.1 : Rg s) * (cf h.1 (h.1.length - 1) : Rg s) = 1 := by
      rw [← int_mul, ← int_one]
      refine int_cong ?_
      rw [Int.mul_comm, lk]
      rcases hs with q | q | q <;> rw [q] <;> rfl
    have back : ∀ x : Rg s, Dv (pl s h.1) x → Dv (pl s (timesM s h.1 [leadM s h.1])) x := fun x ⟨u, fu, eu⟩ => ⟨u * (cf h.1 (h.1.length - 1) : Rg s), fu.mul (fi_int _), by
      rw [pl_times, pl_num, eu]
      generalize (leadM s h.1 : Rg s) = U at *
      generalize (cf h.1 (h.1.length - 1) : Rg s) = V at *
      grind⟩
    have hne : timesM s h.1 [leadM s h.1] ≠ [] ∧ cf (timesM s h.1 [leadM s h.1]) ((timesM s h.1 [leadM s h.1]).length - 1) = 1 := by
      have le := times_len_eq hs I.h1 cl he (by simp)
      have lp := List.length_pos_iff.mpr he
      rw [List.length_singleton] at le
      refine ⟨fun z => ?_, ?_⟩
      · rw [z, List.length_nil] at le; omega
      · have e1 : (timesM s h.1 [leadM s h.1]).length - 1 = h.1.length - 1 := by omega
        rw [← (times_can hs _ _).ce, pl_times, pl_num, top_mul (y := []) I.h1 _ he, e1, lk]
    refine ⟨times_can hs _ _, times_can hs _ _, times_can hs _ _, ?_, back _ dd.1, back _ dd.2, fun za zb => ?_, fun _ => hne, ?_, ?_, ?_⟩
    · have eh := I.eh
      simp only [pl_times, pl_num]
      grind
    · exfalso
      have eh := I.eh
      rw [za, zb, pl_nil] at eh
      exact he ((can_pl0 I.h1).mp (by rw [eh]; grind))
    · show (timesM s h.1 _).length ≤ _
      omega
    · show (timesM s h.2.1 _).length ≤ _
      omega
    · show (timesM s h.2.2 _).length ≤ _
      omega
def tT (h : T3) : D := .tup [tI h.1, tI h.2.1, tI h.2.2]
@[simp] theorem tT_0 (h : T3) : ixD (tT h) (.int 0) = some (tI h.1) := rfl
@[simp] theorem tT_1 (h : T3) : ixD (tT h) (.int 1) = some (tI h.2.1) := rfl
@[simp] theorem tT_2 (h : T3) : ixD (tT h) (.int 2) = some (tI h.2.2) := rfl
theorem tT_mk (x y z : List Int) : D.tup [tI x, tI y, tI z] = tT (x, y, z) := rfl
theorem at1 {α : Type} (x y : α) (l : List α) : L2.atI (x :: y :: l) 1 = some y := atI_get (by decide) rfl
theorem f_times_ok {a b : List Int} (hs : Sz s) (ca : Can s a) (cb : Can s b) (hl : a.length + b.length ≤ 1000) : f_times [tI a, tI b, .int s] = some (tI (timesM s a b)) := by
  simp only [f_times, kTTI_mk, if_pos (show okC s a b 1000 from ⟨hs, ca, cb, hl⟩)]
theorem f_plus_ok {a b : List Int} (hs : Sz s) (ca : Can s a) (cb : Can s b) (hl : a.length + b.length ≤ 1000) : f_plus [tI a, tI b, .int s] = some (tI (plusM s a b)) := by
  simp only [f_plus, kTTI_mk, if_pos (show okC s a b 1000 from ⟨hs, ca, cb, hl⟩)]
theorem f_ltimes_in {a b : List Int} (hs : Sz s) (ca : InR s a) (cb : InR s b) (hl : a.length + b.length ≤ 1000) : f_law_times [tI a, tI b, .int s] = some (tI (timesM s a b)) := by
  simp only [f_law_times, kTTI_mk, if_pos (show okI s a b 1000 from ⟨hs, ca, cb, hl⟩)]
theorem f_ltimes_ok {a b : List Int} (hs : Sz s) (ca : Can s a) (cb : Can s b) (hl : a.length + b.length ≤ 1000) : f_law_times [tI a, tI b, .int s] = some (tI (timesM s a b)) := f_ltimes_in hs ca.inR cb.inR hl
theorem f_lplus_ok {a b : List Int} (hs : Sz s) (ca : Can s a) (cb : Can s b) (hl : a.length + b.length ≤ 1000) : f_law_plus [tI a, tI b, .int s] = some (tI (plusM s a b)) := by
  simp only [f_law_plus, kTTI_mk, if_pos (show okC s a b 1000 from ⟨hs, ca, cb, hl⟩)]
theorem f_parted_ok {a b : List Int} (hs : Sz s) (ca : Can s a) (cb : Can s b) (hb : b ≠ []) (hl : a.length + b.length ≤ 400) : f_parted [tI a, tI b, .int s] = some (.tup [tI (quoM s a b), tI (restM s a b)]) := by
  simp only [f_parted, kTTI_mk, if_pos (show okP s a b from ⟨⟨hs, ca, cb, hl⟩, hb⟩)]
theorem f_lrest_ok {a b : List Int} (hs : Sz s) (ca : Can s a) (cb : Can s b) (hb : b ≠ []) (hl : a.length + b.length ≤ 400) : f_law_rest [tI a, tI b, .int s] = some (tI (restM s a b)) := by
  simp only [f_law_rest, kTTI_mk, if_pos (show okP s a b from ⟨⟨hs, ca, cb, hl⟩, hb⟩)]
theorem f_rest_of_ok {a b : List Int} (hs : Sz s) (ca : Can s a) (cb : Can s b) (hb : b ≠ []) (hl : a.length + b.length ≤ 400) : f_rest_of [tI a, tI b, .int s] = some (tI (restM s a b)) := by
  simp only [f_rest_of, kTTI_mk, if_pos (show okP s a b from ⟨⟨hs, ca, cb, hl⟩, hb⟩)]
theorem f_power_ok {a b : List Int} (hs : Sz s) (ca : Can s a) (cb : Can s b) (hb : b ≠ []) (hl : a.length + b.length ≤ 130) {n : Int} (hn : 0 ≤ n) : f_power [tI a, .int n, tI b, .int s] = some (tI (powM s a n.toNat b)) := by
  simp only [f_power, kTITI_mk, if_pos (show okC s a b 130 ∧ b ≠ [] ∧ 0 ≤ n from ⟨⟨hs, ca, cb, hl⟩, hb, hn⟩)]
theorem f_inv_ok {x : Int} (hs : Sz s) (h0 : 0 < x) (h1 : x < s) : f_inverse_of [.int x, .int s] = some (.int (invM s x)) := by
  simp only [f_inverse_of, kII_mk, if_pos (show Sz s ∧ 0 < x ∧ x < s from ⟨hs, h0, h1⟩)]
theorem isLong_can (hs : Sz s) {a : List Int} (c : Can s a) : isLongB (tI a) s = true := by
  have e1 : isLongB (tI a) s = ((a.map D.int).all (fun d => isNumB d 0 (s - 1)) && lastNZ (a.map .int)) := rfl
  rw [e1, lastNZ_ints, c.nz, Bool.and_true, List.all_map, List.all_eq_true]
  intro i hi
  have h1 := c.lo i hi
  have h2 := c.hi i hi
  simp [isNumB]
  omega
theorem f_long_ok (hs : Sz s) {a : List Int} (c : Can s a) (hl : a.length ≤ 1000000) : f_law_is_long_sum [tI a, .int s] = some (.bl true) := by
  have h1 : okN 60 (tI a) = true := by simp only [okN]; exact okNA_ints _ a
  have h2 : szD (tI a) = true := decide_eq_true (by rw [List.length_map]; exact hl)
  simp only [f_law_is_long_sum, kAI_mk, if_pos (show okN 60 (tI a) = true ∧ szD (tI a) = true from ⟨h1, h2⟩), isLong_can hs c]
theorem f_is_ok (hs : Sz s) {a : List Int} (c : Can s a) (hl : a.length ≤ 9) : f_law_is_sum [tI a, .int s] = some (.bl true) := by
  have h1 : okN 60 (tI a) = true := by simp only [okN]; exact okNA_ints _ a
  have h2 : szD (tI a) = true := decide_eq_true (by rw [List.length_map]; omega)
  have h3 : lenLe9 (tI a) = true := decide_eq_true (by rw [List.length_map]; exact hl)
  simp only [f_law_is_sum, kAI_mk, if_pos (show okN 60 (tI a) = true ∧ szD (tI a) = true from ⟨h1, h2⟩), isLong_can hs c, h3, Bool.and_self]
def f_common : List D → Option D := kTTI fun a b s => if okC s a b 100 then some (tT (comM s a b)) else none
theorem f_common_ok {a b : List Int} (hs : Sz s) (ca : Can s a) (cb : Can s b) (hl : a.length + b.length ≤ 100) : f_common [tI a, tI b, .int s] = some (tT (comM s a b)) := by
  simp only [f_common, kTTI_mk, if_pos (show okC s a b 100 from ⟨hs, ca, cb, hl⟩)]
theorem toPyA_tts : ∀ L : List (List Int), toPyA (L.map fun l => tI l) = some (L.map fun l => PyData.tuple (l.map .int))
  | [] => rfl
  | l :: L => by simp [toPyA, toPy, toPyA_tts L, toPyA_ints]
theorem canLay_tts : ∀ L : List (List Int), PyData.canLayAll0 (L.map fun l => PyData.tuple (l.map .int)) = true
  | [] => rfl
  | l :: L => by simp [PyData.canLayAll0, PyData.canLay0, canLay_tts L, canLay_ints]
theorem depth_tts : ∀ L : List (List Int), PyData.depthAll (L.map fun l => PyData.tuple (l.map .int)) ≤ 2
  | [] => by simp [PyData.depthAll]
  | l :: L => by
    have := depth_tts L
    have := depth_ints l
    simp only [List.map_cons, PyData.depthAll, PyData.depth]
    omega
theorem eqv_tts : ∀ L M : List (List Int), PyData.eqvAll (L.map fun l => .tuple (l.map .int)) (M.map fun l => .tuple (l.map .int)) = decide (L = M)
  | [], [] => rfl
  | [], y :: ys => by simp [PyData.eqvAll]
  | x :: xs, [] => by simp [PyData.eqvAll]
  | x :: xs, y :: ys => by
    simp only [List.map_cons, PyData.eqvAll, PyData.eqv, eqv_tts xs ys, eqv_ints]
    by_cases h : x = y <;> by_cases h2 : xs = ys <;> simp [h, h2]
theorem shaped_tts (L : List (List Int)) : SeqAt.shaped (.tuple (L.map fun l => .tuple (l.map .int))) = true := by
  have h1 := canLay_tts L
  have h2 := depth_tts L
  simp only [SeqAt.shaped, PyData.canLay0, PyData.depth, h1, Bool.true_and]
  exact decide_eq_true (by omega)
theorem eqB_tt (L M : List (List Int)) : eqB (.tup (L.map fun l => tI l)) (.tup (M.map fun l => tI l)) = some (decide (L = M)) := by
  simp only [eqB, toPy, toPyA_tts, Option.map_some, Option.bind_some, shaped_tts, and_self, if_true, PyData.eqv, eqv_tts]
theorem eqD_tt (L M : List (List Int)) : eqD (.tup (L.map fun l => tI l)) (.tup (M.map fun l => tI l)) = some (.bl (decide (L = M))) := by simp only [eqD, eqB_tt, Option.map_some]
theorem eqD_n3 : eqD (.tup [.tup [], .tup [], .tup []]) (.tup [.tup [], .tup [], .tup []]) = some (.bl true) := eqD_tt [[], [], []] [[], [], []]
theorem wIf_to {tt : En → Option Bool} {U V : Po → En → Prop} {P : Po} {ρ : En} {k : Bool} (h : tt ρ = some k) (ρ' : En) (h1 : k = true → ∀ Q : Po, Q.nx ρ' → U Q ρ) (h2 : k = false → ∀ Q : Po, Q.nx ρ' → V Q ρ) (hn : P.nx ρ') : wIf tt U V P ρ :=
  ⟨k, h, fun e => h1 e P hn, fun e => h2 e P hn⟩
theorem app_can (hs : Sz s) {l : List Int} (h1 : ∀ i ∈ l, 0 ≤ i) (h2 : ∀ i ∈ l, i < s) {c : Int} (c0 : 0 < c) (c1 : c < s) : Can s (l ++ [c]) := by
  refine ⟨fun i hi => ?_, fun i hi => ?_, nz_of fun _ => ?_⟩
  · rcases List.mem_append.mp hi with z | z
    · exact h1 i z
    · rw [List.mem_singleton.mp z]; omega
  · rcases List.mem_append.mp hi with z | z
    · exact h2 i z
    · rw [List.mem_singleton.mp z]; omega
  · rw [cf_app, List.length_append, List.length_singleton, if_neg (by omega)]
    have : l.length + 1 - 1 - l.length = 0 := by omega
    rw [this, cf_cons0]
    omega
theorem cons_can {x : Int} {l : List Int} (c : Can s l) (hl : l ≠ []) (x0 : 0 ≤ x) (x1 : x < s) : Can s (x :: l) := by
  refine ⟨fun i hi => ?_, fun i hi => ?_, by rw [nzL_cons, if_neg hl]; exact c.nz⟩
  · rcases List.mem_cons.mp hi with z | z
    · rw [z]; exact x0
    · exact c.lo i z
  · rcases List.mem_cons.mp hi with z | z
    · rw [z]; exact x1
    · exact c.hi i z
end
end Pf

set_option Elab.async false
set_option linter.all false
set_option maxRecDepth 100000
set_option maxHeartbeats 2000000
/-! Pf14: refusals. -/
namespace Pf
open PySem PySem.Spec L2
abbrev bmVE : List Value := [.type "ValueError", .type "Exception", .type "BaseException", .type "object"]
/-- a class whose instances are raised with a text -/
structure ExR (K : PySem.W.Frag) (C : Addr) : Prop where
  q : PySem.W.excIn K C bmVE "ValueError.__new__" = true
  kC : PySem.W.keepIn K (.ref C) = true
  r1 : PySem.W.subIn K (.ref C) (.type "BaseException") = some true
  r2 : PySem.W.typeIn K (.ref C) = some (.type "type")
/-- what the end knows of the refusal x, its base, and two other ones -/
structure ExcF (K : PySem.W.Frag) (mg : Str → Option Value) (x a b : Str) (C F A B : Addr) : Prop where
  gC : mg x = some (.ref C)
  gF : mg "FoldError" = some (.ref F)
  gA : mg a = some (.ref A)
  gB : mg b = some (.ref B)
  r : ExR K C
  e : ExcC K C
  mC : PySem.W.exmOne K (.ref C) (.ref C) = some true
  mF : PySem.W.exmOne K (.ref C) (.ref F) = some true
  kF : PySem.W.kitOne K (.ref C) (.ref F) = some true
  kV : PySem.W.kitOne K (.ref C) (.type "ValueError") = some true
  kA : PySem.W.kitOne K (.ref C) (.ref A) = some false
  kB : PySem.W.kitOne K (.ref C) (.ref B) = some false
  kC : PySem.W.kitOne K (.ref C) (.ref C) = some true
def ExcT (K : PySem.W.Frag) (mg : Str → Option Value) (x a b : Str) : Prop := ∃ C F A B, ExcF K mg x a b C F A B
/-! ### promises with refusals -/
inductive Rs where
  | ok (d : D) | no (x : Str)
def spX (K : PySem.W.Frag) (mg : Str → Option Value) (fn : List D → Option Rs) : Sp := fun vs H Q E => ∃ ds r, DqA K H vs ds ∧ fn ds = some r ∧ (∀ d, r = .ok d → ∀ v H', Same H H' → Dq K H' v d → Q v H') ∧ (∀ x C H', r = .no x → mg x = some (.ref C) → Same H H' → E (.ref C) none H')
section
variable {P : Program} {w : World} {K : PySem.W.Frag} {mg : Str → Option Value} {base : Heap}
def FnX (P : Program) (w : World) (K : PySem.W.Frag) (mg : Str → Option Value) (base : Heap) (k : Nat) (x : Str) (fn : List D → Option Rs) : Prop :=
  ∃ (f : Addr) (fd : FuncData) (ps : List Str), FnOk P w K mg base (L2.CX P w) k f fd ps (spX K mg fn) ∧ mg x = some (.ref f) ∧ PySem.W.keepIn K (.ref f) = true ∧ Binds K fd ps []
def okR (fn : List D → Option Rs) : List D → Option D := fun ds => match fn ds with
  | some (.ok d) => some d
  | _ => none
/-- .. where it does not refuse -/
theorem FnX.cal {k : Nat} {x : Str} {fn : List D → Option Rs} (h : FnX P w K mg base k x fn) {lv : Nat} {N : List Str} {sc : Scope} {df : Bool} {md : Option (Cx → Prop)} (hk : k ≤ lv := by first | exact Nat.le_of_ble_eq_true rfl | exact Nat.le_refl _ | assumption) : Callee ⟨P, w, K, mg, base, lv, N, sc, df, md⟩ x (okR fn) := by
  obtain ⟨f, fd, ps, F, hm, kp, b⟩ := h
  refine ⟨L2.CX P w, k, f, fd, ps, F.imp fun vs H Q E q => ?_, hk, hm, kp, b, fun X h1 h2 => ?_⟩
  · obtain ⟨ds, d, e1, e2, e3⟩ := q
    unfold okR at e2
    split at e2
    · rename_i e4
      cases e2
      exact ⟨ds, .ok _, e1, e4, fun d2 z => by cases z; exact e3, fun _ _ _ z => nomatch z⟩
    · cases e2
  · have h1 : X.prog = P := h1
    have h2 : X.w = w := h2
    rw [← h1, ← h2]
    exact passL
end
section
variable {T : Ct} {a b c tg iter : Expr} {ga gb gc : En → Option D} {pos : Pos}
def ContX (K : PySem.W.Frag) (mg : Str → Option Value) (ρ : En) (σ : L2.St) (H : Hp) (px : Str → En → Prop) (Wx : WX) : Prop :=
  ∀ x C σ' H' ρ', mg x = some (.ref C) → Env K H' σ' ρ' → Evo ρ σ H ρ' σ' H' → px x ρ' → Wx (.ref C) none σ' H'
theorem ContX.on {K : PySem.W.Frag} {mg : Str → Option Value} {ρ ρ1 : En} {σ σ1 : L2.St} {H H1 : Hp} {px : Str → En → Prop} {Wx : WX} (c : ContX K mg ρ σ H px Wx) (e : Evo ρ σ H ρ1 σ1 H1) : ContX K mg ρ1 σ1 H1 px Wx :=
  fun x C σ' H' ρ' h1 h2 h3 h4 => c x C σ' H' ρ' h1 h2 (e.trans h3) h4
abbrev Px := Str → En → Prop
def SSr (T : Ct) (st : Stmt) (W : Po → Px → En → Prop) : Prop :=
  ∀ X, GoodS T X → ∀ Wx, Takes X Wx → ∀ (σ : L2.St) (H : Hp) (ρ : En) (P : Po) (px : Px) (E : Ends), Env T.K H σ ρ → W P px ρ → Cont T.K ρ σ H P E → ContX T.K T.mg ρ σ H px Wx → wS X st E σ H
def SBr (T : Ct) (st : List Stmt) (W : Po → Px → En → Prop) : Prop :=
  ∀ X, GoodS T X → ∀ Wx, Takes X Wx → ∀ (σ : L2.St) (H : Hp) (ρ : En) (P : Po) (px : Px) (E : Ends), Env T.K H σ ρ → W P px ρ → Cont T.K ρ σ H P E → ContX T.K T.mg ρ σ H px Wx → wB X st E σ H
def xNil : Po → Px → En → Prop := fun P _ ρ => P.nx ρ
theorem sr_nil : SBr T [] xNil := fun X G Wx tk σ H ρ P px E env h c cx => ⟨_, pss_nil, c.nx σ H ρ env (Evo.refl _ _ _) h⟩
def xCons (U V : Po → Px → En → Prop) : Po → Px → En → Prop := fun P px ρ => U { P with nx := V P px } px ρ
theorem sr_cons {st : Stmt} {r : List Stmt} {U V : Po → Px → En → Prop} (h1 : SSr T st U) (h2 : SBr T r V) : SBr T (st :: r) (xCons U V) := by
  intro X G Wx tk σ H ρ P px E env h c cx
  refine ⟨_, pss_cons ps_w pss_w, ?_⟩
  refine h1 X G Wx tk σ H ρ { P with nx := V P px } px { E with nx := wB X r E } env h ⟨fun σ' H' ρ' e1 e2 e3 => ?_, c.rt, c.bk, c.ct⟩ cx
  exact h2 X G Wx tk σ' H' ρ' P px E e1 e3 (c.on e2) (cx.on e2)
def xOf (U : Po → En → Prop) : Po → Px → En → Prop := fun P _ ρ => U P ρ
theorem sr_of {st : Stmt} {U : Po → En → Prop} (h : SS T st U) : SSr T st (xOf U) := fun X G Wx tk σ H ρ P px E env w c cx => h X G σ H ρ P E env w c
theorem sbr_of {st : List Stmt} {U : Po → En → Prop} (h : SB T st U) : SBr T st (xOf U) := fun X G Wx tk σ H ρ P px E env w c cx => h X G σ H ρ P E env w c
def xIf (g : En → Option Bool) (U V : Po → Px → En → Prop) : Po → Px → En → Prop := fun P px ρ => ∃ k, g ρ = some k ∧ (k = true → U P px ρ) ∧ (k = false → V P px ρ)
theorem sr_if {tt : En → Option Bool} {u v : List Stmt} {U V : Po → Px → En → Prop} (ht : ST T c tt) (hu : SBr T u U) (hv : SBr T v V) : SSr T (.If c u v pos) (xIf tt U V) := by
  intro X G Wx tk σ H ρ P px E env h k kx
  obtain ⟨b, h1, h2, h3⟩ := h
  refine ⟨_, ps_if pt_w pss_w pss_w, ?_⟩
  refine ht X G.1 σ H ρ b env h1 _ fun H1 s1 => ?_
  cases b with
  | true =>
    rw [if_pos rfl]
    exact hu X G Wx tk σ H1 ρ P px E (env.mono s1) (h2 rfl) (k.on (evo_same s1)) (kx.on (evo_same s1))
  | false =>
    rw [if_neg Bool.false_ne_true]
    exact hv X G Wx tk σ H1 ρ P px E (env.mono s1) (h3 rfl) (k.on (evo_same s1)) (kx.on (evo_same s1))
def xRaise (x : Str) : Po → Px → En → Prop := fun _ px ρ => px x ρ
theorem sr_raise {x m : Str} {j : Nat} {p p2 pos2 : Pos} {y z : Str} (hx : ExcT T.K T.mg x y z) (hg : T.sc.names.lookup x = some .globalImplicit) (hmd : T.md = none := by rfl) (hdb : (x == ("__debug__" : Str)) = false := by decide) :
    SSr T (.Raise (some (.Call (.Name x p) [.Constant (.str m) j p2] [] pos)) none pos2) (xRaise x) := by
  intro X G Wx tk σ H ρ P px E env h k kx
  obtain ⟨C, F, A, B, f⟩ := hx
  refine ⟨_, ps_raise (G.1.calm hmd) tk (pmk_own PySem.F.excBase_ValueError (by rw [G.1.hK]; exact f.r.q) (by rw [G.1.hm]; exact f.gC) (by rw [G.1.hK]; exact f.r.kC) (raises_own (by rw [G.1.hK]; exact f.r.r1) (by rw [G.1.hK]; exact f.r.r2)) (by show X.env.scope.names.lookup x = _; rw [G.1.hs]; exact hg) hdb), ?_⟩
  exact kx x C σ H ρ f.gC env (Evo.refl _ _ _) h
/-- x = f(..), f may refuse -/
def xSet (i : Nat) (fn : List D → Option Rs) (g : En → Option (List D)) : Po → Px → En → Prop := fun P px ρ => ∃ ds r, g ρ = some ds ∧ fn ds = some r ∧ (∀ d, r = .ok d → P.nx (ρ.set i (.im d))) ∧ (∀ x, r = .no x → px x ρ)
theorem callX {x : Str} {fn : List D → Option Rs} {e : Expr} {es : List Expr} {g : En → Option (List D)} {p : Pos} {k : Nat} (C : FnX T.P T.w T.K T.mg T.base k x fn) (h : SA T (e :: es) g) (hg : T.sc.names.lookup x = some .globalImplicit) (hk : k ≤ T.lv)
    (hdb : (x == ("__debug__" : Str)) = false) (he : ∀ env, starEach (e :: es) env = (false, eval e env) :: starEach es env) (hpl : ∀ env, (backTo pos (starEach es env)).any (·.1) = false) (hmd : T.md = none)
    {X : Cx} (G : Good T X) {Wx : WX} (tk : Takes X Wx) {px : Px} {P : Po} {E : Ends} {σ : L2.St} {H : Hp} {ρ : En} (env : Env T.K H σ ρ) {ds : List D} {r : Rs} (h1 : g ρ = some ds) (h2 : fn ds = some r) {Q : VK} (hq : ∀ d, r = .ok d → ∀ v H', Same H H' → Dq T.K H' v d → Q v H') (hx : ∀ x, r = .no x → px x ρ) (cx : ContX T.K T.mg ρ σ H px Wx) :
    wE X (.Call (.Name x p) (e :: es) [] pos) σ H Q := by
  obtain ⟨f, fd, ps, F, hm, kp, b⟩ := C
  have F' : FnOk X.prog X.w X.K X.mg X.base (L2.CX X.prog X.w) k f fd ps (spX T.K T.mg fn) := by rw [G.hP, G.hw, G.hK, G.hm, G.hb]; exact F
  refine ⟨_, pe_callS (E := WE Wx) F' ((G.room hmd).mono hk) (by show X.env.scope.names.lookup x = _; rw [G.hs]; exact hg) (by rw [G.hm]; exact hm) (by rw [G.hK]; exact kp) (by rw [G.hK]; exact b) (fun σ => passAt tk σ) pa_w hdb (he X.env) (hpl X.env), ?_⟩
  refine h X G σ H ρ ds env h1 _ fun vs H1 s1 d1 => ?_
  exact ⟨ds, r, d1, h2, fun d e v H' s2 d2 => hq d e v H' (s1.trans s2) d2, fun y C H' e hy s2 => cx y C σ H' ρ hy (env.mono (s1.trans s2)) (evo_same (s1.trans s2)) (hx y e)⟩
theorem sr_set (i : Nat) {y : Str} {py : Pos} {x : Str} {fn : List D → Option Rs} {e : Expr} {es : List Expr} {g : En → Option (List D)} {p pos2 : Pos} {k : Nat} (C : FnX T.P T.w T.K T.mg T.base k x fn) (h : SA T (e :: es) g) (hg : T.sc.names.lookup x = some .globalImplicit) (hN : T.N[i]? = some y) (hy : locB T y = true) (hk : k ≤ T.lv := by first | exact Nat.le_of_ble_eq_true rfl | exact Nat.le_refl _ | assumption)
    (hdb : (x == ("__debug__" : Str)) = false := by decide) (he : ∀ env, starEach (e :: es) env = (false, eval e env) :: starEach es env := by intro _; rfl) (hpl : ∀ env, (backTo pos (starEach es env)).any (·.1) = false := by intro _; rfl) (hmd : T.md = none := by rfl)
    (hs : ∀ env, swapsWith (.Call (.Name x p) (e :: es) [] pos) (some (.Name y py)) pos2.line env = pure false := by intro _; rfl) : SSr T (.Assign [.Name y py] (.Call (.Name x p) (e :: es) [] pos) pos2) (xSet i fn g) := by
  intro X G Wx tk σ H ρ P px E env w c cx
  obtain ⟨ds, r, h1, h2, h3, h4⟩ := w
  obtain ⟨l1, l2⟩ := loc_of G.1 hy
  refine ⟨_, ps_set (i := i) (by rw [G.1.hN]; exact G.1.nd) (by rw [G.1.hN]; exact hN) l1 pe_w (hs X.env) l2, ?_⟩
  refine callX C h hg hk hdb he hpl hmd G.1 tk (P := P) (E := E) env h1 h2 (fun d e v H1 s1 d1 => ?_) h4 cx
  exact c.nx _ H1 _ ((env.mono s1).set i d1) ((evo_same s1).trans (evo_set i fun ds z => nomatch z)) (h3 d e)
/-! ### except suites -/
def Sfx (K : PySem.W.Frag) (C a : Addr) (X : Cx) : Prop := X.K = K ∧ ∃ (X0 : Cx) (oe : Obj) (pn : List (Addr × Obj)), X = X0.suite a ((a, oe) :: pn) ∧ Zc (.ref C) none oe ∧ ∃ vs, oe.data = .fields vs
def Ct.sf (T : Ct) (C a : Addr) : Ct := { T with md := some (Sfx T.K C a) }
def gE (i a : Nat) (b : Bool) : En → Option D := fun ρ => match ρ[i]? with
  | some (.ex a') => if a' = a then some (.bl b) else none
  | _ => none
theorem gE_some {i a : Nat} {b : Bool} {ρ : En} {d : D} (h : gE i a b ρ = some d) : ρ[i]? = some (.ex a) ∧ d = .bl b := by
  unfold gE at h
  split at h
  · rename_i a' e
    split at h
    · rename_i e2
      cases h
      rw [e, e2]
      exact ⟨rfl, rfl⟩
    · cases h
  · cases h
theorem isE {C a : Addr} {i : Nat} {n y : Str} {p p1 p2 pos : Pos} {bb : Bool} {cv : V} {u : Value} (hE : ExcC T.K C) (hN : T.N[i]? = some n) (hv : visB T.sc n = true) (hg : T.sc.names.lookup ("isinstance" : Str) = some .globalImplicit) (hm : T.mg "isinstance" = none)
    (hy : ∀ X, Good T X → PE X (.Name y p2) (tC cv)) (hr : ∀ z, RelV cv z → z = u) (hk : PySem.W.kitOne T.K (.ref C) u = some bb) (hmd : T.md = some (Sfx T.K C a))
    (he : ∀ env, starEach [.Name n p1, .Name y p2] env = (false, eval (.Name n p1) env) :: starEach [.Name y p2] env := by intro _; rfl) (hd : (n == ("__debug__" : Str)) = false := by decide) (hcd : (n == ("__classdict__" : Str)) = false := by decide) :
    SE T (.Call (.Name "isinstance" p) [.Name n p1, .Name y p2] [] pos) (gE i a bb) := by
  intro X G σ H ρ d env hd' Q q
  obtain ⟨e1, rfl⟩ := gE_some hd'
  obtain ⟨hXK, X0, oe, pn, rfl, hz, hf⟩ := G.md _ hmd
  have hi : i < ρ.length := (List.getElem?_eq_some_iff.mp e1).1
  have hi2 : i < σ.length := by rw [env.len]; exact hi
  have es : σ[i]? = some (some (.ref a)) := by
    have := env.at_ i _ σ[i] e1 (List.getElem?_eq_getElem hi2)
    have e3 : σ[i] = some (.ref a) := this
    rw [List.getElem?_eq_getElem hi2, e3]
  have hE' : ExcC X0.K C := by
    have : X0.K = T.K := hXK
    rw [this]; exact hE
  refine ⟨_, pe_callB (call_isE hE' hz hf) (by show X0.env.scope.names.lookup _ = _; rw [show X0.env.scope = T.sc from G.hs]; exact hg) (by rw [G.hm]; exact hm) (by decide +kernel) (pa_cons (pe_var (i := i) (by rw [G.hN]; exact hN) (by rw [show (X0.suite a ((a, oe) :: pn)).env.scope = T.sc from G.hs]; exact vis_of hv) hd hcd) (pa_cons (hy _ G) pa_nil) (he _)) (by decide) (by decide) (he _) rfl, ?_⟩
  refine ⟨.ref a, es, cv, u, bb, rfl, hr, ?_, q _ H (Same.refl H) (.bl _)⟩
  rw [show X0.K = T.K from hXK]
  exact hk
theorem se_isE {C a F : Addr} {i : Nat} {n y : Str} {p p1 p2 pos : Pos} {bb : Bool} (hE : ExcC T.K C) (hk : PySem.W.kitOne T.K (.ref C) (.ref F) = some bb) (hy : T.mg y = some (.ref F)) (hN : T.N[i]? = some n) (hv : visB T.sc n = true) (hg : T.sc.names.lookup ("isinstance" : Str) = some .globalImplicit) (hgy : T.sc.names.lookup y = some .globalImplicit) (hm : T.mg "isinstance" = none) (hmd : T.md = some (Sfx T.K C a))
    (hdb : (y == ("__debug__" : Str)) = false := by decide) (he : ∀ env, starEach [.Name n p1, .Name y p2] env = (false, eval (.Name n p1) env) :: starEach [.Name y p2] env := by intro _; rfl) (hd : (n == ("__debug__" : Str)) = false := by decide) (hcd : (n == ("__classdict__" : Str)) = false := by decide) :
    SE T (.Call (.Name "isinstance" p) [.Name n p1, .Name y p2] [] pos) (gE i a bb) :=
  isE (cv := .ref F) (u := .ref F) hE hN hv hg hm (fun X G => pe_glob (by show X.env.scope.names.lookup y = _; rw [G.hs]; exact hgy) (by rw [G.hm]; exact hy) rfl hdb) (fun z h => h) hk hmd he hd hcd
theorem se_isEV {C a : Addr} {i : Nat} {n : Str} {p p1 p2 pos : Pos} {bb : Bool} (hE : ExcC T.K C) (hk : PySem.W.kitOne T.K (.ref C) (.type "ValueError") = some bb) (hy : T.mg "ValueError" = none) (hN : T.N[i]? = some n) (hv : visB T.sc n = true) (hg : T.sc.names.lookup ("isinstance" : Str) = some .globalImplicit) (hgy : T.sc.names.lookup ("ValueError" : Str) = some .globalImplicit) (hm : T.mg "isinstance" = none) (hmd : T.md = some (Sfx T.K C a))
    (he : ∀ env, starEach [.Name n p1, .Name "ValueError" p2] env = (false, eval (.Name n p1) env) :: starEach [.Name "ValueError" p2] env := by intro _; rfl) (hd : (n == ("__debug__" : Str)) = false := by decide) (hcd : (n == ("__classdict__" : Str)) = false := by decide) :
    SE T (.Call (.Name "isinstance" p) [.Name n p1, .Name "ValueError" p2] [] pos) (gE i a bb) :=
  isE (cv := .ty "ValueError") (u := .type "ValueError") hE hN hv hg hm (fun X G => pe_bltn (v := .ty "ValueError") (by show X.env.scope.names.lookup _ = _; rw [G.hs]; exact hgy) (by rw [G.hm]; exact hy) (by decide +kernel) rfl) (fun z h => h) hk hmd he hd hcd
theorem goodS_sf {X : Cx} (G : GoodS T X) {C a : Addr} {oe : Obj} {pn : List (Addr × Obj)} (hz : Zc (.ref C) none oe) (hf : ∃ vs, oe.data = .fields vs) : GoodS (T.sf C a) (X.suite a ((a, oe) :: pn)) :=
  ⟨⟨G.1.hP, G.1.hw, G.1.hK, G.1.hm, G.1.hb, G.1.hN, G.1.hs, (fun z => by cases z), G.1.nd, G.1.hf, (fun z => by cases z), G.1.hu, fun p e => by cases e; exact ⟨G.1.hK, X, oe, pn, rfl, hz, hf⟩⟩, PassesOwn.never, G.2.2⟩
theorem goodS_tr {X : Cx} (G : GoodS T X) (hmd : T.md = none) {pn : List (Addr × Obj)} {xe : Value → Shared → Prop} (po : PassesOwn (model X.prog X.w) X.A X.env xe) : GoodS T (X.tr pn xe) :=
  ⟨⟨G.1.hP, G.1.hw, G.1.hK, G.1.hm, G.1.hb, G.1.hN, G.1.hs, G.1.calm, G.1.nd, G.1.hf, G.1.room, G.1.hu, fun p e => by rw [hmd] at e; cases e⟩, po, G.2.2⟩
theorem env_ex {K : PySem.W.Frag} {H : Hp} {σ : L2.St} {ρ : En} (h : Env K H σ ρ) (i : Nat) (a : Addr) : Env K H (σ.set i (some (.ref a))) (ρ.set i (.ex a)) := by
  refine ⟨by rw [List.length_set, List.length_set]; exact h.len, fun j s ov e1 e2 => ?_⟩
  by_cases z : i = j
  · subst z
    rw [List.getElem?_set] at e1 e2
    split at e1
    · split at e1
      · split at e2
        · split at e2
          · cases e1; cases e2; exact rfl
          · cases e2
        · contradiction
      · cases e1
    · contradiction
  · rw [List.getElem?_set_ne z] at e1 e2
    exact h.at_ j s ov e1 e2
def noPo (P : Po) : Po := { nx := fun _ => False, rt := P.rt, bk := fun _ => False, ct := fun _ => False }
def wTry (i : Nat) (x : Str) (Wb : Po → Px → En → Prop) (Ws : Addr → Po → En → Prop) : Po → En → Prop := fun P ρ => Wb P (fun x' ρ' => x' = x ∧ ∀ a, Ws a (noPo P) (ρ'.set i (.ex a))) ρ
/-- try: body, except cn as n: suite; the suite always returns -/
theorem ss_tryAs (i : Nat) {x n cn : Str} {C Cc : Addr} {body suite : List Stmt} {b₀ : Stmt} {np pos' : Pos} {Wb : Po → Px → En → Prop} {Ws : Addr → Po → En → Prop} (hx : T.mg x = some (.ref C)) (hcn : T.mg cn = some (.ref Cc)) (hm : PySem.W.exmOne T.K (.ref C) (.ref Cc) = some true)
    (hb : SBr T body Wb) (hsu : ∀ a, SB (T.sf C a) (b₀ :: suite) (Ws a)) (hN : T.N[i]? = some n) (hn : T.sc.names.lookup n = some .local) (hk : T.sc.kind = .function) (hg : T.sc.names.lookup cn = some .globalImplicit) (hmd : T.md = none := by rfl) (hdb : (cn == ("__debug__" : Str)) = false := by decide) :
    SS T (.Try body [.ExceptHandler (some (.Name cn np)) (some n) (b₀ :: suite) pos'] [] [] pos) (wTry i x Wb Ws) := by
  intro X G σ H ρ P E env w c
  let tb : WX → TS := fun W E σ H => ∀ pn xe, Takes (X.tr pn xe) W → PassesOwn (model X.prog X.w) X.A X.env xe → wB (X.tr pn xe) body E σ H
  let ts : Addr → Value → Option Addr → TS := fun a cls d D σ H => cls = .ref C ∧ d = none ∧ ∀ (oe : Obj) (pn : List (Addr × Obj)), Zc (.ref C) none oe → (∃ vs, oe.data = .fields vs) → wB (X.suite a ((a, oe) :: pn)) (b₀ :: suite) D σ H
  refine ⟨_, ps_try_as (i := i) (n := n) (x := cn) (c := .ref Cc) (Wout := fun _ _ _ _ => False) (tb := tb) (ts := ts) G.2.2.1 G.2.2.2 (by rw [G.1.hN]; exact G.1.nd) (by rw [G.1.hN]; exact hN) ?_ ⟨by show X.env.scope.names.lookup cn = _; rw [G.1.hs]; exact hg, hdb, .inl (by rw [G.1.hm]; exact hcn)⟩ takes0
    (fun W pn xe tk po => ⟨fun pins s σ H D I h => by obtain ⟨t, p, q⟩ := h pn xe tk po; exact p.run pins s σ H D I q⟩) (fun a oe cls d pn hz hf => ⟨fun pins s σ H D I h => ?_⟩), ?_⟩
  · show X.env.kindOf n = some .local
    unfold PySem.Env.kindOf
    rw [G.1.hs, hn]
  · obtain ⟨rfl, rfl, h⟩ := h
    obtain ⟨t, p, q⟩ := h oe pn hz hf
    exact p.run pins s σ H D I q
  intro pn xe tk po
  refine hb (X.tr pn xe) (goodS_tr G hmd po) _ tk σ H ρ P _ E env w c fun x' C' σ' H' ρ' h1 h2 h3 ⟨h4, h5⟩ => ?_
  subst h4
  rw [hx] at h1
  cases h1
  refine ⟨true, by rw [G.1.hK]; exact hm, fun _ a _ => ⟨rfl, rfl, fun oe pn hz hf => ?_⟩, fun z => nomatch z⟩
  refine hsu a _ (goodS_sf G hz hf) _ H' (ρ'.set i (.ex a)) (noPo P) _ (env_ex h2 i a) (h5 a) ⟨fun _ _ _ _ _ z => z.elim, fun v σ'' H'' ρ'' d e1 e2 e3 => ?_, fun _ _ _ _ _ z => z.elim, fun _ _ _ _ _ z => z.elim⟩
  exact c.rt v σ'' H'' ρ'' d ((h3.trans (evo_set (s := .ex a) i fun ds z => nomatch z)).trans e1) e2 e3
/-- try: body, except cn: suite (without a name); the suite always returns -/
def wTryO (x : Str) (Wb : Po → Px → En → Prop) (Ws : Addr → Po → En → Prop) : Po → En → Prop := fun P ρ => Wb P (fun x' ρ' => x' = x ∧ ∀ a, Ws a (noPo P) ρ') ρ
theorem ss_tryOnly {x cn : Str} {C Cc : Addr} {body suite : List Stmt} {b₀ : Stmt} {np pos' : Pos} {Wb : Po → Px → En → Prop} {Ws : Addr → Po → En → Prop} (hx : T.mg x = some (.ref C)) (hcn : T.mg cn = some (.ref Cc)) (hm : PySem.W.exmOne T.K (.ref C) (.ref Cc) = some true)
    (hb : SBr T body Wb) (hsu : ∀ a, SB (T.sf C a) (b₀ :: suite) (Ws a)) (hg : T.sc.names.lookup cn = some .globalImplicit) (hmd : T.md = none := by rfl) (hdb : (cn == ("__debug__" : Str)) = false := by decide) :
    SS T (.Try body [.ExceptHandler (some (.Name cn np)) none (b₀ :: suite) pos'] [] [] pos) (wTryO x Wb Ws) := by
  intro X G σ H ρ P E env w c
  let tb : WX → TS := fun W E σ H => ∀ pn xe, Takes (X.tr pn xe) W → PassesOwn (model X.prog X.w) X.A X.env xe → wB (X.tr pn xe) body E σ H
  let ts : Addr → Value → Option Addr → TS := fun a cls d D σ H => cls = .ref C ∧ d = none ∧ ∀ (oe : Obj) (pn : List (Addr × Obj)), Zc (.ref C) none oe → (∃ vs, oe.data = .fields vs) → wB (X.suite a ((a, oe) :: pn)) (b₀ :: suite) D σ H
  refine ⟨_, ps_try_only (x := cn) (c := .ref Cc) (Wout := fun _ _ _ _ => False) (tb := tb) (ts := ts) G.2.2.1 G.2.2.2 ⟨by show X.env.scope.names.lookup cn = _; rw [G.1.hs]; exact hg, hdb, .inl (by rw [G.1.hm]; exact hcn)⟩ takes0
    (fun W pn xe tk po => ⟨fun pins s σ H D I h => by obtain ⟨t, p, q⟩ := h pn xe tk po; exact p.run pins s σ H D I q⟩) (fun a oe cls d pn hz hf => ⟨fun pins s σ H D I h => ?_⟩), ?_⟩
  · obtain ⟨rfl, rfl, h⟩ := h
    obtain ⟨t, p, q⟩ := h oe pn hz hf
    exact p.run pins s σ H D I q
  intro pn xe tk po
  refine hb (X.tr pn xe) (goodS_tr G hmd po) _ tk σ H ρ P _ E env w c fun x' C' σ' H' ρ' h1 h2 h3 ⟨h4, h5⟩ => ?_
  subst h4
  rw [hx] at h1
  cases h1
  refine ⟨true, by rw [G.1.hK]; exact hm, fun _ a _ => ⟨rfl, rfl, fun oe pn hz hf => ?_⟩, fun z => nomatch z⟩
  refine hsu a _ (goodS_sf G hz hf) _ H' ρ' (noPo P) _ h2 (h5 a) ⟨fun _ _ _ _ _ z => z.elim, fun v σ'' H'' ρ'' d e1 e2 e3 => ?_, fun _ _ _ _ _ z => z.elim, fun _ _ _ _ _ z => z.elim⟩
  exact c.rt v σ'' H'' ρ'' d (h3.trans e1) e2 e3
end
section
variable {P : Program} {w : World} {K : PySem.W.Frag} {mg : Str → Option Value} {base : Heap}
theorem fnx_mk {x : Str} {st : Stmt} {N ps : List Str} {k : Nat} (h : Hd K mg x st ps) (S : FnScope N ps (defScope st)) (fn : List D → Option Rs) {W : Po → Px → En → Prop} (hb : SBr (ctx P w K mg base k N st) (defBody st) W)
    (hlen : ∀ ds r, fn ds = some r → ds.length = ps.length) (hW : ∀ ds r, fn ds = some r → W { nx := fun _ => r = .ok .non, rt := fun d' => r = .ok d' } (fun x' _ => r = .no x') (stR N ds)) : FnX P w K mg base (k + 1) x fn := by
  obtain ⟨f, fd, F, hm, b⟩ := h
  refine ⟨f, fd, ps, F.okX S (fun vs H Q E h => ?_) (fun cdv A outer s H vs Q E hr h => ?_), hm, F.kp, b⟩
  · obtain ⟨ds, d, h1, h2, _⟩ := h
    rw [h1.length]
    exact hlen ds d h2
  · obtain ⟨ds, r, h1, h2, q, qx⟩ := h
    have G : GoodS (ctx P w K mg base k N st) (cxOf (L2.CX P w) P w K mg base N x (defScope st) f cdv A outer s H E) := ⟨⟨rfl, rfl, rfl, rfl, rfl, rfl, rfl, fun _ => rfl, S.nd, fun _ _ => rfl, fun _ => hr, un_of hr, fun _ e => (nomatch e)⟩, passes_of (K := fun e s' => L2.CX P w outer H s E e s') rfl, rfl, rfl⟩
    have tk := takes_of (X := cxOf (L2.CX P w) P w K mg base N x (defScope st) f cdv A outer s H E) rfl rfl rfl rfl
    refine ⟨_, pss_w, hb _ G _ tk (L2.start N vs) H (stR N ds) _ _ _ (env_start h1) (hW ds r h2) ⟨fun σ' H' ρ' _ e3 e4 => ?_, fun v σ' H' ρ' d' e3 e4 e5 => ?_, fun _ _ _ _ _ z => z.elim, fun _ _ _ _ _ z => z.elim⟩ fun x' C' σ' H' ρ' h1 h2 h3 h4 => ?_⟩
    · exact q .non e4 .non H' (e3.same (noOw_start N ds)) .non
    · exact q d' e5 v H' (e3.same (noOw_start N ds)) e4
    · exact qx x' C' H' h4 h1 (h3.same (noOw_start N ds))
end
end Pf

set_option Elab.async false
set_option linter.all false
set_option maxRecDepth 100000
set_option maxHeartbeats 2000000
/-! Pf15: refusals, the end; how they are reckoned with. -/
namespace Pf
open PySem PySem.Spec L2
section
variable (P : Po) (px : Px) (ρ : En) (i : Nat) (U : Po → En → Prop) (V W : Po → Px → En → Prop)
@[simp] theorem xNil_ap : xNil P px ρ = P.nx ρ := rfl
@[simp] theorem xCons_ap : xCons V W P px ρ = V { P with nx := W P px } px ρ := rfl
@[simp] theorem xOf_ap : xOf U P px ρ = U P ρ := rfl
@[simp] theorem xIf_ap (g : En → Option Bool) : xIf g V W P px ρ = ∃ k, g ρ = some k ∧ (k = true → V P px ρ) ∧ (k = false → W P px ρ) := rfl
@[simp] theorem xRaise_ap (x : Str) : xRaise x P px ρ = px x ρ := rfl
@[simp] theorem xSet_ap (fn : List D → Option Rs) (g : En → Option (List D)) : xSet i fn g P px ρ = ∃ ds r, g ρ = some ds ∧ fn ds = some r ∧ (∀ d, r = .ok d → P.nx (ρ.set i (.im d))) ∧ (∀ x, r = .no x → px x ρ) := rfl
@[simp] theorem wTry_ap (x : Str) (Ws : Addr → Po → En → Prop) : wTry i x V Ws P ρ = V P (fun x' ρ' => x' = x ∧ ∀ a, Ws a (noPo P) (ρ'.set i (.ex a))) ρ := rfl
@[simp] theorem wTryO_ap (x : Str) (Ws : Addr → Po → En → Prop) : wTryO x V Ws P ρ = V P (fun x' ρ' => x' = x ∧ ∀ a, Ws a (noPo P) ρ') ρ := rfl
@[simp] theorem slD_ex (a : Addr) : slD (.ex a) = none := rfl
@[simp] theorem gE_ap (a : Nat) (b : Bool) : gE i a b ρ = match ρ[i]? with
  | some (.ex a') => if a' = a then some (.bl b) else none
  | _ => none := rfl
@[simp] theorem noPo_rt : (noPo P).rt = P.rt := rfl
end
abbrev ExcG {K : PySem.W.Frag} {h : Heap} (_ : K.In h) (mg : Str → Option Value) (x a b : Str) : Prop := ExcT K mg x a b
theorem exc_mk {K : PySem.W.Frag} {h : Heap} {mg : Str → Option Value} (X : K.In h) (G : h.Ns mainGlobals mg) {x a b : Str} {C F A B : Addr}
    (a1 : PySem.W.nsIn K mainGlobals x = some (some (.ref C))) (a2 : PySem.W.nsIn K mainGlobals "FoldError" = some (some (.ref F))) (a3 : PySem.W.nsIn K mainGlobals a = some (some (.ref A))) (a4 : PySem.W.nsIn K mainGlobals b = some (some (.ref B)))
    (q : PySem.W.excIn K C bmVE "ValueError.__new__" = true) (kC : PySem.W.keepIn K (.ref C) = true) (r1 : PySem.W.subIn K (.ref C) (.type "BaseException") = some true) (r2 : PySem.W.typeIn K (.ref C) = some (.type "type"))
    (e1 : PySem.W.findIn K (.ref C) "__getattribute__" = some (some (.builtin "BaseException.__getattribute__"))) (e2 : PySem.W.findIn K (.ref C) "__getattr__" = some none) (e4 : PySem.W.hasDictIn K C = true)
    (e5 : PySem.W.findIn K (.ref C) "__class__" = some (some (.builtin "object.__class__"))) (e6 : PySem.W.specialIn K (.builtin "object.__class__") "__get__" = some (some (.builtin "getset_descriptor.__get__"))) (e7 : PySem.W.takesIn K (.builtin "object.__class__") = some true) (e8 : PySem.W.mroIn K C (.type "object") = some true)
    (f1 : PySem.W.subIn K (.ref F) (.type "BaseException") = some true) (f2 : PySem.W.hasDictIn K F = true) (f3 : PySem.W.typeIn K (.ref F) = some (.type "type")) (f4 : PySem.W.subIn K (.ref C) (.ref F) = some true) (f5 : PySem.W.subIn K (.ref C) (.ref C) = some true)
    (kF : PySem.W.kitOne K (.ref C) (.ref F) = some true) (kV : PySem.W.kitOne K (.ref C) (.type "ValueError") = some true) (kA : PySem.W.kitOne K (.ref C) (.ref A) = some false) (kB : PySem.W.kitOne K (.ref C) (.ref B) = some false) (kS : PySem.W.kitOne K (.ref C) (.ref C) = some true) : ExcT K mg x a b :=
  ⟨C, F, A, B, PySem.W.mg_of X G a1, PySem.W.mg_of X G a2, PySem.W.mg_of X G a3, PySem.W.mg_of X G a4, ⟨q, kC, r1, r2⟩, ⟨e1, e2, r1, e4, e5, e6, e7, e8⟩, PySem.W.exm_ref r1 e4 r2 f5, PySem.W.exm_ref f1 f2 f3 f4, kF, kV, kA, kB, kS⟩
end Pf

set_option Elab.async false
set_option linter.all false
set_option maxRecDepth 100000
set_option maxHeartbeats 2000000
/-! Pm8: what may be refused. -/
namespace Pf
open PySem PySem.Spec L2
def xf_parted : List D → Option Rs := kTTI fun a b s => if okC s a b 400 then some (if b = [] then .no "NoPart" else .ok (.tup [tI (quoM s a b), tI (restM s a b)])) else none
def f_told10 : List D → Option D := kTTI fun a b s => if okC s a b 400 then some (if b = [] then .non else .tup [tI (quoM s a b), tI (restM s a b)]) else none
theorem f_told10_ok {s : Int} {a b : List Int} (hs : Sz s) (ca : Can s a) (cb : Can s b) (hl : a.length + b.length ≤ 400) : f_told10 [tI a, tI b, .int s] = some (if b = [] then .non else .tup [tI (quoM s a b), tI (restM s a b)]) := by
  simp only [f_told10, kTTI_mk, if_pos (show okC s a b 400 from ⟨hs, ca, cb, hl⟩)]
theorem eqD_two (a b c d : List Int) : eqD (.tup [tI a, tI b]) (.tup [tI c, tI d]) = some (.bl (decide ([a, b] = [c, d]))) := eqD_tt [a, b] [c, d]
end Pf

set_option Elab.async false
set_option linter.all false
set_option maxRecDepth 100000
set_option maxHeartbeats 2000000
/-! Pm9: turned over, put together. -/
namespace Pf
open PySem PySem.Spec L2
section
variable {s : Int}
def gcL (s : Int) : Nat → List Int → List Int → List Int
  | 0, l, _ => l
  | n + 1, l, r => if r = [] then l else gcL s n r (restM s l r)
theorem g_stop {n : Nat} {l : List Int} : gcL s n l [] = l := by
  cases n with
  | zero => rfl
  | succ n => rw [gcL, if_pos rfl]
theorem g_go {n : Nat} {l r : List Int} (h : r ≠ []) : gcL s (n + 1) l r = gcL s n r (restM s l r) := by rw [gcL, if_neg h]
theorem g_ok (hs : Sz s) : ∀ (n : Nat) (l r : List Int), Can s l → Can s r → r.length ≤ n → Can s (gcL s n l r) ∧ (gcL s n l r).length ≤ max l.length r.length ∧ (l ≠ [] ∨ r ≠ [] → gcL s n l r ≠ []) ∧ ∀ d, Dv d (pl s l) → Dv d (pl s r) → Dv d (pl s (gcL s n l r))
  | 0, l, r, cl, cr, hn => by
    have : r = [] := List.length_eq_zero_iff.mp (by omega)
    subst this
    rw [g_stop]
    exact ⟨cl, by omega, fun h => by rcases h with h | h; exact h; exact absurd rfl h, fun d h _ => h⟩
  | n + 1, l, r, cl, cr, hn => by
    by_cases hr : r = []
    · subst hr
      rw [g_stop]
      exact ⟨cl, by omega, fun h => by rcases h with h | h; exact h; exact absurd rfl h, fun d h _ => h⟩
    · rw [g_go hr]
      have p := part_ok hs cl cr hr
      have lt := p.lt
      obtain ⟨h1, h2, h3, h4⟩ := g_ok hs n r (restM s l r) cr p.cr (by omega)
      refine ⟨h1, by omega, fun _ => h3 (.inl hr), fun d d1 d2 => h4 d d2 ?_⟩
      have e : pl s (restM s l r) = pl s l - pl s (quoM s l r) * pl s r := by rw [p.eq]; grind
      rw [e]
      exact d1.sub (d2.mul (fi_pl _))
def lcomM (s : Int) (a b : List Int) : List Int :=
  let g := gcL s b.length a b
  if g = [] then [] else g.map fun p => p * leadM s g % s
theorem map_lead (hs : Sz s) {g : List Int} (cg : Can s g) (hg : g ≠ []) : Can s (g.map fun p => p * leadM s g % s) ∧ (g.map fun p => p * leadM s g % s) ≠ [] ∧ pl s (g.map fun p => p * leadM s g % s) = (leadM s g : Rg s) * pl s g := by
  have e : (g.map fun p => p * leadM s g % s) = g.map fun p => leadM s g * p % s := List.map_congr_left fun p _ => by rw [Int.mul_comm]
  have lp := List.length_pos_iff.mpr hg
  refine ⟨⟨fun i hi => ?_, fun i hi => ?_, nz_of fun _ => ?_⟩, by simpa using hg, by rw [e, pl_smul]⟩
  · obtain ⟨n, _, rfl⟩ := List.mem_map.mp hi; exact (emod_in hs _).1
  · obtain ⟨n, _, rfl⟩ := List.mem_map.mp hi; exact (emod_in hs _).2
  · rw [List.length_map, cf_map _ _ (by omega), lead_ok hs cg hg]; decide
theorem lcom_ok (hs : Sz s) {a b : List Int} (ca : Can s a) (cb : Can s b) : Can s (lcomM s a b) ∧ (a ≠ [] ∨ b ≠ [] → lcomM s a b ≠ []) ∧ ∀ d, Dv d (pl s a) → Dv d (pl s b) → Dv d (pl s (lcomM s a b)) := by
  obtain ⟨h1, h2, h3, h4⟩ := g_ok hs b.length a b ca cb (Nat.le_refl _)
  unfold lcomM
  simp only
  split
  · rename_i e
    refine ⟨Can.nil, fun h => absurd e (h3 h), fun d d1 d2 => ?_⟩
    rw [pl_nil]; exact Dv.zero _
  · rename_i e
    obtain ⟨q1, q2, q3⟩ := map_lead hs h1 e
    refine ⟨q1, fun _ => q2, fun d d1 d2 => ?_⟩
    rw [q3]
    exact (h4 d d1 d2).mul (fi_int _)
theorem dv_len (hs : Sz s) {x y : List Int} (cx : Can s x) (cy : Can s y) (hy : y ≠ []) (h : Dv (pl s x) (pl s y)) : x.length ≤ y.length := by
  obtain ⟨z, fz, e⟩ := h
  obtain ⟨l, cl, rfl⟩ := fz.list hs
  have hl : l ≠ [] := fun q => hy ((can_pl0 cy).mp (by rw [e, q, pl_nil]; grind))
  have hx : x ≠ [] := fun q => hy ((can_pl0 cy).mp (by rw [e, q, pl_nil]; grind))
  have := len_mul hs cl cx cy hl hx e
  have := List.length_pos_iff.mpr hl
  omega
/-- where the greatest common part is not 1, the law's is long, too -/
theorem lcom_long (hs : Sz s) {a b x : List Int} (ca : Can s a) (cb : Can s b) (hb : b ≠ []) (cx : Can s x) (hx : (comM s x b).1 ≠ [1]) (d : Dv (pl s (comM s x b).1) (pl s a)) : 1 < (lcomM s a b).length := by
  have k := com_ok hs cx cb
  obtain ⟨h1, h2, h3⟩ := lcom_ok hs ca cb
  obtain ⟨n1, n2⟩ := k.ne (.inr hb)
  have l1 := dv_len hs k.c1 h1 (h2 (.inr hb)) (h3 _ d k.d2)
  have l2 : (comM s x b).1.length ≠ 1 := fun z => by
    rw [z] at n2
    obtain ⟨y, e⟩ := List.length_eq_one_iff.mp z
    rw [e] at n2 hx
    have : y = 1 := n2
    exact hx (by rw [this])
  have := List.length_pos_iff.mpr n1
  omega
def f_law_common : List D → Option D := kTTI fun a b s => if okC s a b 200 then some (tI (lcomM s a b)) else none
theorem f_lcommon_ok {a b : List Int} (hs : Sz s) (ca : Can s a) (cb : Can s b) (hl : a.length + b.length ≤ 200) : f_law_common [tI a, tI b, .int s] = some (tI (lcomM s a b)) := by
  simp only [f_law_common, kTTI_mk, if_pos (show okC s a b 200 from ⟨hs, ca, cb, hl⟩)]
/-! turned over -/
def ok33 (s : Int) (a b : List Int) : Prop := okC s a b 50 ∧ b ≠ []
instance (s : Int) (a b : List Int) : Decidable (ok33 s a b) := by unfold ok33; infer_instance
def c33 (s : Int) (a b : List Int) : Prop := (comM s (restM s a b) b).1 ≠ [1]
instance (s : Int) (a b : List Int) : Decidable (c33 s a b) := by unfold c33; infer_instance
def invP (s : Int) (a b : List Int) : List Int := restM s (comM s (restM s a b) b).2.1 b
def xf_inverse : List D → Option Rs := kTTI fun a b s => if ok33 s a b then some (if c33 s a b then .no "NoPart" else .ok (tI (invP s a b))) else none
def f_told33 : List D → Option D := kTTI fun a b s => if ok33 s a b then some (if c33 s a b then .non else tI (invP s a b)) else none
theorem f_told33_ok {a b : List Int} (h : ok33 s a b) : f_told33 [tI a, tI b, .int s] = some (if c33 s a b then .non else tI (invP s a b)) := by
  simp only [f_told33, kTTI_mk, if_pos h]
theorem inv_no (hs : Sz s) {a b : List Int} (ca : Can s a) (cb : Can s b) (hb : b ≠ []) (h : c33 s a b) : 1 < (lcomM s a b).length := by
  have p := part_ok hs ca cb hb
  have k := com_ok hs p.cr cb
  refine lcom_long hs ca cb hb p.cr h ?_
  rw [p.eq]
  exact (k.d2.mul (fi_pl _)).add k.d1
theorem inv_yes (hs : Sz s) {a b : List Int} (ca : Can s a) (cb : Can s b) (hb : 2 ≤ b.length) (h : ¬ c33 s a b) : Can s (invP s a b) ∧ (invP s a b).length < b.length ∧ restM s (timesM s (invP s a b) a) b = [1] := by
  have hne : b ≠ [] := fun z => by rw [z] at hb; simp at hb
  have p := part_ok hs ca cb hne
  have k := com_ok hs p.cr cb
  have e1 : (comM s (restM s a b) b).1 = [1] := Decidable.not_not.mp h
  have eq := k.eq
  rw [e1, pl_one] at eq
  have r := rest_can hs k.c2 cb hne
  have q := rest_cg hs k.c2 cb hne
  refine ⟨r.1, r.2, ?_⟩
  refine (rest_by hs (times_can hs _ _) cb (one_can hs) (by simp; omega) ?_).symm
  rw [pl_times, pl_one]
  have q2 := Cg.mul (fi_pl (invP s a b)) (fi_pl a) q (Cg.refl (pl s b) (pl s a))
  refine Cg.trans ?_ q2.symm
  refine ⟨pl s (comM s (restM s a b) b).2.2 - pl s (comM s (restM s a b) b).2.1 * pl s (quoM s a b), (fi_pl _).sub ((fi_pl _).mul (fi_pl _)), ?_⟩
  have pe := p.eq
  generalize pl s (comM s (restM s a b) b).2.1 = u at *
  generalize pl s (comM s (restM s a b) b).2.2 = v at *
  grind
/-! put together -/
def ok40 (s : Int) (a f b t : List Int) : Prop := okC s a b 60 ∧ okC s f t 60 ∧ a ≠ [] ∧ b ≠ []
instance (s : Int) (a f b t : List Int) : Decidable (ok40 s a f b t) := by unfold ok40; infer_instance
def c40 (s : Int) (a b : List Int) : Prop := (comM s a b).1 ≠ [1]
instance (s : Int) (a b : List Int) : Decidable (c40 s a b) := by unfold c40; infer_instance
def sumP (s : Int) (a f b t : List Int) : List Int := plusM s (timesM s (timesM s (comM s a b).2.2 b) (restM s f a)) (timesM s (timesM s (comM s a b).2.1 a) (restM s t b))
def bothP (s : Int) (a f b t : List Int) : List Int := restM s (sumP s a f b t) (timesM s a b)
def xf_both : List D → Option Rs := kTTTTI fun a f b t s => if ok40 s a f b t then some (if c40 s a b then .no "NoPart" else .ok (tI (bothP s a f b t))) else none
def f_told40 : List D → Option D := kTTTTI fun a f b t s => if ok40 s a f b t then some (if c40 s a b then .non else tI (bothP s a f b t)) else none
theorem f_told40_ok {a f b t : List Int} (h : ok40 s a f b t) : f_told40 [tI a, tI f, tI b, tI t, .int s] = some (if c40 s a b then .non else tI (bothP s a f b t)) := by
  simp only [f_told40, kTTTTI_mk, if_pos h]
theorem both_no (hs : Sz s) {a b : List Int} (ca : Can s a) (cb : Can s b) (hb : b ≠ []) (h : c40 s a b) : 1 < (lcomM s a b).length :=
  lcom_long hs ca cb hb ca h (com_ok hs ca cb).d1
theorem times_ne (hs : Sz s) {a b : List Int} (ca : Can s a) (cb : Can s b) (ha : a ≠ []) (hb : b ≠ []) : timesM s a b ≠ [] := fun z => by
  have := times_len_eq hs ca cb ha hb
  have l1 := List.length_pos_iff.mpr ha
  have l2 := List.length_pos_iff.mpr hb
  rw [z, List.length_nil] at this
  omega
theorem both_yes (hs : Sz s) {a f b t : List Int} (ca : Can s a) (cb : Can s b) (cf' : Can s f) (ct : Can s t) (ha : a ≠ []) (hb : b ≠ []) (h : ¬ c40 s a b) : Can s (bothP s a f b t) ∧ (bothP s a f b t).length + 1 < a.length + b.length ∧ restM s (bothP s a f b t) a = restM s f a ∧ restM s (bothP s a f b t) b = restM s t b := by
  have k := com_ok hs ca cb
  have e1 : (comM s a b).1 = [1] := Decidable.not_not.mp h
  have eq := k.eq
  rw [e1, pl_one] at eq
  have cab := times_can hs a b
  have nab := times_ne hs ca cb ha hb
  have lab := times_len_eq hs ca cb ha hb
  have cS : Can s (sumP s a f b t) := plus_can hs _ _
  have r := rest_can hs cS cab nab
  have q := rest_cg hs cS cab nab
  rw [pl_times] at q
  have eS : pl s (sumP s a f b t) = pl s (comM s a b).2.2 * pl s b * pl s (restM s f a) + pl s (comM s a b).2.1 * pl s a * pl s (restM s t b) := by
    unfold sumP
    rw [pl_plus, pl_times, pl_times, pl_times, pl_times]
  have pf := rest_cg hs cf' ca ha
  have pt := rest_cg hs ct cb hb
  have ff := fi_pl (s := s) (restM s f a)
  have ft := fi_pl (s := s) (restM s t b)
  have fu := fi_pl (s := s) (comM s a b).2.1
  have fv := fi_pl (s := s) (comM s a b).2.2
  have fa := fi_pl (s := s) a
  have fb := fi_pl (s := s) b
  refine ⟨r.1, ?_, ?_, ?_⟩
  · show (restM s (sumP s a f b t) (timesM s a b)).length + 1 < _
    omega
  · refine (rest_eq hs r.1 cf' ca ha).mpr (Cg.trans ?_ pf)
    obtain ⟨z, fz, ez⟩ := q
    refine ⟨z * pl s b + pl s (comM s a b).2.1 * pl s (restM s t b) - pl s (comM s a b).2.1 * pl s (restM s f a), ((fz.mul fb).add (fu.mul ft)).sub (fu.mul ff), ?_⟩
    show pl s (restM s (sumP s a f b t) (timesM s a b)) - _ = _
    rw [eS] at ez
    generalize pl s (restM s (sumP s a f b t) (timesM s a b)) = R at *
    generalize pl s (comM s a b).2.1 = u at *
    generalize pl s (comM s a b).2.2 = v at *
    generalize pl s (restM s f a) = F at *
    generalize pl s (restM s t b) = T at *
    grind
  · refine (rest_eq hs r.1 ct cb hb).mpr (Cg.trans ?_ pt)
    obtain ⟨z, fz, ez⟩ := q
    refine ⟨z * pl s a + pl s (comM s a b).2.2 * pl s (restM s f a) - pl s (comM s a b).2.2 * pl s (restM s t b), ((fz.mul fa).add (fv.mul ff)).sub (fv.mul ft), ?_⟩
    show pl s (restM s (sumP s a f b t) (timesM s a b)) - _ = _
    rw [eS] at ez
    generalize pl s (restM s (sumP s a f b t) (timesM s a b)) = R at *
    generalize pl s (comM s a b).2.1 = u at *
    generalize pl s (comM s a b).2.2 = v at *
    generalize pl s (restM s f a) = F at *
    generalize pl s (restM s t b) = T at *
    grind
def longM (n s : Int) : List Int := if (sumM n s 8).length < 2 then [n / 7 % s, 1] else sumM n s 8
def f_law_long : List D → Option D := kII fun n s => if Sz s ∧ 0 ≤ n then some (tI (longM n s)) else none
theorem two_can (hs : Sz s) (x : Int) : Can s [x % s, 1] := cons_can (one_can hs) (by simp) (emod_in hs x).1 (emod_in hs x).2
theorem long_ok (hs : Sz s) {n : Int} (h : 0 ≤ n) : f_law_long [.int n, .int s] = some (tI (longM n s)) ∧ Can s (longM n s) ∧ 2 ≤ (longM n s).length ∧ (longM n s).length ≤ 8 := by
  have l := sum_le hs n (m := 8)
  have l : (sumM n s 8).length ≤ 8 := l
  refine ⟨by simp only [f_law_long, kII_mk, if_pos (show Sz s ∧ 0 ≤ n from ⟨hs, h⟩)], ?_⟩
  unfold longM
  split
  · exact ⟨two_can hs _, by simp, by simp⟩
  · exact ⟨sum_can hs n (m := 8), by omega, l⟩
end
end Pf

set_option Elab.async false
set_option linter.all false
set_option maxRecDepth 100000
set_option maxHeartbeats 2000000
/-! Pf16: a display of numbers asked; lists made longer, one by the other. -/
namespace Pf
open PySem PySem.Spec L2
section
variable {T : Ct} {a b c tg iter : Expr} {ga gb gc : En → Option D} {pos : Pos}
/-- {2: x, 3: y, 5: z}[i] -/
def dx235 (x y z : Int) : D → Option D
  | .int k => if k = 2 then some (.int x) else if k = 3 then some (.int y) else if k = 5 then some (.int z) else none
  | _ => none
theorem se_dx235 {x y z : Int} {j1 j2 j3 j4 j5 j6 : Nat} {p1 p2 p3 p4 p5 p6 pd : Pos} (hi : SE T a ga) (hs : NoSl a) :
    SE T (.Subscript (.Dict [some (.Constant (.int 2) j1 p1), some (.Constant (.int 3) j2 p2), some (.Constant (.int 5) j3 p3)] [.Constant (.int x) j4 p4, .Constant (.int y) j5 p5, .Constant (.int z) j6 p6] pd) a pos) (g1 (dx235 x y z) ga) := by
  intro X G σ H ρ d env hd Q q
  unfold g1 at hd
  cases e1 : ga ρ with
  | none => rw [e1] at hd; cases hd
  | some w =>
  rw [e1] at hd
  have hd : dx235 x y z w = some d := hd
  cases w <;> try (cases hd; done)
  rename_i k _
  refine ⟨_, pe_dget (by have := G.hu; omega) (pe_disp (pps_cons pe_int pe_int (pps_cons pe_int pe_int (pps_cons pe_int pe_int pps_nil))) rfl rfl (by simp) (by simp)) pe_w hs, ?_⟩
  intro p hp
  refine ⟨upd_same, [(.inl 2, .int x), (.inl 3, .int y), (.inl 5, .int z)], rfl, by simp, ?_⟩
  have s1 : Same H (upd (upd H p (.dK [])) p (.dK (mergeK [] [(.inl 2, .int x), (.inl 3, .int y), (.inl 5, .int z)]))) := fun b o e => by
    have nb : b ≠ p := fun z => by rw [z, hp] at e; cases e
    rw [upd_ne nb, upd_ne nb]; exact e
  refine hi X G σ _ ρ _ (env.mono s1) e1 _ fun v H2 s2 d2 => ?_
  cases d2
  have e2 : H2 p = some (.dK (mergeK [] [(.inl 2, .int x), (.inl 3, .int y), (.inl 5, .int z)])) := s2 _ _ upd_same
  have g := DGet.k (k := .inl k) e2
  have fin : ∀ n, d = .int n → valV (mergeK [] [((.inl 2 : Key), V.int x), (.inl 3, .int y), (.inl 5, .int z)]) (.inl k) = some (.int n) → ∃ (a : Addr) (v : V), V.ref p = .ref a ∧ DGet H2 a (.int k) (some v) ∧ Q v H2 := fun n hn hv => by
    rw [hv] at g
    subst hn
    exact ⟨p, .int n, rfl, g, q _ H2 (s1.trans s2) (.int n)⟩
  have hd : (if k = 2 then some (D.int x) else if k = 3 then some (.int y) else if k = 5 then some (.int z) else none) = some d := hd
  split at hd
  · rename_i h; subst h; cases hd; exact fin x rfl rfl
  · split at hd
    · rename_i h; subst h; cases hd; exact fin y rfl rfl
    · split at hd
      · rename_i h; subst h; cases hd; exact fin z rfl rfl
      · cases hd
@[simp] theorem dx235_int (x y z k : Int) : dx235 x y z (.int k) = if k = 2 then some (.int x) else if k = 3 then some (.int y) else if k = 5 then some (.int z) else none := rfl
/-! ### longer = []; for some in found: longer.extend([..]) -/
def exLf (ρ : En) (i f v : Nat) : Bool := (((ρ.set i .un).set f .un).set v .un).all fun s => match s with
  | .un => true
  | .im d => lf d
  | .ow _ => false
  | .ex _ => true
def wExt (i f v : Nat) (gl : En → Option (List D)) (V : Po → En → Prop) : Po → En → Prop := fun P ρ => ∃ (ds : List D) (es : List (List D)), ρ[f]? = some (.im (.lst ds)) ∧ i < ρ.length ∧ v < ρ.length ∧ lfA ds = true ∧ exLf ρ i f v = true ∧ es.length = ds.length ∧
  (∀ (k : Nat) (d : D) (e : List D), ds[k]? = some d → es[k]? = some e → lfA e = true ∧ gl ((ρ.set i .un).set v (.im d)) = some e) ∧ es.flatten.length ≤ 1000000 ∧ V P ((ρ.set i (.ow es.flatten)).set v .un)
theorem flat_take {es : List (List D)} {k : Nat} {e : List D} (h : es[k]? = some e) : (es.take (k + 1)).flatten = (es.take k).flatten ++ e := by
  rw [List.take_succ, h, Option.toList_some, List.flatten_append, List.flatten_cons, List.flatten_nil, List.append_nil]
theorem flat_le {es : List (List D)} (k : Nat) : (es.take k).flatten.length ≤ es.flatten.length := by
  have : es.flatten = (es.take k).flatten ++ (es.drop k).flatten := by rw [← List.flatten_append, List.take_append_drop]
  rw [this, List.length_append]; omega
theorem dqa_flat {K : PySem.W.Frag} {H : Hp} {vs us : List V} {ds es : List D} (h : DqA K H vs ds) (g : DqA K H us es) : DqA K H (vs ++ us) (ds ++ es) := h.append g
theorem sb_ext (i f v : Nat) {y x z : Str} {py pya pz px pl pos1 pos2 pa pc pe : Pos} {L : Expr} {gl : En → Option (List D)} {rest : List Stmt} {V : Po → En → Prop}
    (hL : SL T L gl) (hV : SB T rest V) (hfi : i ≠ f) (hfv : v ≠ f) (hiv : i ≠ v) (hNi : T.N[i]? = some y) (hNf : T.N[f]? = some z) (hNv : T.N[v]? = some x) (hy : locB T y = true) (hyv : visB T.sc y = true) (hzv : visB T.sc z = true) (hx : locB T x = true)
    (hmd : T.md = none := by rfl) (hline : (pa.endLine == pc.line) = true := by rfl)
    (hbase : ∀ env, attributeBase (.Name y pya) "extend" env (eval (.Name y pya) env) = eval (.Name y pya) env := by intro _; rfl)
    (hfew : ∀ env, ((backTo pc (starEach [L] env)).all (fun x => !x.1) && (backToKw pc (keywordEach [] env)).all (fun x => x.1.isSome)
      && decide ([L].length + ([] : List Keyword).length + (if ([] : List Keyword).isEmpty then 0 else 1) < 30)) = true := by intro _; rfl) (hst : ∀ env, starEach [L] env = (false, eval L env) :: starEach [] env := by intro _; rfl)
    (hsw : ∀ env, swapsWith (.Call (.Attribute (.Name y pya) "extend" pa) [L] [] pc) none pe.line env = pure false := by intro _; rfl)
    (hs : ∀ env, swapsWith (.List [] pl) (some (.Name y py)) pos1.line env = pure false := by intro _; rfl) (hfs : ∀ env w, foldedSetIterable (.Name z pz) env w = pure w := by intro _ _; rfl)
    (hd : (y == ("__debug__" : Str)) = false := by decide) (hcd : (y == ("__classdict__" : Str)) = false := by decide) (hd2 : (z == ("__debug__" : Str)) = false := by decide) (hcd2 : (z == ("__classdict__" : Str)) = false := by decide) :
    SB T (.Assign [.Name y py] (.List [] pl) pos1 :: .For (.Name x px) (.Name z pz) [.Expr (.Call (.Attribute (.Name y pya) "extend" pa) [L] [] pc) pe] [] pos2 :: rest) (wExt i f v gl V) := by
  intro X G σ H ρ P E env h c
  obtain ⟨ds, es, hf, hil, hvl, l1, l2, hel, hit, hsz, h⟩ := h
  obtain ⟨ly1, ly2⟩ := loc_of G.1 hy
  obtain ⟨lx1, lx2⟩ := loc_of G.1 hx
  refine ⟨_, pss_cons (ps_set (i := i) (by rw [G.1.hN]; exact G.1.nd) (by rw [G.1.hN]; exact hNi) ly1 pe_w (hs X.env) ly2) (pss_cons (ps_for G.2.1 (G.1.calm hmd) (pi_list (pe_var (i := f) (by rw [G.1.hN]; exact hNf) (by rw [G.1.hs]; exact vis_of hzv) hd2 hcd2)) (pg_name (i := v) (by rw [G.1.hN]; exact G.1.nd) (by rw [G.1.hN]; exact hNv) lx1 lx2) pss_w (hfs X.env)) pss_w), ?_⟩
  refine sl_lst sa_nil X G.1 σ H ρ [] env (by simp [gLst, gNil]) _ fun p xs0 H1 hp s1 e1 d1 => ?_
  cases d1
  -- the list that is walked
  have hfl : f < σ.length := by rw [env.len]; exact (List.getElem?_eq_some_iff.mp hf).1
  obtain ⟨vf, ef, df⟩ := env.at_ f _ σ[f] hf (List.getElem?_eq_getElem hfl)
  have ef2 : σ[f]? = some (some vf) := by rw [List.getElem?_eq_getElem hfl, ef]
  cases df with
  | @lst pf xf _ hpf dqf =>
  have nep : pf ≠ p := fun z => by rw [z, hp] at hpf; cases hpf
  have len := env.len
  have hσ1 : (σ.set i (some (L2.V.ref p)))[f]? = some (some (.ref pf)) := by rw [List.getElem?_set_ne hfi]; exact ef2
  refine ⟨.ref pf, hσ1, pf, rfl, ⟨xf, SqL.of (s1 _ _ hpf)⟩, ?_⟩
  have wk := walk_list (K := X.K) (a := pf) (xs := xf)
  refine for_it wk (fun k σ2 H2 => ∃ acc, H2 p = some (.lst acc) ∧ DqA T.K H2 acc (es.take k).flatten ∧ (∀ a o, a ≠ p → H1 a = some o → H2 a = some o) ∧ (∀ j, j ≠ v → σ2[j]? = (σ.set i (some (L2.V.ref p)))[j]?) ∧ σ2.length = σ.length)
    ⟨[], e1, .nil, fun _ _ _ e => e, fun _ _ => rfl, by rw [List.length_set]⟩ (fun k σ2 H2 _ ⟨_, _, _, hk, _, _⟩ => SqL.of (hk _ _ nep (s1 _ _ hpf))) (fun k x σ2 H2 H3 hlt hP hY => ?_) fun σ2 H2 hP => ?_
  · obtain ⟨e0, hx0⟩ := hY
    subst e0
    obtain ⟨acc, a1, a2, a3, a4, a5⟩ := hP
    obtain ⟨d, hdk, hdx⟩ := dqf.getV hx0
    have hk : k < es.length := by rw [hel]; exact (List.getElem?_eq_some_iff.mp hdk).1
    have hek := List.getElem?_eq_getElem hk
    obtain ⟨le, ge⟩ := hit k d _ hdk hek
    have kpH : Kp H H3 := fun a o q n => by
      have na : a ≠ p := fun z => by rw [z, hp] at q; cases q
      exact a3 a o na (s1 _ _ q)
    have lfd : lf d = true := lfA_mem l1 (List.mem_of_getElem? hdk)
    -- the slots within
    have envk : Env T.K H3 (σ2.set v (some x)) ((ρ.set i .un).set v (.im d)) := by
      refine ⟨by simp [a5, len], fun m s ov q1 q2 => ?_⟩
      by_cases hm : v = m
      · subst hm
        rw [List.getElem?_set_self (by rw [a5, len]; exact hvl)] at q2
        rw [List.getElem?_set_self (by simpa using hvl)] at q1
        cases q1; cases q2
        exact ⟨x, rfl, hdx.kp kpH _ _ lfd⟩
      · rw [List.getElem?_set_ne hm] at q1 q2
        by_cases hm2 : i = m
        · subst hm2
          rw [List.getElem?_set_self hil] at q1
          cases q1
          trivial
        · rw [List.getElem?_set_ne hm2] at q1
          rw [a4 m (Ne.symm hm), List.getElem?_set_ne hm2] at q2
          have q := env.at_ m s ov q1 q2
          by_cases hm3 : f = m
          · subst hm3
            rw [hf] at q1
            cases q1
            rw [ef2] at q2
            cases q2
            exact ⟨.ref pf, rfl, .lst (a3 _ _ nep (s1 _ _ hpf)) (dqf.kp kpH _ _ l1)⟩
          · have hs' : s ∈ (((ρ.set i .un).set f .un).set v .un) := List.mem_of_getElem? (i := m) (by rw [List.getElem?_set_ne hm, List.getElem?_set_ne hm3, List.getElem?_set_ne hm2]; exact q1)
            have l := List.all_eq_true.mp l2 s hs'
            cases s with
            | un => trivial
            | im d' => obtain ⟨v', r1, r2⟩ := q; exact ⟨v', r1, r2.kp kpH _ _ l⟩
            | ow _ => cases l
            | ex _ => exact q
    have si : (σ2.set v (some x))[i]? = some (some (.ref p)) := by
      rw [List.getElem?_set_ne (Ne.symm hiv), a4 i hiv, List.getElem?_set_self (by rw [len]; exact hil)]
    refine ⟨_, pss_cons (ps_expr (pe_bm PySem.F.plainAttrs_list PySem.F.slot_list_extend PySem.F.type_list_extend mt_extend (pe_var (i := i) (by rw [G.1.hN]; exact hNi) (by rw [G.1.hs]; exact vis_of hyv) hd hcd) (pa_cons pe_w pa_nil (hst X.env)) (hbase X.env) (hfew X.env) hline (hst X.env) rfl) (hsw X.env)) pss_nil, ?_⟩
    refine ⟨.ref p, si, .inl ⟨rfl, acc, SqL.of a1⟩, ?_⟩
    refine hL X G.1 _ H3 _ _ envk ge _ fun q zs H4 nq s4 e4 d4 => ?_
    have hp4 := s4 _ _ a1
    have nqp : q ≠ p := fun z => by rw [z, a1] at nq; cases nq
    have la : acc.length = (es.take k).flatten.length := a2.length
    have lz : zs.length = (es[k]).length := d4.length
    have ft := flat_take hek
    refine ⟨p, q, acc, zs, rfl, rfl, hp4, e4, ?_, ?_⟩
    · have := flat_le (es := es) (k + 1)
      rw [ft, List.length_append] at this
      rw [la, lz]
      exact Nat.le_trans (Nat.le_trans this hsz) (by decide)
    · have kp4 := kp_upd (o := .lst (acc ++ zs)) hp4
      have lfa : lfA (es.take k).flatten = true := lfA_of fun d' hd' => by
        obtain ⟨l, hl, hd''⟩ := List.mem_flatten.mp hd'
        obtain ⟨m, hm⟩ := List.mem_iff_getElem?.mp (List.mem_of_mem_take hl)
        have hm' : m < ds.length := by rw [← hel]; exact (List.getElem?_eq_some_iff.mp hm).1
        exact lfA_mem (hit m _ _ (List.getElem?_eq_getElem hm') hm).1 hd''
      refine ⟨acc ++ zs, upd_same, ?_, fun a o na hh => ?_, fun m hm => ?_, by rw [List.length_set]; exact a5⟩
      · rw [ft]
        exact ((a2.mono s4).kp kp4 _ _ lfa).append (d4.kp kp4 _ _ le)
      · rw [upd_ne na]
        exact s4 _ _ (a3 a o na hh)
      · rw [List.getElem?_set_ne (Ne.symm hm)]
        exact a4 m hm
  · obtain ⟨acc, a1, a2, a3, a4, a5⟩ := hP
    have lx : xf.length = es.length := by rw [dqf.length, hel]
    rw [lx, List.take_length] at a2
    have kpH : Kp H H2 := fun a o q n => by
      have na : a ≠ p := fun z => by rw [z, hp] at q; cases q
      exact a3 a o na (s1 _ _ q)
    have env' : Env T.K H2 σ2 ((ρ.set i (.ow es.flatten)).set v .un) := by
      refine ⟨by simp [a5, len], fun m s ov q1 q2 => ?_⟩
      by_cases hm : v = m
      · subst hm
        rw [List.getElem?_set_self (by simpa using hvl)] at q1
        cases q1
        trivial
      · rw [List.getElem?_set_ne hm] at q1
        rw [a4 m (Ne.symm hm)] at q2
        by_cases hm2 : i = m
        · subst hm2
          rw [List.getElem?_set_self hil] at q1
          rw [List.getElem?_set_self (by rw [len]; exact hil)] at q2
          cases q1; cases q2
          exact ⟨p, acc, rfl, a1, a2⟩
        · rw [List.getElem?_set_ne hm2] at q1 q2
          have q := env.at_ m s ov q1 q2
          by_cases hm3 : f = m
          · subst hm3
            rw [hf] at q1
            cases q1
            rw [ef2] at q2
            cases q2
            exact ⟨.ref pf, rfl, .lst (a3 _ _ nep (s1 _ _ hpf)) (dqf.kp kpH _ _ l1)⟩
          · have hs' : s ∈ (((ρ.set i .un).set f .un).set v .un) := List.mem_of_getElem? (i := m) (by rw [List.getElem?_set_ne hm, List.getElem?_set_ne hm3, List.getElem?_set_ne hm2]; exact q1)
            have l := List.all_eq_true.mp l2 s hs'
            cases s with
            | un => trivial
            | im d' => obtain ⟨v', r1, r2⟩ := q; exact ⟨v', r1, r2.kp kpH _ _ l⟩
            | ow _ => cases l
            | ex _ => exact q
    refine hV X G σ2 H2 _ P E env' h (c.on ⟨fun a o q n => ?_, fun a z => ?_, kpH⟩)
    · have na : a ≠ p := fun z => by rw [z, hp] at q; cases q
      exact a3 a o na (s1 _ _ q)
    · obtain ⟨m, ds', q1, q2⟩ := z
      by_cases hm : v = m
      · subst hm
        rw [List.getElem?_set_self (by simpa using hvl)] at q1
        cases q1
      · rw [List.getElem?_set_ne hm] at q1
        by_cases hm2 : i = m
        · subst hm2
          rw [a4 i hiv, List.getElem?_set_self (by rw [len]; exact hil)] at q2
          cases q2
          exact .inr hp
        · rw [List.getElem?_set_ne hm2] at q1
          rw [a4 m (Ne.symm hm), List.getElem?_set_ne hm2] at q2
          exact .inl ⟨m, ds', q1, q2⟩
end
section
variable {P : Program} {w : World} {K : PySem.W.Frag} {mg : Str → Option Value} {base : Heap}
theorem fnt_imp {k : Nat} {x : Str} {f g : List D → Option D} (h : FnT P w K mg base k x f) (i : ∀ ds d, g ds = some d → f ds = some d) : FnT P w K mg base k x g := by
  obtain ⟨fa, fd, ps, F, hm, kp, b⟩ := h
  refine ⟨fa, fd, ps, F.imp fun vs H Q E q => ?_, hm, kp, b⟩
  obtain ⟨ds, d, e1, e2, e3⟩ := q
  exact ⟨ds, d, e1, i ds d e2, e3⟩
end
end Pf

set_option Elab.async false
set_option linter.all false
set_option maxRecDepth 100000
set_option maxHeartbeats 2000000
/-! Pm10: whole sums, the least part, primes. -/
namespace Pf
open PySem PySem.Spec L2
section
variable {s : Int}
def numsM (s : Int) : List Int := (List.range s.toNat).map Int.ofNat
def tupsM (s : Int) : Nat → List (List Int)
  | 0 => [[]]
  | n + 1 => (tupsM s n).flatMap fun t => (numsM s).map fun x => t ++ [x]
def wholesM (s : Int) (n : Nat) : List (List Int) := (tupsM s n).map fun t => t ++ [1]
theorem nums_mem {x : Int} : x ∈ numsM s ↔ 0 ≤ x ∧ x < s := by
  unfold numsM
  rw [List.mem_map]
  constructor
  · rintro ⟨i, hi, rfl⟩
    have := List.mem_range.mp hi
    exact ⟨Int.natCast_nonneg i, by show (i : Int) < s; omega⟩
  · rintro ⟨h0, h1⟩
    exact ⟨x.toNat, List.mem_range.mpr (by omega), by show ((x.toNat : Nat) : Int) = x; omega⟩
theorem tups_mem : ∀ {n : Nat} {t : List Int}, t ∈ tupsM s n ↔ t.length = n ∧ ∀ i ∈ t, 0 ≤ i ∧ i < s
  | 0, t => by
    simp only [tupsM, List.mem_singleton]
    constructor
    · rintro rfl; exact ⟨rfl, fun _ h => (nomatch h)⟩
    · rintro ⟨h, _⟩; exact List.length_eq_zero_iff.mp h
  | n + 1, t => by
    simp only [tupsM, List.mem_flatMap, List.mem_map]
    constructor
    · rintro ⟨u, hu, x, hx, rfl⟩
      obtain ⟨h1, h2⟩ := tups_mem.mp hu
      refine ⟨by simp [h1], fun i hi => ?_⟩
      rcases List.mem_append.mp hi with z | z
      · exact h2 i z
      · rw [List.mem_singleton.mp z]; exact nums_mem.mp hx
    · rintro ⟨h1, h2⟩
      have hne : t ≠ [] := fun z => by rw [z] at h1; simp at h1
      have e : t.dropLast ++ [t.getLast hne] = t := List.dropLast_concat_getLast hne
      refine ⟨t.dropLast, tups_mem.mpr ⟨by simp [h1], fun i hi => h2 i ((List.dropLast_sublist _).subset hi)⟩, t.getLast hne, nums_mem.mpr (h2 _ (List.getLast_mem hne)), e⟩
theorem tups_len : ∀ n : Nat, (tupsM s n).length = s.toNat ^ n
  | 0 => rfl
  | n + 1 => by
    have : ∀ L : List (List Int), (L.flatMap fun t => (numsM s).map fun x => t ++ [x]).length = L.length * s.toNat := fun L => by
      induction L with
      | nil => simp
      | cons a L ih => rw [List.flatMap_cons, List.length_append, ih, List.length_map, List.length_cons]; simp only [numsM, List.length_map, List.length_range, Nat.succ_mul]; omega
    rw [tupsM, this, tups_len n, Nat.pow_succ]
theorem whole_mem (hs : Sz s) {n : Nat} {g : List Int} (h : g ∈ wholesM s n) : Can s g ∧ g.length = n + 1 ∧ cf g n = 1 := by
  obtain ⟨t, ht, rfl⟩ := List.mem_map.mp h
  obtain ⟨h1, h2⟩ := tups_mem.mp ht
  have gg := hs.ge
  refine ⟨app_can hs (fun i hi => (h2 i hi).1) (fun i hi => (h2 i hi).2) (by omega) (by omega), by simp [h1], ?_⟩
  rw [cf_app, if_neg (by omega), h1, Nat.sub_self, cf_cons0]
theorem mem_whole (hs : Sz s) {n : Nat} {g : List Int} (c : Can s g) (hl : g.length = n + 1) (h1 : cf g n = 1) : g ∈ wholesM s n := by
  have hne : g ≠ [] := fun z => by rw [z] at hl; simp at hl
  have e : g.dropLast ++ [g.getLast hne] = g := List.dropLast_concat_getLast hne
  have e2 : g.getLast hne = 1 := by
    rw [List.getLast_eq_getElem, ← cf_lt, hl]
    exact h1
  rw [e2] at e
  exact List.mem_map.mpr ⟨g.dropLast, tups_mem.mpr ⟨by simp [hl], fun i hi => ⟨c.lo i ((List.dropLast_sublist _).subset hi), c.hi i ((List.dropLast_sublist _).subset hi)⟩⟩, e⟩
def halfM (a : List Int) : Nat := (a.length - 1) / 2
def lvM (s : Int) (a : List Int) (i : Nat) : Option (List Int) := (wholesM s (i + 1)).find? fun g => decide (restM s a g = [])
/-- the first of the shortest that divide it -/
def leastM (s : Int) (a : List Int) : Option (List Int) := (List.range (halfM a)).findSome? (lvM s a)
theorem least_none {a : List Int} : leastM s a = none ↔ ∀ i, i < halfM a → ∀ g ∈ wholesM s (i + 1), restM s a g ≠ [] := by
  unfold leastM
  rw [List.findSome?_eq_none_iff]
  constructor
  · intro h i hi g hg
    have := h i (List.mem_range.mpr hi)
    unfold lvM at this
    rw [List.find?_eq_none] at this
    simpa using this g hg
  · intro h i hi
    unfold lvM
    rw [List.find?_eq_none]
    intro g hg
    simpa using h i (List.mem_range.mp hi) g hg
theorem least_some {a g : List Int} {j m : Nat} (hj : j < halfM a) (h1 : ∀ i, i < j → ∀ g ∈ wholesM s (i + 1), restM s a g ≠ []) (hm : (wholesM s (j + 1))[m]? = some g) (h2 : ∀ i, i < m → ∀ g', (wholesM s (j + 1))[i]? = some g' → restM s a g' ≠ []) (h3 : restM s a g = []) : leastM s a = some g := by
  unfold leastM
  have hlv : lvM s a j = some g := by
    unfold lvM
    rw [List.find?_eq_some_iff_append]
    refine ⟨by simpa using h3, (wholesM s (j + 1)).take m, (wholesM s (j + 1)).drop (m + 1), ?_, fun g' hg' => ?_⟩
    · have hl := (List.getElem?_eq_some_iff.mp hm).1
      have e := (List.getElem?_eq_some_iff.mp hm).2
      rw [← e, List.getElem_cons_drop, List.take_append_drop]
    · obtain ⟨i, hi⟩ := List.mem_iff_getElem?.mp hg'
      have hi2 := (List.getElem?_eq_some_iff.mp hi).1
      rw [List.length_take] at hi2
      rw [List.getElem?_take_of_lt (by omega)] at hi
      simpa using h2 i (by omega) g' hi
  rw [List.findSome?_eq_some_iff]
  refine ⟨List.range j, j, (List.range (halfM a)).drop (j + 1), ?_, hlv, fun i hi => ?_⟩
  · have e : (List.range (halfM a)).take j = List.range j := by rw [List.take_range]; congr 1; omega
    have hl : j < (List.range (halfM a)).length := by simpa using hj
    have e2 : (List.range (halfM a))[j] = j := by simp
    rw [← e]
    conv => rhs; rw [show j :: (List.range (halfM a)).drop (j + 1) = (List.range (halfM a))[j] :: (List.range (halfM a)).drop (j + 1) by rw [e2]]
    rw [List.getElem_cons_drop, List.take_append_drop]
  · unfold lvM
    rw [List.find?_eq_none]
    intro g' hg'
    simpa using h1 i (List.mem_range.mp hi) g' hg'
theorem least_is {a g : List Int} (h : leastM s a = some g) : ∃ i, i < halfM a ∧ g ∈ wholesM s (i + 1) ∧ restM s a g = [] := by
  unfold leastM at h
  obtain ⟨i, hi, h2⟩ := List.exists_of_findSome?_eq_some h
  unfold lvM at h2
  exact ⟨i, List.mem_range.mp hi, List.mem_of_find?_eq_some h2, by simpa using List.find?_some h2⟩
structure SplitOk (s : Int) (a g q : List Int) : Prop where
  cg : Can s g
  cq : Can s q
  lg : 2 ≤ g.length
  lq : 2 ≤ q.length
  eq : timesM s g q = a
  la : g.length + q.length = a.length + 1
theorem split_ok (hs : Sz s) {a g : List Int} (ca : Can s a) (h : leastM s a = some g) : SplitOk s a g (quoM s a g) := by
  obtain ⟨i, hi, hg, hr⟩ := least_is h
  obtain ⟨cg, lg, _⟩ := whole_mem hs hg
  have gne : g ≠ [] := fun z => by rw [z] at lg; simp at lg
  have p := part_ok hs ca cg gne
  have e : pl s a = pl s (quoM s a g) * pl s g := by rw [p.eq, hr, pl_nil]; grind
  unfold halfM at hi
  have ane : a ≠ [] := fun z => by rw [z] at hi; simp at hi
  have qne : quoM s a g ≠ [] := fun z => ane ((can_pl0 ca).mp (by rw [e, z, pl_nil]; grind))
  have l := len_mul hs p.cq cg ca qne gne e
  exact ⟨cg, p.cq, by omega, by omega, can_ext (times_can hs _ _) ca (by rw [pl_times, e]; grind), by omega⟩
/-- the half's whole sums are not too many -/
def fewM (s : Int) (n : Nat) : Prop := n ≤ 20 ∧ s.toNat ^ n ≤ 100000
instance (s : Int) (n : Nat) : Decidable (fewM s n) := by unfold fewM; infer_instance
theorem few_mono (hs : Sz s) {m n : Nat} (h : m ≤ n) (g : fewM s n) : fewM s m := ⟨Nat.le_trans h g.1, Nat.le_trans (Nat.pow_le_pow_right (by have := hs.ge; omega) h) g.2⟩
def ttD (L : List (List Int)) : List D := L.map fun l => tI l
def f_wholes : List D → Option D := kII fun n s => if Sz s ∧ 0 ≤ n ∧ fewM s n.toNat then some (.lst (ttD (wholesM s n.toNat))) else none
def f_law_wholes : List D → Option D := kII fun n s => if Sz s ∧ 0 ≤ n ∧ fewM s n.toNat then some (.lst (ttD (wholesM s n.toNat))) else none
def okL (s : Int) (a : List Int) : Prop := Sz s ∧ Can s a ∧ a.length ≤ 40 ∧ fewM s (halfM a)
instance (s : Int) (a : List Int) : Decidable (okL s a) := by unfold okL; infer_instance
def lsD : Option (List Int) → D
  | none => .non
  | some g => tI g
def spD2 (s : Int) (a : List Int) : Option (List Int) → D
  | none => .non
  | some g => .tup [tI g, tI (quoM s a g)]
def primeM (s : Int) (a : List Int) : Bool := decide (1 < a.length) && (leastM s a).isNone
def f_least_part : List D → Option D := kTI fun a s => if okL s a then some (lsD (leastM s a)) else none
def f_split : List D → Option D := kTI fun a s => if okL s a then some (spD2 s a (leastM s a)) else none
def f_is_prime : List D → Option D := kTI fun a s => if okL s a then some (.bl (primeM s a)) else none
def f_law_is_prime : List D → Option D := kTI fun a s => if okL s a then some (.bl (primeM s a)) else none
theorem tt_get {L : List (List Int)} {i : Nat} {d : D} (h : (ttD L)[i]? = some d) : ∃ l, L[i]? = some l ∧ d = tI l := by
  unfold ttD at h
  rw [List.getElem?_map] at h
  cases e : L[i]? with
  | none => rw [e] at h; cases h
  | some l => rw [e] at h; cases h; exact ⟨l, rfl, rfl⟩
@[simp] theorem lfA_tt (L : List (List Int)) : lfA (ttD L) = true := lfA_of fun d hd => by
  obtain ⟨l, _, rfl⟩ := List.mem_map.mp hd
  simp
theorem lcG_tp {i : Nat} {gt : En → Option Bool} {ge : En → Option D} {ρ : En} (p : List Int → Bool) (f : List Int → List Int) : ∀ {L : List (List Int)}, (∀ l ∈ L, gt (ρ.set i (.im (tI l))) = some (p l) ∧ (p l = true → ge (ρ.set i (.im (tI l))) = some (tI (f l)))) → lcG (set1 i) gt ge ρ (ttD L) = some (ttD ((L.filter p).map f))
  | [], _ => rfl
  | l :: L, h => by
    have ih := lcG_tp p f (L := L) fun y hy => h y (List.mem_cons_of_mem _ hy)
    obtain ⟨h1, h2⟩ := h l List.mem_cons_self
    show lcG (set1 i) gt ge ρ (tI l :: ttD L) = _
    unfold lcG
    simp only [set1_ap, Option.bind_some, h1]
    rw [List.filter_cons]
    cases hp : p l with
    | true =>
      rw [if_pos rfl, h2 hp, ih]
      simp only [Option.bind_some, lf_tI, if_true, Option.map_some, List.map_cons]
      rfl
    | false =>
      rw [if_neg (by simp), ih, if_neg (by simp)]
theorem tt_len (L : List (List Int)) : (ttD L).length = L.length := List.length_map _
theorem neD_lt (L : List (List Int)) : neD (.lst (ttD L)) (.lst []) = some (.bl (!decide (L = []))) := by
  have h : okNA 60 (ttD L) = true := okNA_of fun d hd => by
    obtain ⟨l, _, rfl⟩ := List.mem_map.mp hd
    simp only [okN]
    exact okNA_ints _ l
  have e : (ttD L = []) = (L = []) := by simp [ttD]
  simp only [neD, eqB_lnil h, Option.map_some, e]
theorem wh_len (n : Nat) : (wholesM s n).length = s.toNat ^ n := by unfold wholesM; rw [List.length_map, tups_len]
theorem lcG_it {i : Nat} {ge : En → Option D} {ρ : En} (f : Int → List Int) : ∀ {ns : List Int}, (∀ x ∈ ns, ge (ρ.set i (.im (.int x))) = some (tI (f x))) → lcG (set1 i) gYes ge ρ (ns.map D.int) = some (ttD (ns.map f))
  | [], _ => rfl
  | x :: ns, h => by
    have ih := lcG_it f (ns := ns) fun y hy => h y (List.mem_cons_of_mem _ hy)
    show lcG (set1 i) gYes ge ρ (.int x :: ns.map D.int) = _
    unfold lcG
    simp only [set1_ap, Option.bind_some, gYes_ap, if_true, h x List.mem_cons_self, ih, lf_tI, Option.map_some, List.map_cons]
    rfl
def stepsM (s : Int) (L : List (List Int)) : List (List D) := L.map fun t => ttD ((numsM s).map fun x => t ++ [x])
theorem steps_flat (L : List (List Int)) : (stepsM s L).flatten = ttD (L.flatMap fun t => (numsM s).map fun x => t ++ [x]) := by
  induction L with
  | nil => rfl
  | cons t L ih =>
    show (ttD _ :: stepsM s L).flatten = _
    rw [List.flatten_cons, ih, List.flatMap_cons]
    unfold ttD
    rw [List.map_append]
theorem gLs_by {g : En → Option D} {ρ : En} {ds : List D} (h : g ρ = some (.lst ds)) (hn : noOw ρ = true) : gLs g ρ = some ds := by
  unfold gLs
  rw [h]
  exact if_pos hn
theorem few_le (hs : Sz s) {n : Nat} (h : fewM s n) : (tupsM s n).length ≤ 100000 := by rw [tups_len]; exact h.2
theorem ext_row {i : Nat} (hs : Sz s) {ge : En → Option D} {la : En → Option (List D)} {ρ : En} (t : List Int) (h1 : la ρ = some [.int s]) (h2 : ∀ x, ge ((ρ.set i .un).set i (.im (.int x))) = some (tI (t ++ [x]))) : gLc (gR1 la) [i] (set1 i) gYes ge ρ = some (ttD ((numsM s).map fun x => t ++ [x])) := by
  have g := hs.ge
  have e : gR1 la ρ = some ((numsM s).map .int) := by
    have := gR1_by h1 ⟨by omega, by omega⟩
    rw [this, rngD_ints]; rfl
  refine gLc_by e (by simp [numsM]; omega) ?_
  exact lcG_it _ fun x _ => h2 x
theorem f_wholes_ok (hs : Sz s) {n : Int} (hn : 0 ≤ n) (h : fewM s n.toNat) : f_wholes [.int n, .int s] = some (.lst (ttD (wholesM s n.toNat))) := by
  simp only [f_wholes, kII_mk, if_pos (show Sz s ∧ 0 ≤ n ∧ fewM s n.toNat from ⟨hs, hn, h⟩)]
theorem f_lwholes_ok (hs : Sz s) {n : Int} (hn : 0 ≤ n) (h : fewM s n.toNat) : f_law_wholes [.int n, .int s] = some (.lst (ttD (wholesM s n.toNat))) := by
  simp only [f_law_wholes, kII_mk, if_pos (show Sz s ∧ 0 ≤ n ∧ fewM s n.toNat from ⟨hs, hn, h⟩)]
theorem gR2_by {la : En → Option (List D)} {ρ : En} {i j : Int} (h : la ρ = some [.int i, .int j]) (c : -(2 ^ 62) ≤ i ∧ i < 2 ^ 62 ∧ -(2 ^ 62) ≤ j ∧ j < 2 ^ 62) : gR2 la ρ = some (rngD i (j - i).toNat) := by
  unfold gR2
  rw [h]
  exact if_pos c
/-- 1, 2, .. up to half -/
theorem half_rng {la : En → Option (List D)} {ρ : En} {a : List Int} (hl : a.length ≤ 1000) (h : la ρ = some [.int 1, .int (((a.length : Int) - 1) / 2 + 1)]) : gR2 la ρ = some (rngD 1 (halfM a)) := by
  have e : (((a.length : Int) - 1) / 2 + 1 - 1).toNat = halfM a := by unfold halfM; omega
  rw [gR2_by h ⟨by omega, by omega, by omega, by omega⟩, e]
theorem f_least_ok {a : List Int} (h : okL s a) : f_least_part [tI a, .int s] = some (lsD (leastM s a)) := by
  simp only [f_least_part, kTI_mk, if_pos h]
theorem f_split_ok {a : List Int} (h : okL s a) : f_split [tI a, .int s] = some (spD2 s a (leastM s a)) := by
  simp only [f_split, kTI_mk, if_pos h]
theorem f_prime_ok {a : List Int} (h : okL s a) : f_is_prime [tI a, .int s] = some (.bl (primeM s a)) := by
  simp only [f_is_prime, kTI_mk, if_pos h]
theorem f_lprime_ok {a : List Int} (h : okL s a) : f_law_is_prime [tI a, .int s] = some (.bl (primeM s a)) := by
  simp only [f_law_is_prime, kTI_mk, if_pos h]
/-- sums that are short enough -/
theorem okL_of (hs : Sz s) {a : List Int} (c : Can s a) {n : Nat} (hl : a.length ≤ 40) (h : halfM a ≤ n) (f : fewM s n) : okL s a := ⟨hs, c, hl, few_mono hs h f⟩
end
end Pf

set_option Elab.async false
set_option linter.all false
set_option maxRecDepth 100000
set_option maxHeartbeats 2000000
/-! Pm11: primes counted. -/
namespace Pf
open PySem PySem.Spec L2
section
variable {s : Int}
theorem g2_by {h : D → D → Option D} {a b : En → Option D} {ρ : En} {x y z : D} (h1 : a ρ = some x) (h2 : b ρ = some y) (h3 : h x y = some z) : g2 h a b ρ = some z := by
  unfold g2
  rw [h1, h2]
  exact h3
def sumF (rc : Nat → Int) (n : Nat) : Nat → Int
  | 0 => 0
  | j + 1 => sumF rc n j + if n % (j + 1) = 0 then ((j + 1 : Nat) : Int) * rc (j + 1) else 0
def cntF (s : Int) : Nat → Nat → Int
  | 0, _ => 0
  | k + 1, n => (s ^ n - sumF (cntF s k) n (n - 1)) / (n : Int)
def primesM (s : Int) (n : Nat) : List (List Int) := (wholesM s n).filter (primeM s)
def cnt5 (s : Int) (n : Nat) : Int := cntF s 5 n
def chkN (s : Int) (n : Nat) : Bool := ((List.range n).all fun i => decide (n % (i + 1) ≠ 0) || (decide (1 ≤ cnt5 s (i + 1)) && decide (cnt5 s (i + 1) ≤ s ^ n))) && decide (sumF (cnt5 s) n n = s ^ n)
theorem chk_all : [(2 : Int), 3, 5].all (fun s => (List.range 30).all fun i => chkN s (i + 1)) = true := by decide +kernel
theorem chk_ok (hs : Sz s) {n : Nat} (h1 : 1 ≤ n) (h2 : n ≤ 30) : (∀ i, 1 ≤ i → i ≤ n → n % i = 0 → 1 ≤ cnt5 s i ∧ cnt5 s i ≤ s ^ n) ∧ sumF (cnt5 s) n n = s ^ n := by
  have h := List.all_eq_true.mp chk_all s (by rcases hs with h | h | h <;> rw [h] <;> simp)
  have h3 := List.all_eq_true.mp h (n - 1) (List.mem_range.mpr (by omega))
  rw [Nat.sub_add_cancel h1] at h3
  unfold chkN at h3
  rw [Bool.and_eq_true] at h3
  refine ⟨fun i i1 i2 i3 => ?_, of_decide_eq_true h3.2⟩
  have h4 := List.all_eq_true.mp h3.1 (i - 1) (List.mem_range.mpr (by omega))
  rw [Nat.sub_add_cancel i1] at h4
  simp only [Bool.or_eq_true, Bool.and_eq_true, decide_eq_true_eq] at h4
  rcases h4 with h4 | h4
  · exact absurd i3 h4
  · exact h4
def mostN (s : Int) : Nat := if s = 2 then 4 else if s = 3 then 3 else 2
theorem short_all : [(2 : Int), 3, 5].all (fun s => (List.range (mostN s)).all fun i => decide (((primesM s (i + 1)).length : Int) = cnt5 s (i + 1)) && decide (0 < (primesM s (i + 1)).length)) = true := by decide +kernel
theorem short_ok (hs : Sz s) {n : Nat} (h1 : 1 ≤ n) (h2 : n ≤ mostN s) : ((primesM s n).length : Int) = cnt5 s n ∧ 0 < (primesM s n).length := by
  have h := List.all_eq_true.mp short_all s (by rcases hs with h | h | h <;> rw [h] <;> simp)
  have h3 := List.all_eq_true.mp h (n - 1) (List.mem_range.mpr (by omega))
  rw [Nat.sub_add_cancel h1] at h3
  simp only [Bool.and_eq_true, decide_eq_true_eq] at h3
  exact h3
theorem sumF_cong {rc rc' : Nat → Int} {n : Nat} : ∀ {j : Nat}, (∀ i, 1 ≤ i → i ≤ j → n % i = 0 → rc i = rc' i) → sumF rc n j = sumF rc' n j
  | 0, _ => rfl
  | j + 1, h => by
    unfold sumF
    rw [sumF_cong fun i h1 h2 => h i h1 (by omega)]
    by_cases hd : n % (j + 1) = 0
    · rw [if_pos hd, if_pos hd, h (j + 1) (by omega) (by omega) hd]
    · rw [if_neg hd, if_neg hd]
theorem half_div {n i : Nat} (h0 : n % i = 0) (h1 : 1 ≤ i) (h2 : i < n) : 2 * i ≤ n := by
  obtain ⟨q, hq⟩ := Nat.dvd_of_mod_eq_zero h0
  have : 2 ≤ q := by
    rcases q with _ | _ | q
    · rw [hq] at h2; simp at h2
    · rw [hq] at h2; simp at h2
    · omega
  have := Nat.mul_le_mul_left i this
  rw [← hq] at this
  omega
theorem mostN_le (hs : Sz s) : mostN s ≤ 4 ∧ fewM s (mostN s) := by
  rcases hs with h | h | h <;> rw [h] <;> decide
def f_primes : List D → Option D := kII fun n s => if Sz s ∧ 1 ≤ n ∧ n ≤ 4 ∧ fewM s n.toNat then some (.tup (ttD (primesM s n.toNat))) else none
def f_count_primes : List D → Option D := kII fun n s => if Sz s ∧ 1 ≤ n ∧ n ≤ 30 then some (.int (cnt5 s n.toNat)) else none
theorem f_primes_ok (hs : Sz s) {n : Int} (h1 : 1 ≤ n) (h2 : n ≤ 4) (h : fewM s n.toNat) : f_primes [.int n, .int s] = some (.tup (ttD (primesM s n.toNat))) := by
  simp only [f_primes, kII_mk, if_pos (show Sz s ∧ 1 ≤ n ∧ n ≤ 4 ∧ fewM s n.toNat from ⟨hs, h1, h2, h⟩)]
theorem f_count_ok (hs : Sz s) {n : Int} (h1 : 1 ≤ n) (h2 : n ≤ 30) : f_count_primes [.int n, .int s] = some (.int (cnt5 s n.toNat)) := by
  simp only [f_count_primes, kII_mk, if_pos (show Sz s ∧ 1 ≤ n ∧ n ≤ 30 from ⟨hs, h1, h2⟩)]
theorem pow_s (s : Int) (j : Nat) : s ^ (j + 1) = s ^ j * s := Int.pow_succ s j
theorem prime_can (hs : Sz s) {n : Nat} {f : List Int} (h : f ∈ primesM s n) : Can s f ∧ f.length = n + 1 ∧ cf f n = 1 ∧ primeM s f = true := by
  have h := List.mem_filter.mp h
  obtain ⟨h1, h2, h3⟩ := whole_mem hs h.1
  exact ⟨h1, h2, h3, h.2⟩
theorem wh_okL (hs : Sz s) {n : Nat} (hn : n ≤ 20) (h : fewM s n) {f : List Int} (hf : f ∈ wholesM s n) : okL s f := by
  obtain ⟨h1, h2, h3⟩ := whole_mem hs hf
  exact okL_of hs h1 (n := n) (by omega) (by unfold halfM; omega) h
theorem neD_tt (L M : List (List Int)) : neD (.tup (ttD L)) (.tup (ttD M)) = some (.bl (!decide (L = M))) := by
  have : neD (.tup (L.map fun l => tI l)) (.tup (M.map fun l => tI l)) = some (.bl (!decide (L = M))) := by simp only [neD, eqB_tt, Option.map_some]
  exact this
end
end Pf

set_option Elab.async false
set_option linter.all false
set_option maxRecDepth 100000
set_option maxHeartbeats 2000000
/-! Pm12: powers of the size. -/
namespace Pf
open PySem PySem.Spec L2
section
variable {s : Int}
theorem frob_all : [(2 : Int), 3, 5].all (fun s => (List.range (mostN s)).all fun i => (primesM s (i + 1)).all fun f => decide (restM s (List.replicate (s.toNat ^ (i + 1)) 0 ++ [1]) f = restM s [0, 1] f)) = true := by decide +kernel
theorem frob (hs : Sz s) (a b : Rg s) : (a + b) ^ s.toNat = a ^ s.toNat + b ^ s.toNat := by
  rcases hs with h | h | h <;> subst h
  · have h2 : (2 : Rg 2) = 0 := rg_s0 2 rfl
    show (a + b) ^ 2 = a ^ 2 + b ^ 2
    grind
  · have h2 : (3 : Rg 3) = 0 := rg_s0 3 rfl
    show (a + b) ^ 3 = a ^ 3 + b ^ 3
    grind
  · have h2 : (5 : Rg 5) = 0 := rg_s0 5 rfl
    show (a + b) ^ 5 = a ^ 5 + b ^ 5
    grind
theorem rg_pow_add (x : Rg s) (m : Nat) : ∀ k : Nat, x ^ (m + k) = x ^ m * x ^ k
  | 0 => by
    have e : x ^ 0 = 1 := Lean.Grind.Semiring.pow_zero _
    rw [e, Nat.add_zero]; grind
  | k + 1 => by
    have e : x ^ (m + (k + 1)) = x ^ (m + k) * x := Lean.Grind.Semiring.pow_succ _ _
    rw [e, rg_pow_add x m k, Lean.Grind.Semiring.pow_succ]
    grind
theorem rg_pow_mul (x : Rg s) (m : Nat) : ∀ k : Nat, x ^ (m * k) = (x ^ m) ^ k
  | 0 => by
    have e : x ^ 0 = 1 := Lean.Grind.Semiring.pow_zero _
    have e2 : (x ^ m) ^ 0 = 1 := Lean.Grind.Semiring.pow_zero _
    rw [Nat.mul_zero, e, e2]
  | k + 1 => by
    rw [Nat.mul_succ, rg_pow_add, rg_pow_mul x m k, Lean.Grind.Semiring.pow_succ]
theorem frobN (hs : Sz s) (a b : Rg s) : ∀ n : Nat, (a + b) ^ (s.toNat ^ n) = a ^ (s.toNat ^ n) + b ^ (s.toNat ^ n)
  | 0 => by
    have e : ∀ x : Rg s, x ^ (s.toNat ^ 0) = x := fun x => by
      rw [Nat.pow_zero]
      have e : x ^ 1 = x ^ 0 * x := Lean.Grind.Semiring.pow_succ x 0
      have e2 : x ^ 0 = 1 := Lean.Grind.Semiring.pow_zero _
      rw [e, e2]; grind
    rw [e, e, e]
  | n + 1 => by
    rw [Nat.pow_succ, rg_pow_mul, rg_pow_mul, rg_pow_mul, frobN hs a b n, frob hs]
theorem rg_mul_pow (a b : Rg s) : ∀ n : Nat, (a * b) ^ n = a ^ n * b ^ n
  | 0 => by
    have e : ∀ x : Rg s, x ^ 0 = 1 := fun x => Lean.Grind.Semiring.pow_zero _
    rw [e, e, e]; grind
  | n + 1 => by
    rw [Lean.Grind.Semiring.pow_succ, Lean.Grind.Semiring.pow_succ, Lean.Grind.Semiring.pow_succ, rg_mul_pow a b n]; grind
theorem int_pow (c : Int) : ∀ n : Nat, ((c ^ n : Int) : Rg s) = (c : Rg s) ^ n
  | 0 => by
    have e : (c : Rg s) ^ 0 = 1 := Lean.Grind.Semiring.pow_zero _
    rw [e, Int.pow_zero, int_one]
  | n + 1 => by rw [Int.pow_succ, int_mul, int_pow c n, Lean.Grind.Semiring.pow_succ]
theorem fermat (hs : Sz s) {c : Int} (h0 : 0 ≤ c) (h1 : c < s) : (c : Rg s) ^ s.toNat = (c : Rg s) := by
  rw [← int_pow]
  refine int_cong ?_
  have : c = 0 ∨ c = 1 ∨ c = 2 ∨ c = 3 ∨ c = 4 := by rcases hs with h | h | h <;> omega
  rcases hs with h | h | h <;> subst h <;> rcases this with h | h | h | h | h <;> subst h <;> first | omega | decide
theorem fermatN (hs : Sz s) {c : Int} (h0 : 0 ≤ c) (h1 : c < s) : ∀ n : Nat, (c : Rg s) ^ (s.toNat ^ n) = (c : Rg s)
  | 0 => by
    rw [Nat.pow_zero]
    have e : (c : Rg s) ^ 1 = (c : Rg s) ^ 0 * (c : Rg s) := Lean.Grind.Semiring.pow_succ _ 0
    have e2 : (c : Rg s) ^ 0 = 1 := Lean.Grind.Semiring.pow_zero _
    rw [e, e2]; grind
  | n + 1 => by rw [Nat.pow_succ, rg_pow_mul, fermatN hs h0 h1 n, fermat hs h0 h1]
theorem xp_can (hs : Sz s) (n : Nat) : Can s (List.replicate n 0 ++ [1]) := by
  have g := hs.ge
  exact app_can hs (fun i hi => by rw [List.eq_of_mem_replicate hi]; omega) (fun i hi => by rw [List.eq_of_mem_replicate hi]; omega) (by omega) (by omega)
theorem x_frob (hs : Sz s) {n : Nat} (h1 : 1 ≤ n) (h2 : n ≤ mostN s) {f : List Int} (hf : f ∈ primesM s n) : Cg (pl s f) (xR s ^ (s.toNat ^ n)) (xR s) := by
  have g := hs.ge
  have h := List.all_eq_true.mp frob_all s (by rcases hs with h | h | h <;> rw [h] <;> simp)
  have h3 := List.all_eq_true.mp h (n - 1) (List.mem_range.mpr (by omega))
  rw [Nat.sub_add_cancel h1] at h3
  have h4 := of_decide_eq_true (List.all_eq_true.mp h3 f hf)
  obtain ⟨cf', lf', _⟩ := prime_can hs hf
  have fne : f ≠ [] := fun z => by rw [z] at lf'; simp at lf'
  have c0 : Can s [0, 1] := cons_can (one_can hs) (by simp) (by omega) (by omega)
  have h5 := (rest_eq hs (xp_can hs _) c0 cf' fne).mp h4
  have e1 : pl s (List.replicate (s.toNat ^ n) 0 ++ [1]) = xR s ^ (s.toNat ^ n) := by rw [pl_shift, pl_one]; grind
  have e2 : pl s [0, 1] = xR s := by
    rw [pl_cons, pl_one, int_zero]; grind
  rw [e1, e2] at h5
  exact h5
/-- by a prime each sum to the power of the size, so often as the prime is long, is itself -/
theorem pow_frob (hs : Sz s) {n : Nat} (h1 : 1 ≤ n) (h2 : n ≤ mostN s) {f : List Int} (hf : f ∈ primesM s n) : ∀ a : List Int, (∀ i ∈ a, 0 ≤ i ∧ i < s) → Cg (pl s f) (pl s a ^ (s.toNat ^ n)) (pl s a)
  | [], _ => by
    have hN : 0 < s.toNat ^ n := Nat.pow_pos (by have := hs.ge; omega)
    obtain ⟨m, hm⟩ : ∃ m, s.toNat ^ n = m + 1 := ⟨s.toNat ^ n - 1, by omega⟩
    rw [pl_nil, hm, Lean.Grind.Semiring.pow_succ]
    have e : (0 : Rg s) ^ m * 0 = 0 := by grind
    rw [e]
    exact Cg.refl _ _
  | c :: a, h => by
    have hc := h c (by simp)
    rw [pl_cons, frobN hs, fermatN hs hc.1 hc.2, rg_mul_pow]
    exact Cg.add (Cg.refl _ _) (Cg.mul (fi_x.pow _) (fi_pl a) (x_frob hs h1 h2 hf) (pow_frob hs h1 h2 hf a fun i hi => h i (List.mem_cons_of_mem _ hi)))
/-- made whole -/
theorem whole_of (hs : Sz s) {g : List Int} (cg : Can s g) (hg : g ≠ []) : ∃ h, Can s h ∧ h.length = g.length ∧ cf h (g.length - 1) = 1 ∧ (∃ u : Int, pl s g = (u : Rg s) * pl s h) := by
  obtain ⟨c1, c2, c3⟩ := map_lead hs cg hg
  have lp := List.length_pos_iff.mpr hg
  have lk := lead_ok hs cg hg
  refine ⟨_, c1, List.length_map _, by rw [cf_map _ _ (by omega), lk], cf g (g.length - 1), ?_⟩
  rw [c3]
  have e : (cf g (g.length - 1) : Rg s) * (leadM s g : Rg s) = 1 := by
    rw [← int_mul, ← int_one]
    refine int_cong ?_
    rw [lk]
    rcases hs with q | q | q <;> rw [q] <;> rfl
  generalize (cf g (g.length - 1) : Rg s) = U at *
  generalize (leadM s g : Rg s) = V at *
  grind
theorem no_part (hs : Sz s) {f g : List Int} (cf' : Can s f) (cg : Can s g) (hl : leastM s f = none) (l2 : 2 ≤ g.length) (lh : g.length - 1 ≤ halfM f) (d : Dv (pl s g) (pl s f)) : False := by
  have gne : g ≠ [] := fun z => by rw [z] at l2; simp at l2
  obtain ⟨h, c1, c2, c3, u, c4⟩ := whole_of hs cg gne
  have hne : h ≠ [] := fun z => by rw [z] at c2; simp at c2; omega
  have hw : h ∈ wholesM s (g.length - 2 + 1) := mem_whole hs c1 (by omega) (by
    have : g.length - 2 + 1 = g.length - 1 := by omega
    rw [this]; exact c3)
  refine least_none.mp hl (g.length - 2) (by omega) h hw ((rest_nil hs cf' c1 hne).mpr ?_)
  obtain ⟨z, fz, e⟩ := d
  exact ⟨z * (u : Rg s), fz.mul (fi_int u), by rw [e, c4]; grind⟩
/-- a prime is no product -/
theorem irr (hs : Sz s) {f g q : List Int} (cf' : Can s f) (cg : Can s g) (cq : Can s q) (hl : leastM s f = none) (hg : 2 ≤ g.length) (hq : 2 ≤ q.length) (e : pl s f = pl s q * pl s g) : False := by
  have gne : g ≠ [] := fun z => by rw [z] at hg; simp at hg
  have qne : q ≠ [] := fun z => by rw [z] at hq; simp at hq
  have l := len_mul hs cq cg cf' qne gne e
  by_cases h : g.length - 1 ≤ halfM f
  · exact no_part hs cf' cg hl hg h ⟨pl s q, fi_pl _, e⟩
  · refine no_part hs cf' cq hl hq ?_ ⟨pl s g, fi_pl _, by rw [e]; grind⟩
    unfold halfM at *
    omega
/-- a prime that does not divide a sum has 1 with it -/
theorem prime_one (hs : Sz s) {f a : List Int} (cf' : Can s f) (ca : Can s a) (hf : 2 ≤ f.length) (hl : leastM s f = none) (hn : ¬ Dv (pl s f) (pl s a)) : ∃ u v : Rg s, Fi u ∧ Fi v ∧ u * pl s a + v * pl s f = 1 := by
  have k := com_ok hs ca cf'
  have fne : f ≠ [] := fun z => by rw [z] at hf; simp at hf
  obtain ⟨n1, n2⟩ := k.ne (.inr fne)
  obtain ⟨z, fz, ez⟩ := k.d2
  obtain ⟨q, cq, rfl⟩ := fz.list hs
  have qne : q ≠ [] := fun y => fne ((can_pl0 cf').mp (by rw [ez, y, pl_nil]; grind))
  have l := len_mul hs cq k.c1 cf' qne n1 ez
  have gp := List.length_pos_iff.mpr n1
  have qp := List.length_pos_iff.mpr qne
  by_cases h1 : (comM s a f).1.length = 1
  · obtain ⟨y, ey⟩ := List.length_eq_one_iff.mp h1
    rw [ey] at n2
    have y1 : y = 1 := n2
    have eq := k.eq
    rw [ey, y1, pl_one] at eq
    exact ⟨_, _, fi_pl _, fi_pl _, eq.symm⟩
  · by_cases h2 : q.length = 1
    · exfalso
      obtain ⟨y, ey⟩ := List.length_eq_one_iff.mp h2
      have cy := last_in cq qne
      rw [ey] at cy
      have cy : 0 < y ∧ y < s := cy
      have iv := inv_ok hs cy.1 cy.2
      rw [ey, pl_num] at ez
      have e1 : (invM s y : Rg s) * (y : Rg s) = 1 := by
        rw [← int_mul, ← int_one]
        refine int_cong ?_
        rw [Int.mul_comm, iv.2.2.1]
        rcases hs with q | q | q <;> rw [q] <;> rfl
      obtain ⟨w, fw, ew⟩ := k.d1
      refine hn ⟨w * (invM s y : Rg s), fw.mul (fi_int _), ?_⟩
      rw [ew, ez]
      generalize (invM s y : Rg s) = U at *
      generalize (y : Rg s) = V at *
      grind
    · exact (irr hs cf' k.c1 cq hl (by omega) (by omega) ez).elim
theorem euclid (hs : Sz s) {f a : List Int} (cf' : Can s f) (ca : Can s a) (hf : 2 ≤ f.length) (hl : leastM s f = none) {y : Rg s} (fy : Fi y) (h : Dv (pl s f) (pl s a * y)) : Dv (pl s f) (pl s a) ∨ Dv (pl s f) y := by
  by_cases hn : Dv (pl s f) (pl s a)
  · exact .inl hn
  · obtain ⟨u, v, fu, fv, e⟩ := prime_one hs cf' ca hf hl hn
    obtain ⟨z, fz, ez⟩ := h
    refine .inr ⟨u * z + v * y, (fu.mul fz).add (fv.mul fy), ?_⟩
    have : y = (u * pl s a + v * pl s f) * y := by rw [e]; grind
    rw [this]
    grind
/-- .. and to one less it is 1 -/
theorem pow_one_less (hs : Sz s) {n : Nat} (h1 : 1 ≤ n) (h2 : n ≤ mostN s) {f a : List Int} (hf : f ∈ primesM s n) (ca : Can s a) (hn : ¬ Dv (pl s f) (pl s a)) : Cg (pl s f) (pl s a ^ (s.toNat ^ n - 1)) 1 := by
  obtain ⟨cf', lf', _, pf⟩ := prime_can hs hf
  have hN : 0 < s.toNat ^ n := Nat.pow_pos (by have := hs.ge; omega)
  have h := pow_frob hs h1 h2 hf a fun i hi => ⟨ca.lo i hi, ca.hi i hi⟩
  have e : s.toNat ^ n = s.toNat ^ n - 1 + 1 := by omega
  rw [e, Lean.Grind.Semiring.pow_succ] at h
  obtain ⟨z, fz, ez⟩ := h
  have hd : Dv (pl s f) (pl s a * (pl s a ^ (s.toNat ^ n - 1) - 1)) := ⟨z, fz, by rw [← ez]; grind⟩
  have hl : leastM s f = none := by
    unfold primeM at pf
    simp at pf
    exact pf.2
  rcases euclid hs cf' ca (by omega) hl (((fi_pl a).pow _).sub fi_one) hd with q | q
  · exact absurd q hn
  · exact q
end
end Pf

set_option Elab.async false
set_option linter.all false
set_option maxRecDepth 100000
set_option maxHeartbeats 2000000
/-! Pf17: texts joined, parted, split, found in; refusals within a loop, within a place's setting. -/
namespace Pf
open PySem PySem.Spec L2
section
variable {T : Ct} {a b c tg iter : Expr} {ga gb gc : En → Option D} {la lb : En → Option (List D)} {pos : Pos}
def dStrs : List D → Option (List Str)
  | [] => some []
  | .str i :: r => (dStrs r).map (i :: ·)
  | _ => none
@[simp] theorem dStrs_map : ∀ ns : List Str, dStrs (ns.map D.str) = some ns
  | [] => rfl
  | n :: ns => by simp [dStrs, dStrs_map ns]
theorem dStrs_some : ∀ {ds : List D} {ns : List Str}, dStrs ds = some ns → ds = ns.map D.str
  | [], _, h => by simp only [dStrs] at h; cases h; rfl
  | d :: ds, ns, h => by
    cases d with
    | str i =>
      simp only [dStrs] at h
      cases q : dStrs ds with
      | none => rw [q] at h; cases h
      | some ms =>
        rw [q] at h
        cases h
        rw [dStrs_some q]; rfl
    | _ => simp only [dStrs] at h; cases h
def joinD (d : D) (ds : List D) : Option D := match d with
  | .str a => (dStrs ds).bind fun ys => if (ys.map (·.length)).sum + ys.length * a.length ≤ 1000000 then some (.str (Txt.join a ys)) else none
  | _ => none
def gJoin (ga : En → Option D) (lb : En → Option (List D)) : En → Option D := fun ρ => (ga ρ).bind fun d => (lb ρ).bind fun ds => joinD d ds
theorem se_join {apos : Pos} (ha : SE T a ga) (hb : SR T b lb) (hs : ∀ env, starEach [b] env = [(false, eval b env)] := by intro _; rfl) (hbase : ∀ env, attributeBase a "join" env (eval a env) = eval a env := by intro _; rfl) (hline : (apos.endLine == pos.line) = true := by rfl) :
    SE T (.Call (.Attribute a "join" apos) [b] [] pos) (gJoin ga lb) := by
  intro X G σ H ρ d env hd Q q
  unfold gJoin at hd
  cases e1 : ga ρ with
  | none => rw [e1] at hd; cases hd
  | some x =>
  rw [e1] at hd
  cases e2 : lb ρ with
  | none => rw [e2] at hd; cases hd
  | some ds =>
  rw [e2] at hd
  cases x <;> try (cases hd; done)
  rename_i z
  have hd : ((dStrs ds).bind fun ys => if (ys.map (·.length)).sum + ys.length * z.length ≤ 1000000 then some (.str (Txt.join z ys)) else none) = some d := hd
  cases e3 : dStrs ds with
  | none => rw [e3] at hd; cases hd
  | some ys =>
  rw [e3] at hd
  have hd : (if (ys.map (·.length)).sum + ys.length * z.length ≤ 1000000 then some (D.str (Txt.join z ys)) else none) = some d := hd
  split at hd
  · rename_i hz
    cases hd
    refine ⟨_, pe_join pe_w pe_w (hs X.env) (hbase X.env) hline, ?_⟩
    refine ha X G σ H ρ _ env e1 _ fun v H1 s1 d1 => ?_
    cases d1
    refine ⟨⟨_, rfl⟩, ?_⟩
    refine hb X G σ H1 ρ ds (env.mono s1) e2 _ fun p xs H2 s2 h1 h2 => ?_
    rw [dStrs_some e3] at h2
    have e4 := h2.of_strs
    subst e4
    exact ⟨z, p, ys, rfl, rfl, .inl (SqL.of h1), Nat.le_trans hz (by decide), q _ H2 (s1.trans s2) (.str _)⟩
  · cases hd
theorem sz1 {n : Nat} (h : n ≤ 1000000) : n + 2 ≤ PySem.sizeLine := Nat.le_trans (Nat.add_le_add_right h 2) (by decide)
def splitD (d e : D) : Option (List D) := match d, e with
  | .str a, .str b => if (b.length == 0) = false ∧ a.length ≤ 1000000 then some ((Txt.split a b).map .str) else none
  | _, _ => none
def gSplit (ga gb : En → Option D) : En → Option (List D) := fun ρ => (ga ρ).bind fun x => (gb ρ).bind fun y => splitD x y
theorem sl_split {apos : Pos} (ha : SE T a ga) (hb : SE T b gb) (hs : ∀ env, starEach [b] env = [(false, eval b env)] := by intro _; rfl) (hbase : ∀ env, attributeBase a "split" env (eval a env) = eval a env := by intro _; rfl) (hline : (apos.endLine == pos.line) = true := by rfl) :
    SL T (.Call (.Attribute a "split" apos) [b] [] pos) (gSplit ga gb) := by
  intro X G σ H ρ ds env hd Q q
  unfold gSplit at hd
  cases e1 : ga ρ with
  | none => rw [e1] at hd; cases hd
  | some x =>
  rw [e1] at hd
  cases e2 : gb ρ with
  | none => rw [e2] at hd; cases hd
  | some y =>
  rw [e2] at hd
  have hd : splitD x y = some ds := hd
  unfold splitD at hd
  split at hd
  · rename_i u v _
    split at hd
    · rename_i hz
      cases hd
      refine ⟨_, pe_split pe_w pe_w (hs X.env) (hbase X.env) hline, ?_⟩
      refine ha X G σ H ρ _ env e1 _ fun v1 H1 s1 d1 => ?_
      cases d1
      refine ⟨⟨_, rfl⟩, ?_⟩
      refine hb X G σ H1 ρ _ (env.mono s1) e2 _ fun v2 H2 s2 d2 => ?_
      cases d2
      refine ⟨u, v, rfl, rfl, hz.1, sz1 hz.2, fun p hp => ?_⟩
      have s3 := same_upd (o := .lst ((Txt.split u v).map V.str)) hp
      exact q _ _ _ ((s1.trans s2).free hp) ((s1.trans s2).trans s3) upd_same (DqA.strs _)
    · cases hd
  · cases hd
def partD (d e : D) : Option D := match d, e with
  | .str a, .str b => if (b.length == 0) = false ∧ a.length ≤ 1000000 then some (.tup [.str (Txt.partition a b).1, .str (Txt.partition a b).2.1, .str (Txt.partition a b).2.2]) else none
  | _, _ => none
theorem se_partition {apos : Pos} (ha : SE T a ga) (hb : SE T b gb) (hs : ∀ env, starEach [b] env = [(false, eval b env)] := by intro _; rfl) (hbase : ∀ env, attributeBase a "partition" env (eval a env) = eval a env := by intro _; rfl) (hline : (apos.endLine == pos.line) = true := by rfl) :
    SE T (.Call (.Attribute a "partition" apos) [b] [] pos) (g2 partD ga gb) := by
  intro X G σ H ρ d env hd Q q
  obtain ⟨x, y, e1, e2, hd⟩ := g2_some hd
  unfold partD at hd
  split at hd
  · rename_i u v
    split at hd
    · rename_i hz
      cases hd
      refine ⟨_, pe_partition pe_w pe_w (hs X.env) (hbase X.env) hline, ?_⟩
      refine ha X G σ H ρ _ env e1 _ fun v1 H1 s1 d1 => ?_
      cases d1
      refine ⟨⟨_, rfl⟩, ?_⟩
      refine hb X G σ H1 ρ _ (env.mono s1) e2 _ fun v2 H2 s2 d2 => ?_
      cases d2
      refine ⟨u, v, rfl, rfl, hz.1, Nat.le_trans (Nat.le_add_right _ 2) (sz1 hz.2), fun p hp => ?_⟩
      have s3 := same_upd (o := .tup [.str (Txt.partition u v).1, .str (Txt.partition u v).2.1, .str (Txt.partition u v).2.2]) hp
      exact q _ _ ((s1.trans s2).trans s3) (.tup (SqT.of upd_same) (.cons (.str _) (.cons (.str _) (.cons (.str _) .nil))))
    · cases hd
  · cases hd
def findD (d e : D) : Option D := match d, e with
  | .str a, .str b => some (.int (Txt.find a b))
  | _, _ => none
theorem se_find {apos : Pos} (ha : SE T a ga) (hb : SE T b gb) (hs : ∀ env, starEach [b] env = [(false, eval b env)] := by intro _; rfl) (hbase : ∀ env, attributeBase a "find" env (eval a env) = eval a env := by intro _; rfl) (hline : (apos.endLine == pos.line) = true := by rfl) :
    SE T (.Call (.Attribute a "find" apos) [b] [] pos) (g2 findD ga gb) := by
  intro X G σ H ρ d env hd Q q
  obtain ⟨x, y, e1, e2, hd⟩ := g2_some hd
  unfold findD at hd
  split at hd
  · rename_i u v
    cases hd
    refine ⟨_, pe_m1 PySem.F.slot_str_find PySem.F.type_str_find mt_find pe_w pe_w (hs X.env) (hbase X.env) hline, ?_⟩
    refine ha X G σ H ρ _ env e1 _ fun v1 H1 s1 d1 => ?_
    cases d1
    refine ⟨⟨_, rfl⟩, ?_⟩
    refine hb X G σ H1 ρ _ (env.mono s1) e2 _ fun v2 H2 s2 d2 => ?_
    cases d2
    exact ⟨u, v, rfl, rfl, q _ H2 (s1.trans s2) (.int _)⟩
  · cases hd
/-! ### texts alike -/
def eqSD : D → D → Option D
  | .str x, .str y => some (.bl (decide (x = y)))
  | _, _ => none
def neSD : D → D → Option D
  | .str x, .str y => some (.bl (!decide (x = y)))
  | _, _ => none
theorem vstr_eq (x y : Str) : decide (V.str x = V.str y) = decide (x = y) := by
  by_cases h : x = y
  · simp [h]
  · have : ¬ V.str x = V.str y := fun z => h (by cases z; rfl)
    simp [h, this]
theorem od_eqS : OpD T (compareOp .Eq) eqSD := by
  intro X G H x y d e z dx dy h Q q
  cases d <;> cases e <;> try (cases h; done)
  cases h; cases dx; cases dy
  refine ⟨_, op_eq, rfl, ?_⟩
  rw [vstr_eq]
  exact q _ H (Same.refl H) (.bl _)
theorem od_neS : OpD T (compareOp .NotEq) neSD := by
  intro X G H x y d e z dx dy h Q q
  cases d <;> cases e <;> try (cases h; done)
  cases h; cases dx; cases dy
  refine ⟨_, op_ne, rfl, ?_⟩
  rw [vstr_eq]
  exact q _ H (Same.refl H) (.bl _)
/-! ### range(i, j, -1) -/
def dnD (lo : Int) (n : Nat) : List D := (List.range n).map fun i => D.int (lo - (i : Nat))
theorem dnD_len (lo : Int) (n : Nat) : (dnD lo n).length = n := by simp [dnD]
theorem dnD_get (lo : Int) {n i : Nat} (h : i < n) : (dnD lo n)[i]? = some (.int (lo - (i : Nat))) := by
  unfold dnD
  rw [List.getElem?_map, List.getElem?_range h]
  rfl
theorem dnD_some {lo : Int} {n i : Nat} {d : D} (h : (dnD lo n)[i]? = some d) : i < n ∧ d = .int (lo - (i : Nat)) := by
  have hi : i < n := by
    have := (List.getElem?_eq_some_iff.mp h).1
    rwa [dnD_len] at this
  rw [dnD_get lo hi] at h
  cases h
  exact ⟨hi, rfl⟩
def gRD (g : En → Option (List D)) : En → Option (List D) := fun ρ => (g ρ).bind fun ds => match ds with
  | [.int i, .int j, .int c] => if c = -1 ∧ -(2 ^ 62) ≤ i ∧ i < 2 ^ 62 ∧ -(2 ^ 62) ≤ j ∧ j < 2 ^ 62 then some (dnD i (i - j).toNat) else none
  | _ => none
theorem gRD_by {la : En → Option (List D)} {ρ : En} {i j : Int} (h : la ρ = some [.int i, .int j, .int (-1)]) (c : -(2 ^ 62) ≤ i ∧ i < 2 ^ 62 ∧ -(2 ^ 62) ≤ j ∧ j < 2 ^ 62) : gRD la ρ = some (dnD i (i - j).toNat) := by
  unfold gRD
  rw [h]
  exact if_pos ⟨rfl, c⟩
theorem rng_dn {T : Ct} {H H1 : Hp} {ρ : En} {lo : Int} {n : Nat} {R : It → Hp → Prop} (s1 : Same H H1) (hn : ∃ z, H1 z = none)
    (r : ∀ (J : It) (H' : Hp) (a : Addr) (Gp : Hp → Prop) (Y : Nat → Hp → V → Hp → Prop), Same H H' → Walk J (dnD lo n).length Gp Y → (∀ H1, (∀ o, H' a = some o → H1 a = some o) → Gp H1) → ((∀ xs, H' a ≠ some (.lst xs)) ∨ H a = none ∨ noOw ρ = true) →
      (∀ i Ha x Hb, i < (dnD lo n).length → Gp Ha → (Same H' Ha ∨ (lfA (dnD lo n) = true ∧ Kp H' Ha)) → Y i Ha x Hb → Same Ha Hb ∧ ∃ d, (dnD lo n)[i]? = some d ∧ Dq T.K Hb x d) → R J H') : R (Itc lo (-1) n) H1 := by
  obtain ⟨z, hz⟩ := hn
  have wk := walk_rangeC (lo := lo) (c := -1) (n := n)
  have e0 : (dnD lo n).length = n := dnD_len lo n
  refine r (Itc lo (-1) n) H1 z _ _ s1 (by rw [e0]; exact wk) (fun _ _ => trivial) (.inl fun xs q => by rw [hz] at q; cases q) fun i Ha x Hb hi _ _ y => ?_
  obtain ⟨e, hx⟩ := y
  subst e hx
  rw [e0] at hi
  refine ⟨Same.refl _, _, dnD_get lo hi, ?_⟩
  have e : lo + (i : Nat) * (-1 : Int) = lo - (i : Nat) := by omega
  show Dq T.K _ (.int (lo + (i : Nat) * (-1 : Int))) _
  rw [e]
  exact .int _
theorem si_rngD {p : Pos} {g : En → Option (List D)} (hm : T.mg "range" = none) (ha : SA T [a, b, c] g) (hg : T.sc.names.lookup ("range" : Str) = some .globalImplicit) (he : ∀ env, starEach [a, b, c] env = (false, eval a env) :: starEach [b, c] env := by intro _; rfl) (he2 : ∀ env, (backTo pos (starEach [b, c] env)).any (·.1) = false := by intro _; rfl) : SI T tg (.Call (.Name "range" p) [a, b, c] [] pos) (gRD g) := by
  intro X G σ H ρ ds env hd R r
  refine ⟨_, pi_none (pi_range3 (by show X.env.scope.names.lookup _ = _; rw [G.hs]; exact hg) (by rw [G.hm]; exact hm) pa_w (he X.env) (he2 X.env)), ?_⟩
  unfold gRD at hd
  cases e1 : g ρ with
  | none => rw [e1] at hd; cases hd
  | some es =>
  rw [e1] at hd
  refine ha X G σ H ρ es env e1 _ fun vs H1 s1 d1 => ?_
  simp only [Option.bind_some] at hd
  split at hd
  · split at hd
    · rename_i hb
      cases hd
      obtain ⟨rfl, hb⟩ := hb
      cases d1 with
      | cons d2 d1 =>
      obtain ⟨v, u, rfl, d3, d4⟩ := dqa2 d1
      cases d2; cases d3; cases d4
      exact ⟨_, _, _, _, rfl, RgC.neg hb.1 hb.2.1 hb.2.2.1 hb.2.2.2, fun hn => rng_dn s1 hn r⟩
    · cases hd
  · cases hd
/-! ### refusals -/
/-- f(..), f may refuse -/
def xExpr (fn : List D → Option Rs) (g : En → Option (List D)) : Po → Px → En → Prop := fun P px ρ => ∃ ds r, g ρ = some ds ∧ fn ds = some r ∧ (∀ d, r = .ok d → P.nx ρ) ∧ (∀ x, r = .no x → px x ρ)
theorem sr_expr {x : Str} {fn : List D → Option Rs} {e : Expr} {es : List Expr} {g : En → Option (List D)} {p pos2 : Pos} {k : Nat} (C : FnX T.P T.w T.K T.mg T.base k x fn) (h : SA T (e :: es) g) (hg : T.sc.names.lookup x = some .globalImplicit) (hk : k ≤ T.lv := by first | exact Nat.le_of_ble_eq_true rfl | exact Nat.le_refl _ | assumption)
    (hdb : (x == ("__debug__" : Str)) = false := by decide) (he : ∀ env, starEach (e :: es) env = (false, eval e env) :: starEach es env := by intro _; rfl) (hpl : ∀ env, (backTo pos (starEach es env)).any (·.1) = false := by intro _; rfl) (hmd : T.md = none := by rfl)
    (hs : ∀ env, swapsWith (.Call (.Name x p) (e :: es) [] pos) none pos2.line env = pure false := by intro _; rfl) : SSr T (.Expr (.Call (.Name x p) (e :: es) [] pos) pos2) (xExpr fn g) := by
  intro X G Wx tk σ H ρ P px E env w c cx
  obtain ⟨ds, r, h1, h2, h3, h4⟩ := w
  refine ⟨_, ps_expr pe_w (hs X.env), ?_⟩
  refine callX C h hg hk hdb he hpl hmd G.1 tk (P := P) (E := E) env h1 h2 (fun d e v H1 s1 d1 => ?_) h4 cx
  exact c.nx _ H1 _ (env.mono s1) (evo_same s1) (h3 d e)
/-- x[i] = f(..), f may refuse -/
def xIx (i : Nat) (fn : List D → Option Rs) (gi : En → Option D) (g : En → Option (List D)) : Po → Px → En → Prop := fun P px ρ => ∃ as r, g ρ = some as ∧ fn as = some r ∧
  (∀ d, r = .ok d → ∃ ds k j, ρ[i]? = some (.ow ds) ∧ gi ρ = some (.int k) ∧ ixN ds.length k = some j ∧ lf d = true ∧ lfA ds = true ∧ othLf ρ i = true ∧ P.nx (ρ.set i (.ow (ds.set j d)))) ∧ (∀ x, r = .no x → px x ρ)
theorem sr_ix (i : Nat) {y : Str} {py ps : Pos} {x : Str} {fn : List D → Option Rs} {e : Expr} {es : List Expr} {g : En → Option (List D)} {gi : En → Option D} {p pos2 : Pos} {k : Nat} (C : FnX T.P T.w T.K T.mg T.base k x fn) (hi : SE T b gi) (h : SA T (e :: es) g) (hg : T.sc.names.lookup x = some .globalImplicit) (hN : T.N[i]? = some y) (hv : visB T.sc y = true) (hk : k ≤ T.lv := by first | exact Nat.le_of_ble_eq_true rfl | exact Nat.le_refl _ | assumption)
    (hdb : (x == ("__debug__" : Str)) = false := by decide) (he : ∀ env, starEach (e :: es) env = (false, eval e env) :: starEach es env := by intro _; rfl) (hpl : ∀ env, (backTo pos (starEach es env)).any (·.1) = false := by intro _; rfl) (hmd : T.md = none := by rfl)
    (ha : ∀ env v, assign (.Subscript (.Name y py) b ps) env v = (do
      let ov ← holding [v] (eval (.Name y py) env)
      let iv ← holding [v, ov] (eval b env)
      standAt ps
      holding [v, ov, iv] (setItem ov iv v)
      release [v, ov, iv] []) := by intro _ _; rfl)
    (hs : ∀ env, swapsWithSole [.Subscript (.Name y py) b ps] (.Call (.Name x p) (e :: es) [] pos) pos2.line env = pure false := by intro _; rfl) (hw : ∀ env, swappedStores [.Subscript (.Name y py) b ps] (.Call (.Name x p) (e :: es) [] pos) env = pure none := by intro _; rfl) (h1 : ∀ env, (assignEach [.Subscript (.Name y py) b ps] env).map (·.2) = [assign (.Subscript (.Name y py) b ps) env] := by intro _; rfl)
    (hd : (y == ("__debug__" : Str)) = false := by decide) (hcd : (y == ("__classdict__" : Str)) = false := by decide) : SSr T (.Assign [.Subscript (.Name y py) b ps] (.Call (.Name x p) (e :: es) [] pos) pos2) (xIx i fn gi g) := by
  intro X G Wx tk σ H ρ P px E env w c cx
  obtain ⟨as, r, w1, w2, w3, w4⟩ := w
  refine ⟨_, ps_asg pe_w (pg_sub (pe_var (i := i) (by rw [G.1.hN]; exact hN) (by rw [G.1.hs]; exact vis_of hv) hd hcd) pe_w set_list (ha X.env)) (hs X.env) (hw X.env) (h1 X.env), ?_⟩
  refine callX C h hg hk hdb he hpl hmd G.1 tk (P := P) (E := E) env w1 w2 (fun d e v H1 s1 d1 => ?_) w4 cx
  obtain ⟨ds, k, j, hr, q1, q2, l1, l2, l3, h⟩ := w3 d e
  obtain ⟨p, xs, e1, e2, e3⟩ := env.owned hr
  refine ⟨.ref p, e1, ?_⟩
  refine hi X G.1 σ H1 ρ _ (env.mono s1) q1 _ fun u H2 s2 d2 => ?_
  cases d2
  have hp2 := s2 _ _ (s1 _ _ e2)
  have e3 := (e3.mono s1).mono s2
  refine ⟨p, xs, k, j, rfl, rfl, hp2, by rw [e3.length]; exact q2, ?_⟩
  have kp := kp_upd (o := .lst (xs.set j v)) hp2
  exact c.nx σ _ _ (env_ch (env.mono (s1.trans s2)) hr e1 hp2 l3 ((e3.kp kp _ _ l2).set j ((d1.mono s2).kp kp _ _ l1))) ((evo_same (s1.trans s2)).trans (evo_ch hr e1 hp2)) h
def xFor (gi : En → Option (List D)) (set : D → En → Option En) (U : Po → Px → En → Prop) : Po → Px → En → Prop := fun P px ρ => ∃ ds, gi ρ = some ds ∧ (noOw ρ || lfA ds) = true ∧ ∃ Iv : Nat → En → Prop, Iv 0 ρ ∧
  (∀ i d ρ1, ds[i]? = some d → Iv i ρ1 → ∃ ρ2, set d ρ1 = some ρ2 ∧ U { nx := Iv (i + 1), rt := P.rt, bk := P.nx, ct := Iv (i + 1) } px ρ2) ∧ ∀ ρ1, Iv ds.length ρ1 → P.nx ρ1
theorem sr_for {is : List Nat} {set : D → En → Option En} {gi : En → Option (List D)} {u : List Stmt} {U : Po → Px → En → Prop} (hi : SI T tg iter gi) (hg : SG T tg is set) (hu : SBr T u U) (hs : ∀ env x, foldedSetIterable iter env x = pure x := by intro _ _; rfl) (hmd : T.md = none := by rfl) : SSr T (.For tg iter u [] pos) (xFor gi set U) := by
  intro X G Wx tk σ H ρ P px E env h k kx
  obtain ⟨ds, h1, hlf, Iv, i0, turn, fin⟩ := h
  refine ⟨_, ps_for G.2.1 (G.1.calm hmd) pi_w pg_w pss_w (hs X.env), ?_⟩
  refine hi X G.1 σ H ρ ds env h1 _ fun J H1 ad Gp Y s1 wk stab nl item => ?_
  have stay : ∀ {ρ1 : En} {σ1 : L2.St} {H2 : Hp}, Evo ρ σ H1 ρ1 σ1 H2 → Gp H2 ∧ (Same H1 H2 ∨ (lfA ds = true ∧ Kp H1 H2)) := fun {ρ1 σ1 H2} ev => by
    refine ⟨stab H2 fun o ho => ?_, ?_⟩
    · rcases nl with nl | nl | nl
      · exact ev.kp ad o ho fun xs z => nl xs (by rw [ho, z])
      · refine ev.keep ad o ho ?_
        rintro ⟨i, es, e1, e2⟩
        obtain ⟨p, xs, e3, e4, _⟩ := env.at_ i _ _ e1 e2
        cases e3
        rw [nl] at e4
        cases e4
      · exact ev.same nl ad o ho
    · rcases Bool.or_eq_true_iff.mp hlf with z | z
      · exact .inl (ev.same z)
      · exact .inr ⟨z, ev.kp⟩
  refine for_it wk (fun i σ1 H2 => ∃ ρ1, Env T.K H2 σ1 ρ1 ∧ Evo ρ σ H1 ρ1 σ1 H2 ∧ Iv i ρ1) ⟨ρ, env.mono s1, Evo.refl _ _ _, i0⟩ (fun i σ1 H2 _ ⟨ρ1, _, ev, _⟩ => (stay ev).1) (fun i x σ1 Ha Hb hlt p y => ?_) fun σ1 H2 ⟨ρ1, e1, ev, iv⟩ => ?_
  · obtain ⟨ρ1, e1, ev, iv⟩ := p
    obtain ⟨gp, kp⟩ := stay ev
    obtain ⟨sab, d, hd, hx⟩ := item i Ha x Hb hlt gp kp y
    obtain ⟨ρ2, es, hU⟩ := turn i d ρ1 hd iv
    have ev2 := ev.trans (evo_same (ρ := ρ1) (σ := σ1) sab)
    refine hg X G.1 σ1 Hb ρ1 x d ρ2 (e1.mono sab) hx es _ fun σ2 env2 _ q1 q2 => ?_
    have ev3 := ev2.trans (evo_any (H := Hb) q1 q2)
    exact hu X G Wx tk σ2 Hb ρ2 _ px _ env2 hU ⟨fun σ' H' ρ' h1 h2 h3 => ⟨ρ', h1, ev3.trans h2, h3⟩, fun v σ' H' ρ' d' h1 h2 h3 => k.rt v σ' H' ρ' d' ((evo_same s1).trans (ev3.trans h1)) h2 h3, fun σ' H' ρ' h1 h2 h3 => k.nx σ' H' ρ' h1 ((evo_same s1).trans (ev3.trans h2)) h3, fun σ' H' ρ' h1 h2 h3 => ⟨ρ', h1, ev3.trans h2, h3⟩⟩ (kx.on ((evo_same s1).trans ev3))
  · exact k.nx σ1 H2 ρ1 e1 ((evo_same s1).trans ev) (fin ρ1 iv)
/-! ### how they are reckoned with -/
variable (P : Po) (px : Px) (ρ : En) (i : Nat)
@[simp] theorem gJoin_ap : gJoin ga lb ρ = (ga ρ).bind fun d => (lb ρ).bind fun ds => joinD d ds := rfl
@[simp] theorem gSplit_ap : gSplit ga gb ρ = (ga ρ).bind fun d => (gb ρ).bind fun ds => splitD d ds := rfl
@[simp] theorem joinD_strs (a : Str) (ys : List Str) : joinD (.str a) (ys.map .str) = if (ys.map (·.length)).sum + ys.length * a.length ≤ 1000000 then some (.str (Txt.join a ys)) else none := by simp only [joinD, dStrs_map, Option.bind_some]
@[simp] theorem findD_str (a b : Str) : findD (.str a) (.str b) = some (.int (Txt.find a b)) := rfl
@[simp] theorem partD_str (a b : Str) : partD (.str a) (.str b) = if (b.length == 0) = false ∧ a.length ≤ 1000000 then some (.tup [.str (Txt.partition a b).1, .str (Txt.partition a b).2.1, .str (Txt.partition a b).2.2]) else none := rfl
@[simp] theorem splitD_str (a b : Str) : splitD (.str a) (.str b) = if (b.length == 0) = false ∧ a.length ≤ 1000000 then some ((Txt.split a b).map .str) else none := rfl
@[simp] theorem xExpr_ap (fn : List D → Option Rs) (g : En → Option (List D)) : xExpr fn g P px ρ = ∃ ds r, g ρ = some ds ∧ fn ds = some r ∧ (∀ d, r = .ok d → P.nx ρ) ∧ (∀ x, r = .no x → px x ρ) := rfl
@[simp] theorem xIx_ap (fn : List D → Option Rs) (gi : En → Option D) (g : En → Option (List D)) : xIx i fn gi g P px ρ = ∃ as r, g ρ = some as ∧ fn as = some r ∧
  (∀ d, r = .ok d → ∃ ds k j, ρ[i]? = some (.ow ds) ∧ gi ρ = some (.int k) ∧ ixN ds.length k = some j ∧ lf d = true ∧ lfA ds = true ∧ othLf ρ i = true ∧ P.nx (ρ.set i (.ow (ds.set j d)))) ∧ (∀ x, r = .no x → px x ρ) := rfl
theorem xFor_by {gi : En → Option (List D)} {set : D → En → Option En} {U : Po → Px → En → Prop} {P : Po} {px : Px} {ρ : En} (ds : List D) (h1 : gi ρ = some ds) (h2 : (noOw ρ || lfA ds) = true) (Iv : Nat → En → Prop) (h3 : Iv 0 ρ)
    (h4 : ∀ i d ρ1, ds[i]? = some d → Iv i ρ1 → ∃ ρ2, set d ρ1 = some ρ2 ∧ U { nx := Iv (i + 1), rt := P.rt, bk := P.nx, ct := Iv (i + 1) } px ρ2) (h5 : ∀ ρ1, Iv ds.length ρ1 → P.nx ρ1) : xFor gi set U P px ρ := ⟨ds, h1, h2, Iv, h3, h4, h5⟩
@[simp] theorem eqSD_str (x y : Str) : eqSD (.str x) (.str y) = some (.bl (decide (x = y))) := rfl
@[simp] theorem neSD_str (x y : Str) : neSD (.str x) (.str y) = some (.bl (!decide (x = y))) := rfl
end
end Pf

set_option Elab.async false
set_option linter.all false
set_option maxRecDepth 100000
set_option maxHeartbeats 2000000
/-! Pm13: the texts of sums. -/
namespace Pf
open PySem PySem.Spec L2 TL
section
variable {s : Int}
def numS (n : Int) : Str := (toString n : String)
theorem numS_len {n : Int} (h0 : 0 ≤ n) (h1 : n < 10) : (numS n).length = 1 := by
  obtain ⟨m, rfl⟩ : ∃ m : Nat, n = (m : Int) := ⟨n.toNat, by omega⟩
  rw [len_tl]
  show (tl (Str.ofString (toString ((m : Nat) : Int)))).length = 1
  rw [tl_num, numL_lt (by omega)]
  rfl
theorem log_ok {i : Int} (h0 : 0 ≤ i) (h1 : i < 10) : i.natAbs.log2 < 1920 := by
  have h1 : i.natAbs < 2 ^ 1920 := Nat.lt_of_le_of_lt (show i.natAbs ≤ 1000 by omega) (by decide)
  by_cases h0 : i.natAbs = 0
  · rw [h0]; decide
  · exact (Nat.log2_lt h0).mpr h1
theorem strD_num {i : Int} (h0 : 0 ≤ i) (h1 : i < 10) : strD [.int i] = some (.str (numS i)) := by
  rw [strD_int, if_pos (log_ok h0 h1)]
  rfl
def pieceM (n k : Int) : Str := if k = 0 then numS n else if k = 1 then (if n = 1 then ("x" : Str) else numS n ++ ("x" : Str)) else (if n = 1 then ("x" : Str) else numS n ++ ("x" : Str)) ++ numS k
theorem app_len (x y : Str) : (x ++ y).length = x.length + y.length := by rw [len_tl, tl_append, List.length_append, ← len_tl, ← len_tl]
theorem x_len : ("x" : Str).length = 1 := rfl
theorem piece_len {n k : Int} (n0 : 0 ≤ n) (n1 : n < 10) (k0 : 0 ≤ k) (k1 : k < 10) : (pieceM n k).length ≤ 3 := by
  have h1 := numS_len n0 n1
  have h2 := numS_len k0 k1
  have h3 := x_len
  unfold pieceM
  split
  · omega
  · split
    · split
      · omega
      · rw [app_len]; omega
    · rw [app_len]
      split
      · omega
      · rw [app_len]; omega
def piecesM : Nat → List Int → List Str
  | _, [] => []
  | k, n :: r => if n = 0 then piecesM (k + 1) r else pieceM n (k : Nat) :: piecesM (k + 1) r
theorem pieces_nil (k : Nat) : piecesM k [] = [] := rfl
theorem pieces_cons (k : Nat) (n : Int) (r : List Int) : piecesM k (n :: r) = if n = 0 then piecesM (k + 1) r else pieceM n (k : Nat) :: piecesM (k + 1) r := rfl
theorem pieces_len : ∀ (k : Nat) (a : List Int), (piecesM k a).length ≤ a.length
  | k, [] => Nat.le_refl _
  | k, n :: r => by
    have := pieces_len (k + 1) r
    rw [pieces_cons]
    split
    · simp; omega
    · simp; omega
def okTx (a : List Int) : Prop := (∀ i ∈ a, 0 ≤ i) ∧ (∀ i ∈ a, i < 10) ∧ a.length ≤ 10
instance (a : List Int) : Decidable (okTx a) := by unfold okTx; infer_instance
theorem pieces_mem : ∀ {k : Nat} {a : List Int}, (∀ i ∈ a, 0 ≤ i) → (∀ i ∈ a, i < 10) → k + a.length ≤ 10 → ∀ p ∈ piecesM k a, p.length ≤ 3
  | k, [], _, _, _, p, h => nomatch h
  | k, n :: r, h1, h2, h3, p, h => by
    rw [pieces_cons] at h
    rw [List.length_cons] at h3
    have ih := pieces_mem (k := k + 1) (a := r) (fun i hi => h1 i (List.mem_cons_of_mem _ hi)) (fun i hi => h2 i (List.mem_cons_of_mem _ hi)) (by omega) p
    split at h
    · exact ih h
    · rcases List.mem_cons.mp h with z | z
      · rw [z]
        exact piece_len (h1 n (by simp)) (h2 n (by simp)) (by omega) (by omega)
      · exact ih z
def textM (a : List Int) : Str := if piecesM 0 a = [] then "0" else Txt.join " + " (piecesM 0 a).reverse
def f_piece : List D → Option D := kII fun n k => if 0 ≤ n ∧ n < 10 ∧ 0 ≤ k ∧ k < 10 then some (.str (pieceM n k)) else none
def f_sum_text : List D → Option D := kT fun a => if okTx a then some (.str (textM a)) else none
def f_law_written : List D → Option D := kT fun a => if okTx a then some (.str (textM a)) else none
theorem f_piece_ok {n k : Int} (n0 : 0 ≤ n) (n1 : n < 10) (k0 : 0 ≤ k) (k1 : k < 10) : f_piece [.int n, .int k] = some (.str (pieceM n k)) := by
  simp only [f_piece, kII_mk, if_pos (show 0 ≤ n ∧ n < 10 ∧ 0 ≤ k ∧ k < 10 from ⟨n0, n1, k0, k1⟩)]
theorem f_text_ok {a : List Int} (h : okTx a) : f_sum_text [tI a] = some (.str (textM a)) := by simp only [f_sum_text, kT_mk, if_pos h]
theorem f_lwr_ok {a : List Int} (h : okTx a) : f_law_written [tI a] = some (.str (textM a)) := by simp only [f_law_written, kT_mk, if_pos h]
/-- the comprehension -/
theorem lcG_pieces {gt : En → Option Bool} {ge : En → Option D} {ρ : En} {i j : Nat} : ∀ (k : Nat) (a : List Int), (∀ (n : Int) (m : Nat), n ∈ a → k ≤ m → m < k + a.length → gt ((ρ.set i (.im (.int (m : Nat)))).set j (.im (.int n))) = some (!decide (n = 0)) ∧ ge ((ρ.set i (.im (.int (m : Nat)))).set j (.im (.int n))) = some (.str (pieceM n (m : Nat)))) →
    lcG (set2 i j) gt ge ρ (enD k (a.map .int)) = some ((piecesM k a).map .str)
  | k, [], _ => rfl
  | k, n :: r, h => by
    have ih := lcG_pieces (gt := gt) (ge := ge) (ρ := ρ) (i := i) (j := j) (k + 1) r fun n' m hn h1 h2 => h n' m (List.mem_cons_of_mem _ hn) (by omega) (by rw [List.length_cons]; omega)
    obtain ⟨h1, h2⟩ := h n k (by simp) (Nat.le_refl _) (by rw [List.length_cons]; omega)
    show lcG (set2 i j) gt ge ρ (.tup [.int (k : Nat), .int n] :: enD (k + 1) (r.map .int)) = _
    rw [pieces_cons]
    unfold lcG
    simp only [set2_ap, Option.bind_some, h1]
    by_cases hn : n = 0
    · simp [hn, ih]
    · simp [hn, ih, h2]
/-! joined -/
def accM (ps : List Str) : Str := ps.foldl (fun acc p => acc ++ (" + " : Str) ++ p) ("" : Str)
theorem acc_snoc (ps : List Str) (p : Str) : accM (ps ++ [p]) = accM ps ++ (" + " : Str) ++ p := by unfold accM; rw [List.foldl_append]; rfl
theorem tl_sep : tl (" + " : Str) = [32, 43, 32] := rfl
theorem tl_acc (ps : List Str) : tl (accM ps) = (ps.map fun p => [32, 43, 32] ++ tl p).flatten := by
  have : ∀ (ps : List Str) (a : Str), tl (ps.foldl (fun acc p => acc ++ (" + " : Str) ++ p) a) = tl a ++ (ps.map fun p => [32, 43, 32] ++ tl p).flatten := fun ps => by
    induction ps with
    | nil => intro a; simp
    | cons p ps ih =>
      intro a
      rw [List.foldl_cons, ih, tl_append, tl_append, tl_sep]
      simp
  have h := this ps ""
  have e : tl ("" : Str) = [] := rfl
  rw [e, List.nil_append] at h
  exact h
theorem join_tl : ∀ ps : List Str, ps ≠ [] → [32, 43, 32] ++ joinL [32, 43, 32] (ps.map tl) = (ps.map fun p => [32, 43, 32] ++ tl p).flatten
  | [], h => absurd rfl h
  | [p], _ => by simp [joinL]
  | p :: q :: r, _ => by
    have ih := join_tl (q :: r) (by simp)
    show [32, 43, 32] ++ (tl p ++ ([32, 43, 32] ++ joinL [32, 43, 32] ((q :: r).map tl))) = _
    rw [ih]
    simp
theorem cut3 (z : Str) : tl (cutS z (some 3) none) = (tl z).drop 3 := by
  have h1 : HT.sIx z.length 0 (some 3) = min 3 z.length := HT.sIx_nat z.length 0 3
  have h2 : HT.sIx z.length z.length none = z.length := rfl
  unfold cutS
  rw [h1, h2]
  show (List.take _ (List.drop _ (tl z))) = _
  have hl := len_tl z
  by_cases h : 3 ≤ z.length
  · rw [Nat.min_eq_left h, List.take_of_length_le (by rw [List.length_drop]; omega)]
  · have q1 : List.drop (min 3 z.length) (tl z) = [] := List.drop_eq_nil_of_le (by omega)
    have q2 : List.drop 3 (tl z) = [] := List.drop_eq_nil_of_le (by omega)
    rw [q1, q2]; exact List.take_nil
theorem acc_nil (ps : List Str) : accM ps = "" ↔ ps = [] := by
  constructor
  · intro h
    cases ps with
    | nil => rfl
    | cons p r =>
      have := congrArg tl h
      rw [tl_acc] at this
      simp at this
      cases this
  · rintro rfl; rfl
theorem acc_cut {ps : List Str} (h : ps ≠ []) : cutS (accM ps) (some 3) none = Txt.join " + " ps := by
  refine ext_tl ?_
  rw [cut3, tl_acc, ← join_tl ps h, join_eq, tl_join, tl_sep]
  rfl
theorem acc_len (ps : List Str) (h : ∀ p ∈ ps, p.length ≤ 3) : (accM ps).length ≤ 6 * ps.length := by
  rw [len_tl, tl_acc]
  induction ps with
  | nil => simp
  | cons p r ih =>
    have := ih fun q hq => h q (List.mem_cons_of_mem _ hq)
    have hp := h p (by simp)
    rw [len_tl] at hp
    simp only [List.map_cons, List.flatten_cons, List.length_append, List.length_cons, List.length_nil]
    omega
theorem join_len {ps : List Str} (h : ∀ p ∈ ps, p.length ≤ 3) : (Txt.join " + " ps).length ≤ 6 * ps.length := by
  by_cases hp : ps = []
  · subst hp; simp [join_eq]; rfl
  · have h1 := acc_len ps h
    have h2 := cutS_length (accM ps) (some 3) none
    rw [acc_cut hp] at h2
    omega
theorem text_len {a : List Int} (h : okTx a) : (textM a).length ≤ 60 := by
  unfold textM
  split
  · exact show 1 ≤ 60 by omega
  · have h1 := join_len (ps := (piecesM 0 a).reverse) fun p hp => pieces_mem h.1 h.2.1 (by have := h.2.2; omega) p (List.mem_reverse.mp hp)
    have h2 := pieces_len 0 a
    have := h.2.2
    rw [List.length_reverse] at h1
    omega
theorem sum3 : ∀ {ps : List Str}, (∀ p ∈ ps, p.length ≤ 3) → (ps.map (·.length)).sum ≤ 3 * ps.length
  | [], _ => by simp
  | p :: r, h => by
    have := sum3 (ps := r) fun q hq => h q (List.mem_cons_of_mem _ hq)
    have := h p (by simp)
    simp only [List.map_cons, List.sum_cons, List.length_cons]
    omega
theorem okTx_can (hs : Sz s) {a : List Int} (c : Can s a) (hl : a.length ≤ 10) : okTx a := by
  have := hs.ge
  exact ⟨c.lo, fun i hi => by have := c.hi i hi; omega, hl⟩
theorem pieces_drop (a : List Int) {k : Nat} (h : k < a.length) : piecesM k (a.drop k) = if cf a k = 0 then piecesM (k + 1) (a.drop (k + 1)) else pieceM (cf a k) (k : Nat) :: piecesM (k + 1) (a.drop (k + 1)) := by
  have : a.drop k = cf a k :: a.drop (k + 1) := by rw [cf_lt h]; exact List.drop_eq_getElem_cons h
  rw [this, pieces_cons]
end
end Pf

set_option Elab.async false
set_option linter.all false
set_option maxRecDepth 100000
set_option maxHeartbeats 2000000
/-! Pm14: sums written. -/
namespace Pf
open PySem PySem.Spec L2 TL
section
variable {s : Int}
theorem pick_str (x : Str) (p : Prop) [Decidable p] : atI [D.str x, .str ""] (if p then 1 else 0) = some (.str (if p then ("" : Str) else x)) := by
  by_cases h : p
  · rw [if_pos h, if_pos h]
    exact atI_get (by decide) rfl
  · rw [if_neg h, if_neg h]
    exact atI_get (by decide) rfl
def numU (n : Int) : Str := if n = 1 then ("" : Str) else numS n
theorem numU_len {n : Int} (h0 : 0 ≤ n) (h1 : n < 10) : (numU n).length ≤ 1 := by
  have h := numS_len h0 h1
  unfold numU
  split
  · exact Nat.zero_le 1
  · omega
theorem piece_law {n k : Int} (hk : k ≠ 0) (A : Str) : A ++ (" + " : Str) ++ numU n ++ ("x" : Str) ++ numU k = A ++ (" + " : Str) ++ pieceM n k := by
  refine ext_tl ?_
  have e : tl ("" : Str) = [] := rfl
  unfold numU pieceM
  rw [if_neg hk]
  by_cases h1 : n = 1 <;> by_cases h2 : k = 1 <;> simp only [h1, h2, if_true, if_false, tl_append, e, List.append_assoc, List.nil_append, List.append_nil]
def tupI : D → List Int
  | .tup ds => (dInts ds).getD []
  | _ => []
@[simp] theorem tupI_tI (a : List Int) : tupI (.tup (a.map .int)) = a := by simp [tupI]
theorem isSum_can (hs : Sz s) {d : D} (h : isSumB d s = true) : ∃ ns, d = tI ns ∧ Can s ns ∧ ns.length ≤ 9 := by
  cases d with
  | tup ds =>
    have h : (decide (ds.length ≤ 9) && ds.all (fun d => isNum d s) && lastNZ ds) = true := h
    simp only [Bool.and_eq_true, decide_eq_true_eq] at h
    obtain ⟨⟨h1, h2⟩, h3⟩ := h
    obtain ⟨ns, rfl⟩ := all_int isNum_int h2
    rw [lastNZ_ints] at h3
    rw [List.length_map] at h1
    rw [List.all_map, List.all_eq_true] at h2
    refine ⟨ns, rfl, ⟨fun i hi => ?_, fun i hi => ?_, h3⟩, h1⟩
    · have := h2 i hi
      simp [isNum] at this
      omega
    · have := h2 i hi
      simp [isNum] at this
      omega
  | _ => simp [isSumB] at h
theorem can_isSum (hs : Sz s) {a : List Int} (c : Can s a) (hl : a.length ≤ 9) : isSumB (tI a) s = true := by
  rw [isSum_long, isLong_can hs c]
  exact decide_eq_true (by rw [List.length_map]; exact hl)
def xf_written : List D → Option Rs := kAI fun d s => if Sz s then some (if isSumB d s = true then .ok (.str (textM (tupI d))) else .no "NoSum") else none
def f_law_refused : List D → Option D := kAI fun d s => if Sz s ∧ isSumB d s = false then some (.bl true) else none
def f_law_refused_by_base : List D → Option D := kAI fun d s => if Sz s ∧ isSumB d s = false then some (.bl true) else none
end
end Pf

set_option Elab.async false
set_option linter.all false
set_option maxRecDepth 100000
set_option maxHeartbeats 2000000
/-! Pm15: texts read. -/
namespace Pf
open PySem PySem.Spec L2 TL
section
variable {s : Int}
@[simp] theorem lfA_strs (ns : List Str) : lfA (ns.map D.str) = true := lfA_of fun d hd => by
  obtain ⟨z, _, rfl⟩ := List.mem_map.mp hd
  rfl
/-! parts of a text -/
theorem spl_sum (S : List Nat) : ∀ (l : List Nat) (k : Nat) (acc : List Nat), ((spl S k acc l).map List.length).sum ≤ acc.length + l.length ∧ (spl S k acc l).length ≤ l.length + 1 ∧ spl S k acc l ≠ []
  | [], k, acc => by rw [spl_nil]; simp
  | c :: r, 0, acc => by
    cases h : pre S (c :: r) with
    | true =>
      rw [spl_hit h]
      have ih := spl_sum S r (S.length - 1) []
      simp only [List.map_cons, List.sum_cons, List.length_cons, List.length_nil] at ih ⊢
      exact ⟨by omega, by omega, by simp⟩
    | false =>
      rw [spl_miss h]
      have ih := spl_sum S r 0 (acc ++ [c])
      simp only [List.length_append, List.length_cons, List.length_nil] at ih ⊢
      exact ⟨by omega, by omega, ih.2.2⟩
  | c :: r, k + 1, acc => by
    have ih := spl_sum S r k acc
    show ((spl S k acc r).map List.length).sum ≤ _ ∧ (spl S k acc r).length ≤ _ ∧ spl S k acc r ≠ []
    simp only [List.length_cons]
    exact ⟨by omega, by omega, ih.2.2⟩
theorem map_len (L : List Str) : (L.map tl).map List.length = L.map (·.length) := by
  rw [List.map_map]
  exact List.map_congr_left fun x _ => (len_tl x).symm
theorem split_sum (x y : Str) (hy : tl y ≠ []) (h : y.cps.all (· < 256) = true) : ((Txt.split x y).map (·.length)).sum ≤ x.length ∧ (Txt.split x y).length ≤ x.length + 1 ∧ Txt.split x y ≠ [] := by
  have e := split_spl x y hy (kind_ok h)
  have k := spl_sum (tl y) (tl x) 0 []
  rw [← e, map_len, List.length_map, ← len_tl] at k
  refine ⟨by simpa using k.1, k.2.1, fun z => k.2.2 (by rw [z]; rfl)⟩
theorem le_sum : ∀ {L : List Nat} {n : Nat}, n ∈ L → n ≤ L.sum
  | a :: L, n, h => by
    rcases List.mem_cons.mp h with z | z
    · rw [z]; simp
    · have := le_sum z
      simp only [List.sum_cons]; omega
theorem split_mem {x y p : Str} (hy : tl y ≠ []) (h : y.cps.all (· < 256) = true) (hp : p ∈ Txt.split x y) : p.length ≤ x.length :=
  Nat.le_trans (le_sum (List.mem_map.mpr ⟨p, hp, rfl⟩)) (split_sum x y hy h).1
theorem par_len (S : List Nat) : ∀ (l acc a b : List Nat), par S acc l = some (a, b) → a.length + b.length ≤ acc.length + l.length
  | [], acc, a, b, h => by cases h
  | c :: r, acc, a, b, h => by
    cases q : pre S (c :: r) with
    | true =>
      rw [par_hit q] at h
      cases h
      rw [List.length_drop]; omega
    | false =>
      rw [par_miss q] at h
      have := par_len S r _ a b h
      simp only [List.length_append, List.length_cons, List.length_nil] at this ⊢
      omega
theorem part_len (x y : Str) (hy : tl y ≠ []) : (Txt.partition x y).1.length ≤ x.length ∧ (Txt.partition x y).2.2.length ≤ x.length := by
  rw [partition_par x y hy]
  split
  · rename_i a b e
    have := par_len _ _ _ _ _ e
    rw [← len_tl] at this
    have ea : (⟨a.toArray⟩ : Str).length = a.length := by rw [len_tl]
    have eb : (⟨b.toArray⟩ : Str).length = b.length := by rw [len_tl]
    show (⟨a.toArray⟩ : Str).length ≤ _ ∧ (⟨b.toArray⟩ : Str).length ≤ _
    rw [ea, eb]
    simp only [List.length_nil] at this
    omega
  · exact ⟨Nat.le_refl _, Nat.zero_le _⟩
/-! a figure -/
def figin (w : Str) : Bool := !(Builtin.Str.occurrences ("0123456789" : Str) w 0 ("0123456789" : Str).length 1).isEmpty
def figV (w : Str) : Int := ((tl w).headD 48 : Nat) - 48
def figM (w : Str) (e : Int) : Option Int := if w = "" then some e else if 1 < w.length ∨ figin w = false then none else some (figV w)
theorem find_fig (w : Str) : decide (Txt.find ("0123456789" : Str) w < 0) = !figin w := by
  unfold figin Txt.find
  cases Builtin.Str.occurrences ("0123456789" : Str) w 0 ("0123456789" : Str).length 1 with
  | nil => rfl
  | cons i r =>
    have : ¬ ((i : Nat) : Int) < 0 := by omega
    simp [this]
theorem fig_ok {w : Str} (h0 : w ≠ "") (h1 : ¬ 1 < w.length) (h2 : figin w = true) : PySem.intText? w = some (figV w) ∧ 0 ≤ figV w ∧ figV w < 10 := by
  have hl := len_tl w
  have : ∃ c, tl w = [c] := by
    cases q : tl w with
    | nil => exact absurd (ext_tl (y := ("" : Str)) q) h0
    | cons c r =>
      rw [q] at hl
      cases r with
      | nil => exact ⟨c, rfl⟩
      | cons d r => simp at hl; omega
  obtain ⟨c, hc⟩ := this
  have ew : w = ⟨#[c]⟩ := ext_tl hc
  have h3 : decide (c ∈ tl ("0123456789" : Str)) = true := by
    rw [← PySem.StrLaws.found_one ("0123456789" : Str) c, ← ew]
    exact h2
  have h4 := of_decide_eq_true h3
  have h5 : 48 ≤ c ∧ c < 58 := by
    have e : tl ("0123456789" : Str) = [48, 49, 50, 51, 52, 53, 54, 55, 56, 57] := rfl
    rw [e] at h4
    simp only [List.mem_cons, List.not_mem_nil, or_false] at h4
    omega
  have ev : figV w = ((c - 48 : Nat) : Int) := by
    unfold figV
    rw [hc]
    show ((c : Nat) : Int) - 48 = _
    omega
  refine ⟨?_, by omega, by omega⟩
  have e2 : w = Str.ofString (toString (((c - 48 : Nat) : Nat) : Int)) := ext_tl (by
    rw [tl_num, numL_lt (by omega), hc]
    congr 1
    omega)
  rw [ev, e2]
  exact int_num (by rw [numL_lt (by omega)]; simp)
theorem fig_some {w : Str} {e v : Int} (h : figM w e = some v) : (w = "" ∧ v = e) ∨ (w ≠ "" ∧ ¬ 1 < w.length ∧ figin w = true ∧ v = figV w) := by
  unfold figM at h
  split at h
  · rename_i q; cases h; exact .inl ⟨q, rfl⟩
  · rename_i q
    split at h
    · cases h
    · rename_i q2
      cases h
      simp only [not_or, Bool.not_eq_false] at q2
      exact .inr ⟨q, q2.1, q2.2, rfl⟩
theorem fig_rng {w : Str} {v : Int} (h : figM w 1 = some v) : 0 ≤ v ∧ v < 10 := by
  rcases fig_some h with ⟨_, z⟩ | ⟨a, b, c, z⟩
  · rw [z]; omega
  · rw [z]; exact (fig_ok a b c).2
/-! a text read -/
def placeM (p : Str) : Option Int := if (Txt.partition p "x").2.1 = "x" then figM (Txt.partition p "x").2.2 1 else some 0
def stepR (L : List Int) (p : Str) : Option (List Int) := (placeM p).bind fun k => (figM (Txt.partition p "x").1 1).map fun n => L.set k.toNat n
theorem place_rng {p : Str} {v : Int} (h : placeM p = some v) : 0 ≤ v ∧ v < 10 := by
  unfold placeM at h
  split at h
  · exact fig_rng h
  · cases h; omega
def foldR : List Str → List Int → Option (List Int)
  | [], L => some L
  | p :: r, L => (stepR L p).bind (foldR r)
def goR (ps : List Str) : Option (List Int) := foldR ps (List.replicate 10 0)
theorem foldR_app (a b : List Str) : ∀ L, foldR (a ++ b) L = (foldR a L).bind (foldR b) := by
  induction a with
  | nil => intro L; rfl
  | cons p a ih =>
    intro L
    rw [List.cons_append, foldR, foldR]
    cases stepR L p with
    | none => rfl
    | some M => exact ih M
theorem go_step {ps : List Str} {i : Nat} {p : Str} (h : ps[i]? = some p) : goR (ps.take (i + 1)) = (goR (ps.take i)).bind fun L => stepR L p := by
  have e : ps.take (i + 1) = ps.take i ++ [p] := by rw [List.take_succ, h]; rfl
  unfold goR
  rw [e, foldR_app]
  congr 1
  funext L
  rw [foldR]
  cases stepR L p <;> rfl
theorem go_none {ps : List Str} {i : Nat} (h : goR (ps.take i) = none) : goR ps = none := by
  have e : ps = ps.take i ++ ps.drop i := (List.take_append_drop i ps).symm
  rw [e]
  unfold goR at h ⊢
  rw [foldR_app, h]
  rfl
def readM (t : Str) (s : Int) : Option (List Int) := (goR (Txt.split t " + ")).bind fun L => if isSumB (tI (trimM L)) s = true ∧ textM (trimM L) = t then some (trimM L) else none
def xf_number_of : List D → Option Rs := kSI fun w e => if w.length ≤ 1000000 then some (match figM w e with | some v => .ok (.int v) | none => .no "NoText") else none
def optI : Option Int → D
  | none => .non
  | some v => .int v
def f_law_figure : List D → Option D := kSI fun w e => if w.length ≤ 1000000 then some (optI (figM w e)) else none
def optT : Option (List Int) → D
  | none => .non
  | some l => tI l
def optR : Option (List Int) → Rs
  | some l => .ok (tI l)
  | none => .no "NoText"
def xf_read : List D → Option Rs := kSI fun t s => if Sz s ∧ t.length ≤ 1000000 then some (optR (readM t s)) else none
def f_law_due : List D → Option D := kSI fun t s => if Sz s ∧ t.length ≤ 1000000 then some (optT (readM t s)) else none
def f_law_found : List D → Option D := kSI fun t s => if Sz s ∧ t.length ≤ 1000000 then some (optT (readM t s)) else none
def okDg (L : List Int) : Prop := L.length = 10 ∧ ∀ i ∈ L, 0 ≤ i ∧ i < 10
theorem rep_ok : okDg (List.replicate 10 0) := ⟨by simp, fun i hi => by rw [List.eq_of_mem_replicate hi]; omega⟩
theorem set_ok {L : List Int} (h : okDg L) (k : Nat) {v : Int} (h0 : 0 ≤ v) (h1 : v < 10) : okDg (L.set k v) := by
  refine ⟨by rw [List.length_set]; exact h.1, fun i hi => ?_⟩
  rcases List.mem_or_eq_of_mem_set hi with z | z
  · exact h.2 i z
  · rw [z]; exact ⟨h0, h1⟩
theorem xnum_ok {w : Str} {e : Int} (h : w.length ≤ 1000000) : xf_number_of [.str w, .int e] = some (match figM w e with | some v => .ok (.int v) | none => .no "NoText") := by
  simp only [xf_number_of, kSI_mk, if_pos h]
theorem fig_f {w : Str} {e : Int} (h : w.length ≤ 1000000) : f_law_figure [.str w, .int e] = some (optI (figM w e)) := by
  simp only [f_law_figure, kSI_mk, if_pos h]
theorem sep1 : tl ("x" : Str) ≠ [] := by intro h; cases h
theorem sep3 : tl (" + " : Str) ≠ [] := by intro h; cases h
theorem sepb : tl (" " : Str) ≠ [] := by intro h; cases h
/-! a text changed -/
def cutW (ws : List Str) (lo hi : Option Int) : List Str := (ws.drop (HT.sIx ws.length 0 lo)).take (HT.sIx ws.length ws.length hi - HT.sIx ws.length 0 lo)
theorem cut_strs (ws : List Str) (lo hi : Option Int) : cutD (ws.map .str) lo hi = (cutW ws lo hi).map .str := by
  unfold cutD cutW
  rw [List.length_map, List.map_take, List.map_drop]
def wsum (ws : List Str) : Nat := (ws.map (·.length)).sum + ws.length
theorem wsum_app (a b : List Str) : wsum (a ++ b) = wsum a + wsum b := by
  unfold wsum
  rw [List.map_append, List.sum_append, List.length_append]; omega
theorem wsum_cut (ws : List Str) (lo hi : Option Int) : wsum (cutW ws lo hi) ≤ wsum ws := by
  have h1 : ∀ (ws : List Str) (n : Nat), wsum (ws.take n) ≤ wsum ws := fun ws n => by
    have := wsum_app (ws.take n) (ws.drop n)
    rw [List.take_append_drop] at this
    omega
  have h2 : ∀ (ws : List Str) (n : Nat), wsum (ws.drop n) ≤ wsum ws := fun ws n => by
    have := wsum_app (ws.take n) (ws.drop n)
    rw [List.take_append_drop] at this
    omega
  exact Nat.le_trans (h1 _ _) (h2 _ _)
theorem tl_sp : tl (" " : Str) = [32] := rfl
theorem joinL_len : ∀ ps : List (List Nat), (joinL [32] ps).length ≤ (ps.map List.length).sum + ps.length
  | [] => by simp [joinL]
  | [p] => by simp [joinL]
  | p :: q :: r => by
    have ih := joinL_len (q :: r)
    show (p ++ ([32] ++ joinL [32] (q :: r))).length ≤ _
    simp only [List.length_append, List.map_cons, List.sum_cons, List.length_cons, List.length_nil] at ih ⊢
    omega
theorem join1_len (ws : List Str) : (Txt.join " " ws).length ≤ wsum ws := by
  have := joinL_len (ws.map tl)
  rw [map_len, List.length_map] at this
  rw [len_tl, join_eq, tl_join, tl_sp]
  exact this
theorem joinD1 (ws : List Str) (h : wsum ws ≤ 1000000) : joinD (.str " ") (ws.map .str) = some (.str (Txt.join " " ws)) := by
  rw [joinD_strs, if_pos (by have : (" " : Str).length = 1 := rfl
                             unfold wsum at h
                             rw [this]; omega)]
theorem wsum_split (t : Str) : wsum (Txt.split t " ") ≤ 2 * t.length + 1 ∧ Txt.split t " " ≠ [] := by
  have h := split_sum t " " sepb (by decide +kernel)
  unfold wsum
  exact ⟨by omega, h.2.2⟩
def signS : Str := " 0123456789xx+-_X\n\t"
def signM (n : Int) : Str := ⟨#[(tl signS).getD (n / 7 % 19).toNat 0]⟩
def wordL : List Str := ["+", "0", "1", "x", "x1", "1x", "x0", "2x2", "x9", "0x", "4", "xx"]
def wordM (n : Int) : Str := wordL.getD (n / 7 % 12).toNat ""
def chM (t : Str) (n : Int) : Str :=
  if n % 8 = 0 then cutS t none (some (n / 8 % ((t.length : Int) + 1))) ++ cutS t (some (n / 8 % ((t.length : Int) + 1) + 1)) none
  else if n % 8 < 3 then cutS t none (some (n / 8 % ((t.length : Int) + 1))) ++ signM n ++ cutS t (some (n / 8 % ((t.length : Int) + 1) + n % 8 - 1)) none
  else if n % 8 = 3 then Txt.join " " (cutW (Txt.split t " ") none (some (n / 8 % ((Txt.split t " ").length : Int))) ++ cutW (Txt.split t " ") (some (n / 8 % ((Txt.split t " ").length : Int) + 1)) none)
  else if n % 8 = 4 then Txt.join " " (cutW (Txt.split t " ") none (some (n / 8 % ((Txt.split t " ").length : Int))) ++ cutW (Txt.split t " ") (some (n / 8 % ((Txt.split t " ").length : Int))) (some (n / 8 % ((Txt.split t " ").length : Int) + 1)) ++ cutW (Txt.split t " ") (some (n / 8 % ((Txt.split t " ").length : Int))) none)
  else if n % 8 = 5 then Txt.join " " (cutW (Txt.split t " ") none (some (n / 8 % ((Txt.split t " ").length : Int))) ++ (cutW (Txt.split t " ") (some (n / 8 % ((Txt.split t " ").length : Int) + 1)) (some (n / 8 % ((Txt.split t " ").length : Int) + 2)) ++ cutW (Txt.split t " ") (some (n / 8 % ((Txt.split t " ").length : Int))) (some (n / 8 % ((Txt.split t " ").length : Int) + 1))) ++ cutW (Txt.split t " ") (some (n / 8 % ((Txt.split t " ").length : Int) + 2)) none)
  else Txt.join " " (cutW (Txt.split t " ") none (some (n / 8 % ((Txt.split t " ").length : Int))) ++ [wordM n] ++ cutW (Txt.split t " ") (some (n / 8 % ((Txt.split t " ").length : Int) + 1)) none)
theorem word_len (n : Int) : (wordM n).length ≤ 3 := by
  unfold wordM
  have h0 := Int.emod_nonneg (n / 7) (show (12 : Int) ≠ 0 by decide)
  have h1 := Int.emod_lt_of_pos (n / 7) (show (0 : Int) < 12 by decide)
  obtain ⟨m, hm⟩ : ∃ m : Nat, m = (n / 7 % 12).toNat := ⟨_, rfl⟩
  have hm2 : m < 12 := by omega
  rw [← hm]
  have : ∀ m, m < 12 → (wordL.getD m "").length ≤ 3 := by decide
  exact this m hm2
theorem ch_len (t : Str) (n : Int) : (chM t n).length ≤ 8 * t.length + 20 := by
  have hw := (wsum_split t).1
  obtain ⟨ws, hws⟩ : ∃ ws, ws = Txt.split t " " := ⟨_, rfl⟩
  unfold chM
  rw [← hws] at hw ⊢
  have c := fun lo hi => wsum_cut ws lo hi
  have cs := fun lo hi => cutS_length t lo hi
  have lsg : (signM n).length = 1 := rfl
  have lw := word_len n
  split
  · rw [app_len]
    have := cs none (some (n / 8 % ((t.length : Int) + 1)))
    have := cs (some (n / 8 % ((t.length : Int) + 1) + 1)) none
    omega
  split
  · rw [app_len, app_len, lsg]
    have := cs none (some (n / 8 % ((t.length : Int) + 1)))
    have := cs (some (n / 8 % ((t.length : Int) + 1) + n % 8 - 1)) none
    omega
  split
  · refine Nat.le_trans (join1_len _) ?_
    rw [wsum_app]
    have := c none (some (n / 8 % (ws.length : Int)))
    have := c (some (n / 8 % (ws.length : Int) + 1)) none
    omega
  split
  · refine Nat.le_trans (join1_len _) ?_
    rw [wsum_app, wsum_app]
    have := c none (some (n / 8 % (ws.length : Int)))
    have := c (some (n / 8 % (ws.length : Int))) (some (n / 8 % (ws.length : Int) + 1))
    have := c (some (n / 8 % (ws.length : Int))) none
    omega
  split
  · refine Nat.le_trans (join1_len _) ?_
    rw [wsum_app, wsum_app, wsum_app]
    have := c none (some (n / 8 % (ws.length : Int)))
    have := c (some (n / 8 % (ws.length : Int) + 1)) (some (n / 8 % (ws.length : Int) + 2))
    have := c (some (n / 8 % (ws.length : Int))) (some (n / 8 % (ws.length : Int) + 1))
    have := c (some (n / 8 % (ws.length : Int) + 2)) none
    omega
  · refine Nat.le_trans (join1_len _) ?_
    rw [wsum_app, wsum_app]
    have := c none (some (n / 8 % (ws.length : Int)))
    have := c (some (n / 8 % (ws.length : Int) + 1)) none
    have : wsum [wordM n] = (wordM n).length + 1 := by simp [wsum]
    omega
theorem word_split : Txt.split "+ 0 1 x x1 1x x0 2x2 x9 0x 4 xx" " " = wordL := by decide +kernel
theorem word_ix (n : Int) : atI (wordL.map D.str) (n / 7 % 12) = some (.str (wordM n)) := by
  have h0 := Int.emod_nonneg (n / 7) (show (12 : Int) ≠ 0 by decide)
  have h1 := Int.emod_lt_of_pos (n / 7) (show (0 : Int) < 12 by decide)
  refine atI_get h0 ?_
  have hl : (n / 7 % 12).toNat < wordL.length := by show _ < 12; omega
  rw [List.getElem?_map, List.getElem?_eq_getElem hl]
  show some (D.str _) = some (D.str (wordL.getD _ _))
  rw [List.getD_eq_getElem?_getD, List.getElem?_eq_getElem hl]
  rfl
theorem sign_ix (n : Int) : ixD (.str " 0123456789xx+-_X\n\t") (.int (n / 7 % 19)) = some (.str (signM n)) := by
  have h0 := Int.emod_nonneg (n / 7) (show (19 : Int) ≠ 0 by decide)
  have h1 := Int.emod_lt_of_pos (n / 7) (show (0 : Int) < 19 by decide)
  have hl : (n / 7 % 19).toNat < (tl signS).length := by
    have : (tl signS).length = 19 := by decide +kernel
    omega
  rw [ixD_str, if_pos (by decide +kernel)]
  have : atI (tl signS) (n / 7 % 19) = some ((tl signS).getD (n / 7 % 19).toNat 0) := atI_get h0 (by
    rw [List.getD_eq_getElem?_getD, List.getElem?_eq_getElem hl]; rfl)
  show (atI (tl signS) (n / 7 % 19)).map _ = _
  rw [this]
  rfl
theorem gJoin1 {lb : En → Option (List D)} {ρ : En} (ys : List Str) (h : lb ρ = some (ys.map .str)) (hw : wsum ys ≤ 1000000) : gJoin (gC (.str " ")) lb ρ = some (.str (Txt.join " " ys)) := by
  rw [gJoin_ap, h]
  exact joinD1 ys hw
theorem gCatS {la lb : En → Option (List D)} {ρ : En} (xs ys : List Str) (h1 : la ρ = some (xs.map .str)) (h2 : lb ρ = some (ys.map .str)) (hw : wsum xs + wsum ys ≤ 1000000) : gCat la lb ρ = some ((xs ++ ys).map .str) := by
  rw [List.map_append]
  refine gCat_by h1 h2 ?_
  unfold wsum at hw
  rw [List.length_map, List.length_map]
  omega
def f_law_changed : List D → Option D := kSI fun t n => if 0 ≤ n ∧ t.length ≤ 100000 then some (.str (chM t n)) else none
theorem xIf_to {tt : En → Option Bool} {U V : Po → Px → En → Prop} {P : Po} {px : Px} {ρ : En} {k : Bool} (h : tt ρ = some k) (N : En → Prop) (h1 : k = true → ∀ Q : Po, (∀ ρ', N ρ' → Q.nx ρ') → U Q px ρ) (h2 : k = false → ∀ Q : Po, (∀ ρ', N ρ' → Q.nx ρ') → V Q px ρ) (hn : ∀ ρ', N ρ' → P.nx ρ') : xIf tt U V P px ρ :=
  ⟨k, h, fun e => h1 e P hn, fun e => h2 e P hn⟩
theorem tI_inj {a b : List Int} (h : tI a = tI b) : a = b := by
  have := congrArg tupI h
  simpa using this
theorem read_can (hs : Sz s) {t : Str} {l : List Int} (h : readM t s = some l) : Can s l ∧ l.length ≤ 9 := by
  unfold readM at h
  cases q : goR (Txt.split t " + ") with
  | none => rw [q] at h; cases h
  | some L =>
    rw [q] at h
    have h : (if isSumB (tI (trimM L)) s = true ∧ textM (trimM L) = t then some (trimM L) else none) = some l := h
    split at h
    · rename_i hb
      cases h
      obtain ⟨ns, en, c, hl⟩ := isSum_can hs hb.1
      rw [tI_inj en]
      exact ⟨c, hl⟩
    · cases h
theorem eqD_non : eqD .non .non = some (.bl true) := by
  simp only [eqD, eqB, toPy, Option.bind_some, shaped_non, and_self, if_true, Option.map_some]
  rfl
theorem found_ok (hs : Sz s) {t : Str} (h : t.length ≤ 1000000) : f_law_found [.str t, .int s] = some (optT (readM t s)) ∧ f_law_due [.str t, .int s] = some (optT (readM t s)) := by
  simp only [f_law_found, f_law_due, kSI_mk, if_pos (show Sz s ∧ t.length ≤ 1000000 from ⟨hs, h⟩), and_self]
theorem ch_ok {t : Str} {n : Int} (h0 : 0 ≤ n) (h : t.length ≤ 100000) : f_law_changed [.str t, .int n] = some (.str (chM t n)) := by
  simp only [f_law_changed, kSI_mk, if_pos (show 0 ≤ n ∧ t.length ≤ 100000 from ⟨h0, h⟩)]
theorem step_none {t : Str} {i : Nat} {p : Str} {L : List Int} (hp : (Txt.split t " + ")[i]? = some p) (hg : goR ((Txt.split t " + ").take i) = some L) (h : stepR L p = none) : readM t s = none := by
  have gs := go_step hp
  rw [hg] at gs
  have gs : goR ((Txt.split t " + ").take (i + 1)) = stepR L p := gs
  rw [h] at gs
  unfold readM
  rw [go_none gs]
  rfl
end
end Pf

set_option Elab.async false
set_option linter.all false
set_option maxRecDepth 100000
set_option maxHeartbeats 4000000
namespace Pf
open PySem PySem.Spec L2
def topS (i : Nat) : Stmt := PySem.Challenge.pw_primefold_k03_whole_read.main.body.getD i (.Pass ⟨0, 0, 0, 0⟩)
abbrev s_law_changed : Stmt := topS 26
theorem sc_law_changed : FnScope ["_law_text", "_law_number_here", "_law_words", "_law_at", "_law_place", "_law_kind", "_law_sign", "_law_moved", "_law_some"] ["_law_text", "_law_number_here"] (defScope s_law_changed) := ⟨rfl, rfl, rfl, by decide +kernel, rfl, by decide +kernel, by decide +kernel⟩
abbrev s_law_drawn : Stmt := topS 20
theorem sc_law_drawn : FnScope ["_law_number_here", "_law_k", "_law_drawn_here"] ["_law_number_here", "_law_k"] (defScope s_law_drawn) := ⟨rfl, rfl, rfl, by decide +kernel, rfl, by decide +kernel, by decide +kernel⟩
abbrev s_law_figure : Stmt := topS 27
theorem sc_law_figure : FnScope ["_law_word", "_law_empty"] ["_law_word", "_law_empty"] (defScope s_law_figure) := ⟨rfl, rfl, rfl, by decide +kernel, rfl, by decide +kernel, by decide +kernel⟩
abbrev s_law_number : Stmt := topS 21
theorem sc_law_number : FnScope ["_law_thing", "_law_low", "_law_high"] ["_law_thing", "_law_low", "_law_high"] (defScope s_law_number) := ⟨rfl, rfl, rfl, by decide +kernel, rfl, by decide +kernel, by decide +kernel⟩
abbrev s_law_is_long_sum : Stmt := topS 23
theorem sc_law_is_long_sum : FnScope ["_law_thing", "_law_size", "_law_part"] ["_law_thing", "_law_size"] (defScope s_law_is_long_sum) := ⟨rfl, rfl, rfl, by decide +kernel, rfl, by decide +kernel, by decide +kernel⟩
abbrev s_law_is_sum : Stmt := topS 24
theorem sc_law_is_sum : FnScope ["_law_thing", "_law_size"] ["_law_thing", "_law_size"] (defScope s_law_is_sum) := ⟨rfl, rfl, rfl, by decide +kernel, rfl, by decide +kernel, by decide +kernel⟩
abbrev s_law_written : Stmt := topS 25
theorem sc_law_written : FnScope ["_law_thing", "_law_found_here", "_law_place", "_law_number_here"] ["_law_thing"] (defScope s_law_written) := ⟨rfl, rfl, rfl, by decide +kernel, rfl, by decide +kernel, by decide +kernel⟩
abbrev s_law_due : Stmt := topS 28
theorem sc_law_due : FnScope ["_law_text", "_law_size", "_law_numbers", "_law_part", "_law_ahead", "_law_sign", "_law_behind", "_law_place", "_law_number_here", "_law_found_here"] ["_law_text", "_law_size"] (defScope s_law_due) := ⟨rfl, rfl, rfl, by decide +kernel, rfl, by decide +kernel, by decide +kernel⟩
abbrev s_is_number : Stmt := topS 7
theorem sc_is_number : FnScope ["thing", "size"] ["thing", "size"] (defScope s_is_number) := ⟨rfl, rfl, rfl, by decide +kernel, rfl, by decide +kernel, by decide +kernel⟩
abbrev s_is_sum : Stmt := topS 8
theorem sc_is_sum : FnScope ["thing", "size", "part"] ["thing", "size"] (defScope s_is_sum) := ⟨rfl, rfl, rfl, by decide +kernel, rfl, by decide +kernel, by decide +kernel⟩
abbrev s_number_of : Stmt := topS 15
theorem sc_number_of : FnScope ["word", "empty"] ["word", "empty"] (defScope s_number_of) := ⟨rfl, rfl, rfl, by decide +kernel, rfl, by decide +kernel, by decide +kernel⟩
abbrev s_piece : Stmt := topS 11
theorem sc_piece : FnScope ["number", "power", "text"] ["number", "power"] (defScope s_piece) := ⟨rfl, rfl, rfl, by decide +kernel, rfl, by decide +kernel, by decide +kernel⟩
abbrev s_sum_text : Stmt := topS 12
theorem sc_sum_text : FnScope ["thing", "pieces", "power", "number"] ["thing"] (defScope s_sum_text) := ⟨rfl, rfl, rfl, by decide +kernel, rfl, by decide +kernel, by decide +kernel⟩
abbrev s_trimmed : Stmt := topS 9
theorem sc_trimmed : FnScope ["numbers", "many"] ["numbers"] (defScope s_trimmed) := ⟨rfl, rfl, rfl, by decide +kernel, rfl, by decide +kernel, by decide +kernel⟩
abbrev s_read : Stmt := topS 16
theorem sc_read : FnScope ["text", "size", "numbers", "part", "ahead", "sign", "behind", "power", "found"] ["text", "size"] (defScope s_read) := ⟨rfl, rfl, rfl, by decide +kernel, rfl, by decide +kernel, by decide +kernel⟩
abbrev s_law_found : Stmt := topS 29
theorem sc_law_found : FnScope ["_law_text", "_law_size", "_law_found_here", "e", "_law_good"] ["_law_text", "_law_size"] (defScope s_law_found) := ⟨rfl, rfl, rfl, by decide +kernel, rfl, by decide +kernel, by decide +kernel⟩
abbrev s_law_cell_at : Stmt := topS 18
theorem sc_law_cell_at : FnScope ["_law_script", "_law_k"] ["_law_script", "_law_k"] (defScope s_law_cell_at) := ⟨rfl, rfl, rfl, by decide +kernel, rfl, by decide +kernel, by decide +kernel⟩
abbrev s_law_mixed : Stmt := topS 19
theorem sc_law_mixed : FnScope ["_law_script", "_law_k", "_law_drawn_here"] ["_law_script", "_law_k"] (defScope s_law_mixed) := ⟨rfl, rfl, rfl, by decide +kernel, rfl, by decide +kernel, by decide +kernel⟩
abbrev s_law_sum : Stmt := topS 22
theorem sc_law_sum : FnScope ["_law_number_here", "_law_size", "_law_most", "_law_many", "_law_found_here", "_law_k", "_law_drawn_here"] ["_law_number_here", "_law_size", "_law_most"] (defScope s_law_sum) := ⟨rfl, rfl, rfl, by decide +kernel, rfl, by decide +kernel, by decide +kernel⟩
abbrev s_law : Stmt := topS 30
theorem sc_law : FnScope ["_law_script", "_law_size", "_law_thing", "_law_text", "_law_number_here", "_law_k", "_law_found_here"] ["_law_script"] (defScope s_law) := ⟨rfl, rfl, rfl, by decide +kernel, rfl, by decide +kernel, by decide +kernel⟩
section
variable {P : Program} {w : World} {K : PySem.W.Frag} {mg : Str → Option Value} {base : Heap}
theorem ok_law_changed (hd_law_changed : Hd K mg "_law_changed" s_law_changed ["_law_text", "_law_number_here"]) (z_len : mg "len" = none) : FnT P w K mg base 1 "_law_changed" f_law_changed := by
  refine fn_mk hd_law_changed sc_law_changed (f_law_changed) (sb_cons (ss_setL 2 (sl_split (se_var 0 rfl rfl) se_str) rfl rfl)
    (sb_cons (ss_set 3 (se_bin od_mod (se_bin od_fdiv (se_var 1 rfl rfl) se_int) (se_b cd_len z_len (by decide +kernel) (sa_cons (se_var 2 rfl rfl) sa_nil) rfl)) rfl rfl)
    (sb_cons (ss_set 4 (se_bin od_mod (se_bin od_fdiv (se_var 1 rfl rfl) se_int) (se_bin od_add (se_b cd_len z_len (by decide +kernel) (sa_cons (se_var 0 rfl rfl) sa_nil) rfl) se_int)) rfl rfl)
    (sb_cons (ss_set 5 (se_bin od_mod (se_var 1 rfl rfl) se_int) rfl rfl)
    (sb_cons (ss_if (st_cmp od_eq (se_var 5 rfl rfl) se_int (nomark _))
    (sb_cons (ss_ret (se_bin od_add (se_sl (se_var 0 rfl rfl) so_none (so_some (se_var 4 rfl rfl))) (se_sl (se_var 0 rfl rfl) (so_some (se_bin od_add (se_var 4 rfl rfl) se_int)) so_none)))
    sb_nil)
    sb_nil)
    (sb_cons (ss_if (st_cmp od_lt (se_var 5 rfl rfl) se_int (nomark _))
    (sb_cons (ss_set 6 (se_ix se_str (se_bin od_mod (se_bin od_fdiv (se_var 1 rfl rfl) se_int) se_int) (fun _ _ => rfl)) rfl rfl)
    (sb_cons (ss_ret (se_bin od_add (se_bin od_add (se_sl (se_var 0 rfl rfl) so_none (so_some (se_var 4 rfl rfl))) (se_var 6 rfl rfl)) (se_sl (se_var 0 rfl rfl) (so_some (se_bin od_sub (se_bin od_add (se_var 4 rfl rfl) (se_var 5 rfl rfl)) se_int)) so_none)))
    sb_nil))
    sb_nil)
    (sb_cons (ss_if (st_cmp od_eq (se_var 5 rfl rfl) se_int (nomark _))
    (sb_cons (ss_ret (se_join se_str (sr_of_sl (sl_cat (sr_of_sl (sl_sl (se_var 2 rfl rfl) so_none (so_some (se_var 3 rfl rfl)))) (sr_of_sl (sl_sl (se_var 2 rfl rfl) (so_some (se_bin od_add (se_var 3 rfl rfl) se_int)) so_none))))))
    sb_nil)
    sb_nil)
    (sb_cons (ss_if (st_cmp od_eq (se_var 5 rfl rfl) se_int (nomark _))
    (sb_cons (ss_ret (se_join se_str (sr_of_sl (sl_cat (sr_of_sl (sl_cat (sr_of_sl (sl_sl (se_var 2 rfl rfl) so_none (so_some (se_var 3 rfl rfl)))) (sr_of_sl (sl_sl (se_var 2 rfl rfl) (so_some (se_var 3 rfl rfl)) (so_some (se_bin od_add (se_var 3 rfl rfl) se_int)))))) (sr_of_sl (sl_sl (se_var 2 rfl rfl) (so_some (se_var 3 rfl rfl)) so_none))))))
    sb_nil)
    sb_nil)
    (sb_cons (ss_if (st_cmp od_eq (se_var 5 rfl rfl) se_int (nomark _))
    (sb_cons (ss_setL 7 (sl_cat (sr_of_sl (sl_sl (se_var 2 rfl rfl) (so_some (se_bin od_add (se_var 3 rfl rfl) se_int)) (so_some (se_bin od_add (se_var 3 rfl rfl) se_int)))) (sr_of_sl (sl_sl (se_var 2 rfl rfl) (so_some (se_var 3 rfl rfl)) (so_some (se_bin od_add (se_var 3 rfl rfl) se_int))))) rfl rfl)
    (sb_cons (ss_ret (se_join se_str (sr_of_sl (sl_cat (sr_of_sl (sl_cat (sr_of_sl (sl_sl (se_var 2 rfl rfl) so_none (so_some (se_var 3 rfl rfl)))) (sr_of_se (se_var 7 rfl rfl)))) (sr_of_sl (sl_sl (se_var 2 rfl rfl) (so_some (se_bin od_add (se_var 3 rfl rfl) se_int)) so_none))))))
    sb_nil))
    sb_nil)
    (sb_cons (ss_setL 8 (sl_split se_str se_str) rfl rfl)
    (sb_cons (ss_ret (se_join se_str (sr_of_sl (sl_cat (sr_of_sl (sl_cat (sr_of_sl (sl_sl (se_var 2 rfl rfl) so_none (so_some (se_var 3 rfl rfl)))) (sr_of_sl (sl_lst (sa_cons (se_ix (se_var 8 rfl rfl) (se_bin od_mod (se_bin od_fdiv (se_var 1 rfl rfl) se_int) se_int) (fun _ _ => rfl)) sa_nil))))) (sr_of_sl (sl_sl (se_var 2 rfl rfl) (so_some (se_bin od_add (se_var 3 rfl rfl) se_int)) so_none))))))
    sb_nil))))))))))) ?_ ?_
  · intro ds d h
    obtain ⟨_, _, rfl, _⟩ := kSI_of h
    rfl
  · intro ds d h
    obtain ⟨x0, x1, rfl, e⟩ := kSI_of h
    clear h
    simp only [Option.ite_none_right_eq_some] at e
    obtain ⟨⟨hn, hl⟩, e⟩ := e
    cases e
    have l1 : ((" " : Str).length == 0) = false := rfl
    have lz : x0.length ≤ 1000000 := by omega
    obtain ⟨w1, w2⟩ := wsum_split x0
    obtain ⟨ws, hws⟩ : ∃ ws, ws = Txt.split x0 " " := ⟨_, rfl⟩
    have hwp : 0 < ws.length := List.length_pos_iff.mpr (by rw [hws]; exact w2)
    have hch : chM x0 x1 = chM x0 x1 := rfl
    conv at hch => rhs; unfold chM
    rw [← hws] at hch w1
    rw [hch]
    clear hch
    obtain ⟨A, hA⟩ : ∃ A, A = x1 / 8 % (ws.length : Int) := ⟨_, rfl⟩
    obtain ⟨B, hB⟩ : ∃ B, B = x1 / 8 % ((x0.length : Int) + 1) := ⟨_, rfl⟩
    have hwp' : 0 < (ws.length : Int) := by omega
    have hwn : ws ≠ [] := List.length_pos_iff.mp hwp
    have hlp' : 0 < (x0.length : Int) + 1 := by omega
    have cw := fun lo hi => wsum_cut ws lo hi
    have cs := fun lo hi => cutS_length x0 lo hi
    have wl := word_len x1
    have ww : wsum [wordM x1] = (wordM x1).length + 1 := by simp [wsum]
    rw [← hA, ← hB]
    simp only [wCons_ap, wSet_ap, wSetL_ap, wIf_ap, wRet_ap, wNil_ap]
    refine ⟨ws.map .str, by simp [l1, lz, hws], .int A, by simp [hwp', hA, hwn], .int B, by simp [lz, hlp', hB]; try omega, .int (x1 % 8), by simp, decide (x1 % 8 = 0), by simp, fun hb => ?_, fun hb => ?_⟩
    · have hb := of_decide_eq_true hb
      rw [if_pos hb]
      have q1 : (cutS x0 none (some B)).length + (cutS x0 (some (B + 1)) none).length ≤ 1000000 := by
        have := cs none (some B)
        have := cs (some (B + 1)) none
        omega
      exact ⟨.str (cutS x0 none (some B) ++ cutS x0 (some (B + 1)) none), by simp [lz, q1], rfl⟩
    have hb := of_decide_eq_false hb
    rw [if_neg hb]
    refine ⟨decide (x1 % 8 < 3), by simp, fun h2 => ?_, fun h2 => ?_⟩
    · have h2 := of_decide_eq_true h2
      rw [if_pos h2]
      have sg := sign_ix x1
      have lsg : (signM x1).length = 1 := rfl
      have q1 : (cutS x0 none (some B)).length + (signM x1).length ≤ 1000000 := by
        have := cs none (some B)
        omega
      have q2 : (cutS x0 none (some B) ++ signM x1).length + (cutS x0 (some (B + x1 % 8 - 1)) none).length ≤ 1000000 := by
        rw [app_len]
        have := cs none (some B)
        have := cs (some (B + x1 % 8 - 1)) none
        omega
      exact ⟨.str (signM x1), by simp [-ixD_str, sg], .str (cutS x0 none (some B) ++ signM x1 ++ cutS x0 (some (B + x1 % 8 - 1)) none), by simp [lz, q1, q2], rfl⟩
    have h2 := of_decide_eq_false h2
    rw [if_neg h2]
    refine ⟨decide (x1 % 8 = 3), by simp, fun h3 => ?_, fun h3 => ?_⟩
    · have h3 := of_decide_eq_true h3
      rw [if_pos h3]
      have c1 := cw none (some A)
      have c2 := cw (some (A + 1)) none
      refine ⟨_, gJoin1 (cutW ws none (some A) ++ cutW ws (some (A + 1)) none) (gCatS _ _ ?_ ?_ (by omega)) (by rw [wsum_app]; omega), rfl⟩
      · simp [cut_strs]
      · simp [cut_strs]
    have h3 := of_decide_eq_false h3
    rw [if_neg h3]
    refine ⟨decide (x1 % 8 = 4), by simp, fun h4 => ?_, fun h4 => ?_⟩
    · have h4 := of_decide_eq_true h4
      rw [if_pos h4]
      have c1 := cw none (some A)
      have c2 := cw (some A) (some (A + 1))
      have c3 := cw (some A) none
      refine ⟨_, gJoin1 (cutW ws none (some A) ++ cutW ws (some A) (some (A + 1)) ++ cutW ws (some A) none) (gCatS _ _ (gCatS _ _ ?_ ?_ (by omega)) ?_ (by rw [wsum_app]; omega)) (by rw [wsum_app, wsum_app]; omega), rfl⟩
      · simp [cut_strs]
      · simp [cut_strs]
      · simp [cut_strs]
    have h4 := of_decide_eq_false h4
    rw [if_neg h4]
    refine ⟨decide (x1 % 8 = 5), by simp, fun h5 => ?_, fun h5 => ?_⟩
    · have h5 := of_decide_eq_true h5
      rw [if_pos h5]
      have c1 := cw none (some A)
      have c2 := cw (some (A + 1)) (some (A + 2))
      have c3 := cw (some A) (some (A + 1))
      have c4 := cw (some (A + 2)) none
      refine ⟨(cutW ws (some (A + 1)) (some (A + 2)) ++ cutW ws (some A) (some (A + 1))).map .str, gCatS _ _ ?_ ?_ (by omega), ?_⟩
      · simp [cut_strs]
      · simp [cut_strs]
      refine ⟨_, gJoin1 (cutW ws none (some A) ++ (cutW ws (some (A + 1)) (some (A + 2)) ++ cutW ws (some A) (some (A + 1))) ++ cutW ws (some (A + 2)) none) (gCatS _ _ (gCatS _ _ ?_ ?_ (by rw [wsum_app]; omega)) ?_ (by rw [wsum_app, wsum_app]; omega)) (by rw [wsum_app, wsum_app, wsum_app]; omega), rfl⟩
      · simp [cut_strs]
      · simp
      · simp [cut_strs]
    have h5 := of_decide_eq_false h5
    rw [if_neg h5]
    have c1 := cw none (some A)
    have c2 := cw (some (A + 1)) none
    have wi := word_ix x1
    have sp := splitD_str "+ 0 1 x x1 1x x0 2x2 x9 0x 4 xx" " "
    rw [if_pos ⟨rfl, by decide +kernel⟩, word_split] at sp
    obtain ⟨wl2, hwl⟩ : ∃ l, l = wordL := ⟨_, rfl⟩
    rw [← hwl] at wi sp
    refine ⟨wl2.map .str, by simp [-splitD_str, sp], ?_⟩
    refine ⟨_, gJoin1 (cutW ws none (some A) ++ [wordM x1] ++ cutW ws (some (A + 1)) none) (gCatS _ _ (gCatS _ _ ?_ ?_ (by omega)) ?_ (by rw [wsum_app]; omega)) (by rw [wsum_app, wsum_app]; omega), rfl⟩
    · simp [cut_strs]
    · simp [wi]
    · simp [cut_strs]
theorem ok_law_drawn (hd_law_drawn : Hd K mg "_law_drawn" s_law_drawn ["_law_number_here", "_law_k"]) : FnT P w K mg base 1 "_law_drawn" f_law_drawn := by
  refine fn_mk hd_law_drawn sc_law_drawn (f_law_drawn) (sb_cons (ss_set 2 (se_bin od_mod (se_bin od_mul (se_bin od_add (se_bin od_add (se_var 0 rfl rfl) (se_bin od_mul se_int (se_var 1 rfl rfl))) se_int) se_int) se_int) rfl rfl)
    (sb_cons (ss_ret (se_bin od_mod (se_bin od_add (se_bin od_add (se_bin od_mul (se_var 2 rfl rfl) (se_var 2 rfl rfl)) (se_bin od_mul se_int (se_var 2 rfl rfl))) (se_var 1 rfl rfl)) se_int))
    sb_nil)) ?_ ?_
  · intro ds d h
    obtain ⟨_, _, rfl, _⟩ := kII_of h
    rfl
  · intro ds d h
    obtain ⟨x0, x1, rfl, e⟩ := kII_of h
    clear h
    cases e
    simp [drawM]
    omega
theorem ok_law_figure (hd_law_figure : Hd K mg "_law_figure" s_law_figure ["_law_word", "_law_empty"]) (z_int : mg "int" = none) (z_len : mg "len" = none) : FnT P w K mg base 1 "_law_figure" f_law_figure := by
  refine fn_mk hd_law_figure sc_law_figure (f_law_figure) (sb_cons (ss_if (st_cmp od_eqS (se_var 0 rfl rfl) se_str (nomark _))
    (sb_cons (ss_ret (se_var 1 rfl rfl))
    sb_nil)
    sb_nil)
    (sb_cons (ss_if (st_sw (sw_or (st_cmp od_gt (se_b cd_len z_len (by decide +kernel) (sa_cons (se_var 0 rfl rfl) sa_nil) rfl) se_int (nomark _)) (sw_or1 (st_cmp od_lt (se_find se_str (se_var 0 rfl rfl)) se_int (nomark _)))))
    (sb_cons (ss_ret se_non)
    sb_nil)
    sb_nil)
    (sb_cons (ss_ret (se_t cd_int z_int (by decide +kernel) (sa_cons (se_var 0 rfl rfl) sa_nil) rfl))
    sb_nil))) ?_ ?_
  · intro ds d h
    obtain ⟨_, _, rfl, _⟩ := kSI_of h
    rfl
  · intro ds d h
    obtain ⟨x0, x1, rfl, e⟩ := kSI_of h
    clear h
    simp only [Option.ite_none_right_eq_some] at e
    obtain ⟨hl, e⟩ := e
    cases e
    have ez : ((1 : Int) < (x0.length : Int)) = (1 < x0.length) := propext (by omega)
    have ff := find_fig x0
    simp only [wIf_ap, wCons_ap, wRet_ap, wNil_ap]
    refine ⟨decide (x0 = ""), by simp, fun hb => ?_, fun hb => ?_⟩
    · have hb := of_decide_eq_true hb
      exact ⟨.int x1, by simp, by simp [figM, hb, optI]⟩
    · have hb := of_decide_eq_false hb
      refine ⟨decide (1 < x0.length) || !figin x0, ?_, fun hc => ?_, fun hc => ?_⟩
      · by_cases h : 1 < x0.length
        · simp [h, hl, ez]
        · simp [h, hl, ez, ff]
      · have hc2 : 1 < x0.length ∨ figin x0 = false := by simpa using hc
        exact ⟨.non, by simp, by simp only [figM, if_neg hb, if_pos hc2, optI]⟩
      · have hc1 : ¬ 1 < x0.length := fun z => by simp [z] at hc
        have hc2 : figin x0 = true := by
          cases q : figin x0 with
          | true => rfl
          | false => simp [q] at hc
        have hc3 : ¬ (1 < x0.length ∨ figin x0 = false) := by simp [hc2]; omega
        obtain ⟨f1, _, _⟩ := fig_ok hb hc1 hc2
        have hl2 : x0.length ≤ 640 := by omega
        exact ⟨.int (figV x0), by simp [hl2, f1], by simp only [figM, if_neg hb, if_neg hc3, optI]⟩
theorem ok_law_number (hd_law_number : Hd K mg "_law_number" s_law_number ["_law_thing", "_law_low", "_law_high"]) (z_bool : mg "bool" = none) (z_int : mg "int" = none) (z_isinstance : mg "isinstance" = none) : FnT P w K mg base 1 "_law_number" f_law_number := by
  refine fn_mk hd_law_number sc_law_number (f_law_number) (sb_cons (ss_ret (se_and (se_tr (se_isi "int" z_isinstance z_int (by decide +kernel) (se_var 0 rfl rfl) rfl rfl)) (se_and (se_not (se_tr (se_isi "bool" z_isinstance z_bool (by decide +kernel) (se_var 0 rfl rfl) rfl rfl))) (se_one (se_chain od_le od_le (se_var 1 rfl rfl) (se_var 0 rfl rfl) (se_var 2 rfl rfl))))))
    sb_nil) ?_ ?_
  · intro ds d h
    obtain ⟨_, _, _, rfl, _⟩ := kAII_of h
    rfl
  · intro ds d h
    obtain ⟨x0, x1, x2, rfl, e⟩ := kAII_of h
    clear h
    cases e
    cases x0 <;> simp [isNumB]
    split <;> simp_all <;> omega
theorem ok_law_is_long_sum (hd_law_is_long_sum : Hd K mg "_law_is_long_sum" s_law_is_long_sum ["_law_thing", "_law_size"]) (z_isinstance : mg "isinstance" = none) (z_tuple : mg "tuple" = none) (C_law_number : FnT P w K mg base 1 "_law_number" f_law_number) : FnT P w K mg base 2 "_law_is_long_sum" f_law_is_long_sum := by
  refine fn_mk hd_law_is_long_sum sc_law_is_long_sum (f_law_is_long_sum) (sb_cons (ss_if (st_sw (sw_or (st_not (st_val (se_isi "tuple" z_isinstance z_tuple (by decide +kernel) (se_var 0 rfl rfl) rfl rfl))) (sw_or1 (st_cmp od_ne (se_of_sl (sl_lcv 2 (se_var 0 rfl rfl) rfl rfl rfl (sp_one (st_not (st_val (se_call C_law_number.cal (sa_cons (se_var 2 rfl rfl) (sa_cons se_int (sa_cons (se_bin od_sub (se_var 1 rfl rfl) se_int) sa_nil))) rfl)))) rfl)) (se_of_sl (sl_lst sa_nil)) (nomark _)))))
    (sb_cons (ss_ret se_bl)
    sb_nil)
    sb_nil)
    (sb_cons (ss_ret (se_or (se_tr (se_cmp od_eq (se_var 0 rfl rfl) (se_tup sa_nil) (nomark _))) (se_one (se_tr (se_cmp od_ne (se_ix (se_var 0 rfl rfl) (se_neg se_int) (fun _ _ => rfl)) se_int (nomark _))))))
    sb_nil)) ?_ ?_
  · intro ds d h
    obtain ⟨_, _, rfl, _⟩ := kAI_of h
    rfl
  · intro ds d h
    obtain ⟨x0, x1, rfl, e⟩ := kAI_of h
    clear h
    simp at e
    obtain ⟨⟨hok, hsz⟩, rfl⟩ := e
    cases x0 with
    | tup ds =>
      have hok' : okNA 59 ds = true := by simpa only [okN] using hok
      simp only [wCons_ap, wIf_ap, wRet_ap, wNil_ap]
      refine ⟨!(ds.all fun d => isNumB d 0 (x1 - 1)), ?_, fun h => ⟨_, rfl, ?_⟩, fun h => ?_⟩
      · have hc : lvG 2 (gNot (gT (gCall f_law_number (gCons (gV 2) (gCons (gC (.int 0)) (gCons (g2 subD (gV 1) (gC (.int 1))) gNil)))))) [.im (.tup ds), .im (.int x1), .un] ds = some (ds.filter fun d => !isNumB d 0 (x1 - 1)) :=
          lvG_fm _ fun d _ => by simp [f_law_number, kAII]
        have hz : ds.length ≤ 1000000 := of_decide_eq_true hsz
        have hq := eqB_lnil (okNA_mono _ (by decide) (okNA_filter (fun d => !isNumB d 0 (x1 - 1)) hok'))
        simp [hz, hc, neD, hq]
        rw [Bool.eq_iff_iff]
        simp
      · simp only [Bool.not_eq_true'] at h
        simp [isLongB, h]
      · simp only [Bool.not_eq_false'] at h
        obtain ⟨ns, rfl⟩ := all_int isNumB_int h
        have e0 : isLongB (tI ns) x1 = nzL ns := by
          have e1 : isLongB (tI ns) x1 = ((ns.map D.int).all (fun d => isNumB d 0 (x1 - 1)) && lastNZ (ns.map .int)) := rfl
          rw [e1, h, lastNZ_ints]
          simp
        rw [e0]
        cases hq : ns.getLast? with
        | none =>
          have : ns = [] := List.getLast?_eq_none_iff.mp hq
          subst this
          simp [nzL_nil]
        | some i =>
          have hne : ns ≠ [] := fun z => by subst z; cases hq
          simp [last_at hq, hne, nzL_some hq]
    | _ => simp [isLongB]
theorem ok_law_is_sum (hd_law_is_sum : Hd K mg "_law_is_sum" s_law_is_sum ["_law_thing", "_law_size"]) (z_len : mg "len" = none) (C_law_is_long_sum : FnT P w K mg base 2 "_law_is_long_sum" f_law_is_long_sum) : FnT P w K mg base 3 "_law_is_sum" f_law_is_sum := by
  refine fn_mk hd_law_is_sum sc_law_is_sum (f_law_is_sum) (sb_cons (ss_ret (se_and (se_tr (se_call C_law_is_long_sum.cal (sa_cons (se_var 0 rfl rfl) (sa_cons (se_var 1 rfl rfl) sa_nil)) rfl)) (se_one (se_tr (se_cmp od_le (se_b cd_len z_len (by decide +kernel) (sa_cons (se_var 0 rfl rfl) sa_nil) rfl) se_int (nomark _))))))
    sb_nil) ?_ ?_
  · intro ds d h
    obtain ⟨_, _, rfl, _⟩ := kAI_of h
    rfl
  · intro ds d h
    obtain ⟨x0, x1, rfl, e⟩ := kAI_of h
    clear h
    simp at e
    obtain ⟨⟨hok, hsz⟩, rfl⟩ := e
    simp only [wCons_ap, wRet_ap, wNil_ap]
    refine ⟨_, ?_, rfl⟩
    cases x0 with
    | tup ds =>
      have hle : ((ds.length : Int) ≤ 9) = (ds.length ≤ 9) := propext (by omega)
      simp [f_law_is_long_sum, kAI, hok, hsz, lenLe9, hle]
      cases isLongB (D.tup ds) x1 <;> simp
    | _ => simp [f_law_is_long_sum, kAI, hok, szD, isLongB]
theorem ok_law_written (hd_law_written : Hd K mg "_law_written" s_law_written ["_law_thing"]) (z_int : mg "int" = none) (z_len : mg "len" = none) (z_range : mg "range" = none) (z_str : mg "str" = none) : FnT P w K mg base 1 "_law_written" f_law_written := by
  refine fn_mk hd_law_written sc_law_written (f_law_written) (sb_cons (ss_set 1 se_str rfl rfl)
    (sb_cons (ss_for (si_rngD z_range (sa_cons (se_bin od_sub (se_b cd_len z_len (by decide +kernel) (sa_cons (se_var 0 rfl rfl) sa_nil) rfl) se_int) (sa_cons (se_neg se_int) (sa_cons (se_neg se_int) sa_nil))) rfl) (sg1 2 rfl rfl)
    (sb_cons (ss_set 3 (se_ix (se_var 0 rfl rfl) (se_var 2 rfl rfl) (fun _ _ => rfl)) rfl rfl)
    (sb_cons (ss_if (st_sw (sw_and (st_cmp od_ne (se_var 3 rfl rfl) se_int (nomark _)) (sw_and1 (st_cmp od_eq (se_var 2 rfl rfl) se_int (nomark _)))))
    (sb_cons (ss_set 1 (se_bin od_add (se_bin od_add (se_var 1 rfl rfl) se_str) (se_t cd_str z_str (by decide +kernel) (sa_cons (se_var 3 rfl rfl) sa_nil) rfl)) rfl rfl)
    sb_nil)
    (sb_cons (ss_if (st_cmp od_ne (se_var 3 rfl rfl) se_int (nomark _))
    (sb_cons (ss_set 1 (se_bin od_add (se_bin od_add (se_bin od_add (se_bin od_add (se_var 1 rfl rfl) se_str) (se_ix (se_of_sl (sl_lst (sa_cons (se_t cd_str z_str (by decide +kernel) (sa_cons (se_var 3 rfl rfl) sa_nil) rfl) (sa_cons se_str sa_nil)))) (se_t cd_int z_int (by decide +kernel) (sa_cons (se_cmp od_eq (se_var 3 rfl rfl) se_int (nomark _)) sa_nil) rfl) (fun _ _ => rfl))) se_str) (se_ix (se_of_sl (sl_lst (sa_cons (se_t cd_str z_str (by decide +kernel) (sa_cons (se_var 2 rfl rfl) sa_nil) rfl) (sa_cons se_str sa_nil)))) (se_t cd_int z_int (by decide +kernel) (sa_cons (se_cmp od_eq (se_var 2 rfl rfl) se_int (nomark _)) sa_nil) rfl) (fun _ _ => rfl))) rfl rfl)
    sb_nil)
    sb_nil)
    sb_nil))
    sb_nil)))
    (sb_cons (ss_if (st_cmp od_eqS (se_var 1 rfl rfl) se_str (nomark _))
    (sb_cons (ss_ret se_str)
    sb_nil)
    sb_nil)
    (sb_cons (ss_ret (se_sl (se_var 1 rfl rfl) (so_some se_int) so_none))
    sb_nil)))) ?_ ?_
  · intro ds d h
    obtain ⟨_, rfl, _⟩ := kT_of h
    rfl
  · intro ds d h
    obtain ⟨x0, rfl, e⟩ := kT_of h
    clear h
    simp only [Option.ite_none_right_eq_some] at e
    obtain ⟨ok, e⟩ := e
    cases e
    obtain ⟨h1, h2, h3⟩ := id ok
    obtain ⟨N, hN⟩ : ∃ N, N = x0.length := ⟨_, rfl⟩
    simp only [wCons_ap, wSet_ap]
    refine ⟨.str "", by simp, ?_⟩
    have er : ((N : Int) - 1 - (-1)).toNat = N := by omega
    refine wFor_by (dnD ((N : Int) - 1) N) (by rw [gRD_by (i := (N : Int) - 1) (j := -1) (by simp [hN]; try omega) ⟨by omega, by omega, by omega, by omega⟩, er]) (by simp [noOw]) (fun j ρ1 => ∃ b c, ρ1 = [.im (tI x0), .im (.str (accM (piecesM (N - j) (x0.drop (N - j))).reverse)), b, c] ∧ noOw [b, c] = true) ⟨.un, .un, ?_, rfl⟩ ?_ ?_
    · have : x0.drop (N - 0) = [] := by rw [hN]; simp
      rw [this]; rfl
    · rintro j d ρ1 hj ⟨b, c, rfl, hno⟩
      obtain ⟨hj2, rfl⟩ := dnD_some hj
      refine ⟨_, rfl, ?_⟩
      obtain ⟨k, hk⟩ : ∃ k, k = N - (j + 1) := ⟨_, rfl⟩
      have ek : (N : Int) - 1 - (j : Int) = (k : Int) := by omega
      have ek2 : N - j = k + 1 := by omega
      rw [ek, ek2, ← hk]
      have kl : k < x0.length := by omega
      have at1 := atI_cf (ns := x0) (k := (k : Int)) (by omega) (by omega)
      rw [Int.toNat_natCast] at at1
      have c0 := h1 _ (cf_mem kl)
      have c1 := h2 _ (cf_mem kl)
      have pd := pieces_drop x0 kl
      obtain ⟨R, hR⟩ : ∃ R, R = piecesM (k + 1) (x0.drop (k + 1)) := ⟨_, rfl⟩
      rw [← hR] at pd ⊢
      have pR := pieces_mem (k := k + 1) (a := x0.drop (k + 1)) (fun i hi => h1 i (List.mem_of_mem_drop hi)) (fun i hi => h2 i (List.mem_of_mem_drop hi)) (by rw [List.length_drop]; omega)
      have lR := pieces_len (k + 1) (x0.drop (k + 1))
      rw [← hR] at pR lR
      rw [List.length_drop] at lR
      have lA := acc_len R.reverse fun p hp => pR p (List.mem_reverse.mp hp)
      rw [List.length_reverse] at lA
      have es : x0.drop k = cf x0 k :: x0.drop (k + 1) := by rw [cf_lt kl]; exact List.drop_eq_getElem_cons kl
      obtain ⟨n, hn⟩ : ∃ n, n = cf x0 k := ⟨_, rfl⟩
      rw [← hn] at at1 c0 c1 pd
      obtain ⟨A, hA⟩ : ∃ A, A = accM R.reverse := ⟨_, rfl⟩
      rw [← hA] at lA ⊢
      have s0 := strD_num c0 c1
      have s1 := strD_num (i := (k : Int)) (by omega) (by omega)
      have l0 := numS_len c0 c1
      have l1 := numS_len (n := (k : Int)) (by omega) (by omega)
      have ls : (" + " : Str).length = 3 := rfl
      have lx := x_len
      have lz : ("" : Str).length = 0 := rfl
      have q1 : A.length + (" + " : Str).length ≤ 1000000 := by omega
      have q2 : (A ++ " + ").length + (numS n).length ≤ 1000000 := by rw [app_len]; omega
      simp only [wCons_ap, wSet_ap, wIf_ap, wNil_ap]
      refine ⟨.int n, by simp [at1], decide (n ≠ 0) && decide (k = 0), ?_, fun hb => ?_, fun hb => ?_⟩
      · by_cases z : n = 0 <;> simp [z]
      · simp only [Bool.and_eq_true, decide_eq_true_eq] at hb
        rw [if_neg hb.1] at pd
        refine ⟨.str (A ++ " + " ++ numS n), by simp [-strD_int, s0, q1, q2], .im (.int (k : Int)), .im (.int n), ?_, rfl⟩
        rw [pd, List.reverse_cons, acc_snoc, ← hA]
        have : pieceM n (k : Int) = numS n := by rw [hb.2]; rfl
        rw [this]
        rfl
      · refine ⟨!decide (n = 0), by simp, fun hc => ?_, fun hc => ?_⟩
        · have hc : ¬ n = 0 := by simpa using hc
          have hk0 : ¬ k = 0 := fun z => by simp [hc, z] at hb
          rw [if_neg hc] at pd
          refine ⟨.str (A ++ " + " ++ pieceM n (k : Int)), ?_, .im (.int (k : Int)), .im (.int n), ?_, rfl⟩
          · have hk0' : ¬ (k : Int) = 0 := by omega
            have lu := numU_len c0 c1
            have lv := numU_len (n := (k : Int)) (by omega) (by omega)
            have r1 : (A ++ (" + " : Str)).length + (numU n).length ≤ 1000000 := by rw [app_len]; omega
            have r2 : (A ++ (" + " : Str) ++ numU n).length + ("x" : Str).length ≤ 1000000 := by rw [app_len, app_len]; omega
            have r3 : (A ++ (" + " : Str) ++ numU n ++ ("x" : Str)).length + (numU (k : Int)).length ≤ 1000000 := by rw [app_len, app_len, app_len]; omega
            have pu := pick_str (numS n) (n = 1)
            have pv := pick_str (numS (k : Int)) ((k : Int) = 1)
            rw [← piece_law hk0' A]
            refine g2_by (x := .str (A ++ (" + " : Str) ++ numU n ++ ("x" : Str))) (y := .str (numU (k : Int))) (g2_by (x := .str (A ++ (" + " : Str) ++ numU n)) (y := .str ("x" : Str)) (g2_by (x := .str (A ++ (" + " : Str))) (y := .str (numU n)) (g2_by (x := .str A) (y := .str (" + " : Str)) (by simp) (by simp) (by rw [addD_str, if_pos q1])) ?_ (by rw [addD_str, if_pos r1])) (by simp) (by rw [addD_str, if_pos r2])) ?_ (by rw [addD_str, if_pos r3])
            · simp [-strD_int, s0]
              exact pu
            · simp [-strD_int, s1]
              exact pv
          · rw [pd, List.reverse_cons, acc_snoc, ← hA]
            rfl
        · have hc : n = 0 := by simpa using hc
          rw [if_pos hc] at pd
          refine ⟨.im (.int (k : Int)), .im (.int n), ?_, rfl⟩
          rw [pd, ← hA]
          rfl
    · rintro ρ1 ⟨b, c, rfl, hno⟩
      have e0 : N - (dnD ((N : Int) - 1) N).length = 0 := by rw [dnD_len]; omega
      rw [e0, List.drop_zero]
      have pl := pieces_len 0 x0
      have pm := pieces_mem h1 h2 (k := 0) (by omega)
      have hT : textM x0 = if piecesM 0 x0 = [] then ("0" : Str) else Txt.join (" + " : Str) (piecesM 0 x0).reverse := rfl
      obtain ⟨R, hR⟩ : ∃ R, R = piecesM 0 x0 := ⟨_, rfl⟩
      rw [← hR] at pl pm hT ⊢
      rw [hT]
      have lA := acc_len R.reverse fun p hp => pm p (List.mem_reverse.mp hp)
      rw [List.length_reverse] at lA
      have an := acc_nil R.reverse
      rw [List.reverse_eq_nil_iff] at an
      simp only [wCons_ap, wIf_ap, wRet_ap, wNil_ap]
      refine ⟨decide (R = []), by simp [an], fun hb => ?_, fun hb => ?_⟩
      · have hb := of_decide_eq_true hb
        exact ⟨.str "0", by simp, by rw [if_pos hb]⟩
      · have hb := of_decide_eq_false hb
        have ac := acc_cut (ps := R.reverse) fun z => hb (List.reverse_eq_nil_iff.mp z)
        refine ⟨.str (Txt.join " + " R.reverse), ?_, by rw [if_neg hb]⟩
        have lz : (accM R.reverse).length ≤ 1000000 := by omega
        simp [lz, ac]
theorem ok_law_due (hd_law_due : Hd K mg "_law_due" s_law_due ["_law_text", "_law_size"]) (z_tuple : mg "tuple" = none) (C_law_figure : FnT P w K mg base 1 "_law_figure" f_law_figure) (C_law_is_sum : FnT P w K mg base 3 "_law_is_sum" f_law_is_sum) (C_law_written : FnT P w K mg base 1 "_law_written" f_law_written) : FnT P w K mg base 4 "_law_due" f_law_due := by
  refine fn_mk hd_law_due sc_law_due (f_law_due) (sb_cons (ss_setL 2 (sl_rep (sr_of_sl (sl_lst (sa_cons se_int sa_nil))) se_int) rfl rfl)
    (sb_cons (ss_for (si_new (sl_split (se_var 0 rfl rfl) se_str)) (sg1 3 rfl rfl)
    (sb_cons (ss_asg (se_partition (se_var 3 rfl rfl) se_str) (sg3 4 5 6 rfl rfl rfl rfl rfl rfl))
    (sb_cons (ss_set 7 (se_if (st_cmp od_eqS (se_var 5 rfl rfl) se_str (nomark _)) (se_call C_law_figure.cal (sa_cons (se_var 6 rfl rfl) (sa_cons se_int sa_nil)) rfl) se_int) rfl rfl)
    (sb_cons (ss_set 8 (se_call C_law_figure.cal (sa_cons (se_var 4 rfl rfl) (sa_cons se_int sa_nil)) rfl) rfl rfl)
    (sb_cons (ss_if (st_sw (sw_or (st_cmp od_isN (se_var 7 rfl rfl) se_non (nomark _)) (sw_or1 (st_cmp od_isN (se_var 8 rfl rfl) se_non (nomark _)))))
    (sb_cons (ss_ret se_non)
    sb_nil)
    sb_nil)
    (sb_cons (ss_ix 2 rfl rfl (se_var 7 rfl rfl) (se_var 8 rfl rfl))
    sb_nil))))))
    (sb_cons (ss_while (st_sw (sw_and (st_cmp od_ne (se_var 2 rfl rfl) (se_of_sl (sl_lst sa_nil)) (nomark _)) (sw_and1 (st_cmp od_eq (se_ix (se_var 2 rfl rfl) (se_neg se_int) (fun _ _ => rfl)) se_int (nomark _)))))
    (sb_cons (ss_pop 2 rfl rfl)
    sb_nil))
    (sb_cons (ss_set 9 (se_t cd_tup z_tuple (by decide +kernel) (sa_cons (se_var 2 rfl rfl) sa_nil) rfl) rfl rfl)
    (sb_cons (ss_if (st_sw (sw_or (st_not (st_val (se_call C_law_is_sum.cal (sa_cons (se_var 9 rfl rfl) (sa_cons (se_var 1 rfl rfl) sa_nil)) rfl))) (sw_or1 (st_cmp od_neS (se_call C_law_written.cal (sa_cons (se_var 9 rfl rfl) sa_nil) rfl) (se_var 0 rfl rfl) (nomark _)))))
    (sb_cons (ss_ret se_non)
    sb_nil)
    sb_nil)
    (sb_cons (ss_ret (se_var 9 rfl rfl))
    sb_nil)))))) ?_ ?_
  · intro ds d h
    obtain ⟨_, _, rfl, _⟩ := kSI_of h
    rfl
  · intro ds d h
    obtain ⟨x0, x1, rfl, e⟩ := kSI_of h
    clear h
    simp only [Option.ite_none_right_eq_some] at e
    obtain ⟨⟨hs, hl⟩, e⟩ := e
    cases e
    have l3 : ((" + " : Str).length == 0) = false := rfl
    have l1 : (("x" : Str).length == 0) = false := rfl
    have pm : ∀ p ∈ Txt.split x0 " + ", p.length ≤ 1000000 := fun p hp => Nat.le_trans (split_mem sep3 (by decide +kernel) hp) hl
    simp only [wCons_ap, wSetL_ap]
    refine ⟨_, rep0 (n := 10) (by simp) (by omega), ?_⟩
    refine wFor_by ((Txt.split x0 " + ").map .str) (by simp [hl, l3]) (by simp) (fun i ρ1 => ∃ L a b c d e f, ρ1 = [.im (.str x0), .im (.int x1), .ow (L.map .int), a, b, c, d, e, f, .un] ∧ othLf ρ1 2 = true ∧ okDg L ∧ goR ((Txt.split x0 " + ").take i) = some L) ⟨List.replicate 10 0, .un, .un, .un, .un, .un, .un, rfl, by simp [othLf], rep_ok, rfl⟩ ?_ ?_
    · rintro i d ρ1 hi ⟨L, a, b, c, dd, ee, ff, rfl, hol, okL, hgo⟩
      rw [List.getElem?_map] at hi
      cases hp : (Txt.split x0 " + ")[i]? with
      | none => rw [hp] at hi; cases hi
      | some p =>
      rw [hp] at hi
      cases hi
      refine ⟨_, rfl, ?_⟩
      have pl := pm p (List.mem_of_getElem? hp)
      have pp := part_len p "x" sep1
      have gs := go_step hp
      rw [hgo] at gs
      have gs : goR ((Txt.split x0 " + ").take (i + 1)) = stepR L p := gs
      have bad : stepR L p = none → readM x0 x1 = none := step_none hp hgo
      have hst : stepR L p = (placeM p).bind fun k => (figM (Txt.partition p "x").1 1).map fun n => L.set k.toNat n := rfl
      have hpl : placeM p = if (Txt.partition p "x").2.1 = "x" then figM (Txt.partition p "x").2.2 1 else some 0 := rfl
      obtain ⟨u, hu⟩ : ∃ u, u = (Txt.partition p "x").1 := ⟨_, rfl⟩
      obtain ⟨v, hv⟩ : ∃ v, v = (Txt.partition p "x").2.1 := ⟨_, rfl⟩
      obtain ⟨w, hw⟩ : ∃ w, w = (Txt.partition p "x").2.2 := ⟨_, rfl⟩
      have pd := partD_str p "x"
      rw [if_pos ⟨l1, pl⟩, ← hu, ← hv, ← hw] at pd
      rw [← hu, ← hw] at pp
      rw [← hu] at hst
      rw [← hv, ← hw] at hpl
      have fu := fig_f (w := u) (e := 1) (by omega)
      have fw := fig_f (w := w) (e := 1) (by omega)
      simp only [wCons_ap, wAsg_ap, wSet_ap, wIf_ap, wRet_ap, wNil_ap, wIx_ap]
      refine ⟨.tup [.str u, .str v, .str w], _, by simp [-partD_str, pd], rfl, optI (placeM p), ?_, optI (figM u 1), by simp [fu], (placeM p).isNone || (figM u 1).isNone, ?_, fun hb => ?_, fun hb => ?_⟩
      · by_cases hk : v = "x"
        · simp [hk, fw, hpl]
        · simp [hk, hpl, optI]
      · cases placeM p <;> cases figM u 1 <;> simp [optI]
      · refine ⟨.non, by simp, ?_⟩
        rw [bad (by
          rw [hst]
          cases q1 : placeM p with
          | none => rfl
          | some k =>
            cases q2 : figM u 1 with
            | none => rfl
            | some n => rw [q1, q2] at hb; cases hb)]
        rfl
      · cases q1 : placeM p with
        | none => rw [q1] at hb; cases hb
        | some k =>
        cases q2 : figM u 1 with
        | none => rw [q1, q2] at hb; cases hb
        | some n =>
        have kr := place_rng q1
        have nr := fig_rng q2
        refine ⟨L.map .int, k, k.toNat, .int n, by simp [optI], rfl, by simp [optI], ?_, rfl, lfA_ints _, by simp [othLf, optI], ?_⟩
        · rw [ixN_in (by omega) (by rw [List.length_map, okL.1]; omega)]
        · exact ⟨L.set k.toNat n, .im (.str p), .im (.str u), .im (.str v), .im (.str w), .im (.int k), .im (.int n), by simp [optI], by simp [othLf, optI], set_ok okL _ nr.1 nr.2, by rw [gs, hst, q1, q2]; rfl⟩
    · rintro ρ1 ⟨L, a, b, c, d, ee, ff, rfl, hol, okL, hgo⟩
      rw [List.length_map, List.take_length] at hgo
      have hR : readM x0 x1 = if isSumB (tI (trimM L)) x1 = true ∧ textM (trimM L) = x0 then some (trimM L) else none := by
        unfold readM
        rw [hgo]
        rfl
      rw [hR]
      refine wWhile_by (fun n ρ1 => n ≤ L.length ∧ ∃ M, ρ1 = [.im (.str x0), .im (.int x1), .ow (M.map .int), a, b, c, d, ee, ff, .un] ∧ M = L.take n ∧ trimM (L.take n) = trimM L) L.length ⟨Nat.le_refl _, L, rfl, by simp, by rw [List.take_length]⟩ ?_
      rintro n ρ1 ⟨hn, M, rfl, hM, ht⟩
      have hlen : M.length = n := by rw [hM, List.length_take]; omega
      have hat : 0 < n → atI (M.map D.int) (-1) = some (.int (cf L (n - 1))) := fun h => by
        have hne : M ≠ [] := fun z => by rw [z] at hlen; simp at hlen; omega
        rw [atI_end hne, hlen, hM, cf_take, if_pos (by omega)]
      refine ⟨decide (0 < n) && decide (cf L (n - 1) = 0), ?_, fun hb => ?_, fun hb => ?_⟩
      · by_cases h : 0 < n
        · have hat' := hat h
          have hne : M ≠ [] := fun z => by rw [z] at hlen; simp at hlen; omega
          simp [hat', hne, h]
        · have hne : M = [] := List.length_eq_zero_iff.mp (by omega)
          simp [hne, h]
      · simp only [Bool.and_eq_true, decide_eq_true_eq] at hb
        have hne : M ≠ [] := fun z => by rw [z] at hlen; simp at hlen; omega
        simp only [wCons_ap, wPop_ap, wNil_ap]
        refine ⟨M.map .int, rfl, fun z => hne (List.map_eq_nil_iff.mp z), lfA_ints _, by simp [othLf] at hol ⊢; exact hol, n - 1, by omega, by omega, M.dropLast, by simp, ?_, ?_⟩
        · rw [hM, List.dropLast_eq_take, List.length_take, List.take_take]; congr 1; omega
        · have := trim_step (l := L) (n := n - 1) (by omega) hb.2
          rw [Nat.sub_add_cancel hb.1] at this
          rw [← this, ht]
      · simp only [Bool.and_eq_false_iff, decide_eq_false_iff_not] at hb
        have hst := trim_stop hn (by rcases hb with z | z
                                     · exact .inl (by omega)
                                     · exact .inr z)
        have eM : M = trimM L := by rw [hM, ← ht, hst]
        simp only [wCons_ap, wSet_ap, wIf_ap, wRet_ap, wNil_ap]
        rw [eM]
        have tl2 := trim_len L
        have tok := okL.1
        have hk1 : okN 60 (tI (trimM L)) = true := by simp only [okN]; exact okNA_ints _ _
        have hk2 : szD (tI (trimM L)) = true := decide_eq_true (by rw [List.length_map]; omega)
        have fi : f_law_is_sum [tI (trimM L), .int x1] = some (.bl (isSumB (tI (trimM L)) x1)) := by
          simp only [f_law_is_sum, kAI_mk, if_pos (show okN 60 (tI (trimM L)) = true ∧ szD (tI (trimM L)) = true from ⟨hk1, hk2⟩), isSum_long]
        refine ⟨tI (trimM L), by simp, !(isSumB (tI (trimM L)) x1 && decide (textM (trimM L) = x0)), ?_, fun hb => ?_, fun hb => ?_⟩
        · cases hB : isSumB (tI (trimM L)) x1 with
          | false => simp [fi, hB]
          | true =>
            obtain ⟨ns, en, c, hl2⟩ := isSum_can hs hB
            have ft := f_lwr_ok (okTx_can hs c (by omega))
            rw [← tI_inj en] at ft
            simp [fi, hB, ft]
        · have hb2 : ¬ (isSumB (tI (trimM L)) x1 = true ∧ textM (trimM L) = x0) := fun z => by simp [z.1, z.2] at hb
          rw [if_neg hb2]
          exact ⟨.non, by simp, rfl⟩
        · have hb2 : isSumB (tI (trimM L)) x1 = true ∧ textM (trimM L) = x0 := by simpa using hb
          rw [if_pos hb2]
          exact ⟨tI (trimM L), by simp, rfl⟩
theorem ok_is_number (hd_is_number : Hd K mg "is_number" s_is_number ["thing", "size"]) (z_bool : mg "bool" = none) (z_int : mg "int" = none) (z_isinstance : mg "isinstance" = none) : FnT P w K mg base 1 "is_number" f_is_number := by
  refine fn_mk hd_is_number sc_is_number (f_is_number) (sb_cons (ss_ret (se_and (se_tr (se_isi "int" z_isinstance z_int (by decide +kernel) (se_var 0 rfl rfl) rfl rfl)) (se_and (se_not (se_tr (se_isi "bool" z_isinstance z_bool (by decide +kernel) (se_var 0 rfl rfl) rfl rfl))) (se_one (se_chain od_le od_lt se_int (se_var 0 rfl rfl) (se_var 1 rfl rfl))))))
    sb_nil) ?_ ?_
  · intro ds d h
    obtain ⟨_, _, rfl, _⟩ := kAI_of h
    rfl
  · intro ds d h
    obtain ⟨x0, x1, rfl, e⟩ := kAI_of h
    clear h
    cases e
    cases x0 <;> simp [isNum]
    split <;> simp_all <;> omega
theorem ok_is_sum (hd_is_sum : Hd K mg "is_sum" s_is_sum ["thing", "size"]) (c_MOST : ∃ t, mg "MOST" = some (.int 9 t)) (z_all : mg "all" = none) (z_isinstance : mg "isinstance" = none) (z_len : mg "len" = none) (z_tuple : mg "tuple" = none) (C_is_number : FnT P w K mg base 1 "is_number" f_is_number) : FnT P w K mg base 2 "is_sum" f_is_sum := by
  refine fn_mk hd_is_sum sc_is_sum (f_is_sum) (sb_cons (ss_if (st_sw (sw_or (st_not (st_val (se_isi "tuple" z_isinstance z_tuple (by decide +kernel) (se_var 0 rfl rfl) rfl rfl))) (sw_or (st_cmp od_gt (se_b cd_len z_len (by decide +kernel) (sa_cons (se_var 0 rfl rfl) sa_nil) rfl) (se_globI rfl c_MOST) (nomark _)) (sw_or1 (st_not (st_val (se_b cd_all z_all (by decide +kernel) (sa_cons (se_of_sl (sl_lc (own := [("part", 2)]) (si_tup (se_var 0 rfl rfl)) rfl (sg1 2 rfl rfl) (by decide) sp_nil (se_call C_is_number.cal (sa_cons (se_var 2 rfl rfl) (sa_cons (se_var 1 rfl rfl) sa_nil)) rfl))) sa_nil) rfl)))))))
    (sb_cons (ss_ret se_bl)
    sb_nil)
    sb_nil)
    (sb_cons (ss_ret (se_or (se_tr (se_cmp od_eq (se_b cd_len z_len (by decide +kernel) (sa_cons (se_var 0 rfl rfl) sa_nil) rfl) se_int (nomark _))) (se_one (se_tr (se_cmp od_ne (se_ix (se_var 0 rfl rfl) (se_neg se_int) (fun _ _ => rfl)) se_int (nomark _))))))
    sb_nil)) ?_ ?_
  · intro ds d h
    obtain ⟨_, _, rfl, _⟩ := kAI_of h
    rfl
  · intro ds d h
    obtain ⟨x0, x1, rfl, e⟩ := kAI_of h
    clear h
    cases e
    cases x0 with
    | tup ds =>
      simp only [wCons_ap, wIf_ap, wRet_ap, wNil_ap]
      refine ⟨!(decide (ds.length ≤ 9) && ds.all fun d => isNum d x1), ?_, fun h => ⟨_, rfl, ?_⟩, fun h => ?_⟩
      · by_cases hl : ds.length ≤ 9
        · have hc : lcG (set1 2) gYes (gCall f_is_number (gCons (gV 2) (gCons (gV 1) gNil))) [.im (.tup ds), .im (.int x1), .un] ds = some (ds.map fun d => .bl (isNum d x1)) :=
            lcG_m _ fun d _ => ⟨_, rfl, by simp [f_is_number, kAI], rfl⟩
          have hl' : ¬ (9 < (ds.length : Int)) := by omega
          have hz : ds.length ≤ 1000000 := by omega
          simp [hl, hl', hc, hz]
        · have hl' : 9 < (ds.length : Int) := by omega
          simp [hl, hl']
      · simp only [Bool.not_eq_true', Bool.and_eq_false_iff] at h
        rcases h with h | h <;> simp [isSumB, h]
      · simp only [Bool.not_eq_false', Bool.and_eq_true, decide_eq_true_eq] at h
        obtain ⟨ns, rfl⟩ := all_int isNum_int h.2
        have e0 : isSumB (tI ns) x1 = nzL ns := by
          have e1 : isSumB (tI ns) x1 = (decide ((ns.map D.int).length ≤ 9) && (ns.map D.int).all (fun d => isNum d x1) && lastNZ (ns.map .int)) := rfl
          rw [e1, h.2, decide_eq_true h.1, lastNZ_ints]
          simp
        rw [e0]
        cases hq : ns.getLast? with
        | none =>
          have : ns = [] := List.getLast?_eq_none_iff.mp hq
          subst this
          simp [nzL_nil]
        | some i =>
          have hne : ns ≠ [] := fun z => by subst z; cases hq
          simp [last_at hq, hne, nzL_some hq]
    | _ => simp [isSumB]
theorem ok_number_of (hd_number_of : Hd K mg "number_of" s_number_of ["word", "empty"]) (x_NoText : ExcT K mg "NoText" "NoSum" "NoPart") (c_FIGURES : ∃ t, mg "FIGURES" = some (.str "0123456789" t)) (z_int : mg "int" = none) (z_len : mg "len" = none) : FnX P w K mg base 1 "number_of" xf_number_of := by
  refine fnx_mk hd_number_of sc_number_of (xf_number_of) (sr_cons (sr_of (ss_if (st_cmp od_eqS (se_var 0 rfl rfl) se_str (nomark _))
    (sb_cons (ss_ret (se_var 1 rfl rfl))
    sb_nil)
    sb_nil))
    (sr_cons (sr_if (st_sw (sw_or (st_cmp od_gt (se_b cd_len z_len (by decide +kernel) (sa_cons (se_var 0 rfl rfl) sa_nil) rfl) se_int (nomark _)) (sw_or1 (st_cmp od_notIn (se_var 0 rfl rfl) (se_globS rfl c_FIGURES) rfl))))
    (sr_cons (sr_raise x_NoText rfl)
    sr_nil)
    sr_nil)
    (sbr_of (sb_cons (ss_ret (se_t cd_int z_int (by decide +kernel) (sa_cons (se_var 0 rfl rfl) sa_nil) rfl))
    sb_nil)))) ?_ ?_
  · intro ds d h
    obtain ⟨_, _, rfl, _⟩ := kSI_of h
    rfl
  · intro ds d h
    obtain ⟨x0, x1, rfl, e⟩ := kSI_of h
    clear h
    simp only [Option.ite_none_right_eq_some] at e
    obtain ⟨hl, e⟩ := e
    cases e
    have ez : ((1 : Int) < (x0.length : Int)) = (1 < x0.length) := propext (by omega)
    simp only [xCons_ap, xOf_ap, xIf_ap, xNil_ap, xRaise_ap, wIf_ap, wCons_ap, wRet_ap, wNil_ap]
    refine ⟨decide (x0 = ""), by simp, fun hb => ?_, fun hb => ?_⟩
    · have hb := of_decide_eq_true hb
      exact ⟨.int x1, by simp, by simp [figM, hb]⟩
    · have hb := of_decide_eq_false hb
      refine ⟨decide (1 < x0.length) || !figin x0, ?_, fun hc => ?_, fun hc => ?_⟩
      · by_cases h : 1 < x0.length
        · simp [h, hl, ez]
        · simp [h, hl, ez, notInD, figin]
      · have hc2 : 1 < x0.length ∨ figin x0 = false := by simpa using hc
        simp only [figM, if_neg hb, if_pos hc2]
      · have hc1 : ¬ 1 < x0.length := fun z => by simp [z] at hc
        have hc2 : figin x0 = true := by
          cases q : figin x0 with
          | true => rfl
          | false => simp [q] at hc
        have hc3 : ¬ (1 < x0.length ∨ figin x0 = false) := by simp [hc2]; omega
        obtain ⟨f1, _, _⟩ := fig_ok hb hc1 hc2
        have hl2 : x0.length ≤ 640 := by omega
        exact ⟨.int (figV x0), by simp [hl2, f1], by simp only [figM, if_neg hb, if_neg hc3]⟩
theorem ok_piece (hd_piece : Hd K mg "piece" s_piece ["number", "power"]) (z_str : mg "str" = none) : FnT P w K mg base 1 "piece" f_piece := by
  refine fn_mk hd_piece sc_piece (f_piece) (sb_cons (ss_if (st_cmp od_eq (se_var 1 rfl rfl) se_int (nomark _))
    (sb_cons (ss_ret (se_t cd_str z_str (by decide +kernel) (sa_cons (se_var 0 rfl rfl) sa_nil) rfl))
    sb_nil)
    sb_nil)
    (sb_cons (ss_set 2 se_str rfl rfl)
    (sb_cons (ss_if (st_cmp od_ne (se_var 0 rfl rfl) se_int (nomark _))
    (sb_cons (ss_set 2 (se_bin od_add (se_t cd_str z_str (by decide +kernel) (sa_cons (se_var 0 rfl rfl) sa_nil) rfl) se_str) rfl rfl)
    sb_nil)
    sb_nil)
    (sb_cons (ss_if (st_cmp od_eq (se_var 1 rfl rfl) se_int (nomark _))
    (sb_cons (ss_ret (se_var 2 rfl rfl))
    sb_nil)
    sb_nil)
    (sb_cons (ss_ret (se_bin od_add (se_var 2 rfl rfl) (se_t cd_str z_str (by decide +kernel) (sa_cons (se_var 1 rfl rfl) sa_nil) rfl)))
    sb_nil))))) ?_ ?_
  · intro ds d h
    obtain ⟨_, _, rfl, _⟩ := kII_of h
    rfl
  · intro ds d h
    obtain ⟨x0, x1, rfl, e⟩ := kII_of h
    clear h
    simp only [Option.ite_none_right_eq_some] at e
    obtain ⟨⟨n0, n1, k0, k1⟩, e⟩ := e
    cases e
    have s0 := strD_num n0 n1
    have s1 := strD_num k0 k1
    have l0 := numS_len n0 n1
    have l1 := numS_len k0 k1
    have lx := x_len
    have q1 : (numS x0).length + ("x" : Str).length ≤ 1000000 := by omega
    have q2 : ("x" : Str).length + (numS x1).length ≤ 1000000 := by omega
    have q3 : (numS x0 ++ "x").length + (numS x1).length ≤ 1000000 := by rw [app_len]; omega
    simp only [wCons_ap, wIf_ap, wRet_ap, wSet_ap, wNil_ap]
    refine ⟨decide (x1 = 0), by simp, fun hb => ?_, fun hb => ?_⟩
    · have hb := of_decide_eq_true hb
      exact ⟨.str (numS x0), by simp [-strD_int, s0], by unfold pieceM; rw [if_pos hb]⟩
    · have hb := of_decide_eq_false hb
      refine ⟨.str "x", by simp, !decide (x0 = 1), by simp, fun hc => ?_, fun hc => ?_⟩
      · have hc : ¬ x0 = 1 := by simpa using hc
        refine ⟨.str (numS x0 ++ "x"), by simp [-strD_int, s0, q1], decide (x1 = 1), by simp, fun hd => ?_, fun hd => ?_⟩
        · have hd := of_decide_eq_true hd
          exact ⟨_, rfl, by unfold pieceM; rw [if_neg hb, if_pos hd, if_neg hc]⟩
        · have hd := of_decide_eq_false hd
          exact ⟨.str (numS x0 ++ "x" ++ numS x1), by simp [-strD_int, s1, q3], by unfold pieceM; rw [if_neg hb, if_neg hd, if_neg hc]⟩
      · have hc : x0 = 1 := by simpa using hc
        refine ⟨decide (x1 = 1), by simp, fun hd => ?_, fun hd => ?_⟩
        · have hd := of_decide_eq_true hd
          exact ⟨_, rfl, by unfold pieceM; rw [if_neg hb, if_pos hd, if_pos hc]⟩
        · have hd := of_decide_eq_false hd
          exact ⟨.str ("x" ++ numS x1), by simp [-strD_int, s1, q2], by unfold pieceM; rw [if_neg hb, if_neg hd, if_pos hc]⟩
theorem ok_sum_text (hd_sum_text : Hd K mg "sum_text" s_sum_text ["thing"]) (z_enumerate : mg "enumerate" = none) (z_len : mg "len" = none) (C_piece : FnT P w K mg base 1 "piece" f_piece) : FnT P w K mg base 2 "sum_text" f_sum_text := by
  refine fn_mk hd_sum_text sc_sum_text (f_sum_text) (sb_cons (ss_setLc 1 (own := [("power", 2), ("number", 3)]) (si_enT z_enumerate (se_var 0 rfl rfl) rfl) rfl (sg2 2 3 rfl rfl rfl rfl) (by decide) (sp_one (st_cmp od_ne (se_var 3 rfl rfl) se_int (nomark _))) (se_call C_piece.cal (sa_cons (se_var 3 rfl rfl) (sa_cons (se_var 2 rfl rfl) sa_nil)) rfl) rfl rfl rfl rfl rfl)
    (sb_cons (ss_if (st_cmp od_eq (se_b cd_len z_len (by decide +kernel) (sa_cons (se_var 1 rfl rfl) sa_nil) rfl) se_int (nomark _))
    (sb_cons (ss_ret se_str)
    sb_nil)
    sb_nil)
    (sb_cons (ss_ret (se_join se_str (sr_of_sl (sl_rev (sr_of_se (se_var 1 rfl rfl))))))
    sb_nil))) ?_ ?_
  · intro ds d h
    obtain ⟨_, rfl, _⟩ := kT_of h
    rfl
  · intro ds d h
    obtain ⟨x0, rfl, e⟩ := kT_of h
    clear h
    simp only [Option.ite_none_right_eq_some] at e
    obtain ⟨ok, e⟩ := e
    cases e
    obtain ⟨h1, h2, h3⟩ := id ok
    have hc : lcG (set2 2 3) (gT (g2 neD (gV 3) (gC (.int 0)))) (gCall f_piece (gCons (gV 3) (gCons (gV 2) gNil))) [.im (tI x0), .un, .un, .un] (enD 0 (x0.map .int)) = some ((piecesM 0 x0).map .str) := lcG_pieces 0 x0 fun n m hn a1 a2 => by
      have fp := f_piece_ok (h1 n hn) (h2 n hn) (k := (m : Int)) (by omega) (by omega)
      exact ⟨by simp, by simp [fp]⟩
    have q := gLc_by (gi := gEnT (gV 0)) (own := [2, 3]) (ρ := [.im (tI x0), .un, .un, .un]) (ds := enD 0 (x0.map .int)) (by simp) (by rw [enD_len, List.length_map]; omega) hc
    have pl := pieces_len 0 x0
    have pm := pieces_mem h1 h2 (k := 0) (by omega)
    obtain ⟨R, hR⟩ : ∃ R, R = piecesM 0 x0 := ⟨_, rfl⟩
    have hT : textM x0 = if R = [] then ("0" : Str) else Txt.join (" + " : Str) R.reverse := by rw [hR]; rfl
    rw [← hR] at q pl pm hc
    rw [hT]
    simp only [wCons_ap, wSetL_ap, wIf_ap, wRet_ap, wNil_ap]
    refine ⟨R.map .str, q, decide (R = []), ?_, fun hb => ?_, fun hb => ?_⟩
    · have : ((R.length : Int) = 0) = (R = []) := propext ⟨fun z => List.length_eq_zero_iff.mp (by omega), fun z => by rw [z]; rfl⟩
      simp [this]
    · have hb := of_decide_eq_true hb
      exact ⟨.str "0", by simp, by rw [if_pos hb]⟩
    · have hb := of_decide_eq_false hb
      refine ⟨.str (Txt.join " + " R.reverse), ?_, by rw [if_neg hb]⟩
      have s3 := sum3 (ps := R.reverse) fun p hp => pm p (List.mem_reverse.mp hp)
      rw [List.length_reverse] at s3
      have jd := joinD_strs " + " R.reverse
      have lx : (" + " : Str).length = 3 := rfl
      rw [if_pos (by rw [List.length_reverse, lx]; omega)] at jd
      rw [List.map_reverse] at jd
      simp [jd]
theorem ok_trimmed (hd_trimmed : Hd K mg "trimmed" s_trimmed ["numbers"]) (z_len : mg "len" = none) (z_tuple : mg "tuple" = none) : FnT P w K mg base 1 "trimmed" f_trimmed := by
  refine fn_mk hd_trimmed sc_trimmed (f_trimmed) (sb_cons (ss_set 1 (se_b cd_len z_len (by decide +kernel) (sa_cons (se_var 0 rfl rfl) sa_nil) rfl) rfl rfl)
    (sb_cons (ss_while (st_sw (sw_and (st_cmp od_gt (se_var 1 rfl rfl) se_int (nomark _)) (sw_and1 (st_cmp od_eq (se_ix (se_var 0 rfl rfl) (se_bin od_sub (se_var 1 rfl rfl) se_int) (fun _ _ => rfl)) se_int (nomark _)))))
    (sb_cons (ss_set 1 (se_bin od_sub (se_var 1 rfl rfl) se_int) rfl rfl)
    sb_nil))
    (sb_cons (ss_ret (se_t cd_tup z_tuple (by decide +kernel) (sa_cons (se_slA (se_var 0 rfl rfl) so_none (so_some (se_var 1 rfl rfl))) sa_nil) rfl))
    sb_nil))) ?_ ?_
  · intro ds d h
    obtain ⟨_, rfl, _⟩ := kA_of h
    rfl
  · intro ds d h
    obtain ⟨x0, rfl, e⟩ := kA_of h
    clear h
    obtain ⟨ns, hx, hl, rfl⟩ := trimA_of e
    simp only [wCons_ap, wSet_ap]
    refine ⟨.int ns.length, by rcases hx with rfl | rfl <;> simp, ?_⟩
    refine wWhile_by (fun n ρ1 => n ≤ ns.length ∧ ρ1 = [.im x0, .im (.int n)] ∧ trimM (ns.take n) = trimM ns) ns.length ⟨Nat.le_refl _, rfl, by rw [List.take_length]⟩ ?_
    rintro n ρ1 ⟨hn, rfl, ht⟩
    have hat : 0 < n → ixD x0 (.int ((n : Int) - 1)) = some (.int (cf ns (n - 1))) := fun h => by
      have := atI_cf (ns := ns) (k := (n : Int) - 1) (by omega) (by omega)
      have e2 : ((n : Int) - 1).toNat = n - 1 := by omega
      rw [e2] at this
      rcases hx with rfl | rfl <;> exact this
    refine ⟨decide (0 < n) && decide (cf ns (n - 1) = 0), ?_, fun hb => ?_, fun hb => ?_⟩
    · by_cases h : 0 < n
      · simp [h, hat h]
      · simp [h]
    · simp only [Bool.and_eq_true, decide_eq_true_eq] at hb
      simp only [wCons_ap, wSet_ap, wNil_ap]
      refine ⟨.int ((n : Int) - 1), by simp, n - 1, by omega, by omega, ?_, ?_⟩
      · have : ((n : Int) - 1) = ((n - 1 : Nat) : Int) := by omega
        rw [this]; rfl
      · have := trim_step (l := ns) (n := n - 1) (by omega) hb.2
        rw [Nat.sub_add_cancel hb.1] at this
        rw [← this, ht]
    · simp only [Bool.and_eq_false_iff, decide_eq_false_iff_not] at hb
      have hs := trim_stop hn (by rcases hb with z | z
                                  · exact .inl (by omega)
                                  · exact .inr z)
      simp only [wCons_ap, wRet_ap]
      refine ⟨tI (trimM ns), ?_, rfl⟩
      rw [← ht, hs]
      rcases hx with rfl | rfl <;> simp [cut_to]
theorem ok_read (hd_read : Hd K mg "read" s_read ["text", "size"]) (x_NoText : ExcT K mg "NoText" "NoSum" "NoPart") (z_isinstance : mg "isinstance" = none) (z_str : mg "str" = none) (C_is_sum : FnT P w K mg base 2 "is_sum" f_is_sum) (C_number_of : FnX P w K mg base 1 "number_of" xf_number_of) (C_sum_text : FnT P w K mg base 2 "sum_text" f_sum_text) (C_trimmed : FnT P w K mg base 1 "trimmed" f_trimmed) : FnX P w K mg base 3 "read" xf_read := by
  refine fnx_mk hd_read sc_read (xf_read) (sr_cons (sr_if (st_not (st_val (se_isi "str" z_isinstance z_str (by decide +kernel) (se_var 0 rfl rfl) rfl rfl)))
    (sr_cons (sr_raise x_NoText rfl)
    sr_nil)
    sr_nil)
    (sr_cons (sr_of (ss_setL 2 (sl_rep (sr_of_sl (sl_lst (sa_cons se_int sa_nil))) se_int) rfl rfl))
    (sr_cons (sr_for (si_new (sl_split (se_var 0 rfl rfl) se_str)) (sg1 3 rfl rfl)
    (sr_cons (sr_of (ss_asg (se_partition (se_var 3 rfl rfl) se_str) (sg3 4 5 6 rfl rfl rfl rfl rfl rfl)))
    (sr_cons (sr_of (ss_set 7 se_int rfl rfl))
    (sr_cons (sr_if (st_cmp od_eqS (se_var 5 rfl rfl) se_str (nomark _))
    (sr_cons (sr_set 7 C_number_of (sa_cons (se_var 6 rfl rfl) (sa_cons se_int sa_nil)) rfl rfl rfl)
    sr_nil)
    sr_nil)
    (sr_cons (sr_ix 2 C_number_of (se_var 7 rfl rfl) (sa_cons (se_var 4 rfl rfl) (sa_cons se_int sa_nil)) rfl rfl rfl)
    sr_nil)))))
    (sr_cons (sr_of (ss_set 8 (se_call C_trimmed.cal (sa_cons (se_var 2 rfl rfl) sa_nil) rfl) rfl rfl))
    (sr_cons (sr_if (st_sw (sw_or (st_not (st_val (se_call C_is_sum.cal (sa_cons (se_var 8 rfl rfl) (sa_cons (se_var 1 rfl rfl) sa_nil)) rfl))) (sw_or1 (st_cmp od_neS (se_call C_sum_text.cal (sa_cons (se_var 8 rfl rfl) sa_nil) rfl) (se_var 0 rfl rfl) (nomark _)))))
    (sr_cons (sr_raise x_NoText rfl)
    sr_nil)
    sr_nil)
    (sbr_of (sb_cons (ss_ret (se_var 8 rfl rfl))
    sb_nil))))))) ?_ ?_
  · intro ds d h
    obtain ⟨_, _, rfl, _⟩ := kSI_of h
    rfl
  · intro ds d h
    obtain ⟨x0, x1, rfl, e⟩ := kSI_of h
    clear h
    simp only [Option.ite_none_right_eq_some] at e
    obtain ⟨⟨hs, hl⟩, e⟩ := e
    cases e
    have l3 : ((" + " : Str).length == 0) = false := rfl
    have l1 : (("x" : Str).length == 0) = false := rfl
    have pm : ∀ p ∈ Txt.split x0 " + ", p.length ≤ 1000000 := fun p hp => Nat.le_trans (split_mem sep3 (by decide +kernel) hp) hl
    simp only [xCons_ap, xIf_ap, xOf_ap, xNil_ap, xRaise_ap, wSetL_ap]
    refine ⟨false, by simp, fun z => (nomatch z), fun _ => ?_⟩
    refine ⟨_, rep0 (n := 10) (by simp) (by omega), ?_⟩
    refine xFor_by ((Txt.split x0 " + ").map .str) (by simp [hl, l3]) (by simp) (fun i ρ1 => ∃ L a b c d e, ρ1 = [.im (.str x0), .im (.int x1), .ow (L.map .int), a, b, c, d, e, .un] ∧ othLf ρ1 2 = true ∧ okDg L ∧ goR ((Txt.split x0 " + ").take i) = some L) ⟨List.replicate 10 0, .un, .un, .un, .un, .un, rfl, by simp [othLf], rep_ok, rfl⟩ ?_ ?_
    · rintro i d ρ1 hi ⟨L, a, b, c, dd, ee, rfl, hol, okL, hgo⟩
      rw [List.getElem?_map] at hi
      cases hp : (Txt.split x0 " + ")[i]? with
      | none => rw [hp] at hi; cases hi
      | some p =>
      rw [hp] at hi
      cases hi
      refine ⟨_, rfl, ?_⟩
      have pl := pm p (List.mem_of_getElem? hp)
      have pp := part_len p "x" sep1
      have gs := go_step hp
      rw [hgo] at gs
      have gs : goR ((Txt.split x0 " + ").take (i + 1)) = stepR L p := gs
      have bad : stepR L p = none → readM x0 x1 = none := step_none hp hgo
      have hst : stepR L p = (placeM p).bind fun k => (figM (Txt.partition p "x").1 1).map fun n => L.set k.toNat n := rfl
      have hpl : placeM p = if (Txt.partition p "x").2.1 = "x" then figM (Txt.partition p "x").2.2 1 else some 0 := rfl
      obtain ⟨u, hu⟩ : ∃ u, u = (Txt.partition p "x").1 := ⟨_, rfl⟩
      obtain ⟨v, hv⟩ : ∃ v, v = (Txt.partition p "x").2.1 := ⟨_, rfl⟩
      obtain ⟨w, hw⟩ : ∃ w, w = (Txt.partition p "x").2.2 := ⟨_, rfl⟩
      have pd := partD_str p "x"
      rw [if_pos ⟨l1, pl⟩, ← hu, ← hv, ← hw] at pd
      rw [← hu, ← hw] at pp
      rw [← hu] at hst
      rw [← hv, ← hw] at hpl
      simp only [xCons_ap, xOf_ap, xNil_ap, wAsg_ap, wSet_ap]
      refine ⟨.tup [.str u, .str v, .str w], _, by simp [-partD_str, pd], rfl, .int 0, by simp, ?_⟩
      refine xIf_to (k := decide (v = "x")) (by simp) (fun ρ' => ∃ k, placeM p = some k ∧ ρ' = [.im (.str x0), .im (.int x1), .ow (L.map .int), .im (.str p), .im (.str u), .im (.str v), .im (.str w), .im (.int k), .un]) (fun hk Q hq => ?_) (fun hk Q hq => ?_) ?_
      · have hk := of_decide_eq_true hk
        rw [if_pos hk] at hpl
        simp only [xCons_ap, xSet_ap, xNil_ap]
        have xn := xnum_ok (w := w) (e := 1) (by omega)
        refine ⟨[.str w, .int 1], _, by simp, xn, fun d hd => ?_, fun y hy => ?_⟩
        · cases q : figM w 1 with
          | none => rw [q] at hd; cases hd
          | some k =>
            rw [q] at hd
            cases hd
            exact hq _ ⟨k, by rw [hpl, q], rfl⟩
        · cases q : figM w 1 with
          | none =>
            rw [q] at hy
            cases hy
            rw [bad (by rw [hst, hpl, q]; rfl)]; rfl
          | some k => rw [q] at hy; cases hy
      · have hk := of_decide_eq_false hk
        rw [if_neg hk] at hpl
        exact hq _ ⟨0, hpl, rfl⟩
      · rintro ρ' ⟨k, hk, rfl⟩
        have kr := place_rng hk
        have xn := xnum_ok (w := u) (e := 1) (by omega)
        simp only [xIx_ap]
        refine ⟨[.str u, .int 1], _, by simp, xn, fun d hd => ?_, fun y hy => ?_⟩
        · cases q : figM u 1 with
          | none => rw [q] at hd; cases hd
          | some n =>
            rw [q] at hd
            cases hd
            have nr := fig_rng q
            refine ⟨L.map .int, k, k.toNat, rfl, by simp, ?_, rfl, lfA_ints _, by simp [othLf], ?_⟩
            · rw [ixN_in (by omega) (by rw [List.length_map, okL.1]; omega)]
            · exact ⟨L.set k.toNat n, .im (.str p), .im (.str u), .im (.str v), .im (.str w), .im (.int k), by simp, by simp [othLf], set_ok okL _ nr.1 nr.2, by rw [gs, hst, hk, q]; rfl⟩
        · cases q : figM u 1 with
          | none =>
            rw [q] at hy
            cases hy
            rw [bad (by rw [hst, hk, q]; rfl)]; rfl
          | some k => rw [q] at hy; cases hy
    · rintro ρ1 ⟨L, a, b, c, d, ee, rfl, hol, okL, hgo⟩
      rw [List.length_map, List.take_length] at hgo
      have hR : readM x0 x1 = if isSumB (tI (trimM L)) x1 = true ∧ textM (trimM L) = x0 then some (trimM L) else none := by
        unfold readM
        rw [hgo]
        rfl
      rw [hR]
      have l2 : L.length ≤ 2000 := by have := okL.1; omega
      simp only [xCons_ap, xOf_ap, xIf_ap, xNil_ap, xRaise_ap, wSet_ap, wCons_ap, wRet_ap, wNil_ap]
      refine ⟨tI (trimM L), by simp [f_trimmed, kA, l2], !(isSumB (tI (trimM L)) x1 && decide (textM (trimM L) = x0)), ?_, fun hb => ?_, fun hb => ?_⟩
      · cases hB : isSumB (tI (trimM L)) x1 with
        | false => simp [f_is_sum, kAI, hB]
        | true =>
          obtain ⟨ns, en, c, hl2⟩ := isSum_can hs hB
          have ft := f_text_ok (okTx_can hs c (by omega))
          rw [← tI_inj en] at ft
          simp [f_is_sum, kAI, hB, ft]
      · have hb2 : ¬ (isSumB (tI (trimM L)) x1 = true ∧ textM (trimM L) = x0) := fun z => by simp [z.1, z.2] at hb
        rw [if_neg hb2]; rfl
      · have hb2 : isSumB (tI (trimM L)) x1 = true ∧ textM (trimM L) = x0 := by simpa using hb
        rw [if_pos hb2]
        exact ⟨_, rfl, rfl⟩
theorem ok_law_found (hd_law_found : Hd K mg "_law_found" s_law_found ["_law_text", "_law_size"]) (x_NoText : ExcT K mg "NoText" "NoSum" "NoPart") (z_ValueError : mg "ValueError" = none) (z_int : mg "int" = none) (z_isinstance : mg "isinstance" = none) (C_read : FnX P w K mg base 3 "read" xf_read) : FnT P w K mg base 4 "_law_found" f_law_found := by
  obtain ⟨C, F, A, B, x⟩ := x_NoText
  refine fn_mk hd_law_found sc_law_found (f_law_found) (sb_cons (ss_tryAs 3 x.gC x.gC x.mC
    (sr_cons (sr_set 2 C_read (sa_cons (se_var 0 rfl rfl) (sa_cons (se_var 1 rfl rfl) sa_nil)) rfl rfl rfl)
    sr_nil)
    (fun a => (sb_cons (ss_set 4 (se_and (se_tr (se_isE (i := 3) x.e x.kF x.gF rfl rfl rfl rfl z_isinstance rfl)) (se_one (se_tr (se_isEV (i := 3) x.e x.kV z_ValueError rfl rfl rfl rfl z_isinstance rfl)))) rfl rfl)
    (sb_cons (ss_ret (se_ix (se_of_sl (sl_lst (sa_cons (se_tup (sa_cons se_int sa_nil)) (sa_cons se_non sa_nil)))) (se_t cd_int z_int (by decide +kernel) (sa_cons (se_and (se_tr (se_var 4 rfl rfl)) (se_and (se_not (se_tr (se_isE (i := 3) x.e x.kA x.gA rfl rfl rfl rfl z_isinstance rfl))) (se_one (se_not (se_tr (se_isE (i := 3) x.e x.kB x.gB rfl rfl rfl rfl z_isinstance rfl)))))) sa_nil) rfl) (fun _ _ => rfl)))
    sb_nil))) rfl rfl rfl rfl)
    (sb_cons (ss_ret (se_ix (se_of_sl (sl_lst (sa_cons (se_var 2 rfl rfl) (sa_cons (se_tup (sa_cons se_int sa_nil)) sa_nil)))) (se_t cd_int z_int (by decide +kernel) (sa_cons (se_cmp od_isN (se_var 2 rfl rfl) se_non (nomark _)) sa_nil) rfl) (fun _ _ => rfl)))
    sb_nil)) ?_ ?_
  · intro ds d h
    obtain ⟨_, _, rfl, _⟩ := kSI_of h
    rfl
  · intro ds d h
    obtain ⟨x0, x1, rfl, e⟩ := kSI_of h
    clear h
    simp only [Option.ite_none_right_eq_some] at e
    obtain ⟨ok, e⟩ := e
    cases e
    simp only [wCons_ap, wTry_ap, xCons_ap, xSet_ap, xNil_ap, wRet_ap, wSet_ap, wNil_ap, noPo_rt]
    refine ⟨[.str x0, .int x1], optR (readM x0 x1), by simp, by simp only [xf_read, kSI_mk, if_pos ok], fun d hd => ?_, fun x' hx' => ?_⟩
    · cases q : readM x0 x1 with
      | none => rw [q] at hd; cases hd
      | some l =>
        rw [q] at hd
        cases hd
        refine ⟨tI l, ?_, rfl⟩
        simp [at0]
    · cases q : readM x0 x1 with
      | none =>
        rw [q] at hx'
        cases hx'
        refine ⟨rfl, fun a => ⟨.bl true, by simp, .non, by simp [at1], rfl⟩⟩
      | some l => rw [q] at hx'; cases hx'
theorem ok_law_cell_at (hd_law_cell_at : Hd K mg "_law_cell_at" s_law_cell_at ["_law_script", "_law_k"]) (z_len : mg "len" = none) : FnT P w K mg base 1 "_law_cell_at" f_law_cell_at := by
  refine fn_mk hd_law_cell_at sc_law_cell_at (f_law_cell_at) (sb_cons (ss_if (st_cmp od_lt (se_var 1 rfl rfl) (se_b cd_len z_len (by decide +kernel) (sa_cons (se_var 0 rfl rfl) sa_nil) rfl) (nomark _))
    (sb_cons (ss_ret (se_ix (se_var 0 rfl rfl) (se_var 1 rfl rfl) (fun _ _ => rfl)))
    sb_nil)
    sb_nil)
    (sb_cons (ss_ret se_int)
    sb_nil)) ?_ ?_
  · intro ds d h
    obtain ⟨_, _, rfl, _⟩ := kCI_of h
    rfl
  · intro ds d h
    obtain ⟨x0, x1, rfl, e⟩ := kCI_of h
    clear h
    simp at e
    obtain ⟨h0, rfl⟩ := e
    simp [cellM]
    constructor
    · intro hk
      have hk' : x1.toNat < x0.length := by omega
      rw [atI_get h0 (List.getElem?_eq_getElem hk')]
      simp [hk, hk']
    · intro hk hk2
      omega
theorem ok_law_mixed (hd_law_mixed : Hd K mg "_law_mixed" s_law_mixed ["_law_script", "_law_k"]) (C_law_cell_at : FnT P w K mg base 1 "_law_cell_at" f_law_cell_at) : FnT P w K mg base 2 "_law_mixed" f_law_mixed := by
  refine fn_mk hd_law_mixed sc_law_mixed (f_law_mixed) (sb_cons (ss_set 2 (se_bin od_mod (se_bin od_mul (se_bin od_add (se_bin od_add (se_call C_law_cell_at.cal (sa_cons (se_var 0 rfl rfl) (sa_cons (se_var 1 rfl rfl) sa_nil)) rfl) (se_bin od_mul se_int (se_var 1 rfl rfl))) se_int) se_int) se_int) rfl rfl)
    (sb_cons (ss_ret (se_bin od_mod (se_bin od_add (se_bin od_add (se_bin od_mul (se_var 2 rfl rfl) (se_var 2 rfl rfl)) (se_bin od_mul se_int (se_var 2 rfl rfl))) (se_var 1 rfl rfl)) se_int))
    sb_nil)) ?_ ?_
  · intro ds d h
    obtain ⟨_, _, rfl, _⟩ := kCI_of h
    rfl
  · intro ds d h
    obtain ⟨x0, x1, rfl, e⟩ := kCI_of h
    clear h
    simp at e
    obtain ⟨h0, rfl⟩ := e
    simp [f_law_cell_at, h0, mixS, mixM]
    omega
theorem ok_law_sum (hd_law_sum : Hd K mg "_law_sum" s_law_sum ["_law_number_here", "_law_size", "_law_most"]) (z_int : mg "int" = none) (z_range : mg "range" = none) (z_tuple : mg "tuple" = none) (C_law_drawn : FnT P w K mg base 1 "_law_drawn" f_law_drawn) : FnT P w K mg base 2 "_law_sum" f_law_sum := by
  refine fn_mk hd_law_sum sc_law_sum (f_law_sum) (sb_cons (ss_set 3 (se_bin od_mod (se_var 0 rfl rfl) (se_bin od_add (se_var 2 rfl rfl) se_int)) rfl rfl)
    (sb_cons (ss_setL 4 (sl_lst sa_nil) rfl rfl)
    (sb_cons (ss_for (si_rng1 z_range (sa_cons (se_var 3 rfl rfl) sa_nil) rfl) (sg1 5 rfl rfl)
    (sb_cons (ss_set 6 (se_call C_law_drawn.cal (sa_cons (se_var 0 rfl rfl) (sa_cons (se_var 5 rfl rfl) sa_nil)) rfl) rfl rfl)
    (sb_cons (ss_app 4 rfl rfl (se_bin od_mul (se_bin od_mod (se_bin od_fdiv (se_var 6 rfl rfl) se_int) (se_var 1 rfl rfl)) (se_t cd_int z_int (by decide +kernel) (sa_cons (se_or (se_tr (se_cmp od_gt (se_bin od_mod (se_bin od_fdiv (se_var 0 rfl rfl) se_int) se_int) se_int (nomark _))) (se_one (se_tr (se_cmp od_eq (se_bin od_mod (se_var 6 rfl rfl) se_int) se_int (nomark _))))) sa_nil) rfl)))
    sb_nil)))
    (sb_cons (ss_if (st_cmp od_gt (se_var 3 rfl rfl) se_int (nomark _))
    (sb_cons (ss_ix 4 rfl rfl (se_neg se_int) (se_bin od_add se_int (se_bin od_mod (se_call C_law_drawn.cal (sa_cons (se_var 0 rfl rfl) (sa_cons se_int sa_nil)) rfl) (se_bin od_sub (se_var 1 rfl rfl) se_int))))
    sb_nil)
    sb_nil)
    (sb_cons (ss_ret (se_t cd_tup z_tuple (by decide +kernel) (sa_cons (se_var 4 rfl rfl) sa_nil) rfl))
    sb_nil))))) ?_ ?_
  · intro ds d h
    obtain ⟨_, _, _, rfl, _⟩ := kIII_of h
    rfl
  · intro ds d h
    obtain ⟨x0, x1, x2, rfl, e⟩ := kIII_of h
    clear h
    simp at e
    obtain ⟨⟨h0, h1, h2, h3, h4⟩, rfl⟩ := e
    have hm := Int.emod_nonneg x0 (show x2 + 1 ≠ 0 by omega)
    have hm2 := Int.emod_lt_of_pos x0 (show 0 < x2 + 1 by omega)
    simp only [wCons_ap, wSet_ap, wSetL_ap]
    refine ⟨.int (x0 % (x2 + 1)), by simp; omega, [], rfl, ?_⟩
    refine wFor_by (rngD 0 (x0 % (x2 + 1)).toNat) (by simp; omega) (by simp) (fun j ρ1 => ∃ a b, ρ1 = [.im (.int x0), .im (.int x1), .im (.int x2), .im (.int (x0 % (x2 + 1))), .ow (((List.range j).map (coefM x0 x1)).map .int), a, b] ∧ othLf ρ1 4 = true) ⟨_, _, rfl, by simp [othLf]⟩ ?_ ?_
    · rintro j d ρ1 hj ⟨a, b, rfl, hl⟩
      obtain ⟨hj, rfl⟩ := rngD_some hj
      refine ⟨_, rfl, ?_⟩
      have dn := drawM_nonneg x0 (j : Int)
      have dl := drawM_lt x0 (j : Int)
      have hx : 0 < x1 := by omega
      have em : drawM x0 (j : Int) / 8 % x1 < x1 := Int.emod_lt_of_pos _ hx
      have en := Int.emod_nonneg (drawM x0 (j : Int) / 8) (show x1 ≠ 0 by omega)
      simp only [wCons_ap, wSet_ap, wNil_ap, wApp_ap]
      refine ⟨.int (drawM x0 j), by simp [f_law_drawn], _, .int (coefM x0 x1 j), rfl, ?_, by simp; omega, rfl, lfA_ints _, by simp [othLf], ?_⟩
      · simp [hx, coefM]
        by_cases c1 : 0 < x0 / 16 % 3 <;> by_cases c2 : drawM x0 (j : Int) % 3 = 0 <;> simp [c1, c2] <;> omega
      · exact ⟨.im (.int j), .im (.int (drawM x0 j)), by simp [List.range_succ], by simp [othLf]⟩
    · rintro ρ1 ⟨a, b, rfl, hl⟩
      rw [rngD_len]
      simp only [wCons_ap, wIf_ap, wIx_ap, wRet_ap, wNil_ap]
      have dn := drawM_nonneg x0 40
      have es := Int.emod_nonneg (drawM x0 40) (show x1 - 1 ≠ 0 by omega)
      refine ⟨decide (0 < x0 % (x2 + 1)), by simp, fun hp => ?_, fun hp => ?_⟩
      · have hp := of_decide_eq_true hp
        refine ⟨_, -1, (x0 % (x2 + 1)).toNat - 1, .int (1 + drawM x0 40 % (x1 - 1)), by simp [f_law_drawn]; omega, rfl, rfl, ?_, rfl, lfA_ints _, by rw [rngD_len] at hl; exact hl, ?_⟩
        · simp only [List.length_map, List.length_range]
          unfold ixN
          rw [if_neg (by decide), if_pos (by omega)]
          congr 1
          omega
        · refine ⟨_, rfl, ?_⟩
          simp [sumM, hp]
      · have hp := of_decide_eq_false hp
        refine ⟨_, rfl, ?_⟩
        simp [sumM, hp]
theorem ok_law {fa : Addr} {fd : FuncData} (F : Fun K "law" "law" s_law fa fd) (z_range : mg "range" = none) (C_law_changed : FnT P w K mg base 1 "_law_changed" f_law_changed) (C_law_drawn : FnT P w K mg base 1 "_law_drawn" f_law_drawn) (C_law_due : FnT P w K mg base 4 "_law_due" f_law_due) (C_law_found : FnT P w K mg base 4 "_law_found" f_law_found) (C_law_is_sum : FnT P w K mg base 3 "_law_is_sum" f_law_is_sum) (C_law_mixed : FnT P w K mg base 2 "_law_mixed" f_law_mixed) (C_law_sum : FnT P w K mg base 2 "_law_sum" f_law_sum) (C_law_written : FnT P w K mg base 1 "_law_written" f_law_written) : FnOk P w K mg base CX0 5 fa fd ["_law_script"] (spD K f_law) := by
  refine fnok_mk F sc_law f_law (sb_cons (ss_set 1 (se_ix (se_tup (sa_cons se_int (sa_cons se_int (sa_cons se_int sa_nil)))) (se_bin od_mod (se_call C_law_mixed.cal (sa_cons (se_var 0 rfl rfl) (sa_cons se_int sa_nil)) rfl) se_int) (fun _ _ => rfl)) rfl rfl)
    (sb_cons (ss_set 2 (se_call C_law_sum.cal (sa_cons (se_call C_law_mixed.cal (sa_cons (se_var 0 rfl rfl) (sa_cons se_int sa_nil)) rfl) (sa_cons (se_var 1 rfl rfl) (sa_cons se_int sa_nil))) rfl) rfl rfl)
    (sb_cons (ss_set 3 (se_call C_law_written.cal (sa_cons (se_var 2 rfl rfl) sa_nil) rfl) rfl rfl)
    (sb_cons (ss_set 4 (se_call C_law_mixed.cal (sa_cons (se_var 0 rfl rfl) (sa_cons se_int sa_nil)) rfl) rfl rfl)
    (sb_cons (ss_for (si_rng1 z_range (sa_cons (se_bin od_mul (se_bin od_mod (se_var 4 rfl rfl) se_int) (se_bin od_add se_int (se_bin od_mod (se_bin od_fdiv (se_var 4 rfl rfl) se_int) se_int))) sa_nil) rfl) (sg1 5 rfl rfl)
    (sb_cons (ss_set 3 (se_call C_law_changed.cal (sa_cons (se_var 3 rfl rfl) (sa_cons (se_call C_law_drawn.cal (sa_cons (se_var 4 rfl rfl) (sa_cons (se_var 5 rfl rfl) sa_nil)) rfl) sa_nil)) rfl) rfl rfl)
    sb_nil))
    (sb_cons (ss_set 6 (se_call C_law_found.cal (sa_cons (se_var 3 rfl rfl) (sa_cons (se_var 1 rfl rfl) sa_nil)) rfl) rfl rfl)
    (sb_cons (ss_ret (se_and (se_tr (se_cmp od_eq (se_var 6 rfl rfl) (se_call C_law_due.cal (sa_cons (se_var 3 rfl rfl) (sa_cons (se_var 1 rfl rfl) sa_nil)) rfl) (nomark _))) (se_one (se_or (se_tr (se_cmp od_isN (se_var 6 rfl rfl) se_non (nomark _))) (se_one (se_tr (se_call C_law_is_sum.cal (sa_cons (se_var 6 rfl rfl) (sa_cons (se_var 1 rfl rfl) sa_nil)) rfl)))))))
    sb_nil))))))) ?_ ?_
  · intro ds d h
    obtain ⟨_, rfl, _⟩ := kC_of h
    rfl
  · intro ds d h
    obtain ⟨x0, rfl, e⟩ := kC_of h
    clear h
    simp only [Option.ite_none_right_eq_some] at e
    obtain ⟨hlen, e⟩ := e
    cases e
    have hs := sz_szM (mixS x0 0)
    obtain ⟨s, hS⟩ : ∃ s, s = szM (mixS x0 0) := ⟨_, rfl⟩
    rw [← hS] at hs
    have g := hs.ge
    have hx : 0 < s := by omega
    
    have m1 := mixS_nonneg x0 1
    have m2 := mixS_nonneg x0 2
    have fs1 := f_sum_ok hs m1 (m := 10)
    have ca := sum_can hs (mixS x0 1) (m := 10)
    have la : (sumM (mixS x0 1) s 10).length ≤ 10 := sum_le hs (mixS x0 1) (m := 10)
    obtain ⟨a, hA⟩ : ∃ a, a = sumM (mixS x0 1) s 10 := ⟨_, rfl⟩
    rw [← hA] at fs1 ca la
    have ok := okTx_can hs ca la
    have fl := f_lwr_ok ok
    have tl0 := text_len ok
    obtain ⟨n, hn⟩ : ∃ n, n = mixS x0 2 := ⟨_, rfl⟩
    rw [← hn] at m2
    have r0 := Int.emod_nonneg n (show (3 : Int) ≠ 0 by decide)
    have r1 := Int.emod_lt_of_pos n (show (0 : Int) < 3 by decide)
    have r2 := Int.emod_nonneg (n / 3) (show (2 : Int) ≠ 0 by decide)
    have r3 := Int.emod_lt_of_pos (n / 3) (show (0 : Int) < 2 by decide)
    obtain ⟨J, hJ⟩ : ∃ J : Int, J = n % 3 * (1 + n / 3 % 2) := ⟨_, rfl⟩
    have J4 : 0 ≤ J ∧ J ≤ 4 := by
      have q1 : n % 3 = 0 ∨ n % 3 = 1 ∨ n % 3 = 2 := by omega
      rcases q1 with h | h | h <;> rw [h] at hJ <;> omega
    have mm := mulD_in (x := n % 3) (y := 1 + n / 3 % 2) (by omega) (by omega)
    rw [← hJ] at mm
    simp only [wCons_ap, wSet_ap]
    refine ⟨.int s, by simp [f_law_mixed, atI_235, hS], tI a, by simp [f_mixed]; exact fs1, .str (textM a), by simp [fl], .int n, by simp [f_mixed, hn], ?_⟩
    refine wFor_by (rngD 0 J.toNat) (by
      have q1 : -(2 ^ 62) ≤ J := by omega
      have q2 : J < 2 ^ 62 := by omega
      simp [-mulD_int, mm]
      omega) (by simp) (fun j ρ1 => ∃ t b, ρ1 = [.im (.scr x0), .im (.int s), .im (tI a), .im (.str t), .im (.int n), b, .un] ∧ t.length ≤ 100 * 9 ^ j) ⟨_, _, rfl, by omega⟩ ?_ ?_
    · rintro j d ρ1 hj ⟨t, b, rfl, ht⟩
      obtain ⟨hj2, rfl⟩ := rngD_some hj
      refine ⟨_, rfl, ?_⟩
      have p1 : 9 ^ j ≤ 9 ^ 3 := Nat.pow_le_pow_right (by omega) (by omega)
      have p0 : 0 < 9 ^ j := Nat.pow_pos (by omega)
      have fc := ch_ok (t := t) (n := drawM n (0 + (j : Int))) (drawM_nonneg _ _) (by omega)
      have lc := ch_len t (drawM n (0 + (j : Int)))
      simp only [wCons_ap, wSet_ap, wNil_ap]
      refine ⟨.str (chM t (drawM n (0 + (j : Int)))), ?_, chM t (drawM n (0 + (j : Int))), .im (.int (0 + (j : Int))), rfl, ?_⟩
      · generalize (0 + (j : Int)) = jj at fc ⊢
        simp [f_law_drawn, fc]
      · rw [Nat.pow_succ]
        omega
    · rintro ρ1 ⟨t, b, rfl, ht⟩
      rw [rngD_len] at ht
      have p1 : 9 ^ J.toNat ≤ 9 ^ 4 := Nat.pow_le_pow_right (by omega) (by omega)
      obtain ⟨f1, f2⟩ := found_ok hs (t := t) (by omega)
      simp only [wCons_ap, wSet_ap, wRet_ap]
      refine ⟨optT (readM t s), by simp [f1], .bl true, ?_, rfl⟩
      cases q : readM t s with
      | none =>
        rw [q] at f2
        simp [f2, optT, eqD_non]
      | some l =>
        rw [q] at f2
        obtain ⟨c, hl⟩ := read_can hs q
        have fi := f_is_ok hs c hl
        simp [f2, optT, fi]
end
end Pf
open PySem PySem.W PyProof.Rows
set_option maxHeartbeats 0 in
theorem PySem.Challenge.cw_primefold_k03_whole_read_holds : PySem.Challenge.rw_primefold_k03_whole_read.Holds := by
  w_on; o_law; k_head; (case hw => w_witness2)
  k_fill
  refine Pf.law_end (l := PySem.Challenge.rw_primefold_k03_whole_read) (k := 5) (x := "_law_script") rfl rfl ⟨rfl, by decide, by decide⟩ (fun w h Y => PySem.W.kIn_of Y) Pf.f_law (fun ns h => Pf.f_law_true ns h) ?F
  case F =>
    intro w mg fa h KX G hmg
    have x_NoText : Pf.ExcG KX mg "NoText" "NoSum" "NoPart" := by
      refine' Pf.exc_mk KX G ?za1 ?za2 ?za3 ?za4 ?zxq ?zkC ?zr1 ?zr2 ?ze1 ?ze2 ?ze4 ?ze5 ?ze6 ?ze7 ?ze8 ?zf1 ?zf2 ?zf3 ?zf4 ?zf5 ?zkF ?zkV ?zkA ?zkB ?zkS
      (case za1 => k_is); (case za2 => k_is); (case za3 => k_is); (case za4 => k_is); (case zxq => first | k_is | k_exc); (case zkC => k_is); (case zr1 => k_is); (case zr2 => k_is); (case ze1 => k_is); (case ze2 => k_is); (case ze4 => k_is); (case ze5 => k_is); (case ze6 => k_is); (case ze7 => k_is); (case ze8 => k_is); (case zf1 => k_is); (case zf2 => k_is); (case zf3 => k_is); (case zf4 => k_is); (case zf5 => k_is); (case zkF => kit_is); (case zkV => kit_is); (case zkA => kit_is); (case zkB => kit_is); (case zkS => kit_is)
    have c_FIGURES : ∃ t, mg "FIGURES" = some (.str "0123456789" t) := by
      refine' Pf.mgS_of KX G ?z
      (case z => k_is)
    have c_MOST : ∃ t, mg "MOST" = some (.int 9 t) := by
      refine' Pf.mgI_of KX G ?z
      (case z => k_is)
    have z_ValueError : mg "ValueError" = none := by
      refine' PySem.W.mg_none_of KX G ?z
      (case z => k_is)
    have z_all : mg "all" = none := by
      refine' PySem.W.mg_none_of KX G ?z
      (case z => k_is)
    have z_bool : mg "bool" = none := by
      refine' PySem.W.mg_none_of KX G ?z
      (case z => k_is)
    have z_enumerate : mg "enumerate" = none := by
      refine' PySem.W.mg_none_of KX G ?z
      (case z => k_is)
    have z_int : mg "int" = none := by
      refine' PySem.W.mg_none_of KX G ?z
      (case z => k_is)
    have z_isinstance : mg "isinstance" = none := by
      refine' PySem.W.mg_none_of KX G ?z
      (case z => k_is)
    have z_len : mg "len" = none := by
      refine' PySem.W.mg_none_of KX G ?z
      (case z => k_is)
    have z_range : mg "range" = none := by
      refine' PySem.W.mg_none_of KX G ?z
      (case z => k_is)
    have z_str : mg "str" = none := by
      refine' PySem.W.mg_none_of KX G ?z
      (case z => k_is)
    have z_tuple : mg "tuple" = none := by
      refine' PySem.W.mg_none_of KX G ?z
      (case z => k_is)
    have hd_law_changed : Pf.HdG KX mg "_law_changed" Pf.s_law_changed ["_law_text", "_law_number_here"] := by
      refine' Pf.hd_mk KX G ?a ?l ?c ?k (fun _ _ _ _ _ _ us hl => match us, hl with | [_, _], _ => rfl)
      (case a => k_is); (case l => k_is); (case c => k_is); (case k => k_is)
    have hd_law_drawn : Pf.HdG KX mg "_law_drawn" Pf.s_law_drawn ["_law_number_here", "_law_k"] := by
      refine' Pf.hd_mk KX G ?a ?l ?c ?k (fun _ _ _ _ _ _ us hl => match us, hl with | [_, _], _ => rfl)
      (case a => k_is); (case l => k_is); (case c => k_is); (case k => k_is)
    have hd_law_figure : Pf.HdG KX mg "_law_figure" Pf.s_law_figure ["_law_word", "_law_empty"] := by
      refine' Pf.hd_mk KX G ?a ?l ?c ?k (fun _ _ _ _ _ _ us hl => match us, hl with | [_, _], _ => rfl)
      (case a => k_is); (case l => k_is); (case c => k_is); (case k => k_is)
    have hd_law_number : Pf.HdG KX mg "_law_number" Pf.s_law_number ["_law_thing", "_law_low", "_law_high"] := by
      refine' Pf.hd_mk KX G ?a ?l ?c ?k (fun _ _ _ _ _ _ us hl => match us, hl with | [_, _, _], _ => rfl)
      (case a => k_is); (case l => k_is); (case c => k_is); (case k => k_is)
    have hd_law_is_long_sum : Pf.HdG KX mg "_law_is_long_sum" Pf.s_law_is_long_sum ["_law_thing", "_law_size"] := by
      refine' Pf.hd_mk KX G ?a ?l ?c ?k (fun _ _ _ _ _ _ us hl => match us, hl with | [_, _], _ => rfl)
      (case a => k_is); (case l => k_is); (case c => k_is); (case k => k_is)
    have hd_law_is_sum : Pf.HdG KX mg "_law_is_sum" Pf.s_law_is_sum ["_law_thing", "_law_size"] := by
      refine' Pf.hd_mk KX G ?a ?l ?c ?k (fun _ _ _ _ _ _ us hl => match us, hl with | [_, _], _ => rfl)
      (case a => k_is); (case l => k_is); (case c => k_is); (case k => k_is)
    have hd_law_written : Pf.HdG KX mg "_law_written" Pf.s_law_written ["_law_thing"] := by
      refine' Pf.hd_mk KX G ?a ?l ?c ?k (fun _ _ _ _ _ _ us hl => match us, hl with | [_], _ => rfl)
      (case a => k_is); (case l => k_is); (case c => k_is); (case k => k_is)
    have hd_law_due : Pf.HdG KX mg "_law_due" Pf.s_law_due ["_law_text", "_law_size"] := by
      refine' Pf.hd_mk KX G ?a ?l ?c ?k (fun _ _ _ _ _ _ us hl => match us, hl with | [_, _], _ => rfl)
      (case a => k_is); (case l => k_is); (case c => k_is); (case k => k_is)
    have hd_is_number : Pf.HdG KX mg "is_number" Pf.s_is_number ["thing", "size"] := by
      refine' Pf.hd_mk KX G ?a ?l ?c ?k (fun _ _ _ _ _ _ us hl => match us, hl with | [_, _], _ => rfl)
      (case a => k_is); (case l => k_is); (case c => k_is); (case k => k_is)
    have hd_is_sum : Pf.HdG KX mg "is_sum" Pf.s_is_sum ["thing", "size"] := by
      refine' Pf.hd_mk KX G ?a ?l ?c ?k (fun _ _ _ _ _ _ us hl => match us, hl with | [_, _], _ => rfl)
      (case a => k_is); (case l => k_is); (case c => k_is); (case k => k_is)
    have hd_number_of : Pf.HdG KX mg "number_of" Pf.s_number_of ["word", "empty"] := by
      refine' Pf.hd_mk KX G ?a ?l ?c ?k (fun _ _ _ _ _ _ us hl => match us, hl with | [_, _], _ => rfl)
      (case a => k_is); (case l => k_is); (case c => k_is); (case k => k_is)
    have hd_piece : Pf.HdG KX mg "piece" Pf.s_piece ["number", "power"] := by
      refine' Pf.hd_mk KX G ?a ?l ?c ?k (fun _ _ _ _ _ _ us hl => match us, hl with | [_, _], _ => rfl)
      (case a => k_is); (case l => k_is); (case c => k_is); (case k => k_is)
    have hd_sum_text : Pf.HdG KX mg "sum_text" Pf.s_sum_text ["thing"] := by
      refine' Pf.hd_mk KX G ?a ?l ?c ?k (fun _ _ _ _ _ _ us hl => match us, hl with | [_], _ => rfl)
      (case a => k_is); (case l => k_is); (case c => k_is); (case k => k_is)
    have hd_trimmed : Pf.HdG KX mg "trimmed" Pf.s_trimmed ["numbers"] := by
      refine' Pf.hd_mk KX G ?a ?l ?c ?k (fun _ _ _ _ _ _ us hl => match us, hl with | [_], _ => rfl)
      (case a => k_is); (case l => k_is); (case c => k_is); (case k => k_is)
    have hd_read : Pf.HdG KX mg "read" Pf.s_read ["text", "size"] := by
      refine' Pf.hd_mk KX G ?a ?l ?c ?k (fun _ _ _ _ _ _ us hl => match us, hl with | [_, _], _ => rfl)
      (case a => k_is); (case l => k_is); (case c => k_is); (case k => k_is)
    have hd_law_found : Pf.HdG KX mg "_law_found" Pf.s_law_found ["_law_text", "_law_size"] := by
      refine' Pf.hd_mk KX G ?a ?l ?c ?k (fun _ _ _ _ _ _ us hl => match us, hl with | [_, _], _ => rfl)
      (case a => k_is); (case l => k_is); (case c => k_is); (case k => k_is)
    have hd_law_cell_at : Pf.HdG KX mg "_law_cell_at" Pf.s_law_cell_at ["_law_script", "_law_k"] := by
      refine' Pf.hd_mk KX G ?a ?l ?c ?k (fun _ _ _ _ _ _ us hl => match us, hl with | [_, _], _ => rfl)
      (case a => k_is); (case l => k_is); (case c => k_is); (case k => k_is)
    have hd_law_mixed : Pf.HdG KX mg "_law_mixed" Pf.s_law_mixed ["_law_script", "_law_k"] := by
      refine' Pf.hd_mk KX G ?a ?l ?c ?k (fun _ _ _ _ _ _ us hl => match us, hl with | [_, _], _ => rfl)
      (case a => k_is); (case l => k_is); (case c => k_is); (case k => k_is)
    have hd_law_sum : Pf.HdG KX mg "_law_sum" Pf.s_law_sum ["_law_number_here", "_law_size", "_law_most"] := by
      refine' Pf.hd_mk KX G ?a ?l ?c ?k (fun _ _ _ _ _ _ us hl => match us, hl with | [_, _, _], _ => rfl)
      (case a => k_is); (case l => k_is); (case c => k_is); (case k => k_is)
    have hd_law : Pf.HdG KX mg "law" Pf.s_law ["_law_script"] := by
      refine' Pf.hd_mk KX G ?a ?l ?c ?k (fun _ _ _ _ _ _ us hl => match us, hl with | [_], _ => rfl)
      (case a => k_is); (case l => k_is); (case c => k_is); (case k => k_is)
    refine Pf.law_fn hd_law hmg (fun _ _ _ _ _ _ _ _ => .of_eq rfl) fun base fd F => ?_
    have C_law_changed := Pf.ok_law_changed (P := PySem.Challenge.rw_primefold_k03_whole_read.prog) (w := w) (base := base) hd_law_changed z_len
    have C_law_drawn := Pf.ok_law_drawn (P := PySem.Challenge.rw_primefold_k03_whole_read.prog) (w := w) (base := base) hd_law_drawn
    have C_law_figure := Pf.ok_law_figure (P := PySem.Challenge.rw_primefold_k03_whole_read.prog) (w := w) (base := base) hd_law_figure z_int z_len
    have C_law_number := Pf.ok_law_number (P := PySem.Challenge.rw_primefold_k03_whole_read.prog) (w := w) (base := base) hd_law_number z_bool z_int z_isinstance
    have C_law_is_long_sum := Pf.ok_law_is_long_sum (P := PySem.Challenge.rw_primefold_k03_whole_read.prog) (w := w) (base := base) hd_law_is_long_sum z_isinstance z_tuple C_law_number
    have C_law_is_sum := Pf.ok_law_is_sum (P := PySem.Challenge.rw_primefold_k03_whole_read.prog) (w := w) (base := base) hd_law_is_sum z_len C_law_is_long_sum
    have C_law_written := Pf.ok_law_written (P := PySem.Challenge.rw_primefold_k03_whole_read.prog) (w := w) (base := base) hd_law_written z_int z_len z_range z_str
    have C_law_due := Pf.ok_law_due (P := PySem.Challenge.rw_primefold_k03_whole_read.prog) (w := w) (base := base) hd_law_due z_tuple C_law_figure C_law_is_sum C_law_written
    have C_is_number := Pf.ok_is_number (P := PySem.Challenge.rw_primefold_k03_whole_read.prog) (w := w) (base := base) hd_is_number z_bool z_int z_isinstance
    have C_is_sum := Pf.ok_is_sum (P := PySem.Challenge.rw_primefold_k03_whole_read.prog) (w := w) (base := base) hd_is_sum c_MOST z_all z_isinstance z_len z_tuple C_is_number
    have C_number_of := Pf.ok_number_of (P := PySem.Challenge.rw_primefold_k03_whole_read.prog) (w := w) (base := base) hd_number_of x_NoText c_FIGURES z_int z_len
    have C_piece := Pf.ok_piece (P := PySem.Challenge.rw_primefold_k03_whole_read.prog) (w := w) (base := base) hd_piece z_str
    have C_sum_text := Pf.ok_sum_text (P := PySem.Challenge.rw_primefold_k03_whole_read.prog) (w := w) (base := base) hd_sum_text z_enumerate z_len C_piece
    have C_trimmed := Pf.ok_trimmed (P := PySem.Challenge.rw_primefold_k03_whole_read.prog) (w := w) (base := base) hd_trimmed z_len z_tuple
    have C_read := Pf.ok_read (P := PySem.Challenge.rw_primefold_k03_whole_read.prog) (w := w) (base := base) hd_read x_NoText z_isinstance z_str C_is_sum C_number_of C_sum_text C_trimmed
    have C_law_found := Pf.ok_law_found (P := PySem.Challenge.rw_primefold_k03_whole_read.prog) (w := w) (base := base) hd_law_found x_NoText z_ValueError z_int z_isinstance C_read
    have C_law_cell_at := Pf.ok_law_cell_at (P := PySem.Challenge.rw_primefold_k03_whole_read.prog) (w := w) (base := base) hd_law_cell_at z_len
    have C_law_mixed := Pf.ok_law_mixed (P := PySem.Challenge.rw_primefold_k03_whole_read.prog) (w := w) (base := base) hd_law_mixed C_law_cell_at
    have C_law_sum := Pf.ok_law_sum (P := PySem.Challenge.rw_primefold_k03_whole_read.prog) (w := w) (base := base) hd_law_sum z_int z_range z_tuple C_law_drawn
    exact Pf.ok_law F z_range C_law_changed C_law_drawn C_law_due C_law_found C_law_is_sum C_law_mixed C_law_sum C_law_written
#print axioms PySem.Challenge.cw_primefold_k03_whole_read_holds
