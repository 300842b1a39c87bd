import PyProof.Rows.All
import Wide.All
import OpenK.AllK
import Wide.FinOn
import HandS.ForMost
import HandS.ForExc
import HandS.TupAny
import HandS.TupMul
import HandS.IsInst
import HandS.Walk
import HandS.Zip
import HandS.Style
import HandS.WideBits
import KE.GoesEnum
import KE.GoesMore
import HandS.WordsExc
import HandS.ExcOwn
import HandS.ExcIs
import HandS.TryOnly
import KE.RegKIsAll
import HandS.Dict
import HandS.EndTab
import KE.SortKeyHeap
import KE.KDictSum
import HandS.Conv
import HandS.SortKw
import KE.KDictKeyed
import KE.KEqDict
import HandS.EndOwn
import HandS.TupSets
import KE.KeyNested
import KE.SortData
import KE.KNestM
import PySem.Challenge.RW_primefold_k22_whole_factors
set_option Elab.async false
set_option linter.all false
set_option maxRecDepth 100000
set_option maxHeartbeats 2000000
/-! Pf1: heap-free readings of expressions. -/
namespace Pf
open PySem PySem.Spec PyProof.Rows L2

/-- data -/
inductive D where
  | non | bl (b : Bool) | int (i : Int) | str (z : Str) | tup (ds : List D) | lst (ds : List D) | scr (ns : List Int) | dct (kvs : List (List Int × Int)) | ftp (ds : List D)
/-- a dict's keys and values -/
def encK (kvs : List (List Int × Int)) : List (List L2.Key × V) := kvs.map fun p => (p.1.map Sum.inl, .int p.2)
abbrev tI (ns : List Int) : D := .tup (ns.map D.int)
abbrev lI (ns : List Int) : D := .lst (ns.map D.int)

mutual
inductive Dq (K : PySem.W.Frag) (H : Hp) : V → D → Prop
  | non : Dq K H .non .non
  | bl (b : Bool) : Dq K H (.bl b) (.bl b)
  | int (i : Int) : Dq K H (.int i) (.int i)
  | str (x : Str) : Dq K H (.str x) (.str x)
  | tup {a : Addr} {xs : List V} {ds : List D} : H a = some (.tup xs) → DqA K H xs ds → Dq K H (.ref a) (.tup ds)
  | lst {a : Addr} {xs : List V} {ds : List D} : H a = some (.lst xs) → DqA K H xs ds → Dq K H (.ref a) (.lst ds)
  | scr {a : Addr} {ns : List Int} : SqL K H a (ns.map V.int) → Dq K H (.ref a) (.scr ns)
  | dct {a : Addr} {kvs : List (List Int × Int)} : H a = some (.dT (encK kvs)) → Dq K H (.ref a) (.dct kvs)
  | ftp {a : Addr} {o : Obj} {xs : List V} {ds : List D} : H a = some (.frz o (.tup xs)) → o.dict = none → DqA K H xs ds → Dq K H (.ref a) (.ftp ds)
inductive DqA (K : PySem.W.Frag) (H : Hp) : List V → List D → Prop
  | nil : DqA K H [] []
  | cons {v : V} {vs : List V} {d : D} {ds : List D} : Dq K H v d → DqA K H vs ds → DqA K H (v :: vs) (d :: ds)
end
section
variable {K : PySem.W.Frag} {H H' : Hp}
theorem Same.seqT {a : Addr} {xs : List V} (e : Same H H') (h : SqT K H a xs) : SqT K H' a xs := by
  rcases h with (h | ⟨o, h⟩) | h
  · exact .inl (.inl (e _ _ h))
  · exact .inl (.inr ⟨o, e _ _ h⟩)
  · exact .inr h
mutual
theorem Dq.mono (e : Same H H') : ∀ (d : D) (v : V), Dq K H v d → Dq K H' v d
  | .non, _, h => by cases h; exact .non
  | .bl b, _, h => by cases h; exact .bl _
  | .int i, _, h => by cases h; exact .int _
  | .str z, _, h => by cases h; exact .str _
  | .tup ds, _, h => by
    cases h with
    | tup h1 h2 => exact .tup (e _ _ h1) (DqA.mono e ds _ h2)
  | .lst ds, _, h => by
    cases h with
    | lst h1 h2 => exact .lst (e _ _ h1) (DqA.mono e ds _ h2)
  | .scr ns, _, h => by
    cases h with
    | scr h1 => exact .scr (e.seq h1)
  | .dct kvs, _, h => by
    cases h with
    | dct h1 => exact .dct (e _ _ h1)
  | .ftp ds, _, h => by
    cases h with
    | ftp h1 h0 h2 => exact .ftp (e _ _ h1) h0 (DqA.mono e ds _ h2)
theorem DqA.mono (e : Same H H') : ∀ (ds : List D) (vs : List V), DqA K H vs ds → DqA K H' vs ds
  | [], _, h => by cases h; exact .nil
  | d :: ds, _, h => by
    cases h with
    | cons h1 h2 => exact .cons (Dq.mono e d _ h1) (DqA.mono e ds _ h2)
end
theorem DqA.length : ∀ {ds : List D} {vs : List V}, DqA K H vs ds → vs.length = ds.length
  | [], _, h => by cases h; rfl
  | d :: ds, _, h => by
    cases h with
    | cons h1 h2 => simp [DqA.length h2]
theorem DqA.get : ∀ {ds : List D} {vs : List V} {i : Nat} {d : D}, DqA K H vs ds → ds[i]? = some d → ∃ v, vs[i]? = some v ∧ Dq K H v d
  | [], _, _, _, h, e => by simp at e
  | d :: ds, _, 0, d', h, e => by
    cases h with
    | cons h1 h2 => simp at e; subst e; exact ⟨_, rfl, h1⟩
  | d :: ds, _, i + 1, d', h, e => by
    cases h with
    | cons h1 h2 =>
      obtain ⟨v, e1, e2⟩ := DqA.get (i := i) h2 (by simpa using e)
      exact ⟨v, by simpa using e1, e2⟩
theorem DqA.getV : ∀ {ds : List D} {vs : List V} {i : Nat} {v : V}, DqA K H vs ds → vs[i]? = some v → ∃ d, ds[i]? = some d ∧ Dq K H v d
  | [], _, i, v, h, e => by cases h; simp at e
  | d :: ds, _, 0, v, h, e => by
    cases h with
    | cons h1 h2 => simp at e; subst e; exact ⟨_, rfl, h1⟩
  | d :: ds, _, i + 1, v, h, e => by
    cases h with
    | cons h1 h2 =>
      obtain ⟨d, e1, e2⟩ := DqA.getV (i := i) h2 (by simpa using e)
      exact ⟨d, by simpa using e1, e2⟩
theorem DqA.append : ∀ {ds es : List D} {vs us : List V}, DqA K H vs ds → DqA K H us es → DqA K H (vs ++ us) (ds ++ es)
  | [], _, _, _, h, g => by cases h; exact g
  | d :: ds, _, _, _, h, g => by
    cases h with
    | cons h1 h2 => exact .cons h1 (DqA.append h2 g)
theorem DqA.take : ∀ {ds : List D} {vs : List V} (n : Nat), DqA K H vs ds → DqA K H (vs.take n) (ds.take n)
  | _, _, 0, _ => by simp; exact .nil
  | [], _, n + 1, h => by cases h; exact .nil
  | d :: ds, _, n + 1, h => by
    cases h with
    | cons h1 h2 => exact .cons h1 (DqA.take n h2)
theorem DqA.drop : ∀ {ds : List D} {vs : List V} (n : Nat), DqA K H vs ds → DqA K H (vs.drop n) (ds.drop n)
  | _, _, 0, h => by simpa using h
  | [], _, n + 1, h => by cases h; exact .nil
  | d :: ds, _, n + 1, h => by
    cases h with
    | cons h1 h2 => simpa using DqA.drop n h2
theorem DqA.set : ∀ {ds : List D} {vs : List V} (i : Nat) {v : V} {d : D}, DqA K H vs ds → Dq K H v d → DqA K H (vs.set i v) (ds.set i d)
  | [], _, i, _, _, h, g => by cases h; simp; exact .nil
  | d :: ds, _, 0, _, _, h, g => by
    cases h with
    | cons h1 h2 => exact .cons g h2
  | d :: ds, _, i + 1, _, _, h, g => by
    cases h with
    | cons h1 h2 => exact .cons h1 (DqA.set i h2 g)
theorem DqA.reverse : ∀ {ds : List D} {vs : List V}, DqA K H vs ds → DqA K H vs.reverse ds.reverse
  | [], _, h => by cases h; exact .nil
  | d :: ds, _, h => by
    cases h with
    | cons h1 h2 =>
      simp only [List.reverse_cons]
      exact DqA.append (DqA.reverse h2) (.cons h1 .nil)
theorem DqA.rep {ds : List D} {vs : List V} (h : DqA K H vs ds) : ∀ n : Nat, DqA K H (List.replicate n vs).flatten (List.replicate n ds).flatten
  | 0 => .nil
  | n + 1 => by
    simp only [List.replicate_succ, List.flatten_cons]
    exact DqA.append h (DqA.rep h n)
theorem DqA.ints : ∀ ns : List Int, DqA K H (ns.map V.int) (ns.map D.int)
  | [] => .nil
  | n :: ns => .cons (.int n) (DqA.ints ns)
theorem DqA.of_ints : ∀ {ns : List Int} {vs : List V}, DqA K H vs (ns.map D.int) → vs = ns.map V.int
  | [], _, h => by cases h; rfl
  | n :: ns, _, h => by
    cases h with
    | cons h1 h2 => cases h1; rw [DqA.of_ints h2]; rfl
theorem DqA.strs : ∀ ns : List Str, DqA K H (ns.map V.str) (ns.map D.str)
  | [] => .nil
  | n :: ns => .cons (.str n) (DqA.strs ns)
theorem DqA.of_strs : ∀ {ns : List Str} {vs : List V}, DqA K H vs (ns.map D.str) → vs = ns.map V.str
  | [], _, h => by cases h; rfl
  | n :: ns, _, h => by
    cases h with
    | cons h1 h2 => cases h1; rw [DqA.of_strs h2]; rfl
theorem DqA.bls : ∀ {ns : List Bool} {vs : List V}, DqA K H vs (ns.map D.bl) → vs = ns.map V.bl
  | [], _, h => by cases h; rfl
  | n :: ns, _, h => by
    cases h with
    | cons h1 h2 => cases h1; rw [DqA.bls h2]; rfl
theorem same_upd {p : Addr} {o : HO} (h : H p = none) : Same H (upd H p o) := fun b x e => by
  rw [upd_ne (ne_of_none e h)]
  exact e
end

/-! ### slots -/
inductive Slot where
  | un | im (d : D) | ow (ds : List D) | ex (a : Addr)
abbrev En := List Slot
def SlOk (K : PySem.W.Frag) (H : Hp) : Option V → Slot → Prop
  | _, .un => True
  | ov, .im d => ∃ v, ov = some v ∧ Dq K H v d
  | ov, .ow ds => ∃ p xs, ov = some (.ref p) ∧ H p = some (.lst xs) ∧ DqA K H xs ds
  | ov, .ex a => ov = some (.ref a)
structure Env (K : PySem.W.Frag) (H : Hp) (σ : L2.St) (ρ : En) : Prop where
  len : σ.length = ρ.length
  at_ : ∀ (i : Nat) (s : Slot) (ov : Option V), ρ[i]? = some s → σ[i]? = some ov → SlOk K H ov s
theorem SlOk.mono {K : PySem.W.Frag} {H H' : Hp} (e : Same H H') {ov : Option V} {s : Slot} (h : SlOk K H ov s) : SlOk K H' ov s := by
  cases s with
  | un => trivial
  | im d => obtain ⟨v, e1, e2⟩ := h; exact ⟨v, e1, e2.mono e⟩
  | ow ds => obtain ⟨p, xs, e1, e2, e3⟩ := h; exact ⟨p, xs, e1, e _ _ e2, e3.mono e⟩
  | ex a => exact h
theorem Env.mono {K : PySem.W.Frag} {H H' : Hp} {σ : L2.St} {ρ : En} (h : Env K H σ ρ) (e : Same H H') : Env K H' σ ρ :=
  ⟨h.len, fun i s ov a b => (h.at_ i s ov a b).mono e⟩
/-- what a slot holds -/
def slD : Slot → Option D
  | .un => none
  | .im d => some d
  | .ow ds => some (.lst ds)
  | .ex _ => none
def gV (i : Nat) : En → Option D := fun ρ => (ρ[i]?).bind slD
theorem Env.get {K : PySem.W.Frag} {H : Hp} {σ : L2.St} {ρ : En} (h : Env K H σ ρ) {i : Nat} {d : D} (e : gV i ρ = some d) : ∃ v, σ[i]? = some (some v) ∧ Dq K H v d := by
  unfold gV at e
  cases q : ρ[i]? with
  | none => rw [q] at e; cases e
  | some s =>
    rw [q] at e
    have hi : i < σ.length := by rw [h.len]; exact (List.getElem?_eq_some_iff.mp q).1
    have z := h.at_ i s σ[i] q (List.getElem?_eq_getElem hi)
    have e2 : slD s = some d := e
    cases s with
    | un => cases e2
    | im d' =>
      cases e2
      obtain ⟨v, e1, e2⟩ := z
      exact ⟨v, by rw [List.getElem?_eq_getElem hi, e1], e2⟩
    | ow ds =>
      cases e2
      obtain ⟨p, xs, e1, e2, e3⟩ := z
      exact ⟨.ref p, by rw [List.getElem?_eq_getElem hi, e1], .lst e2 e3⟩
    | ex a => cases e2

/-! ### contexts -/
structure Ct where
  P : Program
  w : World
  K : PySem.W.Frag
  mg : Str → Option Value
  base : Heap
  lv : Nat
  N : List Str
  sc : Scope
  df : Bool
  md : Option (Cx → Prop)
structure Good (T : Ct) (X : Cx) : Prop where
  hP : X.prog = T.P
  hw : X.w = T.w
  hK : X.K = T.K
  hm : X.mg = T.mg
  hb : X.base = T.base
  hN : X.N = T.N
  hs : X.env.scope = T.sc
  calm : T.md = none → X.calm = true
  nd : T.N.Nodup
  hf : T.df = true → ∀ x, X.fn x = true
  room : T.md = none → Room T.lv X.A
  hu : X.A.units + 100 < cLine
  md : ∀ p, T.md = some p → p X
/-- canonical readings -/
def wE (X : Cx) (e : Expr) : TE := fun σ H Q => ∃ t, PE X e t ∧ t σ H Q
def wA (X : Cx) (es : List Expr) : TA := fun σ H Q => ∃ t, PA X es t ∧ t σ H Q
def wT (X : Cx) (e : Expr) : TT := fun σ H Q => ∃ t, PT X e t ∧ t σ H Q
def wW (X : Cx) (e : Expr) : TT := fun σ H Q => ∃ t, PW X e t ∧ t σ H Q
theorem pe_w {X : Cx} {e : Expr} : PE X e (wE X e) := ⟨fun pins s σ H Q I ⟨_, p, h⟩ => p.run pins s σ H Q I h⟩
theorem pa_w {X : Cx} {e : List Expr} : PA X e (wA X e) := ⟨fun pos pins s σ H Q I ⟨_, p, h⟩ => p.run pos pins s σ H Q I h⟩
theorem pt_w {X : Cx} {e : Expr} : PT X e (wT X e) := ⟨fun pins s σ H Q I ⟨_, p, h⟩ => p.run pins s σ H Q I h⟩
theorem pw_w {X : Cx} {e : Expr} : PW X e (wW X e) := ⟨fun wh pins s σ H Q I ⟨_, p, h⟩ => p.run wh pins s σ H Q I h⟩

/-- an expression and its data -/
def SE (T : Ct) (e : Expr) (g : En → Option D) : Prop :=
  ∀ X, Good T X → ∀ (σ : L2.St) (H : Hp) (ρ : En) (d : D), Env T.K H σ ρ → g ρ = some d → ∀ Q : VK, (∀ v H', Same H H' → Dq T.K H' v d → Q v H') → wE X e σ H Q
/-- an expression that gives a new list -/
def SL (T : Ct) (e : Expr) (g : En → Option (List D)) : Prop :=
  ∀ X, Good T X → ∀ (σ : L2.St) (H : Hp) (ρ : En) (ds : List D), Env T.K H σ ρ → g ρ = some ds → ∀ Q : VK, (∀ p xs H', H p = none → Same H H' → H' p = some (.lst xs) → DqA T.K H' xs ds → Q (.ref p) H') → wE X e σ H Q
def ST (T : Ct) (e : Expr) (g : En → Option Bool) : Prop :=
  ∀ X, Good T X → ∀ (σ : L2.St) (H : Hp) (ρ : En) (b : Bool), Env T.K H σ ρ → g ρ = some b → ∀ Q : Bool → Hp → Prop, (∀ H', Same H H' → Q b H') → wT X e σ H Q
def SW (T : Ct) (e : Expr) (g : En → Option Bool) : Prop :=
  ∀ X, Good T X → ∀ (σ : L2.St) (H : Hp) (ρ : En) (b : Bool), Env T.K H σ ρ → g ρ = some b → ∀ Q : Bool → Hp → Prop, (∀ H', Same H H' → Q b H') → wW X e σ H Q
def SA (T : Ct) (es : List Expr) (g : En → Option (List D)) : Prop :=
  ∀ X, Good T X → ∀ (σ : L2.St) (H : Hp) (ρ : En) (ds : List D), Env T.K H σ ρ → g ρ = some ds → ∀ Q : List V → Hp → Prop, (∀ vs H', Same H H' → DqA T.K H' vs ds → Q vs H') → wA X es σ H Q

section
variable {T : Ct}
def gL (g : En → Option (List D)) : En → Option D := fun ρ => (g ρ).map D.lst
theorem se_of_sl {e : Expr} {g : En → Option (List D)} (h : SL T e g) : SE T e (gL g) := by
  intro X G σ H ρ d env hd Q q
  unfold gL at hd
  cases r : g ρ with
  | none => rw [r] at hd; cases hd
  | some ds =>
    rw [r] at hd
    cases hd
    exact h X G σ H ρ ds env r Q fun p xs H' _ s h1 h2 => q _ _ s (.lst h1 h2)

/-! names and constants -/
def visB (sc : Scope) (x : Str) : Bool := match sc.names.lookup x with
  | some .local => true
  | some .cell => true
  | some .free => true
  | _ => false
theorem vis_of {sc : Scope} {x : Str} (h : visB sc x = true) : Vis sc x := by
  unfold visB at h
  split at h
  · rename_i h'; exact .inl h'
  · rename_i h'; exact .inr (.inl h')
  · rename_i h'; exact .inr (.inr h')
  · cases h
theorem se_var (i : Nat) {x : Str} {pos : Pos} (hN : T.N[i]? = some x) (hv : visB T.sc x = true) (hd : (x == ("__debug__" : Str)) = false := by decide) (hcd : (x == ("__classdict__" : Str)) = false := by decide) : SE T (.Name x pos) (gV i) := by
  intro X G σ H ρ d env hd' Q q
  obtain ⟨v, e1, e2⟩ := env.get hd'
  exact ⟨_, pe_var (i := i) (by rw [G.hN]; exact hN) (by rw [G.hs]; exact vis_of hv) hd hcd, v, e1, q v H (Same.refl H) e2⟩
def gC (d : D) : En → Option D := fun _ => some d
theorem se_int {i : Int} {j : Nat} {pos : Pos} : SE T (.Constant (.int i) j pos) (gC (.int i)) := fun X G σ H ρ d env hd Q q => by
  cases hd; exact ⟨_, pe_int, q _ H (Same.refl H) (.int _)⟩
theorem se_bl {i : Bool} {j : Nat} {pos : Pos} : SE T (.Constant (.bool i) j pos) (gC (.bl i)) := fun X G σ H ρ d env hd Q q => by
  cases hd; exact ⟨_, pe_bl, q _ H (Same.refl H) (.bl _)⟩
theorem se_non {j : Nat} {pos : Pos} : SE T (.Constant .none j pos) (gC .non) := fun X G σ H ρ d env hd Q q => by
  cases hd; exact ⟨_, pe_non, q _ H (Same.refl H) .non⟩
theorem se_str {x : Str} {j : Nat} {pos : Pos} : SE T (.Constant (.str x) j pos) (gC (.str x)) := fun X G σ H ρ d env hd Q q => by
  cases hd; exact ⟨_, pe_str, q _ H (Same.refl H) (.str _)⟩
/-- a module's constant -/
theorem se_glob {x : Str} {pos : Pos} {d : D} {v : V} {u : Value} (hg : T.sc.names.lookup x = some .globalImplicit) (hm : T.mg x = some u) (r : RelV v u) (hd : ∀ H, Dq T.K H v d) (hdb : (x == ("__debug__" : Str)) = false := by decide) : SE T (.Name x pos) (gC d) := by
  intro X G σ H ρ d' env he Q q
  cases he
  exact ⟨_, pe_glob (by show X.env.scope.names.lookup x = _; rw [G.hs]; exact hg) (by rw [G.hm]; exact hm) r hdb, q _ H (Same.refl H) (hd H)⟩

/-! two places -/
def OpD (T : Ct) (f : Value → Value → Sem Value) (h : D → D → Option D) : Prop :=
  ∀ X, Good T X → ∀ (H : Hp) (x y : V) (d e z : D), Dq T.K H x d → Dq T.K H y e → h d e = some z → ∀ Q : VK, (∀ v H', Same H H' → Dq T.K H' v z → Q v H') → ∃ r : R2, OpR X f r ∧ r x y H Q
def g2 (h : D → D → Option D) (a b : En → Option D) : En → Option D := fun ρ => (a ρ).bind fun x => (b ρ).bind fun y => h x y
theorem g2_some {h : D → D → Option D} {a b : En → Option D} {ρ : En} {z : D} (e : g2 h a b ρ = some z) : ∃ x y, a ρ = some x ∧ b ρ = some y ∧ h x y = some z := by
  unfold g2 at e
  cases ha : a ρ with
  | none => rw [ha] at e; cases e
  | some x =>
    rw [ha] at e
    cases hb : b ρ with
    | none => rw [hb] at e; cases e
    | some y => rw [hb] at e; exact ⟨x, y, rfl, rfl, e⟩
variable {a b c : Expr} {ga gb gc : En → Option D} {pos : Pos}
theorem se_bin {op : Operator} {h : D → D → Option D} (o : OpD T (binaryOp op) h) (ha : SE T a ga) (hb : SE T b gb) : SE T (.BinOp a op b pos) (g2 h ga gb) := by
  intro X G σ H ρ d env hd Q q
  obtain ⟨x, y, e1, e2, e3⟩ := g2_some hd
  let r : R2 := fun x y H Q => ∃ r : R2, OpR X (binaryOp op) r ∧ r x y H Q
  have hr : OpR X (binaryOp op) r := fun pins s σ H x y v u Q I rx ry ⟨r, h1, h2⟩ => h1 pins s σ H x y v u Q I rx ry h2
  refine ⟨_, pe_op hr pe_w pe_w, ?_⟩
  refine ha X G σ H ρ x env e1 _ fun v H1 s1 d1 => ?_
  refine hb X G σ H1 ρ y (env.mono s1) e2 _ fun u H2 s2 d2 => ?_
  exact o X G H2 v u x y d (d1.mono s2) d2 e3 Q fun v' H' s3 d3 => q v' H' ((s1.trans s2).trans s3) d3
theorem se_cmp {op : CmpOp} {h : D → D → Option D} (o : OpD T (compareOp op) h) (ha : SE T a ga) (hb : SE T b gb) (hm : behindInMarks op b = false) : SE T (.Compare a [op] [b] pos) (g2 h ga gb) := by
  intro X G σ H ρ d env hd Q q
  obtain ⟨x, y, e1, e2, e3⟩ := g2_some hd
  let r : R2 := fun x y H Q => ∃ r : R2, OpR X (compareOp op) r ∧ r x y H Q
  have hr : OpR X (compareOp op) r := fun pins s σ H x y v u Q I rx ry ⟨r, h1, h2⟩ => h1 pins s σ H x y v u Q I rx ry h2
  refine ⟨_, pe_cmpR hr pe_w pe_w hm, ?_⟩
  refine ha X G σ H ρ x env e1 _ fun v H1 s1 d1 => ?_
  refine hb X G σ H1 ρ y (env.mono s1) e2 _ fun u H2 s2 d2 => ?_
  exact o X G H2 v u x y d (d1.mono s2) d2 e3 Q fun v' H' s3 d3 => q v' H' ((s1.trans s2).trans s3) d3
def gT (g : En → Option D) : En → Option Bool := fun ρ => (g ρ).bind fun d => match d with
  | .bl b => some b
  | _ => none
theorem gT_some {g : En → Option D} {ρ : En} {k : Bool} (e : gT g ρ = some k) : g ρ = some (.bl k) := by
  unfold gT at e
  cases ha : g ρ with
  | none => rw [ha] at e; cases e
  | some x =>
    rw [ha] at e
    cases x <;> first | (cases e; rfl) | cases e
theorem st_cmp {op : CmpOp} {h : D → D → Option D} (o : OpD T (compareOp op) h) (ha : SE T a ga) (hb : SE T b gb) (hm : behindInMarks op b = false) : ST T (.Compare a [op] [b] pos) (gT (g2 h ga gb)) := by
  intro X G σ H ρ d env hd Q q
  obtain ⟨x, y, e1, e2, e3⟩ := g2_some (gT_some hd)
  let r : R2 := fun x y H Q => ∃ r : R2, OpR X (compareOp op) r ∧ r x y H Q
  have hr : OpR X (compareOp op) r := fun pins s σ H x y v u Q I rx ry ⟨r, h1, h2⟩ => h1 pins s σ H x y v u Q I rx ry h2
  refine ⟨_, pt_cmpR hr pe_w pe_w hm, ?_⟩
  refine ha X G σ H ρ x env e1 _ fun v H1 s1 d1 => ?_
  refine hb X G σ H1 ρ y (env.mono s1) e2 _ fun u H2 s2 d2 => ?_
  refine o X G H2 v u x y (.bl d) (d1.mono s2) d2 e3 _ fun v' H' s3 d3 => ?_
  cases d3
  exact ⟨d, rfl, q H' ((s1.trans s2).trans s3)⟩
/-- a value that is a truth, as a test -/
theorem st_val (ha : SE T a ga) (he : ∀ env whole, isTrue a env whole = (do let v ← whole; standAt a.pos; holding [v] (truthy v)) := by intro _ _; rfl) : ST T a (gT ga) := by
  intro X G σ H ρ d env hd Q q
  refine ⟨_, pt_val pe_w (he X.env), ?_⟩
  refine ha X G σ H ρ (.bl d) env (gT_some hd) _ fun v H1 s1 d1 => ?_
  cases d1
  exact ⟨d, rfl, q H1 s1⟩

/-! and, or, not -/
variable {ta tb : En → Option Bool} {rest : List Expr}
def gAnd (a b : En → Option Bool) : En → Option Bool := fun ρ => (a ρ).bind fun x => if x = true then b ρ else some false
def gOr (a b : En → Option Bool) : En → Option Bool := fun ρ => (a ρ).bind fun x => if x = true then some true else b ρ
def gNot (a : En → Option Bool) : En → Option Bool := fun ρ => (a ρ).map fun x => !x
def gB (a : En → Option Bool) : En → Option D := fun ρ => (a ρ).map D.bl
theorem gB_some {a : En → Option Bool} {ρ : En} {d : D} (e : gB a ρ = some d) : ∃ b, a ρ = some b ∧ d = .bl b := by
  unfold gB at e
  cases ha : a ρ with
  | none => rw [ha] at e; cases e
  | some x => rw [ha] at e; cases e; exact ⟨x, rfl, rfl⟩
theorem sw_and1 (ha : ST T a ta) : SW T (.BoolOp .And [a] pos) ta := fun X G σ H ρ d env hd Q q => ⟨_, pw_and1 pt_w, ha X G σ H ρ d env hd Q q⟩
theorem sw_or1 (ha : ST T a ta) : SW T (.BoolOp .Or [a] pos) ta := fun X G σ H ρ d env hd Q q => ⟨_, pw_or1 pt_w, ha X G σ H ρ d env hd Q q⟩
theorem gAnd_some {ρ : En} {k : Bool} (e : gAnd ta tb ρ = some k) : (ta ρ = some true ∧ tb ρ = some k) ∨ (ta ρ = some false ∧ k = false) := by
  unfold gAnd at e
  cases ha : ta ρ with
  | none => rw [ha] at e; cases e
  | some x =>
    rw [ha] at e
    cases x with
    | true => exact .inl ⟨rfl, e⟩
    | false => cases e; exact .inr ⟨rfl, rfl⟩
theorem gOr_some {ρ : En} {k : Bool} (e : gOr ta tb ρ = some k) : (ta ρ = some false ∧ tb ρ = some k) ∨ (ta ρ = some true ∧ k = true) := by
  unfold gOr at e
  cases ha : ta ρ with
  | none => rw [ha] at e; cases e
  | some x =>
    rw [ha] at e
    cases x with
    | false => exact .inl ⟨rfl, e⟩
    | true => cases e; exact .inr ⟨rfl, rfl⟩
theorem sw_and (ha : ST T a ta) (hb : SW T (.BoolOp .And (b :: rest) pos) tb) : SW T (.BoolOp .And (a :: b :: rest) pos) (gAnd ta tb) := by
  intro X G σ H ρ d env hd Q q
  refine ⟨_, pw_and pt_w pw_w, ?_⟩
  rcases gAnd_some hd with ⟨e1, e2⟩ | ⟨e1, e2⟩
  · refine ha X G σ H ρ true env e1 _ fun H1 s1 => ?_
    rw [if_pos rfl]
    exact hb X G σ H1 ρ d (env.mono s1) e2 Q fun H2 s2 => q H2 (s1.trans s2)
  · refine ha X G σ H ρ false env e1 _ fun H1 s1 => ?_
    rw [if_neg Bool.false_ne_true]
    rw [← e2]
    exact q H1 s1
theorem sw_or (ha : ST T a ta) (hb : SW T (.BoolOp .Or (b :: rest) pos) tb) : SW T (.BoolOp .Or (a :: b :: rest) pos) (gOr ta tb) := by
  intro X G σ H ρ d env hd Q q
  refine ⟨_, pw_or pt_w pw_w, ?_⟩
  rcases gOr_some hd with ⟨e1, e2⟩ | ⟨e1, e2⟩
  · refine ha X G σ H ρ false env e1 _ fun H1 s1 => ?_
    rw [if_neg Bool.false_ne_true]
    exact hb X G σ H1 ρ d (env.mono s1) e2 Q fun H2 s2 => q H2 (s1.trans s2)
  · refine ha X G σ H ρ true env e1 _ fun H1 s1 => ?_
    rw [if_pos rfl]
    rw [← e2]
    exact q H1 s1
theorem st_sw {e : Expr} (h : SW T e ta) : ST T e ta := fun X G σ H ρ d env hd Q q => by
  obtain ⟨t, p, hq⟩ := h X G σ H ρ d env hd Q q
  exact ⟨t, p.pt, hq⟩
theorem st_not (ha : ST T a ta) : ST T (.UnaryOp .Not a pos) (gNot ta) := by
  intro X G σ H ρ d env hd Q q
  refine ⟨_, pt_not pt_w, ?_⟩
  unfold gNot at hd
  cases e : ta ρ with
  | none => rw [e] at hd; cases hd
  | some x =>
    rw [e] at hd
    cases hd
    exact ha X G σ H ρ x env e _ fun H1 s1 => q H1 s1
/-- .. as values -/
theorem se_one {op : BoolOp} (ha : SE T a ga) : SE T (.BoolOp op [a] pos) ga := fun X G σ H ρ d env hd Q q => ⟨_, pe_one pe_w, ha X G σ H ρ d env hd Q q⟩
theorem se_and (ha : SE T a (gB ta)) (hb : SE T (.BoolOp .And (b :: rest) pos) (gB tb)) : SE T (.BoolOp .And (a :: b :: rest) pos) (gB (gAnd ta tb)) := by
  intro X G σ H ρ d env hd Q q
  obtain ⟨k, hk, rfl⟩ := gB_some hd
  refine ⟨_, pe_and pe_w pe_w, ?_⟩
  rcases gAnd_some hk with ⟨e1, e2⟩ | ⟨e1, e2⟩
  · refine ha X G σ H ρ (.bl true) env (by unfold gB; rw [e1]; rfl) _ fun v H1 s1 d1 => ?_
    cases d1
    refine ⟨true, rfl, ?_⟩
    rw [if_pos rfl]
    exact hb X G σ H1 ρ _ (env.mono s1) (by unfold gB; rw [e2]; rfl) Q fun v H2 s2 d2 => q v H2 (s1.trans s2) d2
  · refine ha X G σ H ρ (.bl false) env (by unfold gB; rw [e1]; rfl) _ fun v H1 s1 d1 => ?_
    cases d1
    refine ⟨false, rfl, ?_⟩
    rw [if_neg Bool.false_ne_true]
    subst e2
    exact q _ H1 s1 (.bl _)
theorem se_or (ha : SE T a (gB ta)) (hb : SE T (.BoolOp .Or (b :: rest) pos) (gB tb)) : SE T (.BoolOp .Or (a :: b :: rest) pos) (gB (gOr ta tb)) := by
  intro X G σ H ρ d env hd Q q
  obtain ⟨k, hk, rfl⟩ := gB_some hd
  refine ⟨_, pe_or pe_w pe_w, ?_⟩
  rcases gOr_some hk with ⟨e1, e2⟩ | ⟨e1, e2⟩
  · refine ha X G σ H ρ (.bl false) env (by unfold gB; rw [e1]; rfl) _ fun v H1 s1 d1 => ?_
    cases d1
    refine ⟨false, rfl, ?_⟩
    rw [if_neg Bool.false_ne_true]
    exact hb X G σ H1 ρ _ (env.mono s1) (by unfold gB; rw [e2]; rfl) Q fun v H2 s2 d2 => q v H2 (s1.trans s2) d2
  · refine ha X G σ H ρ (.bl true) env (by unfold gB; rw [e1]; rfl) _ fun v H1 s1 d1 => ?_
    cases d1
    refine ⟨true, rfl, ?_⟩
    rw [if_pos rfl]
    subst e2
    exact q _ H1 s1 (.bl _)
theorem se_not (ha : SE T a (gB ta)) : SE T (.UnaryOp .Not a pos) (gB (gNot ta)) := by
  intro X G σ H ρ d env hd Q q
  obtain ⟨k, hk, rfl⟩ := gB_some hd
  refine ⟨_, pe_not pe_w, ?_⟩
  unfold gNot at hk
  cases e : ta ρ with
  | none => rw [e] at hk; cases hk
  | some x =>
    rw [e] at hk
    cases hk
    refine ha X G σ H ρ (.bl x) env (by unfold gB; rw [e]; rfl) _ fun v H1 s1 d1 => ?_
    cases d1
    exact ⟨x, rfl, q _ H1 s1 (.bl _)⟩
/-- a value known to be a truth -/
theorem se_tr (ha : SE T a ga) : SE T a (gB (gT ga)) := fun X G σ H ρ d env hd Q q => by
  obtain ⟨k, hk, rfl⟩ := gB_some hd
  exact ha X G σ H ρ _ env (gT_some hk) Q q
def gIf (t : En → Option Bool) (a b : En → Option D) : En → Option D := fun ρ => (t ρ).bind fun x => if x = true then a ρ else b ρ
theorem se_if (hc : ST T c ta) (ha : SE T a ga) (hb : SE T b gb) : SE T (.IfExp c a b pos) (gIf ta ga gb) := by
  intro X G σ H ρ d env hd Q q
  refine ⟨_, pe_ifExp pt_w pe_w pe_w, ?_⟩
  unfold gIf at hd
  cases e : ta ρ with
  | none => rw [e] at hd; cases hd
  | some x =>
    rw [e] at hd
    refine hc X G σ H ρ x env e _ fun H1 s1 => ?_
    cases x with
    | true =>
      rw [if_pos rfl]
      exact ha X G σ H1 ρ d (env.mono s1) hd Q fun v H2 s2 d2 => q v H2 (s1.trans s2) d2
    | false =>
      rw [if_neg Bool.false_ne_true]
      exact hb X G σ H1 ρ d (env.mono s1) hd Q fun v H2 s2 d2 => q v H2 (s1.trans s2) d2

/-! argument lists, displays -/
def gNil : En → Option (List D) := fun _ => some []
def gCons (a : En → Option D) (r : En → Option (List D)) : En → Option (List D) := fun ρ => (a ρ).bind fun x => (r ρ).bind fun xs => some (x :: xs)
theorem sa_nil : SA T [] gNil := fun X G σ H ρ d env hd Q q => by
  cases hd
  exact ⟨_, pa_nil, q [] H (Same.refl H) .nil⟩
theorem sa_cons {es : List Expr} {gr : En → Option (List D)} (ha : SE T a ga) (hr : SA T es gr) (hs : ∀ env, starEach (a :: es) env = (false, eval a env) :: starEach es env := by intro _; rfl) : SA T (a :: es) (gCons ga gr) := by
  intro X G σ H ρ ds env hd Q q
  unfold gCons at hd
  cases e1 : ga ρ with
  | none => rw [e1] at hd; cases hd
  | some x =>
    rw [e1] at hd
    cases e2 : gr ρ with
    | none => rw [e2] at hd; cases hd
    | some xs =>
      rw [e2] at hd
      cases hd
      refine ⟨_, pa_cons pe_w pa_w (hs X.env), ?_⟩
      refine ha X G σ H ρ x env e1 _ fun v H1 s1 d1 => ?_
      exact hr X G σ H1 ρ xs (env.mono s1) e2 _ fun vs H2 s2 d2 => q _ H2 (s1.trans s2) (.cons (d1.mono s2) d2)
def gTup (g : En → Option (List D)) : En → Option D := fun ρ => (g ρ).bind fun ds => if ds.length ≤ 1000000 then some (.tup ds) else none
theorem sz {n : Nat} (h : n ≤ 1000000) : n ≤ sizeLine := Nat.le_trans h (by decide)
theorem se_tup {es : List Expr} {k : Nat} {gr : En → Option (List D)} (h : SA T es gr) : SE T (.Tuple es k pos) (gTup gr) := by
  intro X G σ H ρ d env hd Q q
  unfold gTup at hd
  cases e1 : gr ρ with
  | none => rw [e1] at hd; cases hd
  | some ds =>
    rw [e1] at hd
    have hd : (if ds.length ≤ 1000000 then some (D.tup ds) else none) = some d := hd
    split at hd
    · cases hd
      refine ⟨_, pe_tup pa_w, ?_⟩
      refine h X G σ H ρ ds env e1 _ fun vs H1 s1 d1 => ⟨by rw [d1.length]; exact sz (by assumption), fun p hp => ?_⟩
      have s2 := same_upd (o := .tup vs) hp
      exact q _ _ (s1.trans s2) (.tup upd_same (d1.mono s2))
    · cases hd
def gLst (g : En → Option (List D)) : En → Option (List D) := fun ρ => (g ρ).bind fun ds => if ds.length ≤ 1000000 then some ds else none
theorem sl_lst {es : List Expr} {gr : En → Option (List D)} (h : SA T es gr) : SL T (.List es pos) (gLst gr) := by
  intro X G σ H ρ d env hd Q q
  unfold gLst at hd
  cases e1 : gr ρ with
  | none => rw [e1] at hd; cases hd
  | some ds =>
    rw [e1] at hd
    have hd : (if ds.length ≤ 1000000 then some ds else none) = some d := hd
    split at hd
    · have hd := Option.some.inj hd
      subst hd
      refine ⟨_, pe_lst pa_w, ?_⟩
      refine h X G σ H ρ ds env e1 _ fun vs H1 s1 d1 => ⟨by rw [d1.length]; exact sz (by assumption), fun p hp => ?_⟩
      have s2 := same_upd (o := .lst vs) hp
      exact q _ vs _ (s1.free hp) (s1.trans s2) upd_same (d1.mono s2)
    · cases hd
end
end Pf

set_option Elab.async false
set_option linter.all false
set_option maxRecDepth 100000
set_option maxHeartbeats 2000000
/-! Pf2: operators. -/
namespace Pf
open PySem PySem.Spec L2
section
variable {T : Ct}
/-! ### numbers, texts, tuples: + - * // % ** -/
def addD : D → D → Option D
  | .int i, .int j => some (.int (i + j))
  | .str a, .str b => if a.length + b.length ≤ 1000000 then some (.str (a ++ b)) else none
  | .tup a, .tup b => if a.length + b.length ≤ 1000000 then some (.tup (a ++ b)) else none
  | _, _ => none
def subD : D → D → Option D
  | .int i, .int j => some (.int (i - j))
  | _, _ => none
def mulD : D → D → Option D
  | .int i, .int j => if (-(2 ^ 64) < i ∧ i < 2 ^ 64) ∨ (-(2 ^ 64) < j ∧ j < 2 ^ 64) then some (.int (i * j)) else none
  | _, _ => none
def modD : D → D → Option D
  | .int i, .int j => if 0 < j then some (.int (i % j)) else none
  | _, _ => none
def fdivD : D → D → Option D
  | .int i, .int j => if 0 < j ∧ j < 1073741824 then some (.int (i / j)) else none
  | _, _ => none
def powD : D → D → Option D
  | .int i, .int j => if 0 ≤ j ∧ j ≤ 1000000 ∧ i.natAbs < 2 ^ 64 then some (.int (i ^ j.toNat)) else none
  | _, _ => none
theorem od_add : OpD T (binaryOp .Add) addD := by
  intro X G H x y d e z dx dy h Q q
  cases d <;> cases e <;> try (cases h; done)
  · cases h; cases dx; cases dy
    exact ⟨_, op_add, _, _, rfl, rfl, q _ H (Same.refl H) (.int _)⟩
  · rename_i a b
    cases dx; cases dy
    have h : (if a.length + b.length ≤ 1000000 then some (D.str (a ++ b)) else none) = some z := h
    split at h
    · cases h
      exact ⟨_, op_add_str, _, _, rfl, rfl, sz (by assumption), q _ H (Same.refl H) (.str _)⟩
    · cases h
  · rename_i a b
    have h : (if a.length + b.length ≤ 1000000 then some (D.tup (a ++ b)) else none) = some z := h
    split at h
    · rename_i hl
      cases h
      cases dx with
      | tup h1 h2 =>
        cases dy with
        | tup h3 h4 =>
          have l1 := h2.length
          have l2 := h4.length
          refine ⟨_, op_catA, _, _, _, _, rfl, rfl, by rw [G.hK]; exact SqT.of h1, by rw [G.hK]; exact SqT.of h3, by rw [l1, l2]; exact sz hl, fun e1 => ?_, fun e1 e2 => ?_, fun e1 e2 p hp => ?_⟩
          · subst e1
            have : a = [] := List.eq_nil_of_length_eq_zero (by simpa using l1.symm)
            subst this
            exact q _ H (Same.refl H) (.tup h3 h4)
          · subst e2
            have : b = [] := List.eq_nil_of_length_eq_zero (by simpa using l2.symm)
            subst this
            rw [List.append_nil] at q
            exact q _ H (Same.refl H) (.tup h1 h2)
          · exact q _ _ (same_upd hp) (.tup upd_same ((h2.append h4).mono (same_upd hp)))
    · cases h
theorem od_sub : OpD T (binaryOp .Sub) subD := by
  intro X G H x y d e z dx dy h Q q
  cases d <;> cases e <;> try (cases h; done)
  cases h; cases dx; cases dy
  exact ⟨_, op_sub, _, _, rfl, rfl, q _ H (Same.refl H) (.int _)⟩
theorem od_mul : OpD T (binaryOp .Mult) mulD := by
  intro X G H x y d e z dx dy h Q q
  cases d <;> cases e <;> try (cases h; done)
  rename_i i j
  have h : (if (-(2 ^ 64) < i ∧ i < 2 ^ 64) ∨ (-(2 ^ 64) < j ∧ j < 2 ^ 64) then some (D.int (i * j)) else none) = some z := h
  split at h
  · rename_i hc
    cases h; cases dx; cases dy
    exact ⟨_, op_mul, _, _, rfl, rfl, hc, q _ H (Same.refl H) (.int _)⟩
  · cases h
theorem od_mod : OpD T (binaryOp .Mod) modD := by
  intro X G H x y d e z dx dy h Q q
  cases d <;> cases e <;> try (cases h; done)
  rename_i i j
  have h : (if 0 < j then some (D.int (i % j)) else none) = some z := h
  split at h
  · rename_i hc
    cases h; cases dx; cases dy
    exact ⟨_, op_mod, _, _, rfl, rfl, hc, q _ H (Same.refl H) (.int _)⟩
  · cases h
theorem od_fdiv : OpD T (binaryOp .FloorDiv) fdivD := by
  intro X G H x y d e z dx dy h Q q
  cases d <;> cases e <;> try (cases h; done)
  rename_i i j
  have h : (if 0 < j ∧ j < 1073741824 then some (D.int (i / j)) else none) = some z := h
  split at h
  · rename_i hc
    cases h; cases dx; cases dy
    exact ⟨_, op_fdiv, _, _, rfl, rfl, hc, q _ H (Same.refl H) (.int _)⟩
  · cases h
theorem od_pow : OpD T (binaryOp .Pow) powD := by
  intro X G H x y d e z dx dy h Q q
  cases d <;> cases e <;> try (cases h; done)
  rename_i i j
  have h : (if 0 ≤ j ∧ j ≤ 1000000 ∧ i.natAbs < 2 ^ 64 then some (D.int (i ^ j.toNat)) else none) = some z := h
  split at h
  · rename_i hc
    cases h; cases dx; cases dy
    exact ⟨_, op_pow, _, _, rfl, rfl, hc, q _ H (Same.refl H) (.int _)⟩
  · cases h
variable {a b c : Expr} {ga gb gc : En → Option D} {pos : Pos}
def negD : D → Option D
  | .int i => some (.int (-i))
  | _ => none
def g1 (h : D → Option D) (a : En → Option D) : En → Option D := fun ρ => (a ρ).bind h
theorem se_neg (ha : SE T a ga) : SE T (.UnaryOp .USub a pos) (g1 negD ga) := by
  intro X G σ H ρ d env hd Q q
  unfold g1 at hd
  cases e : ga ρ with
  | none => rw [e] at hd; cases hd
  | some x =>
    rw [e] at hd
    have hd : negD x = some d := hd
    cases x <;> try (cases hd; done)
    cases hd
    refine ⟨_, pe_un un_neg pe_w, ?_⟩
    refine ha X G σ H ρ _ env e _ fun v H1 s1 d1 => ?_
    cases d1
    exact ⟨_, rfl, q _ H1 s1 (.int _)⟩
/-! ### comparisons -/
def cmpD (p : Int → Int → Bool) : D → D → Option D
  | .int i, .int j => some (.bl (p i j))
  | _, _ => none
theorem od_cmp {op : CmpOp} {p : Int → Int → Bool} (rule : ∀ X, OpR X (compareOp op) (rI0 fun i j => .bl (p i j))) : OpD T (compareOp op) (cmpD p) := by
  intro X G H x y d e z dx dy h Q q
  cases d <;> cases e <;> try (cases h; done)
  cases h; cases dx; cases dy
  exact ⟨_, rule X, _, _, rfl, rfl, q _ H (Same.refl H) (.bl _)⟩
abbrev ltD := cmpD fun i j => decide (i < j)
abbrev leD := cmpD fun i j => decide (i ≤ j)
abbrev gtD := cmpD fun i j => decide (j < i)
abbrev geD := cmpD fun i j => decide (j ≤ i)
theorem od_lt : OpD T (compareOp .Lt) ltD := od_cmp fun _ => op_lt
theorem od_le : OpD T (compareOp .LtE) leD := od_cmp fun _ => op_le
theorem od_gt : OpD T (compareOp .Gt) gtD := od_cmp fun _ => op_gt
theorem od_ge : OpD T (compareOp .GtE) geD := od_cmp fun _ => op_ge
mutual
def toPy : D → Option PyData
  | .non => some .none
  | .bl b => some (.bool b)
  | .int i => some (.int i)
  | .str z => some (.str z)
  | .tup ds => (toPyA ds).map .tuple
  | .lst ds => (toPyA ds).map .list
  | .scr _ => none
  | .dct _ => none
  | .ftp _ => none
def toPyA : List D → Option (List PyData)
  | [] => some []
  | d :: ds => (toPy d).bind fun p => (toPyA ds).map fun ps => p :: ps
end
mutual
theorem dp_of {K : PySem.W.Frag} {H : Hp} : ∀ (d : D) (v : V) (p : PyData), Dq K H v d → toPy d = some p → Dp K H v p
  | .non, _, _, h, e => by cases h; simp only [toPy] at e; cases e; exact .non
  | .bl b, _, _, h, e => by cases h; simp only [toPy] at e; cases e; exact .bl _
  | .int i, _, _, h, e => by cases h; simp only [toPy] at e; cases e; exact .int _
  | .str z, _, _, h, e => by cases h; simp only [toPy] at e; cases e; exact .str _
  | .tup ds, _, _, h, e => by
    cases h with
    | tup h1 h2 =>
      simp only [toPy] at e
      cases q : toPyA ds with
      | none => rw [q] at e; cases e
      | some ps =>
        rw [q] at e
        cases e
        exact .tup (SqT.of h1) (dp_ofA ds _ ps h2 q)
  | .lst ds, _, _, h, e => by
    cases h with
    | lst h1 h2 =>
      simp only [toPy] at e
      cases q : toPyA ds with
      | none => rw [q] at e; cases e
      | some ps =>
        rw [q] at e
        cases e
        exact .lst (SqL.of h1) (dp_ofA ds _ ps h2 q)
  | .scr _, _, _, _, e => by simp only [toPy] at e; cases e
  | .dct _, _, _, _, e => by simp only [toPy] at e; cases e
  | .ftp _, _, _, _, e => by simp only [toPy] at e; cases e
theorem dp_ofA {K : PySem.W.Frag} {H : Hp} : ∀ (ds : List D) (vs : List V) (ps : List PyData), DqA K H vs ds → toPyA ds = some ps → DpAll K H vs ps
  | [], _, _, h, e => by cases h; simp only [toPyA] at e; cases e; exact .nil
  | d :: ds, _, _, h, e => by
    cases h with
    | cons h1 h2 =>
      simp only [toPyA] at e
      cases q : toPy d with
      | none => rw [q] at e; cases e
      | some p =>
        rw [q] at e
        cases q2 : toPyA ds with
        | none => rw [q2] at e; cases e
        | some ps =>
          rw [q2] at e
          cases e
          exact .cons (dp_of d _ p h1 q) (dp_ofA ds _ ps h2 q2)
end
def eqB (d e : D) : Option Bool := (toPy d).bind fun p => (toPy e).bind fun q => if SeqAt.shaped p = true ∧ SeqAt.shaped q = true then some (PyData.eqv p q) else none
def eqD (d e : D) : Option D := (eqB d e).map D.bl
def neD (d e : D) : Option D := (eqB d e).map fun b => D.bl (!b)
theorem eqB_some {d e : D} {b : Bool} (h : eqB d e = some b) : ∃ p q, toPy d = some p ∧ toPy e = some q ∧ SeqAt.shaped p = true ∧ SeqAt.shaped q = true ∧ b = PyData.eqv p q := by
  unfold eqB at h
  cases e1 : toPy d with
  | none => rw [e1] at h; cases h
  | some p =>
    rw [e1] at h
    cases e2 : toPy e with
    | none => rw [e2] at h; cases h
    | some q =>
      rw [e2] at h
      have h : (if SeqAt.shaped p = true ∧ SeqAt.shaped q = true then some (PyData.eqv p q) else none) = some b := h
      split at h
      · rename_i hc
        cases h
        exact ⟨p, q, rfl, rfl, hc.1, hc.2, rfl⟩
      · cases h
theorem od_eq : OpD T (compareOp .Eq) eqD := by
  intro X G H x y d e z dx dy h Q q
  unfold eqD at h
  cases hb : eqB d e with
  | none => rw [hb] at h; cases h
  | some b =>
    rw [hb] at h
    cases h
    obtain ⟨p, p', e1, e2, s1, s2, rfl⟩ := eqB_some hb
    refine ⟨_, op_eqD (by have := G.hu; omega), p, p', ?_, ?_, s1, s2, q _ H (Same.refl H) (.bl _)⟩
    · rw [G.hK]; exact dp_of d x p dx e1
    · rw [G.hK]; exact dp_of e y p' dy e2
theorem od_ne : OpD T (compareOp .NotEq) neD := by
  intro X G H x y d e z dx dy h Q q
  unfold neD at h
  cases hb : eqB d e with
  | none => rw [hb] at h; cases h
  | some b =>
    rw [hb] at h
    cases h
    obtain ⟨p, p', e1, e2, s1, s2, rfl⟩ := eqB_some hb
    refine ⟨_, op_neD (by have := G.hu; omega), p, p', ?_, ?_, s1, s2, q _ H (Same.refl H) (.bl _)⟩
    · rw [G.hK]; exact dp_of d x p dx e1
    · rw [G.hK]; exact dp_of e y p' dy e2
def isNon : D → Bool
  | .non => true
  | _ => false
theorem Dq.isNon {K : PySem.W.Frag} {H : Hp} {v : V} {d : D} (h : Dq K H v d) : decide (v = .non) = Pf.isNon d := by
  cases h <;> first | rfl | exact decide_eq_false (fun q => nomatch q)
def isND : D → D → Option D
  | d, .non => some (.bl (isNon d))
  | _, _ => none
def notND : D → D → Option D
  | d, .non => some (.bl (!isNon d))
  | _, _ => none
theorem od_isN : OpD T (compareOp .Is) isND := by
  intro X G H x y d e z dx dy h Q q
  cases e <;> try (cases d <;> cases h; done)
  have h : some (D.bl (isNon d)) = some z := by cases d <;> exact h
  cases h; cases dy
  exact ⟨_, op_isN, rfl, by rw [dx.isNon]; exact q _ H (Same.refl H) (.bl _)⟩
theorem od_notN : OpD T (compareOp .IsNot) notND := by
  intro X G H x y d e z dx dy h Q q
  cases e <;> try (cases d <;> cases h; done)
  have h : some (D.bl (!isNon d)) = some z := by cases d <;> exact h
  cases h; cases dy
  exact ⟨_, op_notN, rfl, by rw [dx.isNon]; exact q _ H (Same.refl H) (.bl _)⟩
def dInts : List D → Option (List Int)
  | [] => some []
  | .int i :: r => (dInts r).map (i :: ·)
  | _ => none
@[simp] theorem dInts_map : ∀ ns : List Int, dInts (ns.map D.int) = some ns
  | [] => rfl
  | n :: ns => by simp [dInts, dInts_map ns]
theorem dInts_some : ∀ {ds : List D} {ns : List Int}, dInts ds = some ns → ds = ns.map D.int
  | [], _, h => by simp only [dInts] at h; cases h; rfl
  | d :: ds, ns, h => by
    cases d with
    | int i =>
      simp only [dInts] at h
      cases q : dInts ds with
      | none => rw [q] at h; cases h
      | some ms =>
        rw [q] at h
        cases h
        rw [dInts_some q]; rfl
    | _ => simp only [dInts] at h; cases h
theorem inV_ints (i : Int) : ∀ ns : List Int, inV (.int i) (ns.map V.int) = decide (i ∈ ns)
  | [] => by simp [inV]
  | n :: ns => by
    have ih := inV_ints i ns
    unfold inV at ih ⊢
    rw [List.map_cons, List.any_cons, ih]
    have e : eqV (.int n) (.int i) = decide (n = i) := by
      simp only [eqV]
      exact Bool.beq_eq_decide_eq n i
    rw [e]
    by_cases h : n = i
    · subst h; simp
    · have h' : ¬ i = n := fun z => h z.symm
      simp [h, h']
def inD : D → D → Option D
  | .int i, .tup ds => (dInts ds).map fun ns => .bl (decide (i ∈ ns))
  | .str i, .str j => some (.bl (!(Builtin.Str.occurrences j i 0 j.length 1).isEmpty))
  | _, _ => none
def notInD : D → D → Option D
  | .int i, .tup ds => (dInts ds).map fun ns => .bl (!decide (i ∈ ns))
  | .str i, .str j => some (.bl (!(!(Builtin.Str.occurrences j i 0 j.length 1).isEmpty)))
  | _, _ => none
theorem flat_ints (ns : List Int) : (ns.map V.int).all flatV = true := by
  rw [List.all_map, List.all_eq_true]
  intro _ _
  rfl
theorem od_in : OpD T (compareOp .In) inD := by
  intro X G H x y d e z dx dy h Q q
  cases d <;> cases e <;> try (cases h; done)
  · rename_i i ds
    have h : ((dInts ds).map fun ns => D.bl (decide (i ∈ ns))) = some z := h
    cases hn : dInts ds with
    | none => rw [hn] at h; cases h
    | some ns =>
      rw [hn] at h
      cases h; cases dx
      rw [dInts_some hn] at dy
      cases dy with
      | tup h1 h2 =>
        have e1 := h2.of_ints
        subst e1
        refine ⟨_, op_in_seq, _, _, rfl, .inr (by rw [G.hK]; exact SqT.of h1), rfl, flat_ints ns, ?_⟩
        rw [if_neg Bool.false_ne_true, inV_ints]
        exact q _ H (Same.refl H) (.bl _)
  · cases h; cases dx; cases dy
    exact ⟨_, op_in_str, _, _, rfl, rfl, q _ H (Same.refl H) (.bl _)⟩
theorem od_notIn : OpD T (compareOp .NotIn) notInD := by
  intro X G H x y d e z dx dy h Q q
  cases d <;> cases e <;> try (cases h; done)
  · rename_i i ds
    have h : ((dInts ds).map fun ns => D.bl (!decide (i ∈ ns))) = some z := h
    cases hn : dInts ds with
    | none => rw [hn] at h; cases h
    | some ns =>
      rw [hn] at h
      cases h; cases dx
      rw [dInts_some hn] at dy
      cases dy with
      | tup h1 h2 =>
        have e1 := h2.of_ints
        subst e1
        refine ⟨_, op_notIn_seq, _, _, rfl, .inr (by rw [G.hK]; exact SqT.of h1), rfl, flat_ints ns, ?_⟩
        rw [if_pos rfl, inV_ints]
        exact q _ H (Same.refl H) (.bl _)
  · cases h; cases dx; cases dy
    exact ⟨_, op_notin_str, _, _, rfl, rfl, q _ H (Same.refl H) (.bl _)⟩
/-! ### chains low <= x <= high -/
def gCh (h h' : D → D → Option D) (a b c : En → Option D) : En → Option Bool := fun ρ => (a ρ).bind fun x => (b ρ).bind fun y => (h x y).bind fun z => match z with
  | .bl true => (c ρ).bind fun u => (h' y u).bind fun z' => match z' with
    | .bl k => some k
    | _ => none
  | .bl false => some false
  | _ => none
theorem gCh_some {h h' : D → D → Option D} {ρ : En} {k : Bool} (e : gCh h h' ga gb gc ρ = some k) : ∃ x y, ga ρ = some x ∧ gb ρ = some y ∧ ((h x y = some (.bl false) ∧ k = false) ∨ (h x y = some (.bl true) ∧ ∃ u, gc ρ = some u ∧ h' y u = some (.bl k))) := by
  unfold gCh at e
  cases e1 : ga ρ with
  | none => rw [e1] at e; cases e
  | some x =>
    rw [e1] at e
    cases e2 : gb ρ with
    | none => rw [e2] at e; cases e
    | some y =>
      rw [e2] at e
      refine ⟨x, y, rfl, rfl, ?_⟩
      simp only [Option.bind_some] at e
      cases e3 : h x y with
      | none => rw [e3] at e; cases e
      | some z =>
        rw [e3] at e
        simp only [Option.bind_some] at e
        cases z with
        | bl z =>
          cases z with
          | false => cases e; exact .inl ⟨rfl, rfl⟩
          | true =>
            simp only at e
            refine .inr ⟨rfl, ?_⟩
            cases e4 : gc ρ with
            | none => rw [e4] at e; cases e
            | some u =>
              rw [e4] at e
              simp only [Option.bind_some] at e
              cases e5 : h' y u with
              | none => rw [e5] at e; cases e
              | some w =>
                rw [e5] at e
                simp only [Option.bind_some] at e
                cases w <;> first | (cases e; exact ⟨u, rfl, e5⟩) | cases e
        | _ => cases e
theorem se_chain {op op' : CmpOp} {h h' : D → D → Option D} (o : OpD T (compareOp op) h) (o' : OpD T (compareOp op') h') (ha : SE T a ga) (hb : SE T b gb) (hc : SE T c gc) (hm : lastMarks [op, op'] [b, c] = false := by with_unfolding_all rfl) : SE T (.Compare a [op, op'] [b, c] pos) (gB (gCh h h' ga gb gc)) := by
  intro X G σ H ρ d env hd Q q
  obtain ⟨k, hk, rfl⟩ := gB_some hd
  obtain ⟨x, y, e1, e2, e3⟩ := gCh_some hk
  have hr : OpR X (compareOp op) (fun x y H Q => ∃ r : R2, OpR X (compareOp op) r ∧ r x y H Q) := fun pins s σ H x y v u Q I rx ry ⟨r, h1, h2⟩ => h1 pins s σ H x y v u Q I rx ry h2
  have hr' : OpR X (compareOp op') (fun x y H Q => ∃ r : R2, OpR X (compareOp op') r ∧ r x y H Q) := fun pins s σ H x y v u Q I rx ry ⟨r, h1, h2⟩ => h1 pins s σ H x y v u Q I rx ry h2
  refine ⟨_, pe_chain hr hr' pe_w pe_w pe_w hm, ?_⟩
  refine ha X G σ H ρ x env e1 _ fun v H1 s1 d1 => ?_
  refine hb X G σ H1 ρ y (env.mono s1) e2 _ fun u H2 s2 d2 => ?_
  rcases e3 with ⟨e3, rfl⟩ | ⟨e3, z, e4, e5⟩
  · refine o X G H2 v u x y (.bl false) (d1.mono s2) d2 e3 _ fun v' H' s3 d3 => ?_
    cases d3
    refine ⟨false, rfl, ?_⟩
    rw [if_neg Bool.false_ne_true]
    exact q _ H' ((s1.trans s2).trans s3) (.bl _)
  · refine o X G H2 v u x y (.bl true) (d1.mono s2) d2 e3 _ fun v' H' s3 d3 => ?_
    cases d3
    refine ⟨true, rfl, ?_⟩
    rw [if_pos rfl]
    refine hc X G σ H' ρ z (env.mono ((s1.trans s2).trans s3)) e4 _ fun w H4 s4 d4 => ?_
    exact o' X G H4 u w y z (.bl k) (d2.mono (s3.trans s4)) d4 e5 Q fun v' H' s5 d5 => q v' H' ((((s1.trans s2).trans s3).trans s4).trans s5) d5
end
end Pf

set_option Elab.async false
set_option linter.all false
set_option maxRecDepth 100000
set_option maxHeartbeats 2000000
/-! Pf3: subscripts, slices, calls. -/
namespace Pf
open PySem PySem.Spec L2
section
variable {T : Ct}
variable {a b c : Expr} {ga gb gc : En → Option D} {pos : Pos}
/-! ### a[i] -/
theorem ixN_of {n : Nat} {i : Int} {α : Type} {xs : List α} {v : α} (h : atI xs i = some v) : ∃ j, ixN xs.length i = some j ∧ xs[j]? = some v := by
  unfold atI at h
  cases q : ixN xs.length i with
  | none => rw [q] at h; cases h
  | some j => rw [q] at h; exact ⟨j, rfl, h⟩
theorem at_dq {K : PySem.W.Frag} {H : Hp} {xs : List V} {ds : List D} {i : Int} {d : D} (h : DqA K H xs ds) (e : atI ds i = some d) : ∃ v, atI xs i = some v ∧ Dq K H v d := by
  obtain ⟨j, e1, e2⟩ := ixN_of (n := 0) e
  obtain ⟨v, e3, e4⟩ := h.get e2
  refine ⟨v, ?_, e4⟩
  unfold atI
  rw [h.length, e1]
  exact e3
def ixD : D → D → Option D
  | .tup ds, .int i => atI ds i
  | .lst ds, .int i => atI ds i
  | .scr ns, .int i => (atI ns i).map D.int
  | .str z, .int i => if z.length ≤ 1000000 then (atI z.cps.toList i).map fun c => .str ⟨#[c]⟩ else none
  | _, _ => none
theorem atI_map {α β : Type} (f : α → β) (xs : List α) (i : Int) : atI (xs.map f) i = (atI xs i).map f := by
  unfold atI
  rw [List.length_map]
  cases ixN xs.length i with
  | none => rfl
  | some j => simp
theorem se_ix (ha : SE T a ga) (hb : SE T b gb) (hs : PlainIx b) : SE T (.Subscript a b pos) (g2 ixD ga gb) := by
  intro X G σ H ρ d env hd Q q
  obtain ⟨x, y, e1, e2, e3⟩ := g2_some hd
  have hr : IxR X (fun x y H Q => ∃ r : R2, IxR X r ∧ r x y H Q) := fun va sl pins s σ H x y v u Q I rx ry ⟨r, h1, h2⟩ hs => h1 va sl pins s σ H x y v u Q I rx ry h2 hs
  refine ⟨_, pe_ix hr pe_w pe_w hs, ?_⟩
  refine ha X G σ H ρ x env e1 _ fun v H1 s1 d1 => ?_
  refine hb X G σ H1 ρ y (env.mono s1) e2 _ fun u H2 s2 d2 => ?_
  have d1 := d1.mono s2
  cases x <;> cases y <;> try (cases e3; done)
  · rename_i z _ i
    cases d1; cases d2
    have e3 : (if z.length ≤ 1000000 then (atI z.cps.toList i).map fun c => D.str ⟨#[c]⟩ else none) = some d := e3
    split at e3
    · rename_i hz
      cases q' : atI z.cps.toList i with
      | none => rw [q'] at e3; cases e3
      | some c =>
        rw [q'] at e3
        cases e3
        exact ⟨_, ix_str, z, i, c, rfl, rfl, sz hz, q', q _ H2 (s1.trans s2) (.str _)⟩
    · cases e3
  · rename_i ds _ i
    cases d2
    cases d1 with
    | tup h1 h2 =>
      obtain ⟨w, e4, e5⟩ := at_dq h2 e3
      exact ⟨_, ix_tup, _, _, i, w, rfl, rfl, by rw [G.hK]; exact SqT.of h1, e4, q _ H2 (s1.trans s2) e5⟩
  · rename_i ds _ i
    cases d2
    cases d1 with
    | lst h1 h2 =>
      obtain ⟨w, e4, e5⟩ := at_dq h2 e3
      exact ⟨_, ix_list, _, _, i, w, rfl, rfl, SqL.of h1, e4, q _ H2 (s1.trans s2) e5⟩
  · rename_i ns _ i
    cases d2
    cases d1 with
    | scr h1 =>
      have e3 : (atI ns i).map D.int = some d := e3
      cases q' : atI ns i with
      | none => rw [q'] at e3; cases e3
      | some n =>
        rw [q'] at e3
        cases e3
        exact ⟨_, ix_list, _, _, i, .int n, rfl, rfl, by rw [G.hK]; exact h1, by rw [atI_map, q']; rfl, q _ H2 (s1.trans s2) (.int _)⟩
/-! ### a[lo:hi] -/
def cutD (ds : List D) (lo hi : Option Int) : List D := (ds.drop (HT.sIx ds.length 0 lo)).take (HT.sIx ds.length ds.length hi - HT.sIx ds.length 0 lo)
theorem DqA.cut {K : PySem.W.Frag} {H : Hp} {xs : List V} {ds : List D} (h : DqA K H xs ds) (lo hi : Option Int) : DqA K H (cutV xs lo hi) (cutD ds lo hi) := by
  unfold cutV cutD
  rw [h.length]
  exact (h.drop _).take _
def SO (T : Ct) (e : Option Expr) (g : En → Option (Option Int)) : Prop :=
  ∀ X, Good T X → ∀ (σ : L2.St) (H : Hp) (ρ : En) (o : Option Int), Env T.K H σ ρ → g ρ = some o → ∀ Q : Option Int → Hp → Prop, (∀ H', Same H H' → Q o H') → ∃ t, PO X e t ∧ t σ H Q
def gON : En → Option (Option Int) := fun _ => some none
def gOS (g : En → Option D) : En → Option (Option Int) := fun ρ => (g ρ).bind fun d => match d with
  | .int i => some (some i)
  | _ => none
theorem so_none : SO T none gON := fun X G σ H ρ o env ho Q q => by
  cases ho
  exact ⟨_, po_none, q H (Same.refl H)⟩
theorem so_some (ha : SE T a ga) : SO T (some a) (gOS ga) := by
  intro X G σ H ρ o env ho Q q
  unfold gOS at ho
  cases e : ga ρ with
  | none => rw [e] at ho; cases ho
  | some d =>
    rw [e] at ho
    cases d <;> try (cases ho; done)
    cases ho
    refine ⟨_, po_some pe_w, ?_⟩
    refine ha X G σ H ρ _ env e _ fun v H1 s1 d1 => ?_
    cases d1
    exact ⟨_, rfl, q H1 s1⟩
theorem po_any {X : Cx} {e : Option Expr} : PO X e (fun σ H Q => ∃ t, PO X e t ∧ t σ H Q) := ⟨fun pins s σ H Q I ⟨_, p, h⟩ => p.run pins s σ H Q I h⟩
def slD' : D → Option Int → Option Int → Option D
  | .tup ds, lo, hi => some (.tup (cutD ds lo hi))
  | .str z, lo, hi => if z.length ≤ 1000000 then some (.str (cutS z lo hi)) else none
  | _, _, _ => none
def gSl (g : En → Option D) (lo hi : En → Option (Option Int)) : En → Option D := fun ρ => (g ρ).bind fun d => (lo ρ).bind fun l => (hi ρ).bind fun h => slD' d l h
variable {lo hi : Option Expr} {gl gh : En → Option (Option Int)} {p2 : Pos}
theorem cut_whole {ds : List D} {lo hi : Option Int} (h : HT.sIx ds.length 0 lo = 0 ∧ HT.sIx ds.length ds.length hi = ds.length) : cutD ds lo hi = ds := by
  unfold cutD
  rw [h.1, h.2]
  simp
theorem se_sl (ha : SE T a ga) (hl : SO T lo gl) (hh : SO T hi gh) : SE T (.Subscript a (.Slice lo hi none p2) pos) (gSl ga gl gh) := by
  intro X G σ H ρ d env hd Q q
  unfold gSl at hd
  cases e1 : ga ρ with
  | none => rw [e1] at hd; cases hd
  | some x =>
  cases e2 : gl ρ with
  | none => rw [e1, e2] at hd; cases hd
  | some l =>
  cases e3 : gh ρ with
  | none => rw [e1, e2, e3] at hd; cases hd
  | some h =>
  rw [e1, e2, e3] at hd
  have hd : slD' x l h = some d := hd
  have hr : SlR X (fun x lo hi H Q => ∃ r, SlR X r ∧ r x lo hi H Q) := fun pins s σ H x v vl vu lo hi sl Q I rx hs pl pu ⟨r, h1, h2⟩ => h1 pins s σ H x v vl vu lo hi sl Q I rx hs pl pu h2
  refine ⟨_, pe_slice hr pe_w po_any po_any, ?_⟩
  refine ha X G σ H ρ x env e1 _ fun v H1 s1 d1 => ?_
  refine hl X G σ H1 ρ l (env.mono s1) e2 _ fun H2 s2 => ?_
  refine hh X G σ H2 ρ h (env.mono (s1.trans s2)) e3 _ fun H3 s3 => ?_
  have d1 := d1.mono (s2.trans s3)
  have s := (s1.trans s2).trans s3
  cases x <;> try (cases hd; done)
  · rename_i z _ _
    have hd : (if z.length ≤ 1000000 then some (D.str (cutS z l h)) else none) = some d := hd
    split at hd
    · rename_i hz
      cases hd; cases d1
      exact ⟨_, sl_str, z, rfl, sz hz, q _ H3 s (.str _)⟩
    · cases hd
  · rename_i ds _
    cases hd
    cases d1 with
    | @tup ad xs _ h1 h2 =>
      refine ⟨_, sl_tupA, ad, xs, rfl, by rw [G.hK]; exact SqT.of h1, fun hw => ?_, fun hw p hp => ?_⟩
      · rw [h2.length] at hw
        rw [cut_whole hw] at q
        exact q _ H3 s (.tup h1 h2)
      · have s4 := same_upd (o := .tup (cutV xs l h)) hp
        exact q _ _ (s.trans s4) (.tup upd_same ((h2.cut l h).mono s4))
def gSlL (g : En → Option D) (lo hi : En → Option (Option Int)) : En → Option (List D) := fun ρ => (g ρ).bind fun d => (lo ρ).bind fun l => (hi ρ).bind fun h => match d with
  | .lst ds => some (cutD ds l h)
  | _ => none
theorem sl_sl (ha : SE T a ga) (hl : SO T lo gl) (hh : SO T hi gh) : SL T (.Subscript a (.Slice lo hi none p2) pos) (gSlL ga gl gh) := by
  intro X G σ H ρ d env hd Q q
  unfold gSlL at hd
  cases e1 : ga ρ with
  | none => rw [e1] at hd; cases hd
  | some x =>
  cases e2 : gl ρ with
  | none => rw [e1, e2] at hd; cases hd
  | some l =>
  cases e3 : gh ρ with
  | none => rw [e1, e2, e3] at hd; cases hd
  | some h =>
  rw [e1, e2, e3] at hd
  cases x <;> try (cases hd; done)
  rename_i ds
  cases hd
  refine ⟨_, pe_slice sl_list pe_w po_any po_any, ?_⟩
  refine ha X G σ H ρ _ env e1 _ fun v H1 s1 d1 => ?_
  refine hl X G σ H1 ρ l (env.mono s1) e2 _ fun H2 s2 => ?_
  refine hh X G σ H2 ρ h (env.mono (s1.trans s2)) e3 _ fun H3 s3 => ?_
  have d1 := d1.mono (s2.trans s3)
  have s := (s1.trans s2).trans s3
  cases d1 with
  | @lst ad xs _ h1 h2 =>
    refine ⟨ad, xs, rfl, SqL.of h1, fun p hp => ?_⟩
    have s4 := same_upd (o := .lst (cutV xs l h)) hp
    exact q _ _ _ (s.free hp) (s.trans s4) upd_same ((h2.cut l h).mono s4)
/-! ### list + list, list * int -/
variable {la lb : En → Option (List D)}
def gCat (a b : En → Option (List D)) : En → Option (List D) := fun ρ => (a ρ).bind fun x => (b ρ).bind fun y => if x.length + y.length ≤ 1000000 then some (x ++ y) else none
/-- a list whatever it is -/
def gAsL (g : En → Option D) : En → Option (List D) := fun ρ => (g ρ).bind fun d => match d with
  | .lst ds => some ds
  | _ => none
def SR (T : Ct) (e : Expr) (g : En → Option (List D)) : Prop :=
  ∀ X, Good T X → ∀ (σ : L2.St) (H : Hp) (ρ : En) (ds : List D), Env T.K H σ ρ → g ρ = some ds → ∀ Q : VK, (∀ p xs H', Same H H' → H' p = some (.lst xs) → DqA T.K H' xs ds → Q (.ref p) H') → wE X e σ H Q
theorem sr_of_sl {e : Expr} {g : En → Option (List D)} (h : SL T e g) : SR T e g := fun X G σ H ρ ds env hd Q q => h X G σ H ρ ds env hd Q fun p xs H' _ s h1 h2 => q p xs H' s h1 h2
theorem sr_of_se (h : SE T a ga) : SR T a (gAsL ga) := by
  intro X G σ H ρ ds env hd Q q
  unfold gAsL at hd
  cases e : ga ρ with
  | none => rw [e] at hd; cases hd
  | some d =>
    rw [e] at hd
    cases d <;> try (cases hd; done)
    cases hd
    refine h X G σ H ρ _ env e _ fun v H1 s1 d1 => ?_
    cases d1 with
    | lst h1 h2 => exact q _ _ H1 s1 h1 h2
theorem sl_cat (ha : SR T a la) (hb : SR T b lb) : SL T (.BinOp a .Add b pos) (gCat la lb) := by
  intro X G σ H ρ d env hd Q q
  unfold gCat at hd
  cases e1 : la ρ with
  | none => rw [e1] at hd; cases hd
  | some x =>
  cases e2 : lb ρ with
  | none => rw [e1, e2] at hd; cases hd
  | some y =>
  rw [e1, e2] at hd
  have hd : (if x.length + y.length ≤ 1000000 then some (x ++ y) else none) = some d := hd
  split at hd
  · rename_i hl
    have hd := Option.some.inj hd
    subst hd
    refine ⟨_, pe_op op_cat pe_w pe_w, ?_⟩
    refine ha X G σ H ρ x env e1 _ fun p xs H1 s1 h1 d1 => ?_
    refine hb X G σ H1 ρ y (env.mono s1) e2 _ fun p' ys H2 s2 h2 d2 => ?_
    have d1 := d1.mono s2
    refine ⟨p, p', xs, ys, rfl, rfl, s2 _ _ h1, h2, by rw [d1.length, d2.length]; exact sz hl, fun r hr => ?_⟩
    have s3 := same_upd (o := .lst (xs ++ ys)) hr
    exact q _ _ _ ((s1.trans s2).free hr) ((s1.trans s2).trans s3) upd_same ((d1.append d2).mono s3)
  · cases hd
def gRep (a : En → Option (List D)) (b : En → Option D) : En → Option (List D) := fun ρ => (a ρ).bind fun x => (b ρ).bind fun y => match y with
  | .int k => if -(2 ^ 63) ≤ k ∧ k < 2 ^ 63 ∧ x.length * k.toNat ≤ 1000000 then some (List.replicate k.toNat x).flatten else none
  | _ => none
theorem sl_rep (ha : SR T a la) (hb : SE T b gb) : SL T (.BinOp a .Mult b pos) (gRep la gb) := by
  intro X G σ H ρ d env hd Q q
  unfold gRep at hd
  cases e1 : la ρ with
  | none => rw [e1] at hd; cases hd
  | some x =>
  cases e2 : gb ρ with
  | none => rw [e1, e2] at hd; cases hd
  | some y =>
  rw [e1, e2] at hd
  cases y <;> try (cases hd; done)
  rename_i k
  have hd : (if -(2 ^ 63) ≤ k ∧ k < 2 ^ 63 ∧ x.length * k.toNat ≤ 1000000 then some (List.replicate k.toNat x).flatten else none) = some d := hd
  split at hd
  · rename_i hl
    have hd := Option.some.inj hd
    subst hd
    refine ⟨_, pe_op op_rep pe_w pe_w, ?_⟩
    refine ha X G σ H ρ x env e1 _ fun p xs H1 s1 h1 d1 => ?_
    refine hb X G σ H1 ρ _ (env.mono s1) e2 _ fun u H2 s2 d2 => ?_
    cases d2
    have d1 := d1.mono s2
    refine ⟨p, k, xs, rfl, rfl, s2 _ _ h1, hl.1, hl.2.1, by rw [d1.length]; exact sz hl.2.2, fun r hr => ?_⟩
    have s3 := same_upd (o := .lst (List.replicate k.toNat xs).flatten) hr
    exact q _ _ _ ((s1.trans s2).free hr) ((s1.trans s2).trans s3) upd_same ((d1.rep k.toNat).mono s3)
  · cases hd
/-! ### calls of own defs -/
/-- a def's promise, by a function of data -/
def spD (K : PySem.W.Frag) (f : List D → Option D) : Sp := fun vs H Q _ => ∃ ds d, DqA K H vs ds ∧ f ds = some d ∧ ∀ v H', Same H H' → Dq K H' v d → Q v H'
/-- .. that hands back a new list -/
def spL (K : PySem.W.Frag) (f : List D → Option (List D)) : Sp := fun vs H Q _ => ∃ ds d, DqA K H vs ds ∧ f ds = some d ∧ ∀ p xs H', H p = none → Same H H' → H' p = some (.lst xs) → DqA K H' xs d → Q (.ref p) H'
def CalleeS (T : Ct) (x : Str) (sp : Sp) : Prop := ∃ (CX : CXT) (k : Nat) (f : Addr) (fd : FuncData) (ps : List Str), FnOk T.P T.w T.K T.mg T.base CX k f fd ps sp ∧ k ≤ T.lv ∧ T.mg x = some (.ref f) ∧ PySem.W.keepIn T.K (.ref f) = true ∧ Binds T.K fd ps [] ∧
  ∀ X : Cx, X.prog = T.P → X.w = T.w → Passes CX X E0
abbrev Callee (T : Ct) (x : Str) (f : List D → Option D) : Prop := CalleeS T x (spD T.K f)
def gCall (f : List D → Option D) (g : En → Option (List D)) : En → Option D := fun ρ => (g ρ).bind f
theorem se_call {x : Str} {f : List D → Option D} {e : Expr} {es : List Expr} {g : En → Option (List D)} {p : Pos} (C : Callee T x f) (h : SA T (e :: es) g) (hg : T.sc.names.lookup x = some .globalImplicit)
    (hdb : (x == ("__debug__" : Str)) = false := by decide) (he : ∀ env, starEach (e :: es) env = (false, eval e env) :: starEach es env := by intro _; rfl) (hpl : ∀ env, (backTo pos (starEach es env)).any (·.1) = false := by intro _; rfl) (hmd : T.md = none := by rfl) : SE T (.Call (.Name x p) (e :: es) [] pos) (gCall f g) := by
  intro X G σ H ρ d env hd Q q
  obtain ⟨CX, k, fa, fd, ps, F, hk, hm, hkp, hb, hx⟩ := C
  unfold gCall at hd
  cases e1 : g ρ with
  | none => rw [e1] at hd; cases hd
  | some ds =>
  rw [e1] at hd
  have hd : f ds = some d := hd
  refine ⟨_, pe_call (CX := CX) (k := k) (f := fa) (fd := fd) (ps := ps) (sp := spD T.K f) (dvs := []) (ds := []) (E := E0) (by rw [G.hP, G.hw, G.hK, G.hm, G.hb]; exact F) ((G.room hmd).mono hk) (by show X.env.scope.names.lookup x = _; rw [G.hs]; exact hg) (by rw [G.hm]; exact hm) (by rw [G.hK]; exact hkp)
    (by rw [G.hK]; exact hb) .nil (hx X G.hP G.hw) pa_w hdb (he X.env) (hpl X.env), ?_⟩
  refine h X G σ H ρ ds env e1 _ fun vs H1 s1 d1 => ?_
  rw [List.append_nil]
  exact ⟨ds, d, d1, hd, fun v H' s2 d2 => q v H' (s1.trans s2) d2⟩
def gCallL (f : List D → Option (List D)) (g : En → Option (List D)) : En → Option (List D) := fun ρ => (g ρ).bind f
theorem sl_call {x : Str} {f : List D → Option (List D)} {e : Expr} {es : List Expr} {g : En → Option (List D)} {p : Pos} (C : CalleeS T x (spL T.K f)) (h : SA T (e :: es) g) (hg : T.sc.names.lookup x = some .globalImplicit)
    (hdb : (x == ("__debug__" : Str)) = false := by decide) (he : ∀ env, starEach (e :: es) env = (false, eval e env) :: starEach es env := by intro _; rfl) (hpl : ∀ env, (backTo pos (starEach es env)).any (·.1) = false := by intro _; rfl) (hmd : T.md = none := by rfl) : SL T (.Call (.Name x p) (e :: es) [] pos) (gCallL f g) := by
  intro X G σ H ρ d env hd Q q
  obtain ⟨CX, k, fa, fd, ps, F, hk, hm, hkp, hb, hx⟩ := C
  unfold gCallL at hd
  cases e1 : g ρ with
  | none => rw [e1] at hd; cases hd
  | some ds =>
  rw [e1] at hd
  have hd : f ds = some d := hd
  refine ⟨_, pe_call (CX := CX) (k := k) (f := fa) (fd := fd) (ps := ps) (sp := spL T.K f) (dvs := []) (ds := []) (E := E0) (by rw [G.hP, G.hw, G.hK, G.hm, G.hb]; exact F) ((G.room hmd).mono hk) (by show X.env.scope.names.lookup x = _; rw [G.hs]; exact hg) (by rw [G.hm]; exact hm) (by rw [G.hK]; exact hkp)
    (by rw [G.hK]; exact hb) .nil (hx X G.hP G.hw) pa_w hdb (he X.env) (hpl X.env), ?_⟩
  refine h X G σ H ρ ds env e1 _ fun vs H1 s1 d1 => ?_
  rw [List.append_nil]
  exact ⟨ds, d, d1, hd, fun p' xs H' n s2 h2 d2 => q p' xs H' (s1.free n) (s1.trans s2) h2 d2⟩
/-! ### calls of built-ins -/
def CalD (T : Ct) (f : Value) (h : List D → Option D) : Prop :=
  ∀ X, Good T X → ∀ (H : Hp) (vs : List V) (ds : List D) (z : D), DqA T.K H vs ds → h ds = some z → ∀ Q : VK, (∀ v H', Same H H' → Dq T.K H' v z → Q v H') → ∃ r, CallR X f r ∧ r vs H Q
theorem se_b {x id : String} {h : List D → Option D} {e : Expr} {es : List Expr} {g : En → Option (List D)} {p : Pos} (o : CalD T (.builtin id) h) (hm : T.mg x = none) (hv : bootBuiltins x = some (.builtin id)) (ha : SA T (e :: es) g) (hg : T.sc.names.lookup (x : Str) = some .globalImplicit)
    (hn : (x : Str) ≠ "__name__" := by decide) (hdb : ((x : Str) == ("__debug__" : Str)) = false := by decide) (he : ∀ env, starEach (e :: es) env = (false, eval e env) :: starEach es env := by intro _; rfl) (hpl : ∀ env, (backTo pos (starEach es env)).any (·.1) = false := by intro _; rfl) :
    SE T (.Call (.Name (x : Str) p) (e :: es) [] pos) (gCall h g) := by
  intro X G σ H ρ d env hd Q q
  unfold gCall at hd
  cases e1 : g ρ with
  | none => rw [e1] at hd; cases hd
  | some ds =>
  rw [e1] at hd
  have hd : h ds = some d := hd
  have hr : CallR X (.builtin id) (fun vs H Q => ∃ r, CallR X (.builtin id) r ∧ r vs H Q) := fun pins s σ H xs us Q I rx ⟨r, h1, h2⟩ => h1 pins s σ H xs us Q I rx h2
  refine ⟨_, pe_callB hr (by show X.env.scope.names.lookup _ = _; rw [G.hs]; exact hg) (by rw [G.hm]; exact hm) hv pa_w hn hdb (he X.env) (hpl X.env), ?_⟩
  refine ha X G σ H ρ ds env e1 _ fun vs H1 s1 d1 => ?_
  exact o X G H1 vs ds d d1 hd Q fun v H' s2 d2 => q v H' (s1.trans s2) d2
theorem se_t {x id : String} {h : List D → Option D} {e : Expr} {es : List Expr} {g : En → Option (List D)} {p : Pos} (o : CalD T (.type id) h) (hm : T.mg x = none) (hv : bootBuiltins x = some (.type id)) (ha : SA T (e :: es) g) (hg : T.sc.names.lookup (x : Str) = some .globalImplicit)
    (hn : (x : Str) ≠ "__name__" := by decide) (hdb : ((x : Str) == ("__debug__" : Str)) = false := by decide) (he : ∀ env, starEach (e :: es) env = (false, eval e env) :: starEach es env := by intro _; rfl) (hpl : ∀ env, (backTo pos (starEach es env)).any (·.1) = false := by intro _; rfl) :
    SE T (.Call (.Name (x : Str) p) (e :: es) [] pos) (gCall h g) := by
  intro X G σ H ρ d env hd Q q
  unfold gCall at hd
  cases e1 : g ρ with
  | none => rw [e1] at hd; cases hd
  | some ds =>
  rw [e1] at hd
  have hd : h ds = some d := hd
  have hr : CallR X (.type id) (fun vs H Q => ∃ r, CallR X (.type id) r ∧ r vs H Q) := fun pins s σ H xs us Q I rx ⟨r, h1, h2⟩ => h1 pins s σ H xs us Q I rx h2
  refine ⟨_, pe_callTy hr (by show X.env.scope.names.lookup _ = _; rw [G.hs]; exact hg) (by rw [G.hm]; exact hm) hv pa_w hn hdb (he X.env) (hpl X.env), ?_⟩
  refine ha X G σ H ρ ds env e1 _ fun vs H1 s1 d1 => ?_
  exact o X G H1 vs ds d d1 hd Q fun v H' s2 d2 => q v H' (s1.trans s2) d2
theorem dqa1 {K : PySem.W.Frag} {H : Hp} {vs : List V} {d : D} (h : DqA K H vs [d]) : ∃ v, vs = [v] ∧ Dq K H v d := by
  cases h with
  | cons h1 h2 => cases h2; exact ⟨_, rfl, h1⟩
theorem dqa2 {K : PySem.W.Frag} {H : Hp} {vs : List V} {d e : D} (h : DqA K H vs [d, e]) : ∃ v u, vs = [v, u] ∧ Dq K H v d ∧ Dq K H u e := by
  cases h with
  | cons h1 h2 =>
    obtain ⟨u, rfl, h3⟩ := dqa1 h2
    exact ⟨_, _, rfl, h1, h3⟩
def lenD : List D → Option D
  | [.tup ds] => some (.int ds.length)
  | [.lst ds] => some (.int ds.length)
  | [.scr ns] => some (.int ns.length)
  | [.str z] => if z.length ≤ 1000000 then some (.int z.length) else none
  | _ => none
theorem cd_len : CalD T (.builtin "len") lenD := by
  intro X G H vs ds z dv h Q q
  unfold lenD at h
  split at h
  · cases h
    obtain ⟨v, rfl, d1⟩ := dqa1 dv
    cases d1 with
    | tup h1 h2 =>
      rw [← h2.length] at q
      exact ⟨_, call_len_seq, _, _, rfl, .inr (by rw [G.hK]; exact SqT.of h1), q _ H (Same.refl H) (.int _)⟩
  · cases h
    obtain ⟨v, rfl, d1⟩ := dqa1 dv
    cases d1 with
    | lst h1 h2 =>
      rw [← h2.length] at q
      exact ⟨_, call_len_seq, _, _, rfl, .inl (SqL.of h1), q _ H (Same.refl H) (.int _)⟩
  · rename_i ns
    cases h
    obtain ⟨v, rfl, d1⟩ := dqa1 dv
    cases d1 with
    | scr h1 =>
      refine ⟨_, call_len_seq, _, _, rfl, .inl (by rw [G.hK]; exact h1), ?_⟩
      rw [List.length_map]
      exact q _ H (Same.refl H) (.int _)
  · split at h
    · rename_i hz
      cases h
      obtain ⟨v, rfl, d1⟩ := dqa1 dv
      cases d1
      exact ⟨_, call_len_str, _, rfl, sz hz, q _ H (Same.refl H) (.int _)⟩
    · cases h
  · cases h
def maxD : List D → Option D
  | [.int i, .int j] => some (.int (if j > i then j else i))
  | _ => none
theorem cd_max (hmd : T.md = none := by rfl) : CalD T (.builtin "max") maxD := by
  intro X G H vs ds z dv h Q q
  unfold maxD at h
  split at h
  · cases h
    obtain ⟨v, u, rfl, d1, d2⟩ := dqa2 dv
    cases d1; cases d2
    exact ⟨_, call_max2 (G.calm hmd), _, _, rfl, q _ H (Same.refl H) (.int _)⟩
  · cases h
def dBls : List D → Option (List Bool)
  | [] => some []
  | .bl i :: r => (dBls r).map (i :: ·)
  | _ => none
@[simp] theorem dBls_map : ∀ ns : List Bool, dBls (ns.map D.bl) = some ns
  | [] => rfl
  | n :: ns => by simp [dBls, dBls_map ns]
theorem dBls_some : ∀ {ds : List D} {ns : List Bool}, dBls ds = some ns → ds = ns.map D.bl
  | [], _, h => by simp only [dBls] at h; cases h; rfl
  | d :: ds, ns, h => by
    cases d with
    | bl i =>
      simp only [dBls] at h
      cases q : dBls ds with
      | none => rw [q] at h; cases h
      | some ms =>
        rw [q] at h
        cases h
        rw [dBls_some q]; rfl
    | _ => simp only [dBls] at h; cases h
def allD : List D → Option D
  | [.lst ds] => (dBls ds).map fun bs => .bl (bs.all id)
  | _ => none
theorem cd_all (hmd : T.md = none := by rfl) : CalD T (.builtin "all") allD := by
  intro X G H vs ds z dv h Q q
  unfold allD at h
  split at h
  · rename_i ds
    cases e : dBls ds with
    | none => rw [e] at h; cases h
    | some bs =>
      rw [e] at h
      cases h
      obtain ⟨v, rfl, d1⟩ := dqa1 dv
      rw [dBls_some e] at d1
      cases d1 with
      | lst h1 h2 =>
        have e1 := h2.bls
        subst e1
        exact ⟨_, cr_all (G.calm hmd), _, bs, rfl, SqL.of h1, q _ H (Same.refl H) (.bl _)⟩
  · cases h
def intD : List D → Option D
  | [.int i] => some (.int i)
  | [.bl k] => some (.int (if k then 1 else 0))
  | [.str a] => if a.length ≤ 640 then (PySem.intText? a).map D.int else none
  | _ => none
theorem cd_int : CalD T (.type "int") intD := by
  intro X G H vs ds z dv h Q q
  unfold intD at h
  split at h
  · cases h
    obtain ⟨v, rfl, d1⟩ := dqa1 dv
    cases d1
    exact ⟨_, call_int1, .inl ⟨_, rfl, q _ H (Same.refl H) (.int _)⟩⟩
  · cases h
    obtain ⟨v, rfl, d1⟩ := dqa1 dv
    cases d1
    exact ⟨_, call_int1, .inr ⟨_, rfl, q _ H (Same.refl H) (.int _)⟩⟩
  · rename_i a
    split at h
    · rename_i hz
      cases e : PySem.intText? a with
      | none => rw [e] at h; cases h
      | some n =>
        rw [e] at h
        cases h
        obtain ⟨v, rfl, d1⟩ := dqa1 dv
        cases d1
        exact ⟨_, call_int_str, _, n, rfl, e, hz, q _ H (Same.refl H) (.int _)⟩
    · cases h
  · cases h
def strD : List D → Option D
  | [.int i] => if i.natAbs.log2 < 1920 then some (.str (toString i)) else none
  | _ => none
theorem cd_str : CalD T (.type "str") strD := by
  intro X G H vs ds z dv h Q q
  unfold strD at h
  split at h
  · split at h
    · rename_i hz
      cases h
      obtain ⟨v, rfl, d1⟩ := dqa1 dv
      cases d1
      exact ⟨_, call_str_int, _, rfl, hz, q _ H (Same.refl H) (.str _)⟩
    · cases h
  · cases h
def tupD : List D → Option D
  | [.tup ds] => some (.tup ds)
  | [.lst ds] => some (.tup ds)
  | _ => none
theorem cd_tup : CalD T (.type "tuple") tupD := by
  intro X G H vs ds z dv h Q q
  unfold tupD at h
  split at h
  · cases h
    obtain ⟨v, rfl, d1⟩ := dqa1 dv
    cases d1 with
    | tup h1 h2 => exact ⟨_, call_tuple_of, _, _, rfl, .inr ⟨by rw [G.hK]; exact SqT.of h1, q _ H (Same.refl H) (.tup h1 h2)⟩⟩
  · cases h
    obtain ⟨v, rfl, d1⟩ := dqa1 dv
    cases d1 with
    | @lst _ xs _ h1 h2 =>
      refine ⟨_, call_tuple_of, _, xs, rfl, .inl ⟨SqL.of h1, fun l hl => ?_⟩⟩
      have s := same_upd (o := .tup xs) hl
      exact q _ _ s (.tup upd_same (h2.mono s))
  · cases h
/-- list(x) -/
def gToL (g : En → Option D) : En → Option (List D) := fun ρ => (g ρ).bind fun d => match d with
  | .tup ds => some ds
  | .lst ds => some ds
  | _ => none
theorem sl_list {p : Pos} (hm : T.mg "list" = none) (ha : SE T a ga) (hg : T.sc.names.lookup ("list" : Str) = some .globalImplicit) (he : ∀ env, starEach [a] env = (false, eval a env) :: starEach [] env := by intro _; rfl) : SL T (.Call (.Name "list" p) [a] [] pos) (gToL ga) := by
  intro X G σ H ρ d env hd Q q
  unfold gToL at hd
  cases e1 : ga ρ with
  | none => rw [e1] at hd; cases hd
  | some x =>
  rw [e1] at hd
  refine ⟨_, pe_callTy call_list_of (by show X.env.scope.names.lookup _ = _; rw [G.hs]; exact hg) (by rw [G.hm]; exact hm) (by decide +kernel) (pa_cons pe_w pa_nil (he X.env)) (by decide) (by decide) (he X.env) rfl, ?_⟩
  refine ha X G σ H ρ x env e1 _ fun v H1 s1 d1 => ?_
  cases x <;> try (cases hd; done)
  · cases hd
    cases d1 with
    | @tup _ xs _ h1 h2 =>
      refine ⟨_, xs, rfl, .inr (by rw [G.hK]; exact SqT.of h1), fun l hl => ?_⟩
      have s := same_upd (o := .lst xs) hl
      exact q _ _ _ (s1.free hl) (s1.trans s) upd_same (h2.mono s)
  · cases hd
    cases d1 with
    | @lst _ xs _ h1 h2 =>
      refine ⟨_, xs, rfl, .inl (SqL.of h1), fun l hl => ?_⟩
      have s := same_upd (o := .lst xs) hl
      exact q _ _ _ (s1.free hl) (s1.trans s) upd_same (h2.mono s)
/-! ### isinstance(x, T) -/
def tyD : D → String
  | .non => "NoneType"
  | .bl _ => "bool"
  | .int _ => "int"
  | .str _ => "str"
  | .tup _ => "tuple"
  | .lst _ => "list"
  | .scr _ => "list"
  | .dct _ => "dict"
  | .ftp _ => "tuple"
theorem Dq.ty {K : PySem.W.Frag} {H : Hp} {v : V} {d : D} (h : Dq K H v d) : TyX K H v (.type (tyD d)) := by
  cases h with
  | non => exact .base .non
  | bl b => exact .base (.bl b)
  | int b => exact .base (.int b)
  | str b => exact .base (.str b)
  | tup h1 h2 =>
    exact .base (.tup h1)
  | lst h1 h2 => exact .base (.lst h1)
  | scr h1 =>
    rcases h1 with (h1 | ⟨o, h1⟩) | ⟨o, its, n, h1, h3, _⟩
    · exact .base (.lst h1)
    · exact .base (.frz h1)
    · exact .kList h1 h3
  | dct h1 => exact .base (.dT h1)
  | ftp h1 h0 h2 => exact .fTuple h1
def isiD (Tn : String) (d : D) : Option D := (kitB (tyD d) Tn).map D.bl
theorem se_isi (Tn : String) {p p' : Pos} (hm : T.mg "isinstance" = none) (hm2 : T.mg Tn = none) (hv : bootBuiltins Tn = some (.type Tn)) (ha : SE T a ga) (hg : T.sc.names.lookup ("isinstance" : Str) = some .globalImplicit) (hg2 : T.sc.names.lookup (Tn : Str) = some .globalImplicit)
    (hn : (Tn : Str) ≠ "__name__" := by decide) (hdb : ((Tn : Str) == ("__debug__" : Str)) = false := by decide)
    (he : ∀ env, starEach [a, .Name (Tn : Str) p'] env = (false, eval a env) :: starEach [.Name (Tn : Str) p'] env := by intro _; rfl) : SE T (.Call (.Name "isinstance" p) [a, .Name (Tn : Str) p'] [] pos) (g1 (isiD Tn) ga) := by
  intro X G σ H ρ d env hd Q q
  unfold g1 at hd
  cases e1 : ga ρ with
  | none => rw [e1] at hd; cases hd
  | some x =>
  rw [e1] at hd
  have hd : (kitB (tyD x) Tn).map D.bl = some d := hd
  cases e2 : kitB (tyD x) Tn with
  | none => rw [e2] at hd; cases hd
  | some k =>
  rw [e2] at hd
  cases hd
  refine ⟨_, pe_callB call_isi (by show X.env.scope.names.lookup _ = _; rw [G.hs]; exact hg) (by rw [G.hm]; exact hm) (by decide +kernel)
    (pa_cons pe_w (pa_cons (pe_bltn (v := .ty Tn) (by show X.env.scope.names.lookup _ = _; rw [G.hs]; exact hg2) (by rw [G.hm]; exact hm2) hv rfl hn hdb) pa_nil) (he X.env)) (by decide) (by decide) (he X.env) rfl, ?_⟩
  refine ha X G σ H ρ x env e1 _ fun v H1 s1 d1 => ?_
  exact ⟨v, .ty Tn, _, _, k, rfl, .ty Tn, by rw [G.hK]; exact d1.ty, kit_ty e2, q _ H1 s1 (.bl _)⟩
end
end Pf

set_option Elab.async false
set_option linter.all false
set_option maxRecDepth 100000
set_option maxHeartbeats 2000000
/-! Pf4a: enumerate over a tuple. -/
namespace Pf
open PySem PySem.Spec L2
open AutoSeq1 (wpAny_loadPart')
theorem new_enumT (t : Addr) (items : Array Value) (n : Nat) (dd : Option Addr) (sl : Array (Option Value)) :
    Meets (Builtin.«enumerate.__new__» ⟨[.type "enumerate", .ref t], []⟩) (fun _ R s => s.heap.get? t = some { cls := .type "tuple", dict := dd, data := .seq items n, slots := sl } ∧
      R (.ok (.ret (.ref (s.heap.push { cls := .type "tuple_iterator", data := .fields #[.ref t, .int 0 0] }).objs.size)))
        { s with heap := (s.heap.push { cls := .type "tuple_iterator", data := .fields #[.ref t, .int 0 0] }).push { cls := .type "enumerate", data := .fields #[.none, .bool false, .ref s.heap.objs.size, rawInt 0, .none, .none] } }) :=
  .of_wp fun prog w A R s hh => by
    obtain ⟨hp, gens, dr, tk, os⟩ := s
    obtain ⟨hl, hR⟩ := hh
    have hsub := sub_enumerate
    have hT : Heap.IsTuple (Shared.heap ⟨hp, gens, dr, tk, os⟩) t items := ⟨_, hl, rfl, n, rfl⟩
    wp_walk using wpAny_loadPart' hl
    refine wpAny_stack_any fun st => wpAny_pure ?_
    split
    · rename_i c _ _ _ _ _
      cases (c == Value.type "enumerate") <;> (wp_walk using wpAny_loadPart' hl, wpAny_pyIter_tuple hT; exact ⟨_, rfl, hR⟩)
    · wp_walk using wpAny_loadPart' hl, wpAny_pyIter_tuple hT
      exact ⟨_, rfl, hR⟩
section
variable {prog : Program} {w : World} {A : Around} {E : Value → Shared → Prop} {s : Shared}
theorem call_enumT {t : Addr} {items : Array Value} {Q : Value → Shared → Prop} (hT : s.heap.IsTuple t items)
    (q : ∀ h', IsEnum h' (s.heap.objs.size + 1) s.heap.objs.size 0 .none → h'.IsTupleIter s.heap.objs.size t 0 → (∀ b o, s.heap.get? b = some o → h'.get? b = some o) → Q (.ref (s.heap.objs.size + 1)) { s with heap := h' }) :
    wpAny (model prog w) A (call (.type "enumerate") [.ref t]) Q E s := by
  obtain ⟨⟨cl, dd, da, sl⟩, hl, e1, n, e2⟩ := hT
  simp only at e1 e2
  subst e1 e2
  refine callType_new F.called_enumerate (by decide) (F.typeCall_enumerate_1 _) (F.newCall_enumerate_1 _) (fun obj => F.args_object_init_2 obj _) F.entry_enumerate_new (new_enumT t items n dd sl) ⟨hl, ?_⟩
  generalize hit : ({ cls := .type "tuple_iterator", data := .fields #[.ref t, .int 0 0] } : Obj) = it
  have z1 : (s.heap.push it).objs.size = s.heap.objs.size + 1 := Heap.size_push ..
  have fr : it.isFreed = false := by rw [← hit]; rfl
  generalize hen : ({ cls := .type "enumerate", data := .fields #[.none, .bool false, .ref s.heap.objs.size, rawInt 0, .none, .none] } : Obj) = en
  have fr2 : en.isFreed = false := by rw [← hen]; rfl
  show _ ∧ _
  rw [z1]
  have he : ((s.heap.push it).push en).get? (s.heap.objs.size + 1) = some en := by
    have z := Heap.get?_push_size (s.heap.push it) (o := en) fr2
    rw [z1] at z
    exact z
  have hi : ((s.heap.push it).push en).get? s.heap.objs.size = some it := Heap.get?_push_of_some _ (Heap.get?_push_size _ fr)
  refine ⟨⟨_, he, by rw [← hen]⟩, q _ ?_ ⟨it, hi, by rw [← hit], by rw [← hit]; rfl⟩ fun b o e => Heap.get?_push_of_some _ (Heap.get?_push_of_some _ e)⟩
  rw [← hen] at he ⊢
  exact he
end
/-- the tuple at a, each item in a new pair -/
def IteT (K : PySem.W.Frag) (a : Addr) : It :=
  ⟨fun i H => ∃ (xs : List V) (x : V), SqT K H a xs ∧ xs[i]? = some x, fun i H v H' => ∃ t x, v = .ref t ∧ H t = none ∧ H' = upd H t (.tup [.int (i : Nat), x]) ∧ ∀ xs, SqT K H a xs → xs[i]? = some x, fun i H => ∃ xs : List V, SqT K H a xs ∧ xs.length ≤ i⟩
theorem turn_enumT {P : Program} {w : World} {K : PySem.W.Frag} {elts : List Expr} {kk : Nat} {tpos : Pos} (a e it : Addr) :
    Turn P w K (.Tuple elts kk tpos) (IteT K a) [e, it] e (fun i h => (∃ old, IsEnum h e it ((i : Nat) : Int) old) ∧ h.IsTupleIter it a i ∧ e ≠ it) where
  mem := by simp
  obj := fun i h st b hb => by
    obtain ⟨⟨old, he⟩, ⟨o, ho, _, hd⟩, _⟩ := st
    rcases List.mem_cons.mp hb with z | z
    · subst z; exact ⟨_, he, fun v q => nomatch q⟩
    · have z := List.mem_singleton.mp z
      subst z; exact ⟨o, ho, fun v q => by rw [hd] at q; cases q⟩
  keep := fun i h h' st k => by
    obtain ⟨⟨old, he⟩, hi, hne⟩ := st
    exact ⟨⟨old, k e (by simp) _ he⟩, hi.at fun o q => k it (by simp) o q, hne⟩
  item := by
    intro X hP hw hK hc i pins s σ H E I hf st hg
    subst hP hw hK
    obtain ⟨⟨old, he⟩, hit, hne⟩ := st
    obtain ⟨xs, x, hq, hx⟩ := hg
    obtain ⟨its, rv, p, _⟩ := I.tuple hq
    have hT : s.heap.IsTuple a its.toArray := p
    obtain ⟨u, hu, ru⟩ := rv.get hx
    have le : e < s.heap.objs.size := Heap.lt_size he
    have li : it < s.heap.objs.size := by obtain ⟨_, q, _⟩ := hit; exact Heap.lt_size q
    have hai : a ≠ it := fun z => by
      obtain ⟨o1, h1, c1, _⟩ := hT
      obtain ⟨o2, h2, c2, _⟩ := hit
      rw [z, h2] at h1
      cases h1
      rw [c2] at c1
      exact absurd c1 (by decide)
    have hae : a ≠ e := fun z => by
      obtain ⟨o1, h1, c1, _⟩ := hT
      have he' : s.heap.get? e = some _ := he
      rw [z, he'] at h1
      cases h1
      exact absurd (show Value.type "enumerate" = Value.type "tuple" from c1) (by decide)
    have hin : i < its.toArray.size := by
      have := (List.getElem?_eq_some_iff.mp hu).1
      simpa using this
    have hef : e ∉ [it, a] := by
      intro z
      rcases List.mem_cons.mp z with z | z
      · exact hne z
      · exact hae (List.mem_singleton.mp z).symm
    refine wpAny_pyNext_enum_itemD (Draws.tuple (A := X.A.in1) (I.ok.hd hc) it a hai its.toArray) he ⟨hit, hT⟩ hin hne hef fun y h' tk hy ho hst hnew hsz hk => ?_
    have ey : y = u := by
      have z : its.toArray[i]? = some u := by simpa using hu
      exact Option.some.inj (hy.symm.trans z)
    subst ey
    refine ⟨_, rfl, wpAny_letOwnedTupleGo_enum (s := { s with heap := h', toks := tk + 1 }) ho fun h2 he2 sb => ?_⟩
    have hT2 : h2.get? s.heap.objs.size = some { cls := .type "tuple", data := .seq #[.int i tk, y] } := (sb.2 _ (Nat.ne_of_gt le)).trans hnew
    have new : ObjOk X.prog X.w (upd H s.heap.objs.size (.tup [.int (i : Nat), x])) h2 s.heap.objs.size (.tup [.int (i : Nat), x]) :=
      ⟨by show 2 ≤ sizeLine; decide, [.int i tk, y], .cons ⟨_, rfl⟩ (.cons ru .nil), ⟨_, hT2, rfl, _, rfl⟩⟩
    have I1 : Inv X pins σ (upd H s.heap.objs.size (.tup [.int (i : Nat), x])) { s with heap := h2, toks := tk + 1 } :=
      I.turnedNew (ch := [e, it]) (fun b ob hb q => (sb.2 b (fun z => hb (by simp [z]))).trans (hk b ob (fun z => hb (by simp [z])) (fun z => hb (by simp [z])) q)) hf (Nat.le_refl _) new
    refine ⟨.ref s.heap.objs.size, _, I1, rfl, ⟨_, x, rfl, I.hok.fresh (Nat.le_refl _), rfl, fun ys hy => by rw [I.tuple_inj hy hq]; exact hx⟩, ⟨⟨y, ?_⟩, hst.1.at fun o q => (sb.2 it (Ne.symm hne)).trans q, hne⟩, fun b hb => ?_⟩
    · have e1 : ((i + 1 : Nat) : Int) = (i : Int) + 1 := by omega
      rw [e1]; exact he2
    · have lb : b < s.heap.objs.size := by
        rcases List.mem_cons.mp hb with z | z
        · rw [z]; exact le
        · rw [List.mem_singleton.mp z]; exact li
      rw [upd_ne (Nat.ne_of_lt lb)]
      exact (hf b hb).1
  done := by
    intro X hP hw hK hc i pins s σ H E I hf st hg
    subst hP hw hK
    obtain ⟨⟨old, he⟩, hit, hne⟩ := st
    obtain ⟨xs, hq, hx⟩ := hg
    obtain ⟨its, rv, p, _⟩ := I.tuple hq
    have hT : s.heap.IsTuple a its.toArray := p
    obtain ⟨f0, f1, f2, f3, f4, f5⟩ := hf it (by simp)
    have hl := rv.length
    have hT0 : s.TypeIs (.ref e) "enumerate" := ⟨_, he, rfl⟩
    unfold pyNext
    refine wpAny_bind (wpAny_attempt (wpAny_callSpecial?_slot (name := Str.ofString "__next__") hT0 F.slot_enumerate_next (wpAny_call_entry F.slot_enumerate_next hT0 F.entry_enumerate_next ?_ (F.args_enumerate_next_1 _))))
    show wpAny _ _ (field (.ref e) 2 >>= _) _ _ _
    refine wpAny_bind (wpAny_field he rfl (x := .ref it) rfl ?_)
    refine wpAny_bind (wpAny_nextOf_tuple_end (I.ok.hd hc) hit hT (by simp; omega) fun h' x hx1 hx2 => ?_)
    obtain ⟨o, ho, hcl⟩ := hx2
    refine wpAny_bind (wpAny_isInstance (T := "StopIteration") (b := true) ⟨o, ho, hcl⟩ isSubtype_stop ?_)
    exact wpAny_pure ⟨rfl, I.turned (t' := s.toks) (fun b o hb q => hx1 b o hb q) f0 f1 f3 f4 f5⟩
  self := fun A i s Q E st h => let ⟨⟨_, he⟩, _⟩ := st; wpAny_pyIter_enum he h
def iEnumT (K : PySem.W.Frag) (ta : TA) : TI := fun σ H R => ta σ H fun vs H1 => ∃ a xs, vs = [.ref a] ∧ SqT K H1 a xs ∧ R (IteT K a) H1
theorem pi_enumT {X : Cx} {e : Expr} {ta : TA} {p pos tpos : Pos} {elts : List Expr} {kk : Nat} (hg : Gl X "enumerate") (hm : X.mg "enumerate" = none) (ha : PA X [e] ta) (hs : starEach [e] X.env = [(false, eval e X.env)]) :
    PI X (.Tuple elts kk tpos) (.Call (.Name "enumerate" p) [e] [] pos) (iEnumT X.K ta) := by
  refine ⟨fun pins s σ H R I h => ?_⟩
  refine PyProof.Rows.Call_ (ld_blt I hg hm PyProof.Rows.boot_enumerate (PyProof.Rows.callWith_type1 (thn (ha.run pos pins s σ H _ I h) fun us s1 ⟨vs, H1, I1, r1, q1⟩ => ?_) hs rfl))
  obtain ⟨a, xs, ex, hq, q⟩ := q1
  subst ex
  cases r1 with
  | cons r rr =>
    cases rr
    cases r
    obtain ⟨its, rv, p', _⟩ := I1.tuple hq
    refine call_enumT (show s1.heap.IsTuple a its.toArray from p') fun h' he hit hk => wpAny_pyIter_enum he ?_
    have I2 : Inv X pins σ H1 { s1 with heap := h' } := I1.kept (t' := s1.toks) hk
    refine ⟨s1.heap.objs.size + 1, [s1.heap.objs.size + 1, s1.heap.objs.size], _, _, H1, rfl, I2, turn_enumT a (s1.heap.objs.size + 1) s1.heap.objs.size, ⟨⟨.none, he⟩, hit, Nat.succ_ne_self _⟩, fun b hb => ?_, q⟩
    have hle : s1.heap.objs.size ≤ b := by
      rcases List.mem_cons.mp hb with z | z
      · rw [z]; exact Nat.le_add_right _ _
      · rw [List.mem_singleton.mp z]; exact Nat.le_refl _
    exact I1.fpOk hle (I1.hok.fresh hle)
theorem walk_enumT {K : PySem.W.Frag} {a : Addr} {xs : List V} : Walk (IteT K a) xs.length (fun H => SqT K H a xs) (YPair (fun i => some (.int (i : Nat))) (fun i => xs[i]?)) := by
  refine ⟨fun i _ hi q => ⟨xs, xs[i], q, by simp [hi]⟩, fun _ q => ⟨xs, q, Nat.le_refl _⟩, fun i H v H' _ q y => ?_⟩
  obtain ⟨t, x, h1, h2, h3, h4⟩ := y
  exact ⟨t, .int (i : Nat), x, h1, h2, h3, rfl, h4 xs q⟩
end Pf

set_option Elab.async false
set_option linter.all false
set_option maxRecDepth 100000
set_option maxHeartbeats 2000000
/-! Pf5: targets, what is walked, comprehensions. -/
namespace Pf
open PySem PySem.Spec L2
/-! ### data without lists -/
mutual
def lf : D → Bool
  | .non => true
  | .bl _ => true
  | .int _ => true
  | .str _ => true
  | .tup ds => lfA ds
  | .lst _ => false
  | .scr _ => false
  | .dct _ => true
  | .ftp ds => lfA ds
def lfA : List D → Bool
  | [] => true
  | d :: ds => lf d && lfA ds
end
@[simp] theorem lfA_ints : ∀ ns : List Int, lfA (ns.map D.int) = true
  | [] => rfl
  | n :: ns => by simp only [List.map_cons, lfA, lf, lfA_ints ns, Bool.and_self]
theorem lfA_mem : ∀ {ds : List D} {d : D}, lfA ds = true → d ∈ ds → lf d = true
  | e :: ds, d, h, m => by
    simp only [lfA, Bool.and_eq_true] at h
    rcases List.mem_cons.mp m with z | z
    · rw [z]; exact h.1
    · exact lfA_mem h.2 z
theorem lfA_of : ∀ {ds : List D}, (∀ d ∈ ds, lf d = true) → lfA ds = true
  | [], _ => rfl
  | e :: ds, h => by
    simp only [lfA, Bool.and_eq_true]
    exact ⟨h e (by simp), lfA_of fun d hd => h d (by simp [hd])⟩
/-- all but lists are kept -/
def Kp (H H' : Hp) : Prop := ∀ a o, H a = some o → (∀ xs, o ≠ .lst xs) → H' a = some o
theorem Kp.refl (H : Hp) : Kp H H := fun _ _ h _ => h
theorem Kp.trans {H H1 H2 : Hp} (a : Kp H H1) (b : Kp H1 H2) : Kp H H2 := fun x o h n => b x o (a x o h n) n
theorem kp_of {H H' : Hp} (s : Same H H') : Kp H H' := fun a o h _ => s a o h
section
variable {K : PySem.W.Frag} {H H' : Hp}
theorem Kp.seqT {a : Addr} {xs : List V} (e : Kp H H') (h : SqT K H a xs) : SqT K H' a xs := by
  rcases h with (h | ⟨o, h⟩) | h
  · exact .inl (.inl (e _ _ h (fun _ z => nomatch z)))
  · exact .inl (.inr ⟨o, e _ _ h (fun _ z => nomatch z)⟩)
  · exact .inr h
mutual
theorem Dq.kp (e : Kp H H') : ∀ (d : D) (v : V), lf d = true → Dq K H v d → Dq K H' v d
  | .non, _, _, h => by cases h; exact .non
  | .bl b, _, _, h => by cases h; exact .bl _
  | .int i, _, _, h => by cases h; exact .int _
  | .str z, _, _, h => by cases h; exact .str _
  | .tup ds, _, l, h => by
    simp only [lf] at l
    cases h with
    | tup h1 h2 => exact .tup (e _ _ h1 (fun _ z => nomatch z)) (DqA.kp e ds _ l h2)
  | .lst ds, _, l, _ => by simp only [lf] at l; cases l
  | .scr ns, _, l, _ => by simp only [lf] at l; cases l
  | .dct kvs, _, l, h => by
    cases h with
    | dct h1 => exact .dct (e _ _ h1 (fun _ z => nomatch z))
  | .ftp ds, _, l, h => by
    simp only [lf] at l
    cases h with
    | ftp h1 h0 h2 => exact .ftp (e _ _ h1 (fun _ z => nomatch z)) h0 (DqA.kp e ds _ l h2)
theorem DqA.kp (e : Kp H H') : ∀ (ds : List D) (vs : List V), lfA ds = true → DqA K H vs ds → DqA K H' vs ds
  | [], _, _, h => by cases h; exact .nil
  | d :: ds, _, l, h => by
    simp only [lfA, Bool.and_eq_true] at l
    cases h with
    | cons h1 h2 => exact .cons (Dq.kp e d _ l.1 h1) (DqA.kp e ds _ l.2 h2)
end
theorem kp_upd {p : Addr} {xs : List V} {o : HO} (h : H p = some (.lst xs)) : Kp H (upd H p o) := fun a u e n => by
  by_cases z : a = p
  · subst z
    rw [h] at e
    cases e
    exact absurd rfl (n xs)
  · rw [upd_ne z]; exact e
end
/-! ### slots set, forgotten -/
theorem Env.set {K : PySem.W.Frag} {H : Hp} {σ : L2.St} {ρ : En} (h : Env K H σ ρ) (i : Nat) {v : V} {d : D} (hd : Dq K H v d) : Env K H (σ.set i (some v)) (ρ.set i (.im d)) := by
  refine ⟨by simp [h.len], fun j s ov e1 e2 => ?_⟩
  by_cases z : i = j
  · subst z
    have hi : i < ρ.length := by have := (List.getElem?_eq_some_iff.mp e1).1; simpa using this
    rw [List.getElem?_set_self hi] at e1
    rw [List.getElem?_set_self (by rw [h.len]; exact hi)] at e2
    cases e1; cases e2
    exact ⟨v, rfl, hd⟩
  · rw [List.getElem?_set_ne z] at e1 e2
    exact h.at_ j s ov e1 e2
theorem Env.setL {K : PySem.W.Frag} {H : Hp} {σ : L2.St} {ρ : En} (h : Env K H σ ρ) (i : Nat) {p : Addr} {xs : List V} {ds : List D} (hp : H p = some (.lst xs)) (hd : DqA K H xs ds) : Env K H (σ.set i (some (.ref p))) (ρ.set i (.ow ds)) := by
  refine ⟨by simp [h.len], fun j s ov e1 e2 => ?_⟩
  by_cases z : i = j
  · subst z
    have hi : i < ρ.length := by have := (List.getElem?_eq_some_iff.mp e1).1; simpa using this
    rw [List.getElem?_set_self hi] at e1
    rw [List.getElem?_set_self (by rw [h.len]; exact hi)] at e2
    cases e1; cases e2
    exact ⟨p, xs, rfl, hp, hd⟩
  · rw [List.getElem?_set_ne z] at e1 e2
    exact h.at_ j s ov e1 e2
/-- the slots forgotten -/
def wipeR (ρ : En) : List Nat → En
  | [] => ρ
  | i :: is => (wipeR ρ is).set i .un
theorem wipeR_len (ρ : En) : ∀ vs, (wipeR ρ vs).length = ρ.length
  | [] => rfl
  | i :: is => by unfold wipeR; rw [List.length_set, wipeR_len ρ is]
theorem Env.un {K : PySem.W.Frag} {H : Hp} {σ : L2.St} {ρ : En} (h : Env K H σ ρ) (i : Nat) (ov : Option V) : Env K H (σ.set i ov) (ρ.set i .un) := by
  refine ⟨by simp [h.len], fun j s ov' e1 e2 => ?_⟩
  by_cases z : i = j
  · subst z
    have hi : i < ρ.length := by have := (List.getElem?_eq_some_iff.mp e1).1; simpa using this
    rw [List.getElem?_set_self hi] at e1
    cases e1
    trivial
  · rw [List.getElem?_set_ne z] at e1 e2
    exact h.at_ j s ov' e1 e2
theorem Env.wipe {K : PySem.W.Frag} {H : Hp} {σ : L2.St} {ρ : En} (h : Env K H σ ρ) : ∀ vs, Env K H (L2.wipe σ vs) (wipeR ρ vs)
  | [] => h
  | i :: is => by
    unfold L2.wipe wipeR
    exact (Env.wipe h is).un i none
theorem wipe_set {σ : L2.St} {i : Nat} {ov : Option V} : ∀ {vs : List Nat}, i ∈ vs → wipe (σ.set i ov) vs = wipe σ vs
  | j :: vs, h => by
    have gen : ∀ (vs : List Nat), i ∉ vs → wipe (σ.set i ov) vs = (wipe σ vs).set i ov := fun vs => by
      induction vs with
      | nil => intro _; rfl
      | cons k vs ih =>
        intro hn
        unfold wipe
        rw [ih fun z => hn (List.mem_cons_of_mem _ z)]
        exact List.set_comm _ _ fun z => hn (by simp [z])
    unfold wipe
    by_cases hv : i ∈ vs
    · rw [wipe_set hv]
    · have e : i = j := by
        rcases List.mem_cons.mp h with z | z
        · exact z
        · exact absurd z hv
      subst e
      rw [gen vs hv, List.set_set]
theorem wipe_idem {σ : L2.St} : ∀ (vs us : List Nat), (∀ i ∈ vs, i ∈ us) → wipe (wipe σ vs) us = wipe σ us
  | [], us, _ => rfl
  | i :: vs, us, h => by
    show wipe ((wipe σ vs).set i none) us = wipe σ us
    rw [wipe_set (h i (by simp))]
    exact wipe_idem vs us fun j hj => h j (by simp [hj])
section
variable {T : Ct}
/-! ### targets -/
def wG (X : Cx) (tg : Expr) : TG := fun v σ H Q => ∃ t, PG X tg t ∧ t v σ H Q
theorem pg_w {X : Cx} {tg : Expr} : PG X tg (wG X tg) := ⟨fun pins s σ H v u Q I r ⟨_, p, h⟩ => p.run pins s σ H v u Q I r h⟩
def SG (T : Ct) (tg : Expr) (is : List Nat) (set : D → En → Option En) : Prop :=
  ∀ X, Good T X → ∀ (σ : L2.St) (H : Hp) (ρ : En) (v : V) (d : D) (ρ' : En), Env T.K H σ ρ → Dq T.K H v d → set d ρ = some ρ' →
    ∀ Q : L2.St → Hp → Prop, (∀ σ', Env T.K H σ' ρ' → (∀ vs : List Nat, (∀ i ∈ is, i ∈ vs) → wipe σ' vs = wipe σ vs) → (∀ i, i ∉ is → σ'[i]? = σ[i]? ∧ ρ'[i]? = ρ[i]?) → (∀ i ds, i ∈ is → ρ'[i]? ≠ some (.ow ds)) → Q σ' H) → wG X tg v σ H Q
def locB (T : Ct) (x : Str) : Bool := match T.sc.names.lookup x with
  | some .local => true
  | some .cell => T.df
  | _ => false
theorem loc_of {X : Cx} (G : Good T X) {x : Str} (h : locB T x = true) : Loc X.env.scope x ∧ (X.fn x = true ∨ X.env.scope.names.lookup x = some .local) := by
  unfold locB at h
  split at h
  · rename_i e
    exact ⟨.inl (by rw [G.hs]; exact e), .inr (by rw [G.hs]; exact e)⟩
  · rename_i e
    exact ⟨.inr (by rw [G.hs]; exact e), .inl (G.hf h x)⟩
  · cases h
def set1 (i : Nat) (d : D) (ρ : En) : Option En := some (ρ.set i (.im d))
theorem sg1 (i : Nat) {x : Str} {pos : Pos} (hN : T.N[i]? = some x) (hx : locB T x = true) : SG T (.Name x pos) [i] (set1 i) := by
  intro X G σ H ρ v d ρ' env dv hs Q q
  cases hs
  obtain ⟨h1, h2⟩ := loc_of G hx
  refine ⟨_, pg_name (i := i) (by rw [G.hN]; exact G.nd) (by rw [G.hN]; exact hN) h1 h2, ?_⟩
  refine q _ (env.set i dv) (fun vs hv => wipe_set (hv i (by simp))) (fun j hj => ?_) fun j ds hj => ?_
  · have ne : i ≠ j := fun z => hj (by simp [z])
    exact ⟨List.getElem?_set_ne ne, List.getElem?_set_ne ne⟩
  · have e := List.mem_singleton.mp hj
    subst e
    rw [List.getElem?_set]
    split
    · split <;> (intro z; cases z)
    · contradiction
def set2 (i j : Nat) (d : D) (ρ : En) : Option En := match d with
  | .tup [x, y] => some ((ρ.set i (.im x)).set j (.im y))
  | _ => none
theorem sg2 (i j : Nat) {x y : Str} {px py pos : Pos} {k : Nat} (hN : T.N[i]? = some x) (hx : locB T x = true) (hN2 : T.N[j]? = some y) (hy : locB T y = true) (hmd : T.md = none := by rfl) : SG T (.Tuple [.Name x px, .Name y py] k pos) [i, j] (set2 i j) := by
  intro X G σ H ρ v d ρ' env dv hs Q q
  unfold set2 at hs
  split at hs
  · rename_i d1 d2
    cases hs
    obtain ⟨h1, h2⟩ := loc_of G hx
    obtain ⟨h3, h4⟩ := loc_of G hy
    cases dv with
    | tup q1 q2 =>
      obtain ⟨v1, v2, rfl, e1, e2⟩ := dqa2 q2
      refine ⟨_, pg_tup (G.calm hmd) (pgs_cons (pg_name (i := i) (by rw [G.hN]; exact G.nd) (by rw [G.hN]; exact hN) h1 h2) (pgs_cons (pg_name (i := j) (by rw [G.hN]; exact G.nd) (by rw [G.hN]; exact hN2) h3 h4) pgs_nil)) rfl rfl, ?_⟩
      refine ⟨_, _, rfl, by rw [G.hK]; exact SqT.of q1, rfl, v1, [v2], rfl, v2, [], rfl, rfl, ?_⟩
      refine q _ ((env.set i e1).set j e2) (fun vs hv => ?_) (fun l hl => ?_) fun l ds hl => ?_
      · rw [wipe_set (hv j (by simp)), wipe_set (hv i (by simp))]
      · have n1 : i ≠ l := fun z => hl (by simp [z])
        have n2 : j ≠ l := fun z => hl (by simp [z])
        exact ⟨by rw [List.getElem?_set_ne n2, List.getElem?_set_ne n1], by rw [List.getElem?_set_ne n2, List.getElem?_set_ne n1]⟩
      · rw [List.getElem?_set]
        split
        · split <;> (intro z; cases z)
        · rename_i nj
          have e : l = i := by
            rcases List.mem_cons.mp hl with z | z
            · exact z
            · exact absurd (List.mem_singleton.mp z).symm nj
          subst e
          rw [List.getElem?_set]
          split
          · split <;> (intro z; cases z)
          · contradiction
  · cases hs
/-! ### what is walked -/
def wI (X : Cx) (tg iter : Expr) : TI := fun σ H R => ∃ t, PI X tg iter t ∧ t σ H R
theorem pi_w {X : Cx} {tg iter : Expr} : PI X tg iter (wI X tg iter) := ⟨fun pins s σ H R I ⟨_, p, h⟩ => p.run pins s σ H R I h⟩
def noOw (ρ : En) : Bool := ρ.all fun s => match s with
  | .ow _ => false
  | _ => true
def SI (T : Ct) (tg iter : Expr) (gi : En → Option (List D)) : Prop :=
  ∀ X, Good T X → ∀ (σ : L2.St) (H : Hp) (ρ : En) (ds : List D), Env T.K H σ ρ → gi ρ = some ds → ∀ R : It → Hp → Prop,
    (∀ (J : It) (H' : Hp) (a : Addr) (Gp : Hp → Prop) (Y : Nat → Hp → V → Hp → Prop), Same H H' → Walk J ds.length Gp Y → (∀ H1, (∀ o, H' a = some o → H1 a = some o) → Gp H1) → ((∀ xs, H' a ≠ some (.lst xs)) ∨ H a = none ∨ noOw ρ = true) →
      (∀ i Ha x Hb, i < ds.length → Gp Ha → (Same H' Ha ∨ (lfA ds = true ∧ Kp H' Ha)) → Y i Ha x Hb → Same Ha Hb ∧ ∃ d, ds[i]? = some d ∧ Dq T.K Hb x d) → R J H') → wI X tg iter σ H R
theorem dq_at {K : PySem.W.Frag} {H' Ha : Hp} {xs : List V} {ds : List D} {i : Nat} {x : V} (h : DqA K H' xs ds) (e : xs[i]? = some x) (k : Same H' Ha ∨ (lfA ds = true ∧ Kp H' Ha)) : ∃ d, ds[i]? = some d ∧ Dq K Ha x d := by
  obtain ⟨d, e1, e2⟩ := h.getV e
  refine ⟨d, e1, ?_⟩
  rcases k with k | ⟨l, k⟩
  · exact e2.mono k
  · exact e2.kp k _ _ (lfA_mem l (List.mem_of_getElem? e1))
variable {a b c tg : Expr} {ga gb gc : En → Option D} {pos : Pos}
def gTu (g : En → Option D) : En → Option (List D) := fun ρ => (g ρ).bind fun d => match d with
  | .tup ds => some ds
  | .ftp ds => some ds
  | _ => none
/-- a tuple, known to its object or not -/
theorem gTu_dq {g : En → Option D} {ρ : En} {ds : List D} (h : gTu g ρ = some ds) : ∃ d, g ρ = some d ∧ ∀ (K : PySem.W.Frag) (H : Hp) (v : V), Dq K H v d → ∃ ad xs, v = .ref ad ∧ (SqT K H ad xs ∧ (∀ ys, H ad ≠ some (.lst ys)) ∧ ∀ ks, H ad ≠ some (.dT ks)) ∧ DqA K H xs ds := by
  unfold gTu at h
  cases e : g ρ with
  | none => rw [e] at h; cases h
  | some d =>
    rw [e] at h
    cases d <;> try (cases h; done)
    · cases h
      refine ⟨_, rfl, fun K H v q => ?_⟩
      cases q with
      | tup h1 h2 => exact ⟨_, _, rfl, ⟨SqT.of h1, fun ys z => (by rw [h1] at z; cases z), fun ys z => (by rw [h1] at z; cases z)⟩, h2⟩
    · cases h
      refine ⟨_, rfl, fun K H v q => ?_⟩
      cases q with
      | ftp h1 h0 h2 => exact ⟨_, _, rfl, ⟨.inl (.inr ⟨_, h1⟩), fun ys z => (by rw [h1] at z; cases z), fun ys z => (by rw [h1] at z; cases z)⟩, h2⟩
theorem sqT_stab {K : PySem.W.Frag} {H' H1 : Hp} {a : Addr} {xs : List V} (h : SqT K H' a xs) (k : ∀ o, H' a = some o → H1 a = some o) : SqT K H1 a xs := by
  rcases h with (h | ⟨o, h⟩) | h
  · exact .inl (.inl (k _ h))
  · exact .inl (.inr ⟨o, k _ h⟩)
  · exact .inr h
/-- where a tuple stands no list stands -/
theorem sqT_nl {X : Cx} {pins : List (Addr × Obj)} {σ : L2.St} {H : Hp} {s : Shared} {a : Addr} {xs ys : List V} (I : L2.Inv X pins σ H s) (h : SqT X.K H a xs) : H a ≠ some (.lst ys) := by
  intro z
  obtain ⟨its, _, p, _⟩ := I.tuple h
  obtain ⟨o, h1, c1, _⟩ := id p
  obtain ⟨_, its2, n2, _, h2⟩ := I.hok a _ z
  rw [h1] at h2
  cases h2
  exact absurd (show Value.type "list" = Value.type "tuple" from c1) (by decide)
theorem si_tup (ha : SE T a ga) : SI T tg a (gTu ga) := by
  intro X G σ H ρ ds env hd R r
  refine ⟨fun σ H R => ∃ t, PE X a t ∧ t σ H fun x H1 => ∃ a, x = .ref a ∧ (∃ xs, SqT X.K H1 a xs) ∧ ((∀ ys, H1 a ≠ some (.lst ys)) → R (Itt X.K a) H1), ⟨fun pins s σ H R I h => ?_⟩, ?_⟩
  · obtain ⟨t, p, h⟩ := h
    refine thn (p.run pins s σ H _ I h) fun v s1 ⟨x, H1, I1, r1, q1⟩ => ?_
    obtain ⟨ad, e, ⟨xs, hq⟩, q⟩ := q1
    subst e
    cases r1
    obtain ⟨its, rv, p, hz⟩ := I1.tuple hq
    refine wpAny_pyIter_tuple (show s1.heap.IsTuple ad its.toArray from p) ?_
    refine ⟨s1.heap.objs.size, [s1.heap.objs.size], _, _, H1, rfl, I1.kept (t' := s1.toks) fun b o e => Heap.get?_push_of_some _ e, turn_tuple ad _, ⟨_, Heap.get?_push_size _ rfl, rfl, rfl⟩, fun b hb => ?_, q fun ys => sqT_nl I1 hq⟩
    rw [List.mem_singleton.mp hb]
    exact I1.fpOk (Nat.le_refl _) (I1.hok.fresh (Nat.le_refl _))
  · obtain ⟨dd, hd1, hd2⟩ := gTu_dq hd
    refine ha X G σ H ρ _ env hd1 _ fun v H1 s1 d1 => ?_
    obtain ⟨ad, xs, rfl, ⟨h1, _, _⟩, h2⟩ := hd2 _ _ _ d1
    · refine ⟨ad, rfl, ⟨xs, by rw [G.hK]; exact h1⟩, fun nl => ?_⟩
      rw [G.hK]
      have wk := walk_tup (K := T.K) (a := ad) (xs := xs)
      rw [h2.length] at wk
      refine r _ H1 ad _ _ s1 wk (fun H2 k => sqT_stab h1 k) (.inl nl) fun i Ha x Hb hi _ k y => ?_
      obtain ⟨e, hx⟩ := y
      subst e
      exact ⟨Same.refl _, dq_at h2 hx k⟩
def gLs (g : En → Option D) : En → Option (List D) := fun ρ => (g ρ).bind fun d => match d with
  | .lst ds => if noOw ρ = true then some ds else none
  | _ => none
theorem gLs_some {g : En → Option D} {ρ : En} {ds : List D} (h : gLs g ρ = some ds) : g ρ = some (.lst ds) ∧ noOw ρ = true := by
  unfold gLs at h
  cases e : g ρ with
  | none => rw [e] at h; cases h
  | some d =>
    rw [e] at h
    cases d <;> try (cases h; done)
    simp only [Option.bind_some] at h
    split at h
    · cases h; exact ⟨rfl, by assumption⟩
    · cases h
theorem si_lst (ha : SE T a ga) : SI T tg a (gLs ga) := by
  intro X G σ H ρ ds env hd R r
  obtain ⟨e1, e2⟩ := gLs_some hd
  refine ⟨_, pi_list pe_w, ?_⟩
  refine ha X G σ H ρ _ env e1 _ fun v H1 s1 d1 => ?_
  cases d1 with
  | @lst ad xs _ h1 h2 =>
    refine ⟨ad, rfl, ⟨xs, SqL.of h1⟩, ?_⟩
    have wk := walk_list (K := X.K) (a := ad) (xs := xs)
    rw [h2.length] at wk
    refine r _ H1 ad _ _ s1 wk (fun H2 k => SqL.of (k _ h1)) (.inr (.inr e2)) fun i Ha x Hb hi _ k y => ?_
    obtain ⟨e, hx⟩ := y
    subst e
    exact ⟨Same.refl _, dq_at h2 hx k⟩
theorem si_new {gl : En → Option (List D)} (ha : SL T a gl) : SI T tg a gl := by
  intro X G σ H ρ ds env hd R r
  refine ⟨_, pi_list pe_w, ?_⟩
  refine ha X G σ H ρ _ env hd _ fun ad xs H1 n s1 h1 h2 => ?_
  refine ⟨ad, rfl, ⟨xs, SqL.of h1⟩, ?_⟩
  have wk := walk_list (K := X.K) (a := ad) (xs := xs)
  rw [h2.length] at wk
  refine r _ H1 ad _ _ s1 wk (fun H2 k => SqL.of (k _ h1)) (.inr (.inl n)) fun i Ha x Hb hi _ k y => ?_
  obtain ⟨e, hx⟩ := y
  subst e
  exact ⟨Same.refl _, dq_at h2 hx k⟩
/-- lo, lo + 1, .. -/
def rngD (lo : Int) (n : Nat) : List D := (List.range n).map fun i => D.int (lo + (i : Nat))
theorem rngD_len (lo : Int) (n : Nat) : (rngD lo n).length = n := by simp [rngD]
theorem rngD_get (lo : Int) {n i : Nat} (h : i < n) : (rngD lo n)[i]? = some (.int (lo + (i : Nat))) := by
  unfold rngD
  rw [List.getElem?_map, List.getElem?_range h]
  rfl
def gR1 (g : En → Option (List D)) : En → Option (List D) := fun ρ => (g ρ).bind fun ds => match ds with
  | [.int j] => if -(2 ^ 62) ≤ j ∧ j < 2 ^ 62 then some (rngD 0 j.toNat) else none
  | _ => none
def gR2 (g : En → Option (List D)) : En → Option (List D) := fun ρ => (g ρ).bind fun ds => match ds with
  | [.int i, .int j] => if -(2 ^ 62) ≤ i ∧ i < 2 ^ 62 ∧ -(2 ^ 62) ≤ j ∧ j < 2 ^ 62 then some (rngD i (j - i).toNat) else none
  | _ => none
theorem rng_it {T : Ct} {H H1 : Hp} {ρ : En} {lo : Int} {n : Nat} {R : It → Hp → Prop} (s1 : Same H H1) (hn : ∃ z, H1 z = none)
    (r : ∀ (J : It) (H' : Hp) (a : Addr) (Gp : Hp → Prop) (Y : Nat → Hp → V → Hp → Prop), Same H H' → Walk J (rngD lo n).length Gp Y → (∀ H1, (∀ o, H' a = some o → H1 a = some o) → Gp H1) → ((∀ xs, H' a ≠ some (.lst xs)) ∨ H a = none ∨ noOw ρ = true) →
      (∀ i Ha x Hb, i < (rngD lo n).length → Gp Ha → (Same H' Ha ∨ (lfA (rngD lo n) = true ∧ Kp H' Ha)) → Y i Ha x Hb → Same Ha Hb ∧ ∃ d, (rngD lo n)[i]? = some d ∧ Dq T.K Hb x d) → R J H') : R (Itr lo n) H1 := by
  obtain ⟨z, hz⟩ := hn
  have wk := walk_range (lo := lo) (n := n)
  rw [← rngD_len lo n] at wk
  have e0 : (rngD lo n).length = n := rngD_len lo n
  refine r (Itr lo n) H1 z _ _ s1 (by rw [e0] at wk ⊢; exact wk) (fun _ _ => trivial) (.inl fun xs q => by rw [hz] at q; cases q) fun i Ha x Hb hi _ _ y => ?_
  obtain ⟨e, hx⟩ := y
  subst e hx
  rw [e0] at hi
  exact ⟨Same.refl _, _, rngD_get lo hi, .int _⟩
theorem none_at {X : Cx} {pins : List (Addr × Obj)} {σ : L2.St} {H : Hp} {s : Shared} (I : L2.Inv X pins σ H s) : ∃ z, H z = none := ⟨_, I.hok.fresh (Nat.le_refl _)⟩
theorem pi_none {X : Cx} {tg iter : Expr} {w : TI} (h : PI X tg iter w) : PI X tg iter (fun σ H R => w σ H fun J H1 => (∃ z, H1 z = none) → R J H1) := by
  refine ⟨fun pins s σ H R I hw => ?_⟩
  refine thn (h.run pins s σ H _ I hw) fun v s1 h1 => thn h1 fun itv s2 h2 => ?_
  obtain ⟨it, fp, tn, J, H2, e, I2, t, st2, f2, q⟩ := h2
  exact ⟨it, fp, tn, J, H2, e, I2, t, st2, f2, q (none_at I2)⟩
theorem si_rng1 {p : Pos} {g : En → Option (List D)} (hm : T.mg "range" = none) (ha : SA T [a] g) (hg : T.sc.names.lookup ("range" : Str) = some .globalImplicit) (he : ∀ env, starEach [a] env = [(false, eval a env)] := by intro _; rfl) : SI T tg (.Call (.Name "range" p) [a] [] pos) (gR1 g) := by
  intro X G σ H ρ ds env hd R r
  refine ⟨_, pi_none (pi_range1 (by show X.env.scope.names.lookup _ = _; rw [G.hs]; exact hg) (by rw [G.hm]; exact hm) pa_w (he X.env)), ?_⟩
  unfold gR1 at hd
  cases e1 : g ρ with
  | none => rw [e1] at hd; cases hd
  | some es =>
  rw [e1] at hd
  refine ha X G σ H ρ es env e1 _ fun vs H1 s1 d1 => ?_
  simp only [Option.bind_some] at hd
  split at hd
  · split at hd
    · rename_i hb
      cases hd
      obtain ⟨v, rfl, d2⟩ := dqa1 d1
      cases d2
      exact ⟨_, rfl, hb.1, hb.2, fun hn => rng_it s1 hn r⟩
    · cases hd
  · cases hd
theorem si_rng2 {p : Pos} {g : En → Option (List D)} (hm : T.mg "range" = none) (ha : SA T [a, b] g) (hg : T.sc.names.lookup ("range" : Str) = some .globalImplicit) (he : ∀ env, starEach [a, b] env = [(false, eval a env), (false, eval b env)] := by intro _; rfl) (he2 : ∀ env, starEach [b] env = [(false, eval b env)] := by intro _; rfl) : SI T tg (.Call (.Name "range" p) [a, b] [] pos) (gR2 g) := by
  intro X G σ H ρ ds env hd R r
  refine ⟨_, pi_none (pi_range2 (by show X.env.scope.names.lookup _ = _; rw [G.hs]; exact hg) (by rw [G.hm]; exact hm) pa_w (he X.env) (he2 X.env)), ?_⟩
  unfold gR2 at hd
  cases e1 : g ρ with
  | none => rw [e1] at hd; cases hd
  | some es =>
  rw [e1] at hd
  refine ha X G σ H ρ es env e1 _ fun vs H1 s1 d1 => ?_
  simp only [Option.bind_some] at hd
  split at hd
  · split at hd
    · rename_i hb
      cases hd
      obtain ⟨v, u, rfl, d2, d3⟩ := dqa2 d1
      cases d2; cases d3
      exact ⟨_, _, rfl, hb, fun hn => rng_it s1 hn r⟩
    · cases hd
  · cases hd
/-- (k, x), (k + 1, y), .. -/
def enD : Nat → List D → List D
  | _, [] => []
  | k, d :: ds => .tup [.int (k : Nat), d] :: enD (k + 1) ds
theorem enD_len : ∀ (k : Nat) (ds : List D), (enD k ds).length = ds.length
  | _, [] => rfl
  | k, d :: ds => by simp [enD, enD_len (k + 1) ds]
theorem enD_get : ∀ (k : Nat) (ds : List D) (i : Nat), (enD k ds)[i]? = ds[i]?.map fun d => D.tup [.int ((k + i : Nat) : Int), d]
  | _, [], i => by simp [enD]
  | k, d :: ds, 0 => by simp [enD]
  | k, d :: ds, i + 1 => by
    simp only [enD, List.getElem?_cons_succ]
    rw [enD_get (k + 1) ds i]
    have e : k + 1 + i = k + (i + 1) := by omega
    rw [e]
theorem lfA_enD : ∀ (k : Nat) (ds : List D), lfA (enD k ds) = lfA ds
  | _, [] => rfl
  | k, d :: ds => by simp [enD, lfA, lf, lfA_enD (k + 1) ds]
theorem pair_dq {K : PySem.W.Frag} {H' Ha Hb : Hp} {xs : List V} {ds : List D} {i : Nat} {x : V} (h : DqA K H' xs ds) (k : Same H' Ha ∨ (lfA (enD 0 ds) = true ∧ Kp H' Ha)) (y : YPair (fun i => some (.int (i : Nat))) (fun i => xs[i]?) i Ha x Hb) : Same Ha Hb ∧ ∃ d, (enD 0 ds)[i]? = some d ∧ Dq K Hb x d := by
  obtain ⟨t, u, z, rfl, hn, rfl, e1, e2⟩ := y
  cases e1
  have s := same_upd (o := .tup [.int (i : Nat), z]) hn
  rw [lfA_enD] at k
  obtain ⟨d, e3, e4⟩ := dq_at h e2 k
  refine ⟨s, _, by rw [enD_get, e3]; rfl, .tup upd_same ?_⟩
  rw [Nat.zero_add]
  exact .cons (.int _) (.cons (e4.mono s) .nil)
def gEnT (g : En → Option D) : En → Option (List D) := fun ρ => (gTu g ρ).map (enD 0)
theorem si_enT {p tp : Pos} {elts : List Expr} {k : Nat} (hm : T.mg "enumerate" = none) (ha : SE T a ga) (hg : T.sc.names.lookup ("enumerate" : Str) = some .globalImplicit) (he : ∀ env, starEach [a] env = [(false, eval a env)] := by intro _; rfl) : SI T (.Tuple elts k tp) (.Call (.Name "enumerate" p) [a] [] pos) (gEnT ga) := by
  intro X G σ H ρ ds env hd R r
  unfold gEnT at hd
  cases e1 : gTu ga ρ with
  | none => rw [e1] at hd; cases hd
  | some es =>
  rw [e1] at hd
  have hd := Option.some.inj hd
  subst hd
  refine ⟨_, pi_none (pi_enumT (by show X.env.scope.names.lookup _ = _; rw [G.hs]; exact hg) (by rw [G.hm]; exact hm) (pa_cons pe_w pa_nil (he X.env)) (he X.env)), ?_⟩
  obtain ⟨dd, hd1, hd2⟩ := gTu_dq e1
  refine ha X G σ H ρ _ env hd1 _ fun v H1 s1 d1 => ?_
  obtain ⟨ad, xs, rfl, ⟨h1, _, _⟩, h2⟩ := hd2 _ _ _ d1
  · refine ⟨ad, xs, rfl, by rw [G.hK]; exact h1, fun hn => ?_⟩
    rw [G.hK]
    have wk := walk_enumT (K := T.K) (a := ad) (xs := xs)
    rw [h2.length, ← enD_len 0 es] at wk
    have nl : (∀ ys, H1 ad ≠ some (.lst ys)) ∨ noOw ρ = true ∨ True := .inr (.inr trivial)
    by_cases hl : ∃ ys, H1 ad = some (.lst ys)
    · -- a static tuple whose address would hold a tracked list: G's Gp is then static
      obtain ⟨z, hz⟩ := hn
      rcases h1 with (h1 | ⟨o, h1⟩) | h1
      · obtain ⟨ys, hl⟩ := hl; rw [h1] at hl; cases hl
      · obtain ⟨ys, hl⟩ := hl; rw [h1] at hl; cases hl
      · exact r _ H1 z _ _ s1 wk (fun H2 _ => .inr h1) (.inl fun xs q => by rw [hz] at q; cases q) fun i Ha x Hb hi _ k y => pair_dq h2 k y
    · exact r _ H1 ad _ _ s1 wk (fun H2 k => sqT_stab h1 k) (.inl fun ys q => hl ⟨ys, q⟩) fun i Ha x Hb hi _ k y => pair_dq h2 k y
def gEnL (g : En → Option D) : En → Option (List D) := fun ρ => (gLs g ρ).map (enD 0)
theorem si_enL {p tp : Pos} {elts : List Expr} {k : Nat} (hm : T.mg "enumerate" = none) (ha : SE T a ga) (hg : T.sc.names.lookup ("enumerate" : Str) = some .globalImplicit) (he : ∀ env, starEach [a] env = [(false, eval a env)] := by intro _; rfl) : SI T (.Tuple elts k tp) (.Call (.Name "enumerate" p) [a] [] pos) (gEnL ga) := by
  intro X G σ H ρ ds env hd R r
  unfold gEnL at hd
  cases e1 : gLs ga ρ with
  | none => rw [e1] at hd; cases hd
  | some es =>
  rw [e1] at hd
  have hd := Option.some.inj hd
  subst hd
  refine ⟨_, pi_enum (by show X.env.scope.names.lookup _ = _; rw [G.hs]; exact hg) (by rw [G.hm]; exact hm) (pa_cons pe_w pa_nil (he X.env)) (he X.env), ?_⟩
  refine ha X G σ H ρ _ env (gLs_some e1).1 _ fun v H1 s1 d1 => ?_
  cases d1 with
  | @lst ad xs _ h1 h2 =>
    refine ⟨ad, xs, rfl, SqL.of h1, ?_⟩
    have wk := walk_enum (K := X.K) (a := ad) (xs := xs)
    rw [h2.length, ← enD_len 0 es] at wk
    exact r _ H1 ad _ _ s1 wk (fun H2 k => SqL.of (k _ h1)) (.inr (.inr (gLs_some e1).2)) fun i Ha x Hb hi _ k y => pair_dq h2 k y
/-! ### [e for target in iter if test] -/
def SPt (T : Ct) (ifs : List Expr) (g : En → Option Bool) : Prop :=
  ∀ X, Good T X → ∀ (σ : L2.St) (H : Hp) (ρ : En) (b : Bool), Env T.K H σ ρ → g ρ = some b → ∀ Q : Bool → Hp → Prop, (∀ H', Same H H' → Q b H') → ∃ t, PTs X ifs t ∧ t σ H Q
def gYes : En → Option Bool := fun _ => some true
theorem sp_nil : SPt T [] gYes := fun X G σ H ρ b env hb Q q => by
  cases hb
  exact ⟨_, pts_nil, q H (Same.refl H)⟩
theorem sp_one {tt : En → Option Bool} (h : ST T a tt) : SPt T [a] tt := fun X G σ H ρ b env hb Q q => by
  obtain ⟨t, p, hq⟩ := h X G σ H ρ b env hb Q q
  exact ⟨t, pts_one p, hq⟩
theorem pts_any {X : Cx} {ifs : List Expr} : PTs X ifs (fun σ H Q => ∃ t, PTs X ifs t ∧ t σ H Q) := ⟨fun pins s σ H Q I ⟨_, p, h⟩ => p.run pins s σ H Q I h⟩
def lcG (set : D → En → Option En) (gt : En → Option Bool) (ge : En → Option D) (ρ : En) : List D → Option (List D)
  | [] => some []
  | d :: r => (set d ρ).bind fun ρ' => (gt ρ').bind fun b => if b = true then (ge ρ').bind fun x => if lf x = true then (lcG set gt ge ρ r).map fun xs => x :: xs else none else lcG set gt ge ρ r
def gLc (gi : En → Option (List D)) (own : List Nat) (set : D → En → Option En) (gt : En → Option Bool) (ge : En → Option D) : En → Option (List D) := fun ρ => (gi ρ).bind fun ds => if ds.length ≤ 1000000 then lcG set gt ge (wipeR ρ own) ds else none
abbrev Ct.blk (T : Ct) (scope : Scope) : Ct := { T with sc := relS scope T.sc, df := false }
theorem good_blk {X : Cx} (G : Good T X) (hmd : T.md = none) {scope : Scope} {s : Shared} {H : Hp} {C : Addr} {cl : List (Str × Addr)} {fp : List Addr} : Good (T.blk scope) (X.blk s H scope (compEnvC scope cl C X.env) fp) :=
  ⟨G.hP, G.hw, G.hK, G.hm, G.hb, G.hN, by show relS scope X.env.scope = relS scope T.sc; rw [G.hs], G.calm, G.nd, (fun z => nomatch z), G.room, G.hu, fun p e => by rw [show T.md = none from hmd] at e; cases e⟩
/-- the reading of an element, whatever the block -/
def bE (X : Cx) (scope : Scope) (e : Expr) : TE := fun σ H Q => ∀ (s : Shared) (H0 : Hp) (C : Addr) (cl : List (Str × Addr)) (fp : List Addr), wE (X.blk s H0 scope (compEnvC scope cl C X.env) fp) e σ H Q
def bT (X : Cx) (scope : Scope) (ifs : List Expr) : TT := fun σ H Q => ∀ (s : Shared) (H0 : Hp) (C : Addr) (cl : List (Str × Addr)) (fp : List Addr), ∃ t, PTs (X.blk s H0 scope (compEnvC scope cl C X.env) fp) ifs t ∧ t σ H Q
def bG (X : Cx) (scope : Scope) (tg : Expr) : TG := fun v σ H Q => ∀ (s : Shared) (H0 : Hp) (C : Addr) (cl : List (Str × Addr)) (fp : List Addr), wG (X.blk s H0 scope (compEnvC scope cl C X.env) fp) tg v σ H Q
theorem lc_read {elt iter : Expr} {ifs : List Expr} {scope : Scope} {own : List (Str × Nat)} {is : List Nat} {set : D → En → Option En} {gi : En → Option (List D)} {gt : En → Option Bool} {ge : En → Option D}
    (hi : SI T tg iter gi) (hg : SG (T.blk scope) tg is set) (his : ∀ i ∈ is, i ∈ own.map (·.2)) (ht : SPt (T.blk scope) ifs gt) (he : SE (T.blk scope) elt ge)
    (hmd : T.md = none)
    {X : Cx} (G : Good T X) {σ : L2.St} {H : Hp} {ρ : En} {res : List D} (env : Env T.K H σ ρ) (hd : gLc gi (own.map (·.2)) set gt ge ρ = some res) {Q : VK} (q : ∀ p xs H', H p = none → Same H H' → H' p = some (.lst xs) → DqA T.K H' xs res → Q (.ref p) H') :
    tLc (wI X tg iter) (bG X scope tg) (bT X scope ifs) (bE X scope elt) (own.map (·.2)) σ H Q := by
  unfold gLc at hd
  cases e1 : gi ρ with
  | none => rw [e1] at hd; cases hd
  | some ds =>
  rw [e1] at hd
  have hd : (if ds.length ≤ 1000000 then lcG set gt ge (wipeR ρ (own.map (·.2))) ds else none) = some res := hd
  split at hd
  · rename_i hz
    refine hi X G σ H ρ ds env e1 _ fun J H1 ad Gp Y s1 wk stab _ item => fun L hL => ?_
    -- the part made so far and the part to come
    let Pv : Nat → Hp → Prop := fun i H2 => (∀ a o, H1 a = some o → H2 a = some o) ∧ ∃ acc accD rest, H2 L = some (.lst acc) ∧ acc.length ≤ i ∧ DqA T.K H2 acc accD ∧ lfA accD = true ∧ lcG set gt ge (wipeR ρ (own.map (·.2))) (ds.drop i) = some rest ∧ res = accD ++ rest
    refine lc_it wk Pv ?_ (fun i H2 _ p => stab H2 fun o => p.1 ad o) (fun i x Ha Hb hlt p y => ?_) fun H2 p => ?_
    · refine ⟨fun a o h => ?_, [], [], res, upd_same, Nat.le_refl _, .nil, rfl, hd, rfl⟩
      rw [upd_ne (ne_of_none h hL)]
      exact h
    · obtain ⟨k1, acc, accD, rest, hacc, hle, hdq, hlf, hrest, eres⟩ := p
      obtain ⟨sab, d, hdi, hx⟩ := item i Ha x Hb hlt (stab Ha fun o => k1 ad o) (.inl k1) y
      have edrop : ds.drop i = d :: ds.drop (i + 1) := by
        have h1 := List.getElem?_eq_some_iff.mp hdi
        rw [← h1.2]
        exact List.drop_eq_getElem_cons h1.1
      rw [edrop] at hrest
      unfold lcG at hrest
      cases es : set d (wipeR ρ (own.map (·.2))) with
      | none => rw [es] at hrest; cases hrest
      | some ρ' =>
      rw [es] at hrest
      simp only [Option.bind_some] at hrest
      cases et : gt ρ' with
      | none => rw [et] at hrest; cases hrest
      | some bt =>
      rw [et] at hrest
      simp only [Option.bind_some] at hrest
      have envb : Env T.K Hb (wipe σ (own.map (·.2))) (wipeR ρ (own.map (·.2))) := (env.mono ((s1.trans k1).trans sab)).wipe _
      intro s0 H0 C0 cl0 fp0
      refine hg _ (good_blk G hmd) _ _ _ _ d ρ' envb hx es _ fun σ' env' hw _ _ => ⟨?_, ?_⟩
      · rw [hw _ his, wipe_idem _ _ fun _ h => h]
      intro s0 H0 C0 cl0 fp0
      refine ht _ (good_blk G hmd) σ' Hb ρ' bt env' et _ fun Hc sbc => ?_
      cases bt with
      | false =>
        rw [if_neg Bool.false_ne_true]
        exact ⟨fun a o h => sbc _ _ (sab _ _ (k1 a o h)), acc, accD, rest, sbc _ _ (sab _ _ hacc), by omega, (hdq.mono sab).mono sbc, hlf, hrest, eres⟩
      | true =>
        rw [if_pos rfl]
        have hrest : ((ge ρ').bind fun x => if lf x = true then (lcG set gt ge (wipeR ρ (own.map (·.2))) (ds.drop (i + 1))).map fun xs => x :: xs else none) = some rest := hrest
        cases ee : ge ρ' with
        | none => rw [ee] at hrest; cases hrest
        | some z =>
        rw [ee] at hrest
        have hrest : (if lf z = true then (lcG set gt ge (wipeR ρ (own.map (·.2))) (ds.drop (i + 1))).map fun xs => z :: xs else none) = some rest := hrest
        split at hrest
        · rename_i hlz
          cases er : lcG set gt ge (wipeR ρ (own.map (·.2))) (ds.drop (i + 1)) with
          | none => rw [er] at hrest; cases hrest
          | some rest' =>
          rw [er] at hrest
          have hrest := Option.some.inj hrest
          intro s0 H0 C0 cl0 fp0
          refine he _ (good_blk G hmd) σ' Hc ρ' z (env'.mono sbc) ee _ fun v He sce dz => ?_
          have hLe : He L = some (.lst acc) := sce _ _ (sbc _ _ (sab _ _ hacc))
          have kp := kp_upd (o := .lst (acc ++ [v])) hLe
          refine ⟨acc, hLe, ?_, fun a o h => ?_, acc ++ [v], accD ++ [z], rest', upd_same, by rw [List.length_append]; exact Nat.succ_le_succ hle, ?_, ?_, er, ?_⟩
          · have : i < ds.length := hlt
            exact Nat.lt_of_le_of_lt hle (Nat.lt_of_lt_of_le this (sz hz))
          · have ne : a ≠ L := ne_of_none h hL
            rw [upd_ne ne]
            exact sce _ _ (sbc _ _ (sab _ _ (k1 a o h)))
          · exact ((((hdq.mono sab).mono sbc).mono sce).kp kp _ _ hlf).append (.cons (dz.kp kp _ _ hlz) .nil)
          · exact lfA_of fun w hw => by
              rcases List.mem_append.mp hw with hw | hw
              · exact lfA_mem hlf hw
              · rw [List.mem_singleton.mp hw]; exact hlz
          · rw [eres, ← hrest]
            simp
        · cases hrest
    · obtain ⟨k1, acc, accD, rest, hacc, hle, hdq, hlf, hrest, eres⟩ := p
      have e0 : ds.drop ds.length = [] := List.drop_length
      rw [e0] at hrest
      have hrest : some ([] : List D) = some rest := hrest
      cases hrest
      rw [List.append_nil] at eres
      subst eres
      exact q L acc H2 (s1.free hL) (s1.trans k1) hacc hdq
  · cases hd
theorem bG_pg {X : Cx} {scope : Scope} {tg : Expr} (s : Shared) (H : Hp) (C : Addr) (cl : List (Str × Addr)) (fp : List Addr) : PG (X.blk s H scope (compEnvC scope cl C X.env) fp) tg (bG X scope tg) := ⟨fun pins s' σ H' v u Q I r h => pg_w.run pins s' σ H' v u Q I r (h s H C cl fp)⟩
theorem bT_pt {X : Cx} {scope : Scope} {ifs : List Expr} (s : Shared) (H : Hp) (C : Addr) (cl : List (Str × Addr)) (fp : List Addr) : PTs (X.blk s H scope (compEnvC scope cl C X.env) fp) ifs (bT X scope ifs) := ⟨fun pins s' σ H' Q I h => pts_any.run pins s' σ H' Q I (h s H C cl fp)⟩
theorem bE_pe {X : Cx} {scope : Scope} {e : Expr} (s : Shared) (H : Hp) (C : Addr) (cl : List (Str × Addr)) (fp : List Addr) : PE (X.blk s H scope (compEnvC scope cl C X.env) fp) e (bE X scope e) := ⟨fun pins s' σ H' Q I h => pe_w.run pins s' σ H' Q I (h s H C cl fp)⟩
theorem sl_lc {elt iter : Expr} {ifs : List Expr} {scope : Scope} {own : List (Str × Nat)} {is : List Nat} {set : D → En → Option En} {gi : En → Option (List D)} {gt : En → Option Bool} {ge : En → Option D}
    (hi : SI T tg iter gi) (ok : blkC T.N T.sc scope own = true) (hg : SG (T.blk scope) tg is set) (his : ∀ i ∈ is, i ∈ own.map (·.2)) (ht : SPt (T.blk scope) ifs gt) (he : SE (T.blk scope) elt ge)
    (hs : ∀ env x, foldedSetIterable iter env x = pure x := by intro _ _; rfl) (hmd : T.md = none := by rfl) : SL T (.ListComp elt [⟨tg, iter, ifs, 0⟩] scope pos) (gLc gi (own.map (·.2)) set gt ge) := by
  intro X G σ H ρ res env hd Q q
  exact ⟨_, pe_lc (own := own) (G.calm hmd) (by rw [G.hN]; exact G.nd) pi_w (blkOk_by (by rw [G.hN, G.hs]; exact ok)) bG_pg bT_pt bE_pe (hs X.env), lc_read hi hg his ht he hmd G env hd q⟩
end
end Pf

set_option Elab.async false
set_option linter.all false
set_option maxRecDepth 100000
set_option maxHeartbeats 2000000
/-! Pf6: statements, defs. -/
namespace Pf
open PySem PySem.Spec L2
/-- the address of a list that a slot owns -/
def own (ρ : En) (σ : L2.St) (a : Addr) : Prop := ∃ (i : Nat) (ds : List D), ρ[i]? = some (.ow ds) ∧ σ[i]? = some (some (.ref a))
structure Evo (ρ : En) (σ : L2.St) (H : Hp) (ρ' : En) (σ' : L2.St) (H' : Hp) : Prop where
  keep : ∀ a o, H a = some o → ¬ own ρ σ a → H' a = some o
  owns : ∀ a, own ρ' σ' a → own ρ σ a ∨ H a = none
  kp : Kp H H'
theorem Evo.refl (ρ : En) (σ : L2.St) (H : Hp) : Evo ρ σ H ρ σ H := ⟨fun _ _ h _ => h, fun _ h => .inl h, Kp.refl H⟩
theorem Evo.trans {ρ ρ1 ρ2 : En} {σ σ1 σ2 : L2.St} {H H1 H2 : Hp} (a : Evo ρ σ H ρ1 σ1 H1) (b : Evo ρ1 σ1 H1 ρ2 σ2 H2) : Evo ρ σ H ρ2 σ2 H2 := by
  refine ⟨fun x o h n => b.keep x o (a.keep x o h n) fun z => ?_, fun x z => ?_, a.kp.trans b.kp⟩
  · rcases a.owns x z with q | q
    · exact n q
    · rw [q] at h; cases h
  · rcases b.owns x z with q | q
    · exact a.owns x q
    · cases e : H x with
      | none => exact .inr rfl
      | some o =>
        by_cases q2 : own ρ σ x
        · exact .inl q2
        · have := a.keep x o e q2
          rw [this] at q; cases q
theorem evo_same {ρ : En} {σ : L2.St} {H H' : Hp} (s : Same H H') : Evo ρ σ H ρ σ H' := ⟨fun a o h _ => s a o h, fun _ h => .inl h, kp_of s⟩
theorem noOw_own {ρ : En} {σ : L2.St} {a : Addr} (h : noOw ρ = true) : ¬ own ρ σ a := by
  rintro ⟨i, ds, e, _⟩
  unfold noOw at h
  rw [List.all_eq_true] at h
  have := h _ (List.mem_of_getElem? e)
  cases this
theorem Evo.same {ρ ρ' : En} {σ σ' : L2.St} {H H' : Hp} (e : Evo ρ σ H ρ' σ' H') (h : noOw ρ = true) : Same H H' := fun a o q => e.keep a o q (noOw_own h)
theorem im_ne (d : D) : ∀ ds, Slot.im d ≠ .ow ds := fun ds z => by cases z
/-- a slot set to what is no owned list -/
theorem evo_set {ρ : En} {σ : L2.St} {H : Hp} (i : Nat) {ov : Option V} {s : Slot} (hs : ∀ ds, s ≠ .ow ds) : Evo ρ σ H (ρ.set i s) (σ.set i ov) H := by
  refine ⟨fun a o h _ => h, fun a ⟨j, ds, e1, e2⟩ => .inl ?_, Kp.refl H⟩
  by_cases z : i = j
  · subst z
    rw [List.getElem?_set] at e1
    split at e1
    · split at e1
      · exact absurd (Option.some.inj e1) (hs ds)
      · cases e1
    · contradiction
  · rw [List.getElem?_set_ne z] at e1 e2
    exact ⟨j, ds, e1, e2⟩
theorem evo_new {ρ : En} {σ : L2.St} {H H' : Hp} (i : Nat) {p : Addr} {ds : List D} (n : H p = none) (s : Same H H') : Evo ρ σ H (ρ.set i (.ow ds)) (σ.set i (some (.ref p))) H' := by
  refine ⟨fun a o h _ => s a o h, fun a ⟨j, ds', e1, e2⟩ => ?_, kp_of s⟩
  by_cases z : i = j
  · subst z
    rw [List.getElem?_set] at e2
    split at e2
    · split at e2
      · cases e2; exact .inr n
      · cases e2
    · contradiction
  · rw [List.getElem?_set_ne z] at e1 e2
    exact .inl ⟨j, ds', e1, e2⟩
theorem evo_any {ρ ρ' : En} {σ σ' : L2.St} {H : Hp} {is : List Nat} (h : ∀ i, i ∉ is → σ'[i]? = σ[i]? ∧ ρ'[i]? = ρ[i]?) (h2 : ∀ i ds, i ∈ is → ρ'[i]? ≠ some (.ow ds)) : Evo ρ σ H ρ' σ' H := by
  refine ⟨fun a o q _ => q, fun a ⟨j, ds, e1, e2⟩ => ?_, Kp.refl H⟩
  by_cases hj : j ∈ is
  · exact absurd e1 (h2 j ds hj)
  · obtain ⟨q1, q2⟩ := h j hj
    rw [q1] at e2
    rw [q2] at e1
    exact .inl ⟨j, ds, e1, e2⟩
/-! ### statements -/
structure Po where
  nx : En → Prop
  rt : D → Prop
  bk : En → Prop := fun _ => False
  ct : En → Prop := fun _ => False
structure Cont (K : PySem.W.Frag) (ρ : En) (σ : L2.St) (H : Hp) (P : Po) (E : Ends) : Prop where
  nx : ∀ σ' H' ρ', Env K H' σ' ρ' → Evo ρ σ H ρ' σ' H' → P.nx ρ' → E.nx σ' H'
  rt : ∀ v σ' H' ρ' d, Evo ρ σ H ρ' σ' H' → Dq K H' v d → P.rt d → E.rt v H'
  bk : ∀ σ' H' ρ', Env K H' σ' ρ' → Evo ρ σ H ρ' σ' H' → P.bk ρ' → E.bk σ' H'
  ct : ∀ σ' H' ρ', Env K H' σ' ρ' → Evo ρ σ H ρ' σ' H' → P.ct ρ' → E.ct σ' H'
theorem Cont.on {K : PySem.W.Frag} {ρ ρ1 : En} {σ σ1 : L2.St} {H H1 : Hp} {P : Po} {E : Ends} (c : Cont K ρ σ H P E) (e : Evo ρ σ H ρ1 σ1 H1) : Cont K ρ1 σ1 H1 P E :=
  ⟨fun σ' H' ρ' h1 h2 h3 => c.nx σ' H' ρ' h1 (e.trans h2) h3, fun v σ' H' ρ' d h1 h2 h3 => c.rt v σ' H' ρ' d (e.trans h1) h2 h3, fun σ' H' ρ' h1 h2 h3 => c.bk σ' H' ρ' h1 (e.trans h2) h3, fun σ' H' ρ' h1 h2 h3 => c.ct σ' H' ρ' h1 (e.trans h2) h3⟩
def wS (X : Cx) (st : Stmt) : TS := fun E σ H => ∃ t, PS X st t ∧ t E σ H
def wB (X : Cx) (st : List Stmt) : TS := fun E σ H => ∃ t, PSs X st t ∧ t E σ H
theorem ps_w {X : Cx} {st : Stmt} : PS X st (wS X st) := ⟨fun pins s σ H E I ⟨_, p, h⟩ => p.run pins s σ H E I h⟩
theorem pss_w {X : Cx} {st : List Stmt} : PSs X st (wB X st) := ⟨fun pins s σ H E I ⟨_, p, h⟩ => p.run pins s σ H E I h⟩
def GoodS (T : Ct) (X : Cx) : Prop := Good T X ∧ PassesOwn (model X.prog X.w) X.A X.env X.xe ∧ (X.stack = X.env :: X.outer ∧ X.env.frame = some X.env.locals)
def SS (T : Ct) (st : Stmt) (W : Po → En → Prop) : Prop :=
  ∀ X, GoodS T X → ∀ (σ : L2.St) (H : Hp) (ρ : En) (P : Po) (E : Ends), Env T.K H σ ρ → W P ρ → Cont T.K ρ σ H P E → wS X st E σ H
def SB (T : Ct) (st : List Stmt) (W : Po → En → Prop) : Prop :=
  ∀ X, GoodS T X → ∀ (σ : L2.St) (H : Hp) (ρ : En) (P : Po) (E : Ends), Env T.K H σ ρ → W P ρ → Cont T.K ρ σ H P E → wB X st E σ H
section
variable {T : Ct} {a b c tg iter : Expr} {ga gb gc : En → Option D} {pos : Pos}
def wNil : Po → En → Prop := fun P ρ => P.nx ρ
def wCons (U V : Po → En → Prop) : Po → En → Prop := fun P ρ => U { P with nx := V P } ρ
theorem sb_nil : SB T [] wNil := fun X G σ H ρ P E env h c => ⟨_, pss_nil, c.nx σ H ρ env (Evo.refl _ _ _) h⟩
theorem sb_cons {st : Stmt} {r : List Stmt} {U V : Po → En → Prop} (h1 : SS T st U) (h2 : SB T r V) : SB T (st :: r) (wCons U V) := by
  intro X G σ H ρ P E env h c
  refine ⟨_, pss_cons ps_w pss_w, ?_⟩
  refine h1 X G σ H ρ { P with nx := V P } { E with nx := wB X r E } env h ⟨fun σ' H' ρ' e1 e2 e3 => ?_, c.rt, c.bk, c.ct⟩
  exact h2 X G σ' H' ρ' P E e1 e3 (c.on e2)
def wSet (i : Nat) (g : En → Option D) : Po → En → Prop := fun P ρ => ∃ d, g ρ = some d ∧ P.nx (ρ.set i (.im d))
theorem ss_set (i : Nat) {x : Str} {px : Pos} (he : SE T a ga) (hN : T.N[i]? = some x) (hx : locB T x = true) (hs : ∀ env, swapsWith a (some (.Name x px)) pos.line env = pure false := by intro _; rfl) : SS T (.Assign [.Name x px] a pos) (wSet i ga) := by
  intro X G σ H ρ P E env h c
  obtain ⟨d, h1, h2⟩ := h
  obtain ⟨l1, l2⟩ := loc_of G.1 hx
  refine ⟨_, ps_set (i := i) (by rw [G.1.hN]; exact G.1.nd) (by rw [G.1.hN]; exact hN) l1 pe_w (hs X.env) l2, ?_⟩
  refine he X G.1 σ H ρ d env h1 _ fun v H1 s1 d1 => ?_
  exact c.nx _ H1 _ ((env.mono s1).set i d1) ((evo_same s1).trans (evo_set i fun ds z => nomatch z)) h2
def wSetL (i : Nat) (g : En → Option (List D)) : Po → En → Prop := fun P ρ => ∃ ds, g ρ = some ds ∧ P.nx (ρ.set i (.ow ds))
theorem ss_setL (i : Nat) {x : Str} {px : Pos} {gl : En → Option (List D)} (he : SL T a gl) (hN : T.N[i]? = some x) (hx : locB T x = true) (hs : ∀ env, swapsWith a (some (.Name x px)) pos.line env = pure false := by intro _; rfl) : SS T (.Assign [.Name x px] a pos) (wSetL i gl) := by
  intro X G σ H ρ P E env h c
  obtain ⟨d, h1, h2⟩ := h
  obtain ⟨l1, l2⟩ := loc_of G.1 hx
  refine ⟨_, ps_set (i := i) (by rw [G.1.hN]; exact G.1.nd) (by rw [G.1.hN]; exact hN) l1 pe_w (hs X.env) l2, ?_⟩
  refine he X G.1 σ H ρ d env h1 _ fun p xs H1 n s1 e1 d1 => ?_
  exact c.nx _ H1 _ ((env.mono s1).setL i e1 d1) (evo_new i n s1) h2
def wRet (g : En → Option D) : Po → En → Prop := fun P ρ => ∃ d, g ρ = some d ∧ P.rt d
theorem ss_ret (he : SE T a ga) : SS T (.Return (some a) pos) (wRet ga) := by
  intro X G σ H ρ P E env h c
  obtain ⟨d, h1, h2⟩ := h
  refine ⟨_, ps_ret pe_w, ?_⟩
  exact he X G.1 σ H ρ d env h1 _ fun v H1 s1 d1 => c.rt v σ H1 ρ d (evo_same s1) d1 h2
def wIf (g : En → Option Bool) (U V : Po → En → Prop) : Po → En → Prop := fun P ρ => ∃ k, g ρ = some k ∧ (k = true → U P ρ) ∧ (k = false → V P ρ)
theorem ss_if {tt : En → Option Bool} {u v : List Stmt} {U V : Po → En → Prop} (ht : ST T c tt) (hu : SB T u U) (hv : SB T v V) : SS T (.If c u v pos) (wIf tt U V) := by
  intro X G σ H ρ P E env h k
  obtain ⟨b, h1, h2, h3⟩ := h
  refine ⟨_, ps_if pt_w pss_w pss_w, ?_⟩
  refine ht X G.1 σ H ρ b env h1 _ fun H1 s1 => ?_
  cases b with
  | true =>
    rw [if_pos rfl]
    exact hu X G σ H1 ρ P E (env.mono s1) (h2 rfl) (k.on (evo_same s1))
  | false =>
    rw [if_neg Bool.false_ne_true]
    exact hv X G σ H1 ρ P E (env.mono s1) (h3 rfl) (k.on (evo_same s1))
def wFor (gi : En → Option (List D)) (set : D → En → Option En) (U : Po → En → Prop) : Po → En → Prop := fun P ρ => ∃ ds, gi ρ = some ds ∧ (noOw ρ || lfA ds) = true ∧ ∃ Iv : Nat → En → Prop, Iv 0 ρ ∧
  (∀ i d ρ1, ds[i]? = some d → Iv i ρ1 → ∃ ρ2, set d ρ1 = some ρ2 ∧ U { nx := Iv (i + 1), rt := P.rt, bk := P.nx, ct := Iv (i + 1) } ρ2) ∧ ∀ ρ1, Iv ds.length ρ1 → P.nx ρ1
theorem ss_for {is : List Nat} {set : D → En → Option En} {gi : En → Option (List D)} {u : List Stmt} {U : Po → En → Prop} (hi : SI T tg iter gi) (hg : SG T tg is set) (hu : SB T u U) (hs : ∀ env x, foldedSetIterable iter env x = pure x := by intro _ _; rfl) (hmd : T.md = none := by rfl) : SS T (.For tg iter u [] pos) (wFor gi set U) := by
  intro X G σ H ρ P E env h k
  obtain ⟨ds, h1, hlf, Iv, i0, turn, fin⟩ := h
  refine ⟨_, ps_for G.2.1 (G.1.calm hmd) pi_w pg_w pss_w (hs X.env), ?_⟩
  refine hi X G.1 σ H ρ ds env h1 _ fun J H1 ad Gp Y s1 wk stab nl item => ?_
  have stay : ∀ {ρ1 : En} {σ1 : L2.St} {H2 : Hp}, Evo ρ σ H1 ρ1 σ1 H2 → Gp H2 ∧ (Same H1 H2 ∨ (lfA ds = true ∧ Kp H1 H2)) := fun {ρ1 σ1 H2} ev => by
    refine ⟨stab H2 fun o ho => ?_, ?_⟩
    · rcases nl with nl | nl | nl
      · exact ev.kp ad o ho fun xs z => nl xs (by rw [ho, z])
      · refine ev.keep ad o ho ?_
        rintro ⟨i, es, e1, e2⟩
        obtain ⟨p, xs, e3, e4, _⟩ := env.at_ i _ _ e1 e2
        cases e3
        rw [nl] at e4
        cases e4
      · exact ev.same nl ad o ho
    · rcases Bool.or_eq_true_iff.mp hlf with z | z
      · exact .inl (ev.same z)
      · exact .inr ⟨z, ev.kp⟩
  refine for_it wk (fun i σ1 H2 => ∃ ρ1, Env T.K H2 σ1 ρ1 ∧ Evo ρ σ H1 ρ1 σ1 H2 ∧ Iv i ρ1) ⟨ρ, env.mono s1, Evo.refl _ _ _, i0⟩ (fun i σ1 H2 _ ⟨ρ1, _, ev, _⟩ => (stay ev).1) (fun i x σ1 Ha Hb hlt p y => ?_) fun σ1 H2 ⟨ρ1, e1, ev, iv⟩ => ?_
  · obtain ⟨ρ1, e1, ev, iv⟩ := p
    obtain ⟨gp, kp⟩ := stay ev
    obtain ⟨sab, d, hd, hx⟩ := item i Ha x Hb hlt gp kp y
    obtain ⟨ρ2, es, hU⟩ := turn i d ρ1 hd iv
    have ev2 := ev.trans (evo_same (ρ := ρ1) (σ := σ1) sab)
    refine hg X G.1 σ1 Hb ρ1 x d ρ2 (e1.mono sab) hx es _ fun σ2 env2 _ q1 q2 => ?_
    have ev3 := ev2.trans (evo_any (H := Hb) q1 q2)
    refine hu X G σ2 Hb ρ2 _ _ env2 hU ⟨fun σ' H' ρ' h1 h2 h3 => ⟨ρ', h1, ev3.trans h2, h3⟩, fun v σ' H' ρ' d' h1 h2 h3 => k.rt v σ' H' ρ' d' ((evo_same s1).trans (ev3.trans h1)) h2 h3, fun σ' H' ρ' h1 h2 h3 => k.nx σ' H' ρ' h1 ((evo_same s1).trans (ev3.trans h2)) h3, fun σ' H' ρ' h1 h2 h3 => ⟨ρ', h1, ev3.trans h2, h3⟩⟩
  · exact k.nx σ1 H2 ρ1 e1 ((evo_same s1).trans ev) (fin ρ1 iv)
def wWhile (g : En → Option Bool) (U : Po → En → Prop) : Po → En → Prop := fun P ρ => ∃ Iv : Nat → En → Prop, (∃ n, Iv n ρ) ∧ ∀ n ρ1, Iv n ρ1 → ∃ b, g ρ1 = some b ∧ (b = true → U { nx := fun ρ2 => ∃ m, m < n ∧ Iv m ρ2, rt := P.rt, bk := P.nx, ct := fun ρ2 => ∃ m, m < n ∧ Iv m ρ2 } ρ1) ∧ (b = false → P.nx ρ1)
theorem ss_while {tt : En → Option Bool} {u : List Stmt} {U : Po → En → Prop} (ht : ST T c tt) (hu : SB T u U) : SS T (.While c u [] pos) (wWhile tt U) := by
  intro X G σ H ρ P E env h k
  obtain ⟨Iv, ⟨n0, i0⟩, turn⟩ := h
  refine ⟨_, ps_while G.2.1 pt_w pss_w, ?_⟩
  refine ⟨fun n σ1 H2 => ∃ ρ1, Env T.K H2 σ1 ρ1 ∧ Evo ρ σ H ρ1 σ1 H2 ∧ Iv n ρ1, ⟨n0, ρ, env, Evo.refl _ _ _, i0⟩, fun n σ1 H2 ⟨ρ1, e1, ev, iv⟩ => ?_⟩
  obtain ⟨b, hb, h1, h2⟩ := turn n ρ1 iv
  refine ht X G.1 σ1 H2 ρ1 b e1 hb _ fun H3 s3 => ?_
  have ev3 := ev.trans (evo_same (ρ := ρ1) (σ := σ1) s3)
  cases b with
  | true =>
    rw [if_pos rfl]
    refine ⟨fun σ' H' => ∃ m, m < n ∧ ∃ ρ2, Env T.K H' σ' ρ2 ∧ Evo ρ σ H ρ2 σ' H' ∧ Iv m ρ2, fun σ' H' z => z, ?_⟩
    refine hu X G σ1 H3 ρ1 _ _ (e1.mono s3) (h1 rfl) ⟨fun σ' H' ρ' q1 q2 ⟨m, hm, q3⟩ => ⟨m, hm, ρ', q1, ev3.trans q2, q3⟩, fun v σ' H' ρ' d' q1 q2 q3 => k.rt v σ' H' ρ' d' (ev3.trans q1) q2 q3, fun σ' H' ρ' q1 q2 q3 => k.nx σ' H' ρ' q1 (ev3.trans q2) q3, fun σ' H' ρ' q1 q2 ⟨m, hm, q3⟩ => ⟨m, hm, ρ', q1, ev3.trans q2, q3⟩⟩
  | false =>
    rw [if_neg Bool.false_ne_true]
    exact k.nx σ1 H3 ρ1 (e1.mono s3) ev3 (h2 rfl)
def wSkip : Po → En → Prop := fun P ρ => P.nx ρ
theorem ss_pass : SS T (.Pass pos) wSkip := fun X G σ H ρ P E env h c => ⟨_, ps_pass, c.nx σ H ρ env (Evo.refl _ _ _) h⟩
def wBrk : Po → En → Prop := fun P ρ => P.bk ρ
theorem ss_break : SS T (.Break pos) wBrk := fun X G σ H ρ P E env h c => ⟨_, ps_break, c.bk σ H ρ env (Evo.refl _ _ _) h⟩
/-- a, b = e; a, b, c = e -/
def wAsg (g : En → Option D) (set : D → En → Option En) : Po → En → Prop := fun P ρ => ∃ d ρ', g ρ = some d ∧ set d ρ = some ρ' ∧ P.nx ρ'
theorem ss_asg {is : List Nat} {set : D → En → Option En} (he : SE T a ga) (hg : SG T tg is set) (hs : ∀ env, swapsWithSole [tg] a pos.line env = pure false := by intro _; rfl) (hw : ∀ env, swappedStores [tg] a env = pure none := by intro _; rfl) (h1 : ∀ env, (assignEach [tg] env).map (·.2) = [assign tg env] := by intro _; rfl) : SS T (.Assign [tg] a pos) (wAsg ga set) := by
  intro X G σ H ρ P E env h c
  obtain ⟨d, ρ', e1, e2, h⟩ := h
  refine ⟨_, ps_asg pe_w pg_w (hs X.env) (hw X.env) (h1 X.env), ?_⟩
  refine he X G.1 σ H ρ d env e1 _ fun v H1 s1 d1 => ?_
  refine hg X G.1 σ H1 ρ v d ρ' (env.mono s1) d1 e2 _ fun σ' env' _ q1 q2 => ?_
  exact c.nx σ' H1 ρ' env' ((evo_same s1).trans (evo_any q1 q2)) h
def set3 (i j k : Nat) (d : D) (ρ : En) : Option En := match d with
  | .tup [x, y, z] => some (((ρ.set i (.im x)).set j (.im y)).set k (.im z))
  | _ => none
theorem im_notow {ρ : En} {i l : Nat} {x : D} {ds : List D} (h : l = i ∨ ρ[l]? ≠ some (.ow ds)) : (ρ.set i (.im x))[l]? ≠ some (.ow ds) := by
  rw [List.getElem?_set]
  split
  · split <;> (intro z; cases z)
  · rename_i n
    rcases h with h | h
    · exact absurd h.symm n
    · exact h
theorem sg3 (i j k : Nat) {x y z : Str} {px py pz pos : Pos} {n : Nat} (hN : T.N[i]? = some x) (hx : locB T x = true) (hN2 : T.N[j]? = some y) (hy : locB T y = true) (hN3 : T.N[k]? = some z) (hz : locB T z = true) (hmd : T.md = none := by rfl) : SG T (.Tuple [.Name x px, .Name y py, .Name z pz] n pos) [i, j, k] (set3 i j k) := by
  intro X G σ H ρ v d ρ' env dv hs Q q
  unfold set3 at hs
  split at hs
  · cases hs
    obtain ⟨h1, h2⟩ := loc_of G hx
    obtain ⟨h3, h4⟩ := loc_of G hy
    obtain ⟨h5, h6⟩ := loc_of G hz
    cases dv with
    | tup q1 q2 =>
      cases q2 with
      | @cons v1 vs _ _ e1 q2 =>
        obtain ⟨v2, v3, rfl, e2, e3⟩ := dqa2 q2
        refine ⟨_, pg_tup (G.calm hmd) (pgs_cons (pg_name (i := i) (by rw [G.hN]; exact G.nd) (by rw [G.hN]; exact hN) h1 h2) (pgs_cons (pg_name (i := j) (by rw [G.hN]; exact G.nd) (by rw [G.hN]; exact hN2) h3 h4) (pgs_cons (pg_name (i := k) (by rw [G.hN]; exact G.nd) (by rw [G.hN]; exact hN3) h5 h6) pgs_nil))) rfl rfl, ?_⟩
        refine ⟨_, _, rfl, by rw [G.hK]; exact SqT.of q1, rfl, v1, [v2, v3], rfl, v2, [v3], rfl, v3, [], rfl, rfl, ?_⟩
        refine q _ (((env.set i e1).set j e2).set k e3) (fun vs hv => ?_) (fun l hl => ?_) fun l ds hl => ?_
        · rw [wipe_set (hv k (by simp)), wipe_set (hv j (by simp)), wipe_set (hv i (by simp))]
        · have n1 : i ≠ l := fun z => hl (by simp [z])
          have n2 : j ≠ l := fun z => hl (by simp [z])
          have n3 : k ≠ l := fun z => hl (by simp [z])
          exact ⟨by rw [List.getElem?_set_ne n3, List.getElem?_set_ne n2, List.getElem?_set_ne n1], by rw [List.getElem?_set_ne n3, List.getElem?_set_ne n2, List.getElem?_set_ne n1]⟩
        · by_cases z1 : l = k
          · exact im_notow (.inl z1)
          by_cases z2 : l = j
          · exact im_notow (.inr (im_notow (.inl z2)))
          have z3 : l = i := by
            rcases List.mem_cons.mp hl with z | z
            · exact z
            · rcases List.mem_cons.mp z with z | z
              · exact absurd z z2
              · exact absurd (List.mem_singleton.mp z) z1
          exact im_notow (.inr (im_notow (.inr (im_notow (.inl z3)))))
  · cases hs
/-- a, b = e1, e2, plain names -/
def wPar (i j : Nat) (g : En → Option (List D)) : Po → En → Prop := fun P ρ => ∃ x y, g ρ = some [x, y] ∧ P.nx ((ρ.set i (.im x)).set j (.im y))
theorem ss_par (i j : Nat) {x y : Str} {px py pt pt2 : Pos} {kt k2 : Nat} {g : En → Option (List D)} (ha : SA T [a, b] g) (hN : T.N[i]? = some x) (hN2 : T.N[j]? = some y) (hij : i ≠ j) (hx : T.sc.names.lookup x = some .local) (hy : T.sc.names.lookup y = some .local)
    (hw : ∀ env : PySem.Env, env.scope = T.sc → swappedStores [.Tuple [.Name x px, .Name y py] kt pt] (.Tuple [a, b] k2 pt2) env = pure (some [x, y])) (hs : ∀ env, swapsWithSole [.Tuple [.Name x px, .Name y py] kt pt] (.Tuple [a, b] k2 pt2) pos.line env = pure false := by intro _; rfl) (hmd : T.md = none := by rfl) :
    SS T (.Assign [.Tuple [.Name x px, .Name y py] kt pt] (.Tuple [a, b] k2 pt2) pos) (wPar i j g) := by
  intro X G σ H ρ P E env h c
  obtain ⟨d, e, h1, h2⟩ := h
  refine ⟨_, ps_par (i := i) (j := j) (G.1.calm hmd) (by rw [G.1.hN]; exact G.1.nd) (by rw [G.1.hN]; exact hN) (by rw [G.1.hN]; exact hN2) hij (by rw [G.1.hs]; exact hx) (by rw [G.1.hs]; exact hy) pa_w (hw X.env G.1.hs) (hs X.env), ?_⟩
  refine ha X G.1 σ H ρ _ env h1 _ fun vs H1 s1 d1 => ?_
  obtain ⟨v, u, rfl, d2, d3⟩ := dqa2 d1
  refine ⟨v, u, rfl, ?_⟩
  exact c.nx _ H1 _ (((env.mono s1).set i d2).set j d3) ((evo_same s1).trans ((evo_set (s := .im d) i (im_ne d)).trans (evo_set (s := .im e) j (im_ne e)))) h2
/-! ### an owned list changed -/
def othLf (ρ : En) (i : Nat) : Bool := (ρ.set i .un).all fun s => match s with
  | .un => true
  | .im d => lf d
  | .ow _ => false
  | .ex _ => true
theorem env_ch {K : PySem.W.Frag} {H : Hp} {σ : L2.St} {ρ : En} {i : Nat} {p : Addr} {ds ds' : List D} {xs xs' : List V} (env : Env K H σ ρ) (hr : ρ[i]? = some (.ow ds)) (hs : σ[i]? = some (some (.ref p))) (hp : H p = some (.lst xs)) (ho : othLf ρ i = true) (hd : DqA K (upd H p (.lst xs')) xs' ds') : Env K (upd H p (.lst xs')) σ (ρ.set i (.ow ds')) := by
  refine ⟨by rw [List.length_set]; exact env.len, fun j s ov e1 e2 => ?_⟩
  by_cases z : i = j
  · subst z
    have hi : i < ρ.length := (List.getElem?_eq_some_iff.mp hr).1
    rw [List.getElem?_set_self hi] at e1
    cases e1
    rw [hs] at e2
    cases e2
    exact ⟨p, xs', rfl, upd_same, hd⟩
  · rw [List.getElem?_set_ne z] at e1
    have q := env.at_ j s ov e1 e2
    unfold othLf at ho
    rw [List.all_eq_true] at ho
    have l := ho s (List.mem_of_getElem? (i := j) (by rw [List.getElem?_set_ne z]; exact e1))
    cases s with
    | un => trivial
    | im d =>
      obtain ⟨v, rfl, q⟩ := q
      exact ⟨v, rfl, q.kp (kp_upd hp) _ _ l⟩
    | ow es => cases l
    | ex a => exact q
theorem evo_ch {ρ : En} {σ : L2.St} {H : Hp} {i : Nat} {p : Addr} {ds ds' : List D} {xs : List V} {o : HO} (hr : ρ[i]? = some (.ow ds)) (hs : σ[i]? = some (some (.ref p))) (hp : H p = some (.lst xs)) : Evo ρ σ H (ρ.set i (.ow ds')) σ (upd H p o) := by
  refine ⟨fun a u h n => ?_, fun a ⟨j, es, e1, e2⟩ => ?_, kp_upd hp⟩
  · rw [upd_ne fun z => n (by rw [z]; exact ⟨i, ds, hr, hs⟩)]
    exact h
  · by_cases z : i = j
    · subst z
      exact .inl ⟨i, ds, hr, e2⟩
    · rw [List.getElem?_set_ne z] at e1
      exact .inl ⟨j, es, e1, e2⟩
theorem Env.owned {K : PySem.W.Frag} {H : Hp} {σ : L2.St} {ρ : En} (env : Env K H σ ρ) {i : Nat} {ds : List D} (hr : ρ[i]? = some (.ow ds)) : ∃ p xs, σ[i]? = some (some (.ref p)) ∧ H p = some (.lst xs) ∧ DqA K H xs ds := by
  have hi : i < σ.length := by rw [env.len]; exact (List.getElem?_eq_some_iff.mp hr).1
  obtain ⟨p, xs, e1, e2, e3⟩ := env.at_ i _ σ[i] hr (List.getElem?_eq_getElem hi)
  exact ⟨p, xs, by rw [List.getElem?_eq_getElem hi, e1], e2, e3⟩
/-- x[i] = e -/
def wIx (i : Nat) (gi ge : En → Option D) : Po → En → Prop := fun P ρ => ∃ ds k j d, ge ρ = some d ∧ ρ[i]? = some (.ow ds) ∧ gi ρ = some (.int k) ∧ ixN ds.length k = some j ∧ lf d = true ∧ lfA ds = true ∧ othLf ρ i = true ∧ P.nx (ρ.set i (.ow (ds.set j d)))
theorem ss_ix (i : Nat) {x : Str} {px ps : Pos} {gi ge : En → Option D} (hN : T.N[i]? = some x) (hv : visB T.sc x = true) (hi : SE T b gi) (he : SE T a ge)
    (ha : ∀ env v, assign (.Subscript (.Name x px) b ps) env v = (do
      let ov ← holding [v] (eval (.Name x px) env)
      let iv ← holding [v, ov] (eval b env)
      standAt ps
      holding [v, ov, iv] (setItem ov iv v)
      release [v, ov, iv] []) := by intro _ _; rfl)
    (hs : ∀ env, swapsWithSole [.Subscript (.Name x px) b ps] a pos.line env = pure false := by intro _; rfl) (hw : ∀ env, swappedStores [.Subscript (.Name x px) b ps] a env = pure none := by intro _; rfl) (h1 : ∀ env, (assignEach [.Subscript (.Name x px) b ps] env).map (·.2) = [assign (.Subscript (.Name x px) b ps) env] := by intro _; rfl)
    (hd : (x == ("__debug__" : Str)) = false := by decide) (hcd : (x == ("__classdict__" : Str)) = false := by decide) : SS T (.Assign [.Subscript (.Name x px) b ps] a pos) (wIx i gi ge) := by
  intro X G σ H ρ P E env h c
  obtain ⟨ds, k, j, d, q0, hr, q1, q2, l1, l2, l3, h⟩ := h
  obtain ⟨p, xs, e1, e2, e3⟩ := env.owned hr
  refine ⟨_, ps_asg pe_w (pg_sub (pe_var (i := i) (by rw [G.1.hN]; exact hN) (by rw [G.1.hs]; exact vis_of hv) hd hcd) pe_w set_list (ha X.env)) (hs X.env) (hw X.env) (h1 X.env), ?_⟩
  refine he X G.1 σ H ρ d env q0 _ fun v H1 s1 d1 => ?_
  refine ⟨.ref p, e1, ?_⟩
  refine hi X G.1 σ H1 ρ _ (env.mono s1) q1 _ fun u H2 s2 d2 => ?_
  cases d2
  have hp2 := s2 _ _ (s1 _ _ e2)
  have e3 := (e3.mono s1).mono s2
  refine ⟨p, xs, k, j, rfl, rfl, hp2, by rw [e3.length]; exact q2, ?_⟩
  have kp := kp_upd (o := .lst (xs.set j v)) hp2
  exact c.nx σ _ _ (env_ch (env.mono (s1.trans s2)) hr e1 hp2 l3 ((e3.kp kp _ _ l2).set j ((d1.mono s2).kp kp _ _ l1))) ((evo_same (s1.trans s2)).trans (evo_ch hr e1 hp2)) h
/-- x.append(e) -/
def wApp (i : Nat) (ge : En → Option D) : Po → En → Prop := fun P ρ => ∃ ds d, ρ[i]? = some (.ow ds) ∧ ge ρ = some d ∧ ds.length < 1000000 ∧ lf d = true ∧ lfA ds = true ∧ othLf ρ i = true ∧ P.nx (ρ.set i (.ow (ds ++ [d])))
theorem ss_app (i : Nat) {x : Str} {px ap cp : Pos} {ge : En → Option D} (hN : T.N[i]? = some x) (hv : visB T.sc x = true) (he : SE T a ge) (hline : (ap.endLine == cp.line) = true := by rfl)
    (hbase : ∀ env, attributeBase (.Name x px) "append" env (eval (.Name x px) env) = eval (.Name x px) env := by intro _; rfl)
    (hfew : ∀ env, ((backTo cp (starEach [a] env)).all (fun x => !x.1) && (backToKw cp (keywordEach [] env)).all (fun x => x.1.isSome)
      && decide ([a].length + ([] : List Keyword).length + (if ([] : List Keyword).isEmpty then 0 else 1) < 30)) = true := by intro _; rfl) (hst : ∀ env, starEach [a] env = (false, eval a env) :: starEach [] env := by intro _; rfl)
    (hsw : ∀ env, swapsWith (.Call (.Attribute (.Name x px) "append" ap) [a] [] cp) none pos.line env = pure false := by intro _; rfl)
    (hd : (x == ("__debug__" : Str)) = false := by decide) (hcd : (x == ("__classdict__" : Str)) = false := by decide) : SS T (.Expr (.Call (.Attribute (.Name x px) "append" ap) [a] [] cp) pos) (wApp i ge) := by
  intro X G σ H ρ P E env h c
  obtain ⟨ds, d, hr, q0, hz, l1, l2, l3, h⟩ := h
  obtain ⟨p, xs, e1, e2, e3⟩ := env.owned hr
  refine ⟨_, ps_expr (pe_bm PySem.F.plainAttrs_list PySem.F.slot_list_append PySem.F.type_list_append mt_append (pe_var (i := i) (by rw [G.1.hN]; exact hN) (by rw [G.1.hs]; exact vis_of hv) hd hcd) (pa_cons pe_w pa_nil (hst X.env)) (hbase X.env) (hfew X.env) hline (hst X.env) rfl) (hsw X.env), ?_⟩
  refine ⟨.ref p, e1, .inl ⟨rfl, xs, SqL.of e2⟩, ?_⟩
  refine he X G.1 σ H ρ d env q0 _ fun v H1 s1 d1 => ?_
  have hp := s1 _ _ e2
  have e3 := e3.mono s1
  refine ⟨p, xs, v, rfl, rfl, hp, by rw [e3.length]; exact Nat.lt_of_lt_of_le hz (by decide), ?_⟩
  have kp := kp_upd (o := .lst (xs ++ [v])) hp
  exact c.nx σ _ _ (env_ch (env.mono s1) hr e1 hp l3 ((e3.kp kp _ _ l2).append (.cons (d1.kp kp _ _ l1) .nil))) ((evo_same s1).trans (evo_ch hr e1 hp)) h
/-- x.pop() -/
def wPop (i : Nat) : Po → En → Prop := fun P ρ => ∃ ds, ρ[i]? = some (.ow ds) ∧ ds ≠ [] ∧ lfA ds = true ∧ othLf ρ i = true ∧ P.nx (ρ.set i (.ow ds.dropLast))
theorem DqA.dropLast {K : PySem.W.Frag} {H : Hp} {xs : List V} {ds : List D} (h : DqA K H xs ds) : DqA K H xs.dropLast ds.dropLast := by
  rw [List.dropLast_eq_take, List.dropLast_eq_take, h.length]
  exact h.take _
theorem ss_pop (i : Nat) {x : Str} {px ap cp : Pos} (hN : T.N[i]? = some x) (hv : visB T.sc x = true) (hline : (ap.endLine == cp.line) = true := by rfl)
    (hbase : ∀ env, attributeBase (.Name x px) "pop" env (eval (.Name x px) env) = eval (.Name x px) env := by intro _; rfl)
    (hsw : ∀ env, swapsWith (.Call (.Attribute (.Name x px) "pop" ap) [] [] cp) none pos.line env = pure false := by intro _; rfl)
    (hd : (x == ("__debug__" : Str)) = false := by decide) (hcd : (x == ("__classdict__" : Str)) = false := by decide) : SS T (.Expr (.Call (.Attribute (.Name x px) "pop" ap) [] [] cp) pos) (wPop i) := by
  intro X G σ H ρ P E env h c
  obtain ⟨ds, hr, hne, l2, l3, h⟩ := h
  obtain ⟨p, xs, e1, e2, e3⟩ := env.owned hr
  have hlen := e3.length
  have pos' : 0 < ds.length := List.length_pos_iff.mpr hne
  refine ⟨_, ps_expr (pe_bm0 PySem.F.plainAttrs_list PySem.F.slot_list_pop PySem.F.type_list_pop mt_pop (pe_var (i := i) (by rw [G.1.hN]; exact hN) (by rw [G.1.hs]; exact vis_of hv) hd hcd) (hbase X.env) hline) (hsw X.env), ?_⟩
  refine ⟨.ref p, e1, .inl ⟨rfl, xs, SqL.of e2⟩, p, xs, xs[xs.length - 1]'(by omega), rfl, rfl, e2, List.getElem?_eq_getElem _, ?_⟩
  have kp := kp_upd (o := .lst xs.dropLast) e2
  exact c.nx σ _ _ (env_ch env hr e1 e2 l3 ((e3.kp kp _ _ l2).dropLast)) (evo_ch hr e1 e2) h
end
end Pf

set_option Elab.async false
set_option linter.all false
set_option maxRecDepth 100000
set_option maxHeartbeats 2000000
/-! Pf7: defs; more rules. -/
namespace Pf
open PySem PySem.Spec L2
section
variable {T : Ct} {a b c tg iter : Expr} {ga gb gc : En → Option D} {pos : Pos}
/-- y = [comprehension], y a plain local -/
theorem ss_setLc (i : Nat) {y : Str} {py : Pos} {elt : Expr} {ifs : List Expr} {scope : Scope} {own : List (Str × Nat)} {is : List Nat} {set : D → En → Option En} {gi : En → Option (List D)} {gt : En → Option Bool} {ge : En → Option D} {lpos : Pos}
    (hi : SI T tg iter gi) (ok : blkC T.N T.sc scope own = true) (hg : SG (T.blk scope) tg is set) (his : ∀ j ∈ is, j ∈ own.map (·.2)) (ht : SPt (T.blk scope) ifs gt) (he : SE (T.blk scope) elt ge)
    (hN : T.N[i]? = some y) (hyl : T.sc.names.lookup y = some .local) (hk : T.sc.kind = .function) (hl : (py.line == lpos.line) = true) (hno : (scope.names.any fun (n, k) => n == y && (k == .local || k == .cell)) = false)
    (hs : ∀ env x, foldedSetIterable iter env x = pure x := by intro _ _; rfl) (hmd : T.md = none := by rfl) : SS T (.Assign [.Name y py] (.ListComp elt [⟨tg, iter, ifs, 0⟩] scope lpos) pos) (wSetL i (gLc gi (own.map (·.2)) set gt ge)) := by
  intro X G σ H ρ P E env h c
  obtain ⟨ds, h1, h2⟩ := h
  refine ⟨_, ps_setLc (i := i) (own := own) (G.1.calm hmd) (by rw [G.1.hN]; exact G.1.nd) (by rw [G.1.hN]; exact hN) (by rw [G.1.hs]; exact hyl) (sw_true (by rw [G.1.hs]; exact hk) (by rw [G.1.hs]; exact hyl) hl hno) pi_w (blkOk_by (by rw [G.1.hN, G.1.hs]; exact ok)) bG_pg bT_pt bE_pe (hs X.env), ?_⟩
  refine lc_read hi hg his ht he hmd G.1 env h1 fun p xs H' n s e1 e2 => ?_
  exact c.nx _ H' _ ((env.mono s).setL i e1 e2) (evo_new i n s) h2
/-! ### defs -/
def stR (N : List Str) (ds : List D) : En := ds.map .im ++ List.replicate (N.length - ds.length) .un
theorem env_start {K : PySem.W.Frag} {H : Hp} {N : List Str} {vs : List V} {ds : List D} (h : DqA K H vs ds) : Env K H (L2.start N vs) (stR N ds) := by
  have hl := h.length
  refine ⟨by simp [L2.start, stR, hl], fun i s ov e1 e2 => ?_⟩
  unfold L2.start at e2
  unfold stR at e1
  by_cases hi : i < ds.length
  · rw [List.getElem?_append_left (by simpa using hi)] at e1
    rw [List.getElem?_append_left (by simpa [hl] using hi)] at e2
    rw [List.getElem?_map] at e1 e2
    cases q1 : ds[i]? with
    | none => rw [q1] at e1; cases e1
    | some d =>
      rw [q1] at e1
      obtain ⟨v, q2, q3⟩ := h.get q1
      rw [q2] at e2
      cases e1; cases e2
      exact ⟨v, rfl, q3⟩
  · rw [List.getElem?_append_right (by simpa using hi)] at e1
    rw [List.getElem?_replicate] at e1
    split at e1
    · cases e1; trivial
    · cases e1
theorem noOw_start (N : List Str) (ds : List D) : noOw (stR N ds) = true := by
  unfold noOw stR
  rw [List.all_append, Bool.and_eq_true]
  constructor
  · rw [List.all_map, List.all_eq_true]; intro _ _; rfl
  · rw [List.all_eq_true]
    intro s hs
    rw [List.eq_of_mem_replicate hs]
end
section
variable {P : Program} {w : World} {K : PySem.W.Frag} {mg : Str → Option Value} {base : Heap}
abbrev ctx (P : Program) (w : World) (K : PySem.W.Frag) (mg : Str → Option Value) (base : Heap) (k : Nat) (N : List Str) (st : Stmt) : Ct := ⟨P, w, K, mg, base, k, N, defScope st, true, none⟩
/-- what the end knows of a def of the text -/
def Hd (K : PySem.W.Frag) (mg : Str → Option Value) (x : Str) (st : Stmt) (ps : List Str) : Prop := ∃ (f : Addr) (fd : FuncData), Fun K x x st f fd ∧ mg x = some (.ref f) ∧ Binds K fd ps []
/-- .. and what it does -/
def FnT (P : Program) (w : World) (K : PySem.W.Frag) (mg : Str → Option Value) (base : Heap) (k : Nat) (x : Str) (fn : List D → Option D) : Prop :=
  ∃ (f : Addr) (fd : FuncData) (ps : List Str), FnOk P w K mg base CX0 k f fd ps (spD K fn) ∧ mg x = some (.ref f) ∧ PySem.W.keepIn K (.ref f) = true ∧ Binds K fd ps []
theorem FnT.cal {k : Nat} {x : Str} {fn : List D → Option D} (h : FnT P w K mg base k x fn) {lv : Nat} {N : List Str} {sc : Scope} {df : Bool} {md : Option (Cx → Prop)} (hk : k ≤ lv := by first | exact Nat.le_of_ble_eq_true rfl | exact Nat.le_refl _ | assumption) : Callee ⟨P, w, K, mg, base, lv, N, sc, df, md⟩ x fn := by
  obtain ⟨f, fd, ps, F, hm, kp, b⟩ := h
  exact ⟨CX0, k, f, fd, ps, F, hk, hm, kp, b, fun X _ _ => pass0⟩
theorem un_of {k : Nat} {A : Around} (r : Room k A) : A.units + 100 < cLine := by have := r.un; omega
theorem fnok_mk {x : Str} {st : Stmt} {f : Addr} {fd : FuncData} {N ps : List Str} {k : Nat} (F : Fun K x x st f fd) (S : FnScope N ps (defScope st)) (fn : List D → Option D) {W : Po → En → Prop} (hb : SB (ctx P w K mg base k N st) (defBody st) W)
    (hlen : ∀ ds d, fn ds = some d → ds.length = ps.length) (hW : ∀ ds d, fn ds = some d → W { nx := fun _ => d = .non, rt := fun d' => d' = d } (stR N ds)) : FnOk P w K mg base CX0 (k + 1) f fd ps (spD K fn) := by
  refine F.ok S (fun vs H Q E h => ?_) (fun cdv A outer s H vs Q E hr h => ?_)
  · obtain ⟨ds, d, h1, h2, _⟩ := h
    rw [h1.length]
    exact hlen ds d h2
  · obtain ⟨ds, d, h1, h2, q⟩ := h
    have G : GoodS (ctx P w K mg base k N st) (cxOf CX0 P w K mg base N x (defScope st) f cdv A outer s H E).nox := ⟨⟨rfl, rfl, rfl, rfl, rfl, rfl, rfl, fun _ => rfl, S.nd, fun _ _ => rfl, fun _ => hr, un_of hr, fun _ e => (nomatch e)⟩, PassesOwn.never, rfl, rfl⟩
    refine ⟨_, pss_w, hb _ G (L2.start N vs) H (stR N ds) _ _ (env_start h1) (hW ds d h2) ⟨fun σ' H' ρ' _ e3 e4 => ?_, fun v σ' H' ρ' d' e3 e4 e5 => ?_, fun _ _ _ _ _ z => z.elim, fun _ _ _ _ _ z => z.elim⟩⟩
    · have e4 : d = .non := e4
      subst e4
      exact q .non H' (e3.same (noOw_start N ds)) .non
    · have e5 : d' = d := e5
      subst e5
      exact q v H' (e3.same (noOw_start N ds)) e4
theorem fn_mk {x : Str} {st : Stmt} {N ps : List Str} {k : Nat} (h : Hd K mg x st ps) (S : FnScope N ps (defScope st)) (fn : List D → Option D) {W : Po → En → Prop} (hb : SB (ctx P w K mg base k N st) (defBody st) W)
    (hlen : ∀ ds d, fn ds = some d → ds.length = ps.length) (hW : ∀ ds d, fn ds = some d → W { nx := fun _ => d = .non, rt := fun d' => d' = d } (stR N ds)) : FnT P w K mg base (k + 1) x fn := by
  obtain ⟨f, fd, F, hm, b⟩ := h
  exact ⟨f, fd, ps, fnok_mk F S fn hb hlen hW, hm, F.kp, b⟩
end
end Pf

set_option linter.all false
/-! Pf8: functions of data by the kinds of their arguments (printed by genkinds.py). -/
namespace Pf
open PySem PySem.Spec L2
def kCI {α : Type} (g : List Int → Int → Option α) : List D → Option α
  | [.scr x0, .int x1] => g x0 x1
  | _ => none
@[simp] theorem kCI_mk {α : Type} (g : List Int → Int → Option α) (x0 : List Int) (x1 : Int) : kCI g [.scr x0, .int x1] = g x0 x1 := by simp [kCI]
theorem kCI_of {α : Type} {g : List Int → Int → Option α} {ds : List D} {d : α} (h : kCI g ds = some d) : ∃ x0 x1, ds = [.scr x0, .int x1] ∧ g x0 x1 = some d := by
  unfold kCI at h
  split at h
  · rename_i x0 x1
    exact ⟨_, _, rfl, h⟩
  · cases h
def kII {α : Type} (g : Int → Int → Option α) : List D → Option α
  | [.int x0, .int x1] => g x0 x1
  | _ => none
@[simp] theorem kII_mk {α : Type} (g : Int → Int → Option α) (x0 : Int) (x1 : Int) : kII g [.int x0, .int x1] = g x0 x1 := by simp [kII]
theorem kII_of {α : Type} {g : Int → Int → Option α} {ds : List D} {d : α} (h : kII g ds = some d) : ∃ x0 x1, ds = [.int x0, .int x1] ∧ g x0 x1 = some d := by
  unfold kII at h
  split at h
  · rename_i x0 x1
    exact ⟨_, _, rfl, h⟩
  · cases h
def kIII {α : Type} (g : Int → Int → Int → Option α) : List D → Option α
  | [.int x0, .int x1, .int x2] => g x0 x1 x2
  | _ => none
@[simp] theorem kIII_mk {α : Type} (g : Int → Int → Int → Option α) (x0 : Int) (x1 : Int) (x2 : Int) : kIII g [.int x0, .int x1, .int x2] = g x0 x1 x2 := by simp [kIII]
theorem kIII_of {α : Type} {g : Int → Int → Int → Option α} {ds : List D} {d : α} (h : kIII g ds = some d) : ∃ x0 x1 x2, ds = [.int x0, .int x1, .int x2] ∧ g x0 x1 x2 = some d := by
  unfold kIII at h
  split at h
  · rename_i x0 x1 x2
    exact ⟨_, _, _, rfl, h⟩
  · cases h
def kAI {α : Type} (g : D → Int → Option α) : List D → Option α
  | [x0, .int x1] => g x0 x1
  | _ => none
@[simp] theorem kAI_mk {α : Type} (g : D → Int → Option α) (x0 : D) (x1 : Int) : kAI g [x0, .int x1] = g x0 x1 := by simp [kAI]
theorem kAI_of {α : Type} {g : D → Int → Option α} {ds : List D} {d : α} (h : kAI g ds = some d) : ∃ x0 x1, ds = [x0, .int x1] ∧ g x0 x1 = some d := by
  unfold kAI at h
  split at h
  · rename_i x0 x1
    exact ⟨_, _, rfl, h⟩
  · cases h
def kAII {α : Type} (g : D → Int → Int → Option α) : List D → Option α
  | [x0, .int x1, .int x2] => g x0 x1 x2
  | _ => none
@[simp] theorem kAII_mk {α : Type} (g : D → Int → Int → Option α) (x0 : D) (x1 : Int) (x2 : Int) : kAII g [x0, .int x1, .int x2] = g x0 x1 x2 := by simp [kAII]
theorem kAII_of {α : Type} {g : D → Int → Int → Option α} {ds : List D} {d : α} (h : kAII g ds = some d) : ∃ x0 x1 x2, ds = [x0, .int x1, .int x2] ∧ g x0 x1 x2 = some d := by
  unfold kAII at h
  split at h
  · rename_i x0 x1 x2
    exact ⟨_, _, _, rfl, h⟩
  · cases h
def kL {α : Type} (g : List Int → Option α) : List D → Option α
  | [.lst x0] => (dInts x0).bind fun x0 => g x0
  | _ => none
@[simp] theorem kL_mk {α : Type} (g : List Int → Option α) (x0 : List Int) : kL g [lI x0] = g x0 := by simp [kL]
theorem kL_of {α : Type} {g : List Int → Option α} {ds : List D} {d : α} (h : kL g ds = some d) : ∃ x0, ds = [lI x0] ∧ g x0 = some d := by
  unfold kL at h
  split at h
  · rename_i x0
    cases e0 : dInts x0 with
    | none => rw [e0] at h; cases h
    | some y0 =>
    rw [e0] at h
    simp only [Option.bind_some] at h
    have e0 := dInts_some e0
    subst e0
    exact ⟨_, rfl, h⟩
  · cases h
def kTTI {α : Type} (g : List Int → List Int → Int → Option α) : List D → Option α
  | [.tup x0, .tup x1, .int x2] => (dInts x0).bind fun x0 => (dInts x1).bind fun x1 => g x0 x1 x2
  | _ => none
@[simp] theorem kTTI_mk {α : Type} (g : List Int → List Int → Int → Option α) (x0 : List Int) (x1 : List Int) (x2 : Int) : kTTI g [tI x0, tI x1, .int x2] = g x0 x1 x2 := by simp [kTTI]
theorem kTTI_of {α : Type} {g : List Int → List Int → Int → Option α} {ds : List D} {d : α} (h : kTTI g ds = some d) : ∃ x0 x1 x2, ds = [tI x0, tI x1, .int x2] ∧ g x0 x1 x2 = some d := by
  unfold kTTI at h
  split at h
  · rename_i x0 x1 x2
    cases e0 : dInts x0 with
    | none => rw [e0] at h; cases h
    | some y0 =>
    rw [e0] at h
    simp only [Option.bind_some] at h
    have e0 := dInts_some e0
    subst e0
    cases e1 : dInts x1 with
    | none => rw [e1] at h; cases h
    | some y1 =>
    rw [e1] at h
    simp only [Option.bind_some] at h
    have e1 := dInts_some e1
    subst e1
    exact ⟨_, _, _, rfl, h⟩
  · cases h
def kTITII {α : Type} (g : List Int → Int → List Int → Int → Int → Option α) : List D → Option α
  | [.tup x0, .int x1, .tup x2, .int x3, .int x4] => (dInts x0).bind fun x0 => (dInts x2).bind fun x2 => g x0 x1 x2 x3 x4
  | _ => none
@[simp] theorem kTITII_mk {α : Type} (g : List Int → Int → List Int → Int → Int → Option α) (x0 : List Int) (x1 : Int) (x2 : List Int) (x3 : Int) (x4 : Int) : kTITII g [tI x0, .int x1, tI x2, .int x3, .int x4] = g x0 x1 x2 x3 x4 := by simp [kTITII]
theorem kTITII_of {α : Type} {g : List Int → Int → List Int → Int → Int → Option α} {ds : List D} {d : α} (h : kTITII g ds = some d) : ∃ x0 x1 x2 x3 x4, ds = [tI x0, .int x1, tI x2, .int x3, .int x4] ∧ g x0 x1 x2 x3 x4 = some d := by
  unfold kTITII at h
  split at h
  · rename_i x0 x1 x2 x3 x4
    cases e0 : dInts x0 with
    | none => rw [e0] at h; cases h
    | some y0 =>
    rw [e0] at h
    simp only [Option.bind_some] at h
    have e0 := dInts_some e0
    subst e0
    cases e2 : dInts x2 with
    | none => rw [e2] at h; cases h
    | some y2 =>
    rw [e2] at h
    simp only [Option.bind_some] at h
    have e2 := dInts_some e2
    subst e2
    exact ⟨_, _, _, _, _, rfl, h⟩
  · cases h
def kTII {α : Type} (g : List Int → Int → Int → Option α) : List D → Option α
  | [.tup x0, .int x1, .int x2] => (dInts x0).bind fun x0 => g x0 x1 x2
  | _ => none
@[simp] theorem kTII_mk {α : Type} (g : List Int → Int → Int → Option α) (x0 : List Int) (x1 : Int) (x2 : Int) : kTII g [tI x0, .int x1, .int x2] = g x0 x1 x2 := by simp [kTII]
theorem kTII_of {α : Type} {g : List Int → Int → Int → Option α} {ds : List D} {d : α} (h : kTII g ds = some d) : ∃ x0 x1 x2, ds = [tI x0, .int x1, .int x2] ∧ g x0 x1 x2 = some d := by
  unfold kTII at h
  split at h
  · rename_i x0 x1 x2
    cases e0 : dInts x0 with
    | none => rw [e0] at h; cases h
    | some y0 =>
    rw [e0] at h
    simp only [Option.bind_some] at h
    have e0 := dInts_some e0
    subst e0
    exact ⟨_, _, _, rfl, h⟩
  · cases h
def kTI {α : Type} (g : List Int → Int → Option α) : List D → Option α
  | [.tup x0, .int x1] => (dInts x0).bind fun x0 => g x0 x1
  | _ => none
@[simp] theorem kTI_mk {α : Type} (g : List Int → Int → Option α) (x0 : List Int) (x1 : Int) : kTI g [tI x0, .int x1] = g x0 x1 := by simp [kTI]
theorem kTI_of {α : Type} {g : List Int → Int → Option α} {ds : List D} {d : α} (h : kTI g ds = some d) : ∃ x0 x1, ds = [tI x0, .int x1] ∧ g x0 x1 = some d := by
  unfold kTI at h
  split at h
  · rename_i x0 x1
    cases e0 : dInts x0 with
    | none => rw [e0] at h; cases h
    | some y0 =>
    rw [e0] at h
    simp only [Option.bind_some] at h
    have e0 := dInts_some e0
    subst e0
    exact ⟨_, _, rfl, h⟩
  · cases h
def kT {α : Type} (g : List Int → Option α) : List D → Option α
  | [.tup x0] => (dInts x0).bind fun x0 => g x0
  | _ => none
@[simp] theorem kT_mk {α : Type} (g : List Int → Option α) (x0 : List Int) : kT g [tI x0] = g x0 := by simp [kT]
theorem kT_of {α : Type} {g : List Int → Option α} {ds : List D} {d : α} (h : kT g ds = some d) : ∃ x0, ds = [tI x0] ∧ g x0 = some d := by
  unfold kT at h
  split at h
  · rename_i x0
    cases e0 : dInts x0 with
    | none => rw [e0] at h; cases h
    | some y0 =>
    rw [e0] at h
    simp only [Option.bind_some] at h
    have e0 := dInts_some e0
    subst e0
    exact ⟨_, rfl, h⟩
  · cases h
def kTITI {α : Type} (g : List Int → Int → List Int → Int → Option α) : List D → Option α
  | [.tup x0, .int x1, .tup x2, .int x3] => (dInts x0).bind fun x0 => (dInts x2).bind fun x2 => g x0 x1 x2 x3
  | _ => none
@[simp] theorem kTITI_mk {α : Type} (g : List Int → Int → List Int → Int → Option α) (x0 : List Int) (x1 : Int) (x2 : List Int) (x3 : Int) : kTITI g [tI x0, .int x1, tI x2, .int x3] = g x0 x1 x2 x3 := by simp [kTITI]
theorem kTITI_of {α : Type} {g : List Int → Int → List Int → Int → Option α} {ds : List D} {d : α} (h : kTITI g ds = some d) : ∃ x0 x1 x2 x3, ds = [tI x0, .int x1, tI x2, .int x3] ∧ g x0 x1 x2 x3 = some d := by
  unfold kTITI at h
  split at h
  · rename_i x0 x1 x2 x3
    cases e0 : dInts x0 with
    | none => rw [e0] at h; cases h
    | some y0 =>
    rw [e0] at h
    simp only [Option.bind_some] at h
    have e0 := dInts_some e0
    subst e0
    cases e2 : dInts x2 with
    | none => rw [e2] at h; cases h
    | some y2 =>
    rw [e2] at h
    simp only [Option.bind_some] at h
    have e2 := dInts_some e2
    subst e2
    exact ⟨_, _, _, _, rfl, h⟩
  · cases h
def kTTTTI {α : Type} (g : List Int → List Int → List Int → List Int → Int → Option α) : List D → Option α
  | [.tup x0, .tup x1, .tup x2, .tup x3, .int x4] => (dInts x0).bind fun x0 => (dInts x1).bind fun x1 => (dInts x2).bind fun x2 => (dInts x3).bind fun x3 => g x0 x1 x2 x3 x4
  | _ => none
@[simp] theorem kTTTTI_mk {α : Type} (g : List Int → List Int → List Int → List Int → Int → Option α) (x0 : List Int) (x1 : List Int) (x2 : List Int) (x3 : List Int) (x4 : Int) : kTTTTI g [tI x0, tI x1, tI x2, tI x3, .int x4] = g x0 x1 x2 x3 x4 := by simp [kTTTTI]
theorem kTTTTI_of {α : Type} {g : List Int → List Int → List Int → List Int → Int → Option α} {ds : List D} {d : α} (h : kTTTTI g ds = some d) : ∃ x0 x1 x2 x3 x4, ds = [tI x0, tI x1, tI x2, tI x3, .int x4] ∧ g x0 x1 x2 x3 x4 = some d := by
  unfold kTTTTI at h
  split at h
  · rename_i x0 x1 x2 x3 x4
    cases e0 : dInts x0 with
    | none => rw [e0] at h; cases h
    | some y0 =>
    rw [e0] at h
    simp only [Option.bind_some] at h
    have e0 := dInts_some e0
    subst e0
    cases e1 : dInts x1 with
    | none => rw [e1] at h; cases h
    | some y1 =>
    rw [e1] at h
    simp only [Option.bind_some] at h
    have e1 := dInts_some e1
    subst e1
    cases e2 : dInts x2 with
    | none => rw [e2] at h; cases h
    | some y2 =>
    rw [e2] at h
    simp only [Option.bind_some] at h
    have e2 := dInts_some e2
    subst e2
    cases e3 : dInts x3 with
    | none => rw [e3] at h; cases h
    | some y3 =>
    rw [e3] at h
    simp only [Option.bind_some] at h
    have e3 := dInts_some e3
    subst e3
    exact ⟨_, _, _, _, _, rfl, h⟩
  · cases h
def kSI {α : Type} (g : Str → Int → Option α) : List D → Option α
  | [.str x0, .int x1] => g x0 x1
  | _ => none
@[simp] theorem kSI_mk {α : Type} (g : Str → Int → Option α) (x0 : Str) (x1 : Int) : kSI g [.str x0, .int x1] = g x0 x1 := by simp [kSI]
theorem kSI_of {α : Type} {g : Str → Int → Option α} {ds : List D} {d : α} (h : kSI g ds = some d) : ∃ x0 x1, ds = [.str x0, .int x1] ∧ g x0 x1 = some d := by
  unfold kSI at h
  split at h
  · rename_i x0 x1
    exact ⟨_, _, rfl, h⟩
  · cases h
def kI {α : Type} (g : Int → Option α) : List D → Option α
  | [.int x0] => g x0
  | _ => none
@[simp] theorem kI_mk {α : Type} (g : Int → Option α) (x0 : Int) : kI g [.int x0] = g x0 := by simp [kI]
theorem kI_of {α : Type} {g : Int → Option α} {ds : List D} {d : α} (h : kI g ds = some d) : ∃ x0, ds = [.int x0] ∧ g x0 = some d := by
  unfold kI at h
  split at h
  · rename_i x0
    exact ⟨_, rfl, h⟩
  · cases h
def kC {α : Type} (g : List Int → Option α) : List D → Option α
  | [.scr x0] => g x0
  | _ => none
@[simp] theorem kC_mk {α : Type} (g : List Int → Option α) (x0 : List Int) : kC g [.scr x0] = g x0 := by simp [kC]
theorem kC_of {α : Type} {g : List Int → Option α} {ds : List D} {d : α} (h : kC g ds = some d) : ∃ x0, ds = [.scr x0] ∧ g x0 = some d := by
  unfold kC at h
  split at h
  · rename_i x0
    exact ⟨_, rfl, h⟩
  · cases h
def kTIA {α : Type} (g : List Int → Int → D → Option α) : List D → Option α
  | [.tup x0, .int x1, x2] => (dInts x0).bind fun x0 => g x0 x1 x2
  | _ => none
@[simp] theorem kTIA_mk {α : Type} (g : List Int → Int → D → Option α) (x0 : List Int) (x1 : Int) (x2 : D) : kTIA g [tI x0, .int x1, x2] = g x0 x1 x2 := by simp [kTIA]
theorem kTIA_of {α : Type} {g : List Int → Int → D → Option α} {ds : List D} {d : α} (h : kTIA g ds = some d) : ∃ x0 x1 x2, ds = [tI x0, .int x1, x2] ∧ g x0 x1 x2 = some d := by
  unfold kTIA at h
  split at h
  · rename_i x0 x1 x2
    cases e0 : dInts x0 with
    | none => rw [e0] at h; cases h
    | some y0 =>
    rw [e0] at h
    simp only [Option.bind_some] at h
    have e0 := dInts_some e0
    subst e0
    exact ⟨_, _, _, rfl, h⟩
  · cases h
def kS {α : Type} (g : Str → Option α) : List D → Option α
  | [.str x0] => g x0
  | _ => none
@[simp] theorem kS_mk {α : Type} (g : Str → Option α) (x0 : Str) : kS g [.str x0] = g x0 := by simp [kS]
theorem kS_of {α : Type} {g : Str → Option α} {ds : List D} {d : α} (h : kS g ds = some d) : ∃ x0, ds = [.str x0] ∧ g x0 = some d := by
  unfold kS at h
  split at h
  · rename_i x0
    exact ⟨_, rfl, h⟩
  · cases h
def kA {α : Type} (g : D → Option α) : List D → Option α
  | [x0] => g x0
  | _ => none
@[simp] theorem kA_mk {α : Type} (g : D → Option α) (x0 : D) : kA g [x0] = g x0 := by simp [kA]
theorem kA_of {α : Type} {g : D → Option α} {ds : List D} {d : α} (h : kA g ds = some d) : ∃ x0, ds = [x0] ∧ g x0 = some d := by
  unfold kA at h
  split at h
  · rename_i x0
    exact ⟨_, rfl, h⟩
  · cases h
end Pf

set_option Elab.async false
set_option linter.all false
set_option maxRecDepth 100000
set_option maxHeartbeats 2000000
/-! Pf9: how the readings are reckoned with (simp), and rules left out before. -/
namespace Pf
open PySem PySem.Spec L2
section
variable {T : Ct} {a b c tg iter : Expr} {pos : Pos}
variable (ρ : En) (ga gb gc : En → Option D) (ta tb : En → Option Bool) (la lb : En → Option (List D)) (P : Po) (U V : Po → En → Prop) (i j k : Nat)
@[simp] theorem gV_ap : gV i ρ = (ρ[i]?).bind slD := rfl
@[simp] theorem slD_im (d : D) : slD (.im d) = some d := rfl
@[simp] theorem slD_ow (d : List D) : slD (.ow d) = some (.lst d) := rfl
@[simp] theorem slD_un : slD .un = none := rfl
@[simp] theorem gC_ap (d : D) : gC d ρ = some d := rfl
@[simp] theorem g2_ap (h : D → D → Option D) : g2 h ga gb ρ = (ga ρ).bind fun x => (gb ρ).bind fun y => h x y := rfl
@[simp] theorem g1_ap (h : D → Option D) : g1 h ga ρ = (ga ρ).bind h := rfl
@[simp] theorem gAnd_ap : gAnd ta tb ρ = (ta ρ).bind fun x => if x = true then tb ρ else some false := rfl
@[simp] theorem gOr_ap : gOr ta tb ρ = (ta ρ).bind fun x => if x = true then some true else tb ρ := rfl
@[simp] theorem gNot_ap : gNot ta ρ = (ta ρ).map fun x => !x := rfl
@[simp] theorem gB_ap : gB ta ρ = (ta ρ).map D.bl := rfl
@[simp] theorem gIf_ap : gIf ta ga gb ρ = (ta ρ).bind fun x => if x = true then ga ρ else gb ρ := rfl
@[simp] theorem gNil_ap : gNil ρ = some [] := rfl
@[simp] theorem gCons_ap : gCons ga la ρ = (ga ρ).bind fun x => (la ρ).bind fun xs => some (x :: xs) := rfl
@[simp] theorem gTup_ap : gTup la ρ = (la ρ).bind fun ds => if ds.length ≤ 1000000 then some (.tup ds) else none := rfl
@[simp] theorem gLst_ap : gLst la ρ = (la ρ).bind fun ds => if ds.length ≤ 1000000 then some ds else none := rfl
@[simp] theorem gL_ap : gL la ρ = (la ρ).map D.lst := rfl
@[simp] theorem gON_ap : gON ρ = some none := rfl
@[simp] theorem gOS_ap : gOS ga ρ = (ga ρ).bind fun d => match d with
  | .int i => some (some i)
  | _ => none := rfl
@[simp] theorem gSl_ap (lo hi : En → Option (Option Int)) : gSl ga lo hi ρ = (ga ρ).bind fun d => (lo ρ).bind fun l => (hi ρ).bind fun h => slD' d l h := rfl
@[simp] theorem gSlL_ap (lo hi : En → Option (Option Int)) : gSlL ga lo hi ρ = (ga ρ).bind fun d => (lo ρ).bind fun l => (hi ρ).bind fun h => match d with
  | .lst ds => some (cutD ds l h)
  | _ => none := rfl
@[simp] theorem gCat_ap : gCat la lb ρ = (la ρ).bind fun x => (lb ρ).bind fun y => if x.length + y.length ≤ 1000000 then some (x ++ y) else none := rfl
@[simp] theorem gRep_ap : gRep la gb ρ = (la ρ).bind fun x => (gb ρ).bind fun y => match y with
  | .int k => if -(2 ^ 63) ≤ k ∧ k < 2 ^ 63 ∧ x.length * k.toNat ≤ 1000000 then some (List.replicate k.toNat x).flatten else none
  | _ => none := rfl
@[simp] theorem gAsL_ap : gAsL ga ρ = (ga ρ).bind fun d => match d with
  | .lst ds => some ds
  | _ => none := rfl
@[simp] theorem gToL_ap : gToL ga ρ = (ga ρ).bind fun d => match d with
  | .tup ds => some ds
  | .lst ds => some ds
  | _ => none := rfl
@[simp] theorem gCall_ap (f : List D → Option D) : gCall f la ρ = (la ρ).bind f := rfl
@[simp] theorem gTu_ap : gTu ga ρ = (ga ρ).bind fun d => match d with
  | .tup ds => some ds
  | .ftp ds => some ds
  | _ => none := rfl
@[simp] theorem gLs_ap : gLs ga ρ = (ga ρ).bind fun d => match d with
  | .lst ds => if noOw ρ = true then some ds else none
  | _ => none := rfl
@[simp] theorem gR1_ap : gR1 la ρ = (la ρ).bind fun ds => match ds with
  | [.int j] => if -(2 ^ 62) ≤ j ∧ j < 2 ^ 62 then some (rngD 0 j.toNat) else none
  | _ => none := rfl
@[simp] theorem gR2_ap : gR2 la ρ = (la ρ).bind fun ds => match ds with
  | [.int i, .int j] => if -(2 ^ 62) ≤ i ∧ i < 2 ^ 62 ∧ -(2 ^ 62) ≤ j ∧ j < 2 ^ 62 then some (rngD i (j - i).toNat) else none
  | _ => none := rfl
@[simp] theorem gEnT_ap : gEnT ga ρ = (gTu ga ρ).map (enD 0) := rfl
@[simp] theorem gEnL_ap : gEnL ga ρ = (gLs ga ρ).map (enD 0) := rfl
@[simp] theorem gYes_ap : gYes ρ = some true := rfl
@[simp] theorem set1_ap (d : D) : set1 i d ρ = some (ρ.set i (.im d)) := rfl
@[simp] theorem set2_ap (x y : D) : set2 i j (.tup [x, y]) ρ = some ((ρ.set i (.im x)).set j (.im y)) := rfl
@[simp] theorem set3_ap (x y z : D) : set3 i j k (.tup [x, y, z]) ρ = some (((ρ.set i (.im x)).set j (.im y)).set k (.im z)) := rfl
@[simp] theorem gLc_ap (own : List Nat) (set : D → En → Option En) : gLc la own set ta ga ρ = (la ρ).bind fun ds => if ds.length ≤ 1000000 then lcG set ta ga (wipeR ρ own) ds else none := rfl
@[simp] theorem wipeR_nil : wipeR ρ [] = ρ := rfl
@[simp] theorem wipeR_cons (is : List Nat) : wipeR ρ (i :: is) = (wipeR ρ is).set i .un := rfl
@[simp] theorem wNil_ap : wNil P ρ = P.nx ρ := rfl
@[simp] theorem wCons_ap : wCons U V P ρ = U { P with nx := V P } ρ := rfl
@[simp] theorem wSet_ap : wSet i ga P ρ = ∃ d, ga ρ = some d ∧ P.nx (ρ.set i (.im d)) := rfl
@[simp] theorem wSetL_ap : wSetL i la P ρ = ∃ d, la ρ = some d ∧ P.nx (ρ.set i (.ow d)) := rfl
@[simp] theorem wRet_ap : wRet ga P ρ = ∃ d, ga ρ = some d ∧ P.rt d := rfl
@[simp] theorem wIf_ap : wIf ta U V P ρ = ∃ k, ta ρ = some k ∧ (k = true → U P ρ) ∧ (k = false → V P ρ) := rfl
@[simp] theorem wAsg_ap (set : D → En → Option En) : wAsg ga set P ρ = ∃ d ρ', ga ρ = some d ∧ set d ρ = some ρ' ∧ P.nx ρ' := rfl
@[simp] theorem wPar_ap : wPar i j la P ρ = ∃ x y, la ρ = some [x, y] ∧ P.nx ((ρ.set i (.im x)).set j (.im y)) := rfl
@[simp] theorem wApp_ap : wApp i ga P ρ = ∃ ds d, ρ[i]? = some (.ow ds) ∧ ga ρ = some d ∧ ds.length < 1000000 ∧ lf d = true ∧ lfA ds = true ∧ othLf ρ i = true ∧ P.nx (ρ.set i (.ow (ds ++ [d]))) := rfl
@[simp] theorem wPop_ap : wPop i P ρ = ∃ ds, ρ[i]? = some (.ow ds) ∧ ds ≠ [] ∧ lfA ds = true ∧ othLf ρ i = true ∧ P.nx (ρ.set i (.ow ds.dropLast)) := rfl
@[simp] theorem wIx_ap : wIx i ga gb P ρ = ∃ ds k j d, gb ρ = some d ∧ ρ[i]? = some (.ow ds) ∧ ga ρ = some (.int k) ∧ ixN ds.length k = some j ∧ lf d = true ∧ lfA ds = true ∧ othLf ρ i = true ∧ P.nx (ρ.set i (.ow (ds.set j d))) := rfl
@[simp] theorem stR_ap (N : List Str) (ds : List D) : stR N ds = ds.map .im ++ List.replicate (N.length - ds.length) .un := rfl
/-! ### operators on data -/
variable (x y : Int) (s z : Str) (ds es : List D) (d e : D)
@[simp] theorem addD_int : addD (.int x) (.int y) = some (.int (x + y)) := rfl
@[simp] theorem addD_str : addD (.str s) (.str z) = if s.length + z.length ≤ 1000000 then some (.str (s ++ z)) else none := rfl
@[simp] theorem addD_tup : addD (.tup ds) (.tup es) = if ds.length + es.length ≤ 1000000 then some (.tup (ds ++ es)) else none := rfl
@[simp] theorem subD_int : subD (.int x) (.int y) = some (.int (x - y)) := rfl
@[simp] theorem mulD_int : mulD (.int x) (.int y) = if (-(2 ^ 64) < x ∧ x < 2 ^ 64) ∨ (-(2 ^ 64) < y ∧ y < 2 ^ 64) then some (.int (x * y)) else none := rfl
@[simp] theorem modD_int : modD (.int x) (.int y) = if 0 < y then some (.int (x % y)) else none := rfl
@[simp] theorem fdivD_int : fdivD (.int x) (.int y) = if 0 < y ∧ y < 1073741824 then some (.int (x / y)) else none := rfl
@[simp] theorem powD_int : powD (.int x) (.int y) = if 0 ≤ y ∧ y ≤ 1000000 ∧ x.natAbs < 2 ^ 64 then some (.int (x ^ y.toNat)) else none := rfl
@[simp] theorem negD_int : negD (.int x) = some (.int (-x)) := rfl
@[simp] theorem cmpD_int (p : Int → Int → Bool) : cmpD p (.int x) (.int y) = some (.bl (p x y)) := rfl
@[simp] theorem isND_ap : isND d .non = some (.bl (isNon d)) := by cases d <;> rfl
@[simp] theorem notND_ap : notND d .non = some (.bl (!isNon d)) := by cases d <;> rfl
@[simp] theorem isNon_non : isNon .non = true := rfl
@[simp] theorem isNon_int : isNon (.int x) = false := rfl
@[simp] theorem isNon_tup : isNon (.tup ds) = false := rfl
@[simp] theorem isNon_str : isNon (.str s) = false := rfl
@[simp] theorem isNon_lst : isNon (.lst ds) = false := rfl
@[simp] theorem isNon_bl (b : Bool) : isNon (.bl b) = false := rfl
theorem shaped_int : SeqAt.shaped (.int x) = true := by
  simp [SeqAt.shaped, PyData.canLay0, PyData.depth]
theorem shaped_non : SeqAt.shaped .none = true := by
  simp [SeqAt.shaped, PyData.canLay0, PyData.depth]
theorem shaped_bool (b : Bool) : SeqAt.shaped (.bool b) = true := by
  simp [SeqAt.shaped, PyData.canLay0, PyData.depth]
theorem toPyA_ints : ∀ ns : List Int, toPyA (ns.map D.int) = some (ns.map PyData.int)
  | [] => rfl
  | n :: ns => by simp [toPyA, toPy, toPyA_ints ns]
theorem canLay_ints : ∀ ns : List Int, PyData.canLayAll0 (ns.map PyData.int) = true
  | [] => rfl
  | n :: ns => by simp [PyData.canLayAll0, PyData.canLay0, canLay_ints ns]
theorem depth_ints : ∀ ns : List Int, PyData.depthAll (ns.map PyData.int) ≤ 1
  | [] => by simp [PyData.depthAll]
  | n :: ns => by
    have := depth_ints ns
    simp only [List.map_cons, PyData.depthAll, PyData.depth]
    omega
theorem shaped_ints (ns : List Int) : SeqAt.shaped (.tuple (ns.map .int)) = true := by
  have h1 := canLay_ints ns
  have h2 := depth_ints ns
  simp only [SeqAt.shaped, PyData.canLay0, PyData.depth, h1, Bool.true_and]
  exact decide_eq_true (by omega)
theorem shaped_intsL (ns : List Int) : SeqAt.shaped (.list (ns.map .int)) = true := by
  have h1 := canLay_ints ns
  have h2 := depth_ints ns
  simp only [SeqAt.shaped, PyData.canLay0, PyData.depth, h1, Bool.true_and]
  exact decide_eq_true (by omega)
theorem eqv_ints : ∀ xs ys : List Int, PyData.eqvAll (xs.map .int) (ys.map .int) = decide (xs = ys)
  | [], [] => rfl
  | [], y :: ys => by simp [PyData.eqvAll]
  | x :: xs, [] => by simp [PyData.eqvAll]
  | x :: xs, y :: ys => by
    simp only [List.map_cons, PyData.eqvAll, PyData.eqv, eqv_ints xs ys]
    by_cases h : x = y <;> by_cases h2 : xs = ys <;> simp [h, h2]
theorem eqB_int : eqB (.int x) (.int y) = some (decide (x = y)) := by
  simp only [eqB, toPy, Option.bind_some, shaped_int, and_self, if_true, PyData.eqv]
  rw [Bool.beq_eq_decide_eq]
theorem eqB_tI (xs ys : List Int) : eqB (tI xs) (tI ys) = some (decide (xs = ys)) := by
  simp only [eqB, toPy, toPyA_ints, Option.map_some, Option.bind_some, shaped_ints, and_self, if_true, PyData.eqv, eqv_ints]
theorem eqB_lI (xs ys : List Int) : eqB (lI xs) (lI ys) = some (decide (xs = ys)) := by
  simp only [eqB, toPy, toPyA_ints, Option.map_some, Option.bind_some, shaped_intsL, and_self, if_true, PyData.eqv, eqv_ints]
theorem eqB_bl (x y : Bool) : eqB (.bl x) (.bl y) = some (decide (x = y)) := by
  simp only [eqB, toPy, Option.bind_some, shaped_bool, and_self, if_true, PyData.eqv]
  cases x <;> cases y <;> rfl
@[simp] theorem eqD_int : eqD (.int x) (.int y) = some (.bl (decide (x = y))) := by simp [eqD, eqB_int]
@[simp] theorem neD_int : neD (.int x) (.int y) = some (.bl (!decide (x = y))) := by simp [neD, eqB_int]
@[simp] theorem eqD_bl (x y : Bool) : eqD (.bl x) (.bl y) = some (.bl (decide (x = y))) := by simp only [eqD, eqB_bl, Option.map_some]
@[simp] theorem eqD_tI (xs ys : List Int) : eqD (.tup (xs.map .int)) (.tup (ys.map .int)) = some (.bl (decide (xs = ys))) := by simp only [eqD, eqB_tI, Option.map_some]
@[simp] theorem neD_tI (xs ys : List Int) : neD (.tup (xs.map .int)) (.tup (ys.map .int)) = some (.bl (!decide (xs = ys))) := by simp only [neD, eqB_tI, Option.map_some]
@[simp] theorem eqD_tn (xs : List Int) : eqD (.tup (xs.map .int)) (.tup []) = some (.bl (decide (xs = []))) := eqD_tI xs []
@[simp] theorem neD_tn (xs : List Int) : neD (.tup (xs.map .int)) (.tup []) = some (.bl (!decide (xs = []))) := neD_tI xs []
@[simp] theorem neD_lI (xs ys : List Int) : neD (.lst (xs.map .int)) (.lst (ys.map .int)) = some (.bl (!decide (xs = ys))) := by simp only [neD, eqB_lI, Option.map_some]
@[simp] theorem neD_ln (xs : List Int) : neD (.lst (xs.map .int)) (.lst []) = some (.bl (!decide (xs = []))) := neD_lI xs []
@[simp] theorem ixD_tup : ixD (.tup ds) (.int x) = atI ds x := rfl
@[simp] theorem ixD_lst : ixD (.lst ds) (.int x) = atI ds x := rfl
@[simp] theorem ixD_scr (ns : List Int) : ixD (.scr ns) (.int x) = (atI ns x).map D.int := rfl
@[simp] theorem ixD_str : ixD (.str s) (.int x) = if s.length ≤ 1000000 then (atI s.cps.toList x).map fun c => .str ⟨#[c]⟩ else none := rfl
@[simp] theorem slD'_tup (lo hi : Option Int) : slD' (.tup ds) lo hi = some (.tup (cutD ds lo hi)) := rfl
@[simp] theorem slD'_str (lo hi : Option Int) : slD' (.str s) lo hi = if s.length ≤ 1000000 then some (.str (cutS s lo hi)) else none := rfl
@[simp] theorem lenD_tup : lenD [.tup ds] = some (.int ds.length) := rfl
@[simp] theorem lenD_lst : lenD [.lst ds] = some (.int ds.length) := rfl
@[simp] theorem lenD_scr (ns : List Int) : lenD [.scr ns] = some (.int ns.length) := rfl
@[simp] theorem lenD_str : lenD [.str s] = if s.length ≤ 1000000 then some (.int s.length) else none := rfl
@[simp] theorem maxD_int : maxD [.int x, .int y] = some (.int (if y > x then y else x)) := rfl
@[simp] theorem allD_bls (bs : List Bool) : allD [.lst (bs.map .bl)] = some (.bl (bs.all id)) := by simp [allD]
@[simp] theorem intD_int : intD [.int x] = some (.int x) := rfl
@[simp] theorem intD_bl (k : Bool) : intD [.bl k] = some (.int (if k then 1 else 0)) := rfl
@[simp] theorem intD_str : intD [.str s] = if s.length ≤ 640 then (PySem.intText? s).map D.int else none := rfl
@[simp] theorem strD_int : strD [.int x] = if x.natAbs.log2 < 1920 then some (.str (toString x)) else none := rfl
@[simp] theorem tupD_tup : tupD [.tup ds] = some (.tup ds) := rfl
@[simp] theorem tupD_lst : tupD [.lst ds] = some (.tup ds) := rfl
def isIn (l : List String) (s : String) : Bool := l.any fun t => t == s
@[simp] theorem isi_int : isiD "int" d = some (.bl (match d with | .int _ => true | .bl _ => true | _ => false)) := by cases d <;> rfl
@[simp] theorem isi_bool : isiD "bool" d = some (.bl (match d with | .bl _ => true | _ => false)) := by cases d <;> rfl
@[simp] theorem isi_tuple : isiD "tuple" d = some (.bl (match d with | .tup _ => true | .ftp _ => true | _ => false)) := by cases d <;> rfl
@[simp] theorem isi_str : isiD "str" d = some (.bl (match d with | .str _ => true | _ => false)) := by cases d <;> rfl
@[simp] theorem lf_ftp (ds : List D) : lf (.ftp ds) = lfA ds := by simp only [lf]
@[simp] theorem lf_int : lf (.int x) = true := rfl
@[simp] theorem lf_bl (b : Bool) : lf (.bl b) = true := rfl
@[simp] theorem lf_str : lf (.str s) = true := rfl
@[simp] theorem lf_tI (xs : List Int) : lf (.tup (xs.map .int)) = true := by simp [lf]
@[simp] theorem lf_tup : lf (.tup ds) = lfA ds := by simp [lf]
@[simp] theorem lf_lst : lf (.lst ds) = false := by simp [lf]
@[simp] theorem lf_non : lf .non = true := by simp [lf]
@[simp] theorem lfA_nil : lfA [] = true := rfl
@[simp] theorem lfA_cons : lfA (d :: ds) = (lf d && lfA ds) := by simp [lfA]
@[simp] theorem lfA_app : lfA (ds ++ es) = (lfA ds && lfA es) := by
  induction ds with
  | nil => rfl
  | cons a r ih => simp [ih, Bool.and_assoc]
def asB : D → Option Bool
  | .bl b => some b
  | _ => none
@[simp] theorem asB_bl (b : Bool) : asB (.bl b) = some b := rfl
@[simp] theorem gCh_ap (h h' : D → D → Option D) : gCh h h' ga gb gc ρ = (ga ρ).bind fun x => (gb ρ).bind fun y => ((h x y).bind asB).bind fun z => if z = true then (gc ρ).bind fun u => (h' y u).bind asB else some false := by
  unfold gCh
  cases ga ρ with
  | none => rfl
  | some x =>
  cases gb ρ with
  | none => rfl
  | some y =>
  simp only [Option.bind_some]
  cases h x y with
  | none => rfl
  | some z =>
  simp only [Option.bind_some]
  cases z <;> try rfl
  rename_i b
  cases b with
  | false => rfl
  | true =>
    simp only [asB_bl, Option.bind_some, if_true]
    cases gc ρ with
    | none => rfl
    | some u =>
      simp only [Option.bind_some]
      cases h' y u with
      | none => rfl
      | some z => simp only [Option.bind_some]; cases z <;> rfl
@[simp] theorem gT_ap : gT ga ρ = (ga ρ).bind asB := by unfold gT; rfl
@[simp] theorem ite_bind' {α β : Type} {c : Prop} [Decidable c] (v : α) (f : α → Option β) : (if c then some v else none).bind f = if c then f v else none := by
  split <;> rfl
@[simp] theorem ite_map' {α β : Type} {c : Prop} [Decidable c] (v : α) (f : α → β) : (if c then some v else none).map f = if c then some (f v) else none := by
  split <;> rfl
/-- constants of the module -/
theorem se_globI {x : Str} {pos : Pos} {n : Int} (hg : T.sc.names.lookup x = some .globalImplicit) (hm : ∃ t, T.mg x = some (.int n t)) (hdb : (x == ("__debug__" : Str)) = false := by decide) : SE T (.Name x pos) (gC (.int n)) := by
  obtain ⟨t, hm⟩ := hm
  exact se_glob (v := .int n) hg hm ⟨t, rfl⟩ (fun _ => .int _) hdb
theorem se_globS {x : Str} {pos : Pos} {n : Str} (hg : T.sc.names.lookup x = some .globalImplicit) (hm : ∃ t, T.mg x = some (.str n t)) (hdb : (x == ("__debug__" : Str)) = false := by decide) : SE T (.Name x pos) (gC (.str n)) := by
  obtain ⟨t, hm⟩ := hm
  exact se_glob (v := .str n) hg hm ⟨t, rfl⟩ (fun _ => .str _) hdb
end
section
variable {P : Program} {w : World} {K : PySem.W.Frag} {mg : Str → Option Value} {base : Heap}
/-- a def of which nothing is claimed (where a call is never reached) -/
theorem fn_none {x : Str} {st : Stmt} {ps : List Str} (h : Hd K mg x st ps) (k : Nat) : FnT P w K mg base k x (fun _ => none) := by
  obtain ⟨f, fd, F, hm, b⟩ := h
  exact ⟨f, fd, ps, ⟨fun vs H Q E h => (by obtain ⟨_, _, _, z, _⟩ := h; cases z), fun A outer s H args us vs Q E _ _ _ _ h => (by obtain ⟨_, _, _, z, _⟩ := h; cases z)⟩, hm, F.kp, b⟩
end
end Pf

set_option Elab.async false
set_option linter.all false
set_option maxRecDepth 100000
set_option maxHeartbeats 2000000
/-! Pf10: the end. -/
namespace Pf
open PySem PySem.Spec L2
theorem hd_mk {K : PySem.W.Frag} {h : Heap} {mg : Str → Option Value} (X : K.In h) (G : h.Ns mainGlobals mg) {x : Str} {st : Stmt} {ps : List Str} {f : Addr} {oc : Value} {od an : Option Addr} {osl : Array (Option Value)} {kV doc pm cdv ct : Value}
    (a : PySem.W.nsIn K mainGlobals x = some (some (.ref f))) (l : K.lookup f = some ⟨oc, od, .func (PySem.W.fnOf x x (defArgs st) (defBody st) (defScope st) .none kV doc pm an cdv ct), osl⟩) (c : PySem.W.codeIn K cdv x = true) (k : PySem.W.keepIn K (.ref f) = true)
    (b : ∀ (kV doc pm : Value) (an : Option Addr) (cdv ct : Value) (us : List Value), us.length = ps.length → bindArgs (PySem.W.fnOf x x (defArgs st) (defBody st) (defScope st) .none kV doc pm an cdv ct) ⟨us, []⟩ = pure (ps.zip us)) : Hd K mg x st ps :=
  ⟨f, _, fun_mk l c k, PySem.W.mg_of X G a, (fun_mk l c k).binds b⟩
abbrev HdG {K : PySem.W.Frag} {h : Heap} (_ : K.In h) (mg : Str → Option Value) (x : Str) (st : Stmt) (ps : List Str) : Prop := Hd K mg x st ps
theorem mgI_of {K : PySem.W.Frag} {h : Heap} {mg : Str → Option Value} (X : K.In h) (G : h.Ns mainGlobals mg) {x : Str} {n : Int} {t : Tok} (a : PySem.W.nsIn K mainGlobals x = some (some (.int n t))) : ∃ t, mg x = some (.int n t) := ⟨t, PySem.W.mg_of X G a⟩
theorem mgS_of {K : PySem.W.Frag} {h : Heap} {mg : Str → Option Value} (X : K.In h) (G : h.Ns mainGlobals mg) {x : Str} {n : Str} {t : Tok} (a : PySem.W.nsIn K mainGlobals x = some (some (.str n t))) : ∃ t, mg x = some (.str n t) := ⟨t, PySem.W.mg_of X G a⟩
/-- the law's end -/
theorem law_end {l : PySem.W.OpenLaw} {k : Nat} {q : Program} {loose : List Str} {XP : (Str → Option Value) → Heap → Prop} {YP : World → Heap → Prop} {d : DefRec} {K : Params → PySem.W.Frag} {x : Str} (hn : l.most = some 63) (hdf : d.params.defaults = []) (hr : Room k callerA) (hY : ∀ (w : World) (h : Heap), YP w h → (K w.params).In h)
    (f : List D → Option D) (hf : ∀ ns : List Int, ns.length ≤ 63 → f [.scr ns] = some (.bl true))
    (F : ∀ (w : World) (mg : Str → Option Value) (fa : Addr) (h : Heap), (K w.params).In h → h.Ns mainGlobals mg → mg d.name = some (.ref fa) →
      ∃ fd : FuncData, (∀ (s : Shared) (u : Value), BindsTo s fd ⟨[u], []⟩ [(x, u)]) ∧ ∀ base : Heap, (K w.params).In base → base.Ns mainGlobals mg → FnOk l.prog w (K w.params) mg base CX0 k fa fd [x] (spD (K w.params) f)) :
    PySem.W.WalkO q loose XP YP l.row.toRowW d [] (fun f vs => PySem.call f vs) := by
  refine L2.walk_of (l := l) (n := 63) (k := k) (x := x) (CX := fun _ => L2.CX0) (sp := fun w => spD (K w.params) f) hn (by decide) hdf hr hY F (fun w H a ns h1 _ h3 => ?_) (fun _ _ _ _ _ h => h)
  refine ⟨[.scr ns], .bl true, .cons (.scr h3) .nil, hf ns h1, fun v H' _ hv => ?_⟩
  cases hv
  rfl
/-- .. from the law's own def -/
theorem law_fn {P : Program} {w : World} {K : PySem.W.Frag} {mg : Str → Option Value} {k : Nat} {x : Str} {st : Stmt} {y : Str} {f : List D → Option D} {fa : Addr} (h : Hd K mg x st [y]) (hmg : mg x = some (.ref fa)) (hdf : ∀ (kV doc pm : Value) (an : Option Addr) (cdv ct : Value) (s : Shared) (v : Value), BindsTo s (PySem.W.fnOf x x (defArgs st) (defBody st) (defScope st) .none kV doc pm an cdv ct) ⟨[v], []⟩ [(y, v)])
    (F : ∀ (base : Heap) (fd : FuncData), Fun K x x st fa fd → FnOk P w K mg base CX0 k fa fd [y] (spD K f)) : ∃ fd : FuncData, (∀ (s : Shared) (u : Value), BindsTo s fd ⟨[u], []⟩ [(y, u)]) ∧ ∀ base : Heap, K.In base → base.Ns mainGlobals mg → FnOk P w K mg base CX0 k fa fd [y] (spD K f) := by
  obtain ⟨g, fd, F1, hm, b⟩ := h
  have e := hm.symm.trans hmg
  cases e
  refine ⟨fd, fun s v => ?_, fun base _ _ => F base fd F1⟩
  obtain ⟨oc, od, kV, doc, pm, an, cdv, ct, osl, rfl, _, _⟩ := F1.ex
  exact hdf _ _ _ _ _ _ s v
end Pf

set_option Elab.async false
set_option linter.all false
set_option maxRecDepth 100000
set_option maxHeartbeats 4000000
/-! Pf11: more rules. -/
namespace Pf
open PySem PySem.Spec L2
open AutoSeq1 (wpAny_loadPart')
section
variable {T : Ct} {a b c tg iter : Expr} {ga gb gc : En → Option D} {pos : Pos}
/-! ### [x for x in a tuple if test]: the items themselves -/
def lvG (i : Nat) (gt : En → Option Bool) (ρ : En) : List D → Option (List D)
  | [] => some []
  | d :: r => (gt (ρ.set i (.im d))).bind fun b => if b = true then (lvG i gt ρ r).map fun xs => d :: xs else lvG i gt ρ r
def gLv (g : En → Option (List D)) (i : Nat) (gt : En → Option Bool) : En → Option (List D) := fun ρ => (g ρ).bind fun ds => if ds.length ≤ 1000000 ∧ i < ρ.length then lvG i gt (ρ.set i .un) ds else none
theorem lc_item {scope : Scope} {x : Str} {ifs : List Expr} {i : Nat} {gt : En → Option Bool} (ht : SPt (T.blk scope) ifs gt) (hN : T.N[i]? = some x) (hx : locB (T.blk scope) x = true)
    (hmd : T.md = none) {X : Cx} (G : Good T X) {σ : L2.St} {H : Hp} {ρ : En} {res ds : List D} (env : Env T.K H σ ρ) (hd : lvG i gt (ρ.set i .un) ds = some res) (hz : ds.length ≤ 1000000) (hir : i < ρ.length) {ad : Addr} {xs : List V} (h1 : SqT T.K H ad xs) (h2 : DqA T.K H xs ds) {Q : VK} (q : ∀ p xs H', H p = none → Same H H' → H' p = some (.lst xs) → DqA T.K H' xs res → Q (.ref p) H') :
    ∀ L, H L = none → ∃ W : Nat → Nat → Hp → Prop, (∃ m, W 0 m (upd H L (.lst []))) ∧ ∀ j m Hj, W j m Hj →
      ((Itt T.K ad).stop j Hj ∧ Q (.ref L) Hj) ∨ ((Itt T.K ad).go j Hj ∧ ∃ Nx : Hp → Prop, (∀ H', Nx H' → ∃ m', m' < m ∧ W (j + 1) m' H') ∧ ∀ y H', (Itt T.K ad).yld j Hj y H' → gName i y (wipe σ [i]) H' fun σ2 H2 => wipe σ2 [i] = wipe σ [i] ∧ bT X scope ifs σ2 H2 fun b H3 =>
        if b = true then tVar i σ2 H3 fun y H4 => ∃ acc, H4 L = some (.lst acc) ∧ acc.length < sizeLine ∧ Nx (upd H4 L (.lst (acc ++ [y]))) else Nx H3) := by
  intro L hL
  let Pv : Nat → Hp → Prop := fun j H2 => (∀ a o, H a = some o → H2 a = some o) ∧ ∃ acc accD rest, H2 L = some (.lst acc) ∧ acc.length ≤ j ∧ DqA T.K H acc accD ∧ lvG i gt (ρ.set i .un) (ds.drop j) = some rest ∧ res = accD ++ rest
  refine lc_tup (K := T.K) (a := ad) (xs := xs) Pv ?_ (fun j H2 _ p => Same.seqT p.1 h1) (fun j x Hj hx p => ?_) fun H2 p => ?_
  · refine ⟨fun a o h => ?_, [], [], res, upd_same, Nat.le_refl _, .nil, hd, rfl⟩
    rw [upd_ne (ne_of_none h hL)]
    exact h
  · obtain ⟨k1, acc, accD, rest, hacc, hle, hdq, hrest, eres⟩ := p
    obtain ⟨d, hdj, hxd⟩ := h2.getV hx
    have hj := List.getElem?_eq_some_iff.mp hdj
    have edrop : ds.drop j = d :: ds.drop (j + 1) := by
      rw [← hj.2]
      exact List.drop_eq_getElem_cons hj.1
    rw [edrop] at hrest
    unfold lvG at hrest
    cases et : gt ((ρ.set i .un).set i (.im d)) with
    | none => rw [et] at hrest; cases hrest
    | some bt =>
    rw [et] at hrest
    simp only [Option.bind_some] at hrest
    have envb : Env T.K Hj (wipe σ [i]) (ρ.set i .un) := (env.mono k1).un i none
    have hi : i < σ.length := by rw [env.len]; exact hir
    refine ⟨by show wipe ((wipe σ [i]).set i (some x)) [i] = wipe σ [i]; rw [wipe_set (by simp), wipe_idem _ _ fun _ h => h], ?_⟩
    intro s0 H0 C0 cl0 fp0
    refine ht _ (good_blk G hmd) _ Hj _ bt (envb.set i (hxd.mono k1)) et _ fun Hc sbc => ?_
    cases bt with
    | false =>
      rw [if_neg Bool.false_ne_true]
      exact ⟨fun a o h => sbc _ _ (k1 a o h), acc, accD, rest, sbc _ _ hacc, by omega, hdq, hrest, eres⟩
    | true =>
      rw [if_pos rfl]
      have hrest : (lvG i gt (ρ.set i .un) (ds.drop (j + 1))).map (fun xs => d :: xs) = some rest := hrest
      cases er : lvG i gt (ρ.set i .un) (ds.drop (j + 1)) with
      | none => rw [er] at hrest; cases hrest
      | some rest' =>
      rw [er] at hrest
      have hrest := Option.some.inj hrest
      refine ⟨x, by rw [List.getElem?_set_self (by rw [wipe_length]; exact hi)], acc, sbc _ _ hacc, ?_, fun a o h => ?_, acc ++ [x], accD ++ [d], rest', upd_same, by rw [List.length_append]; exact Nat.succ_le_succ hle, hdq.append (.cons hxd .nil), er, ?_⟩
      · exact Nat.lt_of_le_of_lt hle (Nat.lt_of_lt_of_le hj.1 (sz hz))
      · rw [upd_ne (ne_of_none h hL)]
        exact sbc _ _ (k1 a o h)
      · rw [eres, ← hrest]
        simp
  · obtain ⟨k1, acc, accD, rest, hacc, hle, hdq, hrest, eres⟩ := p
    have e0 : ds.drop xs.length = [] := by rw [h2.length]; exact List.drop_length
    rw [e0] at hrest
    have hrest : some ([] : List D) = some rest := hrest
    cases hrest
    rw [List.append_nil] at eres
    subst eres
    exact q L acc H2 hL k1 hacc (hdq.mono k1)
theorem sl_lcv {scope : Scope} {x : Str} {ifs : List Expr} {gt : En → Option Bool} {px px2 : Pos} (i : Nat) (he : SE T a ga) (ok : blkC T.N T.sc scope [(x, i)] = true) (hN : T.N[i]? = some x) (hx : locB (T.blk scope) x = true) (ht : SPt (T.blk scope) ifs gt) (hv : visB (relS scope T.sc) x = true)
    (hs : ∀ env y, foldedSetIterable a env y = pure y := by intro _ _; rfl) (hdb : (x == ("__debug__" : Str)) = false := by decide) (hcd : (x == ("__classdict__" : Str)) = false := by decide) (hmd : T.md = none := by rfl) :
    SL T (.ListComp (.Name x px) [⟨.Name x px2, a, ifs, 0⟩] scope pos) (gLv (gTu ga) i gt) := by
  intro X G σ H ρ res env hd Q q
  unfold gLv at hd
  cases e1 : gTu ga ρ with
  | none => rw [e1] at hd; cases hd
  | some ds =>
  rw [e1] at hd
  have hd : (if ds.length ≤ 1000000 ∧ i < ρ.length then lvG i gt (ρ.set i .un) ds else none) = some res := hd
  split at hd
  · rename_i hz
    have gg : ∀ (s : Shared) (H : Hp) (C : Addr) (cl : List (Str × Addr)) (fp : List Addr), PG (X.blk s H scope (compEnvC scope cl C X.env) fp) (.Name x px2) (gName i) := fun s H C cl fp => by
      obtain ⟨l1, l2⟩ := loc_of (good_blk (s := s) (H := H) (C := C) (cl := cl) (fp := fp) G hmd) hx
      exact pg_name (by rw [show (X.blk s H scope (compEnvC scope cl C X.env) fp).N = T.N from G.hN]; exact G.nd) (by rw [show (X.blk s H scope (compEnvC scope cl C X.env) fp).N = T.N from G.hN]; exact hN) l1 l2
    have ge : ∀ (s : Shared) (H : Hp) (C : Addr) (cl : List (Str × Addr)) (fp : List Addr), PE (X.blk s H scope (compEnvC scope cl C X.env) fp) (.Name x px) (tVar i) := fun s H C cl fp =>
      pe_var (by rw [show (X.blk s H scope (compEnvC scope cl C X.env) fp).N = T.N from G.hN]; exact hN) (by rw [show (X.blk s H scope (compEnvC scope cl C X.env) fp).env.scope = relS scope T.sc by show relS scope X.env.scope = _; rw [G.hs]]; exact vis_of hv) hdb hcd
    refine ⟨_, pe_lc (own := [(x, i)]) (G.calm hmd) (by rw [G.hN]; exact G.nd) (pi_tup pe_w) (blkOk_by (by rw [G.hN, G.hs]; exact ok)) gg bT_pt ge (hs X.env), ?_⟩
    obtain ⟨dd, hd1, hd2⟩ := gTu_dq e1
    refine he X G σ H ρ _ env hd1 _ fun v H1 s1 d1 => ?_
    obtain ⟨ad, xs, rfl, ⟨h1, _, _⟩, h2⟩ := hd2 _ _ _ d1
    · refine ⟨ad, rfl, ⟨xs, by rw [G.hK]; exact h1⟩, ?_⟩
      rw [G.hK]
      exact lc_item ht hN hx hmd G (env.mono s1) hd hz.1 hz.2 h1 h2 fun p xs H' n s e d => q p xs H' (s1.free n) (s1.trans s) e d
  · cases hd
theorem lvG_fm {i : Nat} {gt : En → Option Bool} {ρ : En} (p : D → Bool) : ∀ {ds : List D}, (∀ d ∈ ds, gt (ρ.set i (.im d)) = some (p d)) → lvG i gt ρ ds = some (ds.filter p)
  | [], _ => rfl
  | d :: ds, h => by
    unfold lvG
    rw [h d (by simp), lvG_fm p (ds := ds) fun e he => h e (by simp [he])]
    cases hp : p d <;> simp [hp]
theorem lcG_fm {set : D → En → Option En} {gt : En → Option Bool} {ge : En → Option D} {ρ : En} (p : D → Bool) (f : D → D) : ∀ {ds : List D}, (∀ d ∈ ds, ∃ ρ', set d ρ = some ρ' ∧ gt ρ' = some (p d) ∧ (p d = true → ge ρ' = some (f d) ∧ lf (f d) = true)) → lcG set gt ge ρ ds = some ((ds.filter p).map f)
  | [], _ => rfl
  | d :: ds, h => by
    obtain ⟨ρ', h1, h2, h3⟩ := h d (by simp)
    unfold lcG
    rw [h1, lcG_fm p f (ds := ds) fun e he => h e (by simp [he])]
    simp only [Option.bind_some, h2]
    cases hp : p d
    · simp [hp]
    · obtain ⟨h4, h5⟩ := h3 hp
      simp [h4, h5, hp]
theorem lcG_m {set : D → En → Option En} {ge : En → Option D} {ρ : En} (f : D → D) {ds : List D} (h : ∀ d ∈ ds, ∃ ρ', set d ρ = some ρ' ∧ ge ρ' = some (f d) ∧ lf (f d) = true) : lcG set gYes ge ρ ds = some (ds.map f) := by
  have := lcG_fm (set := set) (gt := gYes) (ge := ge) (ρ := ρ) (fun _ => true) f (ds := ds) fun d hd => by
    obtain ⟨ρ', h1, h2, h3⟩ := h d hd
    exact ⟨ρ', h1, rfl, fun _ => ⟨h2, h3⟩⟩
  rw [this, List.filter_eq_self.mpr fun _ _ => rfl]
@[simp] theorem gLv_ap (g : En → Option (List D)) (i : Nat) (gt : En → Option Bool) (ρ : En) : gLv g i gt ρ = (g ρ).bind fun ds => if ds.length ≤ 1000000 ∧ i < ρ.length then lvG i gt (ρ.set i .un) ds else none := rfl
/-! ### tuple * int -/
theorem tup_mul_one (l : Addr) (items : Array Value) (n : Nat) (dd : Option Addr) (sl : Array (Option Value)) (x : Int) (u : Tok) (c0 : (decide (x < -(2 ^ 63)) || decide (x ≥ 2 ^ 63)) = false) (c1 : (items.isEmpty || x == 1) = true) :
    Meets (Builtin.«tuple.__mul__» ⟨[.ref l, .int x u], []⟩) (fun _ R s => s.heap.get? l = some { cls := .type "tuple", dict := dd, data := .seq items n, slots := sl } ∧ R (.ok (.ret (Value.ref l))) s) :=
  .of_wp fun prog w A R s h => by
    obtain ⟨hp, g, d, tk, os⟩ := s
    obtain ⟨hl, h⟩ := h
    have f1 := AutoSeq1.idx_int
    wp_walk using wpAny_loadPart' hl
    repeat (first
      | (refine wpAny_ite_false (decide_eq_false (by rw [c0]; exact Bool.false_ne_true)) ?_; wp_walk using wpAny_loadPart' hl)
      | (refine wpAny_ite_true (decide_eq_true c1) ?_; wp_walk using wpAny_loadPart' hl))
    exact ⟨_, rfl, h⟩
theorem tup_mul_nil (l : Addr) (items : Array Value) (n : Nat) (dd : Option Addr) (sl : Array (Option Value)) (x : Int) (u : Tok) (c0 : (decide (x < -(2 ^ 63)) || decide (x ≥ 2 ^ 63)) = false) (c1 : (items.isEmpty || x == 1) = false) (c2 : (decide (x ≤ 0) || items.isEmpty) = true) :
    Meets (Builtin.«tuple.__mul__» ⟨[.ref l, .int x u], []⟩) (fun _ R s => s.heap.get? l = some { cls := .type "tuple", dict := dd, data := .seq items n, slots := sl } ∧ R (.ok (.ret (Value.ref s.heap.objs.size))) { s with heap := s.heap.push { cls := Value.type "tuple", data := Data.seq #[] }, toks := s.toks }) :=
  .of_wp fun prog w A R s h => by
    obtain ⟨hp, g, d, tk, os⟩ := s
    obtain ⟨hl, h⟩ := h
    have f1 := AutoSeq1.idx_int
    wp_walk using wpAny_loadPart' hl
    repeat (first
      | (refine wpAny_ite_false (decide_eq_false (by rw [c0]; exact Bool.false_ne_true)) ?_; wp_walk using wpAny_loadPart' hl)
      | (refine wpAny_ite_false (decide_eq_false (by rw [c1]; exact Bool.false_ne_true)) ?_; wp_walk using wpAny_loadPart' hl)
      | (refine wpAny_ite_true (decide_eq_true c2) ?_; wp_walk using wpAny_loadPart' hl)
      | (refine wpAny_ite_false (decide_eq_false (Nat.not_lt.mpr (Nat.zero_le _))) ?_; wp_walk using wpAny_loadPart' hl))
    exact ⟨_, rfl, h⟩
end
end Pf

set_option Elab.async false
set_option linter.all false
set_option maxRecDepth 100000
set_option maxHeartbeats 4000000
/-! Pf12: tuple * int, tuple[::-1]. -/
namespace Pf
open PySem PySem.Spec PyProof.Rows L2 HT
section
variable {X : Cx}
/-- a tuple times an int, by what tuple.__mul__ gives -/
theorem mulT_by {R : Value → Shared → Prop} {E : Value → Shared → Prop} {s : Shared} {l : Addr} {items : Array Value} {n : Nat} {dd : Option Addr} {sl : Array (Option Value)} {k : Int} {t : Tok}
    (ho : s.heap.get? l = some { cls := .type "tuple", dict := dd, data := .seq items n, slots := sl }) {Sp : Value → Shared → Shared → Prop}
    (M : Meets (Builtin.«tuple.__mul__» ⟨[.ref l, .int k t], []⟩) (fun _ R s => s.heap.get? l = some { cls := .type "tuple", dict := dd, data := .seq items n, slots := sl } ∧ ∃ v s', Sp v s s' ∧ R (.ok (.ret v)) s'))
    (q : ∃ v s', Sp v s s' ∧ R v s') : wpAny (model X.prog X.w) X.A (binaryOp .Mult (.ref l) (.int k t)) R E s := by
  obtain ⟨v, s', h1, h2⟩ := q
  exact wpAny_binaryOp_repeat_ref (T := "tuple") (U := "int") (by decide) ⟨_, ho, rfl⟩ (fun s' => typeIs_int s' k t) noFill_tuple_mul F.fills_int_mul F.slot_int_rmul repeat_tuple F.slot_int_index.lookup
    (call_meets F.slot_int_rmul (typeIs_int s k t) F.entry_int_rmul (F.args_int_rmul_2 _ _) (int_rmul_tuple k t l items n dd sl) ⟨ho, rfl, ⟨_, ho, rfl⟩, call_meets F.slot_tuple_mul ⟨_, ho, rfl⟩ F.entry_tuple_mul (F.args_tuple_mul_2 _ _) M ⟨ho, v, s', h1, h2⟩⟩)
theorem op_repSame : OpR X (binaryOp .Mult) (fun x y H Q => ∃ l k xs, x = .ref l ∧ y = .int k ∧ SqT X.K H l xs ∧ (xs = [] ∨ k = 1) ∧ -1000 ≤ k ∧ k ≤ 1000 ∧ Q (.ref l) H) := by
  intro pins s σ H x y v u Q I rx ry h
  obtain ⟨l, k, xs, rfl, rfl, hT, h1, hk0, hk1, q⟩ := h
  cases rx
  obtain ⟨t, rfl⟩ := ry
  obtain ⟨its, r, ⟨⟨cls, dd, data, sl⟩, ho, hc, n, hd⟩, hs⟩ := I.tuple hT
  simp only at hc hd
  subst hc hd
  have c0 : (decide (k < -(2 ^ 63)) || decide (k ≥ 2 ^ 63)) = false := by rw [decide_eq_false (by omega), decide_eq_false (by omega)] <;> rfl
  have c1 : (its.toArray.isEmpty || k == 1) = true := by
    rcases h1 with h1 | h1
    · subst h1; cases r; rfl
    · subst h1; rw [Bool.or_eq_true]; exact .inr rfl
  refine mulT_by (Sp := fun v s s' => v = .ref l ∧ s' = s) ho (Meets.of_imp (tup_mul_one l its.toArray n dd sl k t c0 c1) fun A R s' h => ?_) ⟨_, _, ⟨rfl, rfl⟩, .ref l, H, I, rfl, q⟩
  obtain ⟨e, v, s2, ⟨e1, e2⟩, q2⟩ := h
  subst e1 e2
  exact ⟨e, q2⟩
theorem op_repNil : OpR X (binaryOp .Mult) (fun x y H Q => ∃ l k xs, x = .ref l ∧ y = .int k ∧ SqT X.K H l xs ∧ xs ≠ [] ∧ k ≤ 0 ∧ -1000 ≤ k ∧ ∀ p, H p = none → Q (.ref p) (upd H p (.tup []))) := by
  intro pins s σ H x y v u Q I rx ry h
  obtain ⟨l, k, xs, rfl, rfl, hT, h1, hk0, hk1, q⟩ := h
  cases rx
  obtain ⟨t, rfl⟩ := ry
  obtain ⟨its, r, ⟨⟨cls, dd, data, sl⟩, ho, hc, n, hd⟩, hs⟩ := I.tuple hT
  simp only at hc hd
  subst hc hd
  have c0 : (decide (k < -(2 ^ 63)) || decide (k ≥ 2 ^ 63)) = false := by rw [decide_eq_false (by omega), decide_eq_false (by omega)] <;> rfl
  have hi : its.toArray.isEmpty = false := by
    cases its with
    | nil => cases r; exact absurd rfl h1
    | cons a b => rfl
  have c1 : (its.toArray.isEmpty || k == 1) = false := by
    rw [hi, Bool.false_or]
    exact beq_eq_false_iff_ne.mpr (by omega)
  have c2 : (decide (k ≤ 0) || its.toArray.isEmpty) = true := by rw [Bool.or_eq_true]; exact .inl (decide_eq_true hk0)
  have fin : L2.Inv X pins σ (upd H s.heap.objs.size (.tup [])) { s with heap := s.heap.push { cls := .type "tuple", data := .seq #[] } } :=
    I.laid (t' := s.toks) (o := .tup []) (fun b ob q => Heap.get?_push_of_some _ q) (Nat.le_refl _) ⟨Nat.zero_le _, [], .nil, PyProof.Rows.IsTup.new _ _⟩
  refine mulT_by (Sp := fun v s s' => v = .ref s.heap.objs.size ∧ s' = { s with heap := s.heap.push { cls := .type "tuple", data := .seq #[] } }) ho (Meets.of_imp (tup_mul_nil l its.toArray n dd sl k t c0 c1 c2) fun A R s' h => ?_) ⟨_, _, ⟨rfl, rfl⟩, .ref s.heap.objs.size, _, fin, rfl, q _ (I.hok.fresh (Nat.le_refl _))⟩
  obtain ⟨e, v, s2, ⟨e1, e2⟩, q2⟩ := h
  subst e1 e2
  exact ⟨e, q2⟩
/-! ### t[::-1] -/
theorem fm_map {α β : Type} {f : α → Option β} {g : α → β} : ∀ {l : List α}, (∀ x ∈ l, f x = some (g x)) → l.filterMap f = l.map g
  | [], _ => rfl
  | x :: l, h => by
    rw [List.filterMap_cons, h x (by simp), fm_map (l := l) fun y hy => h y (by simp [hy])]
    rfl
theorem rev_pick (xs : List Value) : ((List.range xs.length).filterMap fun (k : Nat) => xs.toArray[(((xs.length : Int) - 1) + (k : Int) * (-1)).toNat]?) = xs.reverse := by
  apply List.ext_getElem?
  intro i
  have e : (List.range xs.length).filterMap (fun (k : Nat) => xs.toArray[(((xs.length : Int) - 1) + (k : Int) * (-1)).toNat]?) = (List.range xs.length).map fun (k : Nat) => xs.reverse.getD k .none := by
    apply fm_map
    intro k hk
    have hk := List.mem_range.mp hk
    have e1 : (((xs.length : Int) - 1) + (k : Int) * (-1)).toNat = xs.length - 1 - k := by omega
    rw [e1]
    simp only [List.getElem?_toArray]
    rw [List.getD_eq_getElem?_getD, List.getElem?_reverse hk]
    have h2 : xs.length - 1 - k < xs.length := by omega
    rw [List.getElem?_eq_getElem h2]
    rfl
  rw [e, List.getElem?_map]
  by_cases hi : i < xs.length
  · rw [List.getElem?_range hi]
    have h2 : i < xs.reverse.length := by simpa using hi
    simp [List.getElem?_eq_getElem h2]
  · rw [List.getElem?_eq_none (by simpa using hi), List.getElem?_eq_none (by simpa using hi)]
    rfl
theorem sliceRev {prog : Program} {w : World} {A : Around} {E : Value → Shared → Prop} {s : Shared} {sl : Addr} {c : Value} {n : Nat} {Q : Int × Int × Nat → Shared → Prop} (hs : s.heap.IsSliceOf sl .none .none c) (pc : IsPart c (some (-1)))
    (h : Q ((n : Int) - 1, -1, n) s) : wpAny (model prog w) A (Builtin.Slice.sliceApplied (.ref sl) (pure (n : Int))) Q E s := by
  obtain ⟨os, hos, hcs, hds⟩ := id hs
  unfold Builtin.Slice.sliceApplied Builtin.Slice.sliceFields
  refine wpAny_bind (wpAny_bind (wpAny_field hos hds (x := .none) rfl (wpAny_bind (wpAny_field hos hds (x := .none) rfl (wpAny_bind (wpAny_field hos hds (x := c) rfl (wpAny_pure ?_)))))))
  refine wpAny_bind (slicePart_ pc ?_)
  show wpAny _ _ (if ((-1 : Int) == 0) = true then _ else _) _ _ s
  rw [if_neg (by decide)]
  refine wpAny_bind (slicePart_none (wpAny_bind (slicePart_none (wpAny_bind (wpAny_pure ?_)))))
  have e1 : Builtin.Slice.sliceAdjust none none (-1) (n : Int) = ((n : Int) - 1, -1) := rfl
  have e2 : Builtin.Slice.slicePlaces ((n : Int) - 1) (-1) (-1) = n := by
    unfold Builtin.Slice.slicePlaces
    rw [if_neg (by decide)]
    split
    · show (((n : Int) - 1 - -1 - 1) / 1 + 1).toNat = n
      rw [Int.ediv_one]; omega
    · show (0 : Int).toNat = n
      have : n = 0 := by omega
      subst this; rfl
  show wpAny _ _ (match Builtin.Slice.sliceAdjust none none (-1) (n : Int) with | (lo, hi) => pure (lo, (-1 : Int), Builtin.Slice.slicePlaces lo hi (-1))) _ _ s
  rw [e1]
  show wpAny _ _ (pure ((n : Int) - 1, (-1 : Int), Builtin.Slice.slicePlaces ((n : Int) - 1) (-1) (-1))) _ _ s
  rw [e2]
  exact wpAny_pure h
theorem getRev {prog : Program} {w : World} {A : Around} {E : Value → Shared → Prop} {s : Shared} {t sl : Addr} {its : List Value} {c : Value} {Q : Value → Shared → Prop} (ht : PyProof.Rows.IsTup s.heap t its.toArray) (hs : s.heap.IsSliceOf sl .none .none c) (pc : IsPart c (some (-1)))
    (h : Q (.ref s.heap.objs.size) { s with heap := s.heap.push { cls := .type "tuple", data := .seq its.reverse.toArray } }) (hsz : its.length ≤ sizeLine) : wpAny (model prog w) A (getItem (.ref t) (.ref sl)) Q E s := by
  have fits : sizeOk (.seq its.reverse.toArray) := by
    show its.reverse.toArray.size ≤ sizeLine
    rw [List.size_toArray, List.length_reverse]
    exact hsz
  obtain ⟨os, hos, hcs, hds⟩ := id hs
  have hTs : s.TypeIs (.ref sl) "slice" := ⟨os, hos, hcs⟩
  unfold getItem
  try with_reducible refine wpAny_holding ?_
  first | refine wpAny_bind (wpAny_pure ?_) | skip
  refine wpAny_bind (wpAny_sequenceKey ht.typeIs (by decide) ?_)
  refine wpAny_bind (wpAny_callSpecial?_slot (name := Str.ofString "__getitem__") ht.typeIs PyProof.Rows.slot_tuple_getitem (wpAny_call_entry PyProof.Rows.slot_tuple_getitem ht.typeIs entry_tuple_getitem ?_ (args_tuple_getitem _ _)))
  show wpAny _ _ (Builtin.Tuple.tupleItemsOf (.ref t) >>= _) _ _ s
  refine wpAny_bind (PyProof.Rows.tupleItemsOf_ ht ?_)
  refine wpAny_bind (wpAny_typeOf hTs ?_)
  rw [if_pos (by decide)]
  refine wpAny_bind (sliceRev (n := its.toArray.size) hs pc ?_)
  have no : ¬ ((((its.toArray.size : Int) - 1) == 0 && (-1 : Int) == 1 && its.toArray.size == its.toArray.size) = true) := by
    intro q
    rw [Bool.and_eq_true, Bool.and_eq_true] at q
    exact absurd q.1.2 (by decide)
  have pick : ((List.range its.toArray.size).filterMap fun (k : Nat) => its.toArray[(((its.toArray.size : Int) - 1) + (k : Int) * (-1)).toNat]?) = its.reverse := by
    rw [List.size_toArray]
    exact rev_pick its
  show wpAny _ _ (if (((its.toArray.size : Int) - 1) == 0 && (-1 : Int) == 1 && its.toArray.size == its.toArray.size) = true then _ else (Builtin.Tuple.tupleExact (((List.range its.toArray.size).filterMap fun (k : Nat) => its.toArray[(((its.toArray.size : Int) - 1) + (k : Int) * (-1)).toNat]?)).toArray >>= _)) _ _ s
  rw [if_neg no, pick]
  exact wpAny_bind (m := Builtin.Tuple.tupleExact _) (wpAny_newObj_type (wpAny_pure ⟨_, rfl, wpAny_pure h⟩) fits)
def tRevT (K : PySem.W.Frag) (te : TE) : TE := fun σ H Q => te σ H fun x H1 => ∃ a xs, x = .ref a ∧ SqT K H1 a xs ∧ ∀ p, H1 p = none → Q (.ref p) (upd H1 p (.tup xs.reverse))
theorem pe_revT {e : Expr} {te : TE} {k : Nat} {p1 p2 p3 pos : Pos} (he : PE X e te) : PE X (.Subscript e (.Slice none none (some (.UnaryOp .USub (.Constant (.int 1) k p1) p2)) p3) pos) (tRevT X.K te) := by
  refine ⟨fun pins s σ H Q I h => Subscript_ (thn (he.run pins s σ H _ I h) fun v s1 ⟨x, H1, I1, r1, q1⟩ => ?_)⟩
  obtain ⟨ad, xs, ex, hx, q⟩ := q1
  subst ex
  cases r1
  refine wpAny_Slice (thn (po_none.run pins s1 σ H1 (fun o H2 => o = none ∧ H2 = H1) I1 ⟨rfl, rfl⟩) fun vl s2 ⟨l, H2, I2, pl, el, e2⟩ => ?_)
  subst el e2
  cases pl
  refine thn (po_none.run pins s2 σ H2 (fun o H3 => o = none ∧ H3 = H2) I2 ⟨rfl, rfl⟩) fun vu s3 ⟨u, H3, I3, pu, eu, e3⟩ => ?_
  subst eu e3
  cases pu
  have step : PO X (some (.UnaryOp .USub (.Constant (.int 1) k p1) p2)) (tPart (tUn (rU fun i => .int (-i)) (tC (.int 1)))) := po_some (pe_un un_neg pe_int)
  refine thn (step.run pins s3 σ H3 (fun o H4 => o = some (-1) ∧ H4 = H3) I3 ⟨1, rfl, -1, rfl, rfl, rfl⟩) fun vs s4 ⟨o, H4, I4, ps, eo, e4⟩ => ?_
  subst eo e4
  have I5 : L2.Inv X pins σ H4 { s4 with heap := s4.heap.push { cls := .type "slice", data := .fields #[.none, .none, vs] } } := I4.kept (t' := s4.toks) fun b ob q => Heap.get?_push_of_some _ q
  obtain ⟨its, r, ht, hz⟩ := I5.tuple hx
  show wpAny (model X.prog X.w) X.A (subscriptTail e (.Slice none none (some (.UnaryOp .USub (.Constant (.int 1) k p1) p2)) p3) (.ref ad) (.ref s4.heap.objs.size)) (EP X pins σ Q) X.xe { s4 with heap := s4.heap.push { cls := .type "slice", data := .fields #[.none, .none, vs] } }
  refine tail_any (ops := [.ref ad, .ref s4.heap.objs.size]) ht.typeIs (slot_tuple_getitem.lookup) ?_ (by with_unfolding_all rfl)
  refine getRev ht (Heap.IsSliceOf.new _ .none .none vs) ps ?_ (by rw [← r.length]; exact hz)
  refine ⟨.ref _, _, I5.laid (t' := s4.toks) (o := .tup xs.reverse) (fun b ob q => Heap.get?_push_of_some _ q) (Nat.le_refl _) ?_, rfl, q _ (I5.hok.fresh (Nat.le_refl _))⟩
  exact ⟨by rw [List.length_reverse]; exact hz, _, r.reverse, IsTup.new _ _⟩
end
section
variable {T : Ct} {a : Expr} {ga : En → Option D} {pos : Pos}
def revD : D → Option D
  | .tup ds => some (.tup ds.reverse)
  | _ => none
@[simp] theorem revD_tup (ds : List D) : revD (.tup ds) = some (.tup ds.reverse) := rfl
theorem se_rev {k : Nat} {p1 p2 p3 : Pos} (ha : SE T a ga) : SE T (.Subscript a (.Slice none none (some (.UnaryOp .USub (.Constant (.int 1) k p1) p2)) p3) pos) (g1 revD ga) := by
  intro X G σ H ρ d env hd Q q
  unfold g1 at hd
  cases e : ga ρ with
  | none => rw [e] at hd; cases hd
  | some x =>
    rw [e] at hd
    cases x <;> try (cases hd; done)
    rename_i ds
    cases hd
    refine ⟨_, pe_revT pe_w, ?_⟩
    refine ha X G σ H ρ _ env e _ fun v H1 s1 d1 => ?_
    cases d1 with
    | @tup ad xs _ h1 h2 =>
      refine ⟨ad, xs, rfl, by rw [G.hK]; exact SqT.of h1, fun p hp => ?_⟩
      have s2 := same_upd (o := .tup xs.reverse) hp
      exact q _ _ (s1.trans s2) (.tup upd_same (h2.reverse.mono s2))
theorem sl_rev {k : Nat} {p1 p2 p3 : Pos} {gl : En → Option (List D)} (ha : SR T a gl) : SL T (.Subscript a (.Slice none none (some (.UnaryOp .USub (.Constant (.int 1) k p1) p2)) p3) pos) (fun ρ => (gl ρ).map List.reverse) := by
  intro X G σ H ρ d env hd Q q
  cases e : gl ρ with
  | none => simp [e] at hd
  | some ds =>
    simp [e] at hd
    subst hd
    refine ⟨_, pe_revL pe_w, ?_⟩
    refine ha X G σ H ρ _ env e _ fun ad xs H1 s1 h1 h2 => ?_
    refine ⟨ad, xs, rfl, SqL.of h1, fun p hp => ?_⟩
    have s2 := same_upd (o := .lst xs.reverse) hp
    exact q _ _ _ (s1.free hp) (s1.trans s2) upd_same (h2.reverse.mono s2)
def mulTD : D → D → Option D
  | .tup ds, .int k => if -1000 ≤ k ∧ k ≤ 1000 ∧ ds.length ≤ 1000 then some (.tup (List.replicate k.toNat ds).flatten) else none
  | _, _ => none
@[simp] theorem mulTD_tup (ds : List D) (k : Int) : mulTD (.tup ds) (.int k) = if -1000 ≤ k ∧ k ≤ 1000 ∧ ds.length ≤ 1000 then some (.tup (List.replicate k.toNat ds).flatten) else none := rfl
theorem flat_nil {α : Type} (n : Nat) : (List.replicate n ([] : List α)).flatten = [] := by
  induction n with
  | zero => rfl
  | succ n ih => rw [List.replicate_succ, List.flatten_cons, ih]; rfl
theorem od_mulT : OpD T (binaryOp .Mult) mulTD := by
  intro X G H x y d e z dx dy h Q q
  cases d <;> cases e <;> try (cases h; done)
  rename_i ds k
  have h : (if -1000 ≤ k ∧ k ≤ 1000 ∧ ds.length ≤ 1000 then some (D.tup (List.replicate k.toNat ds).flatten) else none) = some z := h
  split at h
  · rename_i hc
    cases h; cases dy
    cases dx with
    | @tup ad xs _ h1 h2 =>
      have hl := h2.length
      by_cases h0 : xs = [] ∨ k = 1
      · refine ⟨_, op_repSame, ad, k, xs, rfl, rfl, by rw [G.hK]; exact SqT.of h1, h0, hc.1, hc.2.1, ?_⟩
        have e : (List.replicate k.toNat ds).flatten = ds := by
          rcases h0 with h0 | h0
          · subst h0
            have : ds = [] := List.eq_nil_of_length_eq_zero (by simpa using hl.symm)
            subst this
            exact flat_nil _
          · subst h0
            simp
        rw [e] at q
        exact q _ H (Same.refl H) (.tup h1 h2)
      · have hne : xs ≠ [] := fun z => h0 (.inl z)
        have hk1 : k ≠ 1 := fun z => h0 (.inr z)
        by_cases hk : k ≤ 0
        · refine ⟨_, op_repNil, ad, k, xs, rfl, rfl, by rw [G.hK]; exact SqT.of h1, hne, hk, hc.1, fun p hp => ?_⟩
          have e : k.toNat = 0 := by omega
          rw [e] at q
          have s2 := same_upd (o := .tup []) hp
          exact q _ _ s2 (.tup upd_same .nil)
        · refine ⟨_, op_repT, ad, k, xs, rfl, rfl, by rw [G.hK]; exact SqT.of h1, hne, by omega, hc.2.1, by rw [hl]; exact hc.2.2, fun p hp => ?_⟩
          have s2 := same_upd (o := .tup (List.replicate k.toNat xs).flatten) hp
          exact q _ _ s2 (.tup upd_same ((h2.rep k.toNat).mono s2))
  · cases h
end
end Pf

set_option Elab.async false
set_option linter.all false
set_option maxRecDepth 100000
set_option maxHeartbeats 2000000
/-! Pm1: what the small defs give. -/
namespace Pf
open PySem PySem.Spec L2
theorem wFor_by {gi : En → Option (List D)} {set : D → En → Option En} {U : Po → En → Prop} {P : Po} {ρ : En} (ds : List D) (h1 : gi ρ = some ds) (h2 : (noOw ρ || lfA ds) = true) (Iv : Nat → En → Prop) (h0 : Iv 0 ρ)
    (turn : ∀ i d ρ1, ds[i]? = some d → Iv i ρ1 → ∃ ρ2, set d ρ1 = some ρ2 ∧ U { nx := Iv (i + 1), rt := P.rt, bk := P.nx, ct := Iv (i + 1) } ρ2) (fin : ∀ ρ1, Iv ds.length ρ1 → P.nx ρ1) : wFor gi set U P ρ := ⟨ds, h1, h2, Iv, h0, turn, fin⟩
theorem wWhile_by {g : En → Option Bool} {U : Po → En → Prop} {P : Po} {ρ : En} (Iv : Nat → En → Prop) (n0 : Nat) (h0 : Iv n0 ρ) (turn : ∀ n ρ1, Iv n ρ1 → ∃ b, g ρ1 = some b ∧ (b = true → U { nx := fun ρ2 => ∃ m, m < n ∧ Iv m ρ2, rt := P.rt, bk := P.nx, ct := fun ρ2 => ∃ m, m < n ∧ Iv m ρ2 } ρ1) ∧ (b = false → P.nx ρ1)) : wWhile g U P ρ := ⟨Iv, ⟨n0, h0⟩, turn⟩
theorem rngD_some {lo : Int} {n i : Nat} {d : D} (h : (rngD lo n)[i]? = some d) : i < n ∧ d = .int (lo + (i : Nat)) := by
  have hi := (List.getElem?_eq_some_iff.mp h).1
  rw [rngD_len] at hi
  rw [rngD_get lo hi] at h
  cases h
  exact ⟨hi, rfl⟩
@[simp] theorem lfA_rng (lo : Int) (n : Nat) : lfA (rngD lo n) = true := lfA_of fun d hd => by
  unfold rngD at hd
  obtain ⟨i, _, rfl⟩ := List.mem_map.mp hd
  rfl
theorem atI_get {α : Type} {xs : List α} {k : Int} {v : α} (h0 : 0 ≤ k) (h : xs[k.toNat]? = some v) : atI xs k = some v := by
  have e : k = (k.toNat : Int) := by omega
  rw [e]
  exact atI_nat h
theorem atI_neg1 {α : Type} {xs : List α} {v : α} (h : xs.getLast? = some v) : atI xs (-1) = some v := by
  cases xs with
  | nil => cases h
  | cons a r =>
    have e : (a :: r) = (a :: r).dropLast ++ [v] := by
      have h2 : (a :: r).getLast (List.cons_ne_nil a r) = v := by
        rw [List.getLast?_eq_getLast (List.cons_ne_nil a r)] at h
        exact Option.some.inj h
      rw [← h2, List.dropLast_concat_getLast]
    rw [e]
    exact atI_last _ _
@[simp] theorem allD_map {α : Type} (f : α → Bool) (ds : List α) : allD [.lst (ds.map fun d => D.bl (f d))] = some (.bl (ds.all f)) := by
  have e : (ds.map fun d => D.bl (f d)) = (ds.map f).map D.bl := by rw [List.map_map]; rfl
  rw [e, allD_bls, List.all_map]
  rfl
/-- the last item, not nought -/
theorem last_ne {ns : List Int} : (g2 neD (g2 ixD (gC (tI ns)) (g1 negD (gC (.int 1)))) (gC (.int 0))) [] = (ns.getLast?).map fun i => D.bl (!decide (i = 0)) := by
  simp only [g2_ap, gC_ap, g1_ap, negD_int, Option.bind_some, ixD_tup]
  cases h : ns.getLast? with
  | none =>
    have : ns = [] := by
      cases ns with
      | nil => rfl
      | cons a r => rw [List.getLast?_eq_getLast (List.cons_ne_nil a r)] at h; cases h
    subst this
    rfl
  | some i =>
    have := atI_neg1 h
    rw [atI_map, this]
    simp
theorem last_at {ns : List Int} {i : Int} (h : ns.getLast? = some i) : atI (ns.map D.int) (-1) = some (.int i) := by
  rw [atI_map, atI_neg1 h]; rfl
/-! numbers -/
def isNum : D → Int → Bool
  | .int i, s => decide (0 ≤ i) && decide (i < s)
  | _, _ => false
def f_is_number : List D → Option D := kAI fun x s => some (.bl (isNum x s))
def cellM (ns : List Int) (k : Int) : Int := if k < ns.length then ns.getD k.toNat 0 else 0
def f_law_cell_at : List D → Option D := kCI fun ns k => if 0 ≤ k then some (.int (cellM ns k)) else none
def mixM (c k : Int) : Int :=
  let d := (c + 7919 * k + 1) * 48271 % 2147483647
  (d * d + 7 * d + k) % 2147483629
def mixS (ns : List Int) (k : Int) : Int := mixM (cellM ns k) k
theorem mixS_nonneg (ns : List Int) (k : Int) : 0 ≤ mixS ns k := Int.emod_nonneg _ (by decide)
theorem mixS_lt (ns : List Int) (k : Int) : mixS ns k < 2147483629 := Int.emod_lt_of_pos _ (by decide)
def f_law_mixed : List D → Option D := kCI fun ns k => if 0 ≤ k then some (.int (mixS ns k)) else none
def drawM (n k : Int) : Int :=
  let d := (n + 104729 * k + 17) * 69621 % 2147483647
  (d * d + 3 * d + k) % 2147483629
theorem drawM_nonneg (n k : Int) : 0 ≤ drawM n k := Int.emod_nonneg _ (by decide)
theorem drawM_lt (n k : Int) : drawM n k < 2147483629 := Int.emod_lt_of_pos _ (by decide)
def f_law_drawn : List D → Option D := kII fun n k => some (.int (drawM n k))
def isNumB : D → Int → Int → Bool
  | .int i, lo, hi => decide (lo ≤ i) && decide (i ≤ hi)
  | _, _, _ => false
def f_law_number : List D → Option D := kAII fun x lo hi => some (.bl (isNumB x lo hi))
/-! drawn sums -/
def coefM (n s : Int) (k : Nat) : Int := drawM n k / 8 % s * (if n / 16 % 3 > 0 ∨ drawM n k % 3 = 0 then 1 else 0)
def sumM (n s m : Int) : List Int :=
  let l := (List.range (n % (m + 1)).toNat).map (coefM n s)
  if 0 < n % (m + 1) then l.set ((n % (m + 1)).toNat - 1) (1 + drawM n 40 % (s - 1)) else l
def f_law_sum : List D → Option D := kIII fun n s m => if 0 ≤ n ∧ 2 ≤ s ∧ s ≤ 5 ∧ 0 ≤ m ∧ m ≤ 20 then some (tI (sumM n s m)) else none
/-! whether it is a sum -/
def lastNZ (ds : List D) : Bool := match ds.getLast? with
  | some (.int i) => !decide (i = 0)
  | _ => true
def isSumB : D → Int → Bool
  | .tup ds, s => decide (ds.length ≤ 9) && ds.all (fun d => isNum d s) && lastNZ ds
  | _, _ => false
def f_is_sum : List D → Option D := kAI fun x s => some (.bl (isSumB x s))
mutual
def okN : Nat → D → Bool
  | _, .non => true
  | _, .bl _ => true
  | _, .int _ => true
  | _, .str z => z.cps.all (· < 0x110000)
  | 0, .tup _ => false
  | n + 1, .tup ds => okNA n ds
  | 0, .lst _ => false
  | n + 1, .lst ds => okNA n ds
  | _, .scr _ => false
  | _, .dct _ => false
  | _, .ftp _ => false
def okNA : Nat → List D → Bool
  | _, [] => true
  | n, d :: ds => okN n d && okNA n ds
end
mutual
theorem okN_py : ∀ (d : D) (n : Nat), okN n d = true → ∃ p, toPy d = some p ∧ p.canLay0 = true ∧ p.depth ≤ n
  | .non, n, _ => ⟨.none, by simp only [toPy], by simp only [PyData.canLay0], by simp [PyData.depth]⟩
  | .bl b, n, _ => ⟨.bool b, by simp only [toPy], by simp only [PyData.canLay0], by simp [PyData.depth]⟩
  | .int i, n, _ => ⟨.int i, by simp only [toPy], by simp only [PyData.canLay0], by simp [PyData.depth]⟩
  | .str z, n, h => ⟨.str z, by simp only [toPy], by simp only [okN] at h; simp only [PyData.canLay0, PyData.strOk]; exact h, by simp [PyData.depth]⟩
  | .tup ds, 0, h => by simp only [okN] at h; cases h
  | .tup ds, n + 1, h => by
    simp only [okN] at h
    obtain ⟨ps, h1, h2, h3⟩ := okNA_py ds n h
    exact ⟨.tuple ps, by simp only [toPy, h1, Option.map_some], by simp only [PyData.canLay0]; exact h2, by simp only [PyData.depth]; omega⟩
  | .lst ds, 0, h => by simp only [okN] at h; cases h
  | .lst ds, n + 1, h => by
    simp only [okN] at h
    obtain ⟨ps, h1, h2, h3⟩ := okNA_py ds n h
    exact ⟨.list ps, by simp only [toPy, h1, Option.map_some], by simp only [PyData.canLay0]; exact h2, by simp only [PyData.depth]; omega⟩
  | .scr _, n, h => by simp only [okN] at h; cases h
  | .dct _, n, h => by simp only [okN] at h; cases h
  | .ftp _, n, h => by simp only [okN] at h; cases h
theorem okNA_py : ∀ (ds : List D) (n : Nat), okNA n ds = true → ∃ ps, toPyA ds = some ps ∧ PyData.canLayAll0 ps = true ∧ PyData.depthAll ps ≤ n
  | [], n, _ => ⟨[], by simp only [toPyA], by simp only [PyData.canLayAll0], by simp [PyData.depthAll]⟩
  | d :: ds, n, h => by
    simp only [okNA, Bool.and_eq_true] at h
    obtain ⟨p, h1, h2, h3⟩ := okN_py d n h.1
    obtain ⟨ps, h4, h5, h6⟩ := okNA_py ds n h.2
    exact ⟨p :: ps, by simp only [toPyA, h1, h4, Option.bind_some, Option.map_some], by simp only [PyData.canLayAll0, h2, h5, Bool.and_self], by simp only [PyData.depthAll]; omega⟩
end
theorem okNA_filter {n : Nat} (p : D → Bool) : ∀ {ds : List D}, okNA n ds = true → okNA n (ds.filter p) = true
  | [], _ => rfl
  | d :: ds, h => by
    simp only [okNA, Bool.and_eq_true] at h
    rw [List.filter_cons]
    split
    · simp only [okNA, Bool.and_eq_true]; exact ⟨h.1, okNA_filter p h.2⟩
    · exact okNA_filter p h.2
theorem okNA_of {n : Nat} : ∀ {ds : List D}, (∀ d ∈ ds, okN n d = true) → okNA n ds = true
  | [], _ => rfl
  | d :: ds, h => by
    simp only [okNA, Bool.and_eq_true]
    exact ⟨h d (by simp), okNA_of fun e he => h e (by simp [he])⟩
theorem okNA_mem {n : Nat} : ∀ {ds : List D} {d : D}, okNA n ds = true → d ∈ ds → okN n d = true
  | e :: ds, d, h, m => by
    simp only [okNA, Bool.and_eq_true] at h
    rcases List.mem_cons.mp m with z | z
    · rw [z]; exact h.1
    · exact okNA_mem h.2 z
mutual
theorem okN_mono : ∀ (d : D) {m n : Nat}, m ≤ n → okN m d = true → okN n d = true
  | .non, m, n, _, _ => by simp only [okN]
  | .bl b, m, n, _, _ => by simp only [okN]
  | .int i, m, n, _, _ => by simp only [okN]
  | .str z, m, n, _, h => by simp only [okN] at h ⊢; exact h
  | .tup ds, 0, n, _, h => by simp only [okN] at h; cases h
  | .tup ds, m + 1, 0, l, h => by omega
  | .tup ds, m + 1, n + 1, l, h => by simp only [okN] at h ⊢; exact okNA_mono ds (by omega) h
  | .lst ds, 0, n, _, h => by simp only [okN] at h; cases h
  | .lst ds, m + 1, 0, l, h => by omega
  | .lst ds, m + 1, n + 1, l, h => by simp only [okN] at h ⊢; exact okNA_mono ds (by omega) h
  | .scr _, m, n, _, h => by simp only [okN] at h; cases h
  | .dct _, m, n, _, h => by simp only [okN] at h; cases h
  | .ftp _, m, n, _, h => by simp only [okN] at h; cases h
theorem okNA_mono : ∀ (ds : List D) {m n : Nat}, m ≤ n → okNA m ds = true → okNA n ds = true
  | [], m, n, _, _ => by simp only [okNA]
  | d :: ds, m, n, l, h => by
    simp only [okNA, Bool.and_eq_true] at h ⊢
    exact ⟨okN_mono d l h.1, okNA_mono ds l h.2⟩
end
theorem eqB_lnil {ds : List D} (h : okNA 60 ds = true) : eqB (.lst ds) (.lst []) = some (decide (ds = [])) := by
  obtain ⟨ps, h1, h2, h3⟩ := okNA_py ds 60 h
  have s1 : SeqAt.shaped (.list ps) = true := by
    simp only [SeqAt.shaped, PyData.canLay0, PyData.depth, h2, Bool.true_and]
    exact decide_eq_true (by omega)
  have s2 : SeqAt.shaped (.list []) = true := by decide
  simp only [eqB, toPy, h1, toPyA, Option.map_some, Option.bind_some, s1, s2, and_self, if_true, PyData.eqv]
  cases ds with
  | nil => simp only [toPyA] at h1; cases h1; rfl
  | cons d r =>
    have : ps ≠ [] := fun z => by
      subst z
      simp only [toPyA] at h1
      cases hq : toPy d with
      | none => rw [hq] at h1; cases h1
      | some p => rw [hq] at h1; cases hr : toPyA r with
        | none => rw [hr] at h1; cases h1
        | some q => rw [hr] at h1; cases h1
    cases ps with
    | nil => exact absurd rfl this
    | cons a b => simp [PyData.eqvAll]
def isLongB : D → Int → Bool
  | .tup ds, s => ds.all (fun d => isNumB d 0 (s - 1)) && lastNZ ds
  | _, _ => false
def szD : D → Bool
  | .tup ds => decide (ds.length ≤ 1000000)
  | _ => true
@[simp] theorem eqD_nn : eqD (.tup []) (.tup []) = some (.bl true) := eqD_tI [] []
def f_law_is_long_sum : List D → Option D := kAI fun x s => if okN 60 x = true ∧ szD x = true then some (.bl (isLongB x s)) else none
def lenLe9 : D → Bool
  | .tup ds => decide (ds.length ≤ 9)
  | _ => true
def f_law_is_sum : List D → Option D := kAI fun x s => if okN 60 x = true ∧ szD x = true then some (.bl (isLongB x s && lenLe9 x)) else none
theorem all_int {ds : List D} {p : D → Bool} (hp : ∀ d, p d = true → ∃ i, d = .int i) (h : ds.all p = true) : ∃ ns : List Int, ds = ns.map .int := by
  induction ds with
  | nil => exact ⟨[], rfl⟩
  | cons d r ih =>
    rw [List.all_cons, Bool.and_eq_true] at h
    obtain ⟨i, rfl⟩ := hp d h.1
    obtain ⟨ns, rfl⟩ := ih h.2
    exact ⟨i :: ns, rfl⟩
theorem isNum_int {s : Int} : ∀ d, isNum d s = true → ∃ i, d = .int i
  | .int i, _ => ⟨i, rfl⟩
theorem isNumB_int {lo hi : Int} : ∀ d, isNumB d lo hi = true → ∃ i, d = .int i
  | .int i, _ => ⟨i, rfl⟩
/-- the last number is not nought -/
def nzL (ns : List Int) : Bool := match ns.getLast? with
  | some i => !decide (i = 0)
  | none => true
theorem lastNZ_ints (ns : List Int) : lastNZ (ns.map .int) = nzL ns := by
  unfold lastNZ nzL
  rw [List.getLast?_map]
  cases ns.getLast? <;> rfl
theorem nzL_nil : nzL [] = true := rfl
theorem nzL_some {ns : List Int} {i : Int} (h : ns.getLast? = some i) : nzL ns = !decide (i = 0) := by
  unfold nzL; rw [h]
theorem cutD_le (ds : List D) (lo hi : Option Int) : (cutD ds lo hi).length ≤ ds.length := by
  unfold cutD
  rw [List.length_take, List.length_drop]
  omega
/-! odd things, spoilt ones -/
def oddL : List D := [.int (-1), .int 0, .int 1, .int 2, .int 5, .bl true, .bl false, .non, .str "", .str "x", .tup [], .lst [], .tup [.int 0], .tup [.int 1], .tup [.int 1, .int 0], .tup [.int 0, .int 1], .tup [.int 5], .tup [.non], .lst [.int 1],
  .tup [.int 1, .int 1, .int 1], .tup [.tup [.int 1]], .tup [.bl true], .tup [.int 0, .int 0], .int 3, .tup [.int 1, .int (-1)]]
def oddM (n : Int) : Option D := atI oddL (n % 25)
def f_law_odd : List D → Option D := kI fun n => oddM n
def spT (ds : List D) (n : Int) : List D := [.lst ds, .tup (cutD ds none (some (-1))), .tup (ds ++ cutD ds (some (-1)) none), .tup (cutD ds (some 1) none), .tup ds.reverse, .tup (cutD (List.replicate 11 ds).flatten none (some (7 + n / 72 % 5)))]
def spI (i : Int) : List D := [.str (toString i), .int (-i), .int (i + 1), .bl (decide (i = 1)), .int (i + 5)]
def spoilt1 (rc : D → Int → Option D) (pos : Bool) (x : D) (n : Int) : Option D := match x with
  | .tup ds => if ds.length ≤ 20 then
      if pos = true ∧ 0 < ds.length ∧ 0 < n % 6 then (atI ds (n / 6 % ds.length)).bind fun y => (rc y (n / 60)).map fun p => .tup (cutD ds none (some (n / 6 % ds.length)) ++ [p] ++ cutD ds (some (n / 6 % ds.length + 1)) none)
      else if 0 < ds.length ∧ n / 6 % 2 = 0 then atI (spT ds n) (n / 12 % 6) else oddM (n / 6)
    else none
  | .int i => if -1000 ≤ i ∧ i ≤ 1000 then if n / 6 % 2 = 0 then atI (spI i) (n / 12 % 5) else oddM (n / 6) else none
  | _ => none
def f_law_spoilt : List D → Option D := kAII fun x n deep => if deep ≤ 1 then spoilt1 (spoilt1 (fun _ _ => none) false) (decide (0 < deep)) x n else none
/-! the law's own drawing -/
def szM (n : Int) : Int := if n % 3 = 0 then 2 else if n % 3 = 1 then 3 else 5
theorem szM_mem (n : Int) : szM n = 2 ∨ szM n = 3 ∨ szM n = 5 := by
  unfold szM
  split
  · exact .inl rfl
  · split
    · exact .inr (.inl rfl)
    · exact .inr (.inr rfl)
theorem atI_235 (n : Int) : atI [D.int 2, D.int 3, D.int 5] (n % 3) = some (.int (szM n)) := by
  have h : n % 3 = 0 ∨ n % 3 = 1 ∨ n % 3 = 2 := by omega
  unfold szM
  rcases h with h | h | h <;> rw [h] <;> rfl
/-- numbers of the clock, at most so many -/
structure NumsOk (ns : List Int) (s : Int) (m : Nat) : Prop where
  lo : ∀ i ∈ ns, 0 ≤ i
  hi : ∀ i ∈ ns, i < s
  len : ns.length ≤ m
theorem sumM_mem {n s m : Int} (hs : 2 ≤ s) {i : Int} (h : i ∈ sumM n s m) : 0 ≤ i ∧ i < s := by
  have hc : ∀ k : Nat, 0 ≤ coefM n s k ∧ coefM n s k < s := fun k => by
    have h1 := Int.emod_nonneg (drawM n k / 8) (show s ≠ 0 by omega)
    have h2 := Int.emod_lt_of_pos (drawM n k / 8) (show 0 < s by omega)
    unfold coefM
    split
    · rw [Int.mul_one]; exact ⟨h1, h2⟩
    · rw [Int.mul_zero]; omega
  have hl : ∀ j ∈ (List.range (n % (m + 1)).toNat).map (coefM n s), 0 ≤ j ∧ j < s := fun j hj => by
    obtain ⟨k, _, rfl⟩ := List.mem_map.mp hj
    exact hc k
  have h40 : 0 ≤ 1 + drawM n 40 % (s - 1) ∧ 1 + drawM n 40 % (s - 1) < s := by
    have h1 := Int.emod_nonneg (drawM n 40) (show s - 1 ≠ 0 by omega)
    have h2 := Int.emod_lt_of_pos (drawM n 40) (show 0 < s - 1 by omega)
    omega
  unfold sumM at h
  simp only at h
  split at h
  · rcases List.mem_or_eq_of_mem_set h with h | h
    · exact hl i h
    · rw [h]; exact h40
  · exact hl i h
theorem sumM_len (n s m : Int) : (sumM n s m).length = (n % (m + 1)).toNat := by
  unfold sumM
  simp only
  split <;> simp
theorem sumM_ok (n s m : Int) (hs : 2 ≤ s) (hm : 0 ≤ m ∧ m ≤ 20 := by omega) : NumsOk (sumM n s m) s m.toNat := by
  refine ⟨fun i hi => (sumM_mem hs hi).1, fun i hi => (sumM_mem hs hi).2, ?_⟩
  rw [sumM_len]
  have := Int.emod_lt_of_pos n (show 0 < m + 1 by omega)
  omega
theorem okNA_ints (n : Nat) : ∀ ns : List Int, okNA n (ns.map .int) = true
  | [] => by simp only [List.map_nil, okNA]
  | i :: ns => by simp only [List.map_cons, okNA, okN, okNA_ints n ns, Bool.and_self]
theorem tI_ok {ns : List Int} {s : Int} {m : Nat} (h : NumsOk ns s m) (hm : m ≤ 1000 := by omega) : okN 60 (tI ns) = true ∧ szD (tI ns) = true := by
  refine ⟨by simp only [okN]; exact okNA_ints _ ns, ?_⟩
  have := h.len
  exact decide_eq_true (by rw [List.length_map]; omega)
theorem isSum_long (d : D) (s : Int) : isSumB d s = (isLongB d s && lenLe9 d) := by
  cases d with
  | tup ds =>
    have e : (fun d => isNum d s) = fun d => isNumB d 0 (s - 1) := by
      funext d
      cases d <;> simp only [isNum, isNumB]
      rename_i i
      congr 1
      exact decide_eq_decide.mpr (by omega)
    simp only [isSumB, isLongB, lenLe9, e]
    cases decide (ds.length ≤ 9) <;> cases (ds.all fun d => isNumB d 0 (s - 1)) <;> cases lastNZ ds <;> rfl
  | _ => rfl
theorem atI_mem {α : Type} {xs : List α} {i : Int} {v : α} (h : atI xs i = some v) : v ∈ xs := by
  obtain ⟨j, _, e⟩ := ixN_of (n := 0) h
  exact List.mem_of_getElem? e
theorem atI_ex {α : Type} {xs : List α} {i : Int} (h0 : 0 ≤ i) (h1 : i < xs.length) : ∃ v, atI xs i = some v :=
  ⟨_, atI_get h0 (List.getElem?_eq_getElem (show i.toNat < xs.length by omega))⟩
theorem odd_ok (n : Int) : ∃ d, oddM n = some d ∧ okN 4 d = true ∧ szD d = true := by
  have h1 := Int.emod_nonneg n (show (25 : Int) ≠ 0 by decide)
  have h2 := Int.emod_lt_of_pos n (show (0 : Int) < 25 by decide)
  obtain ⟨d, hd⟩ := atI_ex (xs := oddL) h1 (show n % 25 < (25 : Int) by omega)
  have all : ∀ d ∈ oddL, okN 4 d = true ∧ szD d = true := by
    intro d hd
    simp only [oddL, List.mem_cons, List.not_mem_nil, or_false] at hd
    rcases hd with rfl | rfl | rfl | rfl | rfl | rfl | rfl | rfl | rfl | rfl | rfl | rfl | rfl | rfl | rfl | rfl | rfl | rfl | rfl | rfl | rfl | rfl | rfl | rfl | rfl <;> exact ⟨by decide +kernel, by decide +kernel⟩
  exact ⟨d, hd, all d (atI_mem hd)⟩
theorem cps_str (s : String) : (Str.ofString s).cps.all (· < 0x110000) = true := by
  rw [Str.ofString_eq_toList]
  rw [Array.all_eq_true_iff_forall_mem]
  intro x hx
  simp only [List.mem_toArray, List.mem_map] at hx
  obtain ⟨c, _, rfl⟩ := hx
  have := c.valid
  simp only [decide_eq_true_eq]
  rcases this with h | ⟨h1, h2⟩
  · exact Nat.lt_trans h (by decide)
  · exact h2
theorem okNA_app {n : Nat} : ∀ {ds es : List D}, okNA n ds = true → okNA n es = true → okNA n (ds ++ es) = true
  | [], _, _, h => h
  | d :: ds, es, h, g => by
    simp only [okNA, Bool.and_eq_true, List.cons_append] at h ⊢
    exact ⟨h.1, okNA_app h.2 g⟩
theorem okNA_cut {n : Nat} {ds : List D} (h : okNA n ds = true) (lo hi : Option Int) : okNA n (cutD ds lo hi) = true :=
  okNA_of fun d hd => okNA_mem h (List.mem_of_mem_drop (List.mem_of_mem_take hd))
theorem spI_ok {i n : Int} : ∃ d, atI (spI i) (n / 12 % 5) = some d ∧ okN 4 d = true ∧ szD d = true := by
  obtain ⟨d, hd⟩ := atI_ex (xs := spI i) (i := n / 12 % 5) (Int.emod_nonneg _ (by decide)) (by have := Int.emod_lt_of_pos (n / 12) (show (0 : Int) < 5 by decide); show n / 12 % 5 < 5; omega)
  refine ⟨d, hd, ?_⟩
  have m := atI_mem hd
  simp only [spI, List.mem_cons, List.not_mem_nil, or_false] at m
  rcases m with rfl | rfl | rfl | rfl | rfl
  · exact ⟨by simp only [okN]; exact cps_str _, rfl⟩
  · exact ⟨rfl, rfl⟩
  · exact ⟨rfl, rfl⟩
  · exact ⟨rfl, rfl⟩
  · exact ⟨rfl, rfl⟩
theorem spT_ok {ds : List D} {k : Nat} (hk : okNA k ds = true) (hl : ds.length ≤ 20) (n : Int) : ∃ d, atI (spT ds n) (n / 12 % 6) = some d ∧ okN (k + 1) d = true ∧ szD d = true := by
  obtain ⟨d, hd⟩ := atI_ex (xs := spT ds n) (i := n / 12 % 6) (Int.emod_nonneg _ (by decide)) (by have := Int.emod_lt_of_pos (n / 12) (show (0 : Int) < 6 by decide); show n / 12 % 6 < 6; omega)
  refine ⟨d, hd, ?_⟩
  have m := atI_mem hd
  have tup : ∀ es : List D, okNA k es = true → es.length ≤ 1000 → okN (k + 1) (.tup es) = true ∧ szD (.tup es) = true := fun es h1 h2 => ⟨by simp only [okN]; exact h1, decide_eq_true (by omega)⟩
  have rp : ∀ m : Nat, okNA k (List.replicate m ds).flatten = true ∧ (List.replicate m ds).flatten.length = m * ds.length := fun m => by
    induction m with
    | zero => exact ⟨rfl, by simp⟩
    | succ m ih =>
      rw [List.replicate_succ, List.flatten_cons]
      refine ⟨okNA_app hk ih.1, ?_⟩
      rw [List.length_append, ih.2, Nat.succ_mul]
      omega
  simp only [spT, List.mem_cons, List.not_mem_nil, or_false] at m
  rcases m with rfl | rfl | rfl | rfl | rfl | rfl
  · exact ⟨by simp only [okN]; exact hk, rfl⟩
  · exact tup _ (okNA_cut hk _ _) (Nat.le_trans (cutD_le _ _ _) (by omega))
  · refine tup _ (okNA_app hk (okNA_cut hk _ _)) ?_
    rw [List.length_append]
    have := cutD_le ds (some (-1)) none
    omega
  · exact tup _ (okNA_cut hk _ _) (Nat.le_trans (cutD_le _ _ _) (by omega))
  · exact tup _ (okNA_of fun d hd => okNA_mem hk (List.mem_reverse.mp hd)) (by rw [List.length_reverse]; omega)
  · refine tup _ (okNA_cut (rp 11).1 _ _) (Nat.le_trans (cutD_le _ _ _) ?_)
    rw [(rp 11).2]
    omega
theorem spoilt_ok {ns : List Int} {s n deep : Int} {m : Nat} (h : NumsOk ns s m) (hm : m ≤ 20) (hs : s ≤ 5) (hd : deep ≤ 1 := by omega) : ∃ d, f_law_spoilt [tI ns, .int n, .int deep] = some d ∧ okN 60 d = true ∧ szD d = true := by
  have hl : (ns.map D.int).length ≤ 20 := by rw [List.length_map]; exact Nat.le_trans h.len hm
  have up : ∀ {k : Nat} {d : D}, k ≤ 60 → okN k d = true → okN 60 d = true := fun h => okN_mono _ h
  simp only [f_law_spoilt, kAII_mk, if_pos hd]
  unfold spoilt1
  simp only [if_pos hl]
  split
  · rename_i hc
    have hlen : 0 < ((ns.map D.int).length : Int) := by have := hc.2.1; omega
    have e1 := Int.emod_nonneg (n / 6) (show ((ns.map D.int).length : Int) ≠ 0 by omega)
    have e2 := Int.emod_lt_of_pos (n / 6) hlen
    obtain ⟨y, hy⟩ := atI_ex (xs := ns.map D.int) e1 e2
    rw [hy]
    obtain ⟨i, hi, rfl⟩ := List.mem_map.mp (atI_mem hy)
    have lo := h.lo i hi
    have hi := h.hi i hi
    simp only [Option.bind_some, if_pos (show -1000 ≤ i ∧ i ≤ 1000 by omega)]
    have fin : ∀ p, okN 4 p = true → okN 60 (.tup (cutD (ns.map D.int) none (some (n / 6 % ((ns.map D.int).length : Int))) ++ [p] ++ cutD (ns.map D.int) (some (n / 6 % ((ns.map D.int).length : Int) + 1)) none)) = true ∧ szD (.tup (cutD (ns.map D.int) none (some (n / 6 % ((ns.map D.int).length : Int))) ++ [p] ++ cutD (ns.map D.int) (some (n / 6 % ((ns.map D.int).length : Int) + 1)) none)) = true := fun p hp => by
      refine ⟨?_, ?_⟩
      · simp only [okN]
        refine okNA_app (okNA_app (okNA_cut (okNA_ints _ _) _ _) ?_) (okNA_cut (okNA_ints _ _) _ _)
        simp only [okNA, Bool.and_true]
        exact okN_mono _ (by decide) hp
      · refine decide_eq_true ?_
        have l1 := cutD_le (ns.map D.int) none (some (n / 6 % ((ns.map D.int).length : Int)))
        have l2 := cutD_le (ns.map D.int) (some (n / 6 % ((ns.map D.int).length : Int) + 1)) none
        rw [List.length_append, List.length_append, List.length_singleton]
        omega
    split
    · obtain ⟨d, hd, h4, _⟩ := spI_ok (i := i) (n := n / 60)
      rw [hd]
      exact ⟨_, rfl, fin d h4⟩
    · obtain ⟨d, hd, h4, _⟩ := odd_ok (n / 60 / 6)
      rw [hd]
      exact ⟨_, rfl, fin d h4⟩
  · split
    · obtain ⟨d, hd, h4, h5⟩ := spT_ok (okNA_ints 3 ns) hl n
      exact ⟨d, hd, up (by decide) h4, h5⟩
    · obtain ⟨d, hd, h4, h5⟩ := odd_ok (n / 6)
      exact ⟨d, hd, up (by decide) h4, h5⟩
def f_law : List D → Option D := kC fun ns => if ns.length ≤ 63 then some (.bl true) else none
theorem f_law_true (ns : List Int) (h : ns.length ≤ 63) : f_law [.scr ns] = some (.bl true) := by simp [f_law, kC, h]
end Pf

set_option Elab.async false
set_option linter.all false
set_option maxRecDepth 100000
set_option maxHeartbeats 2000000
/-! Pm2: sums as elements of a ring. -/
namespace Pf
def conv : Nat → (Nat → Int) → (Nat → Int) → Int
  | 0, p, q => p 0 * q 0
  | n + 1, p, q => p 0 * q (n + 1) + conv n (fun i => p (i + 1)) q
theorem conv_cong {s : Int} : ∀ (n : Nat) {p p' q q' : Nat → Int}, (∀ i, p i % s = p' i % s) → (∀ i, q i % s = q' i % s) → conv n p q % s = conv n p' q' % s
  | 0, p, p', q, q', h1, h2 => by
    simp only [conv]
    rw [Int.mul_emod, h1, h2, ← Int.mul_emod]
  | n + 1, p, p', q, q', h1, h2 => by
    simp only [conv]
    rw [Int.add_emod, Int.mul_emod, h1, h2, ← Int.mul_emod, conv_cong n (fun i => h1 (i + 1)) h2, ← Int.add_emod]
theorem conv_addl : ∀ (n : Nat) (p p' q : Nat → Int), conv n (fun i => p i + p' i) q = conv n p q + conv n p' q
  | 0, p, p', q => by simp only [conv]; rw [Int.add_mul]
  | n + 1, p, p', q => by
    simp only [conv]
    rw [conv_addl n (fun i => p (i + 1)) (fun i => p' (i + 1)) q, Int.add_mul]
    omega
theorem conv_mull : ∀ (n : Nat) (c : Int) (p q : Nat → Int), conv n (fun i => c * p i) q = c * conv n p q
  | 0, c, p, q => by simp only [conv]; rw [Int.mul_assoc]
  | n + 1, c, p, q => by
    simp only [conv]
    rw [conv_mull n c (fun i => p (i + 1)) q, Int.mul_add, Int.mul_assoc]
theorem conv_succ : ∀ (n : Nat) (p q : Nat → Int), conv (n + 1) p q = p (n + 1) * q 0 + conv n p (fun i => q (i + 1))
  | 0, p, q => by simp only [conv]; omega
  | n + 1, p, q => by
    rw [conv, conv_succ n (fun i => p (i + 1)) q]
    simp only [conv]
    omega
theorem conv_comm : ∀ (n : Nat) (p q : Nat → Int), conv n p q = conv n q p
  | 0, p, q => by simp only [conv]; rw [Int.mul_comm]
  | n + 1, p, q => by
    rw [conv_succ, conv, conv_comm n, Int.mul_comm]
theorem conv_assoc : ∀ (n : Nat) (p q r : Nat → Int), conv n (fun m => conv m p q) r = conv n p (fun m => conv m q r)
  | 0, p, q, r => by simp only [conv]; rw [Int.mul_assoc]
  | n + 1, p, q, r => by
    rw [conv, conv]
    simp only [conv]
    rw [conv_addl n (fun i => p 0 * q (i + 1)) (fun i => conv i (fun i => p (i + 1)) q) r, conv_mull n (p 0) (fun i => q (i + 1)) r, conv_assoc n (fun i => p (i + 1)) q r, Int.mul_add, Int.mul_assoc]
    omega
def unitF (c : Int) : Nat → Int := fun i => if i = 0 then c else 0
theorem conv_zero : ∀ (n : Nat) (q : Nat → Int), conv n (fun _ => 0) q = 0
  | 0, q => by simp only [conv]; rw [Int.zero_mul]
  | n + 1, q => by simp only [conv]; rw [conv_zero n, Int.zero_mul]; rfl
theorem conv_unit (n : Nat) (c : Int) (q : Nat → Int) : conv n (unitF c) q = c * q n := by
  cases n with
  | zero => rfl
  | succ n =>
    simp only [conv]
    have : (fun i => unitF c (i + 1)) = fun _ => 0 := rfl
    rw [this, conv_zero]
    simp [unitF]
def rgS (s : Int) : Setoid (Nat → Int) := ⟨fun f g => ∀ i, f i % s = g i % s, fun _ _ => rfl, fun h i => (h i).symm, fun h g i => (h i).trans (g i)⟩
/-- sums (and longer ones) on a clock -/
def Rg (s : Int) : Type := Quotient (rgS s)
def mkR (s : Int) (f : Nat → Int) : Rg s := Quotient.mk (rgS s) f
theorem mkR_eq {s : Int} {f g : Nat → Int} : mkR s f = mkR s g ↔ ∀ i, f i % s = g i % s := ⟨fun h => Quotient.exact h, fun h => Quotient.sound h⟩
variable {s : Int}
def addR : Rg s → Rg s → Rg s := Quotient.lift₂ (fun f g => mkR s fun i => f i + g i) fun a b a' b' h1 h2 => mkR_eq.mpr fun i => by rw [Int.add_emod, h1 i, h2 i, ← Int.add_emod]
def mulR : Rg s → Rg s → Rg s := Quotient.lift₂ (fun f g => mkR s fun i => conv i f g) fun a b a' b' h1 h2 => mkR_eq.mpr fun i => conv_cong i h1 h2
def negR : Rg s → Rg s := Quotient.lift (fun f => mkR s fun i => - f i) fun a b h => mkR_eq.mpr fun i => by
  have h : a i % s = b i % s := h i
  have : (-1 * a i) % s = (-1 * b i) % s := by rw [Int.mul_emod, h, ← Int.mul_emod]
  simpa using this
def powR (a : Rg s) : Nat → Rg s
  | 0 => mkR s (unitF 1)
  | n + 1 => mulR (powR a n) a
theorem rg_ind {p : Rg s → Prop} (h : ∀ f, p (mkR s f)) : ∀ a, p a := fun a => Quotient.ind h a
instance : Add (Rg s) := ⟨addR⟩
instance : Mul (Rg s) := ⟨mulR⟩
instance : Neg (Rg s) := ⟨negR⟩
instance : Sub (Rg s) := ⟨fun a b => a + -b⟩
instance : NatCast (Rg s) := ⟨fun n => mkR s (unitF n)⟩
instance : IntCast (Rg s) := ⟨fun n => mkR s (unitF n)⟩
instance (n : Nat) : OfNat (Rg s) n := ⟨mkR s (unitF n)⟩
instance : SMul Nat (Rg s) := ⟨fun n a => (n : Rg s) * a⟩
instance : SMul Int (Rg s) := ⟨fun n a => (n : Rg s) * a⟩
instance : HPow (Rg s) Nat (Rg s) := ⟨powR⟩
theorem add_mk (f g : Nat → Int) : mkR s f + mkR s g = mkR s fun i => f i + g i := rfl
theorem mul_mk (f g : Nat → Int) : mkR s f * mkR s g = mkR s fun i => conv i f g := rfl
theorem neg_mk (f : Nat → Int) : - mkR s f = mkR s fun i => - f i := rfl
theorem nat_mk (n : Nat) : (n : Rg s) = mkR s (unitF n) := rfl
theorem int_mk (n : Int) : (n : Rg s) = mkR s (unitF n) := rfl
theorem ofn_mk (n : Nat) : (OfNat.ofNat n : Rg s) = mkR s (unitF n) := rfl
theorem mk_eq {f g : Nat → Int} (h : ∀ i, f i = g i) : mkR s f = mkR s g := congrArg _ (funext h)
theorem rg_mul_comm (a b : Rg s) : a * b = b * a := by
  revert a b
  exact rg_ind fun f => rg_ind fun g => mk_eq fun i => conv_comm i f g
theorem rg_ldist (a b c : Rg s) : a * (b + c) = a * b + a * c := by
  revert a b c
  exact rg_ind fun f => rg_ind fun g => rg_ind fun h => mk_eq fun i => by
    show conv i f (fun i => g i + h i) = conv i f g + conv i f h
    rw [conv_comm, conv_addl, conv_comm i g, conv_comm i h]
theorem rg_one_mul (a : Rg s) : 1 * a = a := by
  revert a
  exact rg_ind fun f => mk_eq fun i => by
    show conv i (unitF 1) f = f i
    rw [conv_unit, Int.one_mul]
theorem rg_zero_mul (a : Rg s) : 0 * a = 0 := by
  revert a
  exact rg_ind fun f => mk_eq fun i => by
    show conv i (unitF 0) f = unitF 0 i
    rw [conv_unit, Int.zero_mul]
    simp [unitF]
instance : Lean.Grind.Semiring (Rg s) where
  add_zero := rg_ind fun f => mk_eq fun i => by
    show f i + unitF 0 i = f i
    simp [unitF]
  add_comm := rg_ind fun f => rg_ind fun g => mk_eq fun i => Int.add_comm _ _
  add_assoc := rg_ind fun f => rg_ind fun g => rg_ind fun h => mk_eq fun i => Int.add_assoc _ _ _
  mul_assoc := rg_ind fun f => rg_ind fun g => rg_ind fun h => mk_eq fun i => conv_assoc i f g h
  mul_one a := by rw [rg_mul_comm, rg_one_mul]
  one_mul := rg_one_mul
  left_distrib := rg_ldist
  right_distrib a b c := by rw [rg_mul_comm, rg_ldist, rg_mul_comm c, rg_mul_comm c]
  zero_mul := rg_zero_mul
  mul_zero a := by rw [rg_mul_comm, rg_zero_mul]
  pow_zero a := rfl
  pow_succ a n := rfl
  ofNat_succ n := mk_eq fun i => by
    show unitF ((n + 1 : Nat) : Int) i = unitF (n : Int) i + unitF ((1 : Nat) : Int) i
    unfold unitF
    split <;> simp
  ofNat_eq_natCast n := rfl
  nsmul_eq_natCast_mul n a := rfl
instance : Lean.Grind.Ring (Rg s) where
  neg_add_cancel := rg_ind fun f => mk_eq fun i => by
    show - f i + f i = unitF 0 i
    unfold unitF
    split <;> omega
  sub_eq_add_neg a b := rfl
  neg_zsmul i := rg_ind fun f => mk_eq fun j => by
    show conv j (unitF (-i)) f = - conv j (unitF i) f
    rw [conv_unit, conv_unit, Int.neg_mul]
  zsmul_natCast_eq_nsmul n a := rfl
  intCast_ofNat n := rfl
  intCast_neg i := mk_eq fun j => by
    show unitF (-i) j = - unitF i j
    unfold unitF
    split <;> rfl
instance : Lean.Grind.CommRing (Rg s) where
  mul_comm := rg_mul_comm
theorem rg_s0 (n : Nat) (h : (n : Int) = s) : (OfNat.ofNat n : Rg s) = 0 := mkR_eq.mpr fun i => by
  subst h
  unfold unitF
  split <;> simp
end Pf

set_option Elab.async false
set_option linter.all false
set_option maxRecDepth 100000
set_option maxHeartbeats 2000000
/-! Pm3: lists of numbers and the ring. -/
namespace Pf
section
variable {s : Int}
def cf (l : List Int) (i : Nat) : Int := l.getD i 0
theorem cf_nil (i : Nat) : cf [] i = 0 := rfl
theorem cf_ge {l : List Int} {i : Nat} (h : l.length ≤ i) : cf l i = 0 := by
  unfold cf; rw [List.getD_eq_getElem?_getD, List.getElem?_eq_none h]; rfl
theorem cf_lt {l : List Int} {i : Nat} (h : i < l.length) : cf l i = l[i] := by
  unfold cf; rw [List.getD_eq_getElem?_getD, List.getElem?_eq_getElem h]; rfl
theorem cf_mem {l : List Int} {i : Nat} (h : i < l.length) : cf l i ∈ l := by rw [cf_lt h]; exact List.getElem_mem h
theorem cf_get {l : List Int} {i : Nat} {x : Int} (h : l[i]? = some x) : cf l i = x := by
  unfold cf; rw [List.getD_eq_getElem?_getD, h]; rfl
theorem cf_ext {a b : List Int} (h : a.length = b.length) (e : ∀ i, i < a.length → cf a i = cf b i) : a = b := by
  apply List.ext_getElem h
  intro i h1 h2
  rw [← cf_lt h1, ← cf_lt h2, e i h1]
theorem cf_map (f : Int → Int) (l : List Int) {i : Nat} (h : i < l.length) : cf (l.map f) i = f (cf l i) := by
  rw [cf_lt (by simpa using h), cf_lt h, List.getElem_map]
theorem cf_rng (f : Nat → Int) (n i : Nat) : cf ((List.range n).map f) i = if i < n then f i else 0 := by
  split
  · rw [cf_lt (by simpa using by assumption)]; simp
  · rw [cf_ge (by simpa using by omega)]
theorem cf_set (l : List Int) (j : Nat) (x : Int) (i : Nat) (h : j < l.length) : cf (l.set j x) i = if i = j then x else cf l i := by
  by_cases hi : i < l.length
  · rw [cf_lt (by simpa using hi), cf_lt hi, List.getElem_set]
    by_cases e : j = i
    · rw [if_pos e, if_pos e.symm]
    · rw [if_neg e, if_neg (fun z => e z.symm)]
  · rw [cf_ge (by simpa using by omega), cf_ge (by omega), if_neg (by omega)]
theorem cf_rep (n : Nat) (x : Int) (i : Nat) : cf (List.replicate n x) i = if i < n then x else 0 := by
  split
  · rw [cf_lt (by simpa using by assumption)]; simp
  · rw [cf_ge (by simpa using by omega)]
theorem cf_app (a b : List Int) (i : Nat) : cf (a ++ b) i = if i < a.length then cf a i else cf b (i - a.length) := by
  unfold cf
  simp only [List.getD_eq_getElem?_getD]
  split
  · rw [List.getElem?_append_left (by assumption)]
  · rw [List.getElem?_append_right (by omega)]
theorem cf_take (l : List Int) (n i : Nat) : cf (l.take n) i = if i < n then cf l i else 0 := by
  unfold cf
  simp only [List.getD_eq_getElem?_getD]
  split
  · rw [List.getElem?_take_of_lt (by assumption)]
  · rw [List.getElem?_eq_none (by simp; omega)]; rfl
theorem cf_cons (a : Int) (l : List Int) (i : Nat) : cf (a :: l) (i + 1) = cf l i := rfl
theorem cf_cons0 (a : Int) (l : List Int) : cf (a :: l) 0 = a := rfl
theorem cf_last {l : List Int} {x : Int} (h : l.getLast? = some x) : l ≠ [] ∧ cf l (l.length - 1) = x := by
  have hne : l ≠ [] := fun z => by subst z; cases h
  refine ⟨hne, ?_⟩
  have hp := List.length_pos_iff.mpr hne
  rw [cf_lt (by omega)]
  rw [List.getLast?_eq_getElem?] at h
  rw [List.getElem?_eq_getElem (by omega)] at h
  exact Option.some.inj h
/-- noughts at the end left out -/
def trimM : List Int → List Int
  | [] => []
  | a :: r => if trimM r = [] ∧ a = 0 then [] else a :: trimM r
theorem trim_cf : ∀ (l : List Int) (i : Nat), cf (trimM l) i = cf l i
  | [], i => rfl
  | a :: r, i => by
    unfold trimM
    split
    · rename_i h
      cases i with
      | zero => rw [cf_nil, cf_cons0, h.2]
      | succ i => rw [cf_nil, cf_cons, ← trim_cf r i, h.1, cf_nil]
    · cases i with
      | zero => rfl
      | succ i => rw [cf_cons, cf_cons, trim_cf r i]
theorem trim_len : ∀ l : List Int, (trimM l).length ≤ l.length
  | [] => Nat.le_refl _
  | a :: r => by
    have := trim_len r
    unfold trimM
    split <;> simp <;> omega
theorem trim_mem : ∀ {l : List Int} {x : Int}, x ∈ trimM l → x ∈ l
  | [], x, h => h
  | a :: r, x, h => by
    unfold trimM at h
    split at h
    · cases h
    · rcases List.mem_cons.mp h with z | z
      · rw [z]; simp
      · exact List.mem_cons_of_mem _ (trim_mem z)
theorem nzL_cons {a : Int} {l : List Int} : nzL (a :: l) = if l = [] then !decide (a = 0) else nzL l := by
  unfold nzL
  cases l with
  | nil => rfl
  | cons b r =>
    rw [if_neg (List.cons_ne_nil b r), List.getLast?_cons_cons]
theorem trim_nz : ∀ l : List Int, nzL (trimM l) = true
  | [] => rfl
  | a :: r => by
    unfold trimM
    split
    · rfl
    · rename_i h
      rw [nzL_cons]
      split
      · rename_i h2
        have : a ≠ 0 := fun z => h ⟨h2, z⟩
        simp [this]
      · exact trim_nz r
theorem trim_id : ∀ {l : List Int}, nzL l = true → trimM l = l
  | [], _ => rfl
  | a :: r, h => by
    rw [nzL_cons] at h
    unfold trimM
    split at h
    · rename_i h2
      subst h2
      have : a ≠ 0 := by simpa using h
      rw [if_neg (fun z => this z.2)]
      rfl
    · rename_i h2
      rw [trim_id h, if_neg (fun z => h2 z.1)]
theorem trim_snoc0 : ∀ l : List Int, trimM (l ++ [0]) = trimM l
  | [] => rfl
  | a :: r => by
    have := trim_snoc0 r
    rw [List.cons_append]
    simp only [trimM, this]
theorem nz_last {l : List Int} (h : nzL l = true) (hne : l ≠ []) : cf l (l.length - 1) ≠ 0 := by
  cases q : l.getLast? with
  | none => exact absurd (List.getLast?_eq_none_iff.mp q) hne
  | some x =>
    rw [(cf_last q).2]
    rw [nzL_some q] at h
    simpa using h
theorem nz_of {l : List Int} (h : l ≠ [] → cf l (l.length - 1) ≠ 0) : nzL l = true := by
  cases q : l.getLast? with
  | none => rw [List.getLast?_eq_none_iff.mp q]; rfl
  | some x =>
    obtain ⟨h1, h2⟩ := cf_last q
    have := h h1
    rw [h2] at this
    rw [nzL_some q]
    simpa using this
/-! coefficients of a ring element -/
def ce (x : Rg s) (i : Nat) : Int := Quotient.lift (s := rgS s) (fun f => f i % s) (fun _ _ h => h i) x
theorem ce_mk (f : Nat → Int) (i : Nat) : ce (mkR s f) i = f i % s := rfl
theorem rg_ext {x y : Rg s} (h : ∀ i, ce x i = ce y i) : x = y := by
  have : ∀ x y : Rg s, (∀ i, ce x i = ce y i) → x = y := rg_ind fun f => rg_ind fun g h => mkR_eq.mpr h
  exact this x y h
theorem ce_add (x y : Rg s) (i : Nat) : ce (x + y) i = (ce x i + ce y i) % s := by
  revert x y
  refine rg_ind fun f => rg_ind fun g => ?_
  rw [add_mk, ce_mk, ce_mk, ce_mk, ← Int.add_emod]
theorem ce_neg (x : Rg s) (i : Nat) : ce (-x) i = (- ce x i) % s := by
  revert x
  refine rg_ind fun f => ?_
  rw [neg_mk, ce_mk, ce_mk]
  have := Int.mul_emod (-1) (f i) s
  have h2 := Int.mul_emod (-1) (f i % s) s
  rw [Int.emod_emod] at h2
  have e := this.trans h2.symm
  simpa using e
theorem ce_mul (x y : Rg s) (n : Nat) : ce (x * y) n = conv n (ce x) (ce y) % s := by
  revert x y
  refine rg_ind fun f => rg_ind fun g => ?_
  rw [mul_mk, ce_mk]
  exact (conv_cong n (fun i => by rw [ce_mk, Int.emod_emod]) (fun i => by rw [ce_mk, Int.emod_emod])).symm
theorem ce_lo (hs : 0 < s) (x : Rg s) (i : Nat) : 0 ≤ ce x i := by
  revert x
  exact rg_ind fun f => Int.emod_nonneg _ (by omega)
theorem ce_hi (hs : 0 < s) (x : Rg s) (i : Nat) : ce x i < s := by
  revert x
  exact rg_ind fun f => Int.emod_lt_of_pos _ hs
theorem ce_zero (i : Nat) : ce (0 : Rg s) i = 0 := by
  rw [ofn_mk, ce_mk]; unfold unitF; split <;> simp
theorem ce_int (c : Int) (i : Nat) : ce (c : Rg s) i = if i = 0 then c % s else 0 := by
  rw [int_mk, ce_mk]; unfold unitF; split <;> simp
/-- of length n at most -/
def Le (x : Rg s) (n : Nat) : Prop := ∀ i, n ≤ i → ce x i = 0
theorem Le.mono {x : Rg s} {m n : Nat} (h : Le x m) (k : m ≤ n) : Le x n := fun i hi => h i (by omega)
theorem Le.add {x y : Rg s} {n : Nat} (h : Le x n) (g : Le y n) : Le (x + y) n := fun i hi => by rw [ce_add, h i hi, g i hi]; simp
theorem Le.neg {x : Rg s} {n : Nat} (h : Le x n) : Le (-x) n := fun i hi => by rw [ce_neg, h i hi]; simp
theorem Le.sub {x y : Rg s} {n : Nat} (h : Le x n) (g : Le y n) : Le (x - y) n := h.add g.neg
theorem le_zero {n : Nat} : Le (0 : Rg s) n := fun i _ => ce_zero i
theorem le_int (c : Int) : Le (c : Rg s) 1 := fun i hi => by rw [ce_int, if_neg (by omega)]
theorem le_0 {x : Rg s} : Le x 0 ↔ x = 0 := ⟨fun h => rg_ext fun i => by rw [h i (Nat.zero_le _), ce_zero], fun h => by rw [h]; exact le_zero⟩
theorem conv_hi : ∀ (n m k : Nat) (f g : Nat → Int), (∀ i, n < i → f i = 0) → (∀ i, m < i → g i = 0) → n + m < k → conv k f g = 0
  | 0, m, 0, f, g, _, _, h => by omega
  | 0, m, k + 1, f, g, h1, h2, h => by
    have e : (fun i => f (i + 1)) = fun _ => 0 := funext fun i => h1 _ (by omega)
    rw [conv, e, conv_zero, h2 _ (by omega)]; omega
  | n + 1, m, 0, f, g, _, _, h => by omega
  | n + 1, m, k + 1, f, g, h1, h2, h => by
    rw [conv, h2 _ (by omega), conv_hi n m k (fun i => f (i + 1)) g (fun i hi => h1 _ (by omega)) h2 (by omega)]; omega
theorem conv_top : ∀ (n m : Nat) (f g : Nat → Int), (∀ i, n < i → f i = 0) → (∀ i, m < i → g i = 0) → conv (n + m) f g = f n * g m
  | 0, 0, f, g, _, _ => rfl
  | 0, m + 1, f, g, h1, h2 => by
    have e : (fun i => f (i + 1)) = fun _ => 0 := funext fun i => h1 _ (by omega)
    rw [Nat.zero_add, conv, e, conv_zero]; omega
  | n + 1, m, f, g, h1, h2 => by
    have e : n + 1 + m = n + m + 1 := by omega
    rw [e, conv, h2 _ (by omega), conv_top n m (fun i => f (i + 1)) g (fun i hi => h1 _ (by omega)) h2]; omega
theorem Le.mul {x y : Rg s} {n m : Nat} (h : Le x (n + 1)) (g : Le y (m + 1)) : Le (x * y) (n + m + 1) := fun i hi => by
  rw [ce_mul, conv_hi n m i _ _ (fun j hj => h j (by omega)) (fun j hj => g j (by omega)) (by omega)]; simp
theorem ce_top {x y : Rg s} {n m : Nat} (h : Le x (n + 1)) (g : Le y (m + 1)) : ce (x * y) (n + m) = ce x n * ce y m % s := by
  rw [ce_mul, conv_top n m _ _ (fun j hj => h j (by omega)) (fun j hj => g j (by omega))]
/-! lists in the ring -/
def pl (s : Int) (l : List Int) : Rg s := mkR s (cf l)
theorem ce_pl (l : List Int) (i : Nat) : ce (pl s l) i = cf l i % s := rfl
theorem le_pl (l : List Int) : Le (pl s l) l.length := fun i hi => by rw [ce_pl, cf_ge hi]; simp
theorem pl_trim (l : List Int) : pl s (trimM l) = pl s l := rg_ext fun i => by rw [ce_pl, ce_pl, trim_cf]
theorem pl_nil : pl s [] = 0 := rg_ext fun i => by rw [ce_pl, ce_zero, cf_nil]; simp
theorem pl_one : pl s [1] = 1 := mkR_eq.mpr fun i => by cases i <;> simp [cf, unitF]
/-- a sum, of whatever length -/
structure Can (s : Int) (l : List Int) : Prop where
  lo : ∀ i ∈ l, 0 ≤ i
  hi : ∀ i ∈ l, i < s
  nz : nzL l = true
theorem Can.nil : Can s [] := ⟨fun _ h => (nomatch h), fun _ h => (nomatch h), rfl⟩
theorem Can.cf_lo {l : List Int} (c : Can s l) (i : Nat) : 0 ≤ cf l i := by
  by_cases h : i < l.length
  · exact c.lo _ (cf_mem h)
  · rw [cf_ge (by omega)]; omega
theorem cf_mod {l : List Int} (h1 : ∀ i ∈ l, 0 ≤ i) (h2 : ∀ i ∈ l, i < s) (i : Nat) : cf l i % s = cf l i := by
  by_cases h : i < l.length
  · exact Int.emod_eq_of_lt (h1 _ (cf_mem h)) (h2 _ (cf_mem h))
  · rw [cf_ge (by omega)]; simp
theorem Can.ce {l : List Int} (c : Can s l) (i : Nat) : ce (pl s l) i = cf l i := cf_mod c.lo c.hi i
theorem Can.top {l : List Int} (c : Can s l) (h : l ≠ []) : Pf.ce (pl s l) (l.length - 1) ≠ 0 := by
  rw [c.ce]; exact nz_last c.nz h
theorem Can.le {l : List Int} (c : Can s l) {n : Nat} (h : Le (pl s l) n) : l.length ≤ n := by
  by_cases hl : l = []
  · rw [hl]; exact Nat.zero_le _
  · by_cases hn : l.length ≤ n
    · exact hn
    · exact absurd (h (l.length - 1) (by omega)) (c.top hl)
theorem can_ext {a b : List Int} (c : Can s a) (d : Can s b) (h : pl s a = pl s b) : a = b := by
  have h1 : a.length = b.length := Nat.le_antisymm (c.le (by rw [h]; exact le_pl b)) (d.le (by rw [← h]; exact le_pl a))
  refine cf_ext h1 fun i hi => ?_
  rw [← c.ce, ← d.ce, h]
theorem can_trim {l : List Int} (h1 : ∀ i ∈ l, 0 ≤ i) (h2 : ∀ i ∈ l, i < s) : Can s (trimM l) := ⟨fun i h => h1 i (trim_mem h), fun i h => h2 i (trim_mem h), trim_nz l⟩
/-- the list of a ring element -/
def li (x : Rg s) (n : Nat) : List Int := trimM ((List.range n).map (ce x))
theorem li_can (hs : 0 < s) (x : Rg s) (n : Nat) : Can s (li x n) := can_trim (fun i h => by
  obtain ⟨j, _, rfl⟩ := List.mem_map.mp h
  exact ce_lo hs x j) (fun i h => by
  obtain ⟨j, _, rfl⟩ := List.mem_map.mp h
  exact ce_hi hs x j)
theorem ce_mod (x : Rg s) (i : Nat) : ce x i % s = ce x i := by
  revert x
  exact rg_ind fun f => Int.emod_emod _ _
theorem pl_li {x : Rg s} {n : Nat} (h : Le x n) : pl s (li x n) = x := rg_ext fun i => by
  unfold li
  rw [pl_trim, ce_pl, cf_rng]
  split
  · exact ce_mod x i
  · rw [h i (by omega)]; simp
theorem li_len (x : Rg s) (n : Nat) : (li x n).length ≤ n := by
  have := trim_len ((List.range n).map (ce x))
  rw [List.length_map, List.length_range] at this
  exact this
theorem li_pl (hs : 0 < s) {l : List Int} (c : Can s l) {n : Nat} (h : l.length ≤ n) : li (pl s l) n = l :=
  can_ext (li_can hs _ _) c (pl_li ((le_pl l).mono h))
theorem li_ext (hs : 0 < s) {x : Rg s} {m n : Nat} (h : Le x m) (g : Le x n) : li x m = li x n :=
  can_ext (li_can hs _ _) (li_can hs _ _) (by rw [pl_li h, pl_li g])
/-- the three sizes -/
def Sz (s : Int) : Prop := s = 2 ∨ s = 3 ∨ s = 5
theorem Sz.pos (h : Sz s) : 0 < s := by rcases h with h | h | h <;> omega
theorem Sz.dom (h : Sz s) {a b : Int} (a0 : 0 ≤ a) (a1 : a < s) (b0 : 0 ≤ b) (b1 : b < s) (e : a * b % s = 0) : a = 0 ∨ b = 0 := by
  have : a = 0 ∨ a = 1 ∨ a = 2 ∨ a = 3 ∨ a = 4 := by rcases h with h | h | h <;> omega
  rcases h with h | h | h <;> subst h <;> rcases this with h | h | h | h | h <;> subst h <;> omega
theorem len_mul (h : Sz s) {a b c : List Int} (ca : Can s a) (cb : Can s b) (cc : Can s c) (ha : a ≠ []) (hb : b ≠ []) (e : pl s c = pl s a * pl s b) : c.length + 1 = a.length + b.length := by
  have la := List.length_pos_iff.mpr ha
  have lb := List.length_pos_iff.mpr hb
  have l1 : Le (pl s a) (a.length - 1 + 1) := by rw [Nat.sub_add_cancel la]; exact le_pl a
  have l2 : Le (pl s b) (b.length - 1 + 1) := by rw [Nat.sub_add_cancel lb]; exact le_pl b
  have l3 := cc.le (by rw [e]; exact l1.mul l2)
  have t := ce_top l1 l2
  have tn : ce (pl s c) (a.length - 1 + (b.length - 1)) ≠ 0 := by
    rw [e, t]
    intro z
    rcases h.dom (ce_lo h.pos _ _) (ce_hi h.pos _ _) (ce_lo h.pos _ _) (ce_hi h.pos _ _) z with q | q
    · exact ca.top ha q
    · exact cb.top hb q
  have : a.length - 1 + (b.length - 1) < c.length := by
    by_cases q : a.length - 1 + (b.length - 1) < c.length
    · exact q
    · exact absurd (le_pl c _ (by omega)) tn
  omega
theorem mul_ne (h : Sz s) {x y : Rg s} {n m : Nat} (lx : Le x n) (ly : Le y m) (hx : x ≠ 0) (hy : y ≠ 0) : x * y ≠ 0 := by
  intro z
  have ca := li_can h.pos x n
  have cb := li_can h.pos y m
  have ha : li x n ≠ [] := fun q => hx (by rw [← pl_li lx, q, pl_nil])
  have hb : li y m ≠ [] := fun q => hy (by rw [← pl_li ly, q, pl_nil])
  have := len_mul h ca cb Can.nil ha hb (by rw [pl_nil, pl_li lx, pl_li ly, z])
  have la := List.length_pos_iff.mpr ha
  have lb := List.length_pos_iff.mpr hb
  simp at this
  omega
/-- the next power -/
def xR (s : Int) : Rg s := mkR s fun i => if i = 1 then 1 else 0
theorem conv_x (n : Nat) (q : Nat → Int) : conv n (fun i => if i = 1 then 1 else 0) q = if n = 0 then 0 else q (n - 1) := by
  cases n with
  | zero => simp [conv]
  | succ n =>
    have e : (fun i : Nat => if i + 1 = 1 then (1 : Int) else 0) = unitF 1 := by
      funext i
      unfold unitF
      by_cases h : i = 0 <;> simp [h]
    rw [conv, e, conv_unit]
    simp
theorem ce_x (y : Rg s) (i : Nat) : ce (xR s * y) i = if i = 0 then 0 else ce y (i - 1) := by
  revert y
  refine rg_ind fun f => ?_
  show conv i (fun i => if i = 1 then 1 else 0) f % s = _
  rw [conv_x]
  split
  · simp
  · rfl
theorem pl_cons (a : Int) (l : List Int) : pl s (a :: l) = (a : Rg s) + xR s * pl s l := rg_ext fun i => by
  rw [ce_add, ce_int, ce_x, ce_pl]
  cases i with
  | zero => simp [cf]
  | succ i => rw [if_neg (by omega), if_neg (by omega), cf_cons, ce_pl]; simp
theorem Le.x {y : Rg s} {n : Nat} (h : Le y n) : Le (xR s * y) (n + 1) := fun i hi => by
  rw [ce_x, if_neg (by omega), h _ (by omega)]
theorem pl_shift (l : List Int) : ∀ k : Nat, pl s (List.replicate k 0 ++ l) = xR s ^ k * pl s l
  | 0 => by rw [List.replicate_zero, List.nil_append]; grind
  | k + 1 => by
    rw [List.replicate_succ, List.cons_append, pl_cons, pl_shift l k]
    have : ((0 : Int) : Rg s) = 0 := rfl
    rw [this]
    grind
theorem pl_smul (c : Int) (l : List Int) : pl s (l.map fun n => c * n % s) = (c : Rg s) * pl s l := rg_ext fun i => by
  rw [ce_mul]
  have e : conv i (ce (c : Rg s)) (ce (pl s l)) % s = conv i (unitF c) (cf l) % s := conv_cong i (fun i => by rw [int_mk, ce_mk, Int.emod_emod]) (fun i => by rw [ce_pl, Int.emod_emod])
  rw [e, conv_unit, ce_pl]
  by_cases h : i < l.length
  · rw [cf_map _ _ h, Int.emod_emod]
  · rw [cf_ge (by simpa using by omega), cf_ge (by omega)]; simp
theorem int_mul (a b : Int) : ((a * b : Int) : Rg s) = (a : Rg s) * (b : Rg s) := mk_eq fun i => by
  show unitF (a * b) i = conv i (unitF a) (unitF b)
  rw [conv_unit]
  unfold unitF
  split <;> simp
theorem int_cong {a b : Int} (h : a % s = b % s) : (a : Rg s) = (b : Rg s) := mkR_eq.mpr fun i => by
  unfold unitF
  split
  · exact h
  · rfl
theorem int_mod (a : Int) : ((a % s : Int) : Rg s) = (a : Rg s) := int_cong (Int.emod_emod _ _)
theorem int_one : ((1 : Int) : Rg s) = 1 := rfl
theorem int_zero : ((0 : Int) : Rg s) = 0 := rfl
theorem pl_set {l : List Int} {j : Nat} {x : Int} (h : j < l.length) (h0 : cf l j = 0) : pl s (l.set j x) = pl s l + (x : Rg s) * xR s ^ j := by
  have e : (x : Rg s) * xR s ^ j = pl s (List.replicate j 0 ++ [x]) := by
    rw [pl_shift, pl_cons, pl_nil]; grind
  rw [e]
  refine rg_ext fun i => ?_
  rw [ce_add, ce_pl, ce_pl, ce_pl, cf_set _ _ _ _ h, cf_app, cf_rep, ← Int.add_emod]
  by_cases hi : i = j
  · subst hi
    rw [h0, if_pos rfl, if_neg (by simp), List.length_replicate, Nat.sub_self, cf_cons0, Int.zero_add]
  · rw [if_neg hi]
    by_cases h1 : i < j
    · simp [h1]
    · rw [if_neg (by simpa using h1), cf_ge (l := [x]) (by simp; omega)]
      simp
end
end Pf

set_option Elab.async false
set_option linter.all false
set_option maxRecDepth 100000
set_option maxHeartbeats 2000000
/-! Pm4: sums added, multiplied, parted. -/
namespace Pf
section
variable {s : Int}
instance : Decidable (Sz s) := by unfold Sz; infer_instance
instance (l : List Int) : Decidable (Can s l) := decidable_of_iff ((∀ i ∈ l, 0 ≤ i) ∧ (∀ i ∈ l, i < s) ∧ nzL l = true) ⟨fun h => ⟨h.1, h.2.1, h.2.2⟩, fun h => ⟨h.lo, h.hi, h.nz⟩⟩
def plusM (s : Int) (a b : List Int) : List Int := li (pl s a + pl s b) (max a.length b.length)
def timesM (s : Int) (a b : List Int) : List Int := li (pl s a * pl s b) (a.length + b.length)
theorem le_plus (a b : List Int) : Le (pl s a + pl s b) (max a.length b.length) := ((le_pl a).mono (by omega)).add ((le_pl b).mono (by omega))
theorem pl_plus (a b : List Int) : pl s (plusM s a b) = pl s a + pl s b := pl_li (le_plus a b)
theorem le_mul0 {x y : Rg s} {n m : Nat} (h : Le x n) (g : Le y m) : Le (x * y) (n + m - 1) := by
  cases n with
  | zero => rw [le_0.mp h]; have : (0 : Rg s) * y = 0 := by grind
            rw [this]; exact le_zero
  | succ n => cases m with
    | zero => rw [le_0.mp g]; have : x * (0 : Rg s) = 0 := by grind
              rw [this]; exact le_zero
    | succ m => exact (h.mul g).mono (by omega)
theorem le_times (a b : List Int) : Le (pl s a * pl s b) (a.length + b.length) := (le_mul0 (le_pl a) (le_pl b)).mono (by omega)
theorem pl_times (a b : List Int) : pl s (timesM s a b) = pl s a * pl s b := pl_li (le_times a b)
theorem plus_can (h : Sz s) (a b : List Int) : Can s (plusM s a b) := li_can h.pos _ _
theorem times_can (h : Sz s) (a b : List Int) : Can s (timesM s a b) := li_can h.pos _ _
theorem plus_len (a b : List Int) : (plusM s a b).length ≤ max a.length b.length := li_len _ _
theorem times_len (h : Sz s) (a b : List Int) : (timesM s a b).length ≤ a.length + b.length - 1 :=
  (times_can h a b).le (by rw [pl_times]; exact le_mul0 (le_pl a) (le_pl b))
theorem times_len_eq (h : Sz s) {a b : List Int} (ca : Can s a) (cb : Can s b) (ha : a ≠ []) (hb : b ≠ []) : (timesM s a b).length + 1 = a.length + b.length :=
  len_mul h ca cb (times_can h a b) ha hb (pl_times a b)
theorem can_pl0 {a : List Int} (c : Can s a) : pl s a = 0 ↔ a = [] := ⟨fun h => can_ext c Can.nil (h.trans pl_nil.symm), fun h => by rw [h, pl_nil]⟩
/-- what turns a number over -/
def invM (s a : Int) : Int := (((List.range s.toNat).map Int.ofNat).filter fun k => decide (a * k % s = 1)).headD 0
theorem inv_ok (h : Sz s) {a : Int} (a0 : 0 < a) (a1 : a < s) : 0 < invM s a ∧ invM s a < s ∧ a * invM s a % s = 1 ∧ ∃ r, ((List.range s.toNat).map Int.ofNat).filter (fun k => decide (a * k % s = 1)) = invM s a :: r := by
  have : a = 1 ∨ a = 2 ∨ a = 3 ∨ a = 4 := by rcases h with h | h | h <;> omega
  rcases h with h | h | h <;> subst h <;> rcases this with q | q | q | q <;> subst q <;> first | omega | exact ⟨by decide, by decide, by decide, [], by decide⟩
/-- a sum less another one so often, the powers moved up -/
def lowM (s : Int) (r : List Int) (c : Int) (b : List Int) (k : Nat) : List Int := li (pl s r - pl s (List.replicate k 0 ++ b.map fun n => c * n % s)) (max r.length (k + b.length))
theorem le_low (r : List Int) (c : Int) (b : List Int) (k : Nat) : Le (pl s r - pl s (List.replicate k 0 ++ b.map fun n => c * n % s)) (max r.length (k + b.length)) :=
  ((le_pl r).mono (by omega)).sub ((le_pl _).mono (by simp; omega))
theorem pl_low (r : List Int) (c : Int) (b : List Int) (k : Nat) : pl s (lowM s r c b k) = pl s r - (c : Rg s) * xR s ^ k * pl s b := by
  unfold lowM
  rw [pl_li (le_low r c b k), pl_shift, pl_smul]
  grind
theorem low_can (h : Sz s) (r : List Int) (c : Int) (b : List Int) (k : Nat) : Can s (lowM s r c b k) := li_can h.pos _ _
theorem ce_sub (x y : Rg s) (i : Nat) : ce (x - y) i = (ce x i - ce y i) % s := by
  show ce (x + -y) i = _
  rw [ce_add, ce_neg, Int.add_emod, Int.emod_emod, ← Int.add_emod]
  rfl
/-- .. shorter -/
theorem low_len (h : Sz s) {r b : List Int} (cr : Can s r) (cb : Can s b) (hb : b ≠ []) (hl : b.length ≤ r.length) {lead : Int} (e : cf b (b.length - 1) * lead % s = 1) :
    (lowM s r (cf r (r.length - 1) * lead % s) b (r.length - b.length)).length < r.length := by
  have lb := List.length_pos_iff.mpr hb
  have lr : 0 < r.length := by omega
  have l1 : (lowM s r (cf r (r.length - 1) * lead % s) b (r.length - b.length)).length ≤ r.length := by
    have := li_len (pl s r - pl s (List.replicate (r.length - b.length) 0 ++ b.map fun n => cf r (r.length - 1) * lead % s * n % s)) (max r.length (r.length - b.length + b.length))
    unfold lowM
    omega
  refine Nat.lt_of_le_of_lt ((low_can h r _ b _).le (n := r.length - 1) fun i hi => ?_) (by omega)
  by_cases q : i = r.length - 1
  · subst q
    unfold lowM
    rw [pl_li (le_low _ _ _ _), ce_sub, cr.ce, ce_pl, cf_app, List.length_replicate, if_neg (by omega)]
    have e1 : r.length - 1 - (r.length - b.length) = b.length - 1 := by omega
    rw [e1, cf_map _ _ (by omega), Int.emod_emod]
    have e2 : cf r (r.length - 1) * lead % s * cf b (b.length - 1) % s = cf r (r.length - 1) := by
      rw [Int.mul_emod, Int.emod_emod, ← Int.mul_emod, Int.mul_assoc, Int.mul_comm lead, Int.mul_emod, e, Int.mul_one, Int.emod_emod, cf_mod cr.lo cr.hi]
    rw [e2, Int.sub_self]; rfl
  · exact le_pl _ i (by omega)
def divM (s : Int) (b : List Int) (lead : Int) : Nat → List Int → List Int → List Int × List Int
  | 0, m, r => (m, r)
  | n + 1, m, r => if b.length ≤ r.length then divM s b lead n (m.set (r.length - b.length) (cf r (r.length - 1) * lead % s)) (lowM s r (cf r (r.length - 1) * lead % s) b (r.length - b.length)) else (m, r)
theorem emod_in (h : Sz s) (x : Int) : 0 ≤ x % s ∧ x % s < s := ⟨Int.emod_nonneg _ (by have := h.pos; omega), Int.emod_lt_of_pos _ h.pos⟩
theorem div_ok (h : Sz s) {b : List Int} (cb : Can s b) (hb : b ≠ []) {lead : Int} (e : cf b (b.length - 1) * lead % s = 1) : ∀ (n : Nat) (m r : List Int), Can s r → r.length ≤ n → (∀ i, i + b.length ≤ r.length → cf m i = 0) → r.length + 1 ≤ m.length + b.length → (∀ i ∈ m, 0 ≤ i ∧ i < s) →
    Can s (divM s b lead n m r).2 ∧ (divM s b lead n m r).2.length < b.length ∧ pl s (divM s b lead n m r).1 * pl s b + pl s (divM s b lead n m r).2 = pl s m * pl s b + pl s r ∧ (∀ i ∈ (divM s b lead n m r).1, 0 ≤ i ∧ i < s) ∧ (divM s b lead n m r).1.length = m.length
  | 0, m, r, cr, hn, hz, hl, hm => by
    have lb := List.length_pos_iff.mpr hb
    exact ⟨cr, by unfold divM; show r.length < b.length; omega, rfl, hm, rfl⟩
  | n + 1, m, r, cr, hn, hz, hl, hm => by
    have lb := List.length_pos_iff.mpr hb
    unfold divM
    split
    · rename_i hle
      have sh := low_len h cr cb hb hle e
      obtain ⟨q1, q2, q3, q4, q5⟩ := div_ok h cb hb e n (m.set (r.length - b.length) (cf r (r.length - 1) * lead % s)) (lowM s r (cf r (r.length - 1) * lead % s) b (r.length - b.length)) (low_can h _ _ _ _) (by omega) (fun i hi => by
        rw [cf_set _ _ _ _ (by omega), if_neg (by omega)]
        exact hz i (by omega)) (by rw [List.length_set]; omega) (fun i hi => by
        rcases List.mem_or_eq_of_mem_set hi with z | z
        · exact hm i z
        · rw [z]; exact emod_in h _)
      refine ⟨q1, q2, ?_, q4, by rw [q5, List.length_set]⟩
      rw [q3, pl_low, pl_set (by omega) (hz _ (by omega))]
      generalize xR s ^ (r.length - b.length) = x
      grind
    · rename_i hlt
      exact ⟨cr, by show r.length < b.length; omega, rfl, hm, rfl⟩
/-- how often a sum goes into another one, and the rest -/
def leadM (s : Int) (b : List Int) : Int := invM s (cf b (b.length - 1))
def partM (s : Int) (a b : List Int) : List Int × List Int :=
  let z := divM s b (leadM s b) a.length (List.replicate (a.length + 1 - b.length) 0) a
  (trimM z.1, z.2)
def quoM (s : Int) (a b : List Int) : List Int := (partM s a b).1
def restM (s : Int) (a b : List Int) : List Int := (partM s a b).2
theorem last_in {b : List Int} (cb : Can s b) (hb : b ≠ []) : 0 < cf b (b.length - 1) ∧ cf b (b.length - 1) < s := by
  have lb := List.length_pos_iff.mpr hb
  have h1 := cb.lo _ (cf_mem (show b.length - 1 < b.length by omega))
  have h2 := cb.hi _ (cf_mem (show b.length - 1 < b.length by omega))
  have h3 := nz_last cb.nz hb
  omega
theorem lead_ok (h : Sz s) {b : List Int} (cb : Can s b) (hb : b ≠ []) : cf b (b.length - 1) * leadM s b % s = 1 := (inv_ok h (last_in cb hb).1 (last_in cb hb).2).2.2.1
structure PartOk (s : Int) (a b q r : List Int) : Prop where
  cq : Can s q
  cr : Can s r
  lt : r.length < b.length
  eq : pl s a = pl s q * pl s b + pl s r
  lq : q.length ≤ a.length + 1 - b.length
theorem part_ok (h : Sz s) {a b : List Int} (ca : Can s a) (cb : Can s b) (hb : b ≠ []) : PartOk s a b (quoM s a b) (restM s a b) := by
  have lb := List.length_pos_iff.mpr hb
  obtain ⟨q1, q2, q3, q4, q5⟩ := div_ok h cb hb (lead_ok h cb hb) a.length (List.replicate (a.length + 1 - b.length) 0) a ca (Nat.le_refl _) (fun i _ => by rw [cf_rep]; split <;> rfl) (by rw [List.length_replicate]; omega) (fun i hi => by
    rw [List.eq_of_mem_replicate hi]; exact ⟨Int.le_refl _, h.pos⟩)
  refine ⟨can_trim (fun i hi => (q4 i hi).1) (fun i hi => (q4 i hi).2), q1, q2, ?_, ?_⟩
  · show _ = pl s (trimM _) * _ + _
    rw [pl_trim, restM, partM]
    simp only
    rw [q3]
    have : pl s (List.replicate (a.length + 1 - b.length) 0) = 0 := by
      have e := pl_shift (s := s) [] (a.length + 1 - b.length)
      rw [List.append_nil, pl_nil] at e
      rw [e]; grind
    rw [this]
    grind
  · have := trim_len (divM s b (leadM s b) a.length (List.replicate (a.length + 1 - b.length) 0) a).1
    rw [q5, List.length_replicate] at this
    exact this
/-- parted in one way alone -/
theorem part_uniq (h : Sz s) {b : List Int} (cb : Can s b) (hb : b ≠ []) {x y x' y' : Rg s} {n m k : Nat} (lx : Le x n) (lx' : Le x' m) (ly : Le y k) (ly' : Le y' k) (hk : k < b.length) (e : x * pl s b + y = x' * pl s b + y') : x = x' ∧ y = y' := by
  have e1 : (x - x') * pl s b = y' - y := by grind
  have lxx : Le (x - x') (max n m) := (lx.mono (by omega)).sub (lx'.mono (by omega))
  have lyy : Le (y' - y) k := ly'.sub ly
  by_cases hx : x - x' = 0
  · rw [hx] at e1
    exact ⟨by grind, by grind⟩
  · exfalso
    have c1 := li_can h.pos (x - x') (max n m)
    have c2 := li_can h.pos (y' - y) k
    have h1 : li (x - x') (max n m) ≠ [] := fun z => hx (by rw [← pl_li lxx, z, pl_nil])
    have := len_mul h c1 cb c2 h1 hb (by rw [pl_li lxx, pl_li lyy, e1])
    have l1 := List.length_pos_iff.mpr h1
    have l2 := li_len (y' - y) k
    omega
theorem part_by (h : Sz s) {a b : List Int} (ca : Can s a) (cb : Can s b) (hb : b ≠ []) {x y : Rg s} {n k : Nat} (lx : Le x n) (ly : Le y k) (hk : k < b.length) (e : pl s a = x * pl s b + y) : pl s (quoM s a b) = x ∧ pl s (restM s a b) = y := by
  have p := part_ok h ca cb hb
  have lt := p.lt
  exact part_uniq h cb hb (le_pl _) lx ((le_pl _).mono (show (restM s a b).length ≤ b.length - 1 by omega)) (ly.mono (by omega)) (by omega) (by rw [← p.eq, e])
/-- poly: of some length -/
def Fi (x : Rg s) : Prop := ∃ n, Le x n
theorem fi_pl (l : List Int) : Fi (pl s l) := ⟨_, le_pl l⟩
theorem Fi.add {x y : Rg s} : Fi x → Fi y → Fi (x + y) := fun ⟨n, h⟩ ⟨m, g⟩ => ⟨max n m, (h.mono (by omega)).add (g.mono (by omega))⟩
theorem Fi.neg {x : Rg s} : Fi x → Fi (-x) := fun ⟨n, h⟩ => ⟨n, h.neg⟩
theorem Fi.sub {x y : Rg s} (h : Fi x) (g : Fi y) : Fi (x - y) := h.add g.neg
theorem Fi.mul {x y : Rg s} : Fi x → Fi y → Fi (x * y) := fun ⟨n, h⟩ ⟨m, g⟩ => ⟨_, le_mul0 h g⟩
theorem fi_zero : Fi (0 : Rg s) := ⟨0, le_zero⟩
theorem fi_int (c : Int) : Fi (c : Rg s) := ⟨1, le_int c⟩
theorem fi_one : Fi (1 : Rg s) := fi_int 1
theorem fi_x : Fi (xR s) := ⟨2, fun i hi => by
  show (if i = 1 then (1 : Int) else 0) % s = 0
  rw [if_neg (by omega)]; simp⟩
theorem Fi.pow {x : Rg s} (h : Fi x) : ∀ n : Nat, Fi (x ^ n)
  | 0 => by have : x ^ 0 = 1 := by grind
            rw [this]; exact fi_one
  | n + 1 => by have : x ^ (n + 1) = x ^ n * x := by grind
                rw [this]; exact (h.pow n).mul h
theorem Fi.list (h : Sz s) {x : Rg s} : Fi x → ∃ l, Can s l ∧ pl s l = x := fun ⟨n, g⟩ => ⟨li x n, li_can h.pos _ _, pl_li g⟩
/-- y is x so often -/
def Dv (x y : Rg s) : Prop := ∃ z, Fi z ∧ y = z * x
theorem rest_nil (h : Sz s) {a b : List Int} (ca : Can s a) (cb : Can s b) (hb : b ≠ []) : restM s a b = [] ↔ Dv (pl s b) (pl s a) := by
  have p := part_ok h ca cb hb
  constructor
  · intro e
    refine ⟨pl s (quoM s a b), fi_pl _, ?_⟩
    rw [p.eq, e, pl_nil]; grind
  · rintro ⟨z, ⟨n, hz⟩, e⟩
    have := (part_by h ca cb hb hz (le_zero (n := 0)) (List.length_pos_iff.mpr hb) (by rw [e]; grind)).2
    exact (can_pl0 p.cr).mp this
/-- rests alike -/
def Cg (b x y : Rg s) : Prop := Dv b (x - y)
theorem Cg.refl (b x : Rg s) : Cg b x x := ⟨0, fi_zero, by grind⟩
theorem Cg.symm {b x y : Rg s} : Cg b x y → Cg b y x := fun ⟨z, f, e⟩ => ⟨-z, f.neg, by grind⟩
theorem Cg.trans {b x y z : Rg s} : Cg b x y → Cg b y z → Cg b x z := fun ⟨u, f, e⟩ ⟨v, g, e2⟩ => ⟨u + v, f.add g, by grind⟩
theorem Cg.mul {b x y z w : Rg s} (fx : Fi x) (fw : Fi w) : Cg b x y → Cg b z w → Cg b (x * z) (y * w) := fun ⟨u, f, e⟩ ⟨v, g, e2⟩ => ⟨u * w + v * x, (f.mul fw).add (g.mul fx), by grind⟩
theorem Cg.add {b x y z w : Rg s} : Cg b x y → Cg b z w → Cg b (x + z) (y + w) := fun ⟨u, f, e⟩ ⟨v, g, e2⟩ => ⟨u + v, f.add g, by grind⟩
theorem rest_cg (h : Sz s) {a b : List Int} (ca : Can s a) (cb : Can s b) (hb : b ≠ []) : Cg (pl s b) (pl s (restM s a b)) (pl s a) := by
  have p := part_ok h ca cb hb
  exact ⟨-pl s (quoM s a b), (fi_pl _).neg, by rw [p.eq]; grind⟩
theorem rest_eq (h : Sz s) {a c b : List Int} (ca : Can s a) (cc : Can s c) (cb : Can s b) (hb : b ≠ []) : restM s a b = restM s c b ↔ Cg (pl s b) (pl s a) (pl s c) := by
  have p := part_ok h ca cb hb
  have q := part_ok h cc cb hb
  constructor
  · intro e
    have h1 := rest_cg h ca cb hb
    rw [e] at h1
    exact h1.symm.trans (rest_cg h cc cb hb)
  · rintro ⟨z, hz, e⟩
    have lt := q.lt
    obtain ⟨n, l⟩ := (hz.add (fi_pl (quoM s c b)))
    have := (part_by h ca cb hb l ((le_pl (restM s c b)).mono (show _ ≤ b.length - 1 by omega)) (by omega) (by
      have := q.eq
      grind)).2
    exact can_ext p.cr q.cr this
theorem rest_id (h : Sz s) {a b : List Int} (ca : Can s a) (cb : Can s b) (hl : a.length < b.length) : restM s a b = a := by
  have hb : b ≠ [] := fun z => by rw [z] at hl; exact absurd hl (Nat.not_lt_zero _)
  have := (part_by h ca cb hb (le_zero (n := 0)) (le_pl a) hl (by grind)).2
  exact can_ext (part_ok h ca cb hb).cr ca this
end
end Pf

set_option Elab.async false
set_option linter.all false
set_option maxRecDepth 100000
set_option maxHeartbeats 2000000
/-! Pf13: slices of either kind; what is never reached. -/
namespace Pf
open PySem PySem.Spec L2
section
variable {T : Ct} {a b c tg iter : Expr} {ga gb gc : En → Option D} {pos : Pos}
def slA (d : D) (lo hi : Option Int) : Option D := match d with
  | .lst ds => some (.lst (cutD ds lo hi))
  | d => slD' d lo hi
def gSlA (g : En → Option D) (lo hi : En → Option (Option Int)) : En → Option D := fun ρ => (g ρ).bind fun d => (lo ρ).bind fun l => (hi ρ).bind fun h => slA d l h
variable {lo hi : Option Expr} {gl gh : En → Option (Option Int)} {p2 : Pos}
theorem se_slA (ha : SE T a ga) (hl : SO T lo gl) (hh : SO T hi gh) : SE T (.Subscript a (.Slice lo hi none p2) pos) (gSlA ga gl gh) := by
  intro X G σ H ρ d env hd Q q
  unfold gSlA at hd
  cases e1 : ga ρ with
  | none => rw [e1] at hd; cases hd
  | some x =>
  cases x with
  | lst ds =>
    refine se_of_sl (sl_sl ha hl hh) X G σ H ρ d env ?_ Q q
    rw [e1] at hd
    unfold gL gSlL
    rw [e1]
    cases e2 : gl ρ with
    | none => rw [e2] at hd; cases hd
    | some l =>
    cases e3 : gh ρ with
    | none => rw [e2, e3] at hd; cases hd
    | some h => rw [e2, e3] at hd; exact hd
  | _ =>
    refine se_sl ha hl hh X G σ H ρ d env ?_ Q q
    rw [e1] at hd
    unfold gSl
    rw [e1]
    exact hd
@[simp] theorem slA_lst (ds : List D) (l h : Option Int) : slA (.lst ds) l h = some (.lst (cutD ds l h)) := rfl
@[simp] theorem slA_tup (ds : List D) (l h : Option Int) : slA (.tup ds) l h = some (.tup (cutD ds l h)) := rfl
@[simp] theorem gSlA_ap (ρ : En) (lo hi : En → Option (Option Int)) : gSlA ga lo hi ρ = (ga ρ).bind fun d => (lo ρ).bind fun l => (hi ρ).bind fun h => slA d l h := rfl
theorem env_fg {K : PySem.W.Frag} {H : Hp} {σ : L2.St} {ρ : En} (h : Env K H σ ρ) (i : Nat) : Env K H σ (ρ.set i .un) := by
  refine ⟨by rw [List.length_set]; exact h.len, fun j s ov e1 e2 => ?_⟩
  by_cases z : i = j
  · subst z
    have hi : i < ρ.length := by
      rw [← h.len]
      exact (List.getElem?_eq_some_iff.mp e2).1
    rw [List.getElem?_set_self hi] at e1
    cases e1
    trivial
  · rw [List.getElem?_set_ne z] at e1
    exact h.at_ j s ov e1 e2
theorem own_fg {ρ : En} {σ : L2.St} {a : Addr} {i : Nat} (h : own (ρ.set i .un) σ a) : own ρ σ a := by
  obtain ⟨j, ds, e1, e2⟩ := h
  by_cases z : i = j
  · subst z
    rw [List.getElem?_set] at e1
    split at e1
    · split at e1
      · cases e1
      · cases e1
    · contradiction
  · rw [List.getElem?_set_ne z] at e1
    exact ⟨j, ds, e1, e2⟩
theorem evo_fg {ρ ρ' : En} {σ σ' : L2.St} {H H' : Hp} {i : Nat} (e : Evo (ρ.set i .un) σ H ρ' σ' H') : Evo ρ σ H ρ' σ' H' :=
  ⟨fun a o h n => e.keep a o h fun z => n (own_fg z), fun a h => (e.owns a h).imp own_fg id, e.kp⟩
/-- a slot forgotten -/
def wFg (i : Nat) (W : Po → En → Prop) : Po → En → Prop := fun P ρ => W P (ρ.set i .un)
theorem sb_fg (i : Nat) {st : List Stmt} {W : Po → En → Prop} (h : SB T st W) : SB T st (wFg i W) := fun X G σ H ρ P E env w c =>
  h X G σ H (ρ.set i .un) P E (env_fg env i) w ⟨fun σ' H' ρ' h1 h2 h3 => c.nx σ' H' ρ' h1 (evo_fg h2) h3, fun v σ' H' ρ' d h1 h2 h3 => c.rt v σ' H' ρ' d (evo_fg h1) h2 h3, fun σ' H' ρ' h1 h2 h3 => c.bk σ' H' ρ' h1 (evo_fg h2) h3, fun σ' H' ρ' h1 h2 h3 => c.ct σ' H' ρ' h1 (evo_fg h2) h3⟩
@[simp] theorem wFg_ap (i : Nat) (W : Po → En → Prop) (P : Po) (ρ : En) : wFg i W P ρ = W P (ρ.set i .un) := rfl
/-- a list no more owned (it stays as it is) -/
theorem env_di {K : PySem.W.Frag} {H : Hp} {σ : L2.St} {ρ : En} (h : Env K H σ ρ) {i : Nat} {ds : List D} (hr : ρ[i]? = some (.ow ds)) : Env K H σ (ρ.set i (.im (.lst ds))) := by
  refine ⟨by rw [List.length_set]; exact h.len, fun j s ov e1 e2 => ?_⟩
  by_cases z : i = j
  · subst z
    have hi : i < ρ.length := (List.getElem?_eq_some_iff.mp hr).1
    rw [List.getElem?_set_self hi] at e1
    cases e1
    obtain ⟨p, xs, rfl, q1, q2⟩ := h.at_ i _ ov hr e2
    exact ⟨.ref p, rfl, .lst q1 q2⟩
  · rw [List.getElem?_set_ne z] at e1
    exact h.at_ j s ov e1 e2
theorem own_di {ρ : En} {σ : L2.St} {a : Addr} {i : Nat} {d : D} (h : own (ρ.set i (.im d)) σ a) : own ρ σ a := by
  obtain ⟨j, ds, e1, e2⟩ := h
  by_cases z : i = j
  · subst z
    rw [List.getElem?_set] at e1
    split at e1
    · split at e1
      · cases e1
      · cases e1
    · contradiction
  · rw [List.getElem?_set_ne z] at e1
    exact ⟨j, ds, e1, e2⟩
theorem evo_di {ρ ρ' : En} {σ σ' : L2.St} {H H' : Hp} {i : Nat} {d : D} (e : Evo (ρ.set i (.im d)) σ H ρ' σ' H') : Evo ρ σ H ρ' σ' H' :=
  ⟨fun a o h n => e.keep a o h fun z => n (own_di z), fun a h => (e.owns a h).imp own_di id, e.kp⟩
def wDi (i : Nat) (W : Po → En → Prop) : Po → En → Prop := fun P ρ => ∃ ds, ρ[i]? = some (.ow ds) ∧ W P (ρ.set i (.im (.lst ds)))
theorem sb_di (i : Nat) {st : List Stmt} {W : Po → En → Prop} (h : SB T st W) : SB T st (wDi i W) := fun X G σ H ρ P E env ⟨ds, hr, w⟩ c =>
  h X G σ H (ρ.set i (.im (.lst ds))) P E (env_di env hr) w ⟨fun σ' H' ρ' h1 h2 h3 => c.nx σ' H' ρ' h1 (evo_di h2) h3, fun v σ' H' ρ' d h1 h2 h3 => c.rt v σ' H' ρ' d (evo_di h1) h2 h3, fun σ' H' ρ' h1 h2 h3 => c.bk σ' H' ρ' h1 (evo_di h2) h3, fun σ' H' ρ' h1 h2 h3 => c.ct σ' H' ρ' h1 (evo_di h2) h3⟩
@[simp] theorem wDi_ap (i : Nat) (W : Po → En → Prop) (P : Po) (ρ : En) : wDi i W P ρ = ∃ ds, ρ[i]? = some (.ow ds) ∧ W P (ρ.set i (.im (.lst ds))) := rfl
theorem ss_asgS {ga : En → Option D} {is : List Nat} {set : D → En → Option En} (he : SE T a ga) (hg : SG T tg is set) (hw : ∀ env : PySem.Env, env.scope = T.sc → swappedStores [tg] a env = pure none) (hs : ∀ env, swapsWithSole [tg] a pos.line env = pure false := by intro _; rfl) (h1 : ∀ env, (assignEach [tg] env).map (·.2) = [assign tg env] := by intro _; rfl) : SS T (.Assign [tg] a pos) (wAsg ga set) := by
  intro X G σ H ρ P E env h c
  obtain ⟨d, ρ', e1, e2, h⟩ := h
  refine ⟨_, ps_asg pe_w pg_w (hs X.env) (hw X.env G.1.hs) (h1 X.env), ?_⟩
  refine he X G.1 σ H ρ d env e1 _ fun v H1 s1 d1 => ?_
  refine hg X G.1 σ H1 ρ v d ρ' (env.mono s1) d1 e2 _ fun σ' env' _ q1 q2 => ?_
  exact c.nx σ' H1 ρ' env' ((evo_same s1).trans (evo_any q1 q2)) h
def wDead : Po → En → Prop := fun _ _ => False
theorem ss_dead {st : Stmt} : SS T st wDead := fun _ _ _ _ _ _ _ _ h _ => h.elim
@[simp] theorem wDead_ap (P : Po) (ρ : En) : wDead P ρ = False := rfl
end
end Pf

set_option Elab.async false
set_option linter.all false
set_option maxRecDepth 100000
set_option maxHeartbeats 2000000
/-! Pm5: what the reckoning defs give. -/
namespace Pf
open PySem PySem.Spec L2
theorem atI_cf {ns : List Int} {k : Int} (h0 : 0 ≤ k) (h1 : k < ns.length) : atI (ns.map D.int) k = some (.int (cf ns k.toNat)) := by
  rw [atI_map, atI_get h0 (List.getElem?_eq_getElem (show k.toNat < ns.length by omega)), cf_lt (show k.toNat < ns.length by omega)]
  rfl
theorem atI_end {ns : List Int} (h : ns ≠ []) : atI (ns.map D.int) (-1) = some (.int (cf ns (ns.length - 1))) := by
  cases q : ns.getLast? with
  | none => exact absurd (List.getLast?_eq_none_iff.mp q) h
  | some i => rw [last_at q, (cf_last q).2]
theorem cut_to {ds : List D} {k : Int} (h0 : 0 ≤ k) : cutD ds none (some k) = ds.take k.toNat := by
  unfold cutD
  show (ds.drop 0).take ((if k < 0 then (k + (ds.length : Int)).toNat else min k.toNat ds.length) - 0) = _
  rw [if_neg (by omega), Nat.sub_zero, List.drop_zero]
  by_cases h : k.toNat ≤ ds.length
  · rw [Nat.min_eq_left h]
  · rw [Nat.min_eq_right (by omega), List.take_length, List.take_of_length_le (by omega)]
theorem map_take' (ns : List Int) (n : Nat) : (ns.map D.int).take n = (ns.take n).map D.int := by rw [List.map_take]
theorem map_set' (ns : List Int) (n : Nat) (x : Int) : (ns.map D.int).set n (.int x) = (ns.set n x).map D.int := by rw [List.map_set]
theorem map_rep' (n : Nat) : (List.replicate n [D.int 0]).flatten = (List.replicate n (0 : Int)).map D.int := by
  induction n with
  | zero => rfl
  | succ n ih => rw [List.replicate_succ, List.flatten_cons, ih]; rfl
theorem rep_flat {α : Type} (n : Nat) (x : α) : (List.replicate n [x]).flatten = List.replicate n x := by
  induction n with
  | zero => rfl
  | succ n ih => rw [List.replicate_succ, List.flatten_cons, ih]; rfl
theorem getD_map (ns : List Int) (i : Nat) : (ns.map D.int)[i]? = if i < ns.length then some (.int (cf ns i)) else none := by
  rw [List.getElem?_map]
  split
  · rename_i h
    rw [List.getElem?_eq_getElem h, cf_lt h]; rfl
  · rename_i h
    rw [List.getElem?_eq_none (by omega)]; rfl
theorem en_get {ns : List Int} {i : Nat} {d : D} (h : (enD 0 (ns.map D.int))[i]? = some d) : i < ns.length ∧ d = .tup [.int (i : Nat), .int (cf ns i)] := by
  rw [enD_get, getD_map] at h
  split at h
  · rename_i hi
    refine ⟨hi, ?_⟩
    simp only [Option.map_some, Option.some.injEq, Nat.zero_add] at h
    exact h.symm
  · cases h
@[simp] theorem lfA_en (ns : List Int) : lfA (enD 0 (ns.map D.int)) = true := by rw [lfA_enD]; exact lfA_ints ns
theorem ixN_in {n : Nat} {k : Int} (h0 : 0 ≤ k) (h1 : k < n) : ixN n k = some k.toNat := by
  unfold ixN
  rw [if_pos h0, if_pos h1]
theorem trim_step {l : List Int} {n : Nat} (h : n < l.length) (e : cf l n = 0) : trimM (l.take (n + 1)) = trimM (l.take n) := by
  have : l.take (n + 1) = l.take n ++ [0] := by
    rw [List.take_succ, List.getElem?_eq_getElem h]
    rw [cf_lt h] at e
    rw [e]; rfl
  rw [this, trim_snoc0]
theorem trim_stop {l : List Int} {n : Nat} (h : n ≤ l.length) (e : n = 0 ∨ cf l (n - 1) ≠ 0) : trimM (l.take n) = l.take n := by
  refine trim_id (nz_of fun hne => ?_)
  have hl : (l.take n).length = n := by rw [List.length_take]; omega
  have hp := List.length_pos_iff.mpr hne
  rw [hl, cf_take, if_pos (by omega)]
  rcases e with z | z
  · omega
  · exact z
def trimD (ds : List D) : Option D := (dInts ds).bind fun ns => if ns.length ≤ 2000 then some (tI (trimM ns)) else none
def trimA (x : D) : Option D := match x with
  | .lst ds => trimD ds
  | .tup ds => trimD ds
  | _ => none
def f_trimmed : List D → Option D := kA trimA
@[simp] theorem trimA_lst (ns : List Int) : trimA (.lst (ns.map .int)) = if ns.length ≤ 2000 then some (tI (trimM ns)) else none := by simp [trimA, trimD]
@[simp] theorem trimA_tup (ns : List Int) : trimA (.tup (ns.map .int)) = if ns.length ≤ 2000 then some (tI (trimM ns)) else none := by simp [trimA, trimD]
theorem trimA_of {x d : D} (h : trimA x = some d) : ∃ ns : List Int, (x = lI ns ∨ x = tI ns) ∧ ns.length ≤ 2000 ∧ d = tI (trimM ns) := by
  have go : ∀ ds, trimD ds = some d → ∃ ns : List Int, ds = ns.map D.int ∧ ns.length ≤ 2000 ∧ d = tI (trimM ns) := fun ds h => by
    unfold trimD at h
    cases e : dInts ds with
    | none => rw [e] at h; cases h
    | some ns =>
      rw [e] at h
      simp only [Option.bind_some, Option.ite_none_right_eq_some] at h
      exact ⟨ns, dInts_some e, h.1, (Option.some.inj h.2).symm⟩
  cases x <;> try (cases h; done)
  · obtain ⟨ns, rfl, h1, h2⟩ := go _ h
    exact ⟨ns, .inr rfl, h1, h2⟩
  · obtain ⟨ns, rfl, h1, h2⟩ := go _ h
    exact ⟨ns, .inl rfl, h1, h2⟩
def f_law_trim : List D → Option D := kL fun ns => if ns.length ≤ 2000 then some (tI (trimM ns)) else none
def f_inverse_of : List D → Option D := kII fun a s => if Sz s ∧ 0 < a ∧ a < s then some (.int (invM s a)) else none
def okC (s : Int) (a b : List Int) (m : Nat) : Prop := Sz s ∧ Can s a ∧ Can s b ∧ a.length + b.length ≤ m
instance (s : Int) (a b : List Int) (m : Nat) : Decidable (okC s a b m) := by unfold okC; infer_instance
def f_plus : List D → Option D := kTTI fun a b s => if okC s a b 1000 then some (tI (plusM s a b)) else none
def f_times : List D → Option D := kTTI fun a b s => if okC s a b 1000 then some (tI (timesM s a b)) else none
def f_law_plus : List D → Option D := kTTI fun a b s => if okC s a b 1000 then some (tI (plusM s a b)) else none
/-- numbers of the clock -/
structure InR (s : Int) (l : List Int) : Prop where
  lo : ∀ i ∈ l, 0 ≤ i
  hi : ∀ i ∈ l, i < s
theorem Can.inR {s : Int} {l : List Int} (c : Can s l) : InR s l := ⟨c.lo, c.hi⟩
theorem InR.cf_lo {s : Int} {l : List Int} (c : InR s l) (i : Nat) : 0 ≤ cf l i := by
  by_cases h : i < l.length
  · exact c.lo _ (cf_mem h)
  · rw [cf_ge (by omega)]; omega
theorem InR.take {s : Int} {l : List Int} (c : InR s l) (n : Nat) : InR s (l.take n) := ⟨fun i hi => c.lo i (List.mem_of_mem_take hi), fun i hi => c.hi i (List.mem_of_mem_take hi)⟩
instance (s : Int) (l : List Int) : Decidable (InR s l) := decidable_of_iff ((∀ i ∈ l, 0 ≤ i) ∧ (∀ i ∈ l, i < s)) ⟨fun h => ⟨h.1, h.2⟩, fun h => ⟨h.lo, h.hi⟩⟩
def okI (s : Int) (a b : List Int) (m : Nat) : Prop := Sz s ∧ InR s a ∧ InR s b ∧ a.length + b.length ≤ m
instance (s : Int) (a b : List Int) (m : Nat) : Decidable (okI s a b m) := by unfold okI; infer_instance
def f_law_times : List D → Option D := kTTI fun a b s => if okI s a b 1000 then some (tI (timesM s a b)) else none
def f_lowered : List D → Option D := kTITII fun a c b k s => if okC s a b 400 ∧ 0 ≤ c ∧ c < s ∧ 0 ≤ k ∧ k ≤ 400 then some (tI (lowM s a c b k.toNat)) else none
def okP (s : Int) (a b : List Int) : Prop := okC s a b 400 ∧ b ≠ []
instance (s : Int) (a b : List Int) : Decidable (okP s a b) := by unfold okP; infer_instance
def f_parted : List D → Option D := kTTI fun a b s => if okP s a b then some (.tup [tI (quoM s a b), tI (restM s a b)]) else none
def f_law_rest : List D → Option D := kTTI fun a b s => if okP s a b then some (tI (restM s a b)) else none
/-- the value at a number -/
def evM (s : Int) (a : List Int) (n : Int) : Int := a.foldr (fun c v => (v * n + c) % s) 0
def f_value : List D → Option D := kTII fun a n s => if Sz s ∧ Can s a ∧ a.length ≤ 400 ∧ 0 ≤ n ∧ n < s then some (.int (evM s a n)) else none
def f_law_value : List D → Option D := kTII fun a n s => if Sz s ∧ Can s a ∧ a.length ≤ 400 ∧ 0 ≤ n ∧ n < s then some (.int (evM s a n)) else none
def rootsM (s : Int) (a : List Int) : List Int := ((List.range s.toNat).map Int.ofNat).filter fun n => decide (evM s a n = 0)
def f_roots : List D → Option D := kTI fun a s => if Sz s ∧ Can s a ∧ a.length ≤ 400 then some (tI (rootsM s a)) else none
theorem rngD_ints (n : Nat) : rngD 0 n = ((List.range n).map Int.ofNat).map D.int := by
  unfold rngD
  rw [List.map_map]
  refine List.map_congr_left fun i _ => ?_
  simp
theorem rngD_ints' (lo : Int) (n : Nat) : rngD lo n = ((List.range n).map fun i : Nat => lo + (i : Int)).map D.int := by
  unfold rngD
  rw [List.map_map]
  rfl
theorem lcG_int {i : Nat} {gt : En → Option Bool} {ge : En → Option D} {ρ : En} (p : Int → Bool) (f : Int → Int) : ∀ {ns : List Int}, (∀ x ∈ ns, gt (ρ.set i (.im (.int x))) = some (p x) ∧ (p x = true → ge (ρ.set i (.im (.int x))) = some (.int (f x)))) → lcG (set1 i) gt ge ρ (ns.map D.int) = some (((ns.filter p).map f).map D.int)
  | [], _ => rfl
  | x :: ns, h => by
    have ih := lcG_int p f (ns := ns) fun y hy => h y (List.mem_cons_of_mem _ hy)
    obtain ⟨h1, h2⟩ := h x List.mem_cons_self
    have hs : lcG (set1 i) gt ge ρ ((x :: ns).map D.int) = some ((((x :: ns).map D.int).filter fun d => match d with | .int y => p y | _ => false).map fun d => match d with | .int y => .int (f y) | d => d) := by
      refine lcG_fm _ _ fun d hd => ?_
      obtain ⟨y, hy, rfl⟩ := List.mem_map.mp hd
      obtain ⟨g1, g2⟩ := h y hy
      exact ⟨_, rfl, g1, fun hp => ⟨g2 hp, rfl⟩⟩
    rw [hs]
    congr 1
    clear ih hs h h1 h2
    induction (x :: ns) with
    | nil => rfl
    | cons y r ih =>
      simp only [List.map_cons, List.filter_cons]
      split <;> simp [ih]
theorem of_cf {s : Int} (hs : Sz s) {L : List Int} {x : Rg s} {n : Nat} (hx : Le x n) (h : ∀ i, cf L i = ce x i) : trimM L = li x n := by
  refine can_ext (s := s) (can_trim (fun i hi => ?_) (fun i hi => ?_)) (li_can hs.pos _ _) ?_
  · obtain ⟨j, hj, rfl⟩ := List.getElem_of_mem hi
    rw [← cf_lt hj, h j]; exact ce_lo hs.pos _ _
  · obtain ⟨j, hj, rfl⟩ := List.getElem_of_mem hi
    rw [← cf_lt hj, h j]; exact ce_hi hs.pos _ _
  · rw [pl_trim, pl_li hx]
    exact rg_ext fun i => by rw [ce_pl, h i, ce_mod]
theorem plus_of {s : Int} (hs : Sz s) {a b L : List Int} (ca : Can s a) (cb : Can s b) (hL : L.length = max a.length b.length) (h : ∀ i, cf L i = (cf a i + cf b i) % s) : trimM L = plusM s a b :=
  of_cf hs (le_plus a b) fun i => by rw [h i, ce_add, ca.ce, cb.ce]
theorem at0 {α : Type} (x : α) (l : List α) : atI (x :: l) 0 = some x := atI_get (Int.le_refl 0) rfl
theorem conv_mono : ∀ (k j : Nat) (c : Int) (q : Nat → Int), conv k (fun i => if i = j then c else 0) q = if j ≤ k then c * q (k - j) else 0
  | 0, j, c, q => by
    simp only [conv]
    by_cases h : j = 0
    · subst h; simp
    · rw [if_neg (fun z => h z.symm), if_neg (by omega), Int.zero_mul]
  | k + 1, 0, c, q => by
    have e : (fun i : Nat => if i + 1 = 0 then c else 0) = fun _ => 0 := funext fun i => if_neg (by omega)
    rw [conv, e, conv_zero]
    simp
  | k + 1, j + 1, c, q => by
    have e : (fun i : Nat => if i + 1 = j + 1 then c else 0) = fun i => if i = j then c else 0 := funext fun i => by
      by_cases h : i = j
      · rw [if_pos h, if_pos (by omega)]
      · rw [if_neg h, if_neg (by omega)]
    rw [conv, e, conv_mono k j, if_neg (by omega), Int.zero_mul, Int.zero_add]
    by_cases h : j ≤ k
    · rw [if_pos h, if_pos (by omega)]
      have : k + 1 - (j + 1) = k - j := by omega
      rw [this]
    · rw [if_neg h, if_neg (by omega)]
theorem conv_take (x : List Int) (k j : Nat) (q : Nat → Int) : conv k (cf (x.take (j + 1))) q = conv k (cf (x.take j)) q + if j ≤ k then cf x j * q (k - j) else 0 := by
  have e : cf (x.take (j + 1)) = fun i => cf (x.take j) i + if i = j then cf x j else 0 := funext fun i => by
    rw [cf_take, cf_take]
    by_cases h : i = j
    · subst h; rw [if_pos (by omega), if_neg (by omega), if_pos rfl]; omega
    · by_cases h2 : i < j
      · rw [if_pos (by omega), if_pos h2, if_neg h]; omega
      · rw [if_neg (by omega), if_neg h2, if_neg h]; omega
  rw [e, conv_addl k (cf (x.take j)) (fun i => if i = j then cf x j else 0) q, conv_mono]
theorem times_of {s : Int} (hs : Sz s) {a b L : List Int} (h : ∀ i, cf L i = conv i (cf a) (cf b) % s) : trimM L = timesM s a b :=
  of_cf hs (le_times a b) fun i => by
    rw [h i, ce_mul]
    exact conv_cong i (fun i => by rw [ce_pl, Int.emod_emod]) (fun i => by rw [ce_pl, Int.emod_emod])
theorem mulD_in {x y : Int} (h0 : -1000 ≤ x) (h1 : x ≤ 1000) : mulD (.int x) (.int y) = some (.int (x * y)) := by
  rw [mulD_int, if_pos (.inl ⟨Int.lt_of_lt_of_le (by decide) h0, Int.lt_of_le_of_lt h1 (by decide)⟩)]
theorem mulD_in2 {x y : Int} (h0 : -1000 ≤ y) (h1 : y ≤ 1000) : mulD (.int x) (.int y) = some (.int (x * y)) := by
  rw [mulD_int, if_pos (.inr ⟨Int.lt_of_lt_of_le (by decide) h0, Int.lt_of_le_of_lt h1 (by decide)⟩)]
@[simp] theorem neD_nn : neD (.lst []) (.lst []) = some (.bl false) := neD_lI [] []
theorem gRep_by {la : En → Option (List D)} {gb : En → Option D} {ρ : En} {x : List D} {k : Int} (h1 : la ρ = some x) (h2 : gb ρ = some (.int k)) (c : -(2 ^ 63) ≤ k ∧ k < 2 ^ 63 ∧ x.length * k.toNat ≤ 1000000) : gRep la gb ρ = some (List.replicate k.toNat x).flatten := by
  unfold gRep
  rw [h1, h2]
  exact if_pos c
theorem rep_c (n : Nat) (hn : n ≤ 1000000) : [D.int 0].length * (n : Int).toNat ≤ 1000000 := by rw [List.length_singleton, Int.toNat_natCast, Nat.one_mul]; exact hn
theorem rep0 {gn : En → Option D} {ρ : En} {n : Nat} (h : gn ρ = some (.int (n : Int))) (hn : n ≤ 1000000) : gRep (gLst (gCons (gC (.int 0)) gNil)) gn ρ = some ((List.replicate n (0 : Int)).map .int) := by
  have e : gLst (gCons (gC (.int 0)) gNil) ρ = some [D.int 0] := by simp
  have c1 : -(2 ^ 63) ≤ (n : Int) := Int.le_trans (by decide) (Int.natCast_nonneg n)
  have c2 : (n : Int) < 2 ^ 63 := Int.lt_of_le_of_lt (Int.ofNat_le.mpr hn) (by decide)
  rw [gRep_by e h ⟨c1, c2, rep_c n hn⟩, Int.toNat_natCast, rep_flat, List.map_replicate]
theorem low_plus {s : Int} (hs : Sz s) (a : List Int) (c : Int) (b : List Int) (k : Nat) : plusM s a (trimM (List.replicate k 0 ++ b.map fun n => -c * n % s)) = lowM s a c b k := by
  refine can_ext (plus_can hs _ _) (low_can hs _ _ _ _) ?_
  rw [pl_plus, pl_trim, pl_shift, pl_smul, pl_low]
  have : ((-c : Int) : Rg s) = -(c : Rg s) := Lean.Grind.Ring.intCast_neg c
  rw [this]
  grind
theorem low_can2 {s : Int} (hs : Sz s) (k : Nat) (c : Int) (b : List Int) : Can s (trimM (List.replicate k 0 ++ b.map fun n => c * n % s)) := by
  have hm : ∀ i ∈ List.replicate k 0 ++ b.map (fun n => c * n % s), 0 ≤ i ∧ i < s := fun i hi => by
    rcases List.mem_append.mp hi with z | z
    · rw [List.eq_of_mem_replicate z]; exact ⟨Int.le_refl _, hs.pos⟩
    · obtain ⟨n, _, rfl⟩ := List.mem_map.mp z
      exact emod_in hs _
  exact can_trim (fun i hi => (hm i hi).1) (fun i hi => (hm i hi).2)
theorem div_stop {s : Int} {b : List Int} {lead : Int} {n : Nat} {m r : List Int} (h : r.length < b.length) : divM s b lead n m r = (m, r) := by
  cases n with
  | zero => rfl
  | succ n => unfold divM; rw [if_neg (by omega)]
theorem div_go {s : Int} {b : List Int} {lead : Int} {n : Nat} {m r : List Int} (h : b.length ≤ r.length) : divM s b lead (n + 1) m r = divM s b lead n (m.set (r.length - b.length) (cf r (r.length - 1) * lead % s)) (lowM s r (cf r (r.length - 1) * lead % s) b (r.length - b.length)) := by
  rw [divM, if_pos h]
theorem lcG_intm {i : Nat} {ge : En → Option D} {ρ : En} (f : Int → Int) {ns : List Int} (h : ∀ x ∈ ns, ge (ρ.set i (.im (.int x))) = some (.int (f x))) : lcG (set1 i) gYes ge ρ (ns.map D.int) = some ((ns.map f).map D.int) := by
  have := lcG_int (i := i) (gt := gYes) (ge := ge) (ρ := ρ) (fun _ => true) f (ns := ns) fun x hx => ⟨rfl, fun _ => h x hx⟩
  rw [this, List.filter_eq_self.mpr fun _ _ => rfl]
def hvM (a : List Int) (n : Int) : Int := a.foldr (fun c v => c + n * v) 0
theorem ev_hv (s : Int) (n : Int) : ∀ a : List Int, evM s a n = hvM a n % s
  | [] => by simp [evM, hvM]
  | c :: r => by
    have ih := ev_hv s n r
    show (evM s r n * n + c) % s = (c + n * hvM r n) % s
    rw [ih, Int.add_emod, Int.mul_emod, Int.emod_emod, ← Int.mul_emod, ← Int.add_emod, Int.mul_comm, Int.add_comm]
theorem ev_fold (s n : Int) (a : List Int) : evM s a n = a.reverse.foldl (fun v c => (v * n + c) % s) 0 := by
  unfold evM
  rw [List.foldl_reverse]
theorem fold_take (f : Int → Int → Int) (l : List Int) (j : Nat) (h : j < l.length) : (l.take (j + 1)).foldl f 0 = f ((l.take j).foldl f 0) (cf l j) := by
  rw [List.take_succ, List.getElem?_eq_getElem h, cf_lt h, List.foldl_append]
  rfl
theorem ev_in {s : Int} (hs : Sz s) (a : List Int) (n : Int) : 0 ≤ evM s a n ∧ evM s a n < s := by rw [ev_hv]; exact emod_in hs _
theorem hv_drop (a : List Int) (n : Int) (j : Nat) (h : j < a.length) : hvM (a.drop j) n = cf a j + n * hvM (a.drop (j + 1)) n := by
  rw [List.drop_eq_getElem_cons h, cf_lt h]
  rfl
theorem gCat_by {la lb : En → Option (List D)} {ρ : En} {x y : List D} (h1 : la ρ = some x) (h2 : lb ρ = some y) (c : x.length + y.length ≤ 1000000) : gCat la lb ρ = some (x ++ y) := by
  unfold gCat
  rw [h1, h2]
  exact if_pos c
theorem lcG_en {i j : Nat} {ge : En → Option D} {ρ : En} (f : Nat → Int) {ns : List Int} (h : ∀ k, k < ns.length → ge ((ρ.set i (.im (.int (k : Nat)))).set j (.im (.int (cf ns k)))) = some (.int (f k))) : lcG (set2 i j) gYes ge ρ (enD 0 (ns.map D.int)) = some (((List.range ns.length).map f).map D.int) := by
  have := lcG_m (set := set2 i j) (ge := ge) (ρ := ρ) (fun d => match d with | .tup [.int k, _] => .int (f k.toNat) | d => d) (ds := enD 0 (ns.map D.int)) fun d hd => by
    obtain ⟨k, hk⟩ := List.mem_iff_getElem?.mp hd
    obtain ⟨hk2, rfl⟩ := en_get hk
    exact ⟨_, rfl, by rw [h k hk2]; rfl, rfl⟩
  rw [this]
  congr 1
  apply List.ext_getElem?
  intro k
  rw [List.getElem?_map, enD_get, getD_map, List.getElem?_map, List.getElem?_map]
  by_cases hk : k < ns.length
  · rw [if_pos hk, List.getElem?_range hk]
    simp
  · rw [if_neg hk, List.getElem?_eq_none (by simp; omega)]
    rfl
theorem low_law {s : Int} (hs : Sz s) {r b : List Int} (cr : Can s r) (of : Int) {j : Nat} (hj : j + b.length = r.length) : trimM ((List.range r.length).map fun i => (cf r i - of * cf (List.replicate j 0 ++ b) i) % s) = lowM s r (of % s) b j := by
  refine of_cf hs (le_low r (of % s) b j) fun i => ?_
  rw [cf_rng, ce_sub, cr.ce, ce_pl]
  split
  · rename_i hi
    rw [cf_app, cf_app, List.length_replicate, cf_rep]
    by_cases h : i < j
    · simp [h]
    · rw [if_neg h, if_neg h, cf_map _ _ (by omega), Int.emod_emod]
      have e : of % s * cf b (i - j) % s = of * cf b (i - j) % s := by rw [Int.mul_emod, Int.emod_emod, ← Int.mul_emod]
      rw [e, Int.sub_emod (cf r i) (of * cf b (i - j) % s), Int.emod_emod, ← Int.sub_emod]
  · rw [cf_ge (l := r) (by omega), cf_ge (by simp; omega)]
    simp
theorem gR1_by {la : En → Option (List D)} {ρ : En} {k : Int} (h : la ρ = some [.int k]) (c : -(2 ^ 62) ≤ k ∧ k < 2 ^ 62) : gR1 la ρ = some (rngD 0 k.toNat) := by
  unfold gR1
  rw [h]
  exact if_pos c
theorem gR1_nat {la : En → Option (List D)} {ρ : En} {n : Nat} (h : la ρ = some [.int (n : Int)]) (hn : n ≤ 1000000) : gR1 la ρ = some (rngD 0 n) := by
  have c1 : -(2 ^ 62) ≤ (n : Int) := Int.le_trans (by decide) (Int.natCast_nonneg n)
  have c2 : (n : Int) < 2 ^ 62 := Int.lt_of_le_of_lt (Int.ofNat_le.mpr hn) (by decide)
  rw [gR1_by h ⟨c1, c2⟩, Int.toNat_natCast]
theorem gLc_by {gi : En → Option (List D)} {own : List Nat} {set : D → En → Option En} {gt : En → Option Bool} {ge : En → Option D} {ρ : En} {ds es : List D} (h : gi ρ = some ds) (hl : ds.length ≤ 1000000) (h2 : lcG set gt ge (wipeR ρ own) ds = some es) : gLc gi own set gt ge ρ = some es := by
  unfold gLc
  rw [h]
  exact (if_pos hl).trans h2
theorem Sz.ge (h : Sz s) : 2 ≤ s ∧ s ≤ 5 := by rcases h with h | h | h <;> omega
end Pf

set_option Elab.async false
set_option linter.all false
set_option maxRecDepth 100000
set_option maxHeartbeats 2000000
/-! Pm6: values and roots. -/
namespace Pf
section
variable {s : Int}
theorem int_add (a b : Int) : ((a + b : Int) : Rg s) = (a : Rg s) + (b : Rg s) := Lean.Grind.Ring.intCast_add a b
theorem int_neg (a : Int) : ((-a : Int) : Rg s) = -(a : Rg s) := Lean.Grind.Ring.intCast_neg a
theorem int_sub (a b : Int) : ((a - b : Int) : Rg s) = (a : Rg s) - (b : Rg s) := Lean.Grind.Ring.intCast_sub a b
theorem ev_div (a : Int) : ∀ l : List Int, ∃ q : Rg s, Fi q ∧ pl s l = q * (xR s - (a : Rg s)) + (hvM l a : Rg s)
  | [] => ⟨0, fi_zero, by rw [pl_nil]; show (0 : Rg s) = 0 * _ + ((0 : Int) : Rg s); rw [int_zero]; grind⟩
  | c :: r => by
    obtain ⟨q, f, e⟩ := ev_div a r
    refine ⟨xR s * q + (hvM r a : Rg s), (fi_x.mul f).add (fi_int _), ?_⟩
    rw [pl_cons, e]
    show _ = _ + ((c + a * hvM r a : Int) : Rg s)
    rw [int_add, int_mul]
    grind
/-- x less a number -/
def linM (s a : Int) : List Int := [-a % s, 1]
theorem lin_can (h : Sz s) (a : Int) : Can s (linM s a) := by
  have := emod_in h (-a)
  have g := h.ge
  refine ⟨fun i hi => ?_, fun i hi => ?_, rfl⟩
  · simp only [linM, List.mem_cons, List.not_mem_nil, or_false] at hi
    rcases hi with z | z <;> rw [z]
    · exact this.1
    · omega
  · simp only [linM, List.mem_cons, List.not_mem_nil, or_false] at hi
    rcases hi with z | z <;> rw [z]
    · exact this.2
    · omega
theorem pl_lin (a : Int) : pl s (linM s a) = xR s - (a : Rg s) := by
  unfold linM
  rw [pl_cons, pl_one, int_mod, int_neg]
  grind
theorem int_z {c : Int} (h : (c : Rg s) = 0) : c % s = 0 := by
  have := congrArg (fun x => ce x 0) h
  simpa [ce_int, ce_zero] using this
theorem int_z' {c : Int} (h : c % s = 0) : (c : Rg s) = 0 := by
  have : (c : Rg s) = ((0 : Int) : Rg s) := int_cong (by rw [h]; simp)
  exact this
theorem ev_root (h : Sz s) {l : List Int} (c : Can s l) (a : Int) : restM s l (linM s a) = [] ↔ evM s l a = 0 := by
  rw [rest_nil h c (lin_can h a) (by simp [linM]), pl_lin, ev_hv]
  obtain ⟨q, f, e⟩ := ev_div (s := s) a l
  constructor
  · rintro ⟨z, g, e2⟩
    obtain ⟨n, hq⟩ := f
    obtain ⟨m, hz⟩ := g
    have := (part_uniq h (lin_can h a) (by simp [linM]) hq hz (le_int (hvM l a)) (le_zero (n := 1)) (by simp [linM]) (by rw [pl_lin, ← e, e2]; grind)).2
    exact int_z this
  · intro z
    refine ⟨q, f, ?_⟩
    rw [e, int_z' z]
    grind
theorem inv_ex (h : Sz s) {a : Int} (ha : a % s ≠ 0) : ∃ u : Int, (u : Rg s) * (a : Rg s) = 1 := by
  have e := emod_in h a
  obtain ⟨_, _, h3, _⟩ := inv_ok h (a := a % s) (by omega) e.2
  refine ⟨invM s (a % s), ?_⟩
  have : (invM s (a % s) : Rg s) * (a : Rg s) = ((a % s * invM s (a % s) : Int) : Rg s) := by
    rw [int_mul, int_mod]; grind
  rw [this, ← int_one]
  exact int_cong (by rw [h3]; rcases h with h | h | h <;> rw [h] <;> rfl)
theorem lin_len (h : Sz s) {x q : Rg s} {a : Int} {n : Nat} (fq : Fi q) (hx : x ≠ 0) (lx : Le x n) (e : x = q * (xR s - (a : Rg s))) : q ≠ 0 ∧ 1 ≤ n ∧ Le q (n - 1) := by
  have hq : q ≠ 0 := fun z => hx (by rw [e, z]; grind)
  obtain ⟨lq, cq, rfl⟩ := fq.list h
  have cx := li_can h.pos x n
  have hq' : lq ≠ [] := fun z => hq (by rw [z, pl_nil])
  have := len_mul h cq (lin_can h a) cx hq' (by simp [linM]) (by rw [pl_li lx, e, pl_lin])
  have l2 := li_len x n
  have l3 : (linM s a).length = 2 := rfl
  exact ⟨hq, by omega, (le_pl lq).mono (by omega)⟩
theorem roots_le (h : Sz s) : ∀ (rs : List Int) (x : Rg s) (n : Nat), rs.Pairwise (· ≠ ·) → (∀ r ∈ rs, 0 ≤ r ∧ r < s) → x ≠ 0 → Le x n → (∀ r ∈ rs, Dv (xR s - (r : Rg s)) x) → rs.length < n
  | [], x, n, _, _, hx, lx, _ => by
    cases n with
    | zero => exact absurd (le_0.mp lx) hx
    | succ n => simp
  | r :: rs, x, n, hp, hr, hx, lx, hd => by
    obtain ⟨q, fq, e⟩ := hd r (by simp)
    obtain ⟨hq, hn, lq⟩ := lin_len h fq hx lx e
    rw [List.pairwise_cons] at hp
    have := roots_le h rs q (n - 1) hp.2 (fun r' h' => hr r' (List.mem_cons_of_mem _ h')) hq lq fun r' h' => by
      obtain ⟨z, fz, e2⟩ := hd r' (List.mem_cons_of_mem _ h')
      have b1 := hr r (by simp)
      have b2 := hr r' (List.mem_cons_of_mem _ h')
      have b3 := hp.1 r' h'
      obtain ⟨u, hu⟩ := inv_ex h (a := r' - r) (fun z => by
        have := h.ge
        rcases h with h | h | h <;> rw [h] at z b1 b2 <;> omega)
      rw [int_sub] at hu
      refine ⟨(u : Rg s) * (z - q), (fi_int u).mul (fz.sub fq), ?_⟩
      have e3 : q * (xR s - (r : Rg s)) = z * (xR s - (r' : Rg s)) := by rw [← e, e2]
      generalize (r : Rg s) = R at *
      generalize (r' : Rg s) = R' at *
      generalize (u : Rg s) = U at *
      generalize xR s = X at *
      grind
    simp
    omega
theorem roots_lt (h : Sz s) {l : List Int} (c : Can s l) (hl : l ≠ []) : (rootsM s l).length < l.length := by
  refine roots_le h (rootsM s l) (pl s l) l.length ?_ (fun r hr => ?_) (fun z => hl ((can_pl0 c).mp z)) (le_pl l) fun r hr => ?_
  · unfold rootsM
    refine List.Pairwise.filter _ ?_
    rw [List.pairwise_map]
    exact List.nodup_range.imp fun hne z => hne (Int.ofNat.inj z)
  · obtain ⟨h1, _⟩ := List.mem_filter.mp hr
    obtain ⟨i, hi, rfl⟩ := List.mem_map.mp h1
    have := List.mem_range.mp hi
    have g := h.ge
    exact ⟨Int.natCast_nonneg i, by show (i : Int) < s; omega⟩
  · have h2 := of_decide_eq_true (List.mem_filter.mp hr).2
    have := (ev_root h c r).mpr h2
    rw [rest_nil h c (lin_can h r) (by simp [linM]), pl_lin] at this
    exact this
theorem roots_mem (h : Sz s) {l : List Int} {n : Int} (h0 : 0 ≤ n) (h1 : n < s) : n ∈ rootsM s l ↔ evM s l n = 0 := by
  unfold rootsM
  rw [List.mem_filter]
  have : n ∈ (List.range s.toNat).map Int.ofNat := List.mem_map.mpr ⟨n.toNat, List.mem_range.mpr (by omega), by show ((n.toNat : Nat) : Int) = n; omega⟩
  simp [this]
theorem sum_can (h : Sz s) (n : Int) {m : Int} (hm : 0 ≤ m ∧ m ≤ 20 := by omega) : Can s (sumM n s m) := by
  have g := h.ge
  have ok := sumM_ok n s m g.1 hm
  refine ⟨ok.lo, ok.hi, nz_of fun hne => ?_⟩
  have lp := List.length_pos_iff.mpr hne
  have hl := sumM_len n s m
  have hp : 0 < n % (m + 1) := by omega
  have h40 := Int.emod_nonneg (drawM n 40) (show s - 1 ≠ 0 by omega)
  have e : sumM n s m = ((List.range (n % (m + 1)).toNat).map (coefM n s)).set ((n % (m + 1)).toNat - 1) (1 + drawM n 40 % (s - 1)) := by
    simp only [sumM, if_pos hp]
  rw [hl, e, cf_set _ _ _ _ (by simp; omega), if_pos rfl]
  omega
theorem sum_le (h : Sz s) (n : Int) {m : Int} (hm : 0 ≤ m ∧ m ≤ 20 := by omega) : (sumM n s m).length ≤ m.toNat := (sumM_ok n s m h.ge.1 hm).len
theorem sz_szM (n : Int) : Sz (szM n) := szM_mem n
theorem f_sum_ok (h : Sz s) {n : Int} (hn : 0 ≤ n) {m : Int} (hm : 0 ≤ m ∧ m ≤ 20 := by omega) : f_law_sum [.int n, .int s, .int m] = some (tI (sumM n s m)) := by
  have g := h.ge
  simp [f_law_sum]
  omega
@[simp] theorem neD_bl (x y : Bool) : neD (.bl x) (.bl y) = some (.bl (!decide (x = y))) := by simp only [neD, eqB_bl, Option.map_some]
@[simp] theorem inD_ints (i : Int) (ns : List Int) : inD (.int i) (.tup (ns.map .int)) = some (.bl (decide (i ∈ ns))) := by
  have : inD (.int i) (.tup (ns.map .int)) = (dInts (ns.map .int)).map fun ns => .bl (decide (i ∈ ns)) := rfl
  rw [this]; simp
theorem cell_of (ns : List Int) : f_law_mixed [.scr ns, .int 0] = some (.int (mixS ns 0)) := by simp [f_law_mixed]
theorem f_mixed (ns : List Int) {k : Int} (h : 0 ≤ k) : f_law_mixed [.scr ns, .int k] = some (.int (mixS ns k)) := by simp [f_law_mixed, h]
end
end Pf

set_option Elab.async false
set_option linter.all false
set_option maxRecDepth 100000
set_option maxHeartbeats 2000000
/-! Pm7: powers, common parts. -/
namespace Pf
open PySem PySem.Spec L2
section
variable {s : Int}
def powM (s : Int) (a : List Int) : Nat → List Int → List Int
  | 0, b => restM s [1] b
  | n + 1, b => restM s (timesM s (powM s a n b) a) b
theorem one_can (h : Sz s) : Can s [1] := by
  have g := h.ge
  exact ⟨fun i hi => by rw [List.mem_singleton.mp hi]; omega, fun i hi => by rw [List.mem_singleton.mp hi]; omega, rfl⟩
theorem rest_can (h : Sz s) {a b : List Int} (ca : Can s a) (cb : Can s b) (hb : b ≠ []) : Can s (restM s a b) ∧ (restM s a b).length < b.length := ⟨(part_ok h ca cb hb).cr, (part_ok h ca cb hb).lt⟩
theorem rest_le (h : Sz s) {a b : List Int} (ca : Can s a) (cb : Can s b) (hb : b ≠ []) : (restM s a b).length ≤ a.length := by
  by_cases hl : a.length < b.length
  · rw [rest_id h ca cb hl]; exact Nat.le_refl _
  · have := (rest_can h ca cb hb).2
    omega
theorem pow_ok (h : Sz s) {a b : List Int} (ca : Can s a) (cb : Can s b) (hb : b ≠ []) : ∀ n, Can s (powM s a n b) ∧ (powM s a n b).length < b.length ∧ Cg (pl s b) (pl s (powM s a n b)) (pl s a ^ n)
  | 0 => by
    have c1 := one_can h
    have r := rest_can h c1 cb hb
    refine ⟨r.1, r.2, ?_⟩
    have := rest_cg h c1 cb hb
    rw [pl_one] at this
    have e : pl s a ^ 0 = 1 := Lean.Grind.Semiring.pow_zero _
    rw [e]
    exact this
  | n + 1 => by
    obtain ⟨h1, h2, h3⟩ := pow_ok h ca cb hb n
    have ct := times_can h (powM s a n b) a
    have r := rest_can h ct cb hb
    refine ⟨r.1, r.2, ?_⟩
    have e : pl s a ^ (n + 1) = pl s a ^ n * pl s a := Lean.Grind.Semiring.pow_succ _ _
    rw [e]
    have q := rest_cg h ct cb hb
    rw [pl_times] at q
    exact q.trans (Cg.mul (fi_pl _) (fi_pl _) h3 (Cg.refl _ _))
theorem pow_sq (x : Rg s) : ∀ n : Nat, (x * x) ^ n = x ^ (2 * n)
  | 0 => by
    have e : (x * x) ^ 0 = 1 := Lean.Grind.Semiring.pow_zero _
    have e2 : x ^ (2 * 0) = 1 := Lean.Grind.Semiring.pow_zero _
    rw [e, e2]
  | n + 1 => by
    have e : (x * x) ^ (n + 1) = (x * x) ^ n * (x * x) := Lean.Grind.Semiring.pow_succ _ _
    have e2 : x ^ (2 * (n + 1)) = x ^ (2 * n) * x * x := by
      have : 2 * (n + 1) = 2 * n + 1 + 1 := by omega
      rw [this, Lean.Grind.Semiring.pow_succ, Lean.Grind.Semiring.pow_succ]
    rw [e, e2, pow_sq x n]
    grind
theorem Fi.pw {x : Rg s} (h : Fi x) (n : Nat) : Fi (x ^ n) := h.pow n
theorem Cg.pow {b x y : Rg s} (fx : Fi x) (fy : Fi y) (h : Cg b x y) : ∀ n : Nat, Cg b (x ^ n) (y ^ n)
  | 0 => by
    have e : x ^ 0 = 1 := Lean.Grind.Semiring.pow_zero _
    have e2 : y ^ 0 = 1 := Lean.Grind.Semiring.pow_zero _
    rw [e, e2]; exact Cg.refl _ _
  | n + 1 => by
    rw [Lean.Grind.Semiring.pow_succ, Lean.Grind.Semiring.pow_succ]
    exact Cg.mul (fx.pow n) fy (Cg.pow fx fy h n) h
theorem pow_even (x : Rg s) (n : Nat) (h : n % 2 = 0) : x ^ n = (x * x) ^ (n / 2) := by
  rw [pow_sq]; congr 1; omega
theorem pow_odd (x : Rg s) (n : Nat) (h : n % 2 = 1) : x ^ n = x * (x * x) ^ (n / 2) := by
  rw [pow_sq]
  have : n = 2 * (n / 2) + 1 := by omega
  have e : x ^ n = x ^ (2 * (n / 2)) * x := by
    conv => lhs; rw [this]
    exact Lean.Grind.Semiring.pow_succ _ _
  rw [e]; grind
theorem rest_by (h : Sz s) {a b r : List Int} (ca : Can s a) (cb : Can s b) (cr : Can s r) (hr : r.length < b.length) (e : Cg (pl s b) (pl s r) (pl s a)) : r = restM s a b := by
  have hb : b ≠ [] := fun z => by rw [z] at hr; exact absurd hr (Nat.not_lt_zero _)
  rw [← (rest_eq h cr ca cb hb).mpr e, rest_id h cr cb hr]
theorem pow_by (h : Sz s) {a b r : List Int} (ca : Can s a) (cb : Can s b) (cr : Can s r) (hr : r.length < b.length) {n : Nat} (e : Cg (pl s b) (pl s r) (pl s a ^ n)) : r = powM s a n b := by
  have hb : b ≠ [] := fun z => by rw [z] at hr; exact absurd hr (Nat.not_lt_zero _)
  obtain ⟨h1, h2, h3⟩ := pow_ok h ca cb hb n
  rw [rest_by h h1 cb cr hr (e.trans h3.symm), rest_id h h1 cb h2]
def f_rest_of : List D → Option D := kTTI fun a b s => if okP s a b then some (tI (restM s a b)) else none
def f_power : List D → Option D := kTITI fun a n b s => if okC s a b 130 ∧ b ≠ [] ∧ 0 ≤ n then some (tI (powM s a n.toNat b)) else none
/-! common parts -/
def negM (s : Int) (q : List Int) : List Int := q.map fun n => -n % s
theorem neg_can (h : Sz s) {q : List Int} (c : Can s q) : Can s (negM s q) := by
  refine ⟨fun i hi => ?_, fun i hi => ?_, nz_of fun hne => ?_⟩
  · obtain ⟨n, _, rfl⟩ := List.mem_map.mp hi; exact (emod_in h _).1
  · obtain ⟨n, _, rfl⟩ := List.mem_map.mp hi; exact (emod_in h _).2
  · have hq : q ≠ [] := fun z => hne (by rw [z]; rfl)
    have lp := List.length_pos_iff.mpr hq
    have li := last_in c hq
    unfold negM
    rw [List.length_map, cf_map _ _ (by omega)]
    rcases h with h | h | h <;> rw [h] at li ⊢ <;> omega
theorem pl_neg (q : List Int) : pl s (negM s q) = -pl s q := by
  have e := pl_smul (s := s) (-1) q
  have e2 : (q.map fun n => -1 * n % s) = negM s q := List.map_congr_left fun n _ => by rw [Int.neg_mul, Int.one_mul]
  rw [e2] at e
  rw [e, int_neg, int_one]
  grind
abbrev T3 := List Int × List Int × List Int
def stepC (s : Int) (h t : T3) : T3 := (restM s h.1 t.1, plusM s h.2.1 (timesM s (negM s (quoM s h.1 t.1)) t.2.1), plusM s h.2.2 (timesM s (negM s (quoM s h.1 t.1)) t.2.2))
def comL (s : Int) : Nat → T3 → T3 → T3
  | 0, h, _ => h
  | n + 1, h, t => if t.1 = [] then h else comL s n t (stepC s h t)
theorem com_stop {n : Nat} {h t : T3} (e : t.1 = []) : comL s n h t = h := by
  cases n with
  | zero => rfl
  | succ n => rw [comL, if_pos e]
theorem com_go {n : Nat} {h t : T3} (e : t.1 ≠ []) : comL s (n + 1) h t = comL s n t (stepC s h t) := by rw [comL, if_neg e]
/-- what holds all the while -/
structure ComI (s : Int) (A B : Rg s) (k : Nat) (h t : T3) : Prop where
  h1 : Can s h.1
  h2 : Can s h.2.1
  h3 : Can s h.2.2
  t1 : Can s t.1
  t2 : Can s t.2.1
  t3 : Can s t.2.2
  eh : pl s h.1 = pl s h.2.1 * A + pl s h.2.2 * B
  et : pl s t.1 = pl s t.2.1 * A + pl s t.2.2 * B
  l2 : h.2.1.length + h.1.length + t.1.length ≤ k
  l3 : h.2.2.length + h.1.length + t.1.length ≤ k
  m2 : t.2.1.length + h.1.length + t.1.length ≤ k
  m3 : t.2.2.length + h.1.length + t.1.length ≤ k
  dv : ∀ g, Fi g → Dv g (pl s h.1) → Dv g (pl s t.1) → Dv g A ∧ Dv g B
theorem Dv.add {x y z : Rg s} : Dv x y → Dv x z → Dv x (y + z) := fun ⟨u, f, e⟩ ⟨v, g, e2⟩ => ⟨u + v, f.add g, by grind⟩
theorem Dv.sub {x y z : Rg s} : Dv x y → Dv x z → Dv x (y - z) := fun ⟨u, f, e⟩ ⟨v, g, e2⟩ => ⟨u - v, f.sub g, by grind⟩
theorem Dv.mul {x y z : Rg s} (hz : Fi z) : Dv x y → Dv x (z * y) := fun ⟨u, f, e⟩ => ⟨z * u, hz.mul f, by grind⟩
theorem Dv.refl (x : Rg s) : Dv x x := ⟨1, fi_one, by grind⟩
theorem Dv.zero (x : Rg s) : Dv x 0 := ⟨0, fi_zero, by grind⟩
theorem Dv.trans {x y z : Rg s} : Dv x y → Dv y z → Dv x z := fun ⟨u, f, e⟩ ⟨v, g, e2⟩ => ⟨v * u, g.mul f, by grind⟩
theorem com_step (hs : Sz s) {A B : Rg s} {k : Nat} {h t : T3} (I : ComI s A B k h t) (hne : t.1 ≠ []) : ComI s A B k t (stepC s h t) ∧ (stepC s h t).1.length < t.1.length := by
  have p := part_ok hs I.h1 I.t1 hne
  have cn := neg_can hs p.cq
  have ln : (negM s (quoM s h.1 t.1)).length = (quoM s h.1 t.1).length := List.length_map _
  have lt := p.lt
  have lq := p.lq
  have lr := rest_le hs I.h1 I.t1 hne
  have a1 := plus_len (s := s) h.2.1 (timesM s (negM s (quoM s h.1 t.1)) t.2.1)
  have a2 := times_len hs (negM s (quoM s h.1 t.1)) t.2.1
  have a3 := plus_len (s := s) h.2.2 (timesM s (negM s (quoM s h.1 t.1)) t.2.2)
  have a4 := times_len hs (negM s (quoM s h.1 t.1)) t.2.2
  have i1 := I.l2
  have i2 := I.l3
  have i3 := I.m2
  have i4 := I.m3
  have eq := p.eq
  refine ⟨⟨I.t1, I.t2, I.t3, p.cr, plus_can hs _ _, plus_can hs _ _, I.et, ?_, ?_, ?_, ?_, ?_, fun g fg d1 d2 => ?_⟩, lt⟩
  · have eh := I.eh
    have et := I.et
    show pl s (restM s h.1 t.1) = pl s (plusM s h.2.1 _) * A + pl s (plusM s h.2.2 _) * B
    rw [pl_plus, pl_plus, pl_times, pl_times, pl_neg]
    grind
  · show t.2.1.length + t.1.length + (restM s h.1 t.1).length ≤ k
    omega
  · show t.2.2.length + t.1.length + (restM s h.1 t.1).length ≤ k
    omega
  · show (plusM s h.2.1 (timesM s (negM s (quoM s h.1 t.1)) t.2.1)).length + t.1.length + (restM s h.1 t.1).length ≤ k
    omega
  · show (plusM s h.2.2 (timesM s (negM s (quoM s h.1 t.1)) t.2.2)).length + t.1.length + (restM s h.1 t.1).length ≤ k
    omega
  · refine I.dv g fg ?_ d1
    rw [eq]
    exact (d1.mul (fi_pl _)).add d2
theorem com_fin (hs : Sz s) {A B : Rg s} {k : Nat} : ∀ (n : Nat) (h t : T3), ComI s A B k h t → t.1.length ≤ n → ∃ t', t'.1 = [] ∧ ComI s A B k (comL s n h t) t'
  | 0, h, t, I, hn => ⟨t, List.length_eq_zero_iff.mp (by omega), I⟩
  | n + 1, h, t, I, hn => by
    by_cases e : t.1 = []
    · rw [com_stop e]; exact ⟨t, e, I⟩
    · obtain ⟨I2, lt⟩ := com_step hs I e
      rw [com_go e]
      exact com_fin hs n _ _ I2 (by omega)
def comM (s : Int) (a b : List Int) : T3 :=
  let h := comL s b.length (a, [1], []) (b, [], [1])
  if h.1 = [] then ([], [], []) else (timesM s h.1 [leadM s h.1], timesM s h.2.1 [leadM s h.1], timesM s h.2.2 [leadM s h.1])
theorem com_start (hs : Sz s) {a b : List Int} (ca : Can s a) (cb : Can s b) : ComI s (pl s a) (pl s b) (a.length + b.length + 1) (a, [1], []) (b, [], [1]) :=
  ⟨ca, one_can hs, Can.nil, cb, Can.nil, one_can hs, by show pl s a = pl s [1] * _ + pl s [] * _; rw [pl_one, pl_nil]; grind, by show pl s b = pl s [] * _ + pl s [1] * _; rw [pl_one, pl_nil]; grind,
    by show 1 + a.length + b.length ≤ _; omega, by show 0 + a.length + b.length ≤ _; omega, by show 0 + a.length + b.length ≤ _; omega, by show 1 + a.length + b.length ≤ _; omega, fun g _ d1 d2 => ⟨d1, d2⟩⟩
theorem num_can (hs : Sz s) {x : Int} (h0 : 0 < x) (h1 : x < s) : Can s [x] :=
  ⟨fun i hi => by rw [List.mem_singleton.mp hi]; omega, fun i hi => by rw [List.mem_singleton.mp hi]; omega, by rw [nzL_cons, if_pos rfl]; simp; omega⟩
theorem pl_num (x : Int) : pl s [x] = (x : Rg s) := by rw [pl_cons, pl_nil]; grind
theorem top_mul {x y : List Int} (cx : Can s x) (c : Int) (hx : x ≠ []) (i : Nat) : ce (pl s x * (c : Rg s)) i = cf x i * c % s := by
  have e : pl s x * (c : Rg s) = pl s (x.map fun n => c * n % s) := by rw [pl_smul]; grind
  rw [e, ce_pl]
  by_cases hi : i < x.length
  · rw [cf_map _ _ hi, Int.emod_emod, Int.mul_comm]
  · rw [cf_ge (by simp; omega), cf_ge (by omega)]; simp
structure ComOk (s : Int) (a b : List Int) (z : T3) : Prop where
  c1 : Can s z.1
  c2 : Can s z.2.1
  c3 : Can s z.2.2
  eq : pl s z.1 = pl s z.2.1 * pl s a + pl s z.2.2 * pl s b
  d1 : Dv (pl s z.1) (pl s a)
  d2 : Dv (pl s z.1) (pl s b)
  ze : a = [] → b = [] → z = ([], [], [])
  ne : a ≠ [] ∨ b ≠ [] → z.1 ≠ [] ∧ cf z.1 (z.1.length - 1) = 1
  l1 : z.1.length ≤ a.length + b.length + 2
  l2 : z.2.1.length ≤ a.length + b.length + 2
  l3 : z.2.2.length ≤ a.length + b.length + 2
theorem com_ok (hs : Sz s) {a b : List Int} (ca : Can s a) (cb : Can s b) : ComOk s a b (comM s a b) := by
  obtain ⟨t, ht, I⟩ := com_fin hs b.length _ _ (com_start hs ca cb) (Nat.le_refl _)
  obtain ⟨h, hh⟩ : ∃ h, h = comL s b.length (a, [1], []) (b, [], [1]) := ⟨_, rfl⟩
  have e : comM s a b = if h.1 = [] then ([], [], []) else (timesM s h.1 [leadM s h.1], timesM s h.2.1 [leadM s h.1], timesM s h.2.2 [leadM s h.1]) := by rw [hh]; rfl
  rw [← hh] at I
  have dd := I.dv (pl s h.1) (fi_pl _) (Dv.refl _) (by rw [ht, pl_nil]; exact Dv.zero _)
  rw [e]
  by_cases he : h.1 = []
  · rw [if_pos he]
    rw [he, pl_nil] at dd
    have z : ∀ l, Can s l → Dv 0 (pl s l) → l = [] := fun l c ⟨u, _, eu⟩ => (can_pl0 c).mp (by rw [eu]; grind)
    have za := z a ca dd.1
    have zb := z b cb dd.2
    subst za; subst zb
    refine ⟨Can.nil, Can.nil, Can.nil, ?_, ?_, ?_, fun _ _ => rfl, fun q => by rcases q with q | q <;> exact absurd rfl q, by simp, by simp, by simp⟩
    · simp only [pl_nil]; grind
    · simp only [pl_nil]; exact Dv.zero _
    · simp only [pl_nil]; exact Dv.zero _
  · rw [if_neg he]
    have li := last_in I.h1 he
    have lk := lead_ok hs I.h1 he
    have lv := inv_ok hs li.1 li.2
    have cl : Can s [leadM s h.1] := num_can hs lv.1 lv.2.1
    have a1 := times_len hs h.1 [leadM s h.1]
    have a2 := times_len hs h.2.1 [leadM s h.1]
    have a3 := times_len hs h.2.2 [leadM s h.1]
    have i1 := I.l2
    have i2 := I.l3
    simp only [List.length_singleton] at a1 a2 a3
    have unit : (leadM s h.1 : Rg s) * (cf h.1 (h.1.length - 1) : Rg s) = 1 := by
      rw [← int_mul, ← int_one]
      refine int_cong ?_
      rw [Int.mul_comm, lk]
      rcases hs with q | q | q <;> rw [q] <;> rfl
    have back : ∀ x : Rg s, Dv (pl s h.1) x → Dv (pl s (timesM s h.1 [leadM s h.1])) x := fun x ⟨u, fu, eu⟩ => ⟨u * (cf h.1 (h.1.length - 1) : Rg s), fu.mul (fi_int _), by
      rw [pl_times, pl_num, eu]
      generalize (leadM s h.1 : Rg s) = U at *
      generalize (cf h.1 (h.1.length - 1) : Rg s) = V at *
      grind⟩
    have hne : timesM s h.1 [leadM s h.1] ≠ [] ∧ cf (timesM s h.1 [leadM s h.1]) ((timesM s h.1 [leadM s h.1]).length - 1) = 1 := by
      have le := times_len_eq hs I.h1 cl he (by simp)
      have lp := List.length_pos_iff.mpr he
      rw [List.length_singleton] at le
      refine ⟨fun z => ?_, ?_⟩
      · rw [z, List.length_nil] at le; omega
      · have e1 : (timesM s h.1 [leadM s h.1]).length - 1 = h.1.length - 1 := by omega
        rw [← (times_can hs _ _).ce, pl_times, pl_num, top_mul (y := []) I.h1 _ he, e1, lk]
    refine ⟨times_can hs _ _, times_can hs _ _, times_can hs _ _, ?_, back _ dd.1, back _ dd.2, fun za zb => ?_, fun _ => hne, ?_, ?_, ?_⟩
    · have eh := I.eh
      simp only [pl_times, pl_num]
      grind
    · exfalso
      have eh := I.eh
      rw [za, zb, pl_nil] at eh
      exact he ((can_pl0 I.h1).mp (by rw [eh]; grind))
    · show (timesM s h.1 _).length ≤ _
      omega
    · show (timesM s h.2.1 _).length ≤ _
      omega
    · show (timesM s h.2.2 _).length ≤ _
      omega
def tT (h : T3) : D := .tup [tI h.1, tI h.2.1, tI h.2.2]
@[simp] theorem tT_0 (h : T3) : ixD (tT h) (.int 0) = some (tI h.1) := rfl
@[simp] theorem tT_1 (h : T3) : ixD (tT h) (.int 1) = some (tI h.2.1) := rfl
@[simp] theorem tT_2 (h : T3) : ixD (tT h) (.int 2) = some (tI h.2.2) := rfl
theorem tT_mk (x y z : List Int) : D.tup [tI x, tI y, tI z] = tT (x, y, z) := rfl
theorem at1 {α : Type} (x y : α) (l : List α) : L2.atI (x :: y :: l) 1 = some y := atI_get (by decide) rfl
theorem f_times_ok {a b : List Int} (hs : Sz s) (ca : Can s a) (cb : Can s b) (hl : a.length + b.length ≤ 1000) : f_times [tI a, tI b, .int s] = some (tI (timesM s a b)) := by
  simp only [f_times, kTTI_mk, if_pos (show okC s a b 1000 from ⟨hs, ca, cb, hl⟩)]
theorem f_plus_ok {a b : List Int} (hs : Sz s) (ca : Can s a) (cb : Can s b) (hl : a.length + b.length ≤ 1000) : f_plus [tI a, tI b, .int s] = some (tI (plusM s a b)) := by
  simp only [f_plus, kTTI_mk, if_pos (show okC s a b 1000 from ⟨hs, ca, cb, hl⟩)]
theorem f_ltimes_in {a b : List Int} (hs : Sz s) (ca : InR s a) (cb : InR s b) (hl : a.length + b.length ≤ 1000) : f_law_times [tI a, tI b, .int s] = some (tI (timesM s a b)) := by
  simp only [f_law_times, kTTI_mk, if_pos (show okI s a b 1000 from ⟨hs, ca, cb, hl⟩)]
theorem f_ltimes_ok {a b : List Int} (hs : Sz s) (ca : Can s a) (cb : Can s b) (hl : a.length + b.length ≤ 1000) : f_law_times [tI a, tI b, .int s] = some (tI (timesM s a b)) := f_ltimes_in hs ca.inR cb.inR hl
theorem f_lplus_ok {a b : List Int} (hs : Sz s) (ca : Can s a) (cb : Can s b) (hl : a.length + b.length ≤ 1000) : f_law_plus [tI a, tI b, .int s] = some (tI (plusM s a b)) := by
  simp only [f_law_plus, kTTI_mk, if_pos (show okC s a b 1000 from ⟨hs, ca, cb, hl⟩)]
theorem f_parted_ok {a b : List Int} (hs : Sz s) (ca : Can s a) (cb : Can s b) (hb : b ≠ []) (hl : a.length + b.length ≤ 400) : f_parted [tI a, tI b, .int s] = some (.tup [tI (quoM s a b), tI (restM s a b)]) := by
  simp only [f_parted, kTTI_mk, if_pos (show okP s a b from ⟨⟨hs, ca, cb, hl⟩, hb⟩)]
theorem f_lrest_ok {a b : List Int} (hs : Sz s) (ca : Can s a) (cb : Can s b) (hb : b ≠ []) (hl : a.length + b.length ≤ 400) : f_law_rest [tI a, tI b, .int s] = some (tI (restM s a b)) := by
  simp only [f_law_rest, kTTI_mk, if_pos (show okP s a b from ⟨⟨hs, ca, cb, hl⟩, hb⟩)]
theorem f_rest_of_ok {a b : List Int} (hs : Sz s) (ca : Can s a) (cb : Can s b) (hb : b ≠ []) (hl : a.length + b.length ≤ 400) : f_rest_of [tI a, tI b, .int s] = some (tI (restM s a b)) := by
  simp only [f_rest_of, kTTI_mk, if_pos (show okP s a b from ⟨⟨hs, ca, cb, hl⟩, hb⟩)]
theorem f_power_ok {a b : List Int} (hs : Sz s) (ca : Can s a) (cb : Can s b) (hb : b ≠ []) (hl : a.length + b.length ≤ 130) {n : Int} (hn : 0 ≤ n) : f_power [tI a, .int n, tI b, .int s] = some (tI (powM s a n.toNat b)) := by
  simp only [f_power, kTITI_mk, if_pos (show okC s a b 130 ∧ b ≠ [] ∧ 0 ≤ n from ⟨⟨hs, ca, cb, hl⟩, hb, hn⟩)]
theorem f_inv_ok {x : Int} (hs : Sz s) (h0 : 0 < x) (h1 : x < s) : f_inverse_of [.int x, .int s] = some (.int (invM s x)) := by
  simp only [f_inverse_of, kII_mk, if_pos (show Sz s ∧ 0 < x ∧ x < s from ⟨hs, h0, h1⟩)]
theorem isLong_can (hs : Sz s) {a : List Int} (c : Can s a) : isLongB (tI a) s = true := by
  have e1 : isLongB (tI a) s = ((a.map D.int).all (fun d => isNumB d 0 (s - 1)) && lastNZ (a.map .int)) := rfl
  rw [e1, lastNZ_ints, c.nz, Bool.and_true, List.all_map, List.all_eq_true]
  intro i hi
  have h1 := c.lo i hi
  have h2 := c.hi i hi
  simp [isNumB]
  omega
theorem f_long_ok (hs : Sz s) {a : List Int} (c : Can s a) (hl : a.length ≤ 1000000) : f_law_is_long_sum [tI a, .int s] = some (.bl true) := by
  have h1 : okN 60 (tI a) = true := by simp only [okN]; exact okNA_ints _ a
  have h2 : szD (tI a) = true := decide_eq_true (by rw [List.length_map]; exact hl)
  simp only [f_law_is_long_sum, kAI_mk, if_pos (show okN 60 (tI a) = true ∧ szD (tI a) = true from ⟨h1, h2⟩), isLong_can hs c]
theorem f_is_ok (hs : Sz s) {a : List Int} (c : Can s a) (hl : a.length ≤ 9) : f_law_is_sum [tI a, .int s] = some (.bl true) := by
  have h1 : okN 60 (tI a) = true := by simp only [okN]; exact okNA_ints _ a
  have h2 : szD (tI a) = true := decide_eq_true (by rw [List.length_map]; omega)
  have h3 : lenLe9 (tI a) = true := decide_eq_true (by rw [List.length_map]; exact hl)
  simp only [f_law_is_sum, kAI_mk, if_pos (show okN 60 (tI a) = true ∧ szD (tI a) = true from ⟨h1, h2⟩), isLong_can hs c, h3, Bool.and_self]
def f_common : List D → Option D := kTTI fun a b s => if okC s a b 100 then some (tT (comM s a b)) else none
theorem f_common_ok {a b : List Int} (hs : Sz s) (ca : Can s a) (cb : Can s b) (hl : a.length + b.length ≤ 100) : f_common [tI a, tI b, .int s] = some (tT (comM s a b)) := by
  simp only [f_common, kTTI_mk, if_pos (show okC s a b 100 from ⟨hs, ca, cb, hl⟩)]
theorem toPyA_tts : ∀ L : List (List Int), toPyA (L.map fun l => tI l) = some (L.map fun l => PyData.tuple (l.map .int))
  | [] => rfl
  | l :: L => by simp [toPyA, toPy, toPyA_tts L, toPyA_ints]
theorem canLay_tts : ∀ L : List (List Int), PyData.canLayAll0 (L.map fun l => PyData.tuple (l.map .int)) = true
  | [] => rfl
  | l :: L => by simp [PyData.canLayAll0, PyData.canLay0, canLay_tts L, canLay_ints]
theorem depth_tts : ∀ L : List (List Int), PyData.depthAll (L.map fun l => PyData.tuple (l.map .int)) ≤ 2
  | [] => by simp [PyData.depthAll]
  | l :: L => by
    have := depth_tts L
    have := depth_ints l
    simp only [List.map_cons, PyData.depthAll, PyData.depth]
    omega
theorem eqv_tts : ∀ L M : List (List Int), PyData.eqvAll (L.map fun l => .tuple (l.map .int)) (M.map fun l => .tuple (l.map .int)) = decide (L = M)
  | [], [] => rfl
  | [], y :: ys => by simp [PyData.eqvAll]
  | x :: xs, [] => by simp [PyData.eqvAll]
  | x :: xs, y :: ys => by
    simp only [List.map_cons, PyData.eqvAll, PyData.eqv, eqv_tts xs ys, eqv_ints]
    by_cases h : x = y <;> by_cases h2 : xs = ys <;> simp [h, h2]
theorem shaped_tts (L : List (List Int)) : SeqAt.shaped (.tuple (L.map fun l => .tuple (l.map .int))) = true := by
  have h1 := canLay_tts L
  have h2 := depth_tts L
  simp only [SeqAt.shaped, PyData.canLay0, PyData.depth, h1, Bool.true_and]
  exact decide_eq_true (by omega)
theorem eqB_tt (L M : List (List Int)) : eqB (.tup (L.map fun l => tI l)) (.tup (M.map fun l => tI l)) = some (decide (L = M)) := by
  simp only [eqB, toPy, toPyA_tts, Option.map_some, Option.bind_some, shaped_tts, and_self, if_true, PyData.eqv, eqv_tts]
theorem eqD_tt (L M : List (List Int)) : eqD (.tup (L.map fun l => tI l)) (.tup (M.map fun l => tI l)) = some (.bl (decide (L = M))) := by simp only [eqD, eqB_tt, Option.map_some]
theorem eqD_n3 : eqD (.tup [.tup [], .tup [], .tup []]) (.tup [.tup [], .tup [], .tup []]) = some (.bl true) := eqD_tt [[], [], []] [[], [], []]
theorem wIf_to {tt : En → Option Bool} {U V : Po → En → Prop} {P : Po} {ρ : En} {k : Bool} (h : tt ρ = some k) (ρ' : En) (h1 : k = true → ∀ Q : Po, Q.nx ρ' → U Q ρ) (h2 : k = false → ∀ Q : Po, Q.nx ρ' → V Q ρ) (hn : P.nx ρ') : wIf tt U V P ρ :=
  ⟨k, h, fun e => h1 e P hn, fun e => h2 e P hn⟩
theorem app_can (hs : Sz s) {l : List Int} (h1 : ∀ i ∈ l, 0 ≤ i) (h2 : ∀ i ∈ l, i < s) {c : Int} (c0 : 0 < c) (c1 : c < s) : Can s (l ++ [c]) := by
  refine ⟨fun i hi => ?_, fun i hi => ?_, nz_of fun _ => ?_⟩
  · rcases List.mem_append.mp hi with z | z
    · exact h1 i z
    · rw [List.mem_singleton.mp z]; omega
  · rcases List.mem_append.mp hi with z | z
    · exact h2 i z
    · rw [List.mem_singleton.mp z]; omega
  · rw [cf_app, List.length_append, List.length_singleton, if_neg (by omega)]
    have : l.length + 1 - 1 - l.length = 0 := by omega
    rw [this, cf_cons0]
    omega
theorem cons_can {x : Int} {l : List Int} (c : Can s l) (hl : l ≠ []) (x0 : 0 ≤ x) (x1 : x < s) : Can s (x :: l) := by
  refine ⟨fun i hi => ?_, fun i hi => ?_, by rw [nzL_cons, if_neg hl]; exact c.nz⟩
  · rcases List.mem_cons.mp hi with z | z
    · rw [z]; exact x0
    · exact c.lo i z
  · rcases List.mem_cons.mp hi with z | z
    · rw [z]; exact x1
    · exact c.hi i z
end
end Pf

set_option Elab.async false
set_option linter.all false
set_option maxRecDepth 100000
set_option maxHeartbeats 2000000
/-! Pf14: refusals. -/
namespace Pf
open PySem PySem.Spec L2
abbrev bmVE : List Value := [.type "ValueError", .type "Exception", .type "BaseException", .type "object"]
/-- a class whose instances are raised with a text -/
structure ExR (K : PySem.W.Frag) (C : Addr) : Prop where
  q : PySem.W.excIn K C bmVE "ValueError.__new__" = true
  kC : PySem.W.keepIn K (.ref C) = true
  r1 : PySem.W.subIn K (.ref C) (.type "BaseException") = some true
  r2 : PySem.W.typeIn K (.ref C) = some (.type "type")
/-- what the end knows of the refusal x, its base, and two other ones -/
structure ExcF (K : PySem.W.Frag) (mg : Str → Option Value) (x a b : Str) (C F A B : Addr) : Prop where
  gC : mg x = some (.ref C)
  gF : mg "FoldError" = some (.ref F)
  gA : mg a = some (.ref A)
  gB : mg b = some (.ref B)
  r : ExR K C
  e : ExcC K C
  mC : PySem.W.exmOne K (.ref C) (.ref C) = some true
  mF : PySem.W.exmOne K (.ref C) (.ref F) = some true
  kF : PySem.W.kitOne K (.ref C) (.ref F) = some true
  kV : PySem.W.kitOne K (.ref C) (.type "ValueError") = some true
  kA : PySem.W.kitOne K (.ref C) (.ref A) = some false
  kB : PySem.W.kitOne K (.ref C) (.ref B) = some false
  kC : PySem.W.kitOne K (.ref C) (.ref C) = some true
def ExcT (K : PySem.W.Frag) (mg : Str → Option Value) (x a b : Str) : Prop := ∃ C F A B, ExcF K mg x a b C F A B
/-! ### promises with refusals -/
inductive Rs where
  | ok (d : D) | no (x : Str)
def spX (K : PySem.W.Frag) (mg : Str → Option Value) (fn : List D → Option Rs) : Sp := fun vs H Q E => ∃ ds r, DqA K H vs ds ∧ fn ds = some r ∧ (∀ d, r = .ok d → ∀ v H', Same H H' → Dq K H' v d → Q v H') ∧ (∀ x C H', r = .no x → mg x = some (.ref C) → Same H H' → E (.ref C) none H')
section
variable {P : Program} {w : World} {K : PySem.W.Frag} {mg : Str → Option Value} {base : Heap}
def FnX (P : Program) (w : World) (K : PySem.W.Frag) (mg : Str → Option Value) (base : Heap) (k : Nat) (x : Str) (fn : List D → Option Rs) : Prop :=
  ∃ (f : Addr) (fd : FuncData) (ps : List Str), FnOk P w K mg base (L2.CX P w) k f fd ps (spX K mg fn) ∧ mg x = some (.ref f) ∧ PySem.W.keepIn K (.ref f) = true ∧ Binds K fd ps []
def okR (fn : List D → Option Rs) : List D → Option D := fun ds => match fn ds with
  | some (.ok d) => some d
  | _ => none
/-- .. where it does not refuse -/
theorem FnX.cal {k : Nat} {x : Str} {fn : List D → Option Rs} (h : FnX P w K mg base k x fn) {lv : Nat} {N : List Str} {sc : Scope} {df : Bool} {md : Option (Cx → Prop)} (hk : k ≤ lv := by first | exact Nat.le_of_ble_eq_true rfl | exact Nat.le_refl _ | assumption) : Callee ⟨P, w, K, mg, base, lv, N, sc, df, md⟩ x (okR fn) := by
  obtain ⟨f, fd, ps, F, hm, kp, b⟩ := h
  refine ⟨L2.CX P w, k, f, fd, ps, F.imp fun vs H Q E q => ?_, hk, hm, kp, b, fun X h1 h2 => ?_⟩
  · obtain ⟨ds, d, e1, e2, e3⟩ := q
    unfold okR at e2
    split at e2
    · rename_i e4
      cases e2
      exact ⟨ds, .ok _, e1, e4, fun d2 z => by cases z; exact e3, fun _ _ _ z => nomatch z⟩
    · cases e2
  · have h1 : X.prog = P := h1
    have h2 : X.w = w := h2
    rw [← h1, ← h2]
    exact passL
end
section
variable {T : Ct} {a b c tg iter : Expr} {ga gb gc : En → Option D} {pos : Pos}
def ContX (K : PySem.W.Frag) (mg : Str → Option Value) (ρ : En) (σ : L2.St) (H : Hp) (px : Str → En → Prop) (Wx : WX) : Prop :=
  ∀ x C σ' H' ρ', mg x = some (.ref C) → Env K H' σ' ρ' → Evo ρ σ H ρ' σ' H' → px x ρ' → Wx (.ref C) none σ' H'
theorem ContX.on {K : PySem.W.Frag} {mg : Str → Option Value} {ρ ρ1 : En} {σ σ1 : L2.St} {H H1 : Hp} {px : Str → En → Prop} {Wx : WX} (c : ContX K mg ρ σ H px Wx) (e : Evo ρ σ H ρ1 σ1 H1) : ContX K mg ρ1 σ1 H1 px Wx :=
  fun x C σ' H' ρ' h1 h2 h3 h4 => c x C σ' H' ρ' h1 h2 (e.trans h3) h4
abbrev Px := Str → En → Prop
def SSr (T : Ct) (st : Stmt) (W : Po → Px → En → Prop) : Prop :=
  ∀ X, GoodS T X → ∀ Wx, Takes X Wx → ∀ (σ : L2.St) (H : Hp) (ρ : En) (P : Po) (px : Px) (E : Ends), Env T.K H σ ρ → W P px ρ → Cont T.K ρ σ H P E → ContX T.K T.mg ρ σ H px Wx → wS X st E σ H
def SBr (T : Ct) (st : List Stmt) (W : Po → Px → En → Prop) : Prop :=
  ∀ X, GoodS T X → ∀ Wx, Takes X Wx → ∀ (σ : L2.St) (H : Hp) (ρ : En) (P : Po) (px : Px) (E : Ends), Env T.K H σ ρ → W P px ρ → Cont T.K ρ σ H P E → ContX T.K T.mg ρ σ H px Wx → wB X st E σ H
def xNil : Po → Px → En → Prop := fun P _ ρ => P.nx ρ
theorem sr_nil : SBr T [] xNil := fun X G Wx tk σ H ρ P px E env h c cx => ⟨_, pss_nil, c.nx σ H ρ env (Evo.refl _ _ _) h⟩
def xCons (U V : Po → Px → En → Prop) : Po → Px → En → Prop := fun P px ρ => U { P with nx := V P px } px ρ
theorem sr_cons {st : Stmt} {r : List Stmt} {U V : Po → Px → En → Prop} (h1 : SSr T st U) (h2 : SBr T r V) : SBr T (st :: r) (xCons U V) := by
  intro X G Wx tk σ H ρ P px E env h c cx
  refine ⟨_, pss_cons ps_w pss_w, ?_⟩
  refine h1 X G Wx tk σ H ρ { P with nx := V P px } px { E with nx := wB X r E } env h ⟨fun σ' H' ρ' e1 e2 e3 => ?_, c.rt, c.bk, c.ct⟩ cx
  exact h2 X G Wx tk σ' H' ρ' P px E e1 e3 (c.on e2) (cx.on e2)
def xOf (U : Po → En → Prop) : Po → Px → En → Prop := fun P _ ρ => U P ρ
theorem sr_of {st : Stmt} {U : Po → En → Prop} (h : SS T st U) : SSr T st (xOf U) := fun X G Wx tk σ H ρ P px E env w c cx => h X G σ H ρ P E env w c
theorem sbr_of {st : List Stmt} {U : Po → En → Prop} (h : SB T st U) : SBr T st (xOf U) := fun X G Wx tk σ H ρ P px E env w c cx => h X G σ H ρ P E env w c
def xIf (g : En → Option Bool) (U V : Po → Px → En → Prop) : Po → Px → En → Prop := fun P px ρ => ∃ k, g ρ = some k ∧ (k = true → U P px ρ) ∧ (k = false → V P px ρ)
theorem sr_if {tt : En → Option Bool} {u v : List Stmt} {U V : Po → Px → En → Prop} (ht : ST T c tt) (hu : SBr T u U) (hv : SBr T v V) : SSr T (.If c u v pos) (xIf tt U V) := by
  intro X G Wx tk σ H ρ P px E env h k kx
  obtain ⟨b, h1, h2, h3⟩ := h
  refine ⟨_, ps_if pt_w pss_w pss_w, ?_⟩
  refine ht X G.1 σ H ρ b env h1 _ fun H1 s1 => ?_
  cases b with
  | true =>
    rw [if_pos rfl]
    exact hu X G Wx tk σ H1 ρ P px E (env.mono s1) (h2 rfl) (k.on (evo_same s1)) (kx.on (evo_same s1))
  | false =>
    rw [if_neg Bool.false_ne_true]
    exact hv X G Wx tk σ H1 ρ P px E (env.mono s1) (h3 rfl) (k.on (evo_same s1)) (kx.on (evo_same s1))
def xRaise (x : Str) : Po → Px → En → Prop := fun _ px ρ => px x ρ
theorem sr_raise {x m : Str} {j : Nat} {p p2 pos2 : Pos} {y z : Str} (hx : ExcT T.K T.mg x y z) (hg : T.sc.names.lookup x = some .globalImplicit) (hmd : T.md = none := by rfl) (hdb : (x == ("__debug__" : Str)) = false := by decide) :
    SSr T (.Raise (some (.Call (.Name x p) [.Constant (.str m) j p2] [] pos)) none pos2) (xRaise x) := by
  intro X G Wx tk σ H ρ P px E env h k kx
  obtain ⟨C, F, A, B, f⟩ := hx
  refine ⟨_, ps_raise (G.1.calm hmd) tk (pmk_own PySem.F.excBase_ValueError (by rw [G.1.hK]; exact f.r.q) (by rw [G.1.hm]; exact f.gC) (by rw [G.1.hK]; exact f.r.kC) (raises_own (by rw [G.1.hK]; exact f.r.r1) (by rw [G.1.hK]; exact f.r.r2)) (by show X.env.scope.names.lookup x = _; rw [G.1.hs]; exact hg) hdb), ?_⟩
  exact kx x C σ H ρ f.gC env (Evo.refl _ _ _) h
/-- x = f(..), f may refuse -/
def xSet (i : Nat) (fn : List D → Option Rs) (g : En → Option (List D)) : Po → Px → En → Prop := fun P px ρ => ∃ ds r, g ρ = some ds ∧ fn ds = some r ∧ (∀ d, r = .ok d → P.nx (ρ.set i (.im d))) ∧ (∀ x, r = .no x → px x ρ)
theorem callX {x : Str} {fn : List D → Option Rs} {e : Expr} {es : List Expr} {g : En → Option (List D)} {p : Pos} {k : Nat} (C : FnX T.P T.w T.K T.mg T.base k x fn) (h : SA T (e :: es) g) (hg : T.sc.names.lookup x = some .globalImplicit) (hk : k ≤ T.lv)
    (hdb : (x == ("__debug__" : Str)) = false) (he : ∀ env, starEach (e :: es) env = (false, eval e env) :: starEach es env) (hpl : ∀ env, (backTo pos (starEach es env)).any (·.1) = false) (hmd : T.md = none)
    {X : Cx} (G : Good T X) {Wx : WX} (tk : Takes X Wx) {px : Px} {P : Po} {E : Ends} {σ : L2.St} {H : Hp} {ρ : En} (env : Env T.K H σ ρ) {ds : List D} {r : Rs} (h1 : g ρ = some ds) (h2 : fn ds = some r) {Q : VK} (hq : ∀ d, r = .ok d → ∀ v H', Same H H' → Dq T.K H' v d → Q v H') (hx : ∀ x, r = .no x → px x ρ) (cx : ContX T.K T.mg ρ σ H px Wx) :
    wE X (.Call (.Name x p) (e :: es) [] pos) σ H Q := by
  obtain ⟨f, fd, ps, F, hm, kp, b⟩ := C
  have F' : FnOk X.prog X.w X.K X.mg X.base (L2.CX X.prog X.w) k f fd ps (spX T.K T.mg fn) := by rw [G.hP, G.hw, G.hK, G.hm, G.hb]; exact F
  refine ⟨_, pe_callS (E := WE Wx) F' ((G.room hmd).mono hk) (by show X.env.scope.names.lookup x = _; rw [G.hs]; exact hg) (by rw [G.hm]; exact hm) (by rw [G.hK]; exact kp) (by rw [G.hK]; exact b) (fun σ => passAt tk σ) pa_w hdb (he X.env) (hpl X.env), ?_⟩
  refine h X G σ H ρ ds env h1 _ fun vs H1 s1 d1 => ?_
  exact ⟨ds, r, d1, h2, fun d e v H' s2 d2 => hq d e v H' (s1.trans s2) d2, fun y C H' e hy s2 => cx y C σ H' ρ hy (env.mono (s1.trans s2)) (evo_same (s1.trans s2)) (hx y e)⟩
theorem sr_set (i : Nat) {y : Str} {py : Pos} {x : Str} {fn : List D → Option Rs} {e : Expr} {es : List Expr} {g : En → Option (List D)} {p pos2 : Pos} {k : Nat} (C : FnX T.P T.w T.K T.mg T.base k x fn) (h : SA T (e :: es) g) (hg : T.sc.names.lookup x = some .globalImplicit) (hN : T.N[i]? = some y) (hy : locB T y = true) (hk : k ≤ T.lv := by first | exact Nat.le_of_ble_eq_true rfl | exact Nat.le_refl _ | assumption)
    (hdb : (x == ("__debug__" : Str)) = false := by decide) (he : ∀ env, starEach (e :: es) env = (false, eval e env) :: starEach es env := by intro _; rfl) (hpl : ∀ env, (backTo pos (starEach es env)).any (·.1) = false := by intro _; rfl) (hmd : T.md = none := by rfl)
    (hs : ∀ env, swapsWith (.Call (.Name x p) (e :: es) [] pos) (some (.Name y py)) pos2.line env = pure false := by intro _; rfl) : SSr T (.Assign [.Name y py] (.Call (.Name x p) (e :: es) [] pos) pos2) (xSet i fn g) := by
  intro X G Wx tk σ H ρ P px E env w c cx
  obtain ⟨ds, r, h1, h2, h3, h4⟩ := w
  obtain ⟨l1, l2⟩ := loc_of G.1 hy
  refine ⟨_, ps_set (i := i) (by rw [G.1.hN]; exact G.1.nd) (by rw [G.1.hN]; exact hN) l1 pe_w (hs X.env) l2, ?_⟩
  refine callX C h hg hk hdb he hpl hmd G.1 tk (P := P) (E := E) env h1 h2 (fun d e v H1 s1 d1 => ?_) h4 cx
  exact c.nx _ H1 _ ((env.mono s1).set i d1) ((evo_same s1).trans (evo_set i fun ds z => nomatch z)) (h3 d e)
/-! ### except suites -/
def Sfx (K : PySem.W.Frag) (C a : Addr) (X : Cx) : Prop := X.K = K ∧ ∃ (X0 : Cx) (oe : Obj) (pn : List (Addr × Obj)), X = X0.suite a ((a, oe) :: pn) ∧ Zc (.ref C) none oe ∧ ∃ vs, oe.data = .fields vs
def Ct.sf (T : Ct) (C a : Addr) : Ct := { T with md := some (Sfx T.K C a) }
def gE (i a : Nat) (b : Bool) : En → Option D := fun ρ => match ρ[i]? with
  | some (.ex a') => if a' = a then some (.bl b) else none
  | _ => none
theorem gE_some {i a : Nat} {b : Bool} {ρ : En} {d : D} (h : gE i a b ρ = some d) : ρ[i]? = some (.ex a) ∧ d = .bl b := by
  unfold gE at h
  split at h
  · rename_i a' e
    split at h
    · rename_i e2
      cases h
      rw [e, e2]
      exact ⟨rfl, rfl⟩
    · cases h
  · cases h
theorem isE {C a : Addr} {i : Nat} {n y : Str} {p p1 p2 pos : Pos} {bb : Bool} {cv : V} {u : Value} (hE : ExcC T.K C) (hN : T.N[i]? = some n) (hv : visB T.sc n = true) (hg : T.sc.names.lookup ("isinstance" : Str) = some .globalImplicit) (hm : T.mg "isinstance" = none)
    (hy : ∀ X, Good T X → PE X (.Name y p2) (tC cv)) (hr : ∀ z, RelV cv z → z = u) (hk : PySem.W.kitOne T.K (.ref C) u = some bb) (hmd : T.md = some (Sfx T.K C a))
    (he : ∀ env, starEach [.Name n p1, .Name y p2] env = (false, eval (.Name n p1) env) :: starEach [.Name y p2] env := by intro _; rfl) (hd : (n == ("__debug__" : Str)) = false := by decide) (hcd : (n == ("__classdict__" : Str)) = false := by decide) :
    SE T (.Call (.Name "isinstance" p) [.Name n p1, .Name y p2] [] pos) (gE i a bb) := by
  intro X G σ H ρ d env hd' Q q
  obtain ⟨e1, rfl⟩ := gE_some hd'
  obtain ⟨hXK, X0, oe, pn, rfl, hz, hf⟩ := G.md _ hmd
  have hi : i < ρ.length := (List.getElem?_eq_some_iff.mp e1).1
  have hi2 : i < σ.length := by rw [env.len]; exact hi
  have es : σ[i]? = some (some (.ref a)) := by
    have := env.at_ i _ σ[i] e1 (List.getElem?_eq_getElem hi2)
    have e3 : σ[i] = some (.ref a) := this
    rw [List.getElem?_eq_getElem hi2, e3]
  have hE' : ExcC X0.K C := by
    have : X0.K = T.K := hXK
    rw [this]; exact hE
  refine ⟨_, pe_callB (call_isE hE' hz hf) (by show X0.env.scope.names.lookup _ = _; rw [show X0.env.scope = T.sc from G.hs]; exact hg) (by rw [G.hm]; exact hm) (by decide +kernel) (pa_cons (pe_var (i := i) (by rw [G.hN]; exact hN) (by rw [show (X0.suite a ((a, oe) :: pn)).env.scope = T.sc from G.hs]; exact vis_of hv) hd hcd) (pa_cons (hy _ G) pa_nil) (he _)) (by decide) (by decide) (he _) rfl, ?_⟩
  refine ⟨.ref a, es, cv, u, bb, rfl, hr, ?_, q _ H (Same.refl H) (.bl _)⟩
  rw [show X0.K = T.K from hXK]
  exact hk
theorem se_isE {C a F : Addr} {i : Nat} {n y : Str} {p p1 p2 pos : Pos} {bb : Bool} (hE : ExcC T.K C) (hk : PySem.W.kitOne T.K (.ref C) (.ref F) = some bb) (hy : T.mg y = some (.ref F)) (hN : T.N[i]? = some n) (hv : visB T.sc n = true) (hg : T.sc.names.lookup ("isinstance" : Str) = some .globalImplicit) (hgy : T.sc.names.lookup y = some .globalImplicit) (hm : T.mg "isinstance" = none) (hmd : T.md = some (Sfx T.K C a))
    (hdb : (y == ("__debug__" : Str)) = false := by decide) (he : ∀ env, starEach [.Name n p1, .Name y p2] env = (false, eval (.Name n p1) env) :: starEach [.Name y p2] env := by intro _; rfl) (hd : (n == ("__debug__" : Str)) = false := by decide) (hcd : (n == ("__classdict__" : Str)) = false := by decide) :
    SE T (.Call (.Name "isinstance" p) [.Name n p1, .Name y p2] [] pos) (gE i a bb) :=
  isE (cv := .ref F) (u := .ref F) hE hN hv hg hm (fun X G => pe_glob (by show X.env.scope.names.lookup y = _; rw [G.hs]; exact hgy) (by rw [G.hm]; exact hy) rfl hdb) (fun z h => h) hk hmd he hd hcd
theorem se_isEV {C a : Addr} {i : Nat} {n : Str} {p p1 p2 pos : Pos} {bb : Bool} (hE : ExcC T.K C) (hk : PySem.W.kitOne T.K (.ref C) (.type "ValueError") = some bb) (hy : T.mg "ValueError" = none) (hN : T.N[i]? = some n) (hv : visB T.sc n = true) (hg : T.sc.names.lookup ("isinstance" : Str) = some .globalImplicit) (hgy : T.sc.names.lookup ("ValueError" : Str) = some .globalImplicit) (hm : T.mg "isinstance" = none) (hmd : T.md = some (Sfx T.K C a))
    (he : ∀ env, starEach [.Name n p1, .Name "ValueError" p2] env = (false, eval (.Name n p1) env) :: starEach [.Name "ValueError" p2] env := by intro _; rfl) (hd : (n == ("__debug__" : Str)) = false := by decide) (hcd : (n == ("__classdict__" : Str)) = false := by decide) :
    SE T (.Call (.Name "isinstance" p) [.Name n p1, .Name "ValueError" p2] [] pos) (gE i a bb) :=
  isE (cv := .ty "ValueError") (u := .type "ValueError") hE hN hv hg hm (fun X G => pe_bltn (v := .ty "ValueError") (by show X.env.scope.names.lookup _ = _; rw [G.hs]; exact hgy) (by rw [G.hm]; exact hy) (by decide +kernel) rfl) (fun z h => h) hk hmd he hd hcd
theorem goodS_sf {X : Cx} (G : GoodS T X) {C a : Addr} {oe : Obj} {pn : List (Addr × Obj)} (hz : Zc (.ref C) none oe) (hf : ∃ vs, oe.data = .fields vs) : GoodS (T.sf C a) (X.suite a ((a, oe) :: pn)) :=
  ⟨⟨G.1.hP, G.1.hw, G.1.hK, G.1.hm, G.1.hb, G.1.hN, G.1.hs, (fun z => by cases z), G.1.nd, G.1.hf, (fun z => by cases z), G.1.hu, fun p e => by cases e; exact ⟨G.1.hK, X, oe, pn, rfl, hz, hf⟩⟩, PassesOwn.never, G.2.2⟩
theorem goodS_tr {X : Cx} (G : GoodS T X) (hmd : T.md = none) {pn : List (Addr × Obj)} {xe : Value → Shared → Prop} (po : PassesOwn (model X.prog X.w) X.A X.env xe) : GoodS T (X.tr pn xe) :=
  ⟨⟨G.1.hP, G.1.hw, G.1.hK, G.1.hm, G.1.hb, G.1.hN, G.1.hs, G.1.calm, G.1.nd, G.1.hf, G.1.room, G.1.hu, fun p e => by rw [hmd] at e; cases e⟩, po, G.2.2⟩
theorem env_ex {K : PySem.W.Frag} {H : Hp} {σ : L2.St} {ρ : En} (h : Env K H σ ρ) (i : Nat) (a : Addr) : Env K H (σ.set i (some (.ref a))) (ρ.set i (.ex a)) := by
  refine ⟨by rw [List.length_set, List.length_set]; exact h.len, fun j s ov e1 e2 => ?_⟩
  by_cases z : i = j
  · subst z
    rw [List.getElem?_set] at e1 e2
    split at e1
    · split at e1
      · split at e2
        · split at e2
          · cases e1; cases e2; exact rfl
          · cases e2
        · contradiction
      · cases e1
    · contradiction
  · rw [List.getElem?_set_ne z] at e1 e2
    exact h.at_ j s ov e1 e2
def noPo (P : Po) : Po := { nx := fun _ => False, rt := P.rt, bk := fun _ => False, ct := fun _ => False }
def wTry (i : Nat) (x : Str) (Wb : Po → Px → En → Prop) (Ws : Addr → Po → En → Prop) : Po → En → Prop := fun P ρ => Wb P (fun x' ρ' => x' = x ∧ ∀ a, Ws a (noPo P) (ρ'.set i (.ex a))) ρ
/-- try: body, except cn as n: suite; the suite always returns -/
theorem ss_tryAs (i : Nat) {x n cn : Str} {C Cc : Addr} {body suite : List Stmt} {b₀ : Stmt} {np pos' : Pos} {Wb : Po → Px → En → Prop} {Ws : Addr → Po → En → Prop} (hx : T.mg x = some (.ref C)) (hcn : T.mg cn = some (.ref Cc)) (hm : PySem.W.exmOne T.K (.ref C) (.ref Cc) = some true)
    (hb : SBr T body Wb) (hsu : ∀ a, SB (T.sf C a) (b₀ :: suite) (Ws a)) (hN : T.N[i]? = some n) (hn : T.sc.names.lookup n = some .local) (hk : T.sc.kind = .function) (hg : T.sc.names.lookup cn = some .globalImplicit) (hmd : T.md = none := by rfl) (hdb : (cn == ("__debug__" : Str)) = false := by decide) :
    SS T (.Try body [.ExceptHandler (some (.Name cn np)) (some n) (b₀ :: suite) pos'] [] [] pos) (wTry i x Wb Ws) := by
  intro X G σ H ρ P E env w c
  let tb : WX → TS := fun W E σ H => ∀ pn xe, Takes (X.tr pn xe) W → PassesOwn (model X.prog X.w) X.A X.env xe → wB (X.tr pn xe) body E σ H
  let ts : Addr → Value → Option Addr → TS := fun a cls d D σ H => cls = .ref C ∧ d = none ∧ ∀ (oe : Obj) (pn : List (Addr × Obj)), Zc (.ref C) none oe → (∃ vs, oe.data = .fields vs) → wB (X.suite a ((a, oe) :: pn)) (b₀ :: suite) D σ H
  refine ⟨_, ps_try_as (i := i) (n := n) (x := cn) (c := .ref Cc) (Wout := fun _ _ _ _ => False) (tb := tb) (ts := ts) G.2.2.1 G.2.2.2 (by rw [G.1.hN]; exact G.1.nd) (by rw [G.1.hN]; exact hN) ?_ ⟨by show X.env.scope.names.lookup cn = _; rw [G.1.hs]; exact hg, hdb, .inl (by rw [G.1.hm]; exact hcn)⟩ takes0
    (fun W pn xe tk po => ⟨fun pins s σ H D I h => by obtain ⟨t, p, q⟩ := h pn xe tk po; exact p.run pins s σ H D I q⟩) (fun a oe cls d pn hz hf => ⟨fun pins s σ H D I h => ?_⟩), ?_⟩
  · show X.env.kindOf n = some .local
    unfold PySem.Env.kindOf
    rw [G.1.hs, hn]
  · obtain ⟨rfl, rfl, h⟩ := h
    obtain ⟨t, p, q⟩ := h oe pn hz hf
    exact p.run pins s σ H D I q
  intro pn xe tk po
  refine hb (X.tr pn xe) (goodS_tr G hmd po) _ tk σ H ρ P _ E env w c fun x' C' σ' H' ρ' h1 h2 h3 ⟨h4, h5⟩ => ?_
  subst h4
  rw [hx] at h1
  cases h1
  refine ⟨true, by rw [G.1.hK]; exact hm, fun _ a _ => ⟨rfl, rfl, fun oe pn hz hf => ?_⟩, fun z => nomatch z⟩
  refine hsu a _ (goodS_sf G hz hf) _ H' (ρ'.set i (.ex a)) (noPo P) _ (env_ex h2 i a) (h5 a) ⟨fun _ _ _ _ _ z => z.elim, fun v σ'' H'' ρ'' d e1 e2 e3 => ?_, fun _ _ _ _ _ z => z.elim, fun _ _ _ _ _ z => z.elim⟩
  exact c.rt v σ'' H'' ρ'' d ((h3.trans (evo_set (s := .ex a) i fun ds z => nomatch z)).trans e1) e2 e3
/-- try: body, except cn: suite (without a name); the suite always returns -/
def wTryO (x : Str) (Wb : Po → Px → En → Prop) (Ws : Addr → Po → En → Prop) : Po → En → Prop := fun P ρ => Wb P (fun x' ρ' => x' = x ∧ ∀ a, Ws a (noPo P) ρ') ρ
theorem ss_tryOnly {x cn : Str} {C Cc : Addr} {body suite : List Stmt} {b₀ : Stmt} {np pos' : Pos} {Wb : Po → Px → En → Prop} {Ws : Addr → Po → En → Prop} (hx : T.mg x = some (.ref C)) (hcn : T.mg cn = some (.ref Cc)) (hm : PySem.W.exmOne T.K (.ref C) (.ref Cc) = some true)
    (hb : SBr T body Wb) (hsu : ∀ a, SB (T.sf C a) (b₀ :: suite) (Ws a)) (hg : T.sc.names.lookup cn = some .globalImplicit) (hmd : T.md = none := by rfl) (hdb : (cn == ("__debug__" : Str)) = false := by decide) :
    SS T (.Try body [.ExceptHandler (some (.Name cn np)) none (b₀ :: suite) pos'] [] [] pos) (wTryO x Wb Ws) := by
  intro X G σ H ρ P E env w c
  let tb : WX → TS := fun W E σ H => ∀ pn xe, Takes (X.tr pn xe) W → PassesOwn (model X.prog X.w) X.A X.env xe → wB (X.tr pn xe) body E σ H
  let ts : Addr → Value → Option Addr → TS := fun a cls d D σ H => cls = .ref C ∧ d = none ∧ ∀ (oe : Obj) (pn : List (Addr × Obj)), Zc (.ref C) none oe → (∃ vs, oe.data = .fields vs) → wB (X.suite a ((a, oe) :: pn)) (b₀ :: suite) D σ H
  refine ⟨_, ps_try_only (x := cn) (c := .ref Cc) (Wout := fun _ _ _ _ => False) (tb := tb) (ts := ts) G.2.2.1 G.2.2.2 ⟨by show X.env.scope.names.lookup cn = _; rw [G.1.hs]; exact hg, hdb, .inl (by rw [G.1.hm]; exact hcn)⟩ takes0
    (fun W pn xe tk po => ⟨fun pins s σ H D I h => by obtain ⟨t, p, q⟩ := h pn xe tk po; exact p.run pins s σ H D I q⟩) (fun a oe cls d pn hz hf => ⟨fun pins s σ H D I h => ?_⟩), ?_⟩
  · obtain ⟨rfl, rfl, h⟩ := h
    obtain ⟨t, p, q⟩ := h oe pn hz hf
    exact p.run pins s σ H D I q
  intro pn xe tk po
  refine hb (X.tr pn xe) (goodS_tr G hmd po) _ tk σ H ρ P _ E env w c fun x' C' σ' H' ρ' h1 h2 h3 ⟨h4, h5⟩ => ?_
  subst h4
  rw [hx] at h1
  cases h1
  refine ⟨true, by rw [G.1.hK]; exact hm, fun _ a _ => ⟨rfl, rfl, fun oe pn hz hf => ?_⟩, fun z => nomatch z⟩
  refine hsu a _ (goodS_sf G hz hf) _ H' ρ' (noPo P) _ h2 (h5 a) ⟨fun _ _ _ _ _ z => z.elim, fun v σ'' H'' ρ'' d e1 e2 e3 => ?_, fun _ _ _ _ _ z => z.elim, fun _ _ _ _ _ z => z.elim⟩
  exact c.rt v σ'' H'' ρ'' d (h3.trans e1) e2 e3
end
section
variable {P : Program} {w : World} {K : PySem.W.Frag} {mg : Str → Option Value} {base : Heap}
theorem fnx_mk {x : Str} {st : Stmt} {N ps : List Str} {k : Nat} (h : Hd K mg x st ps) (S : FnScope N ps (defScope st)) (fn : List D → Option Rs) {W : Po → Px → En → Prop} (hb : SBr (ctx P w K mg base k N st) (defBody st) W)
    (hlen : ∀ ds r, fn ds = some r → ds.length = ps.length) (hW : ∀ ds r, fn ds = some r → W { nx := fun _ => r = .ok .non, rt := fun d' => r = .ok d' } (fun x' _ => r = .no x') (stR N ds)) : FnX P w K mg base (k + 1) x fn := by
  obtain ⟨f, fd, F, hm, b⟩ := h
  refine ⟨f, fd, ps, F.okX S (fun vs H Q E h => ?_) (fun cdv A outer s H vs Q E hr h => ?_), hm, F.kp, b⟩
  · obtain ⟨ds, d, h1, h2, _⟩ := h
    rw [h1.length]
    exact hlen ds d h2
  · obtain ⟨ds, r, h1, h2, q, qx⟩ := h
    have G : GoodS (ctx P w K mg base k N st) (cxOf (L2.CX P w) P w K mg base N x (defScope st) f cdv A outer s H E) := ⟨⟨rfl, rfl, rfl, rfl, rfl, rfl, rfl, fun _ => rfl, S.nd, fun _ _ => rfl, fun _ => hr, un_of hr, fun _ e => (nomatch e)⟩, passes_of (K := fun e s' => L2.CX P w outer H s E e s') rfl, rfl, rfl⟩
    have tk := takes_of (X := cxOf (L2.CX P w) P w K mg base N x (defScope st) f cdv A outer s H E) rfl rfl rfl rfl
    refine ⟨_, pss_w, hb _ G _ tk (L2.start N vs) H (stR N ds) _ _ _ (env_start h1) (hW ds r h2) ⟨fun σ' H' ρ' _ e3 e4 => ?_, fun v σ' H' ρ' d' e3 e4 e5 => ?_, fun _ _ _ _ _ z => z.elim, fun _ _ _ _ _ z => z.elim⟩ fun x' C' σ' H' ρ' h1 h2 h3 h4 => ?_⟩
    · exact q .non e4 .non H' (e3.same (noOw_start N ds)) .non
    · exact q d' e5 v H' (e3.same (noOw_start N ds)) e4
    · exact qx x' C' H' h4 h1 (h3.same (noOw_start N ds))
end
end Pf

set_option Elab.async false
set_option linter.all false
set_option maxRecDepth 100000
set_option maxHeartbeats 2000000
/-! Pf15: refusals, the end; how they are reckoned with. -/
namespace Pf
open PySem PySem.Spec L2
section
variable (P : Po) (px : Px) (ρ : En) (i : Nat) (U : Po → En → Prop) (V W : Po → Px → En → Prop)
@[simp] theorem xNil_ap : xNil P px ρ = P.nx ρ := rfl
@[simp] theorem xCons_ap : xCons V W P px ρ = V { P with nx := W P px } px ρ := rfl
@[simp] theorem xOf_ap : xOf U P px ρ = U P ρ := rfl
@[simp] theorem xIf_ap (g : En → Option Bool) : xIf g V W P px ρ = ∃ k, g ρ = some k ∧ (k = true → V P px ρ) ∧ (k = false → W P px ρ) := rfl
@[simp] theorem xRaise_ap (x : Str) : xRaise x P px ρ = px x ρ := rfl
@[simp] theorem xSet_ap (fn : List D → Option Rs) (g : En → Option (List D)) : xSet i fn g P px ρ = ∃ ds r, g ρ = some ds ∧ fn ds = some r ∧ (∀ d, r = .ok d → P.nx (ρ.set i (.im d))) ∧ (∀ x, r = .no x → px x ρ) := rfl
@[simp] theorem wTry_ap (x : Str) (Ws : Addr → Po → En → Prop) : wTry i x V Ws P ρ = V P (fun x' ρ' => x' = x ∧ ∀ a, Ws a (noPo P) (ρ'.set i (.ex a))) ρ := rfl
@[simp] theorem wTryO_ap (x : Str) (Ws : Addr → Po → En → Prop) : wTryO x V Ws P ρ = V P (fun x' ρ' => x' = x ∧ ∀ a, Ws a (noPo P) ρ') ρ := rfl
@[simp] theorem slD_ex (a : Addr) : slD (.ex a) = none := rfl
@[simp] theorem gE_ap (a : Nat) (b : Bool) : gE i a b ρ = match ρ[i]? with
  | some (.ex a') => if a' = a then some (.bl b) else none
  | _ => none := rfl
@[simp] theorem noPo_rt : (noPo P).rt = P.rt := rfl
end
abbrev ExcG {K : PySem.W.Frag} {h : Heap} (_ : K.In h) (mg : Str → Option Value) (x a b : Str) : Prop := ExcT K mg x a b
theorem exc_mk {K : PySem.W.Frag} {h : Heap} {mg : Str → Option Value} (X : K.In h) (G : h.Ns mainGlobals mg) {x a b : Str} {C F A B : Addr}
    (a1 : PySem.W.nsIn K mainGlobals x = some (some (.ref C))) (a2 : PySem.W.nsIn K mainGlobals "FoldError" = some (some (.ref F))) (a3 : PySem.W.nsIn K mainGlobals a = some (some (.ref A))) (a4 : PySem.W.nsIn K mainGlobals b = some (some (.ref B)))
    (q : PySem.W.excIn K C bmVE "ValueError.__new__" = true) (kC : PySem.W.keepIn K (.ref C) = true) (r1 : PySem.W.subIn K (.ref C) (.type "BaseException") = some true) (r2 : PySem.W.typeIn K (.ref C) = some (.type "type"))
    (e1 : PySem.W.findIn K (.ref C) "__getattribute__" = some (some (.builtin "BaseException.__getattribute__"))) (e2 : PySem.W.findIn K (.ref C) "__getattr__" = some none) (e4 : PySem.W.hasDictIn K C = true)
    (e5 : PySem.W.findIn K (.ref C) "__class__" = some (some (.builtin "object.__class__"))) (e6 : PySem.W.specialIn K (.builtin "object.__class__") "__get__" = some (some (.builtin "getset_descriptor.__get__"))) (e7 : PySem.W.takesIn K (.builtin "object.__class__") = some true) (e8 : PySem.W.mroIn K C (.type "object") = some true)
    (f1 : PySem.W.subIn K (.ref F) (.type "BaseException") = some true) (f2 : PySem.W.hasDictIn K F = true) (f3 : PySem.W.typeIn K (.ref F) = some (.type "type")) (f4 : PySem.W.subIn K (.ref C) (.ref F) = some true) (f5 : PySem.W.subIn K (.ref C) (.ref C) = some true)
    (kF : PySem.W.kitOne K (.ref C) (.ref F) = some true) (kV : PySem.W.kitOne K (.ref C) (.type "ValueError") = some true) (kA : PySem.W.kitOne K (.ref C) (.ref A) = some false) (kB : PySem.W.kitOne K (.ref C) (.ref B) = some false) (kS : PySem.W.kitOne K (.ref C) (.ref C) = some true) : ExcT K mg x a b :=
  ⟨C, F, A, B, PySem.W.mg_of X G a1, PySem.W.mg_of X G a2, PySem.W.mg_of X G a3, PySem.W.mg_of X G a4, ⟨q, kC, r1, r2⟩, ⟨e1, e2, r1, e4, e5, e6, e7, e8⟩, PySem.W.exm_ref r1 e4 r2 f5, PySem.W.exm_ref f1 f2 f3 f4, kF, kV, kA, kB, kS⟩
end Pf

set_option Elab.async false
set_option linter.all false
set_option maxRecDepth 100000
set_option maxHeartbeats 2000000
/-! Pm8: what may be refused. -/
namespace Pf
open PySem PySem.Spec L2
def xf_parted : List D → Option Rs := kTTI fun a b s => if okC s a b 400 then some (if b = [] then .no "NoPart" else .ok (.tup [tI (quoM s a b), tI (restM s a b)])) else none
def f_told10 : List D → Option D := kTTI fun a b s => if okC s a b 400 then some (if b = [] then .non else .tup [tI (quoM s a b), tI (restM s a b)]) else none
theorem f_told10_ok {s : Int} {a b : List Int} (hs : Sz s) (ca : Can s a) (cb : Can s b) (hl : a.length + b.length ≤ 400) : f_told10 [tI a, tI b, .int s] = some (if b = [] then .non else .tup [tI (quoM s a b), tI (restM s a b)]) := by
  simp only [f_told10, kTTI_mk, if_pos (show okC s a b 400 from ⟨hs, ca, cb, hl⟩)]
theorem eqD_two (a b c d : List Int) : eqD (.tup [tI a, tI b]) (.tup [tI c, tI d]) = some (.bl (decide ([a, b] = [c, d]))) := eqD_tt [a, b] [c, d]
end Pf

set_option Elab.async false
set_option linter.all false
set_option maxRecDepth 100000
set_option maxHeartbeats 2000000
/-! Pm9: turned over, put together. -/
namespace Pf
open PySem PySem.Spec L2
section
variable {s : Int}
def gcL (s : Int) : Nat → List Int → List Int → List Int
  | 0, l, _ => l
  | n + 1, l, r => if r = [] then l else gcL s n r (restM s l r)
theorem g_stop {n : Nat} {l : List Int} : gcL s n l [] = l := by
  cases n with
  | zero => rfl
  | succ n => rw [gcL, if_pos rfl]
theorem g_go {n : Nat} {l r : List Int} (h : r ≠ []) : gcL s (n + 1) l r = gcL s n r (restM s l r) := by rw [gcL, if_neg h]
theorem g_ok (hs : Sz s) : ∀ (n : Nat) (l r : List Int), Can s l → Can s r → r.length ≤ n → Can s (gcL s n l r) ∧ (gcL s n l r).length ≤ max l.length r.length ∧ (l ≠ [] ∨ r ≠ [] → gcL s n l r ≠ []) ∧ ∀ d, Dv d (pl s l) → Dv d (pl s r) → Dv d (pl s (gcL s n l r))
  | 0, l, r, cl, cr, hn => by
    have : r = [] := List.length_eq_zero_iff.mp (by omega)
    subst this
    rw [g_stop]
    exact ⟨cl, by omega, fun h => by rcases h with h | h; exact h; exact absurd rfl h, fun d h _ => h⟩
  | n + 1, l, r, cl, cr, hn => by
    by_cases hr : r = []
    · subst hr
      rw [g_stop]
      exact ⟨cl, by omega, fun h => by rcases h with h | h; exact h; exact absurd rfl h, fun d h _ => h⟩
    · rw [g_go hr]
      have p := part_ok hs cl cr hr
      have lt := p.lt
      obtain ⟨h1, h2, h3, h4⟩ := g_ok hs n r (restM s l r) cr p.cr (by omega)
      refine ⟨h1, by omega, fun _ => h3 (.inl hr), fun d d1 d2 => h4 d d2 ?_⟩
      have e : pl s (restM s l r) = pl s l - pl s (quoM s l r) * pl s r := by rw [p.eq]; grind
      rw [e]
      exact d1.sub (d2.mul (fi_pl _))
def lcomM (s : Int) (a b : List Int) : List Int :=
  let g := gcL s b.length a b
  if g = [] then [] else g.map fun p => p * leadM s g % s
theorem map_lead (hs : Sz s) {g : List Int} (cg : Can s g) (hg : g ≠ []) : Can s (g.map fun p => p * leadM s g % s) ∧ (g.map fun p => p * leadM s g % s) ≠ [] ∧ pl s (g.map fun p => p * leadM s g % s) = (leadM s g : Rg s) * pl s g := by
  have e : (g.map fun p => p * leadM s g % s) = g.map fun p => leadM s g * p % s := List.map_congr_left fun p _ => by rw [Int.mul_comm]
  have lp := List.length_pos_iff.mpr hg
  refine ⟨⟨fun i hi => ?_, fun i hi => ?_, nz_of fun _ => ?_⟩, by simpa using hg, by rw [e, pl_smul]⟩
  · obtain ⟨n, _, rfl⟩ := List.mem_map.mp hi; exact (emod_in hs _).1
  · obtain ⟨n, _, rfl⟩ := List.mem_map.mp hi; exact (emod_in hs _).2
  · rw [List.length_map, cf_map _ _ (by omega), lead_ok hs cg hg]; decide
theorem lcom_ok (hs : Sz s) {a b : List Int} (ca : Can s a) (cb : Can s b) : Can s (lcomM s a b) ∧ (a ≠ [] ∨ b ≠ [] → lcomM s a b ≠ []) ∧ ∀ d, Dv d (pl s a) → Dv d (pl s b) → Dv d (pl s (lcomM s a b)) := by
  obtain ⟨h1, h2, h3, h4⟩ := g_ok hs b.length a b ca cb (Nat.le_refl _)
  unfold lcomM
  simp only
  split
  · rename_i e
    refine ⟨Can.nil, fun h => absurd e (h3 h), fun d d1 d2 => ?_⟩
    rw [pl_nil]; exact Dv.zero _
  · rename_i e
    obtain ⟨q1, q2, q3⟩ := map_lead hs h1 e
    refine ⟨q1, fun _ => q2, fun d d1 d2 => ?_⟩
    rw [q3]
    exact (h4 d d1 d2).mul (fi_int _)
theorem dv_len (hs : Sz s) {x y : List Int} (cx : Can s x) (cy : Can s y) (hy : y ≠ []) (h : Dv (pl s x) (pl s y)) : x.length ≤ y.length := by
  obtain ⟨z, fz, e⟩ := h
  obtain ⟨l, cl, rfl⟩ := fz.list hs
  have hl : l ≠ [] := fun q => hy ((can_pl0 cy).mp (by rw [e, q, pl_nil]; grind))
  have hx : x ≠ [] := fun q => hy ((can_pl0 cy).mp (by rw [e, q, pl_nil]; grind))
  have := len_mul hs cl cx cy hl hx e
  have := List.length_pos_iff.mpr hl
  omega
/-- where the greatest common part is not 1, the law's is long, too -/
theorem lcom_long (hs : Sz s) {a b x : List Int} (ca : Can s a) (cb : Can s b) (hb : b ≠ []) (cx : Can s x) (hx : (comM s x b).1 ≠ [1]) (d : Dv (pl s (comM s x b).1) (pl s a)) : 1 < (lcomM s a b).length := by
  have k := com_ok hs cx cb
  obtain ⟨h1, h2, h3⟩ := lcom_ok hs ca cb
  obtain ⟨n1, n2⟩ := k.ne (.inr hb)
  have l1 := dv_len hs k.c1 h1 (h2 (.inr hb)) (h3 _ d k.d2)
  have l2 : (comM s x b).1.length ≠ 1 := fun z => by
    rw [z] at n2
    obtain ⟨y, e⟩ := List.length_eq_one_iff.mp z
    rw [e] at n2 hx
    have : y = 1 := n2
    exact hx (by rw [this])
  have := List.length_pos_iff.mpr n1
  omega
def f_law_common : List D → Option D := kTTI fun a b s => if okC s a b 200 then some (tI (lcomM s a b)) else none
theorem f_lcommon_ok {a b : List Int} (hs : Sz s) (ca : Can s a) (cb : Can s b) (hl : a.length + b.length ≤ 200) : f_law_common [tI a, tI b, .int s] = some (tI (lcomM s a b)) := by
  simp only [f_law_common, kTTI_mk, if_pos (show okC s a b 200 from ⟨hs, ca, cb, hl⟩)]
/-! turned over -/
def ok33 (s : Int) (a b : List Int) : Prop := okC s a b 50 ∧ b ≠ []
instance (s : Int) (a b : List Int) : Decidable (ok33 s a b) := by unfold ok33; infer_instance
def c33 (s : Int) (a b : List Int) : Prop := (comM s (restM s a b) b).1 ≠ [1]
instance (s : Int) (a b : List Int) : Decidable (c33 s a b) := by unfold c33; infer_instance
def invP (s : Int) (a b : List Int) : List Int := restM s (comM s (restM s a b) b).2.1 b
def xf_inverse : List D → Option Rs := kTTI fun a b s => if ok33 s a b then some (if c33 s a b then .no "NoPart" else .ok (tI (invP s a b))) else none
def f_told33 : List D → Option D := kTTI fun a b s => if ok33 s a b then some (if c33 s a b then .non else tI (invP s a b)) else none
theorem f_told33_ok {a b : List Int} (h : ok33 s a b) : f_told33 [tI a, tI b, .int s] = some (if c33 s a b then .non else tI (invP s a b)) := by
  simp only [f_told33, kTTI_mk, if_pos h]
theorem inv_no (hs : Sz s) {a b : List Int} (ca : Can s a) (cb : Can s b) (hb : b ≠ []) (h : c33 s a b) : 1 < (lcomM s a b).length := by
  have p := part_ok hs ca cb hb
  have k := com_ok hs p.cr cb
  refine lcom_long hs ca cb hb p.cr h ?_
  rw [p.eq]
  exact (k.d2.mul (fi_pl _)).add k.d1
theorem inv_yes (hs : Sz s) {a b : List Int} (ca : Can s a) (cb : Can s b) (hb : 2 ≤ b.length) (h : ¬ c33 s a b) : Can s (invP s a b) ∧ (invP s a b).length < b.length ∧ restM s (timesM s (invP s a b) a) b = [1] := by
  have hne : b ≠ [] := fun z => by rw [z] at hb; simp at hb
  have p := part_ok hs ca cb hne
  have k := com_ok hs p.cr cb
  have e1 : (comM s (restM s a b) b).1 = [1] := Decidable.not_not.mp h
  have eq := k.eq
  rw [e1, pl_one] at eq
  have r := rest_can hs k.c2 cb hne
  have q := rest_cg hs k.c2 cb hne
  refine ⟨r.1, r.2, ?_⟩
  refine (rest_by hs (times_can hs _ _) cb (one_can hs) (by simp; omega) ?_).symm
  rw [pl_times, pl_one]
  have q2 := Cg.mul (fi_pl (invP s a b)) (fi_pl a) q (Cg.refl (pl s b) (pl s a))
  refine Cg.trans ?_ q2.symm
  refine ⟨pl s (comM s (restM s a b) b).2.2 - pl s (comM s (restM s a b) b).2.1 * pl s (quoM s a b), (fi_pl _).sub ((fi_pl _).mul (fi_pl _)), ?_⟩
  have pe := p.eq
  generalize pl s (comM s (restM s a b) b).2.1 = u at *
  generalize pl s (comM s (restM s a b) b).2.2 = v at *
  grind
/-! put together -/
def ok40 (s : Int) (a f b t : List Int) : Prop := okC s a b 60 ∧ okC s f t 60 ∧ a ≠ [] ∧ b ≠ []
instance (s : Int) (a f b t : List Int) : Decidable (ok40 s a f b t) := by unfold ok40; infer_instance
def c40 (s : Int) (a b : List Int) : Prop := (comM s a b).1 ≠ [1]
instance (s : Int) (a b : List Int) : Decidable (c40 s a b) := by unfold c40; infer_instance
def sumP (s : Int) (a f b t : List Int) : List Int := plusM s (timesM s (timesM s (comM s a b).2.2 b) (restM s f a)) (timesM s (timesM s (comM s a b).2.1 a) (restM s t b))
def bothP (s : Int) (a f b t : List Int) : List Int := restM s (sumP s a f b t) (timesM s a b)
def xf_both : List D → Option Rs := kTTTTI fun a f b t s => if ok40 s a f b t then some (if c40 s a b then .no "NoPart" else .ok (tI (bothP s a f b t))) else none
def f_told40 : List D → Option D := kTTTTI fun a f b t s => if ok40 s a f b t then some (if c40 s a b then .non else tI (bothP s a f b t)) else none
theorem f_told40_ok {a f b t : List Int} (h : ok40 s a f b t) : f_told40 [tI a, tI f, tI b, tI t, .int s] = some (if c40 s a b then .non else tI (bothP s a f b t)) := by
  simp only [f_told40, kTTTTI_mk, if_pos h]
theorem both_no (hs : Sz s) {a b : List Int} (ca : Can s a) (cb : Can s b) (hb : b ≠ []) (h : c40 s a b) : 1 < (lcomM s a b).length :=
  lcom_long hs ca cb hb ca h (com_ok hs ca cb).d1
theorem times_ne (hs : Sz s) {a b : List Int} (ca : Can s a) (cb : Can s b) (ha : a ≠ []) (hb : b ≠ []) : timesM s a b ≠ [] := fun z => by
  have := times_len_eq hs ca cb ha hb
  have l1 := List.length_pos_iff.mpr ha
  have l2 := List.length_pos_iff.mpr hb
  rw [z, List.length_nil] at this
  omega
theorem both_yes (hs : Sz s) {a f b t : List Int} (ca : Can s a) (cb : Can s b) (cf' : Can s f) (ct : Can s t) (ha : a ≠ []) (hb : b ≠ []) (h : ¬ c40 s a b) : Can s (bothP s a f b t) ∧ (bothP s a f b t).length + 1 < a.length + b.length ∧ restM s (bothP s a f b t) a = restM s f a ∧ restM s (bothP s a f b t) b = restM s t b := by
  have k := com_ok hs ca cb
  have e1 : (comM s a b).1 = [1] := Decidable.not_not.mp h
  have eq := k.eq
  rw [e1, pl_one] at eq
  have cab := times_can hs a b
  have nab := times_ne hs ca cb ha hb
  have lab := times_len_eq hs ca cb ha hb
  have cS : Can s (sumP s a f b t) := plus_can hs _ _
  have r := rest_can hs cS cab nab
  have q := rest_cg hs cS cab nab
  rw [pl_times] at q
  have eS : pl s (sumP s a f b t) = pl s (comM s a b).2.2 * pl s b * pl s (restM s f a) + pl s (comM s a b).2.1 * pl s a * pl s (restM s t b) := by
    unfold sumP
    rw [pl_plus, pl_times, pl_times, pl_times, pl_times]
  have pf := rest_cg hs cf' ca ha
  have pt := rest_cg hs ct cb hb
  have ff := fi_pl (s := s) (restM s f a)
  have ft := fi_pl (s := s) (restM s t b)
  have fu := fi_pl (s := s) (comM s a b).2.1
  have fv := fi_pl (s := s) (comM s a b).2.2
  have fa := fi_pl (s := s) a
  have fb := fi_pl (s := s) b
  refine ⟨r.1, ?_, ?_, ?_⟩
  · show (restM s (sumP s a f b t) (timesM s a b)).length + 1 < _
    omega
  · refine (rest_eq hs r.1 cf' ca ha).mpr (Cg.trans ?_ pf)
    obtain ⟨z, fz, ez⟩ := q
    refine ⟨z * pl s b + pl s (comM s a b).2.1 * pl s (restM s t b) - pl s (comM s a b).2.1 * pl s (restM s f a), ((fz.mul fb).add (fu.mul ft)).sub (fu.mul ff), ?_⟩
    show pl s (restM s (sumP s a f b t) (timesM s a b)) - _ = _
    rw [eS] at ez
    generalize pl s (restM s (sumP s a f b t) (timesM s a b)) = R at *
    generalize pl s (comM s a b).2.1 = u at *
    generalize pl s (comM s a b).2.2 = v at *
    generalize pl s (restM s f a) = F at *
    generalize pl s (restM s t b) = T at *
    grind
  · refine (rest_eq hs r.1 ct cb hb).mpr (Cg.trans ?_ pt)
    obtain ⟨z, fz, ez⟩ := q
    refine ⟨z * pl s a + pl s (comM s a b).2.2 * pl s (restM s f a) - pl s (comM s a b).2.2 * pl s (restM s t b), ((fz.mul fa).add (fv.mul ff)).sub (fv.mul ft), ?_⟩
    show pl s (restM s (sumP s a f b t) (timesM s a b)) - _ = _
    rw [eS] at ez
    generalize pl s (restM s (sumP s a f b t) (timesM s a b)) = R at *
    generalize pl s (comM s a b).2.1 = u at *
    generalize pl s (comM s a b).2.2 = v at *
    generalize pl s (restM s f a) = F at *
    generalize pl s (restM s t b) = T at *
    grind
def longM (n s : Int) : List Int := if (sumM n s 8).length < 2 then [n / 7 % s, 1] else sumM n s 8
def f_law_long : List D → Option D := kII fun n s => if Sz s ∧ 0 ≤ n then some (tI (longM n s)) else none
theorem two_can (hs : Sz s) (x : Int) : Can s [x % s, 1] := cons_can (one_can hs) (by simp) (emod_in hs x).1 (emod_in hs x).2
theorem long_ok (hs : Sz s) {n : Int} (h : 0 ≤ n) : f_law_long [.int n, .int s] = some (tI (longM n s)) ∧ Can s (longM n s) ∧ 2 ≤ (longM n s).length ∧ (longM n s).length ≤ 8 := by
  have l := sum_le hs n (m := 8)
  have l : (sumM n s 8).length ≤ 8 := l
  refine ⟨by simp only [f_law_long, kII_mk, if_pos (show Sz s ∧ 0 ≤ n from ⟨hs, h⟩)], ?_⟩
  unfold longM
  split
  · exact ⟨two_can hs _, by simp, by simp⟩
  · exact ⟨sum_can hs n (m := 8), by omega, l⟩
end
end Pf

set_option Elab.async false
set_option linter.all false
set_option maxRecDepth 100000
set_option maxHeartbeats 2000000
/-! Pf16: a display of numbers asked; lists made longer, one by the other. -/
namespace Pf
open PySem PySem.Spec L2
section
variable {T : Ct} {a b c tg iter : Expr} {ga gb gc : En → Option D} {pos : Pos}
/-- {2: x, 3: y, 5: z}[i] -/
def dx235 (x y z : Int) : D → Option D
  | .int k => if k = 2 then some (.int x) else if k = 3 then some (.int y) else if k = 5 then some (.int z) else none
  | _ => none
theorem se_dx235 {x y z : Int} {j1 j2 j3 j4 j5 j6 : Nat} {p1 p2 p3 p4 p5 p6 pd : Pos} (hi : SE T a ga) (hs : NoSl a) :
    SE T (.Subscript (.Dict [some (.Constant (.int 2) j1 p1), some (.Constant (.int 3) j2 p2), some (.Constant (.int 5) j3 p3)] [.Constant (.int x) j4 p4, .Constant (.int y) j5 p5, .Constant (.int z) j6 p6] pd) a pos) (g1 (dx235 x y z) ga) := by
  intro X G σ H ρ d env hd Q q
  unfold g1 at hd
  cases e1 : ga ρ with
  | none => rw [e1] at hd; cases hd
  | some w =>
  rw [e1] at hd
  have hd : dx235 x y z w = some d := hd
  cases w <;> try (cases hd; done)
  rename_i k _
  refine ⟨_, pe_dget (by have := G.hu; omega) (pe_disp (pps_cons pe_int pe_int (pps_cons pe_int pe_int (pps_cons pe_int pe_int pps_nil))) rfl rfl (by simp) (by simp)) pe_w hs, ?_⟩
  intro p hp
  refine ⟨upd_same, [(.inl 2, .int x), (.inl 3, .int y), (.inl 5, .int z)], rfl, by simp, ?_⟩
  have s1 : Same H (upd (upd H p (.dK [])) p (.dK (mergeK [] [(.inl 2, .int x), (.inl 3, .int y), (.inl 5, .int z)]))) := fun b o e => by
    have nb : b ≠ p := fun z => by rw [z, hp] at e; cases e
    rw [upd_ne nb, upd_ne nb]; exact e
  refine hi X G σ _ ρ _ (env.mono s1) e1 _ fun v H2 s2 d2 => ?_
  cases d2
  have e2 : H2 p = some (.dK (mergeK [] [(.inl 2, .int x), (.inl 3, .int y), (.inl 5, .int z)])) := s2 _ _ upd_same
  have g := DGet.k (k := .inl k) e2
  have fin : ∀ n, d = .int n → valV (mergeK [] [((.inl 2 : Key), V.int x), (.inl 3, .int y), (.inl 5, .int z)]) (.inl k) = some (.int n) → ∃ (a : Addr) (v : V), V.ref p = .ref a ∧ DGet H2 a (.int k) (some v) ∧ Q v H2 := fun n hn hv => by
    rw [hv] at g
    subst hn
    exact ⟨p, .int n, rfl, g, q _ H2 (s1.trans s2) (.int n)⟩
  have hd : (if k = 2 then some (D.int x) else if k = 3 then some (.int y) else if k = 5 then some (.int z) else none) = some d := hd
  split at hd
  · rename_i h; subst h; cases hd; exact fin x rfl rfl
  · split at hd
    · rename_i h; subst h; cases hd; exact fin y rfl rfl
    · split at hd
      · rename_i h; subst h; cases hd; exact fin z rfl rfl
      · cases hd
@[simp] theorem dx235_int (x y z k : Int) : dx235 x y z (.int k) = if k = 2 then some (.int x) else if k = 3 then some (.int y) else if k = 5 then some (.int z) else none := rfl
/-! ### longer = []; for some in found: longer.extend([..]) -/
def exLf (ρ : En) (i f v : Nat) : Bool := (((ρ.set i .un).set f .un).set v .un).all fun s => match s with
  | .un => true
  | .im d => lf d
  | .ow _ => false
  | .ex _ => true
def wExt (i f v : Nat) (gl : En → Option (List D)) (V : Po → En → Prop) : Po → En → Prop := fun P ρ => ∃ (ds : List D) (es : List (List D)), ρ[f]? = some (.im (.lst ds)) ∧ i < ρ.length ∧ v < ρ.length ∧ lfA ds = true ∧ exLf ρ i f v = true ∧ es.length = ds.length ∧
  (∀ (k : Nat) (d : D) (e : List D), ds[k]? = some d → es[k]? = some e → lfA e = true ∧ gl ((ρ.set i .un).set v (.im d)) = some e) ∧ es.flatten.length ≤ 1000000 ∧ V P ((ρ.set i (.ow es.flatten)).set v .un)
theorem flat_take {es : List (List D)} {k : Nat} {e : List D} (h : es[k]? = some e) : (es.take (k + 1)).flatten = (es.take k).flatten ++ e := by
  rw [List.take_succ, h, Option.toList_some, List.flatten_append, List.flatten_cons, List.flatten_nil, List.append_nil]
theorem flat_le {es : List (List D)} (k : Nat) : (es.take k).flatten.length ≤ es.flatten.length := by
  have : es.flatten = (es.take k).flatten ++ (es.drop k).flatten := by rw [← List.flatten_append, List.take_append_drop]
  rw [this, List.length_append]; omega
theorem dqa_flat {K : PySem.W.Frag} {H : Hp} {vs us : List V} {ds es : List D} (h : DqA K H vs ds) (g : DqA K H us es) : DqA K H (vs ++ us) (ds ++ es) := h.append g
theorem sb_ext (i f v : Nat) {y x z : Str} {py pya pz px pl pos1 pos2 pa pc pe : Pos} {L : Expr} {gl : En → Option (List D)} {rest : List Stmt} {V : Po → En → Prop}
    (hL : SL T L gl) (hV : SB T rest V) (hfi : i ≠ f) (hfv : v ≠ f) (hiv : i ≠ v) (hNi : T.N[i]? = some y) (hNf : T.N[f]? = some z) (hNv : T.N[v]? = some x) (hy : locB T y = true) (hyv : visB T.sc y = true) (hzv : visB T.sc z = true) (hx : locB T x = true)
    (hmd : T.md = none := by rfl) (hline : (pa.endLine == pc.line) = true := by rfl)
    (hbase : ∀ env, attributeBase (.Name y pya) "extend" env (eval (.Name y pya) env) = eval (.Name y pya) env := by intro _; rfl)
    (hfew : ∀ env, ((backTo pc (starEach [L] env)).all (fun x => !x.1) && (backToKw pc (keywordEach [] env)).all (fun x => x.1.isSome)
      && decide ([L].length + ([] : List Keyword).length + (if ([] : List Keyword).isEmpty then 0 else 1) < 30)) = true := by intro _; rfl) (hst : ∀ env, starEach [L] env = (false, eval L env) :: starEach [] env := by intro _; rfl)
    (hsw : ∀ env, swapsWith (.Call (.Attribute (.Name y pya) "extend" pa) [L] [] pc) none pe.line env = pure false := by intro _; rfl)
    (hs : ∀ env, swapsWith (.List [] pl) (some (.Name y py)) pos1.line env = pure false := by intro _; rfl) (hfs : ∀ env w, foldedSetIterable (.Name z pz) env w = pure w := by intro _ _; rfl)
    (hd : (y == ("__debug__" : Str)) = false := by decide) (hcd : (y == ("__classdict__" : Str)) = false := by decide) (hd2 : (z == ("__debug__" : Str)) = false := by decide) (hcd2 : (z == ("__classdict__" : Str)) = false := by decide) :
    SB T (.Assign [.Name y py] (.List [] pl) pos1 :: .For (.Name x px) (.Name z pz) [.Expr (.Call (.Attribute (.Name y pya) "extend" pa) [L] [] pc) pe] [] pos2 :: rest) (wExt i f v gl V) := by
  intro X G σ H ρ P E env h c
  obtain ⟨ds, es, hf, hil, hvl, l1, l2, hel, hit, hsz, h⟩ := h
  obtain ⟨ly1, ly2⟩ := loc_of G.1 hy
  obtain ⟨lx1, lx2⟩ := loc_of G.1 hx
  refine ⟨_, pss_cons (ps_set (i := i) (by rw [G.1.hN]; exact G.1.nd) (by rw [G.1.hN]; exact hNi) ly1 pe_w (hs X.env) ly2) (pss_cons (ps_for G.2.1 (G.1.calm hmd) (pi_list (pe_var (i := f) (by rw [G.1.hN]; exact hNf) (by rw [G.1.hs]; exact vis_of hzv) hd2 hcd2)) (pg_name (i := v) (by rw [G.1.hN]; exact G.1.nd) (by rw [G.1.hN]; exact hNv) lx1 lx2) pss_w (hfs X.env)) pss_w), ?_⟩
  refine sl_lst sa_nil X G.1 σ H ρ [] env (by simp [gLst, gNil]) _ fun p xs0 H1 hp s1 e1 d1 => ?_
  cases d1
  -- the list that is walked
  have hfl : f < σ.length := by rw [env.len]; exact (List.getElem?_eq_some_iff.mp hf).1
  obtain ⟨vf, ef, df⟩ := env.at_ f _ σ[f] hf (List.getElem?_eq_getElem hfl)
  have ef2 : σ[f]? = some (some vf) := by rw [List.getElem?_eq_getElem hfl, ef]
  cases df with
  | @lst pf xf _ hpf dqf =>
  have nep : pf ≠ p := fun z => by rw [z, hp] at hpf; cases hpf
  have len := env.len
  have hσ1 : (σ.set i (some (L2.V.ref p)))[f]? = some (some (.ref pf)) := by rw [List.getElem?_set_ne hfi]; exact ef2
  refine ⟨.ref pf, hσ1, pf, rfl, ⟨xf, SqL.of (s1 _ _ hpf)⟩, ?_⟩
  have wk := walk_list (K := X.K) (a := pf) (xs := xf)
  refine for_it wk (fun k σ2 H2 => ∃ acc, H2 p = some (.lst acc) ∧ DqA T.K H2 acc (es.take k).flatten ∧ (∀ a o, a ≠ p → H1 a = some o → H2 a = some o) ∧ (∀ j, j ≠ v → σ2[j]? = (σ.set i (some (L2.V.ref p)))[j]?) ∧ σ2.length = σ.length)
    ⟨[], e1, .nil, fun _ _ _ e => e, fun _ _ => rfl, by rw [List.length_set]⟩ (fun k σ2 H2 _ ⟨_, _, _, hk, _, _⟩ => SqL.of (hk _ _ nep (s1 _ _ hpf))) (fun k x σ2 H2 H3 hlt hP hY => ?_) fun σ2 H2 hP => ?_
  · obtain ⟨e0, hx0⟩ := hY
    subst e0
    obtain ⟨acc, a1, a2, a3, a4, a5⟩ := hP
    obtain ⟨d, hdk, hdx⟩ := dqf.getV hx0
    have hk : k < es.length := by rw [hel]; exact (List.getElem?_eq_some_iff.mp hdk).1
    have hek := List.getElem?_eq_getElem hk
    obtain ⟨le, ge⟩ := hit k d _ hdk hek
    have kpH : Kp H H3 := fun a o q n => by
      have na : a ≠ p := fun z => by rw [z, hp] at q; cases q
      exact a3 a o na (s1 _ _ q)
    have lfd : lf d = true := lfA_mem l1 (List.mem_of_getElem? hdk)
    -- the slots within
    have envk : Env T.K H3 (σ2.set v (some x)) ((ρ.set i .un).set v (.im d)) := by
      refine ⟨by simp [a5, len], fun m s ov q1 q2 => ?_⟩
      by_cases hm : v = m
      · subst hm
        rw [List.getElem?_set_self (by rw [a5, len]; exact hvl)] at q2
        rw [List.getElem?_set_self (by simpa using hvl)] at q1
        cases q1; cases q2
        exact ⟨x, rfl, hdx.kp kpH _ _ lfd⟩
      · rw [List.getElem?_set_ne hm] at q1 q2
        by_cases hm2 : i = m
        · subst hm2
          rw [List.getElem?_set_self hil] at q1
          cases q1
          trivial
        · rw [List.getElem?_set_ne hm2] at q1
          rw [a4 m (Ne.symm hm), List.getElem?_set_ne hm2] at q2
          have q := env.at_ m s ov q1 q2
          by_cases hm3 : f = m
          · subst hm3
            rw [hf] at q1
            cases q1
            rw [ef2] at q2
            cases q2
            exact ⟨.ref pf, rfl, .lst (a3 _ _ nep (s1 _ _ hpf)) (dqf.kp kpH _ _ l1)⟩
          · have hs' : s ∈ (((ρ.set i .un).set f .un).set v .un) := List.mem_of_getElem? (i := m) (by rw [List.getElem?_set_ne hm, List.getElem?_set_ne hm3, List.getElem?_set_ne hm2]; exact q1)
            have l := List.all_eq_true.mp l2 s hs'
            cases s with
            | un => trivial
            | im d' => obtain ⟨v', r1, r2⟩ := q; exact ⟨v', r1, r2.kp kpH _ _ l⟩
            | ow _ => cases l
            | ex _ => exact q
    have si : (σ2.set v (some x))[i]? = some (some (.ref p)) := by
      rw [List.getElem?_set_ne (Ne.symm hiv), a4 i hiv, List.getElem?_set_self (by rw [len]; exact hil)]
    refine ⟨_, pss_cons (ps_expr (pe_bm PySem.F.plainAttrs_list PySem.F.slot_list_extend PySem.F.type_list_extend mt_extend (pe_var (i := i) (by rw [G.1.hN]; exact hNi) (by rw [G.1.hs]; exact vis_of hyv) hd hcd) (pa_cons pe_w pa_nil (hst X.env)) (hbase X.env) (hfew X.env) hline (hst X.env) rfl) (hsw X.env)) pss_nil, ?_⟩
    refine ⟨.ref p, si, .inl ⟨rfl, acc, SqL.of a1⟩, ?_⟩
    refine hL X G.1 _ H3 _ _ envk ge _ fun q zs H4 nq s4 e4 d4 => ?_
    have hp4 := s4 _ _ a1
    have nqp : q ≠ p := fun z => by rw [z, a1] at nq; cases nq
    have la : acc.length = (es.take k).flatten.length := a2.length
    have lz : zs.length = (es[k]).length := d4.length
    have ft := flat_take hek
    refine ⟨p, q, acc, zs, rfl, rfl, hp4, e4, ?_, ?_⟩
    · have := flat_le (es := es) (k + 1)
      rw [ft, List.length_append] at this
      rw [la, lz]
      exact Nat.le_trans (Nat.le_trans this hsz) (by decide)
    · have kp4 := kp_upd (o := .lst (acc ++ zs)) hp4
      have lfa : lfA (es.take k).flatten = true := lfA_of fun d' hd' => by
        obtain ⟨l, hl, hd''⟩ := List.mem_flatten.mp hd'
        obtain ⟨m, hm⟩ := List.mem_iff_getElem?.mp (List.mem_of_mem_take hl)
        have hm' : m < ds.length := by rw [← hel]; exact (List.getElem?_eq_some_iff.mp hm).1
        exact lfA_mem (hit m _ _ (List.getElem?_eq_getElem hm') hm).1 hd''
      refine ⟨acc ++ zs, upd_same, ?_, fun a o na hh => ?_, fun m hm => ?_, by rw [List.length_set]; exact a5⟩
      · rw [ft]
        exact ((a2.mono s4).kp kp4 _ _ lfa).append (d4.kp kp4 _ _ le)
      · rw [upd_ne na]
        exact s4 _ _ (a3 a o na hh)
      · rw [List.getElem?_set_ne (Ne.symm hm)]
        exact a4 m hm
  · obtain ⟨acc, a1, a2, a3, a4, a5⟩ := hP
    have lx : xf.length = es.length := by rw [dqf.length, hel]
    rw [lx, List.take_length] at a2
    have kpH : Kp H H2 := fun a o q n => by
      have na : a ≠ p := fun z => by rw [z, hp] at q; cases q
      exact a3 a o na (s1 _ _ q)
    have env' : Env T.K H2 σ2 ((ρ.set i (.ow es.flatten)).set v .un) := by
      refine ⟨by simp [a5, len], fun m s ov q1 q2 => ?_⟩
      by_cases hm : v = m
      · subst hm
        rw [List.getElem?_set_self (by simpa using hvl)] at q1
        cases q1
        trivial
      · rw [List.getElem?_set_ne hm] at q1
        rw [a4 m (Ne.symm hm)] at q2
        by_cases hm2 : i = m
        · subst hm2
          rw [List.getElem?_set_self hil] at q1
          rw [List.getElem?_set_self (by rw [len]; exact hil)] at q2
          cases q1; cases q2
          exact ⟨p, acc, rfl, a1, a2⟩
        · rw [List.getElem?_set_ne hm2] at q1 q2
          have q := env.at_ m s ov q1 q2
          by_cases hm3 : f = m
          · subst hm3
            rw [hf] at q1
            cases q1
            rw [ef2] at q2
            cases q2
            exact ⟨.ref pf, rfl, .lst (a3 _ _ nep (s1 _ _ hpf)) (dqf.kp kpH _ _ l1)⟩
          · have hs' : s ∈ (((ρ.set i .un).set f .un).set v .un) := List.mem_of_getElem? (i := m) (by rw [List.getElem?_set_ne hm, List.getElem?_set_ne hm3, List.getElem?_set_ne hm2]; exact q1)
            have l := List.all_eq_true.mp l2 s hs'
            cases s with
            | un => trivial
            | im d' => obtain ⟨v', r1, r2⟩ := q; exact ⟨v', r1, r2.kp kpH _ _ l⟩
            | ow _ => cases l
            | ex _ => exact q
    refine hV X G σ2 H2 _ P E env' h (c.on ⟨fun a o q n => ?_, fun a z => ?_, kpH⟩)
    · have na : a ≠ p := fun z => by rw [z, hp] at q; cases q
      exact a3 a o na (s1 _ _ q)
    · obtain ⟨m, ds', q1, q2⟩ := z
      by_cases hm : v = m
      · subst hm
        rw [List.getElem?_set_self (by simpa using hvl)] at q1
        cases q1
      · rw [List.getElem?_set_ne hm] at q1
        by_cases hm2 : i = m
        · subst hm2
          rw [a4 i hiv, List.getElem?_set_self (by rw [len]; exact hil)] at q2
          cases q2
          exact .inr hp
        · rw [List.getElem?_set_ne hm2] at q1
          rw [a4 m (Ne.symm hm), List.getElem?_set_ne hm2] at q2
          exact .inl ⟨m, ds', q1, q2⟩
end
section
variable {P : Program} {w : World} {K : PySem.W.Frag} {mg : Str → Option Value} {base : Heap}
theorem fnt_imp {k : Nat} {x : Str} {f g : List D → Option D} (h : FnT P w K mg base k x f) (i : ∀ ds d, g ds = some d → f ds = some d) : FnT P w K mg base k x g := by
  obtain ⟨fa, fd, ps, F, hm, kp, b⟩ := h
  refine ⟨fa, fd, ps, F.imp fun vs H Q E q => ?_, hm, kp, b⟩
  obtain ⟨ds, d, e1, e2, e3⟩ := q
  exact ⟨ds, d, e1, i ds d e2, e3⟩
end
end Pf

set_option Elab.async false
set_option linter.all false
set_option maxRecDepth 100000
set_option maxHeartbeats 2000000
/-! Pm10: whole sums, the least part, primes. -/
namespace Pf
open PySem PySem.Spec L2
section
variable {s : Int}
def numsM (s : Int) : List Int := (List.range s.toNat).map Int.ofNat
def tupsM (s : Int) : Nat → List (List Int)
  | 0 => [[]]
  | n + 1 => (tupsM s n).flatMap fun t => (numsM s).map fun x => t ++ [x]
def wholesM (s : Int) (n : Nat) : List (List Int) := (tupsM s n).map fun t => t ++ [1]
theorem nums_mem {x : Int} : x ∈ numsM s ↔ 0 ≤ x ∧ x < s := by
  unfold numsM
  rw [List.mem_map]
  constructor
  · rintro ⟨i, hi, rfl⟩
    have := List.mem_range.mp hi
    exact ⟨Int.natCast_nonneg i, by show (i : Int) < s; omega⟩
  · rintro ⟨h0, h1⟩
    exact ⟨x.toNat, List.mem_range.mpr (by omega), by show ((x.toNat : Nat) : Int) = x; omega⟩
theorem tups_mem : ∀ {n : Nat} {t : List Int}, t ∈ tupsM s n ↔ t.length = n ∧ ∀ i ∈ t, 0 ≤ i ∧ i < s
  | 0, t => by
    simp only [tupsM, List.mem_singleton]
    constructor
    · rintro rfl; exact ⟨rfl, fun _ h => (nomatch h)⟩
    · rintro ⟨h, _⟩; exact List.length_eq_zero_iff.mp h
  | n + 1, t => by
    simp only [tupsM, List.mem_flatMap, List.mem_map]
    constructor
    · rintro ⟨u, hu, x, hx, rfl⟩
      obtain ⟨h1, h2⟩ := tups_mem.mp hu
      refine ⟨by simp [h1], fun i hi => ?_⟩
      rcases List.mem_append.mp hi with z | z
      · exact h2 i z
      · rw [List.mem_singleton.mp z]; exact nums_mem.mp hx
    · rintro ⟨h1, h2⟩
      have hne : t ≠ [] := fun z => by rw [z] at h1; simp at h1
      have e : t.dropLast ++ [t.getLast hne] = t := List.dropLast_concat_getLast hne
      refine ⟨t.dropLast, tups_mem.mpr ⟨by simp [h1], fun i hi => h2 i ((List.dropLast_sublist _).subset hi)⟩, t.getLast hne, nums_mem.mpr (h2 _ (List.getLast_mem hne)), e⟩
theorem tups_len : ∀ n : Nat, (tupsM s n).length = s.toNat ^ n
  | 0 => rfl
  | n + 1 => by
    have : ∀ L : List (List Int), (L.flatMap fun t => (numsM s).map fun x => t ++ [x]).length = L.length * s.toNat := fun L => by
      induction L with
      | nil => simp
      | cons a L ih => rw [List.flatMap_cons, List.length_append, ih, List.length_map, List.length_cons]; simp only [numsM, List.length_map, List.length_range, Nat.succ_mul]; omega
    rw [tupsM, this, tups_len n, Nat.pow_succ]
theorem whole_mem (hs : Sz s) {n : Nat} {g : List Int} (h : g ∈ wholesM s n) : Can s g ∧ g.length = n + 1 ∧ cf g n = 1 := by
  obtain ⟨t, ht, rfl⟩ := List.mem_map.mp h
  obtain ⟨h1, h2⟩ := tups_mem.mp ht
  have gg := hs.ge
  refine ⟨app_can hs (fun i hi => (h2 i hi).1) (fun i hi => (h2 i hi).2) (by omega) (by omega), by simp [h1], ?_⟩
  rw [cf_app, if_neg (by omega), h1, Nat.sub_self, cf_cons0]
theorem mem_whole (hs : Sz s) {n : Nat} {g : List Int} (c : Can s g) (hl : g.length = n + 1) (h1 : cf g n = 1) : g ∈ wholesM s n := by
  have hne : g ≠ [] := fun z => by rw [z] at hl; simp at hl
  have e : g.dropLast ++ [g.getLast hne] = g := List.dropLast_concat_getLast hne
  have e2 : g.getLast hne = 1 := by
    rw [List.getLast_eq_getElem, ← cf_lt, hl]
    exact h1
  rw [e2] at e
  exact List.mem_map.mpr ⟨g.dropLast, tups_mem.mpr ⟨by simp [hl], fun i hi => ⟨c.lo i ((List.dropLast_sublist _).subset hi), c.hi i ((List.dropLast_sublist _).subset hi)⟩⟩, e⟩
def halfM (a : List Int) : Nat := (a.length - 1) / 2
def lvM (s : Int) (a : List Int) (i : Nat) : Option (List Int) := (wholesM s (i + 1)).find? fun g => decide (restM s a g = [])
/-- the first of the shortest that divide it -/
def leastM (s : Int) (a : List Int) : Option (List Int) := (List.range (halfM a)).findSome? (lvM s a)
theorem least_none {a : List Int} : leastM s a = none ↔ ∀ i, i < halfM a → ∀ g ∈ wholesM s (i + 1), restM s a g ≠ [] := by
  unfold leastM
  rw [List.findSome?_eq_none_iff]
  constructor
  · intro h i hi g hg
    have := h i (List.mem_range.mpr hi)
    unfold lvM at this
    rw [List.find?_eq_none] at this
    simpa using this g hg
  · intro h i hi
    unfold lvM
    rw [List.find?_eq_none]
    intro g hg
    simpa using h i (List.mem_range.mp hi) g hg
theorem least_some {a g : List Int} {j m : Nat} (hj : j < halfM a) (h1 : ∀ i, i < j → ∀ g ∈ wholesM s (i + 1), restM s a g ≠ []) (hm : (wholesM s (j + 1))[m]? = some g) (h2 : ∀ i, i < m → ∀ g', (wholesM s (j + 1))[i]? = some g' → restM s a g' ≠ []) (h3 : restM s a g = []) : leastM s a = some g := by
  unfold leastM
  have hlv : lvM s a j = some g := by
    unfold lvM
    rw [List.find?_eq_some_iff_append]
    refine ⟨by simpa using h3, (wholesM s (j + 1)).take m, (wholesM s (j + 1)).drop (m + 1), ?_, fun g' hg' => ?_⟩
    · have hl := (List.getElem?_eq_some_iff.mp hm).1
      have e := (List.getElem?_eq_some_iff.mp hm).2
      rw [← e, List.getElem_cons_drop, List.take_append_drop]
    · obtain ⟨i, hi⟩ := List.mem_iff_getElem?.mp hg'
      have hi2 := (List.getElem?_eq_some_iff.mp hi).1
      rw [List.length_take] at hi2
      rw [List.getElem?_take_of_lt (by omega)] at hi
      simpa using h2 i (by omega) g' hi
  rw [List.findSome?_eq_some_iff]
  refine ⟨List.range j, j, (List.range (halfM a)).drop (j + 1), ?_, hlv, fun i hi => ?_⟩
  · have e : (List.range (halfM a)).take j = List.range j := by rw [List.take_range]; congr 1; omega
    have hl : j < (List.range (halfM a)).length := by simpa using hj
    have e2 : (List.range (halfM a))[j] = j := by simp
    rw [← e]
    conv => rhs; rw [show j :: (List.range (halfM a)).drop (j + 1) = (List.range (halfM a))[j] :: (List.range (halfM a)).drop (j + 1) by rw [e2]]
    rw [List.getElem_cons_drop, List.take_append_drop]
  · unfold lvM
    rw [List.find?_eq_none]
    intro g' hg'
    simpa using h1 i (List.mem_range.mp hi) g' hg'
theorem least_is {a g : List Int} (h : leastM s a = some g) : ∃ i, i < halfM a ∧ g ∈ wholesM s (i + 1) ∧ restM s a g = [] := by
  unfold leastM at h
  obtain ⟨i, hi, h2⟩ := List.exists_of_findSome?_eq_some h
  unfold lvM at h2
  exact ⟨i, List.mem_range.mp hi, List.mem_of_find?_eq_some h2, by simpa using List.find?_some h2⟩
structure SplitOk (s : Int) (a g q : List Int) : Prop where
  cg : Can s g
  cq : Can s q
  lg : 2 ≤ g.length
  lq : 2 ≤ q.length
  eq : timesM s g q = a
  la : g.length + q.length = a.length + 1
theorem split_ok (hs : Sz s) {a g : List Int} (ca : Can s a) (h : leastM s a = some g) : SplitOk s a g (quoM s a g) := by
  obtain ⟨i, hi, hg, hr⟩ := least_is h
  obtain ⟨cg, lg, _⟩ := whole_mem hs hg
  have gne : g ≠ [] := fun z => by rw [z] at lg; simp at lg
  have p := part_ok hs ca cg gne
  have e : pl s a = pl s (quoM s a g) * pl s g := by rw [p.eq, hr, pl_nil]; grind
  unfold halfM at hi
  have ane : a ≠ [] := fun z => by rw [z] at hi; simp at hi
  have qne : quoM s a g ≠ [] := fun z => ane ((can_pl0 ca).mp (by rw [e, z, pl_nil]; grind))
  have l := len_mul hs p.cq cg ca qne gne e
  exact ⟨cg, p.cq, by omega, by omega, can_ext (times_can hs _ _) ca (by rw [pl_times, e]; grind), by omega⟩
/-- the half's whole sums are not too many -/
def fewM (s : Int) (n : Nat) : Prop := n ≤ 20 ∧ s.toNat ^ n ≤ 100000
instance (s : Int) (n : Nat) : Decidable (fewM s n) := by unfold fewM; infer_instance
theorem few_mono (hs : Sz s) {m n : Nat} (h : m ≤ n) (g : fewM s n) : fewM s m := ⟨Nat.le_trans h g.1, Nat.le_trans (Nat.pow_le_pow_right (by have := hs.ge; omega) h) g.2⟩
def ttD (L : List (List Int)) : List D := L.map fun l => tI l
def f_wholes : List D → Option D := kII fun n s => if Sz s ∧ 0 ≤ n ∧ fewM s n.toNat then some (.lst (ttD (wholesM s n.toNat))) else none
def f_law_wholes : List D → Option D := kII fun n s => if Sz s ∧ 0 ≤ n ∧ fewM s n.toNat then some (.lst (ttD (wholesM s n.toNat))) else none
def okL (s : Int) (a : List Int) : Prop := Sz s ∧ Can s a ∧ a.length ≤ 40 ∧ fewM s (halfM a)
instance (s : Int) (a : List Int) : Decidable (okL s a) := by unfold okL; infer_instance
def lsD : Option (List Int) → D
  | none => .non
  | some g => tI g
def spD2 (s : Int) (a : List Int) : Option (List Int) → D
  | none => .non
  | some g => .tup [tI g, tI (quoM s a g)]
def primeM (s : Int) (a : List Int) : Bool := decide (1 < a.length) && (leastM s a).isNone
def f_least_part : List D → Option D := kTI fun a s => if okL s a then some (lsD (leastM s a)) else none
def f_split : List D → Option D := kTI fun a s => if okL s a then some (spD2 s a (leastM s a)) else none
def f_is_prime : List D → Option D := kTI fun a s => if okL s a then some (.bl (primeM s a)) else none
def f_law_is_prime : List D → Option D := kTI fun a s => if okL s a then some (.bl (primeM s a)) else none
theorem tt_get {L : List (List Int)} {i : Nat} {d : D} (h : (ttD L)[i]? = some d) : ∃ l, L[i]? = some l ∧ d = tI l := by
  unfold ttD at h
  rw [List.getElem?_map] at h
  cases e : L[i]? with
  | none => rw [e] at h; cases h
  | some l => rw [e] at h; cases h; exact ⟨l, rfl, rfl⟩
@[simp] theorem lfA_tt (L : List (List Int)) : lfA (ttD L) = true := lfA_of fun d hd => by
  obtain ⟨l, _, rfl⟩ := List.mem_map.mp hd
  simp
theorem lcG_tp {i : Nat} {gt : En → Option Bool} {ge : En → Option D} {ρ : En} (p : List Int → Bool) (f : List Int → List Int) : ∀ {L : List (List Int)}, (∀ l ∈ L, gt (ρ.set i (.im (tI l))) = some (p l) ∧ (p l = true → ge (ρ.set i (.im (tI l))) = some (tI (f l)))) → lcG (set1 i) gt ge ρ (ttD L) = some (ttD ((L.filter p).map f))
  | [], _ => rfl
  | l :: L, h => by
    have ih := lcG_tp p f (L := L) fun y hy => h y (List.mem_cons_of_mem _ hy)
    obtain ⟨h1, h2⟩ := h l List.mem_cons_self
    show lcG (set1 i) gt ge ρ (tI l :: ttD L) = _
    unfold lcG
    simp only [set1_ap, Option.bind_some, h1]
    rw [List.filter_cons]
    cases hp : p l with
    | true =>
      rw [if_pos rfl, h2 hp, ih]
      simp only [Option.bind_some, lf_tI, if_true, Option.map_some, List.map_cons]
      rfl
    | false =>
      rw [if_neg (by simp), ih, if_neg (by simp)]
theorem tt_len (L : List (List Int)) : (ttD L).length = L.length := List.length_map _
theorem neD_lt (L : List (List Int)) : neD (.lst (ttD L)) (.lst []) = some (.bl (!decide (L = []))) := by
  have h : okNA 60 (ttD L) = true := okNA_of fun d hd => by
    obtain ⟨l, _, rfl⟩ := List.mem_map.mp hd
    simp only [okN]
    exact okNA_ints _ l
  have e : (ttD L = []) = (L = []) := by simp [ttD]
  simp only [neD, eqB_lnil h, Option.map_some, e]
theorem wh_len (n : Nat) : (wholesM s n).length = s.toNat ^ n := by unfold wholesM; rw [List.length_map, tups_len]
theorem lcG_it {i : Nat} {ge : En → Option D} {ρ : En} (f : Int → List Int) : ∀ {ns : List Int}, (∀ x ∈ ns, ge (ρ.set i (.im (.int x))) = some (tI (f x))) → lcG (set1 i) gYes ge ρ (ns.map D.int) = some (ttD (ns.map f))
  | [], _ => rfl
  | x :: ns, h => by
    have ih := lcG_it f (ns := ns) fun y hy => h y (List.mem_cons_of_mem _ hy)
    show lcG (set1 i) gYes ge ρ (.int x :: ns.map D.int) = _
    unfold lcG
    simp only [set1_ap, Option.bind_some, gYes_ap, if_true, h x List.mem_cons_self, ih, lf_tI, Option.map_some, List.map_cons]
    rfl
def stepsM (s : Int) (L : List (List Int)) : List (List D) := L.map fun t => ttD ((numsM s).map fun x => t ++ [x])
theorem steps_flat (L : List (List Int)) : (stepsM s L).flatten = ttD (L.flatMap fun t => (numsM s).map fun x => t ++ [x]) := by
  induction L with
  | nil => rfl
  | cons t L ih =>
    show (ttD _ :: stepsM s L).flatten = _
    rw [List.flatten_cons, ih, List.flatMap_cons]
    unfold ttD
    rw [List.map_append]
theorem gLs_by {g : En → Option D} {ρ : En} {ds : List D} (h : g ρ = some (.lst ds)) (hn : noOw ρ = true) : gLs g ρ = some ds := by
  unfold gLs
  rw [h]
  exact if_pos hn
theorem few_le (hs : Sz s) {n : Nat} (h : fewM s n) : (tupsM s n).length ≤ 100000 := by rw [tups_len]; exact h.2
theorem ext_row {i : Nat} (hs : Sz s) {ge : En → Option D} {la : En → Option (List D)} {ρ : En} (t : List Int) (h1 : la ρ = some [.int s]) (h2 : ∀ x, ge ((ρ.set i .un).set i (.im (.int x))) = some (tI (t ++ [x]))) : gLc (gR1 la) [i] (set1 i) gYes ge ρ = some (ttD ((numsM s).map fun x => t ++ [x])) := by
  have g := hs.ge
  have e : gR1 la ρ = some ((numsM s).map .int) := by
    have := gR1_by h1 ⟨by omega, by omega⟩
    rw [this, rngD_ints]; rfl
  refine gLc_by e (by simp [numsM]; omega) ?_
  exact lcG_it _ fun x _ => h2 x
theorem f_wholes_ok (hs : Sz s) {n : Int} (hn : 0 ≤ n) (h : fewM s n.toNat) : f_wholes [.int n, .int s] = some (.lst (ttD (wholesM s n.toNat))) := by
  simp only [f_wholes, kII_mk, if_pos (show Sz s ∧ 0 ≤ n ∧ fewM s n.toNat from ⟨hs, hn, h⟩)]
theorem f_lwholes_ok (hs : Sz s) {n : Int} (hn : 0 ≤ n) (h : fewM s n.toNat) : f_law_wholes [.int n, .int s] = some (.lst (ttD (wholesM s n.toNat))) := by
  simp only [f_law_wholes, kII_mk, if_pos (show Sz s ∧ 0 ≤ n ∧ fewM s n.toNat from ⟨hs, hn, h⟩)]
theorem gR2_by {la : En → Option (List D)} {ρ : En} {i j : Int} (h : la ρ = some [.int i, .int j]) (c : -(2 ^ 62) ≤ i ∧ i < 2 ^ 62 ∧ -(2 ^ 62) ≤ j ∧ j < 2 ^ 62) : gR2 la ρ = some (rngD i (j - i).toNat) := by
  unfold gR2
  rw [h]
  exact if_pos c
/-- 1, 2, .. up to half -/
theorem half_rng {la : En → Option (List D)} {ρ : En} {a : List Int} (hl : a.length ≤ 1000) (h : la ρ = some [.int 1, .int (((a.length : Int) - 1) / 2 + 1)]) : gR2 la ρ = some (rngD 1 (halfM a)) := by
  have e : (((a.length : Int) - 1) / 2 + 1 - 1).toNat = halfM a := by unfold halfM; omega
  rw [gR2_by h ⟨by omega, by omega, by omega, by omega⟩, e]
theorem f_least_ok {a : List Int} (h : okL s a) : f_least_part [tI a, .int s] = some (lsD (leastM s a)) := by
  simp only [f_least_part, kTI_mk, if_pos h]
theorem f_split_ok {a : List Int} (h : okL s a) : f_split [tI a, .int s] = some (spD2 s a (leastM s a)) := by
  simp only [f_split, kTI_mk, if_pos h]
theorem f_prime_ok {a : List Int} (h : okL s a) : f_is_prime [tI a, .int s] = some (.bl (primeM s a)) := by
  simp only [f_is_prime, kTI_mk, if_pos h]
theorem f_lprime_ok {a : List Int} (h : okL s a) : f_law_is_prime [tI a, .int s] = some (.bl (primeM s a)) := by
  simp only [f_law_is_prime, kTI_mk, if_pos h]
/-- sums that are short enough -/
theorem okL_of (hs : Sz s) {a : List Int} (c : Can s a) {n : Nat} (hl : a.length ≤ 40) (h : halfM a ≤ n) (f : fewM s n) : okL s a := ⟨hs, c, hl, few_mono hs h f⟩
end
end Pf

set_option Elab.async false
set_option linter.all false
set_option maxRecDepth 100000
set_option maxHeartbeats 2000000
/-! Pm11: primes counted. -/
namespace Pf
open PySem PySem.Spec L2
section
variable {s : Int}
theorem g2_by {h : D → D → Option D} {a b : En → Option D} {ρ : En} {x y z : D} (h1 : a ρ = some x) (h2 : b ρ = some y) (h3 : h x y = some z) : g2 h a b ρ = some z := by
  unfold g2
  rw [h1, h2]
  exact h3
def sumF (rc : Nat → Int) (n : Nat) : Nat → Int
  | 0 => 0
  | j + 1 => sumF rc n j + if n % (j + 1) = 0 then ((j + 1 : Nat) : Int) * rc (j + 1) else 0
def cntF (s : Int) : Nat → Nat → Int
  | 0, _ => 0
  | k + 1, n => (s ^ n - sumF (cntF s k) n (n - 1)) / (n : Int)
def primesM (s : Int) (n : Nat) : List (List Int) := (wholesM s n).filter (primeM s)
def cnt5 (s : Int) (n : Nat) : Int := cntF s 5 n
def chkN (s : Int) (n : Nat) : Bool := ((List.range n).all fun i => decide (n % (i + 1) ≠ 0) || (decide (1 ≤ cnt5 s (i + 1)) && decide (cnt5 s (i + 1) ≤ s ^ n))) && decide (sumF (cnt5 s) n n = s ^ n)
theorem chk_all : [(2 : Int), 3, 5].all (fun s => (List.range 30).all fun i => chkN s (i + 1)) = true := by decide +kernel
theorem chk_ok (hs : Sz s) {n : Nat} (h1 : 1 ≤ n) (h2 : n ≤ 30) : (∀ i, 1 ≤ i → i ≤ n → n % i = 0 → 1 ≤ cnt5 s i ∧ cnt5 s i ≤ s ^ n) ∧ sumF (cnt5 s) n n = s ^ n := by
  have h := List.all_eq_true.mp chk_all s (by rcases hs with h | h | h <;> rw [h] <;> simp)
  have h3 := List.all_eq_true.mp h (n - 1) (List.mem_range.mpr (by omega))
  rw [Nat.sub_add_cancel h1] at h3
  unfold chkN at h3
  rw [Bool.and_eq_true] at h3
  refine ⟨fun i i1 i2 i3 => ?_, of_decide_eq_true h3.2⟩
  have h4 := List.all_eq_true.mp h3.1 (i - 1) (List.mem_range.mpr (by omega))
  rw [Nat.sub_add_cancel i1] at h4
  simp only [Bool.or_eq_true, Bool.and_eq_true, decide_eq_true_eq] at h4
  rcases h4 with h4 | h4
  · exact absurd i3 h4
  · exact h4
def mostN (s : Int) : Nat := if s = 2 then 4 else if s = 3 then 3 else 2
theorem short_all : [(2 : Int), 3, 5].all (fun s => (List.range (mostN s)).all fun i => decide (((primesM s (i + 1)).length : Int) = cnt5 s (i + 1)) && decide (0 < (primesM s (i + 1)).length)) = true := by decide +kernel
theorem short_ok (hs : Sz s) {n : Nat} (h1 : 1 ≤ n) (h2 : n ≤ mostN s) : ((primesM s n).length : Int) = cnt5 s n ∧ 0 < (primesM s n).length := by
  have h := List.all_eq_true.mp short_all s (by rcases hs with h | h | h <;> rw [h] <;> simp)
  have h3 := List.all_eq_true.mp h (n - 1) (List.mem_range.mpr (by omega))
  rw [Nat.sub_add_cancel h1] at h3
  simp only [Bool.and_eq_true, decide_eq_true_eq] at h3
  exact h3
theorem sumF_cong {rc rc' : Nat → Int} {n : Nat} : ∀ {j : Nat}, (∀ i, 1 ≤ i → i ≤ j → n % i = 0 → rc i = rc' i) → sumF rc n j = sumF rc' n j
  | 0, _ => rfl
  | j + 1, h => by
    unfold sumF
    rw [sumF_cong fun i h1 h2 => h i h1 (by omega)]
    by_cases hd : n % (j + 1) = 0
    · rw [if_pos hd, if_pos hd, h (j + 1) (by omega) (by omega) hd]
    · rw [if_neg hd, if_neg hd]
theorem half_div {n i : Nat} (h0 : n % i = 0) (h1 : 1 ≤ i) (h2 : i < n) : 2 * i ≤ n := by
  obtain ⟨q, hq⟩ := Nat.dvd_of_mod_eq_zero h0
  have : 2 ≤ q := by
    rcases q with _ | _ | q
    · rw [hq] at h2; simp at h2
    · rw [hq] at h2; simp at h2
    · omega
  have := Nat.mul_le_mul_left i this
  rw [← hq] at this
  omega
theorem mostN_le (hs : Sz s) : mostN s ≤ 4 ∧ fewM s (mostN s) := by
  rcases hs with h | h | h <;> rw [h] <;> decide
def f_primes : List D → Option D := kII fun n s => if Sz s ∧ 1 ≤ n ∧ n ≤ 4 ∧ fewM s n.toNat then some (.tup (ttD (primesM s n.toNat))) else none
def f_count_primes : List D → Option D := kII fun n s => if Sz s ∧ 1 ≤ n ∧ n ≤ 30 then some (.int (cnt5 s n.toNat)) else none
theorem f_primes_ok (hs : Sz s) {n : Int} (h1 : 1 ≤ n) (h2 : n ≤ 4) (h : fewM s n.toNat) : f_primes [.int n, .int s] = some (.tup (ttD (primesM s n.toNat))) := by
  simp only [f_primes, kII_mk, if_pos (show Sz s ∧ 1 ≤ n ∧ n ≤ 4 ∧ fewM s n.toNat from ⟨hs, h1, h2, h⟩)]
theorem f_count_ok (hs : Sz s) {n : Int} (h1 : 1 ≤ n) (h2 : n ≤ 30) : f_count_primes [.int n, .int s] = some (.int (cnt5 s n.toNat)) := by
  simp only [f_count_primes, kII_mk, if_pos (show Sz s ∧ 1 ≤ n ∧ n ≤ 30 from ⟨hs, h1, h2⟩)]
theorem pow_s (s : Int) (j : Nat) : s ^ (j + 1) = s ^ j * s := Int.pow_succ s j
theorem prime_can (hs : Sz s) {n : Nat} {f : List Int} (h : f ∈ primesM s n) : Can s f ∧ f.length = n + 1 ∧ cf f n = 1 ∧ primeM s f = true := by
  have h := List.mem_filter.mp h
  obtain ⟨h1, h2, h3⟩ := whole_mem hs h.1
  exact ⟨h1, h2, h3, h.2⟩
theorem wh_okL (hs : Sz s) {n : Nat} (hn : n ≤ 20) (h : fewM s n) {f : List Int} (hf : f ∈ wholesM s n) : okL s f := by
  obtain ⟨h1, h2, h3⟩ := whole_mem hs hf
  exact okL_of hs h1 (n := n) (by omega) (by unfold halfM; omega) h
theorem neD_tt (L M : List (List Int)) : neD (.tup (ttD L)) (.tup (ttD M)) = some (.bl (!decide (L = M))) := by
  have : neD (.tup (L.map fun l => tI l)) (.tup (M.map fun l => tI l)) = some (.bl (!decide (L = M))) := by simp only [neD, eqB_tt, Option.map_some]
  exact this
end
end Pf

set_option Elab.async false
set_option linter.all false
set_option maxRecDepth 100000
set_option maxHeartbeats 2000000
/-! Pm12: powers of the size. -/
namespace Pf
open PySem PySem.Spec L2
section
variable {s : Int}
theorem frob_all : [(2 : Int), 3, 5].all (fun s => (List.range (mostN s)).all fun i => (primesM s (i + 1)).all fun f => decide (restM s (List.replicate (s.toNat ^ (i + 1)) 0 ++ [1]) f = restM s [0, 1] f)) = true := by decide +kernel
theorem frob (hs : Sz s) (a b : Rg s) : (a + b) ^ s.toNat = a ^ s.toNat + b ^ s.toNat := by
  rcases hs with h | h | h <;> subst h
  · have h2 : (2 : Rg 2) = 0 := rg_s0 2 rfl
    show (a + b) ^ 2 = a ^ 2 + b ^ 2
    grind
  · have h2 : (3 : Rg 3) = 0 := rg_s0 3 rfl
    show (a + b) ^ 3 = a ^ 3 + b ^ 3
    grind
  · have h2 : (5 : Rg 5) = 0 := rg_s0 5 rfl
    show (a + b) ^ 5 = a ^ 5 + b ^ 5
    grind
theorem rg_pow_add (x : Rg s) (m : Nat) : ∀ k : Nat, x ^ (m + k) = x ^ m * x ^ k
  | 0 => by
    have e : x ^ 0 = 1 := Lean.Grind.Semiring.pow_zero _
    rw [e, Nat.add_zero]; grind
  | k + 1 => by
    have e : x ^ (m + (k + 1)) = x ^ (m + k) * x := Lean.Grind.Semiring.pow_succ _ _
    rw [e, rg_pow_add x m k, Lean.Grind.Semiring.pow_succ]
    grind
theorem rg_pow_mul (x : Rg s) (m : Nat) : ∀ k : Nat, x ^ (m * k) = (x ^ m) ^ k
  | 0 => by
    have e : x ^ 0 = 1 := Lean.Grind.Semiring.pow_zero _
    have e2 : (x ^ m) ^ 0 = 1 := Lean.Grind.Semiring.pow_zero _
    rw [Nat.mul_zero, e, e2]
  | k + 1 => by
    rw [Nat.mul_succ, rg_pow_add, rg_pow_mul x m k, Lean.Grind.Semiring.pow_succ]
theorem frobN (hs : Sz s) (a b : Rg s) : ∀ n : Nat, (a + b) ^ (s.toNat ^ n) = a ^ (s.toNat ^ n) + b ^ (s.toNat ^ n)
  | 0 => by
    have e : ∀ x : Rg s, x ^ (s.toNat ^ 0) = x := fun x => by
      rw [Nat.pow_zero]
      have e : x ^ 1 = x ^ 0 * x := Lean.Grind.Semiring.pow_succ x 0
      have e2 : x ^ 0 = 1 := Lean.Grind.Semiring.pow_zero _
      rw [e, e2]; grind
    rw [e, e, e]
  | n + 1 => by
    rw [Nat.pow_succ, rg_pow_mul, rg_pow_mul, rg_pow_mul, frobN hs a b n, frob hs]
theorem rg_mul_pow (a b : Rg s) : ∀ n : Nat, (a * b) ^ n = a ^ n * b ^ n
  | 0 => by
    have e : ∀ x : Rg s, x ^ 0 = 1 := fun x => Lean.Grind.Semiring.pow_zero _
    rw [e, e, e]; grind
  | n + 1 => by
    rw [Lean.Grind.Semiring.pow_succ, Lean.Grind.Semiring.pow_succ, Lean.Grind.Semiring.pow_succ, rg_mul_pow a b n]; grind
theorem int_pow (c : Int) : ∀ n : Nat, ((c ^ n : Int) : Rg s) = (c : Rg s) ^ n
  | 0 => by
    have e : (c : Rg s) ^ 0 = 1 := Lean.Grind.Semiring.pow_zero _
    rw [e, Int.pow_zero, int_one]
  | n + 1 => by rw [Int.pow_succ, int_mul, int_pow c n, Lean.Grind.Semiring.pow_succ]
theorem fermat (hs : Sz s) {c : Int} (h0 : 0 ≤ c) (h1 : c < s) : (c : Rg s) ^ s.toNat = (c : Rg s) := by
  rw [← int_pow]
  refine int_cong ?_
  have : c = 0 ∨ c = 1 ∨ c = 2 ∨ c = 3 ∨ c = 4 := by rcases hs with h | h | h <;> omega
  rcases hs with h | h | h <;> subst h <;> rcases this with h | h | h | h | h <;> subst h <;> first | omega | decide
theorem fermatN (hs : Sz s) {c : Int} (h0 : 0 ≤ c) (h1 : c < s) : ∀ n : Nat, (c : Rg s) ^ (s.toNat ^ n) = (c : Rg s)
  | 0 => by
    rw [Nat.pow_zero]
    have e : (c : Rg s) ^ 1 = (c : Rg s) ^ 0 * (c : Rg s) := Lean.Grind.Semiring.pow_succ _ 0
    have e2 : (c : Rg s) ^ 0 = 1 := Lean.Grind.Semiring.pow_zero _
    rw [e, e2]; grind
  | n + 1 => by rw [Nat.pow_succ, rg_pow_mul, fermatN hs h0 h1 n, fermat hs h0 h1]
theorem xp_can (hs : Sz s) (n : Nat) : Can s (List.replicate n 0 ++ [1]) := by
  have g := hs.ge
  exact app_can hs (fun i hi => by rw [List.eq_of_mem_replicate hi]; omega) (fun i hi => by rw [List.eq_of_mem_replicate hi]; omega) (by omega) (by omega)
theorem x_frob (hs : Sz s) {n : Nat} (h1 : 1 ≤ n) (h2 : n ≤ mostN s) {f : List Int} (hf : f ∈ primesM s n) : Cg (pl s f) (xR s ^ (s.toNat ^ n)) (xR s) := by
  have g := hs.ge
  have h := List.all_eq_true.mp frob_all s (by rcases hs with h | h | h <;> rw [h] <;> simp)
  have h3 := List.all_eq_true.mp h (n - 1) (List.mem_range.mpr (by omega))
  rw [Nat.sub_add_cancel h1] at h3
  have h4 := of_decide_eq_true (List.all_eq_true.mp h3 f hf)
  obtain ⟨cf', lf', _⟩ := prime_can hs hf
  have fne : f ≠ [] := fun z => by rw [z] at lf'; simp at lf'
  have c0 : Can s [0, 1] := cons_can (one_can hs) (by simp) (by omega) (by omega)
  have h5 := (rest_eq hs (xp_can hs _) c0 cf' fne).mp h4
  have e1 : pl s (List.replicate (s.toNat ^ n) 0 ++ [1]) = xR s ^ (s.toNat ^ n) := by rw [pl_shift, pl_one]; grind
  have e2 : pl s [0, 1] = xR s := by
    rw [pl_cons, pl_one, int_zero]; grind
  rw [e1, e2] at h5
  exact h5
/-- by a prime each sum to the power of the size, so often as the prime is long, is itself -/
theorem pow_frob (hs : Sz s) {n : Nat} (h1 : 1 ≤ n) (h2 : n ≤ mostN s) {f : List Int} (hf : f ∈ primesM s n) : ∀ a : List Int, (∀ i ∈ a, 0 ≤ i ∧ i < s) → Cg (pl s f) (pl s a ^ (s.toNat ^ n)) (pl s a)
  | [], _ => by
    have hN : 0 < s.toNat ^ n := Nat.pow_pos (by have := hs.ge; omega)
    obtain ⟨m, hm⟩ : ∃ m, s.toNat ^ n = m + 1 := ⟨s.toNat ^ n - 1, by omega⟩
    rw [pl_nil, hm, Lean.Grind.Semiring.pow_succ]
    have e : (0 : Rg s) ^ m * 0 = 0 := by grind
    rw [e]
    exact Cg.refl _ _
  | c :: a, h => by
    have hc := h c (by simp)
    rw [pl_cons, frobN hs, fermatN hs hc.1 hc.2, rg_mul_pow]
    exact Cg.add (Cg.refl _ _) (Cg.mul (fi_x.pow _) (fi_pl a) (x_frob hs h1 h2 hf) (pow_frob hs h1 h2 hf a fun i hi => h i (List.mem_cons_of_mem _ hi)))
/-- made whole -/
theorem whole_of (hs : Sz s) {g : List Int} (cg : Can s g) (hg : g ≠ []) : ∃ h, Can s h ∧ h.length = g.length ∧ cf h (g.length - 1) = 1 ∧ (∃ u : Int, pl s g = (u : Rg s) * pl s h) := by
  obtain ⟨c1, c2, c3⟩ := map_lead hs cg hg
  have lp := List.length_pos_iff.mpr hg
  have lk := lead_ok hs cg hg
  refine ⟨_, c1, List.length_map _, by rw [cf_map _ _ (by omega), lk], cf g (g.length - 1), ?_⟩
  rw [c3]
  have e : (cf g (g.length - 1) : Rg s) * (leadM s g : Rg s) = 1 := by
    rw [← int_mul, ← int_one]
    refine int_cong ?_
    rw [lk]
    rcases hs with q | q | q <;> rw [q] <;> rfl
  generalize (cf g (g.length - 1) : Rg s) = U at *
  generalize (leadM s g : Rg s) = V at *
  grind
theorem no_part (hs : Sz s) {f g : List Int} (cf' : Can s f) (cg : Can s g) (hl : leastM s f = none) (l2 : 2 ≤ g.length) (lh : g.length - 1 ≤ halfM f) (d : Dv (pl s g) (pl s f)) : False := by
  have gne : g ≠ [] := fun z => by rw [z] at l2; simp at l2
  obtain ⟨h, c1, c2, c3, u, c4⟩ := whole_of hs cg gne
  have hne : h ≠ [] := fun z => by rw [z] at c2; simp at c2; omega
  have hw : h ∈ wholesM s (g.length - 2 + 1) := mem_whole hs c1 (by omega) (by
    have : g.length - 2 + 1 = g.length - 1 := by omega
    rw [this]; exact c3)
  refine least_none.mp hl (g.length - 2) (by omega) h hw ((rest_nil hs cf' c1 hne).mpr ?_)
  obtain ⟨z, fz, e⟩ := d
  exact ⟨z * (u : Rg s), fz.mul (fi_int u), by rw [e, c4]; grind⟩
/-- a prime is no product -/
theorem irr (hs : Sz s) {f g q : List Int} (cf' : Can s f) (cg : Can s g) (cq : Can s q) (hl : leastM s f = none) (hg : 2 ≤ g.length) (hq : 2 ≤ q.length) (e : pl s f = pl s q * pl s g) : False := by
  have gne : g ≠ [] := fun z => by rw [z] at hg; simp at hg
  have qne : q ≠ [] := fun z => by rw [z] at hq; simp at hq
  have l := len_mul hs cq cg cf' qne gne e
  by_cases h : g.length - 1 ≤ halfM f
  · exact no_part hs cf' cg hl hg h ⟨pl s q, fi_pl _, e⟩
  · refine no_part hs cf' cq hl hq ?_ ⟨pl s g, fi_pl _, by rw [e]; grind⟩
    unfold halfM at *
    omega
/-- a prime that does not divide a sum has 1 with it -/
theorem prime_one (hs : Sz s) {f a : List Int} (cf' : Can s f) (ca : Can s a) (hf : 2 ≤ f.length) (hl : leastM s f = none) (hn : ¬ Dv (pl s f) (pl s a)) : ∃ u v : Rg s, Fi u ∧ Fi v ∧ u * pl s a + v * pl s f = 1 := by
  have k := com_ok hs ca cf'
  have fne : f ≠ [] := fun z => by rw [z] at hf; simp at hf
  obtain ⟨n1, n2⟩ := k.ne (.inr fne)
  obtain ⟨z, fz, ez⟩ := k.d2
  obtain ⟨q, cq, rfl⟩ := fz.list hs
  have qne : q ≠ [] := fun y => fne ((can_pl0 cf').mp (by rw [ez, y, pl_nil]; grind))
  have l := len_mul hs cq k.c1 cf' qne n1 ez
  have gp := List.length_pos_iff.mpr n1
  have qp := List.length_pos_iff.mpr qne
  by_cases h1 : (comM s a f).1.length = 1
  · obtain ⟨y, ey⟩ := List.length_eq_one_iff.mp h1
    rw [ey] at n2
    have y1 : y = 1 := n2
    have eq := k.eq
    rw [ey, y1, pl_one] at eq
    exact ⟨_, _, fi_pl _, fi_pl _, eq.symm⟩
  · by_cases h2 : q.length = 1
    · exfalso
      obtain ⟨y, ey⟩ := List.length_eq_one_iff.mp h2
      have cy := last_in cq qne
      rw [ey] at cy
      have cy : 0 < y ∧ y < s := cy
      have iv := inv_ok hs cy.1 cy.2
      rw [ey, pl_num] at ez
      have e1 : (invM s y : Rg s) * (y : Rg s) = 1 := by
        rw [← int_mul, ← int_one]
        refine int_cong ?_
        rw [Int.mul_comm, iv.2.2.1]
        rcases hs with q | q | q <;> rw [q] <;> rfl
      obtain ⟨w, fw, ew⟩ := k.d1
      refine hn ⟨w * (invM s y : Rg s), fw.mul (fi_int _), ?_⟩
      rw [ew, ez]
      generalize (invM s y : Rg s) = U at *
      generalize (y : Rg s) = V at *
      grind
    · exact (irr hs cf' k.c1 cq hl (by omega) (by omega) ez).elim
theorem euclid (hs : Sz s) {f a : List Int} (cf' : Can s f) (ca : Can s a) (hf : 2 ≤ f.length) (hl : leastM s f = none) {y : Rg s} (fy : Fi y) (h : Dv (pl s f) (pl s a * y)) : Dv (pl s f) (pl s a) ∨ Dv (pl s f) y := by
  by_cases hn : Dv (pl s f) (pl s a)
  · exact .inl hn
  · obtain ⟨u, v, fu, fv, e⟩ := prime_one hs cf' ca hf hl hn
    obtain ⟨z, fz, ez⟩ := h
    refine .inr ⟨u * z + v * y, (fu.mul fz).add (fv.mul fy), ?_⟩
    have : y = (u * pl s a + v * pl s f) * y := by rw [e]; grind
    rw [this]
    grind
/-- .. and to one less it is 1 -/
theorem pow_one_less (hs : Sz s) {n : Nat} (h1 : 1 ≤ n) (h2 : n ≤ mostN s) {f a : List Int} (hf : f ∈ primesM s n) (ca : Can s a) (hn : ¬ Dv (pl s f) (pl s a)) : Cg (pl s f) (pl s a ^ (s.toNat ^ n - 1)) 1 := by
  obtain ⟨cf', lf', _, pf⟩ := prime_can hs hf
  have hN : 0 < s.toNat ^ n := Nat.pow_pos (by have := hs.ge; omega)
  have h := pow_frob hs h1 h2 hf a fun i hi => ⟨ca.lo i hi, ca.hi i hi⟩
  have e : s.toNat ^ n = s.toNat ^ n - 1 + 1 := by omega
  rw [e, Lean.Grind.Semiring.pow_succ] at h
  obtain ⟨z, fz, ez⟩ := h
  have hd : Dv (pl s f) (pl s a * (pl s a ^ (s.toNat ^ n - 1) - 1)) := ⟨z, fz, by rw [← ez]; grind⟩
  have hl : leastM s f = none := by
    unfold primeM at pf
    simp at pf
    exact pf.2
  rcases euclid hs cf' ca (by omega) hl (((fi_pl a).pow _).sub fi_one) hd with q | q
  · exact absurd q hn
  · exact q
end
end Pf

set_option Elab.async false
set_option linter.all false
set_option maxRecDepth 100000
set_option maxHeartbeats 2000000
/-! Pg1: statements beside one dict that changes, and tables that grow. -/
namespace Pf
open PySem PySem.Spec L2 LamX
abbrev DK := List (List Int × Int)
/-- all stays but what stands at p, and tables -/
structure Rx (p : Option Addr) (H H' : Hp) : Prop where
  at_ : ∀ a o, H a = some o → some a ≠ p → (∀ ps, o ≠ .tbl ps) → H' a = some o
  here : ∀ a, p = some a → (∃ kvs, H a = some (.dT kvs)) → ∃ kvs, H' a = some (.dT kvs)
section
variable {p : Option Addr} {H H1 H2 H' : Hp}
theorem Rx.refl (p : Option Addr) (H : Hp) : Rx p H H := ⟨fun _ _ h _ _ => h, fun _ _ h => h⟩
theorem Rx.trans (a : Rx p H H1) (b : Rx p H1 H2) : Rx p H H2 := ⟨fun x o h n m => b.at_ x o (a.at_ x o h n m) n m, fun x e h => b.here x e (a.here x e h)⟩
theorem rx_of (s : Same H H') : Rx p H H' := ⟨fun a o h _ _ => s a o h, fun a _ ⟨k, h⟩ => ⟨k, s _ _ h⟩⟩
theorem Rx.up (s : Rx none H H') : Rx p H H' := ⟨fun a o h _ m => s.at_ a o h (fun z => nomatch z) m, fun a _ ⟨k, h⟩ => ⟨k, s.at_ _ _ h (fun z => nomatch z) (fun _ z => nomatch z)⟩⟩
/-- a dict that is new since H is none of H's matter -/
theorem Rx.drop {a : Addr} (n : H a = none) (s : Rx (some a) H H') : Rx none H H' := ⟨fun b o h _ m => s.at_ b o h (fun z => by cases z; rw [n] at h; cases h) m, fun _ z _ => nomatch z⟩
theorem rx_ext (s : ExtN H H') : Rx none H H' := ⟨fun a o h _ m => s a o h m, fun _ z _ => nomatch z⟩
end
/-! data that hold no dict -/
mutual
def nd : D → Bool
  | .non => true
  | .bl _ => true
  | .int _ => true
  | .str _ => true
  | .tup ds => ndA ds
  | .lst ds => ndA ds
  | .scr _ => true
  | .dct _ => false
  | .ftp ds => ndA ds
def ndA : List D → Bool
  | [] => true
  | d :: ds => nd d && ndA ds
end
theorem ndA_of : ∀ {ds : List D}, (∀ d ∈ ds, nd d = true) → ndA ds = true
  | [], _ => rfl
  | e :: ds, h => by
    simp only [ndA, Bool.and_eq_true]
    exact ⟨h e (by simp), ndA_of fun d hd => h d (by simp [hd])⟩
@[simp] theorem nd_tup (ds : List D) : nd (.tup ds) = ndA ds := by simp only [nd]
@[simp] theorem nd_ftp (ds : List D) : nd (.ftp ds) = ndA ds := by simp only [nd]
@[simp] theorem nd_int (i : Int) : nd (.int i) = true := rfl
@[simp] theorem nd_scr (i : List Int) : nd (.scr i) = true := rfl
@[simp] theorem ndA_nil : ndA [] = true := rfl
@[simp] theorem ndA_cons (d : D) (ds : List D) : ndA (d :: ds) = (nd d && ndA ds) := by simp only [ndA]
@[simp] theorem ndA_ints (ns : List Int) : ndA (ns.map D.int) = true := ndA_of fun d hd => by
  obtain ⟨i, _, rfl⟩ := List.mem_map.mp hd
  rfl
def ndS : Slot → Bool
  | .im d => nd d
  | .ow ds => false
  | _ => true
@[simp] theorem ndS_im (d : D) : ndS (.im d) = nd d := rfl
@[simp] theorem ndS_un : ndS .un = true := rfl
@[simp] theorem ndS_ex (a : Addr) : ndS (.ex a) = true := rfl
section
variable {K : PySem.W.Frag} {p : Option Addr} {H H' : Hp}
mutual
theorem Dq.rx (e : Rx p H H') (hp : ∀ a, p = some a → ∃ kvs, H a = some (.dT kvs)) : ∀ (d : D) (v : V), (nd d = true ∨ p = none) → Dq K H v d → Dq K H' v d
  | .non, _, _, h => by cases h; exact .non
  | .bl b, _, _, h => by cases h; exact .bl _
  | .int i, _, _, h => by cases h; exact .int _
  | .str z, _, _, h => by cases h; exact .str _
  | .tup ds, _, n, h => by
    cases h with
    | tup h1 h2 =>
      refine .tup (e.at_ _ _ h1 (fun z => ?_) fun _ z => nomatch z) (DqA.rx e hp ds _ (by simpa only [nd] using n) h2)
      obtain ⟨k, hk⟩ := hp _ z.symm
      rw [h1] at hk; cases hk
  | .lst ds, _, n, h => by
    cases h with
    | lst h1 h2 =>
      refine .lst (e.at_ _ _ h1 (fun z => ?_) fun _ z => nomatch z) (DqA.rx e hp ds _ (by simpa only [nd] using n) h2)
      obtain ⟨k, hk⟩ := hp _ z.symm
      rw [h1] at hk; cases hk
  | .scr ns, _, _, h => by
    cases h with
    | scr h1 =>
      refine .scr ?_
      rcases h1 with (h1 | ⟨o, h1⟩) | h1
      · refine .inl (.inl (e.at_ _ _ h1 (fun z => ?_) fun _ z => nomatch z))
        obtain ⟨k, hk⟩ := hp _ z.symm
        rw [h1] at hk; cases hk
      · refine .inl (.inr ⟨o, e.at_ _ _ h1 (fun z => ?_) fun _ z => nomatch z⟩)
        obtain ⟨k, hk⟩ := hp _ z.symm
        rw [h1] at hk; cases hk
      · exact .inr h1
  | .dct kvs, _, n, h => by
    cases h with
    | dct h1 =>
      rcases n with n | n
      · simp only [nd] at n; cases n
      · exact .dct (e.at_ _ _ h1 (fun z => by rw [n] at z; cases z) fun _ z => nomatch z)
  | .ftp ds, _, n, h => by
    cases h with
    | ftp h1 h0 h2 =>
      refine .ftp (e.at_ _ _ h1 (fun z => ?_) fun _ z => nomatch z) h0 (DqA.rx e hp ds _ (by simpa only [nd] using n) h2)
      obtain ⟨k, hk⟩ := hp _ z.symm
      rw [h1] at hk; cases hk
theorem DqA.rx (e : Rx p H H') (hp : ∀ a, p = some a → ∃ kvs, H a = some (.dT kvs)) : ∀ (ds : List D) (vs : List V), (ndA ds = true ∨ p = none) → DqA K H vs ds → DqA K H' vs ds
  | [], _, _, h => by cases h; exact .nil
  | d :: ds, _, n, h => by
    cases h with
    | cons h1 h2 =>
      refine .cons (Dq.rx e hp d _ (n.imp (fun z => ?_) id) h1) (DqA.rx e hp ds _ (n.imp (fun z => ?_) id) h2)
      · simp only [ndA, Bool.and_eq_true] at z; exact z.1
      · simp only [ndA, Bool.and_eq_true] at z; exact z.2
end
theorem Env.rx {σ : L2.St} {ρ : En} (h : Env K H σ ρ) (e : Rx p H H') (hp : ∀ a, p = some a → ∃ kvs, H a = some (.dT kvs)) (hn : ρ.all ndS = true ∨ p = none) (ho : noOw ρ = true) : Env K H' σ ρ := by
  refine ⟨h.len, fun i s ov a b => ?_⟩
  have q := h.at_ i s ov a b
  have hs := List.mem_of_getElem? a
  cases s with
  | un => trivial
  | im d =>
    obtain ⟨v, e1, e2⟩ := q
    exact ⟨v, e1, e2.rx e hp _ _ (hn.imp (fun z => (List.all_eq_true.mp z _ hs : ndS (.im d) = true)) id)⟩
  | ow ds =>
    have := List.all_eq_true.mp ho _ hs
    cases this
  | ex a => exact q
end
/-! ### the judgement -/
structure Gc where
  tl : List (Addr × Str)
  xq : Cx → Prop
structure Pg where
  nx : DK → En → Prop
  rt : D → Prop
def gOk (p : Option Addr) (kvs : DK) (H : Hp) : Prop := ∀ a, p = some a → H a = some (.dT (encK kvs))
theorem gOk.same {p : Option Addr} {kvs : DK} {H H' : Hp} (g : gOk p kvs H) (s : Same H H') : gOk p kvs H' := fun a e => s _ _ (g a e)
theorem gOk.ex {p : Option Addr} {kvs : DK} {H : Hp} (g : gOk p kvs H) : ∀ a, p = some a → ∃ kvs, H a = some (.dT kvs) := fun a e => ⟨_, g a e⟩
structure ContG (T : Ct) (Γ : Gc) (p : Option Addr) (H : Hp) (P : Pg) (E : Ends) : Prop where
  nx : ∀ σ' H' ρ' kvs', Env T.K H' σ' ρ' → noOw ρ' = true → Rx p H H' → Tabs Γ.tl H' → gOk p kvs' H' → P.nx kvs' ρ' → E.nx σ' H'
  rt : ∀ v H' d, Rx p H H' → Tabs Γ.tl H' → Dq T.K H' v d → P.rt d → E.rt v H'
theorem ContG.on {T : Ct} {Γ : Gc} {p : Option Addr} {H H1 : Hp} {P : Pg} {E : Ends} (c : ContG T Γ p H P E) (e : Rx p H H1) : ContG T Γ p H1 P E :=
  ⟨fun σ' H' ρ' kvs' a b d => c.nx σ' H' ρ' kvs' a b (e.trans d), fun v H' d a => c.rt v H' d (e.trans a)⟩
def GS (T : Ct) (Γ : Gc) (p : Option Addr) (st : Stmt) (W : Pg → DK → En → Prop) : Prop :=
  ∀ X, GoodS T X → Γ.xq X → ∀ (σ : L2.St) (H : Hp) (ρ : En) (kvs : DK) (P : Pg) (E : Ends), Env T.K H σ ρ → noOw ρ = true → Tabs Γ.tl H → gOk p kvs H → W P kvs ρ → ContG T Γ p H P E → wS X st E σ H
def GB (T : Ct) (Γ : Gc) (p : Option Addr) (st : List Stmt) (W : Pg → DK → En → Prop) : Prop :=
  ∀ X, GoodS T X → Γ.xq X → ∀ (σ : L2.St) (H : Hp) (ρ : En) (kvs : DK) (P : Pg) (E : Ends), Env T.K H σ ρ → noOw ρ = true → Tabs Γ.tl H → gOk p kvs H → W P kvs ρ → ContG T Γ p H P E → wB X st E σ H
section
variable {T : Ct} {Γ : Gc} {p : Option Addr} {a b c tg iter : Expr} {ga gb gc : En → Option D} {pos : Pos}
def poG (P : Pg) (kvs : DK) : Po := { nx := fun ρ => noOw ρ = true ∧ P.nx kvs ρ, rt := P.rt, bk := fun _ => False, ct := fun _ => False }
theorem cont_of {σ : L2.St} {H : Hp} {ρ : En} {kvs : DK} {P : Pg} {E : Ends} (no : noOw ρ = true) (tb : Tabs Γ.tl H) (g : gOk p kvs H) (c : ContG T Γ p H P E) : Cont T.K ρ σ H (poG P kvs) E :=
  ⟨fun σ' H' ρ' e1 e2 e3 => c.nx σ' H' ρ' kvs e1 e3.1 (rx_of (e2.same no)) (tb.ext (e2.same no)) (g.same (e2.same no)) e3.2, fun v σ' H' ρ' d e1 e2 e3 => c.rt v H' d (rx_of (e1.same no)) (tb.ext (e1.same no)) e2 e3,
    fun _ _ _ _ _ z => z.elim, fun _ _ _ _ _ z => z.elim⟩
def gOf (U : Po → En → Prop) : Pg → DK → En → Prop := fun P kvs ρ => U (poG P kvs) ρ
theorem gs_of {st : Stmt} {U : Po → En → Prop} (h : SS T st U) : GS T Γ p st (gOf U) := fun X G xq σ H ρ kvs P E env no tb g w c => h X G σ H ρ (poG P kvs) E env w (cont_of no tb g c)
theorem gb_of {st : List Stmt} {U : Po → En → Prop} (h : SB T st U) : GB T Γ p st (gOf U) := fun X G xq σ H ρ kvs P E env no tb g w c => h X G σ H ρ (poG P kvs) E env w (cont_of no tb g c)
def gNilS : Pg → DK → En → Prop := fun P kvs ρ => P.nx kvs ρ
theorem gb_nil : GB T Γ p [] gNilS := fun X G xq σ H ρ kvs P E env no tb g w c => ⟨_, pss_nil, c.nx σ H ρ kvs env no (Rx.refl _ _) tb g w⟩
def gConsS (U V : Pg → DK → En → Prop) : Pg → DK → En → Prop := fun P kvs ρ => U { P with nx := V P } kvs ρ
theorem gb_cons {st : Stmt} {r : List Stmt} {U V : Pg → DK → En → Prop} (h1 : GS T Γ p st U) (h2 : GB T Γ p r V) : GB T Γ p (st :: r) (gConsS U V) := by
  intro X G xq σ H ρ kvs P E env no tb g w c
  refine ⟨_, pss_cons ps_w pss_w, ?_⟩
  refine h1 X G xq σ H ρ kvs { P with nx := V P } { E with nx := wB X r E } env no tb g w ⟨fun σ' H' ρ' kvs' e1 e2 e3 e4 e5 e6 => ?_, c.rt⟩
  exact h2 X G xq σ' H' ρ' kvs' P E e1 e2 e4 e5 e6 (c.on e3)
def gWhile (t : En → Option Bool) (U : Pg → DK → En → Prop) : Pg → DK → En → Prop := fun P kvs ρ => ∃ Iv : Nat → DK → En → Prop, (∃ n, Iv n kvs ρ) ∧ ∀ n k1 ρ1, Iv n k1 ρ1 → ∃ b, t ρ1 = some b ∧
  (b = true → U { nx := fun k2 ρ2 => ∃ m, m < n ∧ Iv m k2 ρ2, rt := P.rt } k1 ρ1) ∧ (b = false → P.nx k1 ρ1)
theorem gs_while {tt : En → Option Bool} {u : List Stmt} {U : Pg → DK → En → Prop} (ht : ST T c tt) (hu : GB T Γ p u U) : GS T Γ p (.While c u [] pos) (gWhile tt U) := by
  intro X G xq σ H ρ kvs P E env no tb g h k
  obtain ⟨Iv, ⟨n0, i0⟩, turn⟩ := h
  refine ⟨_, ps_while G.2.1 pt_w pss_w, ?_⟩
  refine ⟨fun n σ1 H2 => ∃ ρ1 k1, Env T.K H2 σ1 ρ1 ∧ noOw ρ1 = true ∧ Rx p H H2 ∧ Tabs Γ.tl H2 ∧ gOk p k1 H2 ∧ Iv n k1 ρ1, ⟨n0, ρ, kvs, env, no, Rx.refl _ _, tb, g, i0⟩, fun n σ1 H2 ⟨ρ1, k1, e1, n1, r1, t1, g1, iv⟩ => ?_⟩
  obtain ⟨b, hb, h1, h2⟩ := turn n k1 ρ1 iv
  refine ht X G.1 σ1 H2 ρ1 b e1 hb _ fun H3 s3 => ?_
  have r3 := r1.trans (rx_of (p := p) s3)
  cases b with
  | true =>
    rw [if_pos rfl]
    refine ⟨fun σ' H' => ∃ m, m < n ∧ ∃ ρ2 k2, Env T.K H' σ' ρ2 ∧ noOw ρ2 = true ∧ Rx p H H' ∧ Tabs Γ.tl H' ∧ gOk p k2 H' ∧ Iv m k2 ρ2, fun σ' H' z => z, ?_⟩
    exact hu X G xq σ1 H3 ρ1 k1 _ _ (e1.mono s3) n1 (t1.ext s3) (g1.same s3) (h1 rfl) ⟨fun σ' H' ρ' k' q1 q2 q3 q4 q5 ⟨m, hm, q6⟩ => ⟨m, hm, ρ', k', q1, q2, r3.trans q3, q4, q5, q6⟩, fun v H' d q1 q2 q3 q4 => k.rt v H' d (r3.trans q1) q2 q3 q4⟩
  | false =>
    rw [if_neg Bool.false_ne_true]
    exact k.nx σ1 H3 ρ1 k1 (e1.mono s3) n1 r3 (t1.ext s3) (g1.same s3) (h2 rfl)
/-- for .. in a tuple -/
theorem pi_tupG (X : Cx) : PI X tg a (fun σ H R => ∃ t, PE X a t ∧ t σ H fun x H1 => ∃ a, x = .ref a ∧ (∃ xs, SqT X.K H1 a xs) ∧ R (Itt X.K a) H1) := by
  refine ⟨fun pins s σ H R I h => ?_⟩
  obtain ⟨t, pr, h⟩ := h
  refine thn (pr.run pins s σ H _ I h) fun v s1 ⟨x, H1, I1, r1, q1⟩ => ?_
  obtain ⟨ad, e, ⟨xs, hq⟩, q⟩ := q1
  subst e
  cases r1
  obtain ⟨its, rv, pl, hz⟩ := I1.tuple hq
  refine wpAny_pyIter_tuple (show s1.heap.IsTuple ad its.toArray from pl) ?_
  refine ⟨s1.heap.objs.size, [s1.heap.objs.size], _, _, H1, rfl, I1.kept (t' := s1.toks) fun b o e => Heap.get?_push_of_some _ e, turn_tuple ad _, ⟨_, Heap.get?_push_size _ rfl, rfl, rfl⟩, fun b hb => ?_, q⟩
  rw [List.mem_singleton.mp hb]
  exact I1.fpOk (Nat.le_refl _) (I1.hok.fresh (Nat.le_refl _))
theorem rx_seqT {K : PySem.W.Frag} {p : Option Addr} {H H' : Hp} {a : Addr} {xs : List V} (r : Rx p H H') (n : some a ≠ p) (h : SqT K H a xs) : SqT K H' a xs := by
  rcases h with (h | ⟨o, h⟩) | h
  · exact .inl (.inl (r.at_ _ _ h n fun _ z => nomatch z))
  · exact .inl (.inr ⟨o, r.at_ _ _ h n fun _ z => nomatch z⟩)
  · exact .inr h
def gForT (ga : En → Option D) (set : D → En → Option En) (U : Pg → DK → En → Prop) : Pg → DK → En → Prop := fun P kvs ρ => ∃ ds, gTu ga ρ = some ds ∧ ndA ds = true ∧ ∃ Iv : Nat → DK → En → Prop, Iv 0 kvs ρ ∧
  (∀ i d k1 ρ1, ds[i]? = some d → Iv i k1 ρ1 → ∃ ρ2, set d ρ1 = some ρ2 ∧ noOw ρ2 = true ∧ U { nx := Iv (i + 1), rt := P.rt } k1 ρ2) ∧ ∀ k1 ρ1, Iv ds.length k1 ρ1 → P.nx k1 ρ1
theorem gs_forT {is : List Nat} {set : D → En → Option En} {u : List Stmt} {U : Pg → DK → En → Prop} (ha : SE T a ga) (hg : SG T tg is set) (hu : GB T Γ p u U) (hs : ∀ env x, foldedSetIterable a env x = pure x := by intro _ _; rfl) (hmd : T.md = none := by rfl) : GS T Γ p (.For tg a u [] pos) (gForT ga set U) := by
  intro X G xq σ H ρ kvs P E env no tb g h k
  obtain ⟨ds, h1, hnd, Iv, i0, turn, fin⟩ := h
  refine ⟨_, ps_for G.2.1 (G.1.calm hmd) (pi_tupG X) pg_w pss_w (hs X.env), ?_⟩
  refine ⟨_, pe_w, ?_⟩
  obtain ⟨dd, hd1, hd2⟩ := gTu_dq h1
  refine ha X G.1 σ H ρ _ env hd1 _ fun v H1 s1 d1 => ?_
  obtain ⟨ad, xs, rfl, ⟨q1, _, q0⟩, q2⟩ := hd2 _ _ _ d1
  refine ⟨ad, rfl, ⟨xs, by rw [G.1.hK]; exact q1⟩, ?_⟩
  rw [G.1.hK]
  have wk := walk_tup (K := T.K) (a := ad) (xs := xs)
  rw [q2.length] at wk
  have r1 : Rx p H H1 := rx_of s1
  have g1 := g.same s1
  have nad : some ad ≠ p := fun z => by
    obtain ⟨k, hk⟩ := g1.ex _ z.symm
    exact q0 _ hk
  refine for_it wk (fun i σ1 H2 => ∃ ρ1 k1, Env T.K H2 σ1 ρ1 ∧ noOw ρ1 = true ∧ Rx p H1 H2 ∧ Tabs Γ.tl H2 ∧ gOk p k1 H2 ∧ Iv i k1 ρ1) ⟨ρ, kvs, env.mono s1, no, Rx.refl _ _, tb.ext s1, g1, i0⟩ (fun i σ1 H2 _ ⟨ρ1, k1, _, _, rr, _, _, _⟩ => rx_seqT rr nad q1) (fun i x σ1 Ha Hb hlt pp y => ?_) fun σ1 H2 ⟨ρ1, k1, e1, n1, rr, t1, gg, iv⟩ => ?_
  · obtain ⟨ρ1, k1, e1, n1, rr, t1, gg, iv⟩ := pp
    obtain ⟨e, hx⟩ := y
    have e : Hb = Ha := e
    subst e
    obtain ⟨d, hd, hdx⟩ := q2.getV hx
    have hdx := hdx.rx rr g1.ex _ _ (.inl (by
      have : ∀ {ds : List D} {d : D}, ndA ds = true → d ∈ ds → nd d = true := fun {ds d} => by
        induction ds with
        | nil => intro _ z; cases z
        | cons e ds ih =>
          intro z m
          simp only [ndA, Bool.and_eq_true] at z
          rcases List.mem_cons.mp m with q | q
          · rw [q]; exact z.1
          · exact ih z.2 q
      exact this hnd (List.mem_of_getElem? hd)))
    obtain ⟨ρ2, es, n2, hU⟩ := turn i d k1 ρ1 hd iv
    refine hg X G.1 σ1 Hb ρ1 x d ρ2 e1 hdx es _ fun σ2 env2 _ _ _ => ?_
    refine hu X G xq σ2 Hb ρ2 k1 _ _ env2 n2 t1 gg hU ⟨fun σ' H' ρ' k' a1 a2 a3 a4 a5 a6 => ⟨ρ', k', a1, a2, rr.trans a3, a4, a5, a6⟩, fun v H' d' a1 a2 a3 a4 => k.rt v H' d' (r1.trans (rr.trans a1)) a2 a3 a4⟩
  · exact k.nx σ1 H2 ρ1 k1 e1 n1 (r1.trans rr) t1 gg (fin k1 ρ1 iv)
/-! ### dicts -/
def getM (kvs : DK) (k : List Int) : Int := match kvs.find? fun p => decide (p.1 = k) with
  | some p => p.2
  | none => 0
def putM (kvs : DK) (k : List Int) (v : Int) : DK := if kvs.any (fun p => decide (p.1 = k)) = true then kvs.map fun p => if p.1 = k then (p.1, v) else p else kvs ++ [(k, v)]
theorem inl_map (k : List Int) : (k.map (Sum.inl : Int → L2.Key)).map kV = k.map V.int := by rw [List.map_map]; rfl
theorem inl_inj {a b : List Int} : a.map (Sum.inl : Int → L2.Key) = b.map Sum.inl ↔ a = b := ⟨fun h => List.map_inj_right (fun _ _ e => Sum.inl.inj e) |>.mp h, fun h => by rw [h]⟩
theorem enc_val (k : List Int) : ∀ kvs : DK, valV (encK kvs) (k.map Sum.inl) = (kvs.find? fun p => decide (p.1 = k)).map fun p => V.int p.2
  | [] => rfl
  | q :: r => by
    show valV ((q.1.map Sum.inl, V.int q.2) :: encK r) (k.map Sum.inl) = _
    by_cases h : q.1 = k
    · rw [valV_pos (by rw [h]), List.find?_cons, decide_eq_true h]; rfl
    · rw [valV_neg (fun z => h (inl_inj.mp z)), List.find?_cons, decide_eq_false h, enc_val k r]
theorem enc_get (kvs : DK) (k : List Int) : (valV (encK kvs) (k.map Sum.inl)).getD (.int 0) = .int (getM kvs k) := by
  rw [enc_val]
  unfold getM
  cases kvs.find? fun p => decide (p.1 = k) <;> rfl
theorem enc_any (k : List Int) : ∀ kvs : DK, (encK kvs).any (fun kv => decide (kv.1 = k.map Sum.inl)) = kvs.any fun p => decide (p.1 = k)
  | [] => rfl
  | q :: r => by
    have ih := enc_any k r
    unfold encK at ih ⊢
    rw [List.map_cons, List.any_cons, List.any_cons, ih]
    congr 1
    by_cases h : q.1 = k
    · simp [h]
    · rw [decide_eq_false h, decide_eq_false fun z => h (inl_inj.mp z)]
theorem enc_put (kvs : DK) (k : List Int) (v : Int) : putK (encK kvs) (k.map Sum.inl) (.int v) = encK (putM kvs k v) := by
  unfold putK putM
  rw [enc_any]
  split
  · unfold encK
    rw [List.map_map, List.map_map]
    refine List.map_congr_left fun q _ => ?_
    show (if q.1.map Sum.inl = k.map Sum.inl then (q.1.map Sum.inl, V.int v) else (q.1.map Sum.inl, V.int q.2)) = _
    by_cases h : q.1 = k
    · rw [if_pos (by rw [h])]
      show _ = ((if q.1 = k then (q.1, v) else q).1.map Sum.inl, V.int (if q.1 = k then (q.1, v) else q).2)
      rw [if_pos h]
    · rw [if_neg fun z => h (inl_inj.mp z)]
      show _ = ((if q.1 = k then (q.1, v) else q).1.map Sum.inl, V.int (if q.1 = k then (q.1, v) else q).2)
      rw [if_neg h]
  · unfold encK
    rw [List.map_append]; rfl
theorem rx_put {a : Addr} {H : Hp} {kvs : List (List L2.Key × V)} {k2 : List (List L2.Key × V)} (h : H a = some (.dT kvs)) : Rx (some a) H (upd H a (.dT k2)) :=
  ⟨fun b o e n _ => by rw [upd_ne (fun z => n (by rw [z]))]; exact e, fun b e _ => by cases e; exact ⟨k2, upd_same⟩⟩
theorem tabs_put {a : Addr} {H : Hp} {kvs k2 : List (List L2.Key × V)} (h : H a = some (.dT kvs)) (t : Tabs Γ.tl H) : Tabs Γ.tl (upd H a (.dT k2)) := fun q hq => by
  obtain ⟨ps, e1, e2, e3⟩ := t q hq
  refine ⟨ps, by rw [upd_ne (fun z => by rw [z, h] at e1; cases e1)]; exact e1, e2, fun ps' cv hc => ?_⟩
  obtain ⟨c, d1, d2⟩ := e3 ps' cv hc
  exact ⟨c, d1, by rw [upd_ne (fun z => by rw [z, h] at d2; unfold CodeO at d2; cases d2)]; exact d2⟩
/-- d[k] = d.get(k, 0) + e -/
def gPut (i : Nat) (a : Addr) (gk ge : En → Option D) : Pg → DK → En → Prop := fun P kvs ρ => ∃ (ks : List Int) (n : Int), ρ[i]? = some (.ex a) ∧ ρ.all ndS = true ∧ gk ρ = some (tI ks) ∧ ge ρ = some (.int n) ∧ kvs.length < 1000000 ∧ P.nx (putM kvs ks (getM kvs ks + n)) ρ
theorem ex_get {K : PySem.W.Frag} {H : Hp} {σ : L2.St} {ρ : En} {i a : Nat} (env : Env K H σ ρ) (e1 : ρ[i]? = some (.ex a)) : σ[i]? = some (some (.ref a)) := by
  have hi : i < ρ.length := (List.getElem?_eq_some_iff.mp e1).1
  have hi2 : i < σ.length := by rw [env.len]; exact hi
  have := env.at_ i _ σ[i] e1 (List.getElem?_eq_getElem hi2)
  have e3 : σ[i] = some (.ref a) := this
  rw [List.getElem?_eq_getElem hi2, e3]
theorem gs_put (i : Nat) {a : Addr} {x : Str} {k k2 e : Expr} {px1 px2 p1 p2 p3 pos2 pos3 : Pos} {j : Nat} {gk ge : En → Option D} (hk : SE T k gk) (hk2 : SE T k2 gk) (he : SE T e ge) (hN : T.N[i]? = some x) (hv : visB T.sc x = true)
    (m : ∀ X, GoodS T X → M2 X (.Name x px2) "get" p1 k2 (.Constant (.int 0) j p2) p3)
    (hs : ∀ env, swapsWith (.BinOp (.Call (.Attribute (.Name x px2) "get" p1) [k2, .Constant (.int 0) j p2] [] p3) .Add e pos2) (some (.Subscript (.Name x px1) k pos3)) pos.line env = pure false := by intro _; rfl)
    (hd : (x == ("__debug__" : Str)) = false := by decide) (hcd : (x == ("__classdict__" : Str)) = false := by decide) :
    GS T Γ (some a) (.Assign [.Subscript (.Name x px1) k pos3] (.BinOp (.Call (.Attribute (.Name x px2) "get" p1) [k2, .Constant (.int 0) j p2] [] p3) .Add e pos2) pos) (gPut i a gk ge) := by
  intro X G xq σ H ρ kvs P E env no tb g w c
  obtain ⟨ks, n, h1, h2, h3, h4, h5, h6⟩ := w
  have hu : X.A.units + 1 < cLine := by have := G.1.hu; omega
  have vx : PE X (.Name x px2) (tVar i) := pe_var (by rw [G.1.hN]; exact hN) (by rw [G.1.hs]; exact vis_of hv) hd hcd
  have vx1 : PE X (.Name x px1) (tVar i) := pe_var (by rw [G.1.hN]; exact hN) (by rw [G.1.hs]; exact vis_of hv) hd hcd
  have hσ := ex_get env h1
  refine ⟨_, ps_dput hu vx1 pe_w (pe_op op_add (pe_dget2 hu vx pe_w pe_int (m X G)) pe_w) (hs X.env), ?_⟩
  have hH := g a rfl
  refine ⟨.ref a, hσ, a, rfl, .inr ⟨_, .inl hH⟩, ?_⟩
  refine hk2 X G.1 σ H ρ _ env h3 _ fun v H1 s1 d1 => ?_
  cases d1 with
  | @tup b xs _ q1 q2 =>
  have q3 := q2.of_ints
  subst q3
  have hH1 := s1 _ _ hH
  refine ⟨_, DGet.t hH1 (k := ks.map Sum.inl) (by rw [inl_map]; exact q1), ?_⟩
  rw [enc_get]
  refine he X G.1 σ H1 ρ _ (env.mono s1) h4 _ fun v2 H2 s2 d2 => ?_
  cases d2
  refine ⟨_, _, rfl, rfl, ?_⟩
  refine ⟨.ref a, hσ, ?_⟩
  refine hk X G.1 σ H2 ρ _ ((env.mono s1).mono s2) h3 _ fun v3 H3 s3 d3 => ?_
  cases d3 with
  | @tup b3 xs3 _ q4 q5 =>
  have q6 := q5.of_ints
  subst q6
  have s13 := (s1.trans s2).trans s3
  have hH3 := s13 _ _ hH
  refine ⟨a, _, rfl, DPut.t hH3 (k := ks.map Sum.inl) (by rw [inl_map]; exact q4) (by show (kvs.map _).length < _; rw [List.length_map]; exact Nat.lt_of_lt_of_le h5 (by decide)), ?_⟩
  rw [enc_put]
  have e3 := ((env.mono s1).mono s2).mono s3
  have r3 : Rx (some a) H3 (upd H3 a (.dT (encK (putM kvs ks (getM kvs ks + n))))) := rx_put hH3
  exact c.nx σ _ ρ _ (e3.rx r3 (fun b z => by cases z; exact ⟨_, hH3⟩) (.inl h2) no) no ((rx_of s13).trans r3) (tabs_put hH3 (tb.ext s13)) (fun b z => by cases z; exact upd_same) h6
end
end Pf

set_option Elab.async false
set_option linter.all false
set_option maxRecDepth 100000
set_option maxHeartbeats 2000000
/-! Pg2: sorted(d, key=lambda k: (len(k), k)). -/
namespace Pf
open PySem PySem.Spec L2 LamX
abbrev lamP (x : Str) (pa : Pos) : Arguments := { posonlyargs := [], args := [{ arg := x, annotation := none, pos := pa }], vararg := none, kwonlyargs := [], kw_defaults := [], kwarg := none, defaults := [] }
abbrev lamB (x : Str) (k : Nat) (p1 p2 p3 p4 p5 : Pos) : Expr := .Tuple [.Call (.Name "len" p1) [.Name x p2] [] p3, .Name x p4] k p5
abbrev lamS (x : Str) : Scope := { kind := .function, names := [(x, .local), (Str.ofString "len", .globalImplicit)], isGenerator := false, isCoroutine := false, more := [] }
section
variable {prog : Program} {w : World} {A : Around} {s : Shared}
theorem reads_ints {h : Heap} : ∀ {ks : List Int} {us : List Value}, Vals (ks.map V.int) us → ReadsAll h us (ks.map .int) []
  | [], _, r => by cases r; exact .nil
  | k :: ks, _, r => by
    cases r with
    | cons r1 r2 =>
      obtain ⟨t, rfl⟩ := r1
      exact .cons (.int k t) (reads_ints r2)
/-- the key, told -/
def keyD (ks : List Int) : PyData := .tuple [.int ks.length, .tuple (ks.map .int)]
theorem bind1 {k : Nat} {p1 p2 p3 p4 p5 pa : Pos} {q : Str} {pm cv ctv v : Value} : bindArgs (PySem.W.kla_fn "<lambda>" q (lamP "some" pa) (lamB "some" k p1 p2 p3 p4 p5) (lamS "some") [] pm cv ctv) ⟨[v], []⟩ = pure [(("some" : Str), v)] := rfl
theorem lam_key {f c' b : Addr} {k : Nat} {p1 p2 p3 p4 p5 pa : Pos} {q : Str} {pm ctv : Value} {mg mb : Str → Option Value} {ks : List Int} {its : List Value}
    (hf : s.heap.get? f = some (PySem.W.kla_obj "<lambda>" q (lamP "some" pa) (lamB "some" k p1 p2 p3 p4 p5) (lamS "some") [] pm c' ctv)) (hc : s.heap.CodeRec (.ref c') q)
    (hg : s.heap.Ns mainGlobals mg) (hm : mg "len" = none) (hb : s.heap.Ns builtinsNs mb) (hbl : mb "len" = some (.builtin "len")) (lim : s.heap.NoLimit) (hroom : A.depth < recursionLimit)
    (ht : PyProof.Rows.IsTup s.heap b its.toArray) (hv : Vals (ks.map V.int) its) (hl : ks.length ≤ 1000000) :
    wpAny (model prog w) A (call (.ref f) [.ref b]) (PySem.W.KeyPure (keyD ks) s) (fun _ _ => False) s := by
  have ln : its.length = ks.length := by have := hv.length; rw [List.length_map] at this; exact this.symm
  refine wpAny_call (codeAny_mono (R := fun r s' => match r with | .ok (.ret v) => PySem.W.KeyPure (keyD ks) s v s' | _ => False) ?_ fun r s' h => ?_)
  · refine PySem.W.kla_callFunE hroom hf rfl rfl rfl rfl hc ?_
    rw [bind1]
    refine wpAny_pure (wpAny_newFunctionEnv (fun y hy => ?_) (fun y hy => ?_) (fun h₁ hns hsb => ⟨lim.fresh _ hsb, ?_⟩) rfl)
    · simp only [lamS, List.mem_cons, List.not_mem_nil, or_false] at hy
      rcases hy with rfl | rfl <;> decide
    · rw [List.mem_singleton.mp hy]; rfl
    · have kp : ∀ b o, s.heap.get? b = some o → h₁.get? b = some o := fun b o e => hsb.extBut b o (Nat.ne_of_lt (Heap.lt_size e)) (Heap.get?_push_of_some _ e)
      refine PySem.W.kla_codeExpr ?_
      refine wpAny_Tuple_spliced ?_
      refine PyProof.Rows.args_cons ?_ rfl
      refine PyProof.Rows.Call_ ?_ rfl
      refine Calls.Name_function_global rfl rfl (Calls.loadGlobal_builtin (hg.keeps kp) hm (hb.keeps kp) hbl ?_) (by decide)
      refine PyProof.Rows.callWith_builtin1 ?_ rfl rfl
      refine PyProof.Rows.args_cons ?_ rfl
      refine wpAny_Name (wpAny_loadName_local rfl rfl hns rfl ?_) (by decide)
      refine PyProof.Rows.args_nil ?_
      refine PyProof.Rows.len_tuple (ht.keeps kp) (by rw [List.size_toArray, ln]; omega) ?_
      refine PyProof.Rows.args_cons ?_ rfl
      refine wpAny_Name (wpAny_loadName_local rfl rfl hns rfl ?_) (by decide)
      refine PyProof.Rows.args_nil ?_
      refine ⟨show 2 ≤ sizeLine by decide, ?_⟩
      obtain ⟨o, ho, hcl, n, hd⟩ := ht
      refine ⟨_, _, rfl, fun b o e => Heap.get?_push_of_some _ (kp b o e), ?_⟩
      refine .tuple (Heap.get?_push_size _ rfl) rfl rfl ?_
      have e1 : ((its.toArray.size : Nat) : Int) = (ks.length : Int) := by rw [List.size_toArray, ln]
      show ReadsAll _ [.int (its.toArray.size : Nat) _, .ref b] [.int ks.length, .tuple (ks.map .int)] []
      rw [e1]
      exact .cons (.int _ _) (.cons (.tuple (Heap.get?_push_of_some _ (kp b o ho)) hcl hd (by simpa using reads_ints hv)) .nil)
  · cases r with
    | error e => exact h.elim
    | ok fl =>
      cases fl with
      | ret v => exact h
      | next => exact h.elim
      | brk => exact h.elim
      | cont => exact h.elim
end
/-! ### the lambda as a thing -/
def LamO (f c' : Addr) (q : Str) (k : Nat) (p1 p2 p3 p4 p5 pa : Pos) : HO := .ext fun h => ∃ pm ctv, h.get? f = some (PySem.W.kla_obj "<lambda>" q (lamP "some" pa) (lamB "some" k p1 p2 p3 p4 p5) (lamS "some") [] pm c' ctv)
def tLamb (T : List (Addr × Str)) (q : Str) (k : Nat) (p1 p2 p3 p4 p5 pa : Pos) : TE := fun _ H Q => Tabs T H ∧ ∀ f c' H1, ExtN H H1 → Tabs T H1 → H1 f = none → H1 c' = some (CodeO c' q) → Q (.ref f) (upd H1 f (LamO f c' q k p1 p2 p3 p4 p5 pa))
section
variable {X : Cx}
theorem codeO_tbl {c : Addr} {q : Str} {ps : Array Value} (z : CodeO c q = .tbl ps) : False := by
  unfold CodeO at z
  cases z
theorem pe_lam {T : List (Addr × Str)} {c P : Addr} {q : Str} {k : Nat} {p1 p2 p3 p4 p5 pa pos : Pos} (TB : TabB X.base X.mg c P) (hcode : X.env.code = .ref c) (hq : X.env.qual ++ "<lambda>" = q) (hm : (P, q) ∈ T) (hu : ∀ p ∈ T, p.1 = P → p.2 = q) :
    PE X (.Lambda (lamP "some" pa) (lamB "some" k p1 p2 p3 p4 p5) (lamS "some") pos) (tLamb T q k p1 p2 p3 p4 p5 pa) := by
  subst hq
  refine ⟨fun pins s σ H Q I h => ?_⟩
  obtain ⟨tbs, h⟩ := h
  obtain ⟨tri, atP, wf, am⟩ := tbs (P, X.env.qual ++ "<lambda>") hm
  have atP : H P = some (.tbl tri) := atP
  refine PySem.W.kla_eval rfl ?_
  have bP := TB.bm.keeps I.bk
  have rawP : s.heap.get? P = some { cls := .none, data := .fields tri } := I.hok P _ atP
  cases look : codeAmong pos tri.toList with
  | none =>
    refine PySem.W.kla_makeFunction (clos := []) (mg := X.mg) (c := c) (P := P) (ps := tri) rfl I.ok.glob (I.mod.glob.keeps I.bk) hcode (TB.code.keeps I.bk) rawP wf look TB.gP bP fun c' ctv h' tk ext lo hi rec grown => ?_
    obtain ⟨c2, oc, vs, t, e2, f1, f2, f3⟩ := rec
    cases e2
    have newC : H c' = none := I.hok.fresh lo
    have I1 := inv_table (t' := tk) (q := X.env.qual ++ "<lambda>") (more := #[rawInt pos.line, rawInt pos.col, .ref c']) (h' := h') I atP ext grown lo ⟨oc, vs, t, f1, f2, f3⟩
    have I2 := I1.laid (a := h'.objs.size) (o := LamO h'.objs.size c' (X.env.qual ++ "<lambda>") k p1 p2 p3 p4 p5 pa) (t' := tk) (h' := h'.push (PySem.W.kla_obj "<lambda>" (X.env.qual ++ "<lambda>") (lamP "some" pa) (lamB "some" k p1 p2 p3 p4 p5) (lamS "some") [] ((X.mg "__name__").getD .none) c' ctv)) (fun b u e => Heap.get?_push_of_some _ e) (Nat.le_refl _)
      ⟨⟨_, _, Heap.get?_push_size _ rfl⟩, ⟨_, Heap.get?_push_size _ rfl⟩, fun h1 h2 ⟨pm, ctv, e⟩ st => ⟨pm, ctv, st _ e⟩⟩
    have stays : ExtN H (upd (upd H P (.tbl (tri ++ #[rawInt pos.line, rawInt pos.col, .ref c']))) c' (CodeO c' (X.env.qual ++ "<lambda>"))) := fun b o e n => by
      have n1 : b ≠ P := fun z => by
        subst z
        rw [atP] at e
        cases e
        exact n _ rfl
      rw [upd_ne (ne_of_none e newC), upd_ne n1]; exact e
    refine ⟨.ref h'.objs.size, _, I2, rfl, h h'.objs.size c' _ stays (fun z hz => ?_) (I1.hok.fresh (Nat.le_refl _)) upd_same⟩
    by_cases zP : z.1 = P
    · rw [hu z hz zP, zP]
      refine ⟨tri ++ #[rawInt pos.line, rawInt pos.col, .ref c'], by rw [upd_ne (ne_of_none atP newC), upd_same], ?_, fun ps2 cv hcv => ?_⟩
      · rw [Array.toList_append]; exact PySem.TriplesOk_snoc _ _ _ _ wf
      · rw [Array.toList_append] at hcv
        rcases among_app _ wf hcv with g | g
        · obtain ⟨c0, g1, g2⟩ := am ps2 cv g
          exact ⟨c0, g1, stays _ _ g2 fun _ y => codeO_tbl y⟩
        · exact ⟨c', g, upd_same⟩
    · obtain ⟨ps2, g1, g2, g3⟩ := tbs z hz
      refine ⟨ps2, by rw [upd_ne (ne_of_none g1 newC), upd_ne zP]; exact g1, g2, fun ps3 cv hcv => ?_⟩
      obtain ⟨c0, y1, y2⟩ := g3 ps3 cv hcv
      exact ⟨c0, y1, stays _ _ y2 fun _ y => codeO_tbl y⟩
  | some cv =>
    obtain ⟨c', e, known⟩ := am pos cv look
    subst e
    refine PySem.W.kla_makeFunctionHit (clos := []) (mg := X.mg) (c := c) (P := P) (ps := tri) rfl I.ok.glob (I.mod.glob.keeps I.bk) hcode (TB.code.keeps I.bk) rawP wf look bP fun ctv h' tk ext big => ?_
    have I1 : Inv X pins σ H { s with heap := h', toks := tk } := I.kept ext
    have I2 := I1.laid (a := h'.objs.size) (o := LamO h'.objs.size c' (X.env.qual ++ "<lambda>") k p1 p2 p3 p4 p5 pa) (t' := tk) (h' := h'.push (PySem.W.kla_obj "<lambda>" (X.env.qual ++ "<lambda>") (lamP "some" pa) (lamB "some" k p1 p2 p3 p4 p5) (lamS "some") [] ((X.mg "__name__").getD .none) c' ctv)) (fun b u e => Heap.get?_push_of_some _ e) (Nat.le_refl _)
      ⟨⟨_, _, Heap.get?_push_size _ rfl⟩, ⟨_, Heap.get?_push_size _ rfl⟩, fun h1 h2 ⟨pm, ctv, e⟩ st => ⟨pm, ctv, st _ e⟩⟩
    exact ⟨.ref h'.objs.size, _, I2, rfl, h h'.objs.size c' H (ExtN.refl H) tbs (I.hok.fresh big) known⟩
/-! ### sorted -/
/-- in the order of their keys -/
def srtM (bs : List (Addr × List Int)) : List (Addr × List Int) := bs.mergeSort (PySem.W.dataLe false fun x => keyD x.2)
theorem keys_split {H : Hp} : ∀ {kvs : DK} {ks : List (List L2.Key × Addr × Value)}, Paired (fun (p : List L2.Key × V) (q : List L2.Key × Addr × Value) => p.1 = q.1 ∧ H q.2.1 = some (.tup (p.1.map kV)) ∧ RelV p.2 q.2.2) (encK kvs) ks →
    ∃ bs : List (Addr × List Int), (ks.map fun x => x.2.1) = bs.map (·.1) ∧ bs.map (·.2) = kvs.map (·.1) ∧ ∀ x ∈ bs, H x.1 = some (.tup (x.2.map V.int))
  | [], _, r => by cases r; exact ⟨[], rfl, rfl, fun _ z => nomatch z⟩
  | p :: kvs, _, r => by
    cases r with
    | @cons _ q _ qs r1 r2 =>
      obtain ⟨bs, a, b, c⟩ := keys_split (kvs := kvs) r2
      refine ⟨(q.2.1, p.1) :: bs, by simp [a], by simp [b], fun x hx => ?_⟩
      rcases List.mem_cons.mp hx with z | z
      · rw [z]
        have := r1.2.1
        rw [inl_map] at this
        exact this
      · exact c x z
theorem each_refs : ∀ {out : List Value} {bs : List (Addr × List Int)}, PySem.W.EachIs (fun v x => v = Value.ref x.1) out bs → Vals (bs.map fun x => V.ref x.1) out
  | _, _, .nil => .nil
  | _, _, .cons h t => .cons h (each_refs t)
theorem refs_each : ∀ (bs : List (Addr × List Int)), PySem.W.EachIs (fun v x => v = Value.ref x.1) (bs.map fun x => Value.ref x.1) bs
  | [] => .nil
  | _ :: bs => .cons rfl (refs_each bs)
theorem keyD_alike (xs ys : List Int) : PySem.W.alike (keyD xs) (keyD ys) = true := by
  simp [keyD, PySem.W.alike, PySem.W.alikeAll, PySem.W.alike_ints]
theorem keyD_depth (xs : List Int) : (keyD xs).depth ≤ 2 := by
  have := PySem.W.depth_ints xs
  simp [keyD, PyData.depth, PyData.depthAll, this]
def rSortD (q : Str) (k : Nat) (p1 p2 p3 p4 p5 pa : Pos) : List V → List V → Hp → VK → Prop := fun vs zs H Q => ∃ (a f c' : Addr) (kvs : DK), vs = [.ref a] ∧ zs = [.ref f] ∧ H a = some (.dT (encK kvs)) ∧ H f = some (LamO f c' q k p1 p2 p3 p4 p5 pa) ∧ H c' = some (CodeO c' q) ∧
  kvs.length ≤ 1000 ∧ (∀ x ∈ kvs, x.1.length ≤ 1000) ∧
  ∀ (bs : List (Addr × List Int)) (l : Addr), H l = none → bs.map (·.2) = kvs.map (·.1) → (∀ x ∈ bs, H x.1 = some (.tup (x.2.map V.int))) → Q (.ref l) (upd H l (.lst ((srtM bs).map fun x => V.ref x.1)))
theorem cr_sortD {q : Str} {k : Nat} {p1 p2 p3 p4 p5 pa : Pos} (hcalm : X.calm = true) (hu : X.A.units + 100 < cLine) (hroom : X.A.depth < recursionLimit) (hm : X.mg "len" = none) : CallRK X (.builtin "sorted") [Str.ofString "key"] (rSortD q k p1 p2 p3 p4 p5 pa) := by
  intro pins s σ H vs zs us ws Q I r rz h
  obtain ⟨a, f, c', kvs, rfl, rfl, hd, hf, hc, n1, n2, q⟩ := h
  obtain rfl := Vals.ref1 r
  obtain rfl := Vals.ref1 rz
  obtain ⟨z, low, ks, pr, o, es, ep, ho, hx, hdt, he, hn⟩ := (show ObjOk X.prog X.w H s.heap a (.dT (encK kvs)) from I.hok a _ hd)
  obtain ⟨bs, b1, b2, b3⟩ := keys_split pr
  have lk : kvs.length = ks.length := by have := pr.length; unfold encK at this; rw [List.length_map] at this; exact this
  have les : es.size = ks.length := by
    have := congrArg List.length he
    rw [Array.length_toList, List.length_map] at this
    exact this
  have lb : bs.length = kvs.length := by have := congrArg List.length b2; simpa using this
  have big : es.size ≤ sizeLine := Nat.le_trans (show es.size ≤ 1000 by omega) (by decide)
  refine PyProof.Rows.call_function_entry_kw PyProof.Rows.kind_sorted PyProof.Rows.plain_sorted PyProof.Rows.entry_sorted (PyProof.Rows.ksk_s1 _ _) ?_
  unfold Builtin.«sorted»
  refine wpAny_bind (m := checkCount "sorted" 1 1 _) (wpAny_pure ?_)
  refine wpAny_bind (PySem.W.kdu_collect (A := X.A.in1) (kdl_raw low hx hdt) (I.ok.hd hcalm) ho big fun h' tk acc hk hacc => ?_)
  have ea : acc.toList = bs.map fun x => Value.ref x.1 := by
    have e0 : (bs.map fun x => Value.ref x.1) = ks.map fun x => Value.ref x.2.1 := by
      have := congrArg (List.map Value.ref) b1
      rw [List.map_map, List.map_map] at this
      exact this.symm
    rw [e0]
    have ll : acc.toList.length = ks.length := by rw [Array.length_toList, hacc.1, les]
    refine List.ext_getElem (by rw [ll, List.length_map]) fun j j1 j2 => ?_
    obtain ⟨en, g1, g2⟩ := hacc.2 j acc.toList[j] (by rw [← Array.getElem?_toList]; exact List.getElem?_eq_getElem j1)
    have g3 : es.toList[j]? = some en := by rw [Array.getElem?_toList]; exact g1
    rw [he, List.getElem?_map, List.getElem?_eq_getElem (by rw [List.length_map] at j2; exact j2)] at g3
    rw [g2, List.getElem_map]
    have g4 := Option.some.inj g3
    rw [← g4]
    rfl
  have I1 : Inv X pins σ H { s with heap := h', toks := tk } := I.kept hk
  rw [ea]
  refine wpAny_bind (wpAny_newList ?_ (by rw [List.length_map]; exact Nat.le_trans (show bs.length ≤ 1000 by omega) (by decide)))
  have atL : (h'.push (PyProof.Rows.seqObj "list" (bs.map fun x => Value.ref x.1).toArray 0)).get? h'.objs.size = some (PyProof.Rows.seqObj "list" (bs.map fun x => Value.ref x.1).toArray 0) := Heap.get?_push_size _ rfl
  show wpAny _ _ _ _ _ { s with heap := h'.push (PyProof.Rows.seqObj "list" (bs.map fun x => Value.ref x.1).toArray 0), toks := tk }
  refine wpAny_bind (wpAny_holding (PyProof.Rows.wpAny_call_entry_kw PyProof.Rows.slot_list_sort ⟨_, atL, rfl⟩ PyProof.Rows.entry_list_sort ?_ (PyProof.Rows.ksk_l1 _ _)))
  show wpAny (model X.prog X.w) X.A.in1.in1 (Builtin.«list.sort» ⟨[.ref h'.objs.size], [(Str.ofString "key", .ref f)]⟩) _ _ _
  rw [PyProof.Rows.ksk_t1]
  have up : ∀ {g : Heap}, PySem.W.KeepsBut h'.objs.size (h'.push (PyProof.Rows.seqObj "list" (bs.map fun x => Value.ref x.1).toArray 0)) g → ∀ b o, h'.get? b = some o → g.get? b = some o := fun {g} kp b o e =>
    kp b o (Nat.ne_of_lt (Heap.lt_size e)) (Heap.get?_push_of_some _ e)
  refine PySem.W.keyH_tree (kz := bs.map fun x => keyD x.2) (s := { s with heap := h'.push (PyProof.Rows.seqObj "list" (bs.map fun x => Value.ref x.1).toArray 0), toks := tk }) atL (by simp) (by rw [List.length_map]; exact Nat.le_trans (show bs.length ≤ 1000 by omega) (by decide))
    (PySem.W.AllAlike.of fun x y => keyD_alike _ _) (PySem.W.Sortable.tuples fun x => ⟨_, _, rfl⟩) (fun d hd => ?_) (PySem.W.keyH_turns (k := fun x => keyD x.2) (refs_each bs) fun v x hv hx h tk2 kp => ?_) fun h3 tk3 out cc kp hD ko => ?_
  · obtain ⟨x, _, rfl⟩ := List.mem_map.mp hd
    have := keyD_depth x.2
    show X.A.units + 1 + 1 + _ < _
    omega
  · subst hv
    have ups : ∀ b o, s.heap.get? b = some o → h.get? b = some o := fun b o e => up kp b o (hk b o e)
    obtain ⟨⟨pm, ctv, hF⟩, _, _⟩ := I.hok f _ hf
    obtain ⟨⟨oc, vc, t, c1, c2, c3⟩, _, _⟩ := I.hok c' _ hc
    obtain ⟨mb, m1, m2⟩ := I.mod.blt
    obtain ⟨_, its, rv, ht⟩ := I.hok x.1 _ (b3 x hx)
    refine lam_key (s := { s with heap := h, toks := tk2 }) (pm := pm) (ctv := ctv) (c' := c') (mg := X.mg) (mb := mb) (its := its) (ups _ _ hF) ⟨c', oc, vc, t, rfl, ups _ _ c1, c2, c3⟩ ((I.mod.glob.keeps I.bk).keeps ups) hm ((m1.keeps I.bk).keeps ups) ((m2 "len" (by decide)).trans PySem.boot_len) (I.nolimit.keeps ups) hroom (ht.keeps ups) rv ?_
    have hx2 : x.2 ∈ kvs.map (·.1) := by rw [← b2]; exact List.mem_map.mpr ⟨x, hx, rfl⟩
    obtain ⟨y, y1, y2⟩ := List.mem_map.mp hx2
    have := n2 y y1
    rw [y2] at this
    omega
  · have eo := PySem.W.keyedOut_each (k := fun x : Addr × List Int => keyD x.2) (R := fun v x => v = Value.ref x.1) ko (refs_each bs)
    have vo := each_refs eo
    have lo : (srtM bs).length ≤ 1000 := by unfold srtM; rw [List.length_mergeSort]; omega
    have I2 := I1.laid (a := h'.objs.size) (o := .lst ((srtM bs).map fun x => V.ref x.1)) (t' := tk3) (h' := h3) (up kp) (Nat.le_refl _) ⟨by rw [List.length_map]; exact Nat.le_trans lo (by decide), out, cc, vo, hD⟩
    refine ⟨_, rfl, wpAny_pure ⟨_, rfl, ?_⟩⟩
    exact ⟨.ref h'.objs.size, _, I2, rfl, q bs h'.objs.size (I1.hok.fresh (Nat.le_refl _)) b2 b3⟩
end
end Pf

set_option Elab.async false
set_option linter.all false
set_option maxRecDepth 100000
set_option maxHeartbeats 2000000
/-! Pg3: dicts made anew, read, compared; a tuple known to its object. -/
namespace Pf
open PySem PySem.Spec L2 LamX
section
variable {X : Cx}
/-- tuple(xs): the tuple is known to its object -/
theorem cr_tupF : CallR X (.type "tuple") (fun xs H Q => ∃ p ys, xs = [.ref p] ∧ H p = some (.lst ys) ∧ ∀ l o, H l = none → o.dict = none → Q (.ref l) (upd H l (.frz o (.tup ys)))) := by
  intro pins s σ H xs us Q I r h
  obtain ⟨p, ys, rfl, hp, q⟩ := h
  obtain ⟨u, rfl, rx⟩ := r.one
  cases rx
  obtain ⟨its, rv, pl, hz⟩ := I.list (SqL.of hp)
  have ln := rv.length
  refine call_tuple_list pl.isList (fun h1 kp => ?_) (by rw [List.size_toArray, ← ln]; exact hz)
  have J : Inv X pins σ H { s with heap := h1 } := I.kept (t' := s.toks) kp
  have J2 := J.laid (a := h1.objs.size) (o := .frz { cls := .type "tuple", data := .seq its.toArray } (.tup ys)) (t' := s.toks) (h' := h1.push { cls := .type "tuple", data := .seq its.toArray }) (fun _ _ e => Heap.get?_push_of_some _ e) (Nat.le_refl _)
    ⟨Heap.get?_push_size _ rfl, hz, its, rv, PyProof.Rows.IsTup.new _ _⟩
  exact ⟨.ref h1.objs.size, _, J2, rfl, q _ _ (J.hok.fresh (Nat.le_refl _)) rfl⟩
/-! ### dict(pairs) -/
/-- a pair's address, its key's, the key, the number -/
abbrev PB := Addr × Addr × List Int × Int
def PbOk (H : Hp) (b : PB) : Prop := H b.1 = some (.tup [.ref b.2.1, .int b.2.2.2]) ∧ H b.2.1 = some (.tup (b.2.2.1.map V.int))
theorem pairs_raw {P : Program} {w : World} {H : Hp} {h : Heap} (ok : HOk P w H h) : ∀ bs : List PB, (∀ b ∈ bs, PbOk H b) → ∃ cs : List (PB × Value), cs.map (·.1) = bs ∧ ∀ c ∈ cs, RelV (.int c.1.2.2.2) c.2 ∧ h.IsTuple c.1.1 #[.ref c.1.2.1, c.2]
  | [], _ => ⟨[], rfl, fun _ z => nomatch z⟩
  | b :: bs, hb => by
    obtain ⟨cs, e, hc⟩ := pairs_raw ok bs fun x hx => hb x (List.mem_cons_of_mem _ hx)
    obtain ⟨_, its, rv, o, o1, o2, n, o3⟩ := (show ObjOk P w H h b.1 (.tup [.ref b.2.1, .int b.2.2.2]) from ok _ _ (hb b List.mem_cons_self).1)
    cases rv with
    | cons r1 r2 =>
    cases r2 with
    | @cons _ u _ _ r2 r3 =>
    cases r3
    cases r1
    refine ⟨(b, u) :: cs, by simp [e], fun c hm => ?_⟩
    rcases List.mem_cons.mp hm with z | z
    · rw [z]
      exact ⟨r2, o, o1, o2, n, o3⟩
    · exact hc c z
abbrev rowH (c : PB × Value) : List L2.Key × Addr × Value := (c.1.2.2.1.map Sum.inl, c.1.2.1, c.2)
theorem stored_new {K : Type} [DecidableEq K] : ∀ (ps xs : List (K × Addr × Value)), ((xs ++ ps).map (·.1)).Nodup → storedAllH xs ps = xs ++ ps
  | [], xs, _ => (List.append_nil xs).symm
  | p :: ps, xs, h => by
    have e : storedH xs p.1 p.2.1 p.2.2 = xs ++ [p] := by
      refine storedH_new ?_ _ _
      unfold atKey
      rw [Option.map_eq_none_iff, List.find?_eq_none]
      intro x hx hk
      have hk : x.1 = p.1 := of_decide_eq_true hk
      rw [List.map_append, List.map_cons] at h
      exact (List.nodup_append.mp h).2.2 _ (List.mem_map.mpr ⟨x, hx, rfl⟩) _ List.mem_cons_self hk
    show storedAllH (storedH xs p.1 p.2.1 p.2.2) ps = _
    rw [e, stored_new ps (xs ++ [p]) (by rw [List.append_assoc]; exact h), List.append_assoc]
    rfl
def rDictP : List V → Hp → VK → Prop := fun xs H Q => ∃ (p : Addr) (o : Obj) (bs : List PB), xs = [.ref p] ∧ H p = some (.frz o (.tup (bs.map fun b => .ref b.1))) ∧ o.dict = none ∧ (∀ b ∈ bs, PbOk H b) ∧ (bs.map fun b => b.2.2.1).Nodup ∧ bs.length ≤ 1000 ∧
  ∀ a, H a = none → Q (.ref a) (upd H a (.dT (encK (bs.map fun b => (b.2.2.1, b.2.2.2)))))
theorem cr_dictP (hcalm : X.calm = true) (hu : X.A.units + 100 < cLine) : CallR X (.type "dict") rDictP := by
  intro pins s σ H xs us Q I r h
  obtain ⟨p, o, bs, rfl, hp, hd, hb, nd, hz, q⟩ := h
  obtain ⟨u, rfl, rx⟩ := r.one
  cases rx
  obtain ⟨e1, _, its, rv, o', e2, cl, n, dt⟩ := (show ObjOk X.prog X.w H s.heap p (.frz o (.tup (bs.map fun b => .ref b.1))) from I.hok p _ hp)
  cases e1.symm.trans e2
  obtain ⟨cs, c1, c2⟩ := pairs_raw I.hok bs hb
  subst c1
  have itE : its = cs.map fun c => Value.ref c.1.1 := by
    have : ∀ {l : List Addr} {us : List Value}, Vals (l.map V.ref) us → us = l.map Value.ref := fun {l} => by
      induction l with
      | nil => intro us r; cases r; rfl
      | cons a l ih =>
        intro us r
        cases r with
        | cons r1 r2 => cases r1; rw [ih r2]; rfl
    have r' : Vals ((cs.map fun c => c.1.1).map V.ref) its := by
      rw [List.map_map] at rv ⊢
      exact rv
    rw [this r', List.map_map]; rfl
  subst itE
  have hP := PairArg.tuple (prog := X.prog) (w := X.w) p (cs.map fun c => Value.ref c.1.1).toArray (fun j => ((cs[j]?).map fun c => c.1.1).getD 0) (cs.map fun c => (Value.ref c.1.2.1, c.2))
  have keyAt : ∀ c ∈ cs, (tupleKind (mixKind X.prog X.w)).is s.heap (c.1.2.2.1.map Sum.inl) c.1.2.1 := fun c hc => key_of I.hok (by
    rw [inl_map]
    exact (hb c.1 (List.mem_map.mpr ⟨c, hc, rfl⟩)).2)
  have keyStays : ∀ c ∈ cs, ∀ g : Heap, (∀ b o, s.heap.get? b = some o → g.get? b = some o) → (tupleKind (mixKind X.prog X.w)).is g (c.1.2.2.1.map Sum.inl) c.1.2.1 := fun c hc g kp => by
    obtain ⟨o, items, n, k1, k2, k3, k4⟩ := keyAt c hc
    exact ⟨o, items, n, kp _ _ k1, k2, k3, k4⟩
  have nd2 : ((cs.map rowH).map (·.1)).Nodup := by
    have e : (cs.map rowH).map (·.1) = ((cs.map (·.1)).map fun b => b.2.2.1).map fun k => k.map Sum.inl := by simp [List.map_map, Function.comp_def]
    rw [e]
    exact List.Pairwise.map _ (fun a b ne z => ne (inl_inj.mp z)) nd
  have len : cs.length ≤ 1000 := by rw [List.length_map] at hz; exact hz
  refine call_dict_pairsH (knd := tupleKind (mixKind X.prog X.w)) (ps := cs.map rowH) hP (I.ok.hd hcalm) (by show X.A.in1.in1.units < cLine; simp only [Around.in1_units]; omega) ⟨⟨o, n, e1, cl, hd, dt⟩, by simp, fun j k v hj => ?_⟩ ⟨by simp, fun i key v hi => ?_⟩ (fun g kp x hx => ?_) (by rw [List.length_map]; exact Nat.le_trans len (by decide)) fun h' tk hD kp => ?_
  · rw [List.getElem?_map] at hj
    cases hc : cs[j]? with
    | none => rw [hc] at hj; cases hj
    | some c =>
      rw [hc] at hj
      cases hj
      refine ⟨by rw [List.getElem?_toArray, List.getElem?_map, hc]; simp [hc], .inl ?_⟩
      simp only [hc, Option.map_some, Option.getD_some]
      exact (c2 c (List.mem_of_getElem? hc)).2
  · have hi : (cs.map fun c => (Value.ref c.1.2.1, c.2))[i]? = some (key, v) := hi
    rw [List.getElem?_map] at hi
    cases hc : cs[i]? with
    | none => rw [hc] at hi; cases hi
    | some c =>
      rw [hc] at hi
      cases hi
      exact ⟨c.1.2.2.1.map Sum.inl, c.1.2.1, by rw [List.getElem?_map, hc]; rfl, rfl⟩
  · obtain ⟨c, hc, rfl⟩ := List.mem_map.mp hx
    exact keyStays c hc g fun b o e => kp b o (Nat.ne_of_lt (Heap.lt_size e)) (fun z => nomatch z) e
  · rw [stored_new (cs.map rowH) [] (by simpa using nd2), List.nil_append] at hD
    obtain ⟨od, es, ep, d1, d2, d3, d4, d5, d6⟩ := hD
    have big := I.big
    refine ⟨.ref s.heap.objs.size, _, I.laid (t' := tk) (o := .dT (encK ((cs.map (·.1)).map fun b => (b.2.2.1, b.2.2.2)))) (fun b o e => kp b o (fun z => nomatch z) e) (Nat.le_refl _) ?_, rfl, q _ (I.hok.fresh (Nat.le_refl _))⟩
    refine ⟨by unfold encK; rw [List.length_map, List.length_map, List.length_map]; exact Nat.le_trans len (by decide), beq_false_of_ne (Nat.ne_of_gt big), cs.map rowH, ?_, od, es, ep, d1, d2, d3, d4, d6⟩
    clear hP hz nd2 nd d4 d5 d6 q hp e1 rv dt len
    have pr : ∀ l : List (PB × Value), (∀ c ∈ l, c ∈ cs) → Paired (fun (p : List L2.Key × V) (q : List L2.Key × Addr × Value) => p.1 = q.1 ∧ upd H s.heap.objs.size (.dT (encK ((cs.map (·.1)).map fun b => (b.2.2.1, b.2.2.2)))) q.2.1 = some (.tup (p.1.map kV)) ∧ RelV p.2 q.2.2) (encK ((l.map (·.1)).map fun b => (b.2.2.1, b.2.2.2))) (l.map rowH) := by
      intro l
      induction l with
      | nil => intro _; exact .nil
      | cons c l ih =>
        intro hl
        have hc := hl c List.mem_cons_self
        have hk := (hb c.1 (List.mem_map.mpr ⟨c, hc, rfl⟩)).2
        refine .cons ⟨rfl, ?_, (c2 c hc).1⟩ (ih fun x hx => hl x (List.mem_cons_of_mem _ hx))
        show upd H s.heap.objs.size _ c.1.2.1 = some (.tup ((c.1.2.2.1.map Sum.inl).map kV))
        rw [inl_map, upd_ne (ne_of_none hk (I.hok.fresh (Nat.le_refl _)))]
        exact hk
    exact pr cs fun c hc => hc
end
end Pf

set_option Elab.async false
set_option linter.all false
set_option maxRecDepth 100000
set_option maxHeartbeats 2000000
/-! Pg4: two dicts compared, where they hold the same. -/
namespace Pf
open PySem PySem.Spec L2 LamX
section
variable {P : Program} {w : World} {A : Around} {E : Value → Shared → Prop} {s : Shared} {K : Type} [DecidableEq K] {knd : HeapKind P w K}
/-- each row of xa has its like in xb -/
def RowsIn (A : Around) (s : Shared) (xa xb : List (K × Addr × Value)) : Prop := ∀ x ∈ xa, ∃ (j : Nat) (p : Addr × Value), xb[j]? = some (x.1, p) ∧ SeqAt.EqAt A s x.2.2 p.2 true
theorem same_all {nm : String} {a b : Addr} {xa xb : List (K × Addr × Value)} {Q : Bool → Shared → Prop} (ha : (a == sysModules) = false) (hb : (b == sysModules) = false) (hu : knd.room A)
    (da : s.heap.DictOfH knd a xa) (db : s.heap.DictOfH knd b xb) (hl : xa.length = xb.length) (rows : RowsIn A s xa xb) (h : Q true s) : wpAny (model P w) A (Builtin.Dict.samePairs nm a b) Q E s := by
  obtain ⟨oa, ea, pa, ga, _, ta, la, ia, _⟩ := da
  obtain ⟨ob, eb, pb, gb, _, tb, lb, ib, nb⟩ := db
  have za : ea.size = xa.length := size_of_entries la
  have zb : eb.size = xb.length := size_of_entries lb
  unfold Builtin.Dict.samePairs Builtin.Dict.showsAll
  rw [if_neg (by rw [ha]; exact Bool.false_ne_true), if_neg (by rw [hb]; exact Bool.false_ne_true)]
  refine wpAny_bind (wpAny_pure (wpAny_bind (wpAny_pure (wpAny_bind (wpAny_dictEntries ga ta ?_)))))
  dsimp only
  refine wpAny_bind (wpAny_dictEntries gb tb ?_)
  rw [if_neg (by rw [za, zb, hl]; simp)]
  refine wpAny_bind (wpAny_dictEpoch ga ta ?_)
  refine wpAny_bind ?_
  rw [Std.Legacy.Range.forIn_eq_forIn_range']
  simp only [Std.Legacy.Range.size, Nat.sub_zero, Nat.add_sub_cancel, Nat.div_one]
  refine wpAny_forIn_list _ (fun left q s' => s' = s ∧ q = (none, ()) ∧ ∀ i ∈ left, i < xa.length) _ ?_ ?_ _ _ ⟨rfl, rfl, fun i hi => ?_⟩
  · rintro i left q s' ⟨rfl, rfl, all⟩
    have hi := all i List.mem_cons_self
    have gi : xa[i]? = some xa[i] := List.getElem?_eq_getElem hi
    obtain ⟨j, p, hj, eq⟩ := rows xa[i] (List.getElem_mem hi)
    generalize xa[i] = x at gi eq hj
    have ei : ea[i]? = some (entryOfKey knd x) := by rw [entry_at la i, gi]; rfl
    have ej : eb[j]? = some (entryOfKey knd (x.1, p)) := by rw [entry_at lb j, hj]; rfl
    refine wpAny_bind (wpAny_dictEntries ga ta ?_)
    rw [ei]
    show wpAny _ _ (holding [Value.ref x.2.1, x.2.2] _ >>= _) _ _ _
    refine wpAny_bind (wpAny_holding (wpAny_bind (wpAny_dictFind_heap hu (ia x (List.mem_of_getElem? gi)) gb tb lb ib nb (fun no => (no j p hj).elim) fun j' p' hj' => ?_)))
    obtain rfl := idxH_unique nb hj hj'
    cases hj.symm.trans hj'
    dsimp only
    refine wpAny_bind (wpAny_dictEntries gb tb ?_)
    rw [ej]
    refine wpAny_holding (eq P w _ _ ?_)
    rw [if_neg (by simp)]
    refine wpAny_bind (wpAny_dictEpoch ga ta ?_)
    rw [if_neg (by simp)]
    exact wpAny_pure ⟨rfl, rfl, fun i' hi' => all i' (List.mem_cons_of_mem _ hi')⟩
  · rintro q s' ⟨rfl, rfl, _⟩
    exact wpAny_pure h
  · have := List.mem_range'_1.mp hi
    omega
theorem eq_all {a b : Addr} {xa xb : List (K × Addr × Value)} {Q : Value → Shared → Prop} (ha : (a == sysModules) = false) (hb : (b == sysModules) = false) (hr : knd.room A.in1) (hu : A.units < cLine)
    (da : s.heap.DictOfH knd a xa) (db : s.heap.DictOfH knd b xb) (hl : xa.length = xb.length) (rows : RowsIn A.in1 s xa xb) (h : Q (.bool true) s) : wpAny (model P w) A (compareOp .Eq (.ref a) (.ref b)) Q E s := by
  refine wpAny_richCompare_same_room (op := .Eq) da.typeIs db.typeIs F.slot_dict_eq (wpAny_call_entry F.slot_dict_eq da.typeIs F.entry_dict_eq ?_ (F.args_dict_eq_2 _ _)) hu
  show wpAny _ _ (Builtin.Dict.dictSlotArgs "__eq__" ⟨[.ref a, .ref b], []⟩ >>= _) _ _ s
  refine wpAny_bind ?_
  unfold Builtin.Dict.dictSlotArgs
  refine wpAny_bind (wpAny_notOrdered_dict da.typeIs ?_)
  refine wpAny_pure (wpAny_bind (wpAny_isInstance (T := "dict") db.typeIs F.sub_dict_dict ?_))
  simp only [Bool.not_true, Bool.false_eq_true, if_false]
  refine wpAny_bind (wpAny_pure (wpAny_bind (wpAny_pure (wpAny_bind (same_all ha hb hr da db hl rows ?_)))))
  exact wpAny_pure ⟨_, rfl, (fun z => nomatch z), by simpa using h⟩
end
/-- the number that stands at a key -/
def getO (kvs : DK) (k : List Int) : Option Int := (kvs.find? fun p => decide (p.1 = k)).map (·.2)
def sameDK (a b : DK) : Bool := a.length == b.length && a.all fun p => decide (getO b p.1 = some p.2)
theorem kt_row {H : Hp} {k : List Int} {v : Int} : ∀ {kvs : DK} {xs : List (List L2.Key × Addr × Value)}, KT H (encK kvs) xs → getO kvs k = some v → ∃ (j : Nat) (p : Addr × Value), xs[j]? = some (k.map Sum.inl, p) ∧ RelV (.int v) p.2
  | [], _, r, e => by cases e
  | q :: r, _, z, e => by
    cases z with
    | @cons _ y _ ys h t =>
      by_cases hk : q.1 = k
      · refine ⟨0, y.2, ?_, ?_⟩
        · show some y = _
          have : y.1 = q.1.map Sum.inl := h.1.symm
          rw [show y = (y.1, y.2) from rfl, this, hk]
        · have : getO (q :: r) k = some q.2 := by unfold getO; rw [List.find?_cons, decide_eq_true hk]; rfl
          rw [this] at e
          cases e
          exact h.2.2
      · have : getO (q :: r) k = getO r k := by unfold getO; rw [List.find?_cons, decide_eq_false hk]
        rw [this] at e
        obtain ⟨j, p, j1, j2⟩ := kt_row (kvs := r) t e
        exact ⟨j + 1, p, by simpa using j1, j2⟩
theorem kt_mem {H : Hp} : ∀ {kvs : DK} {xs : List (List L2.Key × Addr × Value)}, KT H (encK kvs) xs → ∀ x ∈ xs, ∃ q ∈ kvs, x.1 = q.1.map Sum.inl ∧ RelV (.int q.2) x.2.2
  | [], _, r, x, hx => by cases r; cases hx
  | q :: r, _, z, x, hx => by
    cases z with
    | @cons _ y _ ys h t =>
      rcases List.mem_cons.mp hx with e | hx
      · rw [e]
        exact ⟨q, List.mem_cons_self, h.1.symm, h.2.2⟩
      · obtain ⟨q', a, b⟩ := kt_mem (kvs := r) t x hx
        exact ⟨q', List.mem_cons_of_mem _ a, b⟩
theorem kt_len {H : Hp} {kvs : DK} {xs : List (List L2.Key × Addr × Value)} (r : KT H (encK kvs) xs) : xs.length = kvs.length := by
  have := Paired.length r
  unfold encK at this
  rw [List.length_map] at this
  exact this.symm
theorem op_eqDct {X : Cx} (hu : X.A.units + 100 < cLine) : OpR X (compareOp .Eq) (fun x y H Q => ∃ a b ka kb, x = .ref a ∧ y = .ref b ∧ H a = some (.dT (encK ka)) ∧ H b = some (.dT (encK kb)) ∧ sameDK ka kb = true ∧ Q (.bl true) H) := by
  intro pins s σ H x y v u Q I rx ry h
  obtain ⟨a, b, ka, kb, rfl, rfl, ha, hb, hs, q⟩ := h
  cases rx
  cases ry
  obtain ⟨_, sa, xa, ra, da⟩ := dt_of I.hok ha
  obtain ⟨_, sb, xb, rb, db⟩ := dt_of I.hok hb
  unfold sameDK at hs
  rw [Bool.and_eq_true, beq_iff_eq, List.all_eq_true] at hs
  refine eq_all sa sb (by show X.A.in1.units < cLine; rw [Around.in1_units]; omega) (by omega) da db (by rw [kt_len ra, kt_len rb]; exact hs.1) (fun x hx => ?_) ⟨.bl true, H, I, rfl, q⟩
  obtain ⟨p, hp, e1, t, e2⟩ := kt_mem ra x hx
  obtain ⟨j, z, j1, t2, j2⟩ := kt_row rb (of_decide_eq_true (hs.2 p hp))
  refine ⟨j, z, by rw [e1]; exact j1, ?_⟩
  rw [e2, j2]
  exact (SeqAt.EqAt.int_int p.2 t p.2 t2).cast (by simp)
def eqDct : D → D → Option D
  | .dct a, .dct b => if sameDK a b = true then some (.bl true) else none
  | _, _ => none
theorem od_eqDct {T : Ct} : OpD T (compareOp .Eq) eqDct := by
  intro X G H x y d e z dx dy h Q q
  cases d <;> cases e <;> try (cases h; done)
  rename_i ka kb
  have h : (if sameDK ka kb = true then some (D.bl true) else none) = some z := h
  split at h
  · rename_i hc
    cases h
    cases dx with
    | dct h1 =>
    cases dy with
    | dct h2 => exact ⟨_, op_eqDct G.hu, _, _, ka, kb, rfl, rfl, h1, h2, hc, q _ H (Same.refl H) (.bl _)⟩
  · cases h
end Pf

set_option Elab.async false
set_option linter.all false
set_option maxRecDepth 100000
set_option maxHeartbeats 2000000
/-! Pg5: rules with dicts. -/
namespace Pf
open PySem PySem.Spec L2 LamX
@[simp] theorem noOw_im {ρ : En} (h : noOw ρ = true) (i : Nat) {s : Slot} (hs : ∀ ds, s ≠ .ow ds) : noOw (ρ.set i s) = true := by
  unfold noOw at h ⊢
  rw [List.all_eq_true] at h ⊢
  intro x hx
  rcases List.mem_or_eq_of_mem_set hx with z | z
  · exact h x z
  · rw [z]
    cases s with
    | ow ds => exact absurd rfl (hs ds)
    | _ => rfl
section
variable {T : Ct} {Γ : Gc} {p : Option Addr} {a b c tg iter : Expr} {ga gb gc gd gk : En → Option D} {pos : Pos}
def SDn (T : Ct) (e : Expr) (g : En → Option DK) : Prop :=
  ∀ X, Good T X → ∀ (σ : L2.St) (H : Hp) (ρ : En) (kvs : DK), Env T.K H σ ρ → g ρ = some kvs → ∀ Q : VK, (∀ p H', H p = none → Same H H' → H' p = some (.dT (encK kvs)) → Q (.ref p) H') → wE X e σ H Q
def gDn (g : En → Option DK) : En → Option D := fun ρ => (g ρ).map D.dct
theorem se_of_sd {e : Expr} {g : En → Option DK} (h : SDn T e g) : SE T e (gDn g) := by
  intro X G σ H ρ d env hd Q q
  unfold gDn at hd
  cases r : g ρ with
  | none => rw [r] at hd; cases hd
  | some kvs =>
    rw [r] at hd
    cases hd
    exact h X G σ H ρ kvs env r Q fun p H' n s e => q _ H' s (.dct e)
def gDnil : En → Option DK := fun _ => some []
theorem sd_nil : SDn T (.Dict [] [] pos) gDnil := fun X G σ H ρ kvs env hd Q q => by
  cases hd
  exact ⟨_, pe_dnewT, fun p hp => q p _ hp (same_upd hp) upd_same⟩
def dPairs : List D → Option DK
  | [] => some []
  | .tup [.tup ks, .int v] :: r => (dInts ks).bind fun ns => (dPairs r).map fun l => (ns, v) :: l
  | _ => none
theorem dPairs_map : ∀ kvs : DK, dPairs (kvs.map fun q => .tup [tI q.1, .int q.2]) = some kvs
  | [] => rfl
  | q :: r => by
    rw [List.map_cons, dPairs, dPairs_map r]
    simp
theorem dPairs_some {K : PySem.W.Frag} {H : Hp} : ∀ {ds : List D} {xs : List V} {kvs : DK}, DqA K H xs ds → dPairs ds = some kvs → ∃ bs : List PB, xs = bs.map (fun b => .ref b.1) ∧ (∀ b ∈ bs, PbOk H b) ∧ (bs.map fun b => (b.2.2.1, b.2.2.2)) = kvs
  | [], _, _, h, e => by
    cases h
    simp only [dPairs] at e
    cases e
    exact ⟨[], rfl, (fun _ z => nomatch z), rfl⟩
  | d :: ds, _, _, h, e => by
    cases h with
    | cons h1 h2 =>
      unfold dPairs at e
      split at e
      · rename_i e1; cases e1
      · rename_i ks v r e1
        cases e1
        cases e2 : dInts ks with
        | none => rw [e2] at e; cases e
        | some ns =>
          rw [e2] at e
          cases e3 : dPairs ds with
          | none => rw [e3] at e; cases e
          | some l =>
            rw [e3] at e
            cases e
            obtain ⟨bs, b1, b2, b3⟩ := dPairs_some h2 e3
            cases h1 with
            | @tup t ys _ t1 t2 =>
            obtain ⟨u1, u2, rfl, k1, k2⟩ := dqa2 t2
            cases k2
            cases k1 with
            | @tup kd zs _ z1 z2 =>
            rw [dInts_some e2] at z2
            have z3 := z2.of_ints
            subst z3
            refine ⟨(t, kd, ns, v) :: bs, by rw [b1]; rfl, fun x hx => ?_, by rw [List.map_cons, b3]⟩
            rcases List.mem_cons.mp hx with q | q
            · rw [q]; exact ⟨t1, z1⟩
            · exact b2 x q
      · cases e
def gDict (g : En → Option D) : En → Option DK := fun ρ => (g ρ).bind fun d => match d with
  | .ftp ds => (dPairs ds).bind fun kvs => if (kvs.map (·.1)).Nodup ∧ kvs.length ≤ 1000 then some kvs else none
  | _ => none
theorem sd_dict {q : Pos} (hm : T.mg "dict" = none) (ha : SE T a ga) (hg : T.sc.names.lookup ("dict" : Str) = some .globalImplicit) (he : ∀ env, starEach [a] env = (false, eval a env) :: starEach [] env := by intro _; rfl) (hmd : T.md = none := by rfl) : SDn T (.Call (.Name "dict" q) [a] [] pos) (gDict ga) := by
  intro X G σ H ρ kvs env hd Q q
  unfold gDict at hd
  cases e1 : ga ρ with
  | none => rw [e1] at hd; cases hd
  | some d =>
  rw [e1] at hd
  cases d <;> try (cases hd; done)
  rename_i ds
  have hd : ((dPairs ds).bind fun kvs => if (kvs.map (·.1)).Nodup ∧ kvs.length ≤ 1000 then some kvs else none) = some kvs := hd
  cases e2 : dPairs ds with
  | none => rw [e2] at hd; cases hd
  | some k2 =>
  rw [e2] at hd
  have hd : (if (k2.map (·.1)).Nodup ∧ k2.length ≤ 1000 then some k2 else none) = some kvs := hd
  split at hd
  · rename_i hc
    cases hd
    refine ⟨_, pe_callTy (cr_dictP (G.calm hmd) G.hu) (by show X.env.scope.names.lookup _ = _; rw [G.hs]; exact hg) (by rw [G.hm]; exact hm) (by decide +kernel) (pa_cons pe_w pa_nil (he X.env)) (by decide) (by decide) (he X.env) rfl, ?_⟩
    refine ha X G σ H ρ _ env e1 _ fun v H1 s1 d1 => ?_
    cases d1 with
    | @ftp ad o xs _ h1 h0 h2 =>
    obtain ⟨bs, rfl, b2, b3⟩ := dPairs_some h2 e2
    subst b3
    rw [List.map_map, List.length_map] at hc
    exact ⟨ad, o, bs, rfl, h1, h0, b2, hc.1, hc.2, fun x hx => q x _ (s1.free hx) (s1.trans (same_upd hx)) upd_same⟩
  · cases hd
/-- d[k] -/
def gDget (gd gk : En → Option D) : En → Option D := fun ρ => (gd ρ).bind fun d => (gk ρ).bind fun k => match d, k with
  | .dct kvs, .tup ks => (dInts ks).bind fun ns => (getO kvs ns).map D.int
  | _, _ => none
theorem se_dget {e k : Expr} (hd : SE T e gd) (hk : SE T k gk) (hs : NoSl k := by intro _ _; rfl) : SE T (.Subscript e k pos) (gDget gd gk) := by
  intro X G σ H ρ d env h Q q
  unfold gDget at h
  cases e1 : gd ρ with
  | none => rw [e1] at h; cases h
  | some x =>
  cases e2 : gk ρ with
  | none => rw [e1, e2] at h; cases h
  | some y =>
  rw [e1, e2] at h
  cases x <;> cases y <;> try (cases h; done)
  rename_i kvs ks
  have h : ((dInts ks).bind fun ns => (getO kvs ns).map D.int) = some d := h
  cases e3 : dInts ks with
  | none => rw [e3] at h; cases h
  | some ns =>
  rw [e3] at h
  have h : (getO kvs ns).map D.int = some d := h
  cases e4 : getO kvs ns with
  | none => rw [e4] at h; cases h
  | some v =>
  rw [e4] at h
  cases h
  refine ⟨_, pe_dget (by have := G.hu; omega) pe_w pe_w hs, ?_⟩
  refine hd X G σ H ρ _ env e1 _ fun v1 H1 s1 d1 => ?_
  refine hk X G σ H1 ρ _ (env.mono s1) e2 _ fun v2 H2 s2 d2 => ?_
  cases d1 with
  | dct h1 =>
  rw [dInts_some e3] at d2
  cases d2 with
  | tup h2 h3 =>
  have h4 := h3.of_ints
  subst h4
  refine ⟨_, .int v, rfl, ?_, q _ H2 (s1.trans s2) (.int _)⟩
  have := DGet.t (s2 _ _ h1) (k := ns.map Sum.inl) (by rw [inl_map]; exact h2)
  rw [enc_val] at this
  unfold getO at e4
  obtain ⟨w, w1, w2⟩ := Option.map_eq_some_iff.mp e4
  rw [w1, Option.map_some, w2] at this
  exact this
/-- tuple([..]), known to its object -/
def gFt (g : En → Option (List D)) : En → Option D := fun ρ => (g ρ).map D.ftp
theorem se_tupF {q : Pos} {gl : En → Option (List D)} (hm : T.mg "tuple" = none) (ha : SL T a gl) (hg : T.sc.names.lookup ("tuple" : Str) = some .globalImplicit) (he : ∀ env, starEach [a] env = (false, eval a env) :: starEach [] env := by intro _; rfl) : SE T (.Call (.Name "tuple" q) [a] [] pos) (gFt gl) := by
  intro X G σ H ρ d env hd Q q
  unfold gFt at hd
  cases e1 : gl ρ with
  | none => rw [e1] at hd; cases hd
  | some ds =>
  rw [e1] at hd
  cases hd
  refine ⟨_, pe_callTy cr_tupF (by show X.env.scope.names.lookup _ = _; rw [G.hs]; exact hg) (by rw [G.hm]; exact hm) (by decide +kernel) (pa_cons pe_w pa_nil (he X.env)) (by decide) (by decide) (he X.env) rfl, ?_⟩
  refine ha X G σ H ρ _ env e1 _ fun p xs H1 n s1 h1 h2 => ?_
  refine ⟨p, xs, rfl, h1, fun l o hl ho => ?_⟩
  have s2 := same_upd (o := .frz o (.tup xs)) hl
  exact q _ _ (s1.trans s2) (.ftp upd_same ho (h2.mono s2))
/-! ### statements -/
def gNew (i : Nat) (g : En → Option DK) (W : Addr → Pg → DK → En → Prop) : Pg → DK → En → Prop := fun P _ ρ => ∃ kvs, g ρ = some kvs ∧ ∀ a, W a P kvs (ρ.set i (.ex a))
theorem gb_new (i : Nat) {x : Str} {px : Pos} {e : Expr} {r : List Stmt} {g : En → Option DK} {W : Addr → Pg → DK → En → Prop} (hd : SDn T e g) (hN : T.N[i]? = some x) (hx : locB T x = true) (hr : ∀ a, GB T Γ (some a) r (W a)) (hs : ∀ env, swapsWith e (some (.Name x px)) pos.line env = pure false := by intro _; rfl) :
    GB T Γ none (.Assign [.Name x px] e pos :: r) (gNew i g W) := by
  intro X G xq σ H ρ k0 P E env no tb g0 w cc
  obtain ⟨kvs, h1, h2⟩ := w
  obtain ⟨l1, l2⟩ := loc_of G.1 hx
  refine ⟨_, pss_cons (ps_set (i := i) (by rw [G.1.hN]; exact G.1.nd) (by rw [G.1.hN]; exact hN) l1 pe_w (hs X.env) l2) pss_w, ?_⟩
  refine hd X G.1 σ H ρ kvs env h1 _ fun q H1 n1 s1 d1 => ?_
  have back : ∀ {H' : Hp}, Rx (some q) H1 H' → Rx none H H' := fun e => ((rx_of s1).trans e).drop n1
  exact hr q X G xq _ H1 _ kvs P E (env_ex (env.mono s1) i q) (noOw_im no i fun _ z => nomatch z) (tb.ext s1) (fun b e => by cases e; exact d1) (h2 q)
    ⟨fun σ' H' ρ' k' e1 e2 e3 e4 e5 e6 => cc.nx σ' H' ρ' k' e1 e2 (back e3) e4 (fun _ z => nomatch z) e6, fun v H' d e1 e2 e3 e4 => cc.rt v H' d (back e1) e2 e3 e4⟩
/-- from here on the dict is data; the rest hands something back -/
def poR (P : Pg) : Po := { nx := fun _ => False, rt := P.rt, bk := fun _ => False, ct := fun _ => False }
def gIm (i : Nat) (a : Addr) (U : Po → En → Prop) : Pg → DK → En → Prop := fun P kvs ρ => ρ[i]? = some (.ex a) ∧ U (poR P) (ρ.set i (.im (.dct kvs)))
theorem gb_im (i : Nat) {a : Addr} {r : List Stmt} {U : Po → En → Prop} (hr : SB T r U) : GB T Γ (some a) r (gIm i a U) := by
  intro X G xq σ H ρ kvs P E env no tb g w cc
  obtain ⟨h1, h2⟩ := w
  have hσ := ex_get env h1
  have env2 := env.set i (v := .ref a) (d := .dct kvs) (.dct (g a rfl))
  have eσ : σ.set i (some (.ref a)) = σ := by
    refine List.ext_getElem? fun j => ?_
    by_cases z : i = j
    · subst z
      rw [List.getElem?_set_self (List.getElem?_eq_some_iff.mp hσ).1, hσ]
    · rw [List.getElem?_set_ne z]
  rw [eσ] at env2
  have no2 : noOw (ρ.set i (.im (.dct kvs))) = true := noOw_im no i fun _ z => nomatch z
  exact hr X G σ H _ (poR P) E env2 h2 ⟨fun _ _ _ _ _ z => z.elim, fun v _ H' _ d e1 e2 e3 => cc.rt v _ d (rx_of (e1.same no2)) (tb.ext (e1.same no2)) e2 e3, fun _ _ _ _ _ z => z.elim, fun _ _ _ _ _ z => z.elim⟩
end
end Pf

set_option Elab.async false
set_option linter.all false
set_option maxRecDepth 100000
set_option maxHeartbeats 2000000
/-! Pg6: a dict's keys sorted; promises beside tables. -/
namespace Pf
open PySem PySem.Spec L2 LamX
/-- keys in the order of (length, key) -/
def srtK (ks : List (List Int)) : List (List Int) := ks.mergeSort (PySem.W.dataLe false keyD)
theorem srtM_keys (bs : List (Addr × List Int)) : (srtM bs).map (·.2) = srtK (bs.map (·.2)) := by
  unfold srtM srtK
  exact List.map_mergeSort fun _ _ _ _ => rfl
theorem srtM_mem {bs : List (Addr × List Int)} {x : Addr × List Int} : x ∈ srtM bs ↔ x ∈ bs := by
  unfold srtM
  exact (List.mergeSort_perm bs _).mem_iff
theorem dqa_keys {K : PySem.W.Frag} {H : Hp} : ∀ bs : List (Addr × List Int), (∀ x ∈ bs, H x.1 = some (.tup (x.2.map V.int))) → DqA K H (bs.map fun x => .ref x.1) ((bs.map (·.2)).map tI)
  | [], _ => .nil
  | b :: bs, h => .cons (.tup (h b List.mem_cons_self) (DqA.ints _)) (dqa_keys bs fun x hx => h x (List.mem_cons_of_mem _ hx))
section
variable {T : Ct} {Γ : Gc} {pos : Pos}
/-- the maker of a lambda: its code object, its table -/
def LamCx (Γ : Gc) (q : Str) : Prop := ∀ X, Γ.xq X → ∃ c P, TabB X.base X.mg c P ∧ X.env.code = .ref c ∧ X.env.qual ++ "<lambda>" = q ∧ (P, q) ∈ Γ.tl ∧ ∀ p ∈ Γ.tl, p.1 = P → p.2 = q
def gSort (i j : Nat) (a : Addr) : Pg → DK → En → Prop := fun P kvs ρ => ρ[i]? = some (.ex a) ∧ kvs.length ≤ 1000 ∧ (∀ x ∈ kvs, x.1.length ≤ 1000) ∧ P.nx kvs (ρ.set j (.im (.lst ((srtK (kvs.map (·.1))).map tI))))
theorem gs_sorted (i j : Nat) {a : Addr} {x y q : Str} {k : Nat} {px py p0 p1 p2 p3 p4 p5 pa pl cpos kpos : Pos} (hL : LamCx Γ q) (hN : T.N[i]? = some x) (hv : visB T.sc x = true) (hN2 : T.N[j]? = some y) (hy : locB T y = true) (hg : T.sc.names.lookup ("sorted" : Str) = some .globalImplicit) (hm : T.mg "sorted" = none) (hm2 : T.mg "len" = none)
    (he : ∀ env : PySem.Env, backTo cpos (starEach [.Name x px] env) = (false, eval (.Name x px) env) :: backTo cpos (starEach [] env) := by intro _; rfl) (hpl : ∀ env : PySem.Env, (backTo cpos (starEach [.Name x px] env)).any (·.1) = false := by intro _; rfl)
    (hall : ∀ env : PySem.Env, (backToKw cpos (keywordEach [⟨some (Str.ofString "key"), .Lambda (lamP "some" pa) (lamB "some" k p1 p2 p3 p4 p5) (lamS "some") pl, kpos⟩] env)).all (·.1.isSome) = true := by intro _; rfl)
    (hnone : ∀ env : PySem.Env, (backToKw cpos (keywordEach [⟨some (Str.ofString "key"), .Lambda (lamP "some" pa) (lamB "some" k p1 p2 p3 p4 p5) (lamS "some") pl, kpos⟩] env)).any (·.1.isNone) = false := by intro _; rfl)
    (hks : ∀ env : PySem.Env, (backToKw cpos (keywordEach [⟨some (Str.ofString "key"), .Lambda (lamP "some" pa) (lamB "some" k p1 p2 p3 p4 p5) (lamS "some") pl, kpos⟩] env)).filterMap (·.1) = [Str.ofString "key"] := by intro _; rfl)
    (hs : ∀ env, swapsWith (.Call (.Name "sorted" p0) [.Name x px] [⟨some (Str.ofString "key"), .Lambda (lamP "some" pa) (lamB "some" k p1 p2 p3 p4 p5) (lamS "some") pl, kpos⟩] cpos) (some (.Name y py)) pos.line env = pure false := by intro _; rfl)
    (hmd : T.md = none := by rfl) (hd : (x == ("__debug__" : Str)) = false := by decide) (hcd : (x == ("__classdict__" : Str)) = false := by decide) :
    GS T Γ (some a) (.Assign [.Name y py] (.Call (.Name "sorted" p0) [.Name x px] [⟨some (Str.ofString "key"), .Lambda (lamP "some" pa) (lamB "some" k p1 p2 p3 p4 p5) (lamS "some") pl, kpos⟩] cpos) pos) (gSort i j a) := by
  intro X G xq σ H ρ kvs P E env no tb g w cc
  obtain ⟨h1, h2, h3, h4⟩ := w
  obtain ⟨c, Pt, TB, e1, e2, e3, e4⟩ := hL X xq
  obtain ⟨l1, l2⟩ := loc_of G.1 hy
  have vx : PE X (.Name x px) (tVar i) := pe_var (by rw [G.1.hN]; exact hN) (by rw [G.1.hs]; exact vis_of hv) hd hcd
  have rm := G.1.room hmd
  refine ⟨_, ps_set (i := j) (by rw [G.1.hN]; exact G.1.nd) (by rw [G.1.hN]; exact hN2) l1 (pe_callBK (cr_sortD (q := q) (k := k) (p1 := p1) (p2 := p2) (p3 := p3) (p4 := p4) (p5 := p5) (pa := pa) (G.1.calm hmd) G.1.hu (by have := rm.dp; omega) (by rw [G.1.hm]; exact hm2)) (by show X.env.scope.names.lookup _ = _; rw [G.1.hs]; exact hg) (by rw [G.1.hm]; exact hm) (by decide +kernel)
    (pa_cons vx pa_nil rfl) (pk_cons (pe_lam (T := Γ.tl) TB e1 e2 e3 e4) pk_nil) (by decide) (by decide) (he X.env) (hpl X.env) (hall X.env) (hnone X.env) (hks X.env)) (hs X.env) l2, ?_⟩
  refine ⟨.ref a, ex_get env h1, ?_⟩
  refine ⟨tb, fun f c' H1 x1 t1 nf cf => ?_⟩
  have hH := g a rfl
  have H1a : H1 a = some (.dT (encK kvs)) := x1 _ _ hH fun _ z => nomatch z
  have s1 : Same H1 (upd H1 f (LamO f c' q k p1 p2 p3 p4 p5 pa)) := same_upd nf
  refine ⟨a, f, c', kvs, rfl, rfl, s1 _ _ H1a, upd_same, s1 _ _ cf, h2, h3, fun bs l hl b1 b2 => ?_⟩
  have s2 : Same (upd H1 f (LamO f c' q k p1 p2 p3 p4 p5 pa)) (upd (upd H1 f (LamO f c' q k p1 p2 p3 p4 p5 pa)) l (.lst ((srtM bs).map fun x => V.ref x.1))) := same_upd hl
  have ss := s1.trans s2
  have rx1 : Rx none H H1 := rx_ext x1
  have env1 := (Env.rx env rx1 (fun _ z => nomatch z) (.inr rfl) no).mono ss
  have hd1 : Dq T.K (upd (upd H1 f (LamO f c' q k p1 p2 p3 p4 p5 pa)) l (.lst ((srtM bs).map fun x => V.ref x.1))) (.ref l) (.lst ((srtK (kvs.map (·.1))).map tI)) := by
    refine .lst upd_same ?_
    rw [← b1, ← srtM_keys]
    exact dqa_keys _ fun z hz => s2 _ _ (b2 z (srtM_mem.mp hz))
  exact cc.nx _ _ _ kvs (env1.set j hd1) (noOw_im no j fun _ z => nomatch z) ((rx1.up).trans (rx_of ss)) (t1.ext ss) (fun b e => by cases e; exact ss _ _ H1a) h4
end
/-! ### promises beside tables -/
def spG (K : PySem.W.Frag) (tl : List (Addr × Str)) (fn : List D → Option D) : Sp := fun vs H Q _ => ∃ ds d, Tabs tl H ∧ DqA K H vs ds ∧ fn ds = some d ∧ ∀ v H', Rx none H H' → Tabs tl H' → Dq K H' v d → Q v H'
def spGX (K : PySem.W.Frag) (mg : Str → Option Value) (tl : List (Addr × Str)) (fn : List D → Option Rs) : Sp := fun vs H Q E => ∃ ds r, Tabs tl H ∧ DqA K H vs ds ∧ fn ds = some r ∧ (∀ d, r = .ok d → ∀ v H', Rx none H H' → Tabs tl H' → Dq K H' v d → Q v H') ∧
  ∀ x C H', r = .no x → mg x = some (.ref C) → Rx none H H' → Tabs tl H' → E (.ref C) none H'
section
variable {P : Program} {w : World} {K : PySem.W.Frag} {mg : Str → Option Value} {base : Heap} {tl : List (Addr × Str)}
def FnG (P : Program) (w : World) (K : PySem.W.Frag) (mg : Str → Option Value) (base : Heap) (tl : List (Addr × Str)) (k : Nat) (x : Str) (fn : List D → Option D) : Prop :=
  ∃ (f : Addr) (fd : FuncData) (ps : List Str), FnOk P w K mg base CX0 k f fd ps (spG K tl fn) ∧ mg x = some (.ref f) ∧ PySem.W.keepIn K (.ref f) = true ∧ Binds K fd ps []
def FnGX (P : Program) (w : World) (K : PySem.W.Frag) (mg : Str → Option Value) (base : Heap) (tl : List (Addr × Str)) (k : Nat) (x : Str) (fn : List D → Option Rs) : Prop :=
  ∃ (f : Addr) (fd : FuncData) (ps : List Str), FnOk P w K mg base (L2.CX P w) k f fd ps (spGX K mg tl fn) ∧ mg x = some (.ref f) ∧ PySem.W.keepIn K (.ref f) = true ∧ Binds K fd ps []
theorem fnokG_mk {x : Str} {st : Stmt} {f : Addr} {fd : FuncData} {N ps : List Str} {k : Nat} {Γ : Gc} (F : Fun K x x st f fd) (S : FnScope N ps (defScope st)) (hΓ : ∀ X, Γ.xq X) (fn : List D → Option D) {W : Pg → DK → En → Prop} (hb : GB (ctx P w K mg base k N st) Γ none (defBody st) W)
    (hlen : ∀ ds d, fn ds = some d → ds.length = ps.length) (hW : ∀ ds d, fn ds = some d → W { nx := fun _ _ => d = .non, rt := fun d' => d' = d } [] (stR N ds)) : FnOk P w K mg base CX0 (k + 1) f fd ps (spG K Γ.tl fn) := by
  refine F.ok S (fun vs H Q E h => ?_) (fun cdv A outer s H vs Q E hr h => ?_)
  · obtain ⟨ds, d, _, h1, h2, _⟩ := h
    rw [h1.length]
    exact hlen ds d h2
  · obtain ⟨ds, d, tb, h1, h2, q⟩ := h
    have G : GoodS (ctx P w K mg base k N st) (cxOf CX0 P w K mg base N x (defScope st) f cdv A outer s H E).nox := ⟨⟨rfl, rfl, rfl, rfl, rfl, rfl, rfl, fun _ => rfl, S.nd, fun _ _ => rfl, fun _ => hr, un_of hr, fun _ e => (nomatch e)⟩, PassesOwn.never, rfl, rfl⟩
    refine ⟨_, pss_w, hb _ G (hΓ _) (L2.start N vs) H (stR N ds) [] _ _ (env_start h1) (noOw_start N ds) tb (fun _ z => nomatch z) (hW ds d h2) ⟨fun σ' H' ρ' _ _ _ e3 e4 _ e5 => ?_, fun v H' d' e1 e2 e3 e4 => ?_⟩⟩
    · have e5 : d = .non := e5
      subst e5
      exact q .non H' e3 e4 .non
    · have e4 : d' = d := e4
      subst e4
      exact q v H' e1 e2 e3
theorem fnG_mk {x : Str} {st : Stmt} {N ps : List Str} {k : Nat} {Γ : Gc} (h : Hd K mg x st ps) (S : FnScope N ps (defScope st)) (hΓ : ∀ X, Γ.xq X) (fn : List D → Option D) {W : Pg → DK → En → Prop} (hb : GB (ctx P w K mg base k N st) Γ none (defBody st) W)
    (hlen : ∀ ds d, fn ds = some d → ds.length = ps.length) (hW : ∀ ds d, fn ds = some d → W { nx := fun _ _ => d = .non, rt := fun d' => d' = d } [] (stR N ds)) : FnG P w K mg base Γ.tl (k + 1) x fn := by
  obtain ⟨f, fd, F, hm, b⟩ := h
  exact ⟨f, fd, ps, fnokG_mk F S hΓ fn hb hlen hW, hm, F.kp, b⟩
/-- a def whose code object is known -/
def HdC (K : PySem.W.Frag) (mg : Str → Option Value) (x : Str) (st : Stmt) (ps : List Str) (c : Addr) : Prop := ∃ (f : Addr) (oc : Value) (od an : Option Addr) (kV doc pm ct : Value) (osl : Array (Option Value)),
  K.lookup f = some ⟨oc, od, .func (PySem.W.fnOf x x (defArgs st) (defBody st) (defScope st) .none kV doc pm an (.ref c) ct), osl⟩ ∧ PySem.W.codeIn K (.ref c) x = true ∧ PySem.W.keepIn K (.ref f) = true ∧ mg x = some (.ref f) ∧
  Binds K (PySem.W.fnOf x x (defArgs st) (defBody st) (defScope st) .none kV doc pm an (.ref c) ct) ps []
theorem hdC_mk {h : Heap} (X : K.In h) (G : h.Ns mainGlobals mg) {x : Str} {st : Stmt} {ps : List Str} {f c : Addr} {oc : Value} {od an : Option Addr} {osl : Array (Option Value)} {kV doc pm ct : Value}
    (a : PySem.W.nsIn K mainGlobals x = some (some (.ref f))) (l : K.lookup f = some ⟨oc, od, .func (PySem.W.fnOf x x (defArgs st) (defBody st) (defScope st) .none kV doc pm an (.ref c) ct), osl⟩) (cc : PySem.W.codeIn K (.ref c) x = true) (k : PySem.W.keepIn K (.ref f) = true)
    (b : ∀ (kV doc pm : Value) (an : Option Addr) (cdv ct : Value) (us : List Value), us.length = ps.length → bindArgs (PySem.W.fnOf x x (defArgs st) (defBody st) (defScope st) .none kV doc pm an cdv ct) ⟨us, []⟩ = pure (ps.zip us)) : HdC K mg x st ps c :=
  ⟨f, oc, od, an, kV, doc, pm, ct, osl, l, cc, k, PySem.W.mg_of X G a, .all (b kV doc pm an (.ref c) ct)⟩
/-- .. a refusal ahead, then the rest -/
def gHead (U : Po → Px → En → Prop) (V : Pg → DK → En → Prop) : Pg → Px → En → Prop := fun P px ρ => U { nx := fun ρ' => noOw ρ' = true ∧ V P [] ρ', rt := P.rt, bk := fun _ => False, ct := fun _ => False } px ρ
theorem fnGX_mk {x : Str} {st s1 : Stmt} {rest : List Stmt} {N ps : List Str} {k : Nat} {Γ : Gc} {c : Addr} (h : HdC K mg x st ps c) (S : FnScope N ps (defScope st)) (hbody : defBody st = s1 :: rest)
    (hΓ : ∀ X : Cx, X.base = base → X.mg = mg → X.env.code = .ref c → X.env.qual = x ++ ".<locals>." → Γ.xq X) (fn : List D → Option Rs) {U : Po → Px → En → Prop} {V : Pg → DK → En → Prop} (h1 : SSr (ctx P w K mg base k N st) s1 U) (h2 : GB (ctx P w K mg base k N st) Γ none rest V)
    (hlen : ∀ ds r, fn ds = some r → ds.length = ps.length) (hW : ∀ ds r, fn ds = some r → gHead U V { nx := fun _ _ => r = .ok .non, rt := fun d' => r = .ok d' } (fun x' _ => r = .no x') (stR N ds)) : FnGX P w K mg base Γ.tl (k + 1) x fn := by
  obtain ⟨f, oc, od, an, kV, doc, pm, ct, osl, lk, hcd, kp, hm, b⟩ := h
  refine ⟨f, _, ps, fn_of lk hcd S (fun vs H Q E h => ?_) fun A outer s H vs Q E hr h => ?_, hm, kp, b⟩
  · obtain ⟨ds, r, _, h1, h2, _⟩ := h
    rw [h1.length]
    exact hlen ds r h2
  · obtain ⟨ds, r, tb, d1, d2, q, qx⟩ := h
    have G : GoodS (ctx P w K mg base k N st) (cxOf (L2.CX P w) P w K mg base N x (defScope st) f (.ref c) A outer s H E) := ⟨⟨rfl, rfl, rfl, rfl, rfl, rfl, rfl, fun _ => rfl, S.nd, fun _ _ => rfl, fun _ => hr, un_of hr, fun _ e => (nomatch e)⟩, passes_of (K := fun e s' => L2.CX P w outer H s E e s') rfl, rfl, rfl⟩
    have tk := takes_of (X := cxOf (L2.CX P w) P w K mg base N x (defScope st) f (.ref c) A outer s H E) rfl rfl rfl rfl
    have no := noOw_start N ds
    have hw := hW ds r d2
    refine ⟨_, pss_w, ?_⟩
    rw [hbody]
    refine ⟨_, pss_cons ps_w pss_w, ?_⟩
    refine h1 _ G _ tk (L2.start N vs) H (stR N ds) _ _ { nx := wB _ rest _, rt := _, bk := _, ct := _ } (env_start d1) hw ⟨fun σ' H' ρ' e1 e2 e3 => ?_, fun v σ' H' ρ' d' e1 e2 e3 => ?_, fun _ _ _ _ _ z => z.elim, fun _ _ _ _ _ z => z.elim⟩ fun x' C' σ' H' ρ' g1 g2 g3 g4 => ?_
    · refine h2 _ G (hΓ _ rfl rfl rfl rfl) σ' H' ρ' [] _ _ e1 e3.1 (tb.ext (e2.same no)) (fun _ z => nomatch z) e3.2 ⟨fun σ'' H'' ρ'' _ _ _ f1 f2 _ f3 => ?_, fun v H'' d' f1 f2 f3 f4 => ?_⟩
      · exact q .non f3 .non H'' ((rx_of (e2.same no)).trans f1) f2 .non
      · exact q d' f4 v H'' ((rx_of (e2.same no)).trans f1) f2 f3
    · exact q d' e3 v H' (rx_of (e1.same no)) (tb.ext (e1.same no)) e2
    · exact qx x' C' H' g4 g1 (rx_of (g3.same no)) (tb.ext (g3.same no))
end
section
variable {T : Ct} {Γ : Gc} {p : Option Addr} {pos : Pos}
def gCallP (i : Nat) (fn : List D → Option D) (g : En → Option (List D)) : Pg → DK → En → Prop := fun P kvs ρ => ∃ ds d, g ρ = some ds ∧ fn ds = some d ∧ P.nx kvs (ρ.set i (.im d))
/-- y = f(..), f promises beside tables -/
theorem gs_setG (i : Nat) {y x : Str} {py q pos2 : Pos} {fn : List D → Option D} {e : Expr} {es : List Expr} {g : En → Option (List D)} {k : Nat} (C : FnG T.P T.w T.K T.mg T.base Γ.tl k x fn) (h : SA T (e :: es) g) (hg : T.sc.names.lookup x = some .globalImplicit) (hN : T.N[i]? = some y) (hy : locB T y = true) (hk : k ≤ T.lv := by first | exact Nat.le_of_ble_eq_true rfl | exact Nat.le_refl _ | assumption)
    (hdb : (x == ("__debug__" : Str)) = false := by decide) (he : ∀ env, starEach (e :: es) env = (false, eval e env) :: starEach es env := by intro _; rfl) (hpl : ∀ env, (backTo pos (starEach es env)).any (·.1) = false := by intro _; rfl) (hmd : T.md = none := by rfl)
    (hs : ∀ env, swapsWith (.Call (.Name x q) (e :: es) [] pos) (some (.Name y py)) pos2.line env = pure false := by intro _; rfl) : GS T Γ none (.Assign [.Name y py] (.Call (.Name x q) (e :: es) [] pos) pos2) (gCallP i fn g) := by
  intro X G xq σ H ρ kvs P E env no tb g0 w cc
  obtain ⟨ds, d, h1, h2, h3⟩ := w
  obtain ⟨f, fd, ps, F, hm, kp, b⟩ := C
  obtain ⟨l1, l2⟩ := loc_of G.1 hy
  refine ⟨_, ps_set (i := i) (by rw [G.1.hN]; exact G.1.nd) (by rw [G.1.hN]; exact hN) l1 (pe_call (CX := CX0) (k := k) (f := f) (fd := fd) (ps := ps) (sp := spG T.K Γ.tl fn) (dvs := []) (ds := []) (E := E0) (by rw [G.1.hP, G.1.hw, G.1.hK, G.1.hm, G.1.hb]; exact F) ((G.1.room hmd).mono hk) (by show X.env.scope.names.lookup x = _; rw [G.1.hs]; exact hg) (by rw [G.1.hm]; exact hm) (by rw [G.1.hK]; exact kp)
    (by rw [G.1.hK]; exact b) .nil pass0 pa_w hdb (he X.env) (hpl X.env)) (hs X.env) l2, ?_⟩
  refine h X G.1 σ H ρ ds env h1 _ fun vs H1 s1 d1 => ?_
  rw [List.append_nil]
  refine ⟨ds, d, tb.ext s1, d1, h2, fun v H' r1 t1 dv => ?_⟩
  have rx : Rx none H H' := (rx_of s1).trans r1
  exact cc.nx _ _ _ kvs ((Env.rx env rx (fun _ z => nomatch z) (.inr rfl) no).set i dv) (noOw_im no i fun _ z => nomatch z) rx t1 (fun _ z => nomatch z) h3
theorem callXG {x : Str} {fn : List D → Option Rs} {e : Expr} {es : List Expr} {g : En → Option (List D)} {q : Pos} {k : Nat} {tl : List (Addr × Str)} (C : FnGX T.P T.w T.K T.mg T.base tl k x fn) (h : SA T (e :: es) g) (hg : T.sc.names.lookup x = some .globalImplicit) (hk : k ≤ T.lv)
    (hdb : (x == ("__debug__" : Str)) = false) (he : ∀ env, starEach (e :: es) env = (false, eval e env) :: starEach es env) (hpl : ∀ env, (backTo pos (starEach es env)).any (·.1) = false) (hmd : T.md = none)
    {X : Cx} (G : Good T X) {Wx : WX} (tk : Takes X Wx) {σ : L2.St} {H : Hp} {ρ : En} (env : Env T.K H σ ρ) (tb : Tabs tl H) {ds : List D} {r : Rs} (h1 : g ρ = some ds) (h2 : fn ds = some r) {Q : VK} (hq : ∀ d, r = .ok d → ∀ v H', Rx none H H' → Tabs tl H' → Dq T.K H' v d → Q v H')
    (hx : ∀ y C H', r = .no y → T.mg y = some (.ref C) → Rx none H H' → Tabs tl H' → Wx (.ref C) none σ H') : wE X (.Call (.Name x q) (e :: es) [] pos) σ H Q := by
  obtain ⟨f, fd, ps, F, hm, kp, b⟩ := C
  have F' : FnOk X.prog X.w X.K X.mg X.base (L2.CX X.prog X.w) k f fd ps (spGX T.K T.mg tl fn) := by rw [G.hP, G.hw, G.hK, G.hm, G.hb]; exact F
  refine ⟨_, pe_callS (E := WE Wx) F' ((G.room hmd).mono hk) (by show X.env.scope.names.lookup x = _; rw [G.hs]; exact hg) (by rw [G.hm]; exact hm) (by rw [G.hK]; exact kp) (by rw [G.hK]; exact b) (fun σ => passAt tk σ) pa_w hdb (he X.env) (hpl X.env), ?_⟩
  refine h X G σ H ρ ds env h1 _ fun vs H1 s1 d1 => ?_
  exact ⟨ds, r, tb.ext s1, d1, h2, fun d e v H' r1 t1 dv => hq d e v H' ((rx_of s1).trans r1) t1 dv, fun y C H' e hy r1 t1 => hx y C H' e hy ((rx_of s1).trans r1) t1⟩
/-- try: y = f(..), except cn as n: suite that hands back -/
def gTry (i j : Nat) (x : Str) (fn : List D → Option Rs) (g : En → Option (List D)) (Ws : Addr → Po → En → Prop) : Pg → DK → En → Prop := fun P kvs ρ => ∃ ds r, g ρ = some ds ∧ fn ds = some r ∧ (∀ d, r = .ok d → P.nx kvs (ρ.set j (.im d))) ∧ ∀ y, r = .no y → y = x ∧ ∀ a, Ws a (poR P) (ρ.set i (.ex a))
theorem gs_try (i j : Nat) {x n cn y fx : Str} {C Cc : Addr} {suite : List Stmt} {b₀ : Stmt} {np pos' q py pos1 pos2 : Pos} {fn : List D → Option Rs} {e : Expr} {es : List Expr} {g : En → Option (List D)} {k : Nat} {Ws : Addr → Po → En → Prop} (hx : T.mg x = some (.ref C)) (hcn : T.mg cn = some (.ref Cc)) (hm : PySem.W.exmOne T.K (.ref C) (.ref Cc) = some true)
    (Cf : FnGX T.P T.w T.K T.mg T.base Γ.tl k fx fn) (h : SA T (e :: es) g) (hgf : T.sc.names.lookup fx = some .globalImplicit) (hNy : T.N[j]? = some y) (hy : locB T y = true)
    (hsu : ∀ a, SB (T.sf C a) (b₀ :: suite) (Ws a)) (hN : T.N[i]? = some n) (hn : T.sc.names.lookup n = some .local) (hkf : T.sc.kind = .function) (hg : T.sc.names.lookup cn = some .globalImplicit) (hk : k ≤ T.lv := by first | exact Nat.le_of_ble_eq_true rfl | exact Nat.le_refl _ | assumption) (hmd : T.md = none := by rfl) (hdb : (cn == ("__debug__" : Str)) = false := by decide)
    (hdf : (fx == ("__debug__" : Str)) = false := by decide) (he : ∀ env, starEach (e :: es) env = (false, eval e env) :: starEach es env := by intro _; rfl) (hpl : ∀ env, (backTo pos1 (starEach es env)).any (·.1) = false := by intro _; rfl)
    (hs : ∀ env, swapsWith (.Call (.Name fx q) (e :: es) [] pos1) (some (.Name y py)) pos2.line env = pure false := by intro _; rfl) :
    GS T Γ none (.Try [.Assign [.Name y py] (.Call (.Name fx q) (e :: es) [] pos1) pos2] [.ExceptHandler (some (.Name cn np)) (some n) (b₀ :: suite) pos'] [] [] pos) (gTry i j x fn g Ws) := by
  intro X G xq σ H ρ kvs P E env no tb g0 w cc
  obtain ⟨ds, r, w1, w2, w3, w4⟩ := w
  let body : List Stmt := [.Assign [.Name y py] (.Call (.Name fx q) (e :: es) [] pos1) pos2]
  let tB : WX → TS := fun W E σ H => ∀ pn xe, Takes (X.tr pn xe) W → PassesOwn (model X.prog X.w) X.A X.env xe → wB (X.tr pn xe) body E σ H
  let tS : Addr → Value → Option Addr → TS := fun a cls d D σ H => cls = .ref C ∧ d = none ∧ ∀ (oe : Obj) (pn : List (Addr × Obj)), Zc (.ref C) none oe → (∃ vs, oe.data = .fields vs) → wB (X.suite a ((a, oe) :: pn)) (b₀ :: suite) D σ H
  refine ⟨_, ps_try_as (i := i) (n := n) (x := cn) (c := .ref Cc) (Wout := fun _ _ _ _ => False) (tb := tB) (ts := tS) G.2.2.1 G.2.2.2 (by rw [G.1.hN]; exact G.1.nd) (by rw [G.1.hN]; exact hN) ?_ ⟨by show X.env.scope.names.lookup cn = _; rw [G.1.hs]; exact hg, hdb, .inl (by rw [G.1.hm]; exact hcn)⟩ L2.takes0
    (fun W pn xe tk po => ⟨fun pins s σ H D I h => by obtain ⟨t, pr, u⟩ := h pn xe tk po; exact pr.run pins s σ H D I u⟩) (fun a oe cls d pn hz hf => ⟨fun pins s σ H D I h => ?_⟩), ?_⟩
  · show X.env.kindOf n = some .local
    unfold PySem.Env.kindOf
    rw [G.1.hs, hn]
  · obtain ⟨rfl, rfl, h⟩ := h
    obtain ⟨t, pr, u⟩ := h oe pn hz hf
    exact pr.run pins s σ H D I u
  intro pn xe tk po
  have G2 := goodS_tr G hmd (pn := pn) po
  obtain ⟨l1, l2⟩ := loc_of G2.1 hy
  refine ⟨_, pss_cons (ps_set (i := j) (by rw [G2.1.hN]; exact G2.1.nd) (by rw [G2.1.hN]; exact hNy) l1 pe_w (hs _) l2) pss_nil, ?_⟩
  refine callXG Cf h hgf hk hdf he hpl hmd G2.1 tk env tb w1 w2 (fun d e v H' rx t1 dv => ?_) fun y' C' H' e1 e2 rx t1 => ?_
  · exact cc.nx _ H' _ kvs ((Env.rx env rx (fun _ z => nomatch z) (.inr rfl) no).set j dv) (noOw_im no j fun _ z => nomatch z) rx t1 (fun _ z => nomatch z) (w3 d e)
  · obtain ⟨rfl, h5⟩ := w4 y' e1
    rw [hx] at e2
    cases e2
    refine ⟨true, by rw [G.1.hK]; exact hm, fun _ a _ => ⟨rfl, rfl, fun oe pn hz hf => ?_⟩, fun z => nomatch z⟩
    have env2 := Env.rx env rx (fun _ z => nomatch z) (.inr rfl) no
    have no2 : noOw (ρ.set i (.ex a)) = true := noOw_im no i fun _ z => nomatch z
    refine hsu a _ (goodS_sf G hz hf) _ H' (ρ.set i (.ex a)) (poR P) _ (env_ex env2 i a) (h5 a) ⟨fun _ _ _ _ _ z => z.elim, fun v σ'' H'' ρ'' d e1 e2 e3 => ?_, fun _ _ _ _ _ z => z.elim, fun _ _ _ _ _ z => z.elim⟩
    exact cc.rt v H'' d (rx.trans (rx_of (e1.same no2))) (t1.ext (e1.same no2)) e2 e3
end
end Pf

set_option Elab.async false
set_option linter.all false
set_option maxRecDepth 100000
set_option maxHeartbeats 2000000
/-! Pg7: sets of pairs (length, key). -/
namespace Pf
open PySem PySem.Spec L2
/-- the pair of a key's length and the key, as a key -/
def nkey (ks : List Int) : NestedKey := .tup [.num ks.length, .tup (ks.map .num)]
theorem nkey_inj {a b : List Int} (h : nkey a = nkey b) : a = b := by
  unfold nkey at h
  injection h with h
  injection h with h1 h2
  injection h2 with h2 h3
  injection h2 with h2
  exact (List.map_inj_right fun x y e => by injection e).mp h2
def nh (w : World) (ks : List Int) : Int := (nkey ks).hash w
def IsP (h : Heap) (ks : List Int) (b : Addr) : Prop := NestedIs h (nkey ks) (.ref b)
theorem depth_nums : ∀ ks : List Int, NestedKey.depthAll (ks.map .num) = 0
  | [] => by simp only [List.map_nil, NestedKey.depthAll]
  | k :: ks => by simp only [List.map_cons, NestedKey.depthAll, NestedKey.depth, depth_nums ks, Nat.max_self]
theorem depth_nkey (ks : List Int) : (nkey ks).depth = 2 := by
  simp only [nkey, NestedKey.depth, NestedKey.depthAll, depth_nums]
  rfl
theorem IsP.same {h : Heap} {a b : List Int} {x : Addr} (p : IsP h a x) (q : IsP h b x) : a = b := nkey_inj (NestedIs.inj _ _ _ p q)
theorem IsP.at' {h g : Heap} {k : List Int} {b : Addr} (p : IsP h k b) (e : ∀ a o vs n, h.get? a = some o → o.data = .seq vs n → g.get? a = some o) : IsP g k b := NestedIs.at e _ _ p
theorem IsP.obj {h : Heap} {k : List Int} {b : Addr} (p : IsP h k b) : ∃ (o : Obj) (vs : Array Value) (n : Nat), h.get? b = some o ∧ o.cls = .type "tuple" ∧ o.data = .seq vs n ∧ NestedAll h [.num k.length, .tup (k.map .num)] vs.toList := by
  cases p with
  | tup a b c d => exact ⟨_, _, _, a, b, c, d⟩
section
variable {P : Program} {w : World} {A : Around} {E : Value → Shared → Prop} {s : Shared} {k : List Int} {b : Addr}
theorem ip_hash {Q : Int → Shared → Prop} (hu : A.units + 2 < cLine) (p : IsP s.heap k b) (h : Q (nh w k) { s with toks := s.toks + (nkey k).draws }) : wpAny (model P w) A (pyHash (.ref b)) Q E s :=
  pyHash_key _ _ _ _ _ p (by rw [depth_nkey]; exact hu) h
theorem ip_eq {k2 : List Int} {b2 : Addr} {Q : Bool → Shared → Prop} (hu : A.units + 2 < cLine) (p : IsP s.heap k b) (p2 : IsP s.heap k2 b2) (ne : k ≠ k2) (h : Q false s) : wpAny (model P w) A (eqBool (.ref b) (.ref b2)) Q E s := by
  have e : NestedKey.beq (nkey k) (nkey k2) = false := by
    rw [← NestedKey.decide_eq]
    exact decide_eq_false fun z => ne (nkey_inj z)
  have q := eqAt_key (nkey k) (nkey k2) A s _ _ p p2 (by rw [depth_nkey, depth_nkey]; exact hu)
  rw [e] at q
  exact q P w E Q h
theorem ip_quiet {Q : Bool → Shared → Prop} (p : IsP s.heap k b) (h : Q true s) : wpAny (model P w) A (eqIsQuiet 8 (.ref b)) Q E s :=
  quiet_key (nkey k) _ 8 s p (by rw [depth_nkey]; decide) A E Q h
/-- no class statement made it; its hash goes by value -/
structure Tame (P : Program) (w : World) (n : Nat) (s : Shared) (v : Value) : Prop where
  cl : ∀ (A : Around) (E : Value → Shared → Prop) (Q : Bool → Shared → Prop), Q false s → wpAny (model P w) A (ofAClassStatement n v) Q E s
  hv : ∀ (A : Around) (E : Value → Shared → Prop) (Q : Bool → Shared → Prop), Q true s → wpAny (model P w) A (hashByValue n v) Q E s
theorem Tame.num (n : Nat) (i : Int) (t : Tok) : Tame P w n s (.int i t) := ⟨fun A E Q h => by rw [ofAClass_int]; exact wpAny_pure h, fun A E Q h => by rw [hashBy_int]; exact wpAny_pure h⟩
theorem Tame.bool (n : Nat) (x : Bool) : Tame P w n s (.bool x) := ⟨fun A E Q h => by
  have e : ofAClassStatement n (.bool x) = pure false := by cases n <;> rfl
  rw [e]; exact wpAny_pure h, fun A E Q h => by
  have e : hashByValue n (.bool x) = pure true := by cases n <;> rfl
  rw [e]; exact wpAny_pure h⟩
theorem Tame.tup {n : Nat} {o : Obj} {vs : Array Value} {m : Nat} (ho : s.heap.get? b = some o) (hc : o.cls = .type "tuple") (hd : o.data = .seq vs m) (all : ∀ v ∈ vs.toList, Tame P w n s v) : Tame P w (n + 1) s (.ref b) := by
  have ty : s.TypeIs (.ref b) "tuple" := ⟨o, ho, hc⟩
  constructor
  · intro A E Q h
    unfold ofAClassStatement
    refine wpAny_bind (wpAny_typeOf ty ?_)
    have isT : (("tuple" : String) == "tuple") = true := rfl
    simp only [isT, if_true, if_false, Bool.not_true, Bool.false_eq_true]
    apply wpAny_bind (wpAny_pure ?_)
    simp only [if_false, Bool.not_true, Bool.false_eq_true]
    show wpAny (model P w) A (seqItems? (.ref b) >>= _) Q E s
    refine wpAny_bind (wpAny_seqItems ho hd (wpAny_bind ?_))
    show wpAny (model P w) A (forIn vs _ _) _ E s
    rw [← Array.forIn_toList]
    refine wpAny_forIn_list _ (fun left r s' => r.1 = none ∧ s' = s ∧ ∀ v ∈ left, v ∈ vs.toList) _ ?_ ?_ _ _ ⟨rfl, rfl, fun v hv => hv⟩
    · rintro v left r s' ⟨hr, rfl, hl⟩
      refine wpAny_bind ((all v (hl v List.mem_cons_self)).cl A E _ ?_)
      simp only [if_false, Bool.false_eq_true]
      exact wpAny_pure ⟨rfl, rfl, fun u hu => hl u (List.mem_cons_of_mem _ hu)⟩
    · rintro ⟨got, u⟩ s2 ⟨hg, rfl, _⟩
      cases (show got = none from hg)
      exact wpAny_pure h
  · intro A E Q h
    unfold hashByValue
    refine wpAny_bind (wpAny_specialOf ty F.slot_tuple_hash.lookup ?_)
    show wpAny (model P w) A (seqItems? (.ref b) >>= _) Q E s
    refine wpAny_bind (wpAny_seqItems ho hd (wpAny_bind ?_))
    show wpAny (model P w) A (forIn vs _ _) _ E s
    rw [← Array.forIn_toList]
    refine wpAny_forIn_list _ (fun left r s' => r.1 = none ∧ s' = s ∧ ∀ v ∈ left, v ∈ vs.toList) _ ?_ ?_ _ _ ⟨rfl, rfl, fun v hv => hv⟩
    · rintro v left r s' ⟨hr, rfl, hl⟩
      refine wpAny_bind ((all v (hl v List.mem_cons_self)).hv A E _ ?_)
      simp only [if_false, Bool.not_true, Bool.false_eq_true]
      exact wpAny_pure ⟨rfl, rfl, fun u hu => hl u (List.mem_cons_of_mem _ hu)⟩
    · rintro ⟨got, u⟩ s2 ⟨hg, rfl, _⟩
      cases (show got = none from hg)
      exact wpAny_pure h
theorem Tame.nums {n : Nat} : ∀ {ks : List Int} {vs : List Value}, NestedAll s.heap (ks.map .num) vs → ∀ v ∈ vs, Tame P w n s v
  | [], _, r, v, hv => by cases r; cases hv
  | i :: ks, _, r, v, hv => by
    cases r with
    | cons r1 r2 =>
      rcases List.mem_cons.mp hv with e | more
      · subst e
        cases r1 with
        | bool e => exact .bool _ _
        | int i t => exact .num _ _ _
      · exact Tame.nums r2 v more
theorem ip_tame (p : IsP s.heap k b) : Tame P w 8 s (.ref b) := by
  obtain ⟨o, vs, n, h1, h2, h3, h4⟩ := p.obj
  generalize hl : vs.toList = l at h4
  refine Tame.tup (n := 7) h1 h2 h3 ?_
  rw [hl]
  cases h4 with
  | cons q1 q2 =>
  cases q2 with
  | cons q2 q3 =>
  cases q3
  intro v hv
  rcases List.mem_cons.mp hv with e | more
  · subst e
    cases q1 with
    | bool e => exact .bool _ _
    | int i t => exact .num _ _ _
  · rcases List.mem_cons.mp more with e | more
    · subst e
      cases q2 with
      | tup g1 g2 g3 g4 => exact Tame.tup (n := 6) g1 g2 g3 (Tame.nums g4)
    · cases more
theorem ip_seen {Q : Bool → Shared → Prop} (p : IsP s.heap k b) {ys : List Value} (hy : ∀ y ∈ ys, ∃ k2 c, y = Value.ref c ∧ IsP s.heap k2 c) (h : Q false s) : wpAny (model P w) A (searchCouldBeSeen (.ref b) ys) Q E s := by
  unfold searchCouldBeSeen
  refine wpAny_bind ?_
  refine wpAny_forIn_list _ (fun left r s' => r.1 = none ∧ s' = s ∧ ∀ v ∈ left, v ∈ ys) _ ?_ ?_ _ _ ⟨rfl, rfl, fun v hv => hv⟩
  · rintro v left r s' ⟨hr, rfl, hl⟩
    obtain ⟨k2, c, rfl, pc⟩ := hy v (hl v List.mem_cons_self)
    have more : ∀ u ∈ left, u ∈ ys := fun u hu => hl u (List.mem_cons_of_mem _ hu)
    dsimp only
    by_cases one : (b == c || (carriedByValue (.ref b) && carriedByValue (.ref c))) = true
    · exact wp_if_pos one (wpAny_pure ⟨rfl, rfl, more⟩)
    · refine wp_if_neg one (wpAny_bind (ip_quiet p ?_))
      simp only [if_false, Bool.not_true, Bool.false_eq_true]
      refine wpAny_bind (ip_quiet pc ?_)
      simp only [if_false, Bool.not_true, Bool.false_eq_true]
      refine wpAny_bind ((ip_tame p).cl A E _ ?_)
      simp only [if_false, Bool.false_eq_true]
      refine wpAny_bind ((ip_tame pc).cl A E _ ?_)
      simp only [if_false, Bool.false_eq_true]
      exact wpAny_pure ⟨rfl, rfl, more⟩
  · rintro ⟨got, u⟩ s2 ⟨hg, rfl, _⟩
    cases (show got = none from hg)
    exact wpAny_pure h
end
end Pf

set_option Elab.async false
set_option linter.all false
set_option maxRecDepth 100000
set_option maxHeartbeats 2000000
/-! Pg8: a set that grows by pairs that are not in it. -/
namespace Pf
open PySem PySem.Spec L2
abbrev LP := List (Addr × List Int)
def nrows (w : World) (L : LP) : List (Int × Value) := L.map fun p => (nh w p.2, Value.ref p.1)
theorem nrows_len (w : World) (L : LP) : (nrows w L).length = L.length := List.length_map ..
structure Nst (w : World) (h : Heap) (a : Addr) (L : LP) (es : Array (Int × Value)) (ep : Nat) (t : SetTable) : Prop where
  it : ∃ ob : Obj, h.get? a = some ob ∧ ob.ExactSet ∧ ob.data = .set es ep t
  ro : es.toList = nrows w L
  tb : TabOk t (L.map fun p => nh w p.2)
  nd : (L.map (·.2)).Nodup
  ke : ∀ p ∈ L, IsP h p.2 p.1
  pl : t.plain = true
  le : w.params.followText "set-order" = true ∨ t.led = true
  rm : L.length * 5 < t.mask * 3
  fw : L.length < 64
theorem IsP.beside {h g : Heap} {k : List Int} {a b : Addr} {o : Obj} {es : Array (Int × Value)} {ep : Nat} {t : SetTable} (p : IsP h k b) (ho : h.get? a = some o) (hd : o.data = .set es ep t) (e : Heap.SameBut a h g) : IsP g k b :=
  p.at' fun c u vs n hc hs => (e.2 c fun z => by
    subst z
    cases ho.symm.trans hc
    rw [hd] at hs
    cases hs).trans hc
section
variable {P : Program} {w : World} {A : Around} {E : Value → Shared → Prop} {s : Shared} {a : Addr} {L : LP} {es : Array (Int × Value)} {ep : Nat} {t : SetTable}
theorem rows_size (e : es.toList = nrows w L) : es.size = L.length := by
  rw [← Array.length_toList, e, nrows_len]
theorem rows_at (e : es.toList = nrows w L) {i : Nat} {p : Addr × List Int} (hp : L[i]? = some p) : es[i]? = some (nh w p.2, Value.ref p.1) := by
  rw [← Array.getElem?_toList, e]
  unfold nrows
  rw [List.getElem?_map, hp, Option.map_some]
theorem tab_fits {hs : List Int} (T : TabOk t hs) (n : es.size = hs.length) (m : hs.length ≤ t.mask) : t.fits es.size = true := by
  have z := T.sz
  unfold SetTable.fits; unfold SetTable.fill
  rw [T.dm, Bool.and_eq_true, beq_iff_eq, decide_eq_true_eq]
  refine ⟨by omega, ?_⟩
  show t.place.size + 0 ≤ t.mask
  omega
theorem Nst.fit (R : Nst w s.heap a L es ep t) : t.fits es.size = true := tab_fits R.tb (by rw [rows_size R.ro, List.length_map]) (by rw [List.length_map]; have := R.rm; omega)
theorem Nst.odd (R : Nst w s.heap a L es ep t) : ¬ t.gaveWay = true := by
  unfold SetTable.gaveWay
  rw [mask_odd R.tb.mok]
  decide
theorem nth_plain (m : Nat) : ∀ (n : Nat) (p : SetTable.Probe), p.dummy = none → (nth m p n).dummy = none
  | 0, _, h => h
  | n + 1, p, h => nth_plain m n (adv m p) (by unfold adv; split <;> exact h)
/-- the search for what is not there ends at the first free place of its way -/
theorem n_search (R : Nst w s.heap a L es ep t) {x : Addr} {k : List Int} (hx : IsP s.heap k x) (hu : A.units + 2 < cLine) (fresh : k ∉ L.map (·.2)) {K : Nat} (k1 : K < 10 * SetTable.turns t.mask)
    (k2 : way t.mask (nh w k) K ∉ t.place.toList) (k3 : ∀ c, c < K → way t.mask (nh w k) c ∈ t.place.toList) {Q : SetFound → Shared → Prop} (q : Q (.free (way t.mask (nh w k) K) false) s) :
    ∀ (f c : Nat) (stand : Option SetTable.Probe), stand.getD (t.probeStart (nh w k)) = nth t.mask (runAt t.mask (SetTable.bits (nh w k) % (t.mask + 1)) (SetTable.bits (nh w k))) c → c ≤ K → K - c < f →
      wpAny (model P w) A (setSearchFrom a (.ref x) (nh w k) true f stand) Q E s := by
  intro f
  induction f with
  | zero => intro c stand _ _ hf; omega
  | succ f ih =>
    intro c stand hst hc hf
    obtain ⟨ob, ho, hex, hd⟩ := R.it
    rw [setSearchFrom_succ]
    refine wpAny_bind (wpAny_setState_of ho hd R.fit ?_)
    dsimp only
    refine wp_if_neg R.odd ?_
    try (refine wpAny_bind (wpAny_pure ?_))
    generalize hw0 : runAt t.mask (SetTable.bits (nh w k) % (t.mask + 1)) (SetTable.bits (nh w k)) = r0 at hst
    have wy : ∀ n, way t.mask (nh w k) n = (nth t.mask r0 n).j := fun n => by rw [← hw0]
    have dn : (nth t.mask r0 c).dummy = none := nth_plain _ _ _ (by rw [← hw0]; rfl)
    have ad : ∀ n, nth t.mask (nth t.mask r0 c) n = nth t.mask r0 (c + n) := fun n => (nth_add t.mask c r0 n).symm
    have back : c + (K - c) = K := by omega
    have sp := go_spec t R.tb.ris R.tb.dm (fun i => (es[i]?.map (·.1)).getD 0) (nh w k) (10 * SetTable.turns t.mask) (K - c) (nth t.mask r0 c) dn (by omega)
      (fun n hn => by rw [ad, ← wy]; exact k3 _ (by omega)) (by rw [ad, ← wy, back]; exact k2)
    rcases sp with ⟨n, i, hn, hi, _, _, pr⟩ | ⟨_, pr⟩
    · rw [ad] at hi
      have pr2 : t.probe (fun i => (es[i]?.map (·.1)).getD 0) (nh w k) (stand.getD (t.probeStart (nh w k))) = some (.candidate (nth t.mask r0 (c + n)).j i (nth t.mask r0 (c + (n + 1)))) := by
        rw [hst, ← ad, ← ad]
        exact pr
      rw [pr2]
      dsimp only
      have il : i < L.length := by
        have z1 := (List.getElem?_eq_some_iff.mp hi).1
        have z2 := R.tb.sz
        rw [List.length_map] at z2
        rw [Array.length_toList] at z1
        omega
      have hp : L[i]? = some L[i] := List.getElem?_eq_getElem il
      generalize L[i] = p at hp
      have pm : p ∈ L := List.mem_of_getElem? hp
      have ne : p.2 ≠ k := fun z => fresh (List.mem_map.mpr ⟨p, pm, z⟩)
      have live := slot_live R.tb.ris hi
      have go : wpAny (model P w) A (searchRest a (.ref x) (nh w k) true f es t (nth t.mask r0 (c + n)).j i (nth t.mask r0 (c + (n + 1)))) Q E s := by
        unfold searchRest
        rw [rows_at R.ro hp]
        dsimp only
        refine wpAny_bind (wpAny_holding (ip_eq hu (R.ke p pm) hx ne ?_))
        refine wpAny_bind (wpAny_setState_of ho hd R.fit ?_)
        dsimp only
        refine wp_if_neg (by decide) ?_
        try (refine wpAny_bind (wpAny_pure ?_))
        rw [sameMem]
        dsimp only
        simp only [if_true, live, rows_at R.ro hp]
        refine wpAny_bind (wpAny_isSame_ref_self ?_)
        refine wpAny_bind (wpAny_pure ?_)
        simp only [if_true]
        refine wp_if_neg (by decide) ?_
        exact ih (c + (n + 1)) _ (by rw [hw0]; rfl) (by omega) (by omega)
      by_cases led : t.led = true
      · refine wp_if_neg (by simp [led]) ?_
        try (refine wpAny_bind (wpAny_pure ?_))
        exact go
      · refine wp_if_pos (by simp [led]) ?_
        refine wpAny_bind (ip_seen hx (fun y hy => ?_) ?_)
        · obtain ⟨row, he, ee⟩ := List.mem_map.mp hy
          have he : row ∈ es.toList := by simp at he; simpa using he.1
          rw [R.ro] at he
          obtain ⟨p2, m2, e2⟩ := List.mem_map.mp he
          exact ⟨p2.2, p2.1, by rw [← ee, ← e2], R.ke p2 m2⟩
        · refine wp_if_neg (Bool.false_ne_true) ?_
          try (refine wpAny_bind (wpAny_pure ?_))
          exact go
    · have pr2 : t.probe (fun i => (es[i]?.map (·.1)).getD 0) (nh w k) (stand.getD (t.probeStart (nh w k))) = some (.empty (way t.mask (nh w k) K) none) := by
        rw [hst, wy, show nth t.mask r0 K = nth t.mask (nth t.mask r0 c) (K - c) by rw [ad, back]]
        exact pr
      rw [pr2]
      exact wpAny_pure q
theorem n_find (R : Nst w s.heap a L es ep t) {x : Addr} {k : List Int} (hx : IsP s.heap k x) (hu : A.units + 2 < cLine) (fresh : k ∉ L.map (·.2)) {Q : SetFound → Shared → Prop}
    (q : ∀ K, way t.mask (nh w k) K ∉ t.place.toList → (∀ c, c < K → way t.mask (nh w k) c ∈ t.place.toList) → Q (.free (way t.mask (nh w k) K) false) s) : wpAny (model P w) A (setSearch a (.ref x) (nh w k) true) Q E s := by
  have rm := R.rm
  obtain ⟨K, k1, k2, k3⟩ := R.tb.first (by rw [List.length_map]; omega) (nh w k)
  have big : 10 * SetTable.turns t.mask ≤ 1420 := by
    unfold SetTable.turns
    rcases R.tb.mok with e | e | e <;> omega
  unfold setSearch
  exact n_search R hx hu fresh k1 k2 k3 (q K k2 k3) 100000 0 none rfl (Nat.zero_le _) (by omega)
theorem ins_perm {α : Type} (l : List α) (i : Nat) (x : α) : (l.take i ++ x :: l.drop i).Perm (x :: l) := by
  have := List.perm_middle (l₁ := l.take i) (l₂ := l.drop i) (a := x)
  rwa [List.take_append_drop] at this
theorem nrows_ins (i : Nat) (p : Addr × List Int) : (nrows w L).take i ++ (nh w p.2, Value.ref p.1) :: (nrows w L).drop i = nrows w (L.take i ++ p :: L.drop i) := by
  simp only [nrows, List.map_append, List.map_cons, List.map_take, List.map_drop]
/-- rows taken in another order -/
theorem reorder (e : es.toList = nrows w L) {order : Array Nat} (hp : order.toList.Perm (List.range L.length)) :
    ∃ L2 : LP, (order.filterMap (es[·]?)).toList = nrows w L2 ∧ L2.Perm L ∧ (L2.map fun p => nh w p.2) = order.toList.map fun i => (es.map (·.1)).getD i 0 := by
  refine ⟨order.toList.filterMap fun i => L[i]?, ?_, ?_, ?_⟩
  · rw [Array.toList_filterMap]
    have step : ∀ l : List Nat, l.filterMap (fun i => es[i]?) = nrows w (l.filterMap fun i => L[i]?) := by
      intro l
      induction l with
      | nil => rfl
      | cons i l ih =>
        cases hL : L[i]? with
        | none =>
          have hn : es[i]? = none := by
            rw [← Array.getElem?_toList, e]
            unfold nrows
            rw [List.getElem?_map, hL, Option.map_none]
          rw [List.filterMap_cons_none hn, List.filterMap_cons_none hL, ih]
        | some p =>
          rw [List.filterMap_cons_some (rows_at e hL), List.filterMap_cons_some hL, ih]
          unfold nrows
          rw [List.map_cons]
    exact step _
  · have h1 := hp.filterMap fun i => L[i]?
    have h2 : ∀ l : LP, (List.range l.length).filterMap (fun i => l[i]?) = l := by
      intro l
      induction l with
      | nil => rfl
      | cons p l ih =>
        rw [List.length_cons, List.range_succ_eq_map, List.filterMap_cons_some (show (p :: l)[0]? = some p from rfl), List.filterMap_map]
        exact congrArg (p :: ·) ih
    rw [h2] at h1
    exact h1
  · have all : ∀ i ∈ order.toList, i < L.length := fun i hi => List.mem_range.mp (hp.mem_iff.mp hi)
    generalize order.toList = l at all
    induction l with
    | nil => rfl
    | cons i l ih =>
      have hi := all i List.mem_cons_self
      have hL : L[i]? = some (L[i]'hi) := List.getElem?_eq_getElem hi
      rw [List.filterMap_cons_some hL, List.map_cons, List.map_cons, ih fun j hj => all j (List.mem_cons_of_mem _ hj)]
      congr 1
      have : (es.map (·.1))[i]? = some (nh w (L[i]'hi).2) := by rw [Array.getElem?_map, rows_at e hL, Option.map_some]
      rw [Array.getD_eq_getD_getElem?, this, Option.getD_some]
/-- the table laid anew -/
theorem n_relay {o : Obj} (ho : s.heap.get? a = some o) (hex : o.ExactSet) (hd : o.data = .set es ep t) (ro : es.toList = nrows w L) (fit : t.fits es.size = true) (nd : (L.map (·.2)).Nodup) (ke : ∀ p ∈ L, IsP s.heap p.2 p.1) (pl : t.plain = true)
    (le : w.params.followText "set-order" = true ∨ t.led = true) (fw : L.length < 64) {wanted M : Nat} (m1 : SetTable.sizeAbove wanted = M + 1) (m2 : MaskOk M) (m3 : L.length * 5 < M * 3) {Q : Unit → Shared → Prop}
    (q : ∀ h' L' es' ep' t', Heap.SameBut a s.heap h' → Nst w h' a L' es' ep' t' → L'.Perm L → Q () { s with heap := h' }) : wpAny (model P w) A (setRelay a wanted) Q E s := by
  have n1 : es.size = L.length := rows_size ro
  have line : (1000 : Nat) ≤ sizeLine := by decide
  have mb : M ≤ 127 := by rcases m2 with e | e | e <;> omega
  obtain ⟨t2, order, e1, e2, T, e3, e4, e5, _⟩ := relaid_ok t (hs := es.map (·.1)) (wanted := wanted) (M := M) (by omega) m2 (by rw [Array.size_map, n1]; omega)
  rw [Array.size_map, n1] at e2
  obtain ⟨L2, r1, r2, r3⟩ := reorder ro e2
  rw [← r3] at T
  have n2 : (order.filterMap (es[·]?)).size = es.size := by rw [rows_size r1, r2.length_eq, n1]
  rw [setRelay_eq]
  refine wpAny_bind (wpAny_setState_of ho hd fit ?_)
  dsimp only
  refine wp_if_neg (by rw [m1]; omega) ?_
  try (refine wpAny_bind (wpAny_pure ?_))
  rw [e1]
  dsimp only
  refine wpAny_bind (wp_if_neg (by rw [n2]; simp) ?_)
  try (refine wpAny_bind (wpAny_pure ?_))
  refine wpAny_pure ?_
  dsimp only
  refine wpAny_storeSet_of ho hd ?_ (by rw [n2, n1]; omega)
  have sb : Heap.SameBut a s.heap (s.heap.update a (Obj.putSet (order.filterMap (es[·]?)) t2)) := Heap.SameBut.update ..
  refine q _ L2 _ (ep + 1) t2 sb ⟨⟨_, store_at ho hd, ⟨hex.1, hex.2.1, hex.2.2⟩, rfl⟩, r1, T, (r2.map (·.2)).nodup_iff.mpr nd, fun p hp => (ke p (r2.mem_iff.mp hp)).beside ho hd sb, by rw [e5]; exact pl, by rw [e4]; exact le, by rw [r2.length_eq, e3]; exact m3, by rw [r2.length_eq]; exact fw⟩ r2
/-- what is not there is added -/
theorem n_add (R : Nst w s.heap a L es ep t) {x : Addr} {k : List Int} (hx : IsP s.heap k x) (hu : A.units + 2 < cLine) (fresh : k ∉ L.map (·.2)) (room : L.length + 1 < 64) {Q : Bool → Shared → Prop}
    (q : ∀ h' L' es' ep' t', Heap.SameBut a s.heap h' → Nst w h' a L' es' ep' t' → L'.Perm ((x, k) :: L) → Q true { s with heap := h' }) : wpAny (model P w) A (setAddHashed a (.ref x) (nh w k)) Q E s := by
  obtain ⟨ob, ho, hex, hd⟩ := R.it
  have n1 : es.size = L.length := rows_size R.ro
  have rm := R.rm
  have line : (1000 : Nat) ≤ sizeLine := by decide
  unfold setAddHashed
  refine wpAny_holding ?_
  rw [show 100000 = Nat.succ 99999 from rfl, setAddHashedIn_succ]
  refine wpAny_bind (wpAny_setState_of ho hd R.fit ?_)
  dsimp only
  refine wp_if_neg (by simp [Value.scannable, byScan]) ?_
  try (refine wpAny_bind (wpAny_pure ?_))
  refine wpAny_bind (n_find R hx hu fresh fun K k2 k3 => ?_)
  dsimp only
  refine wpAny_bind (wpAny_setState_of ho hd R.fit ?_)
  dsimp only
  obtain ⟨p1, p2, T, p4, p5, p6, _, _, p9⟩ := R.tb.put k2 k3
  have pl1 : (t.put (way t.mask (nh w k) K)).1.plain = true := by rw [p6]; exact R.pl
  generalize t.put (way t.mask (nh w k) K) = pt at p1 T p4 p5 p6 p9 pl1 ⊢
  obtain ⟨t1, i⟩ := pt
  dsimp only at p1 T p4 p5 p6 p9 pl1 ⊢
  rw [← p1] at p2 T
  clear p1
  first
    | (refine wpAny_bind ?_; refine wp_if_pos pl1 ?_; refine (ip_tame hx).hv _ _ _ ?_)
    | refine wp_if_pos pl1 (wpAny_bind ((ip_tame hx).hv _ _ _ ?_))
  simp only [if_true]
  have ro1 : (SetTable.insertAt es i (nh w k, Value.ref x)).toList = nrows w (L.take i ++ (x, k) :: L.drop i) := by
    rw [SetTable.toList_insertAt, R.ro]
    exact nrows_ins i (x, k)
  have pm := ins_perm L i (x, k)
  have T1 : TabOk t1 ((L.take i ++ (x, k) :: L.drop i).map fun p => nh w p.2) := by
    rw [List.map_append, List.map_cons, List.map_take, List.map_drop]
    exact T
  generalize SetTable.insertAt es i (nh w k, Value.ref x) = es1 at ro1 ⊢
  generalize L.take i ++ (x, k) :: L.drop i = L1 at pm T1 ro1
  have len1 : L1.length = L.length + 1 := pm.length_eq
  have n2 : es1.size = L.length + 1 := by rw [rows_size ro1, len1]
  have nd1 : (L1.map (·.2)).Nodup := (pm.map (·.2)).nodup_iff.mpr (List.nodup_cons.mpr ⟨fresh, R.nd⟩)
  refine wpAny_bind (wpAny_storeSet_of ho hd ?_ (by rw [n2]; omega))
  have but : Heap.SameBut a s.heap (s.heap.update a (Obj.putSet es1 t1)) := .update ..
  have now := store_at (es' := es1) (t' := t1) ho hd
  generalize s.heap.update a (Obj.putSet es1 t1) = h1 at but now ⊢
  have ke1 : ∀ p ∈ L1, IsP h1 p.2 p.1 := fun p hp => by
    rcases List.mem_cons.mp (pm.mem_iff.mp hp) with e | old
    · rw [e]; exact hx.beside ho hd but
    · exact (R.ke p old).beside ho hd but
  have le1 : w.params.followText "set-order" = true ∨ t1.led = true := by rw [p5]; exact R.le
  have full : t1.tooFull = decide ((L.length + 1) * 5 ≥ t1.mask * 3) := by
    unfold SetTable.tooFull
    rw [p9, List.length_map]
  by_cases much : t1.tooFull = true
  · first
      | (refine wpAny_bind ?_; refine wp_if_pos (by simp [much]) ?_)
      | (refine wp_if_pos (by simp [much]) ?_; refine wpAny_bind ?_)
    rw [full, decide_eq_true_eq, p4] at much
    have fit1 : t1.fits es1.size = true := tab_fits T1 (by rw [n2, List.length_map, len1]) (by rw [List.length_map, len1, p4]; rcases R.tb.mok with e | e | e <;> omega)
    rw [n1]
    have lay : ∀ M, SetTable.sizeAbove (SetTable.grown (L.length + 1)) = M + 1 → MaskOk M → L1.length * 5 < M * 3 → wpAny (model P w) A (setRelay a (SetTable.grown (L.length + 1))) (fun _ s' => wpAny (model P w) A (pure true) Q E s') E { s with heap := h1 } := fun M z1 z2 z3 =>
      n_relay (s := { s with heap := h1 }) now ⟨hex.1, hex.2.1, hex.2.2⟩ rfl ro1 fit1 nd1 ke1 pl1 le1 (by omega) z1 z2 z3 fun h2 L2 es2 ep2 t2 sb2 R2 pm2 => wpAny_pure (q h2 L2 es2 ep2 t2 (but.trans sb2) R2 (pm2.trans pm))
    rcases R.tb.mok with e | e | e
    · have : L.length = 4 := by omega
      exact lay 31 (by rw [this]; exact size_20) (.inr (.inl rfl)) (by omega)
    · have : L.length = 18 := by omega
      exact lay 127 (by rw [this]; exact size_76) (.inr (.inr rfl)) (by omega)
    · omega
  · first
      | refine wp_if_neg (by simp [much]) ?_
      | (refine wpAny_bind ?_; refine wp_if_neg (by simp [much]) ?_; refine wpAny_pure ?_)
    rw [full, decide_eq_true_eq] at much
    exact wpAny_pure (q h1 L1 es1 (ep + 1) t1 but ⟨⟨_, now, ⟨hex.1, hex.2.1, hex.2.2⟩, rfl⟩, ro1, T1, nd1, ke1, pl1, le1, by omega, by omega⟩ pm)
end
end Pf

set_option Elab.async false
set_option linter.all false
set_option maxRecDepth 100000
set_option maxHeartbeats 3200000
/-! Pg9: set(list of pairs), sorted(set). -/
namespace Pf
open PySem PySem.Spec PyProof.Rows L2
section
variable {P : Program} {w : World} {A : Around} {E : Value → Shared → Prop} {s : Shared}
theorem IsP.more {h g : Heap} {k : List Int} {b : Addr} (p : IsP h k b) (e : ∀ c o, h.get? c = some o → g.get? c = some o) : IsP g k b := p.at' fun c o _ _ x _ => e c o x
theorem Nst.more {h g : Heap} {a : Addr} {L : LP} {es : Array (Int × Value)} {ep : Nat} {t : SetTable} (R : Nst w h a L es ep t) (e : ∀ o, h.get? a = some o → g.get? a = some o) (ke : ∀ p ∈ L, IsP g p.2 p.1) : Nst w g a L es ep t := by
  obtain ⟨o, ho, r⟩ := R.it
  exact ⟨⟨o, e o ho, r⟩, R.ro, R.tb, R.nd, ke, R.pl, R.le, R.rm, R.fw⟩
def newSet (w : World) : Obj := { cls := .type "set", dict := none, data := .set #[] 0 (.fresh 0 0 (!w.params.followText "set-order")) }
theorem nst_new {h : Heap} {a : Addr} (ho : h.get? a = some (newSet w)) : Nst w h a [] #[] 0 (.fresh 0 0 (!w.params.followText "set-order")) where
  it := ⟨newSet w, ho, ⟨rfl, rfl, rfl⟩, rfl⟩
  ro := rfl
  tb := ⟨List.Pairwise.nil, rfl, rfl, .inl rfl, (fun x hx => by cases hx), fun i h j hi => by simp at hi⟩
  nd := List.nodup_nil
  ke := fun p hp => by cases hp
  pl := rfl
  le := by
    show w.params.followText "set-order" = true ∨ (!w.params.followText "set-order") = true
    rcases w.params.followText "set-order"
    · exact .inr rfl
    · exact .inl rfl
  rm := by
    show 0 * 5 < 7 * 3
    decide
  fw := by
    show 0 < 64
    decide
/-- what the first i items have made of the set -/
def Half (w : World) (S : Addr) (ks : LP) (i : Nat) (h : Heap) : Prop := ∃ L es ep t, Nst w h S L es ep t ∧ L.Perm (ks.take i)
theorem n_update {I : Addr} {fp wr : List Addr} {G : Array GenState → Array GenState → Prop} {n : Nat} {Pv : Nat → Value → Prop} {St : Nat → Shared → Prop} {R : Result → Shared → Prop}
    (W : WalksS P w A.in1 I fp wr G n Pv St) (S : Addr) (sf : S ∉ fp) (ks : LP) (hn : n = ks.length) (few : ks.length < 64) (nd : (ks.map (·.2)).Nodup) (val : ∀ i v, Pv i v → ∃ p, ks[i]? = some p ∧ v = .ref p.1)
    (h0 : Heap) (k0 : ∀ p ∈ ks, IsP h0 p.2 p.1) (s0 : h0.get? S = none) (w0 : ∀ b ∈ wr, h0.get? b = none) (hu : A.in1.units + 2 < cLine) :
    ∀ (m i : Nat) (s : Shared), n - i = m → i ≤ n → St i s → (∀ b o, h0.get? b = some o → s.heap.get? b = some o) → Half w S ks i s.heap →
      (∀ s', Moved (S :: wr) G s s' → Half w S ks n s'.heap → (∀ b o, h0.get? b = some o → s'.heap.get? b = some o) → R (.ok (.ret .none)) s') →
      codeAny (model P w) A (.builtin "set.update.loop" ⟨.ref S :: [.ref I], []⟩) R s := by
  have sw : S ∉ wr := fun h => sf (W.sub _ h)
  have on : ∀ {s s' : Shared}, Moved wr G s s' → (∀ b o, h0.get? b = some o → s.heap.get? b = some o) → ∀ b o, h0.get? b = some o → s'.heap.get? b = some o := fun mv kp b o e =>
    mv.heap b o (fun hb => by rw [w0 b hb] at e; cases e) (kp b o e)
  have wide : ∀ b ∈ wr, b ∈ S :: wr := fun _ hb => List.mem_cons_of_mem _ hb
  have inks : ∀ {i : Nat} {L : LP}, L.Perm (ks.take i) → ∀ p ∈ L, p ∈ ks := fun pm p hp => List.mem_of_mem_take (pm.mem_iff.mp hp)
  intro m
  induction m with
  | zero =>
    intro i s e1 e2 st kp hf done
    obtain rfl : i = n := by omega
    obtain ⟨L, es, ep, t, hS, pm⟩ := hf
    apply codeAny_builtin F.entry_set_update_loop
    rw [Around.under_plainId (F.plain_set_update_loop) _]
    show wpAny (model P w) A.in1 (pyNext (.ref I) >>= _) _ _ s
    refine wpAny_bind (W.done s _ _ st fun s' mv => ?_)
    show wpAny (model P w) A.in1 (ret Value.none) _ _ s'
    have kp' := on mv kp
    exact wpAny_pure (done s' (mv.mono wide) ⟨L, es, ep, t, hS.more (fun o e => mv.heap S o sw e) (fun p hp => (k0 p (inks pm p hp)).more kp'), pm⟩ kp')
  | succ m ih =>
    intro i s e1 e2 st kp hf done
    obtain ⟨L, es, ep, t, hS, pm⟩ := hf
    have lt : i < n := by omega
    apply codeAny_builtin F.entry_set_update_loop
    rw [Around.under_plainId (F.plain_set_update_loop) _]
    show wpAny (model P w) A.in1 (pyNext (.ref I) >>= _) _ _ s
    refine wpAny_bind (W.item i s _ _ lt st fun v s' hv st' mv => ?_)
    obtain ⟨p, hp, rfl⟩ := val i v hv
    have kp' := on mv kp
    have hS' : Nst w s'.heap S L es ep t := hS.more (fun o e => mv.heap S o sw e) fun q hq => (k0 q (inks pm q hq)).more kp'
    have hx : IsP s'.heap p.2 p.1 := (k0 p (List.mem_of_getElem? hp)).more kp'
    have cut : ks.take (i + 1) = ks.take i ++ [p] := by rw [List.take_succ, hp]; rfl
    have fresh : p.2 ∉ L.map (·.2) := fun z => by
      have z2 := (pm.map (·.2)).mem_iff.mp z
      have nd2 : ((ks.take (i + 1)).map (·.2)).Nodup := (List.Sublist.map _ (List.take_sublist _ _)).nodup nd
      rw [cut, List.map_append] at nd2
      exact (List.nodup_append.mp nd2).2.2 _ z2 _ (by simp) rfl
    have ll : L.length ≤ i := by rw [pm.length_eq]; exact List.length_take_le _ _
    show wpAny (model P w) A.in1 (holding [Value.ref p.1] (setAdd S (.ref p.1)) >>= _) _ _ s'
    apply wpAny_bind (wpAny_holding ?_)
    unfold setAdd
    refine wpAny_holding (wpAny_bind (ip_hash hu hx ?_))
    refine n_add (s := { s' with toks := s'.toks + (nkey p.2).draws }) hS' hx hu fresh (by omega) fun h' L' es' ep' t' sb hS2 pm2 => ?_
    have keep2 : ∀ b o, h0.get? b = some o → h'.get? b = some o := fun b o e => (sb.2 b (fun z => by rw [z, s0] at e; cases e)).trans (kp' b o e)
    have pm3 : L'.Perm (ks.take (i + 1)) := by
      rw [cut]
      exact (pm2.trans (pm.cons p)).trans (List.perm_append_singleton p _).symm
    refine wpAny_pure ⟨plainId_quiet F.plain_set_update_loop _, ih (i + 1) _ (by omega) lt (W.frame _ s' _ _ st' (Nat.le_add_right _ _) fun b hb o e => ?_) keep2 ⟨L', es', ep', t', hS2, pm3⟩ fun s2 mv2 hf2 kp2 => ?_⟩
    · exact (sb.2 b fun z => sf (by rw [← z]; exact hb)).trans e
    · exact done s2 (Moved.trans W.gtrans ((mv.mono wide).then_heap (Nat.le_add_right _ _) fun b o hb e => (sb.2 b fun z => hb (by rw [z]; exact List.mem_cons_self)).trans e) mv2) hf2 kp2
end
end Pf

set_option Elab.async false
set_option linter.all false
set_option maxRecDepth 100000
set_option maxHeartbeats 3200000
/-! Pg10: the call set(xs), the call sorted(set). -/
namespace Pf
open PySem PySem.Spec PyProof.Rows L2
section
variable {P : Program} {w : World} {A : Around} {E : Value → Shared → Prop} {s : Shared}
theorem n_set {l : Addr} {items : Array Value} (ks : LP) {Q : Value → Shared → Prop} (hh : A.handled = none) (hl : s.heap.IsList l items) (hit : items.toList = ks.map fun p => Value.ref p.1) (hk : ∀ p ∈ ks, IsP s.heap p.2 p.1) (few : ks.length < 64) (nd : (ks.map (·.2)).Nodup) (hu : A.units + 8 < cLine)
    (h : ∀ (h' : Heap) (tk : Nat), Half w s.heap.objs.size ks ks.length h' → (∀ b o, s.heap.get? b = some o → h'.get? b = some o) → Q (.ref s.heap.objs.size) { s with heap := h', toks := tk }) : wpAny (model P w) A (call (.type "set") [.ref l]) Q E s := by
  have isz : items.size = ks.length := by
    have z := congrArg List.length hit
    rwa [Array.length_toList, List.length_map] at z
  obtain ⟨c0, tl0, c1⟩ := F.called_set.mro
  have c2 := F.called_set.made
  have c3 := F.called_set.sub
  have c4 := F.called_set.notType
  have c5 := F.called_set.canCreate
  have c6 := F.typeCall_set_1 (.ref l)
  refine wpAny_call (codeAny_of_tree (show wpAny _ _ (callAny (.type "set") _) _ _ _ from ?_))
  refine wpAny_pure ⟨Code.quiet_builtin _ (by decide +kernel), codeAny_builtin F.entry_type_call (?opened)⟩
  case opened =>
  rw [Around.under_plain (weight_type_call_type _ [.ref l] []) rfl]
  repeat any_goals first | assumption | wp_step
  refine codeAny_mono (code_set_led1 (.ref l) (E := E) (Q₁ := fun v g => v = .ref s.heap.objs.size ∧ g = { s with heap := s.heap.push (newSet w) }) ⟨rfl, rfl⟩) fun r g hr => ?_
  cases r with
  | error e => exact hr
  | ok fl =>
    cases fl with
    | ret v =>
      obtain ⟨rfl, rfl⟩ := hr
      have atS : (s.heap.push (newSet w)).get? s.heap.objs.size = some (newSet w) := Heap.get?_push_size _ rfl
      have ty : Shared.TypeIs { s with heap := s.heap.push (newSet w) } (.ref s.heap.objs.size) "set" := ⟨_, atS, rfl⟩
      have i1 := F.called_set.init.lookup
      have i2 := F.called_set.init.bind (.ref s.heap.objs.size)
      repeat any_goals first | assumption | wp_step
      refine codeAny_mono (codeAny_call_builtin (R := wants (fun r g => r = .none ∧ ∃ h' tk, g = { s with heap := h', toks := tk } ∧ Half w s.heap.objs.size ks ks.length h' ∧ ∀ b o, s.heap.get? b = some o → h'.get? b = some o) E) F.called_set.init.plain F.entry_set_init (check_set_init_1 ty ?_)) fun r2 g2 hr2 => ?_
      · obtain ⟨ol, o1, o2, nl, o3⟩ := hl
        obtain ⟨lc, ld, la, lo⟩ := ol
        simp only at o2 o3
        subst o2
        subst o3
        have o4 : (s.heap.push (newSet w)).get? l = some { cls := .type "list", dict := ld, data := .seq items nl, slots := lo } := Heap.get?_push_of_some _ o1
        have f1 := F.sub_list_set
        have f2 := F.sub_list_frozenset
        have f3 : (Value.type "list" == Value.type "dict") = false := by decide
        have lst : (s.heap.push (newSet w)).IsList l items := ⟨_, o4, rfl, nl, rfl⟩
        have lS : l < s.heap.objs.size := Heap.lt_size o1
        have hh3 : A.in1.in1.in1.handled = none := hh
        have up : (s.heap.push (newSet w)).objs.size = s.heap.objs.size + 1 := Heap.size_push ..
        have nI : l ≠ (s.heap.push (newSet w)).objs.size := by rw [up]; exact Nat.ne_of_lt (Nat.lt_succ_of_lt lS)
        have off : s.heap.objs.size ∉ [(s.heap.push (newSet w)).objs.size, l] := by
          rw [up, List.mem_cons, List.mem_singleton]
          rintro (z | z)
          · exact Nat.ne_of_lt (Nat.lt_succ_self _) z
          · exact Nat.ne_of_gt lS z
        have val : ∀ (i : Nat) (v : Value), items[i]? = some v → ∃ p, ks[i]? = some p ∧ v = .ref p.1 := fun i v hv => by
          rw [← Array.getElem?_toList, hit, List.getElem?_map] at hv
          obtain ⟨p, e1, e2⟩ := Option.map_eq_some_iff.mp hv
          exact ⟨p, e1, e2.symm⟩
        have gone : ∀ b, s.heap.objs.size ≤ b → s.heap.get? b = none := fun b hb => Heap.get?_none_of_le hb
        unfold Builtin.«set.__init__»; unfold noKeywords Builtin.Frozenset.updateFrom
        generalize hPI : pyIter = PI
        unfold newSet at *
        wp_walk
        subst hPI
        refine wpAny_pyIter_list lst (wpAny_bind (wpAny_runValue ?_))
        refine n_update ((Walks.list hh3 _ l nI items).toS) s.heap.objs.size off ks isz few nd val s.heap hk (gone _ (Nat.le_refl _)) (fun b hb => gone b (by rw [List.mem_singleton.mp hb, up]; exact Nat.le_succ _)) (by simp only [Around.in1_units] at *; omega) (items.size - 0) 0 _ (by omega) (Nat.zero_le _)
          ⟨⟨_, Heap.get?_push_size _ rfl, rfl, rfl⟩, lst.push _⟩ (fun b o e => Heap.get?_push_of_some _ (Heap.get?_push_of_some _ e)) ⟨[], #[], 0, _, nst_new (Heap.get?_push_of_some _ atS), by simp⟩ fun g mv hf kp => ?_
        obtain ⟨h', gg, dd, tk, oo⟩ := g
        cases (show gg = s.gens from mv.gens)
        cases (show dd = s.drawn from mv.drawn)
        cases (show oo = s.os from mv.os)
        rw [isz] at hf
        show wpAny _ _ _ _ _ _
        refine wpAny_pure ?_
        show wpAny (model P w) _ (ret Value.none) _ _ _
        exact wpAny_pure ⟨rfl, h', tk, rfl, hf, kp⟩
      · cases r2 with
        | error e => exact hr2
        | ok fl2 =>
          cases fl2 with
          | ret r =>
            obtain ⟨rfl, h', tk, rfl, hf, kp⟩ := hr2
            repeat any_goals first | assumption | wp_step
            exact h _ _ hf kp
          | _ => exact hr2.elim
    | _ => exact hr.elim
end
end Pf

set_option Elab.async false
set_option linter.all false
set_option maxRecDepth 100000
set_option maxHeartbeats 3200000
/-! Pg11: the order of keys; sorted(set(..)). -/
namespace Pf
open PySem PySem.Spec L2
/-! ### the order -/
def kle (a b : List Int) : Bool := decide (a.length < b.length ∨ (a.length = b.length ∧ a ≤ b))
theorem keyD_le (a b : List Int) : PySem.W.dataLe false keyD a b = kle a b := by
  rw [PySem.W.dataLe_eq]
  show (!PySem.W.dataLt (keyD b) (keyD a)) = _
  unfold keyD kle
  rw [PySem.W.dataLt_pair (by simp [PySem.W.alike]) (by simp [PySem.W.alike, PySem.W.alike_ints]), PySem.W.dataLt_int, PySem.W.dataLt_tuple]
  have e := PySem.W.dataLt_ints b a
  unfold PySem.W.rowLt at e
  rw [e]
  simp only [PyData.eqv, eqv_ints, beq_iff_eq, Int.natCast_inj]
  by_cases h1 : b.length = a.length
  · by_cases h2 : b = a
    · subst h2
      simp [List.le_refl]
    · rw [if_pos h1, if_neg (by simp [h2])]
      by_cases h3 : b < a
      · have h4 : ¬ a ≤ b := fun r => List.not_lt.mpr r h3
        simp [h1, h3, h4]
      · have h4 : a ≤ b := List.not_lt.mp h3
        simp [h1, h3, h4]
  · rw [if_neg h1]
    by_cases h3 : a.length < b.length
    · have : ¬ (b.length : Int) < a.length := by omega
      simp [h3, this]
    · have : (b.length : Int) < a.length := by omega
      have h5 : ¬ a.length = b.length := fun z => h1 z.symm
      simp [h3, this, h5]
theorem kle_total (a b : List Int) : (kle a b || kle b a) = true := by
  unfold kle
  rw [Bool.or_eq_true, decide_eq_true_eq, decide_eq_true_eq]
  rcases Nat.lt_trichotomy a.length b.length with h | h | h
  · exact .inl (.inl h)
  · rcases List.le_total a b with z | z
    · exact .inl (.inr ⟨h, z⟩)
    · exact .inr (.inr ⟨h.symm, z⟩)
  · exact .inr (.inl h)
theorem kle_trans (a b c : List Int) (h1 : kle a b = true) (h2 : kle b c = true) : kle a c = true := by
  unfold kle at *
  rw [decide_eq_true_eq] at *
  rcases h1 with h1 | ⟨h1, h3⟩ <;> rcases h2 with h2 | ⟨h2, h4⟩
  · exact .inl (Nat.lt_trans h1 h2)
  · exact .inl (by omega)
  · exact .inl (by omega)
  · exact .inr ⟨by omega, List.le_trans h3 h4⟩
theorem kle_anti {a b : List Int} (h1 : kle a b = true) (h2 : kle b a = true) : a = b := by
  unfold kle at *
  rw [decide_eq_true_eq] at *
  rcases h1 with h1 | ⟨h1, h3⟩ <;> rcases h2 with h2 | ⟨h2, h4⟩
  · omega
  · omega
  · omega
  · exact List.le_antisymm h3 h4
theorem srtK_eq (ks : List (List Int)) : srtK ks = ks.mergeSort kle := by
  unfold srtK
  congr 1
  funext a b
  exact keyD_le a b
theorem srtK_sorted (ks : List (List Int)) : (srtK ks).Pairwise (fun a b => kle a b = true) := by
  rw [srtK_eq]
  exact List.pairwise_mergeSort kle_trans kle_total ks
theorem srtK_perm (ks : List (List Int)) : (srtK ks).Perm ks := by
  unfold srtK
  exact List.mergeSort_perm _ _
theorem srtK_same {a b : List (List Int)} (h : a.Perm b) : srtK a = srtK b :=
  List.Perm.eq_of_pairwise (fun _ _ _ _ => kle_anti) (srtK_sorted a) (srtK_sorted b) (((srtK_perm a).trans h).trans (srtK_perm b).symm)
theorem srtK_id (a : List (List Int)) : srtK (srtK a) = srtK a := srtK_same (srtK_perm a)
/-! ### sorted(set) -/
theorem perm_pull {α β : Type} {f : α → β} {l m : List β} (h : l.Perm m) : ∀ L : List α, l = L.map f → ∃ bs : List α, bs.Perm L ∧ m = bs.map f := by
  induction h with
  | nil => intro L e; exact ⟨[], by cases L <;> simp_all, rfl⟩
  | cons x _ ih =>
    intro L e
    cases L with
    | nil => cases e
    | cons y L =>
      injection e with e1 e2
      obtain ⟨bs, b1, b2⟩ := ih L e2
      exact ⟨y :: bs, b1.cons y, by rw [List.map_cons, ← e1, ← b2]⟩
  | swap x y l =>
    intro L e
    cases L with
    | nil => cases e
    | cons a L =>
      injection e with e1 e2
      cases L with
      | nil => cases e2
      | cons b L =>
        injection e2 with e3 e4
        exact ⟨b :: a :: L, List.Perm.swap _ _ _, by rw [List.map_cons, List.map_cons, ← e1, ← e3, ← e4]⟩
  | trans _ _ i1 i2 =>
    intro L e
    obtain ⟨bs, b1, b2⟩ := i1 L e
    obtain ⟨cs, c1, c2⟩ := i2 bs b2
    exact ⟨cs, c1.trans b1, c2⟩
section
variable {P : Program} {w : World} {A : Around} {E : Value → Shared → Prop} {s : Shared}
theorem n_sorted {a : Addr} {L : LP} {es : Array (Int × Value)} {ep : Nat} {t : SetTable} {Q : Value → Shared → Prop} (R : Nst w s.heap a L es ep t) (hh : A.handled = none) (rd : ∀ p ∈ L, Reads s.heap (.ref p.1) (keyD p.2) []) (hu : A.units + 100 < cLine)
    (q : ∀ (s' : Shared) (b : Addr) (out : List Value) (c : Nat) (bs : LP), (∀ b o, s.heap.get? b = some o → s'.heap.get? b = some o) → s'.gens = s.gens → s'.os = s.os → s.heap.objs.size ≤ b → s'.heap.get? b = some (PyProof.Rows.seqObj "list" out.toArray c) → bs.Perm L → PySem.W.EachIs (fun v x => v = Value.ref x.1) out (srtM bs) → Q (.ref b) s') :
    wpAny (model P w) A (call (.builtin "sorted") [.ref a]) Q E s := by
  obtain ⟨ob, ho, hex, hd⟩ := R.it
  have n1 : es.size = L.length := rows_size R.ro
  have few := R.fw
  have line : (1000 : Nat) ≤ sizeLine := by decide
  refine Calls.call_function_entry (PyProof.Rows.kind_sorted) (PyProof.Rows.plain_sorted) (PyProof.Rows.entry_sorted) (PyProof.Rows.args_sorted1 _) ?_
  unfold Builtin.«sorted»
  refine wpAny_bind (m := checkCount "sorted" 1 1 _) ?_
  refine wpAny_pure ?_
  refine wpAny_bind (collect_set (A := A.in1) hh ⟨ob, ho, hex.1, hd⟩ R.fit (by unfold scanBound; omega) R.tb.ris R.le fun s1 vs k1 z1 g1 o1 pm => ?_)
  have vals : es.toList.map (·.2) = L.map fun p => Value.ref p.1 := by
    rw [R.ro]
    unfold nrows
    rw [List.map_map]
    rfl
  rw [vals] at pm
  obtain ⟨bs, b1, rfl⟩ := perm_pull pm.symm L rfl
  have bl : bs.length < 64 := by rw [b1.length_eq]; exact few
  refine wpAny_bind (wpAny_newList ?_ (by rw [List.length_map]; omega))
  have atL : (s1.heap.push (PyProof.Rows.seqObj "list" (bs.map fun p => Value.ref p.1).toArray 0)).get? s1.heap.objs.size = some (PyProof.Rows.seqObj "list" (bs.map fun p => Value.ref p.1).toArray 0) := Heap.get?_push_size _ rfl
  refine wpAny_bind (wpAny_holding (PySem.W.list_sort_data (s := { s1 with heap := s1.heap.push (PyProof.Rows.seqObj "list" (bs.map fun p => Value.ref p.1).toArray 0) }) (R := fun v (x : Addr × List Int) => v = Value.ref x.1) (bs := bs) (enc := fun x => keyD x.2) atL (refs_each bs) ?_ (PySem.W.AllAlike.of fun x y => keyD_alike _ _) (PySem.W.Sortable.tuples fun x => ⟨_, _, rfl⟩) (by omega) (fun x _ => ?_) fun out hlen ho2 => ?_))
  · refine (PySem.W.each_mem (refs_each bs)).mono fun v x hv => ?_
    obtain ⟨rfl, hm⟩ := hv
    exact ⟨[], PyProof.Rows.Reads.keeps (fun b o e => Heap.get?_push_of_some _ (k1 b o e)) (rd x (b1.mem_iff.mp hm)), fun z => nomatch z⟩
  · have := keyD_depth x.2
    show A.units + 1 + 1 + _ < _
    omega
  · obtain ⟨c, hc⟩ := PyProof.Rows.sortedHeap_at (vs := bs.map fun p => Value.ref p.1) (out := out.toArray) atL
    refine wpAny_pure ⟨_, rfl, q _ s1.heap.objs.size out c bs (fun b u e => ?_) g1 o1 z1 hc b1 ho2⟩
    have l1 := Heap.lt_size (k1 b u e)
    show (PyProof.Rows.sortedHeap (s1.heap.push _) s1.heap.objs.size _ _).get? b = some u
    rw [PyProof.Rows.sortedHeap_old (Nat.ne_of_lt l1) (by rw [Heap.size_push]; exact Nat.lt_succ_of_lt l1)]
    exact Heap.get?_push_of_some _ (k1 b u e)
end
end Pf

set_option Elab.async false
set_option linter.all false
set_option maxRecDepth 100000
set_option maxHeartbeats 3200000
/-! Pg12: sorted(set(xs)), read. -/
namespace Pf
open PySem PySem.Spec L2
def PrOk (H : Hp) (b : Addr) (ks : List Int) : Prop := ∃ kb, H b = some (.tup [.int ks.length, .ref kb]) ∧ H kb = some (.tup (ks.map V.int))
theorem all_nums {h : Heap} : ∀ {ks : List Int} {us : List Value}, Vals (ks.map V.int) us → NestedAll h (ks.map .num) us
  | [], _, r => by cases r; exact .nil
  | k :: ks, _, r => by
    cases r with
    | cons r1 r2 =>
      obtain ⟨t, rfl⟩ := r1
      exact .cons (.int k t) (all_nums r2)
theorem PrOk.raw {P : Program} {w : World} {H : Hp} {h : Heap} {b : Addr} {ks : List Int} (ok : HOk P w H h) (p : PrOk H b ks) : Reads h (.ref b) (keyD ks) [] ∧ IsP h ks b := by
  obtain ⟨kb, p1, p2⟩ := p
  obtain ⟨_, its, rv, o, o1, o2, n, o3⟩ := (show ObjOk P w H h b (.tup [.int ks.length, .ref kb]) from ok _ _ p1)
  obtain ⟨_, jts, rw, u, u1, u2, m, u3⟩ := (show ObjOk P w H h kb (.tup (ks.map V.int)) from ok _ _ p2)
  cases rv with
  | cons r1 r2 =>
  cases r2 with
  | cons r2 r3 =>
  cases r3
  obtain ⟨t, rfl⟩ := r1
  cases r2
  exact ⟨.tuple o1 o2 o3 (.cons (.int _ t) (.cons (.tuple u1 u2 u3 (by simpa using reads_ints rw)) .nil)),
    .tup o1 o2 o3 (.cons (.int _ t) (.cons (.tup u1 u2 u3 (by simpa using all_nums rw)) .nil))⟩
def NSet (w : World) (a : Addr) (L : LP) : HO := .ext fun h => ∃ o, h.get? a = some o ∧ ∃ es ep t, ∀ g : Heap, g.get? a = some o → (∀ p ∈ L, IsP g p.2 p.1) → Nst w g a L es ep t
theorem nset_ok {P : Program} {w : World} {H : Hp} {h : Heap} {a : Addr} {L : LP} {es : Array (Int × Value)} {ep : Nat} {t : SetTable} (R : Nst w h a L es ep t) : ObjOk P w H h a (NSet w a L) := by
  obtain ⟨o, ho, _⟩ := id R.it
  refine ⟨⟨o, ho, es, ep, t, fun g hg ke => R.more (fun u hu => by cases ho.symm.trans hu; exact hg) ke⟩, ⟨o, ho⟩, fun h1 h2 ⟨o2, e2, r⟩ k => ⟨o2, k _ e2, r⟩⟩
section
variable {X : Cx}
def rSetN (w : World) : List V → Hp → VK → Prop := fun xs H Q => ∃ (l : Addr) (ks : LP), xs = [.ref l] ∧ H l = some (.lst (ks.map fun p => .ref p.1)) ∧ (∀ p ∈ ks, PrOk H p.1 p.2) ∧ ks.length < 64 ∧ (ks.map (·.2)).Nodup ∧
  ∀ a L, H a = none → L.Perm ks → Q (.ref a) (upd H a (NSet w a L))
theorem cr_setN (hc : X.calm = true) (hu : X.A.units + 100 < cLine) : CallR X (.type "set") (rSetN X.w) := by
  intro pins s σ H xs us Q I r h
  obtain ⟨l, ks, rfl, hl, hk, few, nd, q⟩ := h
  obtain ⟨u, rfl, rx⟩ := r.one
  cases rx
  obtain ⟨its, rv, pl, hz⟩ := I.list (SqL.of hl)
  refine n_set (P := X.prog) (w := X.w) ks (I.ok.hd hc) pl.isList (by simpa using refs_of_vals rv) (fun p hp => ((hk p hp).raw I.hok).2) few nd (by omega) fun h' tk hf kp => ?_
  obtain ⟨L, es, ep, t, R, pm⟩ := hf
  rw [List.take_length] at pm
  exact ⟨.ref s.heap.objs.size, _, I.laid (t' := tk) kp (Nat.le_refl _) (nset_ok R), rfl, q _ L (I.hok.fresh (Nat.le_refl _)) pm⟩
def rSortN (w : World) : List V → Hp → VK → Prop := fun xs H Q => ∃ (a : Addr) (L : LP), xs = [.ref a] ∧ H a = some (NSet w a L) ∧ (∀ p ∈ L, PrOk H p.1 p.2) ∧ ∀ bs b, bs.Perm L → H b = none → Q (.ref b) (upd H b (.lst ((srtM bs).map fun p => .ref p.1)))
theorem cr_sortN (hc : X.calm = true) (hu : X.A.units + 100 < cLine) : CallR X (.builtin "sorted") (rSortN X.w) := by
  intro pins s σ H xs us Q I r h
  obtain ⟨a, L, rfl, ha, hk, q⟩ := h
  obtain ⟨u, rfl, rx⟩ := r.one
  cases rx
  obtain ⟨o, ho, es, ep, t, R⟩ := (show ObjOk X.prog X.w H s.heap a (NSet X.w a L) from I.hok a _ ha).1
  have R := R s.heap ho fun p hp => ((hk p hp).raw I.hok).2
  refine n_sorted R (I.ok.hd hc) (fun p hp => ((hk p hp).raw I.hok).1) hu fun s' b out c bs k g o1 big hb pm eo => ?_
  have few := R.fw
  have ln : ((srtM bs).map fun p => V.ref p.1).length ≤ sizeLine := by
    have line : (1000 : Nat) ≤ sizeLine := by decide
    rw [List.length_map, srtM, List.length_mergeSort, pm.length_eq]
    omega
  have fresh : H b = none := I.hok.fresh big
  have J : Inv X pins σ (upd H b (.lst ((srtM bs).map fun p => V.ref p.1))) { s with heap := s'.heap, gens := s'.gens, drawn := s'.drawn, toks := s'.toks } :=
    I.call (ch := []) (Un.laid k big fresh) (I.hok.laid k big ⟨ln, out, c, each_refs eo, hb⟩) (by rw [g]; exact I.bare) (fun _ z => nomatch z)
  have e : s' = { s with heap := s'.heap, gens := s'.gens, drawn := s'.drawn, toks := s'.toks } := by
    cases s'
    cases s
    cases o1
    rfl
  rw [e]
  exact ⟨.ref b, _, J, rfl, q bs b pm fresh⟩
end
def dLens : List D → Option (List (List Int))
  | [] => some []
  | .tup [.int n, .tup ks] :: r => (dInts ks).bind fun ns => if n = ns.length then (dLens r).map fun l => ns :: l else none
  | _ => none
abbrev lenT (k : List Int) : D := .tup [.int k.length, tI k]
theorem dLens_map : ∀ ks : List (List Int), dLens (ks.map lenT) = some ks
  | [] => rfl
  | k :: r => by
    rw [List.map_cons, dLens, dLens_map r]
    simp
theorem dLens_some {K : PySem.W.Frag} {H : Hp} : ∀ {ds : List D} {xs : List V} {ks : List (List Int)}, DqA K H xs ds → dLens ds = some ks → ∃ bs : LP, xs = bs.map (fun b => .ref b.1) ∧ (∀ b ∈ bs, PrOk H b.1 b.2) ∧ bs.map (·.2) = ks
  | [], _, _, h, e => by
    cases h
    simp only [dLens] at e
    cases e
    exact ⟨[], rfl, (fun _ z => nomatch z), rfl⟩
  | d :: ds, _, _, h, e => by
    cases h with
    | cons h1 h2 =>
      unfold dLens at e
      split at e
      · rename_i e1; cases e1
      · rename_i n ks r e1
        cases e1
        cases e2 : dInts ks with
        | none => rw [e2] at e; cases e
        | some ns =>
          rw [e2] at e
          have e : (if n = ns.length then (dLens ds).map fun l => ns :: l else none) = some _ := e
          split at e
          · rename_i en
            cases e3 : dLens ds with
            | none => rw [e3] at e; cases e
            | some l =>
              rw [e3] at e
              cases e
              obtain ⟨bs, b1, b2, b3⟩ := dLens_some h2 e3
              cases h1 with
              | @tup t ys _ t1 t2 =>
              obtain ⟨u1, u2, rfl, k1, k2⟩ := dqa2 t2
              cases k1
              cases k2 with
              | @tup kd zs _ z1 z2 =>
              rw [dInts_some e2] at z2
              have z3 := z2.of_ints
              subst z3
              rw [en] at t1
              refine ⟨(t, ns) :: bs, by rw [b1]; rfl, fun x hx => ?_, by rw [List.map_cons, b3]⟩
              rcases List.mem_cons.mp hx with q | q
              · rw [q]; exact ⟨kd, t1, z1⟩
              · exact b2 x q
          · cases e
      · cases e
theorem dqa_lens {K : PySem.W.Frag} {H : Hp} : ∀ bs : LP, (∀ b ∈ bs, PrOk H b.1 b.2) → DqA K H (bs.map fun b => .ref b.1) ((bs.map (·.2)).map lenT)
  | [], _ => .nil
  | b :: bs, h => by
    obtain ⟨kb, h1, h2⟩ := h b List.mem_cons_self
    exact .cons (.tup h1 (.cons (.int _) (.cons (.tup h2 (DqA.ints _)) .nil))) (dqa_lens bs fun x hx => h x (List.mem_cons_of_mem _ hx))
theorem PrOk.mono {H H' : Hp} (e : Same H H') {b : Addr} {ks : List Int} (p : PrOk H b ks) : PrOk H' b ks := let ⟨kb, h1, h2⟩ := p; ⟨kb, e _ _ h1, e _ _ h2⟩
section
variable {T : Ct} {a : Expr} {ga : En → Option D}
def gSrtSet (g : En → Option D) : En → Option (List D) := fun ρ => (g ρ).bind fun d => match d with
  | .lst ds => (dLens ds).bind fun ks => if ks.Nodup ∧ ks.length < 64 then some ((srtK ks).map lenT) else none
  | _ => none
theorem sl_srtSet {p1 p2 q1 q2 : Pos} (hm1 : T.mg "sorted" = none) (hm2 : T.mg "set" = none) (ha : SE T a ga) (hg1 : T.sc.names.lookup ("sorted" : Str) = some .globalImplicit) (hg2 : T.sc.names.lookup ("set" : Str) = some .globalImplicit)
    (he : ∀ env, starEach [a] env = (false, eval a env) :: starEach [] env := by intro _; rfl) (he2 : ∀ env, starEach [.Call (.Name "set" p2) [a] [] q2] env = (false, eval (.Call (.Name "set" p2) [a] [] q2) env) :: starEach [] env := by intro _; rfl) (hmd : T.md = none := by rfl) :
    SL T (.Call (.Name "sorted" p1) [.Call (.Name "set" p2) [a] [] q2] [] q1) (gSrtSet ga) := by
  intro X G σ H ρ res env hd Q q
  unfold gSrtSet at hd
  cases e1 : ga ρ with
  | none => rw [e1] at hd; cases hd
  | some d =>
  rw [e1] at hd
  cases d <;> try (cases hd; done)
  rename_i ds
  have hd : ((dLens ds).bind fun ks => if ks.Nodup ∧ ks.length < 64 then some ((srtK ks).map lenT) else none) = some res := hd
  cases e2 : dLens ds with
  | none => rw [e2] at hd; cases hd
  | some ks =>
  rw [e2] at hd
  have hd : (if ks.Nodup ∧ ks.length < 64 then some ((srtK ks).map lenT) else none) = some res := hd
  split at hd
  · rename_i hc
    cases hd
    refine ⟨_, pe_callB (cr_sortN (G.calm hmd) G.hu) (by show X.env.scope.names.lookup _ = _; rw [G.hs]; exact hg1) (by rw [G.hm]; exact hm1) (by decide +kernel)
      (pa_cons (pe_callTy (cr_setN (G.calm hmd) G.hu) (by show X.env.scope.names.lookup _ = _; rw [G.hs]; exact hg2) (by rw [G.hm]; exact hm2) (by decide +kernel) (pa_cons pe_w pa_nil (he X.env)) (by decide) (by decide) (he X.env) rfl) pa_nil (he2 X.env)) (by decide) (by decide) (he2 X.env) rfl, ?_⟩
    refine ha X G σ H ρ _ env e1 _ fun v H1 s1 d1 => ?_
    cases d1 with
    | @lst l xs _ h1 h2 =>
    obtain ⟨bs, rfl, b2, b3⟩ := dLens_some h2 e2
    subst b3
    refine ⟨l, bs, rfl, h1, b2, by rw [List.length_map] at hc; exact hc.2, hc.1, fun sa L hsa pm => ?_⟩
    have s2 := same_upd (o := NSet X.w sa L) hsa
    refine ⟨sa, L, rfl, upd_same, fun p hp => (b2 p (pm.mem_iff.mp hp)).mono s2, fun cs b pm2 hb => ?_⟩
    have s3 := same_upd (o := .lst ((srtM cs).map fun p => V.ref p.1)) hb
    have ss := (s1.trans s2).trans s3
    refine q b _ _ (s1.free (s2.free hb)) ss upd_same ?_
    · have ek : (srtM cs).map (·.2) = srtK (bs.map (·.2)) := by
        rw [srtM_keys]
        exact srtK_same ((pm2.trans pm).map _)
      rw [← ek]
      exact dqa_lens _ fun p hp => (b2 p (pm.mem_iff.mp (pm2.mem_iff.mp (srtM_mem.mp hp)))).mono (s2.trans s3)
  · cases hd
end
end Pf

set_option Elab.async false
set_option linter.all false
set_option maxRecDepth 100000
set_option maxHeartbeats 2000000
/-! Pm16: primes of a sum, one way alone. -/
namespace Pf
open PySem PySem.Spec L2
section
variable {s : Int}
/-- a whole sum -/
structure Wh (s : Int) (l : List Int) : Prop where
  c : Can s l
  ne : l ≠ []
  ld : cf l (l.length - 1) = 1
structure Pr (s : Int) (g : List Int) : Prop where
  w : Wh s g
  l2 : 2 ≤ g.length
  no : leastM s g = none
theorem lead_mul (hs : Sz s) {a b c : List Int} (ca : Can s a) (cb : Can s b) (cc : Can s c) (ha : a ≠ []) (hb : b ≠ []) (e : pl s c = pl s a * pl s b) : cf c (c.length - 1) = cf a (a.length - 1) * cf b (b.length - 1) % s := by
  have l := len_mul hs ca cb cc ha hb e
  have la := List.length_pos_iff.mpr ha
  have lb := List.length_pos_iff.mpr hb
  have t := ce_top (x := pl s a) (y := pl s b) (n := a.length - 1) (m := b.length - 1) ((le_pl a).mono (by omega)) ((le_pl b).mono (by omega))
  rw [← e, cc.ce, ca.ce, cb.ce, show a.length - 1 + (b.length - 1) = c.length - 1 by omega] at t
  exact t
theorem wh_quo (hs : Sz s) {l g q : List Int} (wl : Wh s l) (wg : Wh s g) (cq : Can s q) (e : pl s l = pl s q * pl s g) : Wh s q ∧ l.length + 1 = q.length + g.length := by
  have ne : q ≠ [] := fun z => wl.ne ((can_pl0 wl.c).mp (by rw [e, z, pl_nil]; grind))
  have ld := lead_mul hs cq wg.c wl.c ne wg.ne e
  have li := last_in cq ne
  rw [wl.ld, wg.ld, Int.mul_one, Int.emod_eq_of_lt (by omega) li.2] at ld
  exact ⟨⟨cq, ne, ld.symm⟩, len_mul hs cq wg.c wl.c ne wg.ne e⟩
theorem least_min {a g : List Int} (h : leastM s a = some g) : ∃ j, j < halfM a ∧ g ∈ wholesM s (j + 1) ∧ restM s a g = [] ∧ ∀ i, i < j → ∀ g' ∈ wholesM s (i + 1), restM s a g' ≠ [] := by
  unfold leastM at h
  obtain ⟨l1, x, l2, e, hx, hn⟩ := List.findSome?_eq_some_iff.mp h
  have at1 : (List.range (halfM a))[l1.length]? = some x := by rw [e]; simp
  have lt := (List.getElem?_eq_some_iff.mp at1).1
  rw [List.length_range] at lt
  rw [List.getElem?_range lt] at at1
  have ex : l1.length = x := Option.some.inj at1
  unfold lvM at hx
  refine ⟨x, by omega, List.mem_of_find?_eq_some hx, by simpa using List.find?_some hx, fun i hi g' hg' => ?_⟩
  have mi : i ∈ l1 := by
    have at2 : (List.range (halfM a))[i]? = some i := List.getElem?_range (by omega)
    rw [e, List.getElem?_append_left (by omega)] at at2
    exact List.mem_of_getElem? at2
  have := hn i mi
  unfold lvM at this
  rw [List.find?_eq_none] at this
  simpa using this g' hg'
theorem least_prime (hs : Sz s) {a g : List Int} (ca : Can s a) (h : leastM s a = some g) : Pr s g ∧ restM s a g = [] := by
  obtain ⟨j, _, hg, hr, mn⟩ := least_min h
  obtain ⟨cg, lg, l1⟩ := whole_mem hs hg
  have ne : g ≠ [] := fun z => by rw [z] at lg; simp at lg
  refine ⟨⟨⟨cg, ne, by rw [lg]; exact l1⟩, by omega, least_none.mpr fun i hi g' hg' z => ?_⟩, hr⟩
  obtain ⟨cg', lg', _⟩ := whole_mem hs hg'
  have ne' : g' ≠ [] := fun z => by rw [z] at lg'; simp at lg'
  unfold halfM at hi
  exact mn i (by omega) g' hg' ((rest_nil hs ca cg' ne').mpr (((rest_nil hs cg cg' ne').mp z).trans ((rest_nil hs ca cg ne).mp hr)))
def partP (s : Int) (l : List Int) : List Int := (leastM s l).getD l
theorem step_ok (hs : Sz s) {l : List Int} (wl : Wh s l) (h2 : 2 ≤ l.length) : Pr s (partP s l) ∧ Wh s (quoM s l (partP s l)) ∧ pl s l = pl s (partP s l) * pl s (quoM s l (partP s l)) ∧ l.length + 1 = (quoM s l (partP s l)).length + (partP s l).length := by
  have key : Pr s (partP s l) ∧ restM s l (partP s l) = [] := by
    unfold partP
    cases h : leastM s l with
    | none => exact ⟨⟨wl, h2, h⟩, (rest_nil hs wl.c wl.c wl.ne).mpr (Dv.refl _)⟩
    | some g => exact least_prime hs wl.c h
  obtain ⟨pg, hr⟩ := key
  have p := part_ok hs wl.c pg.w.c pg.w.ne
  have e := p.eq
  rw [hr, pl_nil] at e
  have e2 : pl s l = pl s (quoM s l (partP s l)) * pl s (partP s l) := by rw [e]; grind
  obtain ⟨wq, lq⟩ := wh_quo hs wl pg.w p.cq e2
  exact ⟨pg, wq, by rw [e2]; grind, lq⟩
def pfL (s : Int) : Nat → List Int → List (List Int)
  | 0, _ => []
  | n + 1, l => if l.length ≤ 1 then [] else partP s l :: pfL s n (quoM s l (partP s l))
def prR (s : Int) (L : List (List Int)) : Rg s := L.foldr (fun g x => pl s g * x) 1
theorem prR_cons (g : List Int) (L : List (List Int)) : prR s (g :: L) = pl s g * prR s L := rfl
theorem prR_fi : ∀ L : List (List Int), Fi (prR s L)
  | [] => fi_one
  | g :: L => (fi_pl g).mul (prR_fi L)
theorem prR_app : ∀ A B : List (List Int), prR s (A ++ B) = prR s A * prR s B
  | [], B => by
    show prR s B = 1 * prR s B
    grind
  | g :: A, B => by
    rw [List.cons_append, prR_cons, prR_cons, prR_app A B]
    grind
theorem prR_perm {A B : List (List Int)} (h : A.Perm B) : prR s A = prR s B := by
  induction h with
  | nil => rfl
  | cons x _ ih => rw [prR_cons, prR_cons, ih]
  | swap x y l => rw [prR_cons, prR_cons, prR_cons, prR_cons]; grind
  | trans _ _ i1 i2 => rw [i1, i2]
theorem wh_one {l : List Int} (wl : Wh s l) (h : l.length ≤ 1) : l = [1] := by
  have lp := List.length_pos_iff.mpr wl.ne
  obtain ⟨y, e⟩ := List.length_eq_one_iff.mp (show l.length = 1 by omega)
  have := wl.ld
  rw [e] at this
  have y1 : y = 1 := this
  rw [e, y1]
theorem pf_ok (hs : Sz s) : ∀ (n : Nat) (l : List Int), Wh s l → l.length ≤ n + 1 → (∀ g ∈ pfL s n l, Pr s g ∧ g.length ≤ l.length) ∧ pl s l = prR s (pfL s n l) ∧ (pfL s n l).length + 1 ≤ l.length
  | 0, l, wl, hl => by
    have lp := List.length_pos_iff.mpr wl.ne
    refine ⟨(fun g hg => by cases hg), ?_, lp⟩
    rw [wh_one wl hl, pl_one]
    rfl
  | n + 1, l, wl, hl => by
    have lp := List.length_pos_iff.mpr wl.ne
    unfold pfL
    by_cases h : l.length ≤ 1
    · rw [if_pos h]
      refine ⟨(fun g hg => by cases hg), ?_, lp⟩
      rw [wh_one wl h, pl_one]
      rfl
    · rw [if_neg h]
      obtain ⟨pg, wq, e, lq⟩ := step_ok hs wl (by omega)
      have p2 := pg.l2
      have q1 := List.length_pos_iff.mpr wq.ne
      obtain ⟨h1, h2, h3⟩ := pf_ok hs n _ wq (by omega)
      refine ⟨fun g hg => ?_, ?_, ?_⟩
      · rcases List.mem_cons.mp hg with z | z
        · rw [z]; exact ⟨pg, by omega⟩
        · obtain ⟨a, b⟩ := h1 g z
          exact ⟨a, by omega⟩
      · rw [prR_cons, ← h2, e]
      · rw [List.length_cons]; omega
/-! ### one way alone -/
theorem no_unit (hs : Sz s) {f : List Int} (pf : Pr s f) : ¬ Dv (pl s f) 1 := by
  rintro ⟨z, fz, e⟩
  obtain ⟨q, cq, rfl⟩ := fz.list hs
  have c1 := one_can hs
  rw [← pl_one] at e
  have ne : q ≠ [] := fun z => by
    have : ([1] : List Int) = [] := (can_pl0 c1).mp (by rw [e, z, pl_nil]; grind)
    cases this
  have l := len_mul hs cq pf.w.c c1 ne pf.w.ne e
  have lp := List.length_pos_iff.mpr ne
  have l2 := pf.l2
  simp at l
  omega
theorem euclid_list (hs : Sz s) {f : List Int} (pf : Pr s f) : ∀ {L : List (List Int)}, (∀ g ∈ L, Can s g) → Dv (pl s f) (prR s L) → ∃ g ∈ L, Dv (pl s f) (pl s g)
  | [], _, h => absurd h (no_unit hs pf)
  | g :: L, hL, h => by
    rcases euclid hs pf.w.c (hL g List.mem_cons_self) pf.l2 pf.no (prR_fi L) h with d | d
    · exact ⟨g, List.mem_cons_self, d⟩
    · obtain ⟨g', a, b⟩ := euclid_list hs pf (fun x hx => hL x (List.mem_cons_of_mem _ hx)) d
      exact ⟨g', List.mem_cons_of_mem _ a, b⟩
theorem dv_prime (hs : Sz s) {f g : List Int} (pf : Pr s f) (pg : Pr s g) (d : Dv (pl s f) (pl s g)) : f = g := by
  obtain ⟨z, fz, e⟩ := d
  obtain ⟨q, cq, rfl⟩ := fz.list hs
  obtain ⟨wq, _⟩ := wh_quo hs pg.w pf.w cq e
  by_cases h : 2 ≤ q.length
  · exact (irr hs pg.w.c pf.w.c cq pg.no pf.l2 h e).elim
  · have := wh_one wq (by omega)
    rw [this, pl_one] at e
    exact can_ext pf.w.c pg.w.c (by rw [e]; grind)
theorem cancel (hs : Sz s) {f : List Int} (cf' : Can s f) (hf : f ≠ []) {x y : Rg s} (fx : Fi x) (fy : Fi y) (e : pl s f * x = pl s f * y) : x = y := by
  obtain ⟨n, ln⟩ := fx.sub fy
  have h0 : pl s f * (x - y) = 0 := by grind
  by_cases hz : x - y = 0
  · grind
  · exact absurd h0 (mul_ne hs (le_pl f) ln (fun z => hf ((can_pl0 cf').mp z)) hz)
theorem uniq (hs : Sz s) : ∀ {A B : List (List Int)}, (∀ g ∈ A, Pr s g) → (∀ g ∈ B, Pr s g) → prR s A = prR s B → A.Perm B
  | [], [], _, _, _ => .nil
  | [], g :: B, _, hB, e => by
    refine absurd ?_ (no_unit hs (hB g List.mem_cons_self))
    have e : (1 : Rg s) = pl s g * prR s B := e
    exact ⟨prR s B, prR_fi B, by rw [e]; grind⟩
  | f :: A, B, hA, hB, e => by
    have pf := hA f List.mem_cons_self
    obtain ⟨g, hg, d⟩ := euclid_list hs pf (L := B) (fun x hx => (hB x hx).w.c) ⟨prR s A, prR_fi A, by rw [← e, prR_cons]; grind⟩
    have := dv_prime hs pf (hB g hg) d
    subst this
    have pm := List.perm_cons_erase hg
    have e2 : pl s f * prR s A = pl s f * prR s (B.erase f) := by
      rw [← prR_cons, ← prR_cons, e]
      exact prR_perm pm
    exact ((uniq hs (fun x hx => hA x (List.mem_cons_of_mem _ hx)) (fun x hx => hB x (List.mem_of_mem_erase hx)) (cancel hs pf.w.c pf.w.ne (prR_fi _) (prR_fi _) e2)).cons f).trans pm.symm
/-! ### the last number put aside -/
def mono (s : Int) (a : List Int) : List Int := timesM s a [invM s (cf a (a.length - 1))]
theorem mono_ok (hs : Sz s) {a : List Int} (ca : Can s a) (ha : a ≠ []) : Wh s (mono s a) ∧ (mono s a).length = a.length ∧ pl s a = (cf a (a.length - 1) : Rg s) * pl s (mono s a) := by
  have li := last_in ca ha
  have iv := inv_ok hs li.1 li.2
  have c1 := num_can hs iv.1 iv.2.1
  have cm : Can s (mono s a) := times_can hs _ _
  have e : pl s (mono s a) = pl s a * pl s [invM s (cf a (a.length - 1))] := pl_times _ _
  have l := len_mul hs ca c1 cm ha (by simp) e
  have ld := lead_mul hs ca c1 cm ha (by simp) e
  have l' : (mono s a).length + 1 = a.length + 1 := l
  have lp := List.length_pos_iff.mpr ha
  refine ⟨⟨cm, (fun z => by rw [z, List.length_nil] at l'; omega), ?_⟩, by omega, ?_⟩
  · rw [ld]
    exact iv.2.2.1
  · rw [e, pl_num]
    have e1 : (cf a (a.length - 1) : Rg s) * (invM s (cf a (a.length - 1)) : Rg s) = 1 := by
      rw [← int_mul, ← int_one]
      refine int_cong ?_
      rw [iv.2.2.1]
      rcases hs with q | q | q <;> rw [q] <;> rfl
    generalize (cf a (a.length - 1) : Rg s) = U at *
    generalize (invM s (cf a (a.length - 1)) : Rg s) = V at *
    grind
/-- the primes of a sum -/
def primesOf (s : Int) (a : List Int) : List (List Int) := pfL s a.length (mono s a)
theorem primes_ok (hs : Sz s) {a : List Int} (ca : Can s a) (ha : a ≠ []) : (∀ g ∈ primesOf s a, Pr s g ∧ g.length ≤ a.length) ∧ pl s a = (cf a (a.length - 1) : Rg s) * prR s (primesOf s a) ∧ (primesOf s a).length + 1 ≤ a.length := by
  obtain ⟨w, l, e⟩ := mono_ok hs ca ha
  obtain ⟨h1, h2, h3⟩ := pf_ok hs a.length (mono s a) w (by omega)
  rw [l] at h1 h3
  refine ⟨h1, ?_, h3⟩
  unfold primesOf
  rw [← h2]
  exact e
/-- those of a product are those of both together -/
theorem primes_mul (hs : Sz s) {a b : List Int} (ca : Can s a) (cb : Can s b) (ha : a ≠ []) (hb : b ≠ []) : (primesOf s (timesM s a b)).Perm (primesOf s a ++ primesOf s b) := by
  have cc := times_can hs a b
  have hc := times_ne hs ca cb ha hb
  obtain ⟨a1, a2, _⟩ := primes_ok hs ca ha
  obtain ⟨b1, b2, _⟩ := primes_ok hs cb hb
  obtain ⟨c1, c2, _⟩ := primes_ok hs cc hc
  refine uniq hs (fun g hg => (c1 g hg).1) (fun g hg => ?_) ?_
  · rcases List.mem_append.mp hg with z | z
    · exact (a1 g z).1
    · exact (b1 g z).1
  · have li := last_in cc hc
    have ld := lead_mul hs ca cb cc ha hb (pl_times a b)
    rw [prR_app]
    have e : (cf (timesM s a b) ((timesM s a b).length - 1) : Rg s) = (cf a (a.length - 1) : Rg s) * (cf b (b.length - 1) : Rg s) := by
      rw [ld, int_mod, int_mul]
    refine cancel hs (num_can hs li.1 li.2) (by simp) (prR_fi _) ((prR_fi _).mul (prR_fi _)) ?_
    rw [pl_num, ← c2, pl_times, a2, b2, e]
    generalize (cf a (a.length - 1) : Rg s) = U
    generalize (cf b (b.length - 1) : Rg s) = V
    generalize prR s (primesOf s a) = X
    generalize prR s (primesOf s b) = Y
    grind
end
end Pf

set_option Elab.async false
set_option linter.all false
set_option maxRecDepth 100000
set_option maxHeartbeats 2000000
/-! Pg13: primes counted in a dict. -/
namespace Pf
open PySem PySem.Spec L2
theorem getO_nil (k : List Int) : getO [] k = none := rfl
theorem getO_cons (q : List Int × Int) (r : DK) (k : List Int) : getO (q :: r) k = if q.1 = k then some q.2 else getO r k := by
  unfold getO
  rw [List.find?_cons]
  by_cases h : q.1 = k
  · rw [decide_eq_true h, if_pos h]; rfl
  · rw [decide_eq_false h, if_neg h]
theorem getM_O (kvs : DK) (k : List Int) : getM kvs k = (getO kvs k).getD 0 := by
  unfold getM getO
  cases kvs.find? fun p => decide (p.1 = k) <;> rfl
theorem getO_none {kvs : DK} {k : List Int} : getO kvs k = none ↔ k ∉ kvs.map (·.1) := by
  induction kvs with
  | nil => simp [getO_nil]
  | cons q r ih =>
    rw [getO_cons, List.map_cons, List.mem_cons]
    by_cases h : q.1 = k
    · rw [if_pos h]
      simp [h]
    · rw [if_neg h, ih]
      constructor
      · rintro a (z | z)
        · exact h z.symm
        · exact a z
      · intro a z
        exact a (.inr z)
theorem getO_of {kvs : DK} (nd : (kvs.map (·.1)).Nodup) {q : List Int × Int} (h : q ∈ kvs) : getO kvs q.1 = some q.2 := by
  induction kvs with
  | nil => cases h
  | cons p r ih =>
    rw [List.map_cons, List.nodup_cons] at nd
    rw [getO_cons]
    rcases List.mem_cons.mp h with e | h
    · rw [e, if_pos rfl]
    · rw [if_neg fun z => nd.1 (by rw [z]; exact List.mem_map.mpr ⟨q, h, rfl⟩)]
      exact ih nd.2 h
theorem any_key (kvs : DK) (k : List Int) : (kvs.any fun p => decide (p.1 = k)) = true ↔ k ∈ kvs.map (·.1) := by
  simp [List.any_eq_true, List.mem_map]
theorem put_old {kvs : DK} {k : List Int} (v : Int) (h : k ∈ kvs.map (·.1)) : putM kvs k v = kvs.map fun p => if p.1 = k then (p.1, v) else p := by
  unfold putM
  rw [if_pos ((any_key kvs k).mpr h)]
theorem put_new {kvs : DK} {k : List Int} (v : Int) (h : k ∉ kvs.map (·.1)) : putM kvs k v = kvs ++ [(k, v)] := by
  unfold putM
  rw [if_neg fun z => h ((any_key kvs k).mp z)]
theorem keys_old (kvs : DK) (k : List Int) (v : Int) : (kvs.map fun p => if p.1 = k then (p.1, v) else p).map (·.1) = kvs.map (·.1) := by
  rw [List.map_map]
  refine List.map_congr_left fun p _ => ?_
  show (if p.1 = k then (p.1, v) else p).1 = p.1
  split <;> rfl
theorem keys_put {kvs : DK} {k x : List Int} {v : Int} : x ∈ (putM kvs k v).map (·.1) ↔ x = k ∨ x ∈ kvs.map (·.1) := by
  by_cases h : k ∈ kvs.map (·.1)
  · rw [put_old v h, keys_old]
    constructor
    · exact .inr
    · rintro (z | z)
      · rw [z]; exact h
      · exact z
  · rw [put_new v h, List.map_append, List.mem_append]
    constructor
    · rintro (z | z)
      · exact .inr z
      · exact .inl (by simpa using z)
    · rintro (z | z)
      · exact .inr (by simp [z])
      · exact .inl z
theorem nd_put {kvs : DK} {k : List Int} {v : Int} (nd : (kvs.map (·.1)).Nodup) : ((putM kvs k v).map (·.1)).Nodup := by
  by_cases h : k ∈ kvs.map (·.1)
  · rw [put_old v h, keys_old]; exact nd
  · rw [put_new v h, List.map_append]
    refine List.nodup_append.mpr ⟨nd, by simp, fun a ha b hb z => h ?_⟩
    have : b = k := by simpa using hb
    rw [← this, ← z]; exact ha
theorem getO_put (kvs : DK) (k x : List Int) (v : Int) : getO (putM kvs k v) x = if x = k then some v else getO kvs x := by
  by_cases h : k ∈ kvs.map (·.1)
  · rw [put_old v h]
    induction kvs with
    | nil => cases h
    | cons q r ih =>
      rw [List.map_cons, getO_cons, getO_cons]
      by_cases h1 : q.1 = k
      · rw [if_pos h1]
        show (if q.1 = x then some v else _) = _
        by_cases h2 : x = k
        · rw [if_pos (h1.trans h2.symm), if_pos h2]
        · have h3 : ¬ q.1 = x := fun z => h2 (z.symm.trans h1)
          rw [if_neg h3, if_neg h2, if_neg h3]
          by_cases h4 : k ∈ r.map (·.1)
          · rw [ih h4, if_neg h2]
          · have : (r.map fun p => if p.1 = k then (p.1, v) else p) = r := by
              conv => rhs; rw [← List.map_id r]
              exact List.map_congr_left fun p hp => if_neg fun z => h4 (by rw [← z]; exact List.mem_map.mpr ⟨p, hp, rfl⟩)
            rw [this]
      · rw [if_neg h1]
        have h4 : k ∈ r.map (·.1) := by
          rcases List.mem_cons.mp h with z | z
          · exact absurd z.symm h1
          · exact z
        by_cases h3 : q.1 = x
        · rw [if_pos h3, if_pos h3, if_neg fun z => h1 (h3.trans z)]
        · rw [if_neg h3, if_neg h3, ih h4]
  · rw [put_new v h]
    induction kvs with
    | nil =>
      rw [List.nil_append, getO_cons, getO_nil]
      by_cases h1 : k = x
      · rw [if_pos h1, if_pos h1.symm]
      · rw [if_neg h1, if_neg fun z => h1 z.symm]
    | cons q r ih =>
      rw [List.map_cons, List.mem_cons, not_or] at h
      rw [List.cons_append, getO_cons, getO_cons, ih h.2]
      by_cases h3 : q.1 = x
      · rw [if_pos h3, if_pos h3, if_neg fun z => h.1 (z.symm.trans h3.symm)]
      · rw [if_neg h3, if_neg h3]
theorem put_len (kvs : DK) (k : List Int) (v : Int) : (putM kvs k v).length ≤ kvs.length + 1 := by
  by_cases h : k ∈ kvs.map (·.1)
  · rw [put_old v h, List.length_map]; omega
  · rw [put_new v h, List.length_append]; simp
/-! ### bags -/
def addK (kvs : DK) (k : List Int) (n : Int) : DK := putM kvs k (getM kvs k + n)
structure Bag (kvs : DK) (ps : List (List Int)) : Prop where
  nd : (kvs.map (·.1)).Nodup
  ks : ∀ k, k ∈ kvs.map (·.1) ↔ k ∈ ps
  ct : ∀ k, getM kvs k = (ps.count k : Int)
theorem Bag.nil : Bag [] [] := ⟨by simp, fun k => by simp, fun k => by rw [getM_O, getO_nil]; rfl⟩
theorem Bag.perm {kvs : DK} {ps qs : List (List Int)} (b : Bag kvs ps) (h : ps.Perm qs) : Bag kvs qs := ⟨b.nd, fun k => (b.ks k).trans h.mem_iff, fun k => by rw [b.ct, h.count_eq]⟩
theorem Bag.add {kvs : DK} {ps : List (List Int)} (b : Bag kvs ps) (k : List Int) {n : Nat} (hn : 1 ≤ n) : Bag (addK kvs k n) (ps ++ List.replicate n k) := by
  refine ⟨nd_put b.nd, fun x => ?_, fun x => ?_⟩
  · unfold addK
    rw [keys_put, List.mem_append, List.mem_replicate, b.ks]
    constructor
    · rintro (z | z)
      · exact .inr ⟨by omega, z⟩
      · exact .inl z
    · rintro (z | z)
      · exact .inr z
      · exact .inl z.2
  · unfold addK
    rw [getM_O, getO_put, List.count_append, List.count_replicate]
    by_cases h : x = k
    · subst h
      rw [if_pos rfl, Option.getD_some, b.ct, if_pos (by simp), Int.natCast_add]
    · rw [if_neg h, ← getM_O, b.ct, if_neg (by simpa using fun z : k = x => h z.symm), Nat.add_zero]
theorem Bag.len {kvs : DK} {ps : List (List Int)} (b : Bag kvs ps) : kvs.length ≤ ps.length := by
  have h : (kvs.map (·.1)).length ≤ ps.length := List.Nodup.length_le_of_subset b.nd fun k hk => (b.ks k).mp hk
  rwa [List.length_map] at h
theorem Bag.val {kvs : DK} {ps : List (List Int)} (b : Bag kvs ps) {k : List Int} (h : k ∈ ps) : getO kvs k = some (ps.count k : Int) := by
  cases e : getO kvs k with
  | none => exact absurd ((b.ks k).mpr h) (getO_none.mp e)
  | some v =>
    have := b.ct k
    rw [getM_O, e] at this
    rw [← this]; rfl
theorem Bag.same {a b : DK} {ps : List (List Int)} (ha : Bag a ps) (hb : Bag b ps) : sameDK a b = true := by
  unfold sameDK
  rw [Bool.and_eq_true, beq_iff_eq, List.all_eq_true]
  constructor
  · have : (a.map (·.1)).Perm (b.map (·.1)) := (List.perm_ext_iff_of_nodup ha.nd hb.nd).mpr fun k => (ha.ks k).trans (hb.ks k).symm
    have := this.length_eq
    rwa [List.length_map, List.length_map] at this
  · intro p hp
    have h1 : p.1 ∈ ps := (ha.ks _).mp (List.mem_map.mpr ⟨p, hp, rfl⟩)
    have h2 := (getO_of ha.nd hp).symm.trans (ha.val h1)
    exact decide_eq_true ((hb.val h1).trans h2.symm)
def cntD (ps : List (List Int)) : DK := ps.foldl (fun d k => addK d k 1) []
theorem cntD_snoc (ps : List (List Int)) (k : List Int) : cntD (ps ++ [k]) = addK (cntD ps) k 1 := by
  unfold cntD
  rw [List.foldl_append]; rfl
theorem fold_bag : ∀ (ps done : List (List Int)) (kvs : DK), Bag kvs done → Bag (ps.foldl (fun d k => addK d k 1) kvs) (done ++ ps)
  | [], done, kvs, b => by rw [List.append_nil]; exact b
  | k :: ps, done, kvs, b => by
    have := fold_bag ps (done ++ [k]) (addK kvs k 1) (b.add k (n := 1) (by omega))
    rw [List.append_assoc] at this
    exact this
theorem cnt_bag (ps : List (List Int)) : Bag (cntD ps) ps := fold_bag ps [] [] Bag.nil
/-- in order, with their counts -/
def ordK (kvs : DK) : DK := (srtK (kvs.map (·.1))).map fun k => (k, getM kvs k)
theorem ord_keys (kvs : DK) : (ordK kvs).map (·.1) = srtK (kvs.map (·.1)) := by
  unfold ordK
  rw [List.map_map]
  exact List.map_id _
theorem ord_bag {kvs : DK} {ps : List (List Int)} (b : Bag kvs ps) : Bag (ordK kvs) ps := by
  have pm := srtK_perm (kvs.map (·.1))
  have nd : ((ordK kvs).map (·.1)).Nodup := by rw [ord_keys]; exact pm.nodup_iff.mpr b.nd
  have ks : ∀ k, k ∈ (ordK kvs).map (·.1) ↔ k ∈ ps := fun k => by rw [ord_keys, pm.mem_iff]; exact b.ks k
  refine ⟨nd, ks, fun k => ?_⟩
  by_cases h : k ∈ (ordK kvs).map (·.1)
  · have h2 : k ∈ srtK (kvs.map (·.1)) := by rw [← ord_keys]; exact h
    have := getO_of nd (q := (k, getM kvs k)) (List.mem_map.mpr ⟨k, h2, rfl⟩)
    rw [getM_O, this]
    exact b.ct k
  · rw [getM_O, getO_none.mpr h]
    have : k ∉ ps := fun z => h ((ks k).mpr z)
    rw [List.count_eq_zero_of_not_mem this]; rfl
theorem bag_flat : ∀ {kvs : DK} {ps : List (List Int)}, Bag kvs ps → ps.Perm (kvs.flatMap fun q => List.replicate q.2.toNat q.1) := by
  intro kvs ps b
  rw [List.perm_iff_count]
  intro x
  have key : ∀ l : DK, (l.map (·.1)).Nodup → (l.flatMap fun q => List.replicate q.2.toNat q.1).count x = (getM l x).toNat := by
    intro l
    induction l with
    | nil => intro _; rw [getM_O, getO_nil]; rfl
    | cons q r ih =>
      intro nd
      rw [List.map_cons, List.nodup_cons] at nd
      rw [List.flatMap_cons, List.count_append, ih nd.2, List.count_replicate, getM_O r x, getM_O (q :: r) x, getO_cons]
      by_cases h : q.1 = x
      · rw [if_pos (by simpa using h), if_pos h, getO_none.mpr (by rw [← h]; exact nd.1)]
        rfl
      · rw [if_neg (by simpa using h), if_neg h, Nat.zero_add]
  rw [key kvs b.nd, b.ct]
  omega
section
variable {s : Int}
def facK (s : Int) (a : List Int) : DK := ordK (cntD (primesOf s a))
theorem fac_bag (s : Int) (a : List Int) : Bag (facK s a) (primesOf s a) := ord_bag (cnt_bag _)
abbrev pairD (q : List Int × Int) : D := .tup [tI q.1, .int q.2]
def facD (s : Int) (a : List Int) : D := .tup [.int (cf a (a.length - 1)), .ftp ((facK s a).map pairD)]
def xf_factors : List D → Option Rs := kTI fun a s => if okL s a then some (if a = [] then .no "NoPart" else .ok (facD s a)) else none
def f_told22 : List D → Option D := kTI fun a s => if okL s a then some (if a = [] then .non else facD s a) else none
theorem f_told22_ok {a : List Int} (h : okL s a) : f_told22 [tI a, .int s] = some (if a = [] then .non else facD s a) := by
  simp only [f_told22, kTI_mk, if_pos h]
theorem xf_factors_ok {a : List Int} (h : okL s a) : xf_factors [tI a, .int s] = some (if a = [] then .no "NoPart" else .ok (facD s a)) := by
  simp only [xf_factors, kTI_mk, if_pos h]
/-- .. that the law's test takes -/
structure GoodF (s : Int) (a : List Int) : Prop where
  ok : okL s a
  ne : a ≠ []
  l : a.length ≤ 20
  few : ∀ g ∈ primesOf s a, g.length ≤ 9
open Classical in
noncomputable def f_good22 : List D → Option D := kTIA fun a s d => if GoodF s a ∧ d = facD s a then some (.bl true) else none
theorem f_good22_ok {a : List Int} (h : GoodF s a) : f_good22 [tI a, .int s, facD s a] = some (.bl true) := by
  simp only [f_good22, kTIA_mk, if_pos (And.intro h rfl)]
/-- what multiplied so often gives -/
theorem fac_prod (hs : Sz s) {a : List Int} (ca : Can s a) (ha : a ≠ []) : pl s a = (cf a (a.length - 1) : Rg s) * prR s ((facK s a).flatMap fun q => List.replicate q.2.toNat q.1) := by
  rw [← prR_perm (bag_flat (fac_bag s a))]
  exact (primes_ok hs ca ha).2.1
theorem fac_pair {a : List Int} {q : List Int × Int} (h : q ∈ facK s a) : q.1 ∈ primesOf s a ∧ q.2 = ((primesOf s a).count q.1 : Int) := by
  have b := fac_bag s a
  have h1 : q.1 ∈ primesOf s a := (b.ks _).mp (List.mem_map.mpr ⟨q, h, rfl⟩)
  exact ⟨h1, Option.some.inj ((getO_of b.nd h).symm.trans (b.val h1))⟩
theorem fac_sorted (s : Int) (a : List Int) : srtK ((facK s a).map (·.1)) = (facK s a).map (·.1) := by
  unfold facK
  rw [ord_keys]
  exact srtK_id _
end
end Pf

set_option Elab.async false
set_option linter.all false
set_option maxRecDepth 100000
set_option maxHeartbeats 2000000
/-! Pg14: how blocks beside a dict are reckoned with. -/
namespace Pf
open PySem PySem.Spec L2
def LQ : Str := ("factors" : Str) ++ ".<locals>." ++ "<lambda>"
section
variable (P : Pg) (Po' : Po) (px : Px) (kvs : DK) (ρ : En) (i j : Nat) (a : Addr)
@[simp] theorem gHead_ap (U : Po → Px → En → Prop) (V : Pg → DK → En → Prop) : gHead U V P px ρ = U { nx := fun ρ' => noOw ρ' = true ∧ V P [] ρ', rt := P.rt, bk := fun _ => False, ct := fun _ => False } px ρ := rfl
@[simp] theorem gConsS_ap (U V : Pg → DK → En → Prop) : gConsS U V P kvs ρ = U { P with nx := V P } kvs ρ := rfl
@[simp] theorem gOf_ap (U : Po → En → Prop) : gOf U P kvs ρ = U { nx := fun ρ => noOw ρ = true ∧ P.nx kvs ρ, rt := P.rt, bk := fun _ => False, ct := fun _ => False } ρ := rfl
@[simp] theorem gNilS_ap : gNilS P kvs ρ = P.nx kvs ρ := rfl
@[simp] theorem gNew_ap (g : En → Option DK) (W : Addr → Pg → DK → En → Prop) : gNew i g W P kvs ρ = ∃ kvs, g ρ = some kvs ∧ ∀ a, W a P kvs (ρ.set i (.ex a)) := rfl
@[simp] theorem gPut_ap (gk ge : En → Option D) : gPut i a gk ge P kvs ρ = ∃ (ks : List Int) (n : Int), ρ[i]? = some (.ex a) ∧ ρ.all ndS = true ∧ gk ρ = some (tI ks) ∧ ge ρ = some (.int n) ∧ kvs.length < 1000000 ∧ P.nx (putM kvs ks (getM kvs ks + n)) ρ := rfl
@[simp] theorem gSort_ap : gSort i j a P kvs ρ = (ρ[i]? = some (.ex a) ∧ kvs.length ≤ 1000 ∧ (∀ x ∈ kvs, x.1.length ≤ 1000) ∧ P.nx kvs (ρ.set j (.im (.lst ((srtK (kvs.map (·.1))).map tI))))) := rfl
@[simp] theorem gIm_ap (U : Po → En → Prop) : gIm i a U P kvs ρ = (ρ[i]? = some (.ex a) ∧ U { nx := fun _ => False, rt := P.rt, bk := fun _ => False, ct := fun _ => False } (ρ.set i (.im (.dct kvs)))) := rfl
@[simp] theorem gCallP_ap (fn : List D → Option D) (g : En → Option (List D)) : gCallP i fn g P kvs ρ = ∃ ds d, g ρ = some ds ∧ fn ds = some d ∧ P.nx kvs (ρ.set i (.im d)) := rfl
@[simp] theorem gTry_ap (x : Str) (fn : List D → Option Rs) (g : En → Option (List D)) (Ws : Addr → Po → En → Prop) : gTry i j x fn g Ws P kvs ρ = ∃ ds r, g ρ = some ds ∧ fn ds = some r ∧ (∀ d, r = .ok d → P.nx kvs (ρ.set j (.im d))) ∧ ∀ y, r = .no y → y = x ∧ ∀ a, Ws a { nx := fun _ => False, rt := P.rt, bk := fun _ => False, ct := fun _ => False } (ρ.set i (.ex a)) := rfl
@[simp] theorem gDnil_ap : gDnil ρ = some [] := rfl
@[simp] theorem gDn_ap (g : En → Option DK) : gDn g ρ = (g ρ).map D.dct := rfl
@[simp] theorem gFt_ap (g : En → Option (List D)) : gFt g ρ = (g ρ).map D.ftp := rfl
end
theorem gWhile_by {t : En → Option Bool} {U : Pg → DK → En → Prop} {P : Pg} {kvs : DK} {ρ : En} (Iv : Nat → DK → En → Prop) (n : Nat) (i0 : Iv n kvs ρ)
    (turn : ∀ n k1 ρ1, Iv n k1 ρ1 → ∃ b, t ρ1 = some b ∧ (b = true → U { nx := fun k2 ρ2 => ∃ m, m < n ∧ Iv m k2 ρ2, rt := P.rt } k1 ρ1) ∧ (b = false → P.nx k1 ρ1)) : gWhile t U P kvs ρ := ⟨Iv, ⟨n, i0⟩, turn⟩
theorem gForT_by {ga : En → Option D} {set : D → En → Option En} {U : Pg → DK → En → Prop} {P : Pg} {kvs : DK} {ρ : En} (ds : List D) (h1 : gTu ga ρ = some ds) (h2 : ndA ds = true) (Iv : Nat → DK → En → Prop) (i0 : Iv 0 kvs ρ)
    (turn : ∀ i d k1 ρ1, ds[i]? = some d → Iv i k1 ρ1 → ∃ ρ2, set d ρ1 = some ρ2 ∧ noOw ρ2 = true ∧ U { nx := Iv (i + 1), rt := P.rt } k1 ρ2) (fin : ∀ k1 ρ1, Iv ds.length k1 ρ1 → P.nx k1 ρ1) : gForT ga set U P kvs ρ := ⟨ds, h1, h2, Iv, i0, turn, fin⟩
theorem gCons_to {g : En → Option D} {la : En → Option (List D)} {ρ : En} {x : D} {xs : List D} (h1 : g ρ = some x) (h2 : la ρ = some xs) : gCons g la ρ = some (x :: xs) := by
  rw [gCons_ap, h1, h2]
  rfl
theorem gTup_to {la : En → Option (List D)} {ρ : En} {xs : List D} (h : la ρ = some xs) (hl : xs.length ≤ 1000000) : gTup la ρ = some (.tup xs) := by
  unfold gTup
  rw [h]
  exact if_pos hl
theorem gDget_by {gd gk : En → Option D} {ρ : En} {kvs : DK} {ks : List Int} {v : Int} (h1 : gd ρ = some (.dct kvs)) (h2 : gk ρ = some (tI ks)) (h3 : getO kvs ks = some v) : gDget gd gk ρ = some (.int v) := by
  unfold gDget
  rw [h1, h2]
  simp [h3]
theorem gDict_by {ga : En → Option D} {ρ : En} {kvs : DK} (h1 : ga ρ = some (.ftp (kvs.map pairD))) (nd : (kvs.map (·.1)).Nodup) (hl : kvs.length ≤ 1000) : gDict ga ρ = some kvs := by
  unfold gDict
  rw [h1]
  simp only [Option.bind_some, dPairs_map, if_pos (And.intro nd hl)]
theorem gSrtSet_by {ga : En → Option D} {ρ : En} {ks : List (List Int)} (h1 : ga ρ = some (.lst (ks.map lenT))) (nd : ks.Nodup) (hl : ks.length < 64) (h : srtK ks = ks) : gSrtSet ga ρ = some (ks.map lenT) := by
  unfold gSrtSet
  rw [h1]
  simp only [Option.bind_some, dLens_map, if_pos (And.intro nd hl), h]
/-- [(k, d[k]) for k in order] -/
theorem lcG_pairs {i : Nat} {ge : En → Option D} {ρ : En} (f : List Int → Int) : ∀ {L : List (List Int)}, (∀ l ∈ L, ge (ρ.set i (.im (tI l))) = some (.tup [tI l, .int (f l)])) → lcG (set1 i) gYes ge ρ (L.map tI) = some ((L.map fun l => (l, f l)).map pairD)
  | [], _ => rfl
  | l :: L, h => by
    have ih := lcG_pairs f (L := L) fun y hy => h y (List.mem_cons_of_mem _ hy)
    show lcG (set1 i) gYes ge ρ (tI l :: L.map tI) = _
    unfold lcG
    simp only [set1_ap, Option.bind_some, gYes_ap, if_true, h l List.mem_cons_self, ih, Option.map_some, List.map_cons]
    rw [if_pos (by simp [lf, lfA])]
theorem lcG_lens {i j : Nat} {ge : En → Option D} {ρ : En} : ∀ {L : DK}, (∀ q ∈ L, ge ((ρ.set i (.im (tI q.1))).set j (.im (.int q.2))) = some (lenT q.1)) → lcG (set2 i j) gYes ge ρ (L.map pairD) = some ((L.map (·.1)).map lenT)
  | [], _ => rfl
  | q :: L, h => by
    have ih := lcG_lens (L := L) fun y hy => h y (List.mem_cons_of_mem _ hy)
    show lcG (set2 i j) gYes ge ρ (pairD q :: L.map pairD) = _
    unfold lcG
    have e : set2 i j (pairD q) ρ = some ((ρ.set i (.im (tI q.1))).set j (.im (.int q.2))) := rfl
    rw [e]
    simp only [Option.bind_some, gYes_ap, if_true, h q List.mem_cons_self, ih, Option.map_some, List.map_cons]
    rw [if_pos (by simp [lf, lfA])]
theorem toPyA_lens : ∀ L : List (List Int), toPyA (L.map lenT) = some (L.map keyD)
  | [] => rfl
  | l :: L => by simp [toPyA, toPy, toPyA_lens L, toPyA_ints, keyD]
theorem canLay_lens : ∀ L : List (List Int), PyData.canLayAll0 (L.map keyD) = true
  | [] => rfl
  | l :: L => by simp [PyData.canLayAll0, PyData.canLay0, canLay_lens L, canLay_ints, keyD]
theorem depth_lens : ∀ L : List (List Int), PyData.depthAll (L.map keyD) ≤ 2
  | [] => by simp [PyData.depthAll]
  | l :: L => by
    have := depth_lens L
    have := keyD_depth l
    simp only [List.map_cons, PyData.depthAll]
    omega
theorem eqv_lens : ∀ L : List (List Int), PyData.eqvAll (L.map keyD) (L.map keyD) = true
  | [] => rfl
  | l :: L => by simp [PyData.eqvAll, PyData.eqv, eqv_lens L, eqv_ints, keyD]
theorem eqD_lens (L : List (List Int)) : eqD (.lst (L.map lenT)) (.lst (L.map lenT)) = some (.bl true) := by
  have s1 : SeqAt.shaped (.list (L.map keyD)) = true := by
    have h := depth_lens L
    simp only [SeqAt.shaped, PyData.canLay0, PyData.depth, canLay_lens L, Bool.true_and]
    exact decide_eq_true (by omega)
  simp only [eqD, eqB, toPy, toPyA_lens, Option.map_some, Option.bind_some, s1, and_self, if_true, PyData.eqv, eqv_lens]
theorem pr_prime {s : Int} {g : List Int} (p : Pr s g) : primeM s g = true := by
  unfold primeM
  rw [p.no]
  have := p.l2
  simp
  omega
theorem nd_pairs (L : DK) : ndA (L.map pairD) = true := ndA_of fun d hd => by
  obtain ⟨q, _, rfl⟩ := List.mem_map.mp hd
  simp
theorem wIf_no {g : En → Option Bool} {U V : Po → En → Prop} {P : Po} {ρ : En} (h : g ρ = some false) (hv : V P ρ) : wIf g U V P ρ := ⟨false, h, (fun z => nomatch z), fun _ => hv⟩
theorem wIf_yes {g : En → Option Bool} {U V : Po → En → Prop} {P : Po} {ρ : En} (h : g ρ = some true) (hv : U P ρ) : wIf g U V P ρ := ⟨true, h, (fun _ => hv), fun z => nomatch z⟩
theorem nd_fac (s : Int) (a : List Int) : nd (facD s a) = true := by
  unfold facD
  simp [nd_pairs]
theorem eqDct_by {ga gb : En → Option D} {ρ : En} {x y : DK} (h1 : ga ρ = some (.dct x)) (h2 : gb ρ = some (.dct y)) (h : sameDK x y = true) : g2 eqDct ga gb ρ = some (.bl true) := by
  unfold g2
  rw [h1, h2]
  exact if_pos h
/-- the first j, so often -/
def flatJ (L : DK) (j : Nat) : List (List Int) := (L.take j).flatMap fun q => List.replicate q.2.toNat q.1
theorem flatJ_succ {L : DK} {j : Nat} {q : List Int × Int} (h : L[j]? = some q) : flatJ L (j + 1) = flatJ L j ++ List.replicate q.2.toNat q.1 := by
  unfold flatJ
  rw [List.take_succ, h, List.flatMap_append]
  simp
theorem flatJ_len (L : DK) (j : Nat) : (flatJ L j).length ≤ (L.flatMap fun q => List.replicate q.2.toNat q.1).length := by
  unfold flatJ
  have := List.take_append_drop j L
  conv => rhs; rw [← this, List.flatMap_append, List.length_append]
  omega
theorem lf_pairs (L : DK) : lfA (L.map pairD) = true := lfA_of fun d hd => by
  obtain ⟨q, _, rfl⟩ := List.mem_map.mp hd
  simp [lf, lfA]
end Pf

set_option Elab.async false
set_option linter.all false
set_option maxRecDepth 100000
set_option maxHeartbeats 2000000
/-! Pg15: the end beside a table. -/
namespace Pf
open PySem PySem.Spec L2 LamX
theorem law_endG {l : PySem.W.OpenLaw} {k : Nat} {q : Program} {loose : List Str} {XP : (Str → Option Value) → Heap → Prop} {YP : World → Heap → Prop} {d : DefRec} {K : Params → PySem.W.Frag} {x : Str} (hn : l.most = some 63) (hdf : d.params.defaults = []) (hr : Room k callerA) (hY : ∀ (w : World) (h : Heap), YP w h → (K w.params).In h)
    (f : List D → Option D) (hf : ∀ ns : List Int, ns.length ≤ 63 → f [.scr ns] = some (.bl true)) (q0 : Str)
    (F : ∀ (w : World) (mg : Str → Option Value) (fa : Addr) (h : Heap), YP w h → (K w.params).In h → h.Ns mainGlobals mg → mg d.name = some (.ref fa) →
      ∃ c P : Addr, h.get? P = some (PySem.W.tabObj #[]) ∧ (K w.params).lookup P = none ∧ PySem.W.CodeHd h c P ∧
        ∃ fd : FuncData, (∀ (s : Shared) (u : Value), BindsTo s fd ⟨[u], []⟩ [(x, u)]) ∧ ∀ base : Heap, (K w.params).In base → base.Ns mainGlobals mg → TabB base mg c P → FnOk l.prog w (K w.params) mg base CX0 k fa fd [x] (spG (K w.params) [(P, q0)] f)) :
    PySem.W.WalkO q loose XP YP l.row.toRowW d [] (fun f vs => PySem.call f vs) := by
  refine walk_ofTs (l := l) (n := 63) (k := k) (x := x) (CX := fun _ => L2.CX0) hn (by decide) hdf hr hY (fun w mg fa h Y KX G hm => ?_) (fun _ _ _ _ _ h => h)
  obtain ⟨c, P, h1, h2, h3, fd, h4, h5⟩ := F w mg fa h Y KX G hm
  have one : ∀ p ∈ [(c, P)], p = (c, P) := fun p hp => List.mem_singleton.mp hp
  refine ⟨fd, [(c, P)], spG (K w.params) [(P, q0)] f, fun p hp => by rw [one p hp]; exact h1, fun p hp => by rw [one p hp]; exact h2, fun p hp => by rw [one p hp]; exact h3, h4, fun H a ns hl _ hT hS => ?_, fun base a b t => h5 base a b (t (c, P) (List.mem_singleton.mpr rfl))⟩
  refine ⟨[.scr ns], .bl true, fun p hp => ?_, .cons (.scr hS) .nil, hf ns hl, fun v H' _ _ hv => by cases hv; rfl⟩
  rw [List.mem_singleton.mp hp]
  exact TabS.nil (hT (c, P) (List.mem_singleton.mpr rfl))
theorem law_fnG {P : Program} {w : World} {K : PySem.W.Frag} {mg : Str → Option Value} {k : Nat} {x : Str} {st : Stmt} {y : Str} {sp : Sp} {fa c Pt : Addr} (h : Hd K mg x st [y]) (hmg : mg x = some (.ref fa)) (hdf : ∀ (kV doc pm : Value) (an : Option Addr) (cdv ct : Value) (s : Shared) (v : Value), BindsTo s (PySem.W.fnOf x x (defArgs st) (defBody st) (defScope st) .none kV doc pm an cdv ct) ⟨[v], []⟩ [(y, v)])
    (F : ∀ (base : Heap) (fd : FuncData), Fun K x x st fa fd → TabB base mg c Pt → FnOk P w K mg base CX0 k fa fd [y] sp) : ∃ fd : FuncData, (∀ (s : Shared) (u : Value), BindsTo s fd ⟨[u], []⟩ [(y, u)]) ∧ ∀ base : Heap, K.In base → base.Ns mainGlobals mg → TabB base mg c Pt → FnOk P w K mg base CX0 k fa fd [y] sp := by
  obtain ⟨g, fd, F1, hm, b⟩ := h
  have e := hm.symm.trans hmg
  cases e
  refine ⟨fd, fun s v => ?_, fun base _ _ tb => F base fd F1 tb⟩
  obtain ⟨oc, od, kV, doc, pm, an, cdv, ct, osl, rfl, _, _⟩ := F1.ex
  exact hdf _ _ _ _ _ _ s v
abbrev HdCG {K : PySem.W.Frag} {h : Heap} (_ : K.In h) (mg : Str → Option Value) (x : Str) (st : Stmt) (ps : List Str) (c : Addr) : Prop := HdC K mg x st ps c
end Pf

set_option Elab.async false
set_option linter.all false
set_option maxRecDepth 100000
set_option maxHeartbeats 4000000
namespace Pf
open PySem PySem.Spec L2
def topS (i : Nat) : Stmt := PySem.Challenge.pw_primefold_k22_whole_factors.main.body.getD i (.Pass ⟨0, 0, 0, 0⟩)
abbrev s_law_trim : Stmt := topS 23
theorem sc_law_trim : FnScope ["_law_numbers", "_law_found"] ["_law_numbers"] (defScope s_law_trim) := ⟨rfl, rfl, rfl, by decide +kernel, rfl, by decide +kernel, by decide +kernel⟩
abbrev s_law_rest : Stmt := topS 26
theorem sc_law_rest : FnScope ["_law_one", "_law_other", "_law_size", "_law_found", "_law_lead", "_law_often", "_law_by", "_law_k", "_law_part"] ["_law_one", "_law_other", "_law_size"] (defScope s_law_rest) := ⟨rfl, rfl, rfl, by decide +kernel, rfl, by decide +kernel, by decide +kernel⟩
abbrev s_law_wholes : Stmt := topS 29
theorem sc_law_wholes : FnScope ["_law_length", "_law_size", "_law_found", "_law_k", "_law_longer", "_law_some", "_law_number_here"] ["_law_length", "_law_size"] (defScope s_law_wholes) := ⟨rfl, rfl, rfl, by decide +kernel, rfl, by decide +kernel, by decide +kernel⟩
abbrev s_law_is_prime : Stmt := topS 30
theorem sc_law_is_prime : FnScope ["_law_thing", "_law_size", "_law_length", "_law_some"] ["_law_thing", "_law_size"] (defScope s_law_is_prime) := ⟨rfl, rfl, rfl, by decide +kernel, rfl, by decide +kernel, by decide +kernel⟩
abbrev s_law_number : Stmt := topS 21
theorem sc_law_number : FnScope ["_law_thing", "_law_low", "_law_high"] ["_law_thing", "_law_low", "_law_high"] (defScope s_law_number) := ⟨rfl, rfl, rfl, by decide +kernel, rfl, by decide +kernel, by decide +kernel⟩
abbrev s_law_is_long_sum : Stmt := topS 27
theorem sc_law_is_long_sum : FnScope ["_law_thing", "_law_size", "_law_part"] ["_law_thing", "_law_size"] (defScope s_law_is_long_sum) := ⟨rfl, rfl, rfl, by decide +kernel, rfl, by decide +kernel, by decide +kernel⟩
abbrev s_law_is_sum : Stmt := topS 28
theorem sc_law_is_sum : FnScope ["_law_thing", "_law_size"] ["_law_thing", "_law_size"] (defScope s_law_is_sum) := ⟨rfl, rfl, rfl, by decide +kernel, rfl, by decide +kernel, by decide +kernel⟩
abbrev s_law_times : Stmt := topS 25
theorem sc_law_times : FnScope ["_law_one", "_law_other", "_law_size", "_law_found", "_law_k", "_law_left", "_law_n", "_law_right"] ["_law_one", "_law_other", "_law_size"] (defScope s_law_times) := ⟨rfl, rfl, rfl, by decide +kernel, rfl, by decide +kernel, by decide +kernel⟩
abbrev s_law_good : Stmt := topS 32
theorem sc_law_good : FnScope ["_law_thing", "_law_size", "_law_found", "_law_made", "_law_some", "_law_often", "_law_k", "_law_order", "_law_pair"] ["_law_thing", "_law_size", "_law_found"] (defScope s_law_good) := ⟨rfl, rfl, rfl, by decide +kernel, rfl, by decide +kernel, by decide +kernel⟩
abbrev s_law_cell_at : Stmt := topS 18
theorem sc_law_cell_at : FnScope ["_law_script", "_law_k"] ["_law_script", "_law_k"] (defScope s_law_cell_at) := ⟨rfl, rfl, rfl, by decide +kernel, rfl, by decide +kernel, by decide +kernel⟩
abbrev s_law_mixed : Stmt := topS 19
theorem sc_law_mixed : FnScope ["_law_script", "_law_k", "_law_drawn_here"] ["_law_script", "_law_k"] (defScope s_law_mixed) := ⟨rfl, rfl, rfl, by decide +kernel, rfl, by decide +kernel, by decide +kernel⟩
abbrev s_law_drawn : Stmt := topS 20
theorem sc_law_drawn : FnScope ["_law_number_here", "_law_k", "_law_drawn_here"] ["_law_number_here", "_law_k"] (defScope s_law_drawn) := ⟨rfl, rfl, rfl, by decide +kernel, rfl, by decide +kernel, by decide +kernel⟩
abbrev s_law_sum : Stmt := topS 22
theorem sc_law_sum : FnScope ["_law_number_here", "_law_size", "_law_most", "_law_many", "_law_found", "_law_k", "_law_drawn_here"] ["_law_number_here", "_law_size", "_law_most"] (defScope s_law_sum) := ⟨rfl, rfl, rfl, by decide +kernel, rfl, by decide +kernel, by decide +kernel⟩
abbrev s_inverse_of : Stmt := topS 7
theorem sc_inverse_of : FnScope ["number", "size", "other"] ["number", "size"] (defScope s_inverse_of) := ⟨rfl, rfl, rfl, by decide +kernel, rfl, by decide +kernel, by decide +kernel⟩
abbrev s_trimmed : Stmt := topS 6
theorem sc_trimmed : FnScope ["numbers", "many"] ["numbers"] (defScope s_trimmed) := ⟨rfl, rfl, rfl, by decide +kernel, rfl, by decide +kernel, by decide +kernel⟩
abbrev s_plus : Stmt := topS 9
theorem sc_plus : FnScope ["one", "other", "size", "found", "power", "number"] ["one", "other", "size"] (defScope s_plus) := ⟨rfl, rfl, rfl, by decide +kernel, rfl, by decide +kernel, by decide +kernel⟩
abbrev s_lowered : Stmt := topS 11
theorem sc_lowered : FnScope ["one", "often", "other", "by", "size", "moved", "number"] ["one", "often", "other", "by", "size"] (defScope s_lowered) := ⟨rfl, rfl, rfl, by decide +kernel, rfl, by decide +kernel, by decide +kernel⟩
abbrev s_parted : Stmt := topS 12
theorem sc_parted : FnScope ["one", "other", "size", "lead", "many", "rest", "by"] ["one", "other", "size"] (defScope s_parted) := ⟨rfl, rfl, rfl, by decide +kernel, rfl, by decide +kernel, by decide +kernel⟩
abbrev s_wholes : Stmt := topS 14
theorem sc_wholes : FnScope ["length", "size", "found", "power", "longer", "some", "number"] ["length", "size"] (defScope s_wholes) := ⟨rfl, rfl, rfl, by decide +kernel, rfl, by decide +kernel, by decide +kernel⟩
abbrev s_least_part : Stmt := topS 15
theorem sc_least_part : FnScope ["thing", "size", "length", "some"] ["thing", "size"] (defScope s_least_part) := ⟨rfl, rfl, rfl, by decide +kernel, rfl, by decide +kernel, by decide +kernel⟩
abbrev s_times : Stmt := topS 10
theorem sc_times : FnScope ["one", "other", "size", "found", "power", "number", "more", "with_it"] ["one", "other", "size"] (defScope s_times) := ⟨rfl, rfl, rfl, by decide +kernel, rfl, by decide +kernel, by decide +kernel⟩
abbrev s_factors : Stmt := topS 16
theorem sc_factors : FnScope ["thing", "size", "left", "often", "some", "order"] ["thing", "size"] (defScope s_factors) := ⟨rfl, rfl, rfl, by decide +kernel, rfl, by decide +kernel, by decide +kernel⟩
abbrev s_law_told : Stmt := topS 31
theorem sc_law_told : FnScope ["_law_thing", "_law_size", "_law_found", "e", "_law_good_here"] ["_law_thing", "_law_size"] (defScope s_law_told) := ⟨rfl, rfl, rfl, by decide +kernel, rfl, by decide +kernel, by decide +kernel⟩
abbrev s_law : Stmt := topS 33
theorem sc_law : FnScope ["_law_script", "_law_size", "_law_most", "_law_one", "_law_other", "_law_first", "_law_second", "_law_product", "_law_whole", "_law_often", "_law_some", "_law_many"] ["_law_script"] (defScope s_law) := ⟨rfl, rfl, rfl, by decide +kernel, rfl, by decide +kernel, by decide +kernel⟩
section
variable {P : Program} {w : World} {K : PySem.W.Frag} {mg : Str → Option Value} {base : Heap}
theorem ok_law_trim (hd_law_trim : Hd K mg "_law_trim" s_law_trim ["_law_numbers"]) (z_list : mg "list" = none) (z_tuple : mg "tuple" = none) : FnT P w K mg base 1 "_law_trim" f_law_trim := by
  refine fn_mk hd_law_trim sc_law_trim (f_law_trim) (sb_cons (ss_setL 1 (Pf.sl_list z_list (se_var 0 rfl rfl) rfl) rfl rfl)
    (sb_fg 0 (sb_cons (ss_while (st_sw (sw_and (st_cmp od_ne (se_var 1 rfl rfl) (se_of_sl (sl_lst sa_nil)) (nomark _)) (sw_and1 (st_cmp od_eq (se_ix (se_var 1 rfl rfl) (se_neg se_int) (fun _ _ => rfl)) se_int (nomark _)))))
    (sb_cons (ss_pop 1 rfl rfl)
    sb_nil))
    (sb_cons (ss_ret (se_t cd_tup z_tuple (by decide +kernel) (sa_cons (se_var 1 rfl rfl) sa_nil) rfl))
    sb_nil)))) ?_ ?_
  · intro ds d h
    obtain ⟨_, rfl, _⟩ := kL_of h
    rfl
  · intro ds d h
    obtain ⟨x0, rfl, e⟩ := kL_of h
    clear h
    simp only [Option.ite_none_right_eq_some] at e
    obtain ⟨hl, e⟩ := e
    cases e
    simp only [wCons_ap, wSetL_ap, wFg_ap]
    refine ⟨x0.map .int, by simp, ?_⟩
    refine wWhile_by (fun n ρ1 => n ≤ x0.length ∧ ∃ L, ρ1 = [.un, .ow (L.map .int)] ∧ L = x0.take n ∧ trimM (x0.take n) = trimM x0) x0.length ⟨Nat.le_refl _, x0, rfl, by simp, by rw [List.take_length]⟩ ?_
    rintro n ρ1 ⟨hn, L, rfl, hL, ht⟩
    have hlen : L.length = n := by rw [hL, List.length_take]; omega
    have hat : 0 < n → atI (L.map D.int) (-1) = some (.int (cf x0 (n - 1))) := fun h => by
      have hne : L ≠ [] := fun z => by rw [z] at hlen; simp at hlen; omega
      rw [atI_end hne, hlen, hL, cf_take, if_pos (by omega)]
    refine ⟨decide (0 < n) && decide (cf x0 (n - 1) = 0), ?_, fun hb => ?_, fun hb => ?_⟩
    · by_cases h : 0 < n
      · have hat' := hat h
        have hne : L ≠ [] := fun z => by rw [z] at hlen; simp at hlen; omega
        simp [hat', hne, h]
      · have hne : L = [] := List.length_eq_zero_iff.mp (by omega)
        simp [hne, h]
    · simp only [Bool.and_eq_true, decide_eq_true_eq] at hb
      have hne : L ≠ [] := fun z => by rw [z] at hlen; simp at hlen; omega
      simp only [wCons_ap, wPop_ap, wNil_ap]
      refine ⟨L.map .int, rfl, fun z => hne (List.map_eq_nil_iff.mp z), lfA_ints _, by simp [othLf], n - 1, by omega, by omega, L.dropLast, by simp, ?_, ?_⟩
      · rw [hL, List.dropLast_eq_take, List.length_take, List.take_take]; congr 1; omega
      · have := trim_step (l := x0) (n := n - 1) (by omega) hb.2
        rw [Nat.sub_add_cancel hb.1] at this
        rw [← this, ht]
    · simp only [Bool.and_eq_false_iff, decide_eq_false_iff_not] at hb
      have hs := trim_stop hn (by rcases hb with z | z
                                  · exact .inl (by omega)
                                  · exact .inr z)
      simp only [wCons_ap, wRet_ap]
      refine ⟨tI (trimM x0), ?_, rfl⟩
      rw [← ht, hs, ← hL]
      simp
theorem ok_law_rest (hd_law_rest : Hd K mg "_law_rest" s_law_rest ["_law_one", "_law_other", "_law_size"]) (z_enumerate : mg "enumerate" = none) (z_len : mg "len" = none) (z_list : mg "list" = none) (z_range : mg "range" = none) (z_tuple : mg "tuple" = none) (C_law_trim : FnT P w K mg base 1 "_law_trim" f_law_trim) : FnT P w K mg base 2 "_law_rest" f_law_rest := by
  refine fn_mk hd_law_rest sc_law_rest (f_law_rest) (sb_cons (ss_setL 3 (Pf.sl_list z_list (se_var 0 rfl rfl) rfl) rfl rfl)
    (sb_di 3 (sb_cons (ss_set 4 (se_ix (se_of_sl (sl_lc (own := [("_law_k", 7)]) (si_rng1 z_range (sa_cons (se_var 2 rfl rfl) sa_nil) rfl) rfl (sg1 7 rfl rfl) (by decide) (sp_one (st_cmp od_eq (se_bin od_mod (se_bin od_mul (se_var 7 rfl rfl) (se_ix (se_var 1 rfl rfl) (se_neg se_int) (fun _ _ => rfl))) (se_var 2 rfl rfl)) se_int (nomark _))) (se_var 7 rfl rfl))) se_int (fun _ _ => rfl)) rfl rfl)
    (sb_cons (ss_while (st_cmp od_ge (se_b cd_len z_len (by decide +kernel) (sa_cons (se_var 3 rfl rfl) sa_nil) rfl) (se_b cd_len z_len (by decide +kernel) (sa_cons (se_var 1 rfl rfl) sa_nil) rfl) (nomark _))
    (sb_cons (ss_set 5 (se_bin od_mul (se_ix (se_var 3 rfl rfl) (se_neg se_int) (fun _ _ => rfl)) (se_var 4 rfl rfl)) rfl rfl)
    (sb_cons (ss_set 6 (se_bin od_sub (se_b cd_len z_len (by decide +kernel) (sa_cons (se_var 3 rfl rfl) sa_nil) rfl) (se_b cd_len z_len (by decide +kernel) (sa_cons (se_var 1 rfl rfl) sa_nil) rfl)) rfl rfl)
    (sb_cons (ss_setL 3 (Pf.sl_list z_list (se_call C_law_trim.cal (sa_cons (se_of_sl (sl_lc (own := [("_law_k", 7), ("_law_part", 8)]) (si_enL z_enumerate (se_var 3 rfl rfl) rfl) rfl (sg2 7 8 rfl rfl rfl rfl) (by decide) sp_nil (se_bin od_mod (se_bin od_sub (se_var 8 rfl rfl) (se_bin od_mul (se_var 5 rfl rfl) (se_ix (se_bin od_add (se_bin od_mulT (se_tup (sa_cons se_int sa_nil)) (se_var 6 rfl rfl)) (se_var 1 rfl rfl)) (se_var 7 rfl rfl) (fun _ _ => rfl)))) (se_var 2 rfl rfl)))) sa_nil) rfl) rfl) rfl rfl)
    (sb_di 3 sb_nil)))))
    (sb_cons (ss_ret (se_t cd_tup z_tuple (by decide +kernel) (sa_cons (se_var 3 rfl rfl) sa_nil) rfl))
    sb_nil))))) ?_ ?_
  · intro ds d h
    obtain ⟨_, _, _, rfl, _⟩ := kTTI_of h
    rfl
  · intro ds d h
    obtain ⟨x0, x1, x2, rfl, e⟩ := kTTI_of h
    clear h
    simp only [Option.ite_none_right_eq_some] at e
    obtain ⟨⟨⟨hs, ca, cb, hl⟩, hb⟩, e⟩ := e
    cases e
    have g := hs.ge
    have hx : 0 < x2 := by omega
    have lb := List.length_pos_iff.mpr hb
    have li := last_in cb hb
    have lo := inv_ok hs li.1 li.2
    have le := lead_ok hs cb hb
    have lin : 0 < leadM x2 x1 ∧ leadM x2 x1 < x2 := ⟨lo.1, lo.2.1⟩
    have la := atI_end hb
    simp only [wCons_ap, wSet_ap, wSetL_ap, wDi_ap]
    have hc : lcG (set1 7) (gT (g2 eqD (g2 modD (g2 mulD (gV 7) (g2 ixD (gV 1) (g1 negD (gC (D.int 1))))) (gV 2)) (gC (D.int 1)))) (gV 7) [.im (tI x0), .im (tI x1), .im (.int x2), .im (lI x0), .un, .un, .un, .un, .un] (rngD 0 x2.toNat) = some ((((List.range x2.toNat).map Int.ofNat).filter (fun k => decide (cf x1 (x1.length - 1) * k % x2 = 1))).map D.int) := by
      rw [rngD_ints]
      have := lcG_int (i := 7) (gt := gT (g2 eqD (g2 modD (g2 mulD (gV 7) (g2 ixD (gV 1) (g1 negD (gC (D.int 1))))) (gV 2)) (gC (D.int 1)))) (ge := gV 7) (ρ := [.im (tI x0), .im (tI x1), .im (.int x2), .im (lI x0), .un, .un, .un, .un, .un]) (fun k => decide (cf x1 (x1.length - 1) * k % x2 = 1)) id (ns := (List.range x2.toNat).map Int.ofNat) fun k hk => by
        have m := mulD_in2 (x := k) (y := cf x1 (x1.length - 1)) (by omega) (by omega)
        refine ⟨?_, fun _ => rfl⟩
        simp [-mulD_int, la, m, hx, Int.mul_comm]
      rw [this, List.map_id]
    obtain ⟨_, _, _, rr, hr⟩ := lo
    rw [hr] at hc
    have hc : lcG (set1 7) (gT (g2 eqD (g2 modD (g2 mulD (gV 7) (g2 ixD (gV 1) (g1 negD (gC (D.int 1))))) (gV 2)) (gC (D.int 1)))) (gV 7) [.im (tI x0), .im (tI x1), .im (.int x2), .im (lI x0), .un, .un, .un, .un, .un] (rngD 0 x2.toNat) = some (.int (leadM x2 x1) :: rr.map D.int) := hc
    have r1 : -4611686018427387904 ≤ x2 := by omega
    have r2 : x2 < 4611686018427387904 := by omega
    have r3 : x2.toNat ≤ 1000000 := by omega
    refine ⟨x0.map .int, by simp, x0.map .int, rfl, .int (leadM x2 x1), by simp [hc, r1, r2, rngD_len, r3, at0], ?_⟩
    refine wWhile_by (fun n ρ1 => ∃ r m b c d e, ρ1 = [.im (tI x0), .im (tI x1), .im (.int x2), .im (lI r), .im (.int (leadM x2 x1)), b, c, d, e] ∧ noOw ρ1 = true ∧ r.length ≤ n ∧ Can x2 r ∧ r.length ≤ x0.length ∧ (divM x2 x1 (leadM x2 x1) n m r).2 = restM x2 x0 x1) x0.length ⟨x0, _, _, _, _, _, rfl, rfl, Nat.le_refl _, ca, Nat.le_refl _, rfl⟩ ?_
    rintro n ρ1 ⟨r, m, b, c, d, e, rfl, hno, hn, cr, hr, hd⟩
    refine ⟨decide (x1.length ≤ r.length), by simp, fun hb2 => ?_, fun hb2 => ?_⟩
    · have hb2 := of_decide_eq_true hb2
      obtain ⟨k, rfl⟩ : ∃ k, n = k + 1 := ⟨n - 1, by omega⟩
      rw [div_go hb2] at hd
      have rne : r ≠ [] := fun z => by rw [z, List.length_nil] at hb2; omega
      have lr := atI_end rne
      have ll := last_in cr rne
      have sh := low_len hs cr cb hb hb2 le
      obtain ⟨of, hof⟩ : ∃ of, of = cf r (r.length - 1) * leadM x2 x1 := ⟨_, rfl⟩
      have mm := mulD_in (x := cf r (r.length - 1)) (y := leadM x2 x1) (by omega) (by omega)
      have ob : 0 ≤ of ∧ of ≤ 25 := by
        rw [hof]
        have a1 : 0 ≤ cf r (r.length - 1) * leadM x2 x1 := Int.mul_nonneg (by omega) (by omega)
        have a2 : cf r (r.length - 1) * leadM x2 x1 ≤ 5 * 5 := Int.mul_le_mul (by omega) (by omega) (by omega) (by omega)
        omega
      rw [← hof] at hd sh mm
      obtain ⟨j, hj⟩ : ∃ j, j = r.length - x1.length := ⟨_, rfl⟩
      have ej : (r.length : Int) - (x1.length : Int) = (j : Int) := by omega
      rw [← hj] at hd sh
      simp only [wCons_ap, wSet_ap, wSetL_ap, wNil_ap, wDi_ap]
      refine ⟨.int of, by simp [-mulD_int, lr, mm], .int (j : Int), by simp [ej], ?_⟩
      have nlo : noOw [.im (tI x0), .im (tI x1), .im (.int x2), .im (lI r), .im (.int (leadM x2 x1)), .im (.int of), .im (.int (j : Int)), d, e] = true := by
        simp [noOw] at hno ⊢
        exact hno.2.2
      obtain ⟨Y, hY⟩ : ∃ Y, Y = List.replicate j 0 ++ x1 := ⟨_, rfl⟩
      have lY : Y.length = r.length := by rw [hY]; simp; omega
      have m1 : mulTD (.tup [.int 0]) (.int (j : Int)) = some (.tup ((List.replicate j (0 : Int)).map .int)) := by
        rw [mulTD_tup, if_pos ⟨by omega, by omega, by simp⟩, rep_flat, List.map_replicate, Int.toNat_natCast]
      have m2 : addD (.tup ((List.replicate j (0 : Int)).map .int)) (.tup (x1.map .int)) = some (.tup (Y.map .int)) := by
        rw [addD_tup, if_pos (by simp; omega), hY, List.map_append]
      have m3 : (g2 addD (g2 mulTD (gTup (gCons (gC (D.int 0)) gNil)) (gV 6)) (gV 1)) = fun ρ => ((gV 6 ρ).bind fun x => mulTD (.tup [.int 0]) x).bind fun x => (gV 1 ρ).bind fun y => addD x y := by
        funext ρ
        simp
      have hc : lcG (set2 7 8) gYes (g2 modD (g2 subD (gV 8) (g2 mulD (gV 5) (g2 ixD (g2 addD (g2 mulTD (gTup (gCons (gC (D.int 0)) gNil)) (gV 6)) (gV 1)) (gV 7)))) (gV 2)) [.im (tI x0), .im (tI x1), .im (.int x2), .im (lI r), .im (.int (leadM x2 x1)), .im (.int of), .im (.int (j : Int)), .un, .un] (enD 0 (r.map .int)) = some (((List.range r.length).map fun i => (cf r i - of * cf Y i) % x2).map .int) := by
        refine lcG_en (fun i => (cf r i - of * cf Y i) % x2) fun i hi => ?_
        have a1 := atI_cf (ns := Y) (k := (i : Int)) (by omega) (by omega)
        rw [Int.toNat_natCast] at a1
        have mm2 := mulD_in (x := of) (y := cf Y i) (by omega) (by omega)
        rw [m3]
        simp [-mulD_int, -mulTD_tup, -addD_tup, -List.map_replicate, m1, m2, a1, mm2, hx]
      obtain ⟨Z, hZ⟩ : ∃ Z, Z = (List.range r.length).map fun i => (cf r i - of * cf Y i) % x2 := ⟨_, rfl⟩
      have lZ : Z.length = r.length := by rw [hZ]; simp
      have tZ : trimM Z = lowM x2 r (of % x2) x1 j := by rw [hZ, hY]; exact low_law hs cr of (by omega)
      rw [← hZ] at hc
      have r4 : Z.length ≤ 2000 := by omega
      have r5 : r.length ≤ 1000000 := by omega
      refine ⟨(lowM x2 r (of % x2) x1 j).map .int, ?_, (lowM x2 r (of % x2) x1 j).map .int, rfl, k, by omega, lowM x2 r (of % x2) x1 j, m.set j (of % x2), .im (.int of), .im (.int (j : Int)), d, e, by simp, by (simp [noOw] at nlo ⊢; exact nlo), by omega, low_can hs _ _ _ _, by omega, hd⟩
      simp [nlo, hc, r5, enD_len, f_law_trim, r4, tZ]
    · have hb2 := of_decide_eq_false hb2
      rw [div_stop (by omega)] at hd
      simp only [wCons_ap, wRet_ap]
      refine ⟨_, ?_, rfl⟩
      rw [← hd]
      simp
theorem ok_law_wholes (hd_law_wholes : Hd K mg "_law_wholes" s_law_wholes ["_law_length", "_law_size"]) (z_range : mg "range" = none) : FnT P w K mg base 1 "_law_wholes" f_law_wholes := by
  refine fn_mk hd_law_wholes sc_law_wholes (f_law_wholes) (sb_cons (ss_setL 2 (sl_lst (sa_cons (se_tup sa_nil) sa_nil)) rfl rfl)
    (sb_di 2 (sb_cons (ss_for (si_rng1 z_range (sa_cons (se_var 0 rfl rfl) sa_nil) rfl) (sg1 3 rfl rfl)
    (sb_cons (ss_setL 4 (sl_lst sa_nil) rfl rfl)
    (sb_di 4 (sb_cons (ss_for (si_lst (se_var 2 rfl rfl)) (sg1 5 rfl rfl)
    (sb_cons (ss_setL 4 (sl_cat (sr_of_se (se_var 4 rfl rfl)) (sr_of_sl (sl_lc (own := [("_law_number_here", 6)]) (si_rng1 z_range (sa_cons (se_var 1 rfl rfl) sa_nil) rfl) rfl (sg1 6 rfl rfl) (by decide) sp_nil (se_bin od_add (se_var 5 rfl rfl) (se_tup (sa_cons (se_var 6 rfl rfl) sa_nil)))))) rfl rfl)
    (sb_di 4 sb_nil)))
    (sb_cons (ss_set 2 (se_var 4 rfl rfl) rfl rfl)
    sb_nil)))))
    (sb_cons (ss_ret (se_of_sl (sl_lc (own := [("_law_some", 5)]) (si_lst (se_var 2 rfl rfl)) rfl (sg1 5 rfl rfl) (by decide) sp_nil (se_bin od_add (se_var 5 rfl rfl) (se_tup (sa_cons se_int sa_nil))))))
    sb_nil)))) ?_ ?_
  · intro ds d h
    obtain ⟨_, _, rfl, _⟩ := kII_of h
    rfl
  · intro ds d h
    obtain ⟨x0, x1, rfl, e⟩ := kII_of h
    clear h
    simp only [Option.ite_none_right_eq_some] at e
    obtain ⟨⟨hs, hn, few⟩, e⟩ := e
    cases e
    have g := hs.ge
    obtain ⟨N, hN⟩ : ∃ N : Nat, x0 = (N : Int) := ⟨x0.toNat, by omega⟩
    subst hN
    rw [Int.toNat_natCast] at few ⊢
    have hN1 : N ≤ 1000000 := by have := few.1; omega
    simp only [wCons_ap, wSetL_ap, wDi_ap]
    refine ⟨[.tup []], by simp, [.tup []], rfl, ?_⟩
    refine wFor_by (rngD 0 N) (gR1_nat (by simp) hN1) (by simp) (fun j ρ1 => ∃ a b c d, ρ1 = [.im (.int (N : Int)), .im (.int x1), .im (.lst (ttD (tupsM x1 j))), a, b, c, d] ∧ noOw ρ1 = true) ⟨_, _, _, _, rfl, rfl⟩ ?_ ?_
    · rintro j d ρ1 hj ⟨a, b, c, dd, rfl, hno⟩
      obtain ⟨hj, rfl⟩ := rngD_some hj
      refine ⟨_, rfl, ?_⟩
      have fj := few_mono hs (show j + 1 ≤ N by omega) few
      have fl := few_le hs fj
      have fj0 := few_mono hs (show j ≤ N by omega) few
      have fl0 := few_le hs fj0
      have e1 : (stepsM x1 (tupsM x1 j)).flatten = ttD (tupsM x1 (j + 1)) := steps_flat _
      simp only [wCons_ap, wSetL_ap, wDi_ap]
      refine ⟨[], by simp, [], rfl, ?_⟩
      have no2 : noOw [.im (.int (N : Int)), .im (.int x1), .im (.lst (ttD (tupsM x1 j))), .im (.int (0 + (j : Int))), .im (.lst []), c, dd] = true := by
        simp [noOw] at hno ⊢
        exact hno.2.2
      refine wFor_by (ttD (tupsM x1 j)) (gLs_by rfl (by simpa using no2)) (by simp) (fun m ρ1 => ∃ c, ρ1 = [.im (.int (N : Int)), .im (.int x1), .im (.lst (ttD (tupsM x1 j))), .im (.int (0 + (j : Int))), .im (.lst ((stepsM x1 (tupsM x1 j)).take m).flatten), c, dd] ∧ noOw ρ1 = true) ⟨c, by simp, by simpa using no2⟩ ?_ ?_
      · rintro m d ρ1 hm ⟨c, rfl, hno3⟩
        obtain ⟨l, hl, rfl⟩ := tt_get hm
        refine ⟨_, rfl, ?_⟩
        simp only [wCons_ap, wSetL_ap, wDi_ap, wNil_ap]
        have hst : (stepsM x1 (tupsM x1 j))[m]? = some (ttD ((numsM x1).map fun x => l ++ [x])) := by
          unfold stepsM
          rw [List.getElem?_map, hl]; rfl
        have ft := flat_take hst
        have fle := flat_le (es := stepsM x1 (tupsM x1 j)) (m + 1)
        rw [e1, tt_len] at fle
        rw [ft] at fle
        have ll : l.length + 1 ≤ 1000000 := by
          have := (tups_mem.mp (List.mem_of_getElem? hl)).1
          omega
        refine ⟨_, gCat_by (x := ((stepsM x1 (tupsM x1 j)).take m).flatten) (y := ttD ((numsM x1).map fun x => l ++ [x])) (by simp) (ext_row hs l (by simp) fun x => by simp [ll]) (by rw [List.length_append] at fle; omega), _, rfl, .im (tI l), by rw [ft]; simp, ?_⟩
        rw [← ft]
        simp [noOw] at hno3 ⊢
        exact hno3.2
      · rintro ρ1 ⟨c, rfl, hno3⟩
        have e2 : (stepsM x1 (tupsM x1 j)).take (ttD (tupsM x1 j)).length = stepsM x1 (tupsM x1 j) := List.take_of_length_le (by simp [ttD, stepsM])
        rw [e2, e1] at hno3 ⊢
        simp only [wCons_ap, wSet_ap, wNil_ap]
        refine ⟨.lst (ttD (tupsM x1 (j + 1))), by simp, _, _, _, _, rfl, ?_⟩
        simp [noOw] at hno3 ⊢
        exact hno3
    rintro ρ1 ⟨a, b, c, dd, rfl, hno⟩
    rw [rngD_len] at hno ⊢
    simp only [wCons_ap, wRet_ap]
    refine ⟨.lst (ttD (wholesM x1 N)), ?_, rfl⟩
    have fl := few_le hs few
    have q := gLc_by (gi := gLs (gV 2)) (own := [5]) (set := set1 5) (gt := gYes) (ge := g2 addD (gV 5) (gTup (gCons (gC (.int 1)) gNil))) (ρ := [.im (.int (N : Int)), .im (.int x1), .im (.lst (ttD (tupsM x1 N))), a, b, c, dd]) (ds := ttD (tupsM x1 N)) (gLs_by rfl hno) (by rw [tt_len]; omega) (lcG_tp (fun _ => true) (fun t => t ++ [1]) fun l hl => ⟨rfl, fun _ => by
      have ll : l.length + 1 ≤ 1000000 := by
        have := (tups_mem.mp hl).1
        have := few.1
        omega
      simp [ll]⟩)
    rw [List.filter_eq_self.mpr fun _ _ => rfl] at q
    have q' : gLc (gLs (gV 2)) [5] (set1 5) gYes (g2 addD (gV 5) (gTup (gCons (gC (.int 1)) gNil))) [.im (.int (N : Int)), .im (.int x1), .im (.lst (ttD (tupsM x1 N))), a, b, c, dd] = some (ttD (wholesM x1 N)) := q
    simp [-gLc_ap, -gLs_ap, q']
theorem ok_law_is_prime (hd_law_is_prime : Hd K mg "_law_is_prime" s_law_is_prime ["_law_thing", "_law_size"]) (z_len : mg "len" = none) (z_range : mg "range" = none) (C_law_rest : FnT P w K mg base 2 "_law_rest" f_law_rest) (C_law_wholes : FnT P w K mg base 1 "_law_wholes" f_law_wholes) : FnT P w K mg base 3 "_law_is_prime" f_law_is_prime := by
  refine fn_mk hd_law_is_prime sc_law_is_prime (f_law_is_prime) (sb_cons (ss_if (st_cmp od_lt (se_b cd_len z_len (by decide +kernel) (sa_cons (se_var 0 rfl rfl) sa_nil) rfl) se_int (nomark _))
    (sb_cons (ss_ret se_bl)
    sb_nil)
    sb_nil)
    (sb_cons (ss_for (si_rng2 z_range (sa_cons se_int (sa_cons (se_bin od_add (se_bin od_fdiv (se_bin od_sub (se_b cd_len z_len (by decide +kernel) (sa_cons (se_var 0 rfl rfl) sa_nil) rfl) se_int) se_int) se_int) sa_nil)) rfl) (sg1 2 rfl rfl)
    (sb_cons (ss_if (st_cmp od_ne (se_of_sl (sl_lc (own := [("_law_some", 3)]) (si_lst (se_call C_law_wholes.cal (sa_cons (se_var 2 rfl rfl) (sa_cons (se_var 1 rfl rfl) sa_nil)) rfl)) rfl (sg1 3 rfl rfl) (by decide) (sp_one (st_cmp od_eq (se_call C_law_rest.cal (sa_cons (se_var 0 rfl rfl) (sa_cons (se_var 3 rfl rfl) (sa_cons (se_var 1 rfl rfl) sa_nil))) rfl) (se_tup sa_nil) (nomark _))) (se_var 3 rfl rfl))) (se_of_sl (sl_lst sa_nil)) (nomark _))
    (sb_cons (ss_ret se_bl)
    sb_nil)
    sb_nil)
    sb_nil))
    (sb_cons (ss_ret se_bl)
    sb_nil))) ?_ ?_
  · intro ds d h
    obtain ⟨_, _, rfl, _⟩ := kTI_of h
    rfl
  · intro ds d h
    obtain ⟨x0, x1, rfl, e⟩ := kTI_of h
    clear h
    simp only [Option.ite_none_right_eq_some] at e
    obtain ⟨⟨hs, ca, hl, few⟩, e⟩ := e
    cases e
    have g := hs.ge
    simp only [wCons_ap, wIf_ap, wRet_ap, wNil_ap]
    refine ⟨decide (x0.length < 2), by simp; omega, fun hb => ?_, fun hb => ?_⟩
    · have hb := of_decide_eq_true hb
      refine ⟨.bl false, by simp, ?_⟩
      have : ¬ 1 < x0.length := by omega
      simp [primeM, this]
    have hb := of_decide_eq_false hb
    have h1 : 1 < x0.length := by omega
    refine wFor_by (rngD 1 (halfM x0)) (half_rng (a := x0) (by omega) (by simp)) (by simp) (fun j ρ1 => ∃ b c, ρ1 = [.im (tI x0), .im (.int x1), b, c] ∧ noOw ρ1 = true ∧ ∀ i, i < j → ∀ g ∈ wholesM x1 (i + 1), restM x1 x0 g ≠ []) ⟨_, _, rfl, rfl, fun i hi => absurd hi (Nat.not_lt_zero i)⟩ ?_ ?_
    · rintro j d ρ1 hj ⟨b, c, rfl, hno, hin⟩
      obtain ⟨hj2, rfl⟩ := rngD_some hj
      refine ⟨_, rfl, ?_⟩
      have e1 : (1 + (j : Int)).toNat = j + 1 := by omega
      have fj := few_mono hs (show j + 1 ≤ halfM x0 by omega) few
      have fw := f_lwholes_ok hs (n := 1 + (j : Int)) (by omega) (by rw [e1]; exact fj)
      rw [e1] at fw
      have no2 : noOw [.im (tI x0), .im (.int x1), .im (.int (1 + (j : Int))), .un] = true := by simp [noOw]
      have wl : (wholesM x1 (j + 1)).length ≤ 100000 := by rw [wh_len]; exact fj.2
      have hh : halfM x0 ≤ 20 := few.1
      have q := gLc_by (gi := gLs (gCall f_law_wholes (gCons (gV 2) (gCons (gV 1) gNil)))) (own := [3]) (set := set1 3) (gt := gT (g2 eqD (gCall f_law_rest (gCons (gV 0) (gCons (gV 3) (gCons (gV 1) gNil)))) (gTup gNil))) (ge := gV 3) (ρ := [.im (tI x0), .im (.int x1), .im (.int (1 + (j : Int))), c]) (ds := ttD (wholesM x1 (j + 1))) (gLs_by (by simp [fw]) (by simp [noOw] at hno ⊢; exact hno.2)) (by rw [tt_len]; omega) (lcG_tp (fun l => decide (restM x1 x0 l = [])) id fun l hl2 => by
        obtain ⟨cl, ll, _⟩ := whole_mem hs hl2
        have lne : l ≠ [] := fun z => by rw [z] at ll; simp at ll
        have fr := f_lrest_ok hs ca cl lne (by omega)
        exact ⟨by simp [fr], fun _ => by simp⟩)
      rw [List.map_id] at q
      have nq := neD_lt ((wholesM x1 (j + 1)).filter fun l => decide (restM x1 x0 l = []))
      refine ⟨!decide ((wholesM x1 (j + 1)).filter (fun l => decide (restM x1 x0 l = [])) = []), ?_, fun hb2 => ?_, fun hb2 => ?_⟩
      · simp [-gLc_ap, -gLs_ap, q, nq]
      · refine ⟨.bl false, by simp, ?_⟩
        have hne : (wholesM x1 (j + 1)).filter (fun l => decide (restM x1 x0 l = [])) ≠ [] := by simpa using hb2
        obtain ⟨l, hlm⟩ := List.exists_mem_of_ne_nil _ hne
        have hlm := List.mem_filter.mp hlm
        cases hq : leastM x1 x0 with
        | none => exact absurd (of_decide_eq_true hlm.2) (least_none.mp hq j hj2 l hlm.1)
        | some g => simp [primeM, hq]
      · have he : (wholesM x1 (j + 1)).filter (fun l => decide (restM x1 x0 l = [])) = [] := by simpa using hb2
        refine ⟨_, _, rfl, by simp [noOw] at hno ⊢; exact hno.2, fun i hi g' hg' => ?_⟩
        by_cases h2 : i < j
        · exact hin i h2 g' hg'
        · have : i = j := by omega
          subst this
          rw [List.filter_eq_nil_iff] at he
          simpa using he g' hg'
    · rintro ρ1 ⟨b, c, rfl, hno, hin⟩
      rw [rngD_len] at hin
      refine ⟨.bl true, by simp, ?_⟩
      simp [primeM, h1, least_none.mpr hin]
theorem ok_law_number (hd_law_number : Hd K mg "_law_number" s_law_number ["_law_thing", "_law_low", "_law_high"]) (z_bool : mg "bool" = none) (z_int : mg "int" = none) (z_isinstance : mg "isinstance" = none) : FnT P w K mg base 1 "_law_number" f_law_number := by
  refine fn_mk hd_law_number sc_law_number (f_law_number) (sb_cons (ss_ret (se_and (se_tr (se_isi "int" z_isinstance z_int (by decide +kernel) (se_var 0 rfl rfl) rfl rfl)) (se_and (se_not (se_tr (se_isi "bool" z_isinstance z_bool (by decide +kernel) (se_var 0 rfl rfl) rfl rfl))) (se_one (se_chain od_le od_le (se_var 1 rfl rfl) (se_var 0 rfl rfl) (se_var 2 rfl rfl))))))
    sb_nil) ?_ ?_
  · intro ds d h
    obtain ⟨_, _, _, rfl, _⟩ := kAII_of h
    rfl
  · intro ds d h
    obtain ⟨x0, x1, x2, rfl, e⟩ := kAII_of h
    clear h
    cases e
    cases x0 <;> simp [isNumB]
    split <;> simp_all <;> omega
theorem ok_law_is_long_sum (hd_law_is_long_sum : Hd K mg "_law_is_long_sum" s_law_is_long_sum ["_law_thing", "_law_size"]) (z_isinstance : mg "isinstance" = none) (z_tuple : mg "tuple" = none) (C_law_number : FnT P w K mg base 1 "_law_number" f_law_number) : FnT P w K mg base 2 "_law_is_long_sum" f_law_is_long_sum := by
  refine fn_mk hd_law_is_long_sum sc_law_is_long_sum (f_law_is_long_sum) (sb_cons (ss_if (st_sw (sw_or (st_not (st_val (se_isi "tuple" z_isinstance z_tuple (by decide +kernel) (se_var 0 rfl rfl) rfl rfl))) (sw_or1 (st_cmp od_ne (se_of_sl (sl_lcv 2 (se_var 0 rfl rfl) rfl rfl rfl (sp_one (st_not (st_val (se_call C_law_number.cal (sa_cons (se_var 2 rfl rfl) (sa_cons se_int (sa_cons (se_bin od_sub (se_var 1 rfl rfl) se_int) sa_nil))) rfl)))) rfl)) (se_of_sl (sl_lst sa_nil)) (nomark _)))))
    (sb_cons (ss_ret se_bl)
    sb_nil)
    sb_nil)
    (sb_cons (ss_ret (se_or (se_tr (se_cmp od_eq (se_var 0 rfl rfl) (se_tup sa_nil) (nomark _))) (se_one (se_tr (se_cmp od_ne (se_ix (se_var 0 rfl rfl) (se_neg se_int) (fun _ _ => rfl)) se_int (nomark _))))))
    sb_nil)) ?_ ?_
  · intro ds d h
    obtain ⟨_, _, rfl, _⟩ := kAI_of h
    rfl
  · intro ds d h
    obtain ⟨x0, x1, rfl, e⟩ := kAI_of h
    clear h
    simp at e
    obtain ⟨⟨hok, hsz⟩, rfl⟩ := e
    cases x0 with
    | tup ds =>
      have hok' : okNA 59 ds = true := by simpa only [okN] using hok
      simp only [wCons_ap, wIf_ap, wRet_ap, wNil_ap]
      refine ⟨!(ds.all fun d => isNumB d 0 (x1 - 1)), ?_, fun h => ⟨_, rfl, ?_⟩, fun h => ?_⟩
      · have hc : lvG 2 (gNot (gT (gCall f_law_number (gCons (gV 2) (gCons (gC (.int 0)) (gCons (g2 subD (gV 1) (gC (.int 1))) gNil)))))) [.im (.tup ds), .im (.int x1), .un] ds = some (ds.filter fun d => !isNumB d 0 (x1 - 1)) :=
          lvG_fm _ fun d _ => by simp [f_law_number, kAII]
        have hz : ds.length ≤ 1000000 := of_decide_eq_true hsz
        have hq := eqB_lnil (okNA_mono _ (by decide) (okNA_filter (fun d => !isNumB d 0 (x1 - 1)) hok'))
        simp [hz, hc, neD, hq]
        rw [Bool.eq_iff_iff]
        simp
      · simp only [Bool.not_eq_true'] at h
        simp [isLongB, h]
      · simp only [Bool.not_eq_false'] at h
        obtain ⟨ns, rfl⟩ := all_int isNumB_int h
        have e0 : isLongB (tI ns) x1 = nzL ns := by
          have e1 : isLongB (tI ns) x1 = ((ns.map D.int).all (fun d => isNumB d 0 (x1 - 1)) && lastNZ (ns.map .int)) := rfl
          rw [e1, h, lastNZ_ints]
          simp
        rw [e0]
        cases hq : ns.getLast? with
        | none =>
          have : ns = [] := List.getLast?_eq_none_iff.mp hq
          subst this
          simp [nzL_nil]
        | some i =>
          have hne : ns ≠ [] := fun z => by subst z; cases hq
          simp [last_at hq, hne, nzL_some hq]
    | ftp ds => simp [okN] at hok
    | _ => simp [isLongB]
theorem ok_law_is_sum (hd_law_is_sum : Hd K mg "_law_is_sum" s_law_is_sum ["_law_thing", "_law_size"]) (z_len : mg "len" = none) (C_law_is_long_sum : FnT P w K mg base 2 "_law_is_long_sum" f_law_is_long_sum) : FnT P w K mg base 3 "_law_is_sum" f_law_is_sum := by
  refine fn_mk hd_law_is_sum sc_law_is_sum (f_law_is_sum) (sb_cons (ss_ret (se_and (se_tr (se_call C_law_is_long_sum.cal (sa_cons (se_var 0 rfl rfl) (sa_cons (se_var 1 rfl rfl) sa_nil)) rfl)) (se_one (se_tr (se_cmp od_le (se_b cd_len z_len (by decide +kernel) (sa_cons (se_var 0 rfl rfl) sa_nil) rfl) se_int (nomark _))))))
    sb_nil) ?_ ?_
  · intro ds d h
    obtain ⟨_, _, rfl, _⟩ := kAI_of h
    rfl
  · intro ds d h
    obtain ⟨x0, x1, rfl, e⟩ := kAI_of h
    clear h
    simp at e
    obtain ⟨⟨hok, hsz⟩, rfl⟩ := e
    simp only [wCons_ap, wRet_ap, wNil_ap]
    refine ⟨_, ?_, rfl⟩
    cases x0 with
    | tup ds =>
      have hle : ((ds.length : Int) ≤ 9) = (ds.length ≤ 9) := propext (by omega)
      simp [f_law_is_long_sum, kAI, hok, hsz, lenLe9, hle]
      cases isLongB (D.tup ds) x1 <;> simp
    | _ => simp [f_law_is_long_sum, kAI, hok, szD, isLongB]
theorem ok_law_times (hd_law_times : Hd K mg "_law_times" s_law_times ["_law_one", "_law_other", "_law_size"]) (z_enumerate : mg "enumerate" = none) (z_len : mg "len" = none) (C_law_trim : FnT P w K mg base 1 "_law_trim" f_law_trim) : FnT P w K mg base 2 "_law_times" f_law_times := by
  refine fn_mk hd_law_times sc_law_times (f_law_times) (sb_cons (ss_setL 3 (sl_rep (sr_of_sl (sl_lst (sa_cons se_int sa_nil))) (se_bin od_add (se_b cd_len z_len (by decide +kernel) (sa_cons (se_var 0 rfl rfl) sa_nil) rfl) (se_b cd_len z_len (by decide +kernel) (sa_cons (se_var 1 rfl rfl) sa_nil) rfl))) rfl rfl)
    (sb_cons (ss_for (si_enT z_enumerate (se_var 0 rfl rfl) rfl) (sg2 4 5 rfl rfl rfl rfl)
    (sb_cons (ss_for (si_enT z_enumerate (se_var 1 rfl rfl) rfl) (sg2 6 7 rfl rfl rfl rfl)
    (sb_cons (ss_ix 3 rfl rfl (se_bin od_add (se_var 4 rfl rfl) (se_var 6 rfl rfl)) (se_bin od_mod (se_bin od_add (se_ix (se_var 3 rfl rfl) (se_bin od_add (se_var 4 rfl rfl) (se_var 6 rfl rfl)) (fun _ _ => rfl)) (se_bin od_mul (se_var 5 rfl rfl) (se_var 7 rfl rfl))) (se_var 2 rfl rfl)))
    sb_nil))
    sb_nil))
    (sb_cons (ss_ret (se_call C_law_trim.cal (sa_cons (se_var 3 rfl rfl) sa_nil) rfl))
    sb_nil))) ?_ ?_
  · intro ds d h
    obtain ⟨_, _, _, rfl, _⟩ := kTTI_of h
    rfl
  · intro ds d h
    obtain ⟨x0, x1, x2, rfl, e⟩ := kTTI_of h
    clear h
    simp only [Option.ite_none_right_eq_some] at e
    obtain ⟨⟨hs, ca, cb, hl⟩, e⟩ := e
    cases e
    have g := hs.ge
    have hx : 0 < x2 := by omega
    simp only [wCons_ap, wSetL_ap]
    refine ⟨_, rep0 (n := x0.length + x1.length) (by simp) (by omega), ?_⟩
    refine wFor_by (enD 0 (x0.map .int)) (by simp) (by simp) (fun j ρ1 => ∃ L a b c d, ρ1 = [.im (tI x0), .im (tI x1), .im (.int x2), .ow (L.map .int), a, b, c, d] ∧ othLf ρ1 3 = true ∧ L.length = x0.length + x1.length ∧ ∀ k, k < L.length → cf L k = conv k (cf (x0.take j)) (cf x1) % x2) ⟨List.replicate (x0.length + x1.length) 0, _, _, _, _, rfl, by simp [othLf], by simp, fun k _ => by
      have e0 : cf (x0.take 0) = fun _ => 0 := rfl
      rw [cf_rep, e0, conv_zero]; simp⟩ ?_ ?_
    · rintro j d ρ1 hj ⟨L, a, b, c, dd, rfl, hl2, hL, hc⟩
      obtain ⟨hj, rfl⟩ := en_get hj
      refine ⟨_, rfl, ?_⟩
      simp only [wCons_ap]
      refine wFor_by (enD 0 (x1.map .int)) (by simp) (by simp) (fun m ρ1 => ∃ L c d, ρ1 = [.im (tI x0), .im (tI x1), .im (.int x2), .ow (L.map .int), .im (.int j), .im (.int (cf x0 j)), c, d] ∧ othLf ρ1 3 = true ∧ L.length = x0.length + x1.length ∧ ∀ k, k < L.length → cf L k = (conv k (cf (x0.take j)) (cf x1) + if j ≤ k ∧ k - j < m then cf x0 j * cf x1 (k - j) else 0) % x2) ⟨L, c, dd, by simp, by simp [othLf] at hl2 ⊢; exact hl2.2.2, hL, fun k hk => by rw [hc k hk, if_neg (by omega), Int.add_zero]⟩ ?_ ?_
      · rintro m d ρ1 hm ⟨L, c, dd, rfl, hl2, hL, hc⟩
        obtain ⟨hm, rfl⟩ := en_get hm
        refine ⟨_, rfl, ?_⟩
        simp only [wCons_ap, wIx_ap, wNil_ap]
        have hat := atI_cf (ns := L) (k := (j : Int) + (m : Int)) (by omega) (by omega)
        have e2 := hc (j + m) (by omega)
        have e4 : j + m - j = m := by omega
        rw [if_neg (by omega), Int.add_zero] at e2
        have e3 : ((j : Int) + (m : Int)).toNat = j + m := by omega
        rw [e3, e2] at hat
        have b1 := ca.cf_lo j
        have b2 := (cf_mod ca.lo ca.hi j)
        have b3 := (emod_in hs (cf x0 j)).2
        have b5 := mulD_in (x := cf x0 j) (y := cf x1 m) (by omega) (by omega)
        refine ⟨_, (j : Int) + (m : Int), j + m, .int ((conv (j + m) (cf (x0.take j)) (cf x1) % x2 + cf x0 j * cf x1 m) % x2), by simp [hat, hx, b5, -mulD_int], rfl, by simp, ?_, rfl, lfA_ints _, by simp [othLf], ?_⟩
        · rw [ixN_in (by omega) (by simp; omega), e3]
        · refine ⟨L.set (j + m) ((conv (j + m) (cf (x0.take j)) (cf x1) % x2 + cf x0 j * cf x1 m) % x2), .im (.int m), .im (.int (cf x1 m)), by simp, by simp [othLf], by simp [hL], fun i hi => ?_⟩
          rw [List.length_set] at hi
          rw [cf_set _ _ _ _ (by omega)]
          by_cases h1 : i = j + m
          · subst h1
            rw [if_pos rfl, if_pos (by omega), e4]
            rw [Int.add_emod, Int.emod_emod, ← Int.add_emod]
          · rw [if_neg h1, hc i hi]
            by_cases h2 : j ≤ i ∧ i - j < m
            · rw [if_pos h2, if_pos (by omega)]
            · rw [if_neg h2, if_neg (by omega)]
      · rintro ρ1 ⟨L, c, dd, rfl, hl2, hL, hc⟩
        rw [enD_len, List.length_map] at hc
        refine ⟨L, _, _, _, _, rfl, hl2, hL, fun k hk => ?_⟩
        rw [hc k hk, conv_take]
        by_cases h2 : j ≤ k
        · by_cases h3 : k - j < x1.length
          · rw [if_pos ⟨h2, h3⟩, if_pos h2]
          · rw [if_neg (by omega), if_pos h2, cf_ge (l := x1) (by omega), Int.mul_zero]
        · rw [if_neg (by omega), if_neg h2]
    rintro ρ1 ⟨L, a, b, c, d, rfl, hl2, hL, hc⟩
    rw [enD_len, List.length_map, List.take_length] at hc
    simp only [wCons_ap, wRet_ap, wNil_ap]
    have hn : L.length ≤ 2000 := by omega
    refine ⟨tI (trimM L), by simp [f_law_trim, kL, hn], ?_⟩
    have e5 : trimM L = timesM x2 x0 x1 := times_of hs fun i => by
      by_cases hi : i < L.length
      · exact hc i hi
      · rw [cf_ge (by omega)]
        have := le_times (s := x2) x0 x1 i (by omega)
        rw [ce_mul] at this
        rw [← this]
        exact (conv_cong i (fun i => by rw [ce_pl, Int.emod_emod]) (fun i => by rw [ce_pl, Int.emod_emod]))
    rw [e5]
theorem ok_law_good (hd_law_good : Hd K mg "_law_good" s_law_good ["_law_thing", "_law_size", "_law_found"]) (z_isinstance : mg "isinstance" = none) (z_len : mg "len" = none) (z_range : mg "range" = none) (z_set : mg "set" = none) (z_sorted : mg "sorted" = none) (z_tuple : mg "tuple" = none) (C_law_is_prime : FnT P w K mg base 3 "_law_is_prime" f_law_is_prime) (C_law_is_sum : FnT P w K mg base 3 "_law_is_sum" f_law_is_sum) (C_law_number : FnT P w K mg base 1 "_law_number" f_law_number) (C_law_times : FnT P w K mg base 2 "_law_times" f_law_times) : FnT P w K mg base 4 "_law_good" f_good22 := by
  refine fn_mk hd_law_good sc_law_good (f_good22) (sb_cons (ss_if (st_sw (sw_or (st_not (st_val (se_isi "tuple" z_isinstance z_tuple (by decide +kernel) (se_var 2 rfl rfl) rfl rfl))) (sw_or (st_cmp od_ne (se_b cd_len z_len (by decide +kernel) (sa_cons (se_var 2 rfl rfl) sa_nil) rfl) se_int (nomark _)) (sw_or1 (st_not (st_val (se_call C_law_number.cal (sa_cons (se_ix (se_var 2 rfl rfl) se_int (fun _ _ => rfl)) (sa_cons se_int (sa_cons (se_bin od_sub (se_var 1 rfl rfl) se_int) sa_nil))) rfl)))))))
    (sb_cons (ss_ret se_bl)
    sb_nil)
    sb_nil)
    (sb_cons (ss_if (st_sw (sw_or (st_not (st_val (se_isi "tuple" z_isinstance z_tuple (by decide +kernel) (se_ix (se_var 2 rfl rfl) se_int (fun _ _ => rfl)) rfl rfl))) (sw_or1 (st_cmp od_ne (se_of_sl (sl_lc (own := [("_law_pair", 8)]) (si_tup (se_ix (se_var 2 rfl rfl) se_int (fun _ _ => rfl))) rfl (sg1 8 rfl rfl) (by decide) (sp_one (st_not (st_val (se_isi "tuple" z_isinstance z_tuple (by decide +kernel) (se_var 8 rfl rfl) rfl rfl)))) (se_var 8 rfl rfl))) (se_of_sl (sl_lst sa_nil)) (nomark _)))))
    (sb_cons (ss_ret se_bl)
    sb_nil)
    sb_nil)
    (sb_cons (ss_set 3 (se_tup (sa_cons (se_ix (se_var 2 rfl rfl) se_int (fun _ _ => rfl)) sa_nil)) rfl rfl)
    (sb_cons (ss_for (si_tup (se_ix (se_var 2 rfl rfl) se_int (fun _ _ => rfl))) (sg2 4 5 rfl rfl rfl rfl)
    (sb_cons (ss_if (st_sw (sw_or (st_not (st_val (se_call C_law_is_sum.cal (sa_cons (se_var 4 rfl rfl) (sa_cons (se_var 1 rfl rfl) sa_nil)) rfl))) (sw_or1 (st_not (st_val (se_call C_law_number.cal (sa_cons (se_var 5 rfl rfl) (sa_cons se_int (sa_cons se_int sa_nil))) rfl))))))
    (sb_cons (ss_ret se_bl)
    sb_nil)
    sb_nil)
    (sb_cons (ss_if (st_sw (sw_or (st_cmp od_eq (se_var 4 rfl rfl) (se_tup sa_nil) (nomark _)) (sw_or (st_cmp od_ne (se_ix (se_var 4 rfl rfl) (se_neg se_int) (fun _ _ => rfl)) se_int (nomark _)) (sw_or1 (st_not (st_val (se_call C_law_is_prime.cal (sa_cons (se_var 4 rfl rfl) (sa_cons (se_var 1 rfl rfl) sa_nil)) rfl)))))))
    (sb_cons (ss_ret se_bl)
    sb_nil)
    sb_nil)
    (sb_cons (ss_for (si_rng1 z_range (sa_cons (se_var 5 rfl rfl) sa_nil) rfl) (sg1 6 rfl rfl)
    (sb_cons (ss_set 3 (se_call C_law_times.cal (sa_cons (se_var 3 rfl rfl) (sa_cons (se_var 4 rfl rfl) (sa_cons (se_var 1 rfl rfl) sa_nil))) rfl) rfl rfl)
    sb_nil))
    sb_nil))))
    (sb_cons (ss_setLc 7 (own := [("_law_some", 4), ("_law_often", 5)]) (si_tup (se_ix (se_var 2 rfl rfl) se_int (fun _ _ => rfl))) rfl (sg2 4 5 rfl rfl rfl rfl) (by decide) sp_nil (se_tup (sa_cons (se_b cd_len z_len (by decide +kernel) (sa_cons (se_var 4 rfl rfl) sa_nil) rfl) (sa_cons (se_var 4 rfl rfl) sa_nil))) rfl rfl rfl rfl rfl)
    (sb_cons (ss_ret (se_and (se_tr (se_cmp od_eq (se_var 3 rfl rfl) (se_var 0 rfl rfl) (nomark _))) (se_one (se_tr (se_cmp od_eq (se_var 7 rfl rfl) (se_of_sl (sl_srtSet z_sorted z_set (se_var 7 rfl rfl) rfl rfl)) (nomark _))))))
    sb_nil)))))) ?_ ?_
  · intro ds d h
    obtain ⟨_, _, _, rfl, _⟩ := kTIA_of h
    rfl
  · intro ds d h
    obtain ⟨x0, x1, x2, rfl, e⟩ := kTIA_of h
    clear h
    simp only [Option.ite_none_right_eq_some] at e
    obtain ⟨⟨gf, rfl⟩, e⟩ := e
    cases e
    obtain ⟨ok, ha, l20, few⟩ := gf
    obtain ⟨hs, ca, la, fw⟩ := id ok
    have lp := List.length_pos_iff.mpr ha
    have li := last_in ca ha
    have gg := hs.ge
    have po := primes_ok hs ca ha
    have pf := bag_flat (fac_bag x1 x0)
    have fp := fac_prod hs ca ha
    have fs := fac_sorted x1 x0
    have nd := (fac_bag x1 x0).nd
    have bl := (fac_bag x1 x0).len
    obtain ⟨c, hc⟩ : ∃ c, c = cf x0 (x0.length - 1) := ⟨_, rfl⟩
    have pairs : ∀ q ∈ facK x1 x0, Pr x1 q.1 ∧ q.1.length ≤ 9 ∧ 1 ≤ q.2 ∧ q.2 ≤ 20 ∧ q.1.length ≤ x0.length := fun q hq => by
      obtain ⟨h1, h2⟩ := fac_pair hq
      have h3 : 0 < (primesOf x1 x0).count q.1 := List.count_pos_iff.mpr h1
      have h4 : (primesOf x1 x0).count q.1 ≤ (primesOf x1 x0).length := List.count_le_length
      exact ⟨(po.1 _ h1).1, few _ h1, by omega, by omega, (po.1 _ h1).2⟩
    have eD : facD x1 x0 = .tup [.int c, .ftp ((facK x1 x0).map pairD)] := by rw [facD, hc]
    rw [eD]
    rw [← hc] at li fp
    obtain ⟨L, hL⟩ : ∃ L, L = facK x1 x0 := ⟨_, rfl⟩
    rw [← hL] at pairs pf fp fs nd bl ⊢
    have fl := pf.length_eq
    simp only [wCons_ap, wIf_ap, wSet_ap, wRet_ap, wNil_ap, wSetL_ap]
    refine ⟨false, ?_, (fun z => nomatch z), fun _ => ?_⟩
    · simp [f_law_number, isNumB, at0]
      omega
    refine ⟨false, ?_, (fun z => nomatch z), fun _ => ?_⟩
    · have q1 : gLc (gTu (g2 ixD (gV 2) (gC (.int 1)))) [8] (set1 8) (gNot (gT (g1 (isiD "tuple") (gV 8)))) (gV 8) [.im (tI x0), .im (.int x1), .im (.tup [.int c, .ftp (L.map pairD)]), .un, .un, .un, .un, .un, .un] = some [] := by
        refine gLc_by (ds := L.map pairD) (by simp [at1]) (by rw [List.length_map]; omega) ?_
        rw [lcG_fm (fun _ => false) id fun d hd => ?_]
        · simp
        · obtain ⟨q, _, rfl⟩ := List.mem_map.mp hd
          exact ⟨_, rfl, by simp [wipeR], fun z => nomatch z⟩
      have q2 : stR ["_law_thing", "_law_size", "_law_found", "_law_made", "_law_some", "_law_often", "_law_k", "_law_order", "_law_pair"] [tI x0, D.int x1, D.tup [D.int c, D.ftp (L.map pairD)]] = [.im (tI x0), .im (.int x1), .im (.tup [.int c, .ftp (L.map pairD)]), .un, .un, .un, .un, .un, .un] := rfl
      rw [q2]
      simp [-gLc_ap, -gTu_ap, q1, at1]
    refine ⟨tI [c], by simp [at0], ?_⟩
    refine wFor_by (L.map pairD) (by simp [at1]) (by simp [noOw]) (fun j ρ1 => ∃ m S4 S5 S6, ρ1 = [.im (tI x0), .im (.int x1), .im (.tup [.int c, .ftp (L.map pairD)]), .im (tI m), S4, S5, S6, .un, .un] ∧ noOw [S4, S5, S6] = true ∧ Can x1 m ∧ pl x1 m = (c : Rg x1) * prR x1 (flatJ L j) ∧ m.length ≤ 1 + 8 * (flatJ L j).length) ⟨[c], .un, .un, .un, rfl, rfl, num_can hs li.1 li.2, ?_, by simp⟩ ?_ ?_
    · rw [pl_num]
      show (c : Rg x1) = (c : Rg x1) * 1
      grind
    · rintro j d ρ1 hj ⟨m, S4, S5, S6, rfl, hno, cm, pm, lm⟩
      rw [List.getElem?_map] at hj
      obtain ⟨⟨g, k⟩, hq, rfl⟩ := Option.map_eq_some_iff.mp hj
      obtain ⟨pg, g9, k1, k20, gl⟩ := pairs _ (List.mem_of_getElem? hq)
      simp only at pg g9 k1 k20 gl
      have fis := f_is_ok hs pg.w.c g9
      have okg : okL x1 g := okL_of hs pg.w.c (n := halfM x0) (by omega) (by unfold halfM; omega) fw
      have flp := f_lprime_ok okg
      rw [pr_prime pg] at flp
      have gne := pg.w.ne
      have ag := atI_end gne
      rw [pg.w.ld] at ag
      have tot := flatJ_len L (j + 1)
      rw [flatJ_succ hq, List.length_append, List.length_replicate] at tot
      simp only at tot
      have pl2 := po.2.2
      refine ⟨_, rfl, ?_⟩
      simp only [wCons_ap, wIf_ap, wSet_ap, wNil_ap]
      refine ⟨false, by simp [fis, f_law_number, isNumB, k1, k20], (fun z => nomatch z), fun _ => ⟨false, ?_, (fun z => nomatch z), fun _ => ?_⟩⟩
      · simp [flp, ag]
        exact gne
      have rk : gR1 (gCons (gV 5) gNil) [.im (tI x0), .im (.int x1), .im (.tup [.int c, .ftp (L.map pairD)]), .im (tI m), .im (tI g), .im (.int k), S6, .un, .un] = some (rngD 0 k.toNat) := gR1_by (by simp) ⟨by omega, by omega⟩
      refine wFor_by (rngD 0 k.toNat) rk (by simp [noOw] at hno ⊢) (fun i ρ1 => ∃ m6 S7, ρ1 = [.im (tI x0), .im (.int x1), .im (.tup [.int c, .ftp (L.map pairD)]), .im (tI m6), .im (tI g), .im (.int k), S7, .un, .un] ∧ noOw [S7] = true ∧ Can x1 m6 ∧ pl x1 m6 = (c : Rg x1) * prR x1 (flatJ L j ++ List.replicate i g) ∧ m6.length ≤ 1 + 8 * ((flatJ L j).length + i)) ⟨m, S6, rfl, ?_, cm, by rw [pm]; simp, by omega⟩ ?_ ?_
      · simp [noOw] at hno ⊢
        exact hno.2.2
      · rintro i d ρ1 hi ⟨m6, S7, rfl, hno2, cm6, pm6, lm6⟩
        obtain ⟨hi, rfl⟩ := rngD_some hi
        have ft := f_ltimes_ok hs cm6 pg.w.c (by omega)
        have ltm := times_len hs m6 g
        refine ⟨_, rfl, ?_⟩
        simp only [wCons_ap, wSet_ap, wNil_ap]
        refine ⟨tI (timesM x1 m6 g), by simp [ft], timesM x1 m6 g, .im (.int (0 + (i : Nat))), rfl, rfl, times_can hs _ _, ?_, by omega⟩
        rw [pl_times, pm6, prR_app, prR_app, show List.replicate (i + 1) g = g :: List.replicate i g from rfl, prR_cons]
        generalize prR x1 (flatJ L j) = U
        generalize prR x1 (List.replicate i g) = V
        grind
      · rintro ρ1 ⟨m6, S7, rfl, hno2, cm6, pm6, lm6⟩
        rw [rngD_len] at pm6 lm6
        refine ⟨m6, .im (tI g), .im (.int k), S7, rfl, ?_, cm6, ?_, ?_⟩
        · simp [noOw] at hno2 ⊢
          exact hno2
        · rw [flatJ_succ hq]
          exact pm6
        · rw [flatJ_succ hq, List.length_append, List.length_replicate]
          exact lm6
    · rintro ρ1 ⟨m, S4, S5, S6, rfl, hno, cm, pm, lm⟩
      rw [List.length_map] at pm lm
      have em : m = x0 := can_ext cm ca (by rw [pm, fp, flatJ, List.take_length])
      subst em
      refine ⟨(L.map (·.1)).map lenT, ?_, ?_⟩
      · refine gLc_by (ds := L.map pairD) (by simp [at1]) (by rw [List.length_map]; omega) (lcG_lens fun q hq => ?_)
        simp [wipeR]
      have qs := gSrtSet_by (ga := gV 7) (ρ := [.im (tI m), .im (.int x1), .im (.tup [.int c, .ftp (L.map pairD)]), .im (tI m), S4, S5, S6, .ow ((L.map (·.1)).map lenT), .un]) (ks := L.map (·.1)) (by simp) nd (by rw [List.length_map]; omega) fs
      have ql := eqD_lens (L.map (·.1))
      refine ⟨.bl true, ?_, rfl⟩
      simp [-List.map_map]
      rw [qs]
      show ((eqD (.lst ((L.map (·.1)).map lenT)) (.lst ((L.map (·.1)).map lenT))).bind (Option.map D.bl ∘ asB)) = some (D.bl true)
      rw [ql]
      rfl
theorem ok_law_cell_at (hd_law_cell_at : Hd K mg "_law_cell_at" s_law_cell_at ["_law_script", "_law_k"]) (z_len : mg "len" = none) : FnT P w K mg base 1 "_law_cell_at" f_law_cell_at := by
  refine fn_mk hd_law_cell_at sc_law_cell_at (f_law_cell_at) (sb_cons (ss_if (st_cmp od_lt (se_var 1 rfl rfl) (se_b cd_len z_len (by decide +kernel) (sa_cons (se_var 0 rfl rfl) sa_nil) rfl) (nomark _))
    (sb_cons (ss_ret (se_ix (se_var 0 rfl rfl) (se_var 1 rfl rfl) (fun _ _ => rfl)))
    sb_nil)
    sb_nil)
    (sb_cons (ss_ret se_int)
    sb_nil)) ?_ ?_
  · intro ds d h
    obtain ⟨_, _, rfl, _⟩ := kCI_of h
    rfl
  · intro ds d h
    obtain ⟨x0, x1, rfl, e⟩ := kCI_of h
    clear h
    simp at e
    obtain ⟨h0, rfl⟩ := e
    simp [cellM]
    constructor
    · intro hk
      have hk' : x1.toNat < x0.length := by omega
      rw [atI_get h0 (List.getElem?_eq_getElem hk')]
      simp [hk, hk']
    · intro hk hk2
      omega
theorem ok_law_mixed (hd_law_mixed : Hd K mg "_law_mixed" s_law_mixed ["_law_script", "_law_k"]) (C_law_cell_at : FnT P w K mg base 1 "_law_cell_at" f_law_cell_at) : FnT P w K mg base 2 "_law_mixed" f_law_mixed := by
  refine fn_mk hd_law_mixed sc_law_mixed (f_law_mixed) (sb_cons (ss_set 2 (se_bin od_mod (se_bin od_mul (se_bin od_add (se_bin od_add (se_call C_law_cell_at.cal (sa_cons (se_var 0 rfl rfl) (sa_cons (se_var 1 rfl rfl) sa_nil)) rfl) (se_bin od_mul se_int (se_var 1 rfl rfl))) se_int) se_int) se_int) rfl rfl)
    (sb_cons (ss_ret (se_bin od_mod (se_bin od_add (se_bin od_add (se_bin od_mul (se_var 2 rfl rfl) (se_var 2 rfl rfl)) (se_bin od_mul se_int (se_var 2 rfl rfl))) (se_var 1 rfl rfl)) se_int))
    sb_nil)) ?_ ?_
  · intro ds d h
    obtain ⟨_, _, rfl, _⟩ := kCI_of h
    rfl
  · intro ds d h
    obtain ⟨x0, x1, rfl, e⟩ := kCI_of h
    clear h
    simp at e
    obtain ⟨h0, rfl⟩ := e
    simp [f_law_cell_at, h0, mixS, mixM]
    omega
theorem ok_law_drawn (hd_law_drawn : Hd K mg "_law_drawn" s_law_drawn ["_law_number_here", "_law_k"]) : FnT P w K mg base 1 "_law_drawn" f_law_drawn := by
  refine fn_mk hd_law_drawn sc_law_drawn (f_law_drawn) (sb_cons (ss_set 2 (se_bin od_mod (se_bin od_mul (se_bin od_add (se_bin od_add (se_var 0 rfl rfl) (se_bin od_mul se_int (se_var 1 rfl rfl))) se_int) se_int) se_int) rfl rfl)
    (sb_cons (ss_ret (se_bin od_mod (se_bin od_add (se_bin od_add (se_bin od_mul (se_var 2 rfl rfl) (se_var 2 rfl rfl)) (se_bin od_mul se_int (se_var 2 rfl rfl))) (se_var 1 rfl rfl)) se_int))
    sb_nil)) ?_ ?_
  · intro ds d h
    obtain ⟨_, _, rfl, _⟩ := kII_of h
    rfl
  · intro ds d h
    obtain ⟨x0, x1, rfl, e⟩ := kII_of h
    clear h
    cases e
    simp [drawM]
    omega
theorem ok_law_sum (hd_law_sum : Hd K mg "_law_sum" s_law_sum ["_law_number_here", "_law_size", "_law_most"]) (z_int : mg "int" = none) (z_range : mg "range" = none) (z_tuple : mg "tuple" = none) (C_law_drawn : FnT P w K mg base 1 "_law_drawn" f_law_drawn) : FnT P w K mg base 2 "_law_sum" f_law_sum := by
  refine fn_mk hd_law_sum sc_law_sum (f_law_sum) (sb_cons (ss_set 3 (se_bin od_mod (se_var 0 rfl rfl) (se_bin od_add (se_var 2 rfl rfl) se_int)) rfl rfl)
    (sb_cons (ss_setL 4 (sl_lst sa_nil) rfl rfl)
    (sb_cons (ss_for (si_rng1 z_range (sa_cons (se_var 3 rfl rfl) sa_nil) rfl) (sg1 5 rfl rfl)
    (sb_cons (ss_set 6 (se_call C_law_drawn.cal (sa_cons (se_var 0 rfl rfl) (sa_cons (se_var 5 rfl rfl) sa_nil)) rfl) rfl rfl)
    (sb_cons (ss_app 4 rfl rfl (se_bin od_mul (se_bin od_mod (se_bin od_fdiv (se_var 6 rfl rfl) se_int) (se_var 1 rfl rfl)) (se_t cd_int z_int (by decide +kernel) (sa_cons (se_or (se_tr (se_cmp od_gt (se_bin od_mod (se_bin od_fdiv (se_var 0 rfl rfl) se_int) se_int) se_int (nomark _))) (se_one (se_tr (se_cmp od_eq (se_bin od_mod (se_var 6 rfl rfl) se_int) se_int (nomark _))))) sa_nil) rfl)))
    sb_nil)))
    (sb_cons (ss_if (st_cmp od_gt (se_var 3 rfl rfl) se_int (nomark _))
    (sb_cons (ss_ix 4 rfl rfl (se_neg se_int) (se_bin od_add se_int (se_bin od_mod (se_call C_law_drawn.cal (sa_cons (se_var 0 rfl rfl) (sa_cons se_int sa_nil)) rfl) (se_bin od_sub (se_var 1 rfl rfl) se_int))))
    sb_nil)
    sb_nil)
    (sb_cons (ss_ret (se_t cd_tup z_tuple (by decide +kernel) (sa_cons (se_var 4 rfl rfl) sa_nil) rfl))
    sb_nil))))) ?_ ?_
  · intro ds d h
    obtain ⟨_, _, _, rfl, _⟩ := kIII_of h
    rfl
  · intro ds d h
    obtain ⟨x0, x1, x2, rfl, e⟩ := kIII_of h
    clear h
    simp at e
    obtain ⟨⟨h0, h1, h2, h3, h4⟩, rfl⟩ := e
    have hm := Int.emod_nonneg x0 (show x2 + 1 ≠ 0 by omega)
    have hm2 := Int.emod_lt_of_pos x0 (show 0 < x2 + 1 by omega)
    simp only [wCons_ap, wSet_ap, wSetL_ap]
    refine ⟨.int (x0 % (x2 + 1)), by simp; omega, [], rfl, ?_⟩
    refine wFor_by (rngD 0 (x0 % (x2 + 1)).toNat) (by simp; omega) (by simp) (fun j ρ1 => ∃ a b, ρ1 = [.im (.int x0), .im (.int x1), .im (.int x2), .im (.int (x0 % (x2 + 1))), .ow (((List.range j).map (coefM x0 x1)).map .int), a, b] ∧ othLf ρ1 4 = true) ⟨_, _, rfl, by simp [othLf]⟩ ?_ ?_
    · rintro j d ρ1 hj ⟨a, b, rfl, hl⟩
      obtain ⟨hj, rfl⟩ := rngD_some hj
      refine ⟨_, rfl, ?_⟩
      have dn := drawM_nonneg x0 (j : Int)
      have dl := drawM_lt x0 (j : Int)
      have hx : 0 < x1 := by omega
      have em : drawM x0 (j : Int) / 8 % x1 < x1 := Int.emod_lt_of_pos _ hx
      have en := Int.emod_nonneg (drawM x0 (j : Int) / 8) (show x1 ≠ 0 by omega)
      simp only [wCons_ap, wSet_ap, wNil_ap, wApp_ap]
      refine ⟨.int (drawM x0 j), by simp [f_law_drawn], _, .int (coefM x0 x1 j), rfl, ?_, by simp; omega, rfl, lfA_ints _, by simp [othLf], ?_⟩
      · simp [hx, coefM]
        by_cases c1 : 0 < x0 / 16 % 3 <;> by_cases c2 : drawM x0 (j : Int) % 3 = 0 <;> simp [c1, c2] <;> omega
      · exact ⟨.im (.int j), .im (.int (drawM x0 j)), by simp [List.range_succ], by simp [othLf]⟩
    · rintro ρ1 ⟨a, b, rfl, hl⟩
      rw [rngD_len]
      simp only [wCons_ap, wIf_ap, wIx_ap, wRet_ap, wNil_ap]
      have dn := drawM_nonneg x0 40
      have es := Int.emod_nonneg (drawM x0 40) (show x1 - 1 ≠ 0 by omega)
      refine ⟨decide (0 < x0 % (x2 + 1)), by simp, fun hp => ?_, fun hp => ?_⟩
      · have hp := of_decide_eq_true hp
        refine ⟨_, -1, (x0 % (x2 + 1)).toNat - 1, .int (1 + drawM x0 40 % (x1 - 1)), by simp [f_law_drawn]; omega, rfl, rfl, ?_, rfl, lfA_ints _, by rw [rngD_len] at hl; exact hl, ?_⟩
        · simp only [List.length_map, List.length_range]
          unfold ixN
          rw [if_neg (by decide), if_pos (by omega)]
          congr 1
          omega
        · refine ⟨_, rfl, ?_⟩
          simp [sumM, hp]
      · have hp := of_decide_eq_false hp
        refine ⟨_, rfl, ?_⟩
        simp [sumM, hp]
theorem ok_inverse_of (hd_inverse_of : Hd K mg "inverse_of" s_inverse_of ["number", "size"]) (z_range : mg "range" = none) : FnT P w K mg base 1 "inverse_of" f_inverse_of := by
  refine fn_mk hd_inverse_of sc_inverse_of (f_inverse_of) (sb_cons (ss_ret (se_ix (se_of_sl (sl_lc (own := [("other", 2)]) (si_rng1 z_range (sa_cons (se_var 1 rfl rfl) sa_nil) rfl) rfl (sg1 2 rfl rfl) (by decide) (sp_one (st_cmp od_eq (se_bin od_mod (se_bin od_mul (se_var 0 rfl rfl) (se_var 2 rfl rfl)) (se_var 1 rfl rfl)) se_int (nomark _))) (se_var 2 rfl rfl))) se_int (fun _ _ => rfl)))
    sb_nil) ?_ ?_
  · intro ds d h
    obtain ⟨_, _, rfl, _⟩ := kII_of h
    rfl
  · intro ds d h
    obtain ⟨x0, x1, rfl, e⟩ := kII_of h
    clear h
    simp only [Option.ite_none_right_eq_some] at e
    obtain ⟨⟨hs, h0, h1⟩, e⟩ := e
    cases e
    have g := hs.ge
    simp only [wCons_ap, wRet_ap]
    refine ⟨_, ?_, rfl⟩
    obtain ⟨_, _, _, r, hr⟩ := inv_ok hs h0 h1
    have hc : lcG (set1 2) (gT (g2 eqD (g2 modD (g2 mulD (gV 0) (gV 2)) (gV 1)) (gC (D.int 1)))) (gV 2) [.im (.int x0), .im (.int x1), .un] (rngD 0 x1.toNat) = some (((List.range x1.toNat).map Int.ofNat).filter (fun k => decide (x0 * k % x1 = 1)) |>.map D.int) := by
      rw [rngD_ints]
      have := lcG_int (i := 2) (gt := gT (g2 eqD (g2 modD (g2 mulD (gV 0) (gV 2)) (gV 1)) (gC (D.int 1)))) (ge := gV 2) (ρ := [.im (.int x0), .im (.int x1), .un]) (fun k => decide (x0 * k % x1 = 1)) id (ns := (List.range x1.toNat).map Int.ofNat) fun k hk => by
        have hx : 0 < x1 := by omega
        refine ⟨?_, fun _ => rfl⟩
        simp [hx]
        omega
      rw [this, List.map_id]
    rw [hr] at hc
    have r1 : -4611686018427387904 ≤ x1 := by omega
    have r2 : x1 < 4611686018427387904 := by omega
    have r3 : x1.toNat ≤ 1000000 := by omega
    simp [hc, r1, r2, rngD_len, r3, at0]
theorem ok_trimmed (hd_trimmed : Hd K mg "trimmed" s_trimmed ["numbers"]) (z_len : mg "len" = none) (z_tuple : mg "tuple" = none) : FnT P w K mg base 1 "trimmed" f_trimmed := by
  refine fn_mk hd_trimmed sc_trimmed (f_trimmed) (sb_cons (ss_set 1 (se_b cd_len z_len (by decide +kernel) (sa_cons (se_var 0 rfl rfl) sa_nil) rfl) rfl rfl)
    (sb_cons (ss_while (st_sw (sw_and (st_cmp od_gt (se_var 1 rfl rfl) se_int (nomark _)) (sw_and1 (st_cmp od_eq (se_ix (se_var 0 rfl rfl) (se_bin od_sub (se_var 1 rfl rfl) se_int) (fun _ _ => rfl)) se_int (nomark _)))))
    (sb_cons (ss_set 1 (se_bin od_sub (se_var 1 rfl rfl) se_int) rfl rfl)
    sb_nil))
    (sb_cons (ss_ret (se_t cd_tup z_tuple (by decide +kernel) (sa_cons (se_slA (se_var 0 rfl rfl) so_none (so_some (se_var 1 rfl rfl))) sa_nil) rfl))
    sb_nil))) ?_ ?_
  · intro ds d h
    obtain ⟨_, rfl, _⟩ := kA_of h
    rfl
  · intro ds d h
    obtain ⟨x0, rfl, e⟩ := kA_of h
    clear h
    obtain ⟨ns, hx, hl, rfl⟩ := trimA_of e
    simp only [wCons_ap, wSet_ap]
    refine ⟨.int ns.length, by rcases hx with rfl | rfl <;> simp, ?_⟩
    refine wWhile_by (fun n ρ1 => n ≤ ns.length ∧ ρ1 = [.im x0, .im (.int n)] ∧ trimM (ns.take n) = trimM ns) ns.length ⟨Nat.le_refl _, rfl, by rw [List.take_length]⟩ ?_
    rintro n ρ1 ⟨hn, rfl, ht⟩
    have hat : 0 < n → ixD x0 (.int ((n : Int) - 1)) = some (.int (cf ns (n - 1))) := fun h => by
      have := atI_cf (ns := ns) (k := (n : Int) - 1) (by omega) (by omega)
      have e2 : ((n : Int) - 1).toNat = n - 1 := by omega
      rw [e2] at this
      rcases hx with rfl | rfl <;> exact this
    refine ⟨decide (0 < n) && decide (cf ns (n - 1) = 0), ?_, fun hb => ?_, fun hb => ?_⟩
    · by_cases h : 0 < n
      · simp [h, hat h]
      · simp [h]
    · simp only [Bool.and_eq_true, decide_eq_true_eq] at hb
      simp only [wCons_ap, wSet_ap, wNil_ap]
      refine ⟨.int ((n : Int) - 1), by simp, n - 1, by omega, by omega, ?_, ?_⟩
      · have : ((n : Int) - 1) = ((n - 1 : Nat) : Int) := by omega
        rw [this]; rfl
      · have := trim_step (l := ns) (n := n - 1) (by omega) hb.2
        rw [Nat.sub_add_cancel hb.1] at this
        rw [← this, ht]
    · simp only [Bool.and_eq_false_iff, decide_eq_false_iff_not] at hb
      have hs := trim_stop hn (by rcases hb with z | z
                                  · exact .inl (by omega)
                                  · exact .inr z)
      simp only [wCons_ap, wRet_ap]
      refine ⟨tI (trimM ns), ?_, rfl⟩
      rw [← ht, hs]
      rcases hx with rfl | rfl <;> simp [cut_to]
theorem ok_plus (hd_plus : Hd K mg "plus" s_plus ["one", "other", "size"]) (z_enumerate : mg "enumerate" = none) (z_len : mg "len" = none) (z_max : mg "max" = none) (C_trimmed : FnT P w K mg base 1 "trimmed" f_trimmed) : FnT P w K mg base 2 "plus" f_plus := by
  refine fn_mk hd_plus sc_plus (f_plus) (sb_cons (ss_setL 3 (sl_rep (sr_of_sl (sl_lst (sa_cons se_int sa_nil))) (se_b cd_max z_max (by decide +kernel) (sa_cons (se_b cd_len z_len (by decide +kernel) (sa_cons (se_var 0 rfl rfl) sa_nil) rfl) (sa_cons (se_b cd_len z_len (by decide +kernel) (sa_cons (se_var 1 rfl rfl) sa_nil) rfl) sa_nil)) rfl)) rfl rfl)
    (sb_cons (ss_for (si_enT z_enumerate (se_var 0 rfl rfl) rfl) (sg2 4 5 rfl rfl rfl rfl)
    (sb_cons (ss_ix 3 rfl rfl (se_var 4 rfl rfl) (se_var 5 rfl rfl))
    sb_nil))
    (sb_cons (ss_for (si_enT z_enumerate (se_var 1 rfl rfl) rfl) (sg2 4 5 rfl rfl rfl rfl)
    (sb_cons (ss_ix 3 rfl rfl (se_var 4 rfl rfl) (se_bin od_mod (se_bin od_add (se_ix (se_var 3 rfl rfl) (se_var 4 rfl rfl) (fun _ _ => rfl)) (se_var 5 rfl rfl)) (se_var 2 rfl rfl)))
    sb_nil))
    (sb_cons (ss_ret (se_call C_trimmed.cal (sa_cons (se_var 3 rfl rfl) sa_nil) rfl))
    sb_nil)))) ?_ ?_
  · intro ds d h
    obtain ⟨_, _, _, rfl, _⟩ := kTTI_of h
    rfl
  · intro ds d h
    obtain ⟨x0, x1, x2, rfl, e⟩ := kTTI_of h
    clear h
    simp only [Option.ite_none_right_eq_some] at e
    obtain ⟨⟨hs, ca, cb, hl⟩, e⟩ := e
    cases e
    have g := hs.ge
    simp only [wCons_ap, wSetL_ap]
    refine ⟨(List.replicate (max x0.length x1.length) (0 : Int)).map .int, ?_, ?_⟩
    · have e1 : (if (x1.length : Int) > (x0.length : Int) then (x1.length : Int) else (x0.length : Int)) = ((max x0.length x1.length : Nat) : Int) := by
        split <;> omega
      simp [e1, rep_flat]
      omega
    refine wFor_by (enD 0 (x0.map .int)) (by simp) (by simp) (fun j ρ1 => ∃ L a b, ρ1 = [.im (tI x0), .im (tI x1), .im (.int x2), .ow (L.map .int), a, b] ∧ othLf ρ1 3 = true ∧ L.length = max x0.length x1.length ∧ ∀ i, cf L i = if i < j then cf x0 i else 0) ⟨List.replicate (max x0.length x1.length) 0, _, _, rfl, by simp [othLf], by simp, fun i => by rw [cf_rep]; split <;> rfl⟩ ?_ ?_
    · rintro j d ρ1 hj ⟨L, a, b, rfl, hl2, hL, hc⟩
      obtain ⟨hj, rfl⟩ := en_get hj
      refine ⟨_, rfl, ?_⟩
      simp only [wCons_ap, wIx_ap, wNil_ap]
      refine ⟨_, (j : Int), j, .int (cf x0 j), by simp, rfl, by simp, ?_, rfl, lfA_ints _, by simp [othLf], ?_⟩
      · rw [ixN_in (by omega) (by simp; omega)]; simp
      · refine ⟨L.set j (cf x0 j), .im (.int j), .im (.int (cf x0 j)), by simp, by simp [othLf], by simp [hL], fun i => ?_⟩
        rw [cf_set _ _ _ _ (by omega), hc i]
        by_cases h1 : i = j
        · rw [if_pos h1, if_pos (by omega), h1]
        · rw [if_neg h1]
          by_cases h2 : i < j
          · rw [if_pos h2, if_pos (by omega)]
          · rw [if_neg h2, if_neg (by omega)]
    rintro ρ1 ⟨L, a, b, rfl, hl2, hL, hc⟩
    rw [enD_len, List.length_map] at hc
    have hi0 : ∀ i, cf L i = if i < 0 then (cf x0 i + cf x1 i) % x2 else cf x0 i := fun i => by
      rw [hc i, if_neg (Nat.not_lt_zero i)]
      by_cases h1 : i < x0.length
      · rw [if_pos h1]
      · rw [if_neg h1, cf_ge (by omega)]
    refine wFor_by (enD 0 (x1.map .int)) (by simp) (by simp) (fun j ρ1 => ∃ L a b, ρ1 = [.im (tI x0), .im (tI x1), .im (.int x2), .ow (L.map .int), a, b] ∧ othLf ρ1 3 = true ∧ L.length = max x0.length x1.length ∧ ∀ i, cf L i = if i < j then (cf x0 i + cf x1 i) % x2 else cf x0 i) ⟨L, a, b, rfl, hl2, hL, hi0⟩ ?_ ?_
    · rintro j d ρ1 hj ⟨L, a, b, rfl, hl2, hL, hc⟩
      obtain ⟨hj, rfl⟩ := en_get hj
      refine ⟨_, rfl, ?_⟩
      simp only [wCons_ap, wIx_ap, wNil_ap]
      have hx : 0 < x2 := by omega
      have hat := atI_cf (ns := L) (k := (j : Int)) (by omega) (by omega)
      have e2 := hc j
      rw [if_neg (by omega)] at e2
      have e3 : ((j : Int)).toNat = j := by omega
      rw [e3, e2] at hat
      refine ⟨_, (j : Int), j, .int ((cf x0 j + cf x1 j) % x2), by simp [hat, hx], rfl, by simp, ?_, rfl, lfA_ints _, by simp [othLf], ?_⟩
      · rw [ixN_in (by omega) (by simp; omega)]; simp
      · refine ⟨L.set j ((cf x0 j + cf x1 j) % x2), .im (.int j), .im (.int (cf x1 j)), by simp, by simp [othLf], by simp [hL], fun i => ?_⟩
        rw [cf_set _ _ _ _ (by omega), hc i]
        by_cases h1 : i = j
        · rw [if_pos h1, if_pos (by omega), h1]
        · rw [if_neg h1]
          by_cases h2 : i < j
          · rw [if_pos h2, if_pos (by omega)]
          · rw [if_neg h2, if_neg (by omega)]
    rintro ρ1 ⟨L, a, b, rfl, hl2, hL, hc⟩
    rw [enD_len, List.length_map] at hc
    simp only [wCons_ap, wRet_ap, wNil_ap]
    have hn : L.length ≤ 2000 := by omega
    refine ⟨tI (trimM L), by simp [f_trimmed, kA, hn], ?_⟩
    have e5 : trimM L = plusM x2 x0 x1 := plus_of hs ca cb hL fun i => by
      rw [hc i]
      by_cases h1 : i < x1.length
      · rw [if_pos h1]
      · rw [if_neg h1, cf_ge (l := x1) (by omega), Int.add_zero, ← ca.ce i, ce_mod]
    rw [e5]
theorem ok_lowered (hd_lowered : Hd K mg "lowered" s_lowered ["one", "often", "other", "by", "size"]) (z_tuple : mg "tuple" = none) (C_plus : FnT P w K mg base 2 "plus" f_plus) (C_trimmed : FnT P w K mg base 1 "trimmed" f_trimmed) : FnT P w K mg base 3 "lowered" f_lowered := by
  refine fn_mk hd_lowered sc_lowered (f_lowered) (sb_cons (ss_set 5 (se_bin od_add (se_bin od_mulT (se_tup (sa_cons se_int sa_nil)) (se_var 3 rfl rfl)) (se_t cd_tup z_tuple (by decide +kernel) (sa_cons (se_of_sl (sl_lc (own := [("number", 6)]) (si_tup (se_var 2 rfl rfl)) rfl (sg1 6 rfl rfl) (by decide) sp_nil (se_bin od_mod (se_bin od_mul (se_neg (se_var 1 rfl rfl)) (se_var 6 rfl rfl)) (se_var 4 rfl rfl)))) sa_nil) rfl)) rfl rfl)
    (sb_cons (ss_ret (se_call C_plus.cal (sa_cons (se_var 0 rfl rfl) (sa_cons (se_call C_trimmed.cal (sa_cons (se_var 5 rfl rfl) sa_nil) rfl) (sa_cons (se_var 4 rfl rfl) sa_nil))) rfl))
    sb_nil)) ?_ ?_
  · intro ds d h
    obtain ⟨_, _, _, _, _, rfl, _⟩ := kTITII_of h
    rfl
  · intro ds d h
    obtain ⟨x0, x1, x2, x3, x4, rfl, e⟩ := kTITII_of h
    clear h
    simp only [Option.ite_none_right_eq_some] at e
    obtain ⟨⟨⟨hs, ca, cb, hl⟩, c0, c1, k0, k1⟩, e⟩ := e
    cases e
    have g := hs.ge
    have hx : 0 < x4 := by omega
    have hc : lcG (set1 6) gYes (g2 modD (g2 mulD (g1 negD (gV 1)) (gV 6)) (gV 4)) [.im (tI x0), .im (.int x1), .im (tI x2), .im (.int x3), .im (.int x4), .un, .un] (x2.map .int) = some ((x2.map fun n => -x1 * n % x4).map .int) := by
      refine lcG_intm _ fun n hn => ?_
      have m := mulD_in (x := -x1) (y := n) (by omega) (by omega)
      simp [-mulD_int, m, hx]
    simp only [wCons_ap, wSet_ap, wRet_ap, wNil_ap]
    refine ⟨.tup ((List.replicate x3.toNat 0 ++ x2.map fun n => -x1 * n % x4).map .int), ?_, tI (lowM x4 x0 x1 x2 x3.toNat), ?_, rfl⟩
    · have l1 : -1000 ≤ x3 := by omega
      have l2 : x3 ≤ 1000 := by omega
      have l3 : x2.length ≤ 1000000 := by omega
      have l4 : x3.toNat + x2.length ≤ 1000000 := by omega
      simp [hc, l1, l2, l3, l4, rep_flat]
    · have hn : (List.replicate x3.toNat 0 ++ x2.map fun n => -x1 * n % x4).length ≤ 2000 := by simp; omega
      have t1 := trimA_tup (List.replicate x3.toNat 0 ++ x2.map fun n => -x1 * n % x4)
      rw [if_pos hn] at t1
      have cc := low_can2 hs x3.toNat (-x1) x2
      have ll := trim_len (List.replicate x3.toNat 0 ++ x2.map fun n => -x1 * n % x4)
      have ll2 : (List.replicate x3.toNat 0 ++ x2.map fun n => -x1 * n % x4).length = x3.toNat + x2.length := by simp
      have ok : okC x4 x0 (trimM (List.replicate x3.toNat 0 ++ x2.map fun n => -x1 * n % x4)) 1000 := ⟨hs, ca, cc, by omega⟩
      have p1 : f_plus [tI x0, tI (trimM (List.replicate x3.toNat 0 ++ x2.map fun n => -x1 * n % x4)), .int x4] = some (tI (lowM x4 x0 x1 x2 x3.toNat)) := by
        simp only [f_plus, kTTI_mk, if_pos ok, low_plus hs]
      generalize (List.replicate x3.toNat 0 ++ x2.map fun n => -x1 * n % x4) = L at *
      simp [f_trimmed, kA, t1, p1]
theorem ok_parted (hd_parted : Hd K mg "parted" s_parted ["one", "other", "size"]) (z_len : mg "len" = none) (z_max : mg "max" = none) (C_inverse_of : FnT P w K mg base 1 "inverse_of" f_inverse_of) (C_lowered : FnT P w K mg base 3 "lowered" f_lowered) (C_trimmed : FnT P w K mg base 1 "trimmed" f_trimmed) : FnT P w K mg base 4 "parted" f_parted := by
  refine fn_mk hd_parted sc_parted (f_parted) (sb_cons (ss_if (st_cmp od_eq (se_b cd_len z_len (by decide +kernel) (sa_cons (se_var 1 rfl rfl) sa_nil) rfl) se_int (nomark _))
    (sb_cons ss_dead
    sb_nil)
    sb_nil)
    (sb_cons (ss_set 3 (se_call C_inverse_of.cal (sa_cons (se_ix (se_var 1 rfl rfl) (se_neg se_int) (fun _ _ => rfl)) (sa_cons (se_var 2 rfl rfl) sa_nil)) rfl) rfl rfl)
    (sb_cons (ss_setL 4 (sl_rep (sr_of_sl (sl_lst (sa_cons se_int sa_nil))) (se_b cd_max z_max (by decide +kernel) (sa_cons se_int (sa_cons (se_bin od_add (se_bin od_sub (se_b cd_len z_len (by decide +kernel) (sa_cons (se_var 0 rfl rfl) sa_nil) rfl) (se_b cd_len z_len (by decide +kernel) (sa_cons (se_var 1 rfl rfl) sa_nil) rfl)) se_int) sa_nil)) rfl)) rfl rfl)
    (sb_cons (ss_set 5 (se_var 0 rfl rfl) rfl rfl)
    (sb_cons (ss_while (st_cmp od_ge (se_b cd_len z_len (by decide +kernel) (sa_cons (se_var 5 rfl rfl) sa_nil) rfl) (se_b cd_len z_len (by decide +kernel) (sa_cons (se_var 1 rfl rfl) sa_nil) rfl) (nomark _))
    (sb_cons (ss_set 6 (se_bin od_sub (se_b cd_len z_len (by decide +kernel) (sa_cons (se_var 5 rfl rfl) sa_nil) rfl) (se_b cd_len z_len (by decide +kernel) (sa_cons (se_var 1 rfl rfl) sa_nil) rfl)) rfl rfl)
    (sb_cons (ss_ix 4 rfl rfl (se_var 6 rfl rfl) (se_bin od_mod (se_bin od_mul (se_ix (se_var 5 rfl rfl) (se_neg se_int) (fun _ _ => rfl)) (se_var 3 rfl rfl)) (se_var 2 rfl rfl)))
    (sb_cons (ss_set 5 (se_call C_lowered.cal (sa_cons (se_var 5 rfl rfl) (sa_cons (se_ix (se_var 4 rfl rfl) (se_var 6 rfl rfl) (fun _ _ => rfl)) (sa_cons (se_var 1 rfl rfl) (sa_cons (se_var 6 rfl rfl) (sa_cons (se_var 2 rfl rfl) sa_nil))))) rfl) rfl rfl)
    sb_nil))))
    (sb_cons (ss_ret (se_tup (sa_cons (se_call C_trimmed.cal (sa_cons (se_var 4 rfl rfl) sa_nil) rfl) (sa_cons (se_var 5 rfl rfl) sa_nil))))
    sb_nil)))))) ?_ ?_
  · intro ds d h
    obtain ⟨_, _, _, rfl, _⟩ := kTTI_of h
    rfl
  · intro ds d h
    obtain ⟨x0, x1, x2, rfl, e⟩ := kTTI_of h
    clear h
    simp only [Option.ite_none_right_eq_some] at e
    obtain ⟨⟨⟨hs, ca, cb, hl⟩, hb⟩, e⟩ := e
    cases e
    have g := hs.ge
    have hx : 0 < x2 := by omega
    have lb := List.length_pos_iff.mpr hb
    have li := last_in cb hb
    have lo := inv_ok hs li.1 li.2
    have fi : f_inverse_of [.int (cf x1 (x1.length - 1)), .int x2] = some (.int (leadM x2 x1)) := by
      simp only [f_inverse_of, kII_mk, if_pos (show Sz x2 ∧ 0 < cf x1 (x1.length - 1) ∧ cf x1 (x1.length - 1) < x2 from ⟨hs, li⟩)]
      rfl
    have le := lead_ok hs cb hb
    have lin : 0 < leadM x2 x1 ∧ leadM x2 x1 < x2 := ⟨lo.1, lo.2.1⟩
    have la := atI_end hb
    simp only [wCons_ap, wSet_ap, wSetL_ap, wIf_ap, wNil_ap, wDead_ap]
    have hne : ¬ ((x1.length : Int) = 0) := by omega
    refine ⟨false, by simp [hb], fun z => (nomatch z), fun _ => ?_⟩
    have e1 : (if ((x0.length : Int) - (x1.length : Int) + 1) > 0 then ((x0.length : Int) - (x1.length : Int) + 1) else 0) = ((x0.length + 1 - x1.length : Nat) : Int) := by
      split <;> omega
    refine ⟨.int (leadM x2 x1), by simp [la, fi], _, rep0 (n := x0.length + 1 - x1.length) (by simp [e1]) (by omega), tI x0, by simp, ?_⟩
    refine wWhile_by (fun n ρ1 => ∃ m r b, ρ1 = [.im (tI x0), .im (tI x1), .im (.int x2), .im (.int (leadM x2 x1)), .ow (m.map .int), .im (tI r), b] ∧ othLf ρ1 4 = true ∧ r.length ≤ n ∧ Can x2 r ∧ r.length ≤ x0.length ∧ m.length = x0.length + 1 - x1.length ∧ divM x2 x1 (leadM x2 x1) n m r = divM x2 x1 (leadM x2 x1) x0.length (List.replicate (x0.length + 1 - x1.length) 0) x0) x0.length ⟨_, x0, _, rfl, by simp [othLf], Nat.le_refl _, ca, Nat.le_refl _, by simp, rfl⟩ ?_
    rintro n ρ1 ⟨m, r, b, rfl, hol, hn, cr, hr, hm, hd⟩
    refine ⟨decide (x1.length ≤ r.length), by simp, fun hb2 => ?_, fun hb2 => ?_⟩
    · have hb2 := of_decide_eq_true hb2
      obtain ⟨k, rfl⟩ : ∃ k, n = k + 1 := ⟨n - 1, by omega⟩
      rw [div_go hb2] at hd
      have rne : r ≠ [] := fun z => by rw [z, List.length_nil] at hb2; omega
      have lr := atI_end rne
      have ll := last_in cr rne
      have sh := low_len hs cr cb hb hb2 le
      obtain ⟨c, hc⟩ : ∃ c, c = cf r (r.length - 1) * leadM x2 x1 % x2 := ⟨_, rfl⟩
      rw [← hc] at hd sh
      have cin := emod_in hs (cf r (r.length - 1) * leadM x2 x1)
      rw [← hc] at cin
      have mm := mulD_in (x := cf r (r.length - 1)) (y := leadM x2 x1) (by omega) (by omega)
      obtain ⟨j, hj⟩ : ∃ j, j = r.length - x1.length := ⟨_, rfl⟩
      have ej : (r.length : Int) - (x1.length : Int) = (j : Int) := by omega
      rw [← hj] at hd sh
      simp only [wCons_ap, wSet_ap, wIx_ap, wNil_ap]
      have al := atI_cf (ns := m.set j c) (k := (j : Int)) (by omega) (by simp; omega)
      rw [Int.toNat_natCast, cf_set _ _ _ _ (by omega), if_pos rfl] at al
      have fl : f_lowered [tI r, .int c, tI x1, .int (j : Int), .int x2] = some (tI (lowM x2 r c x1 j)) := by
        simp only [f_lowered, kTITII_mk, Int.toNat_natCast]
        rw [if_pos ⟨⟨hs, cr, cb, by omega⟩, cin.1, cin.2, by omega, by omega⟩]
      refine ⟨.int (j : Int), by simp [ej], m.map .int, (j : Int), j, .int c, by simp [-mulD_int, lr, mm, hx, hc], rfl, rfl, ?_, rfl, lfA_ints _, by simp [othLf], tI (lowM x2 r c x1 j), ?_, k, by omega, m.set j c, lowM x2 r c x1 j, .im (.int (j : Int)), by simp, by simp [othLf], by omega, low_can hs _ _ _ _, by omega, by simp [hm], hd⟩
      · rw [ixN_in (by omega) (by simp; omega)]; simp
      · rw [List.map_set] at al
        simp [-List.map_set, al, fl]
    · have hb2 := of_decide_eq_false hb2
      rw [div_stop (by omega)] at hd
      simp only [wCons_ap, wRet_ap]
      have hq : trimM m = quoM x2 x0 x1 := by rw [quoM, partM, ← hd]
      have hr2 : r = restM x2 x0 x1 := by rw [restM, partM, ← hd]
      refine ⟨_, ?_, rfl⟩
      have l2 : m.length ≤ 2000 := by omega
      simp [f_trimmed, kA, l2, hq, hr2]
theorem ok_wholes (hd_wholes : Hd K mg "wholes" s_wholes ["length", "size"]) (z_range : mg "range" = none) : FnT P w K mg base 1 "wholes" f_wholes := by
  refine fn_mk hd_wholes sc_wholes (f_wholes) (sb_cons (ss_setL 2 (sl_lst (sa_cons (se_tup sa_nil) sa_nil)) rfl rfl)
    (sb_di 2 (sb_cons (ss_for (si_rng1 z_range (sa_cons (se_var 0 rfl rfl) sa_nil) rfl) (sg1 3 rfl rfl)
    (sb_ext 4 2 5 (sl_lc (own := [("number", 6)]) (si_rng1 z_range (sa_cons (se_var 1 rfl rfl) sa_nil) rfl) rfl (sg1 6 rfl rfl) (by decide) sp_nil (se_bin od_add (se_var 5 rfl rfl) (se_tup (sa_cons (se_var 6 rfl rfl) sa_nil)))) (sb_cons (ss_set 2 (se_var 4 rfl rfl) rfl rfl)
    sb_nil) (by decide) (by decide) (by decide) rfl rfl rfl rfl rfl rfl rfl))
    (sb_fg 4 (sb_cons (ss_ret (se_of_sl (sl_lc (own := [("some", 5)]) (si_lst (se_var 2 rfl rfl)) rfl (sg1 5 rfl rfl) (by decide) sp_nil (se_bin od_add (se_var 5 rfl rfl) (se_tup (sa_cons se_int sa_nil))))))
    sb_nil))))) ?_ ?_
  · intro ds d h
    obtain ⟨_, _, rfl, _⟩ := kII_of h
    rfl
  · intro ds d h
    obtain ⟨x0, x1, rfl, e⟩ := kII_of h
    clear h
    simp only [Option.ite_none_right_eq_some] at e
    obtain ⟨⟨hs, hn, few⟩, e⟩ := e
    cases e
    have g := hs.ge
    obtain ⟨N, hN⟩ : ∃ N : Nat, x0 = (N : Int) := ⟨x0.toNat, by omega⟩
    subst hN
    rw [Int.toNat_natCast] at few ⊢
    have hN1 : N ≤ 1000000 := by have := few.1; omega
    simp only [wCons_ap, wSetL_ap, wDi_ap]
    refine ⟨[.tup []], by simp, [.tup []], rfl, ?_⟩
    refine wFor_by (rngD 0 N) (gR1_nat (by simp) hN1) (by simp) (fun j ρ1 => ∃ a b d, ρ1 = [.im (.int (N : Int)), .im (.int x1), .im (.lst (ttD (tupsM x1 j))), a, b, .un, d] ∧ exLf ρ1 4 2 5 = true) ⟨_, _, _, rfl, by simp [exLf]⟩ ?_ ?_
    · rintro j d ρ1 hj ⟨a, b, dd, rfl, hex⟩
      obtain ⟨hj, rfl⟩ := rngD_some hj
      refine ⟨_, rfl, ?_⟩
      have fj := few_mono hs (show j + 1 ≤ N by omega) few
      have fl := few_le hs fj
      have e1 : (stepsM x1 (tupsM x1 j)).flatten = ttD (tupsM x1 (j + 1)) := steps_flat _
      refine ⟨ttD (tupsM x1 j), stepsM x1 (tupsM x1 j), rfl, by simp, by simp, lfA_tt _, ?_, by simp [ttD, stepsM], fun k d e h1 h2 => ?_, ?_, ?_⟩
      · simp [exLf] at hex ⊢
        exact hex.2
      · obtain ⟨l, hl, rfl⟩ := tt_get h1
        unfold stepsM at h2
        rw [List.getElem?_map, hl] at h2
        cases h2
        refine ⟨lfA_tt _, ext_row hs l (by simp) fun x => ?_⟩
        have ll : l.length + 1 ≤ 1000000 := by
          have := (tups_mem.mp (List.mem_of_getElem? hl)).1
          omega
        simp [ll]
      · rw [e1, tt_len]; omega
      · rw [e1]
        simp only [wCons_ap, wSet_ap, wNil_ap]
        refine ⟨.lst (ttD (tupsM x1 (j + 1))), by simp, .im (.int (0 + (j : Int))), .ow (ttD (tupsM x1 (j + 1))), dd, by simp, ?_⟩
        simp [exLf] at hex ⊢
        exact hex.2
    rintro ρ1 ⟨a, b, dd, rfl, hex⟩
    rw [rngD_len]
    simp only [wFg_ap, wCons_ap, wRet_ap]
    refine ⟨.lst (ttD (wholesM x1 N)), ?_, rfl⟩
    have no : noOw [.im (.int (N : Int)), .im (.int x1), .im (.lst (ttD (tupsM x1 N))), a, .un, .un, dd] = true := by
      simp [exLf] at hex
      obtain ⟨h1, h2⟩ := hex
      cases a <;> cases dd <;> simp_all [noOw]
    have fl := few_le hs few
    have q := gLc_by (gi := gLs (gV 2)) (own := [5]) (set := set1 5) (gt := gYes) (ge := g2 addD (gV 5) (gTup (gCons (gC (.int 1)) gNil))) (ρ := [.im (.int (N : Int)), .im (.int x1), .im (.lst (ttD (tupsM x1 N))), a, .un, .un, dd]) (ds := ttD (tupsM x1 N)) (gLs_by rfl no) (by rw [tt_len]; omega) (lcG_tp (fun _ => true) (fun t => t ++ [1]) fun l hl => ⟨rfl, fun _ => by
      have ll : l.length + 1 ≤ 1000000 := by
        have := (tups_mem.mp hl).1
        have := few.1
        omega
      simp [ll]⟩)
    rw [List.filter_eq_self.mpr fun _ _ => rfl] at q
    have q' : gLc (gLs (gV 2)) [5] (set1 5) gYes (g2 addD (gV 5) (gTup (gCons (gC (.int 1)) gNil))) [.im (.int (N : Int)), .im (.int x1), .im (.lst (ttD (tupsM x1 N))), a, .un, .un, dd] = some (ttD (wholesM x1 N)) := q
    simp [-gLc_ap, -gLs_ap, q']
theorem ok_least_part (hd_least_part : Hd K mg "least_part" s_least_part ["thing", "size"]) (z_len : mg "len" = none) (z_range : mg "range" = none) (C_parted : FnT P w K mg base 4 "parted" f_parted) (C_wholes : FnT P w K mg base 1 "wholes" f_wholes) : FnT P w K mg base 5 "least_part" f_least_part := by
  refine fn_mk hd_least_part sc_least_part (f_least_part) (sb_cons (ss_for (si_rng2 z_range (sa_cons se_int (sa_cons (se_bin od_add (se_bin od_fdiv (se_bin od_sub (se_b cd_len z_len (by decide +kernel) (sa_cons (se_var 0 rfl rfl) sa_nil) rfl) se_int) se_int) se_int) sa_nil)) rfl) (sg1 2 rfl rfl)
    (sb_cons (ss_for (si_lst (se_call C_wholes.cal (sa_cons (se_var 2 rfl rfl) (sa_cons (se_var 1 rfl rfl) sa_nil)) rfl)) (sg1 3 rfl rfl)
    (sb_cons (ss_if (st_cmp od_eq (se_ix (se_call C_parted.cal (sa_cons (se_var 0 rfl rfl) (sa_cons (se_var 3 rfl rfl) (sa_cons (se_var 1 rfl rfl) sa_nil))) rfl) se_int (fun _ _ => rfl)) (se_tup sa_nil) (nomark _))
    (sb_cons (ss_ret (se_var 3 rfl rfl))
    sb_nil)
    sb_nil)
    sb_nil))
    sb_nil))
    (sb_cons (ss_ret se_non)
    sb_nil)) ?_ ?_
  · intro ds d h
    obtain ⟨_, _, rfl, _⟩ := kTI_of h
    rfl
  · intro ds d h
    obtain ⟨x0, x1, rfl, e⟩ := kTI_of h
    clear h
    simp only [Option.ite_none_right_eq_some] at e
    obtain ⟨⟨hs, ca, hl, few⟩, e⟩ := e
    cases e
    have g := hs.ge
    simp only [wCons_ap]
    refine wFor_by (rngD 1 (halfM x0)) (half_rng (a := x0) (by omega) (by simp)) (by simp) (fun j ρ1 => ∃ b c, ρ1 = [.im (tI x0), .im (.int x1), b, c] ∧ noOw ρ1 = true ∧ ∀ i, i < j → ∀ g ∈ wholesM x1 (i + 1), restM x1 x0 g ≠ []) ⟨_, _, rfl, rfl, fun i hi => absurd hi (Nat.not_lt_zero i)⟩ ?_ ?_
    · rintro j d ρ1 hj ⟨b, c, rfl, hno, hin⟩
      obtain ⟨hj2, rfl⟩ := rngD_some hj
      refine ⟨_, rfl, ?_⟩
      have e1 : (1 + (j : Int)).toNat = j + 1 := by omega
      have fw := f_wholes_ok hs (n := 1 + (j : Int)) (by omega) (by rw [e1]; exact few_mono hs (by omega) few)
      rw [e1] at fw
      have no2 : noOw [.im (tI x0), .im (.int x1), .im (.int (1 + (j : Int))), c] = true := by
        simp [noOw] at hno ⊢
        exact hno.2
      simp only [wCons_ap]
      refine wFor_by (ttD (wholesM x1 (j + 1))) (gLs_by (by simp [fw]) (by simpa using no2)) (by simp) (fun m ρ1 => ∃ c, ρ1 = [.im (tI x0), .im (.int x1), .im (.int (1 + (j : Int))), c] ∧ noOw ρ1 = true ∧ ∀ i, i < m → ∀ g', (wholesM x1 (j + 1))[i]? = some g' → restM x1 x0 g' ≠ []) ⟨c, by simp, by simpa using no2, fun i hi => absurd hi (Nat.not_lt_zero i)⟩ ?_ ?_
      · rintro m d ρ1 hm ⟨c, rfl, hno3, hin2⟩
        obtain ⟨l, hl2, rfl⟩ := tt_get hm
        refine ⟨_, rfl, ?_⟩
        obtain ⟨cl, ll, _⟩ := whole_mem hs (List.mem_of_getElem? hl2)
        have lne : l ≠ [] := fun z => by rw [z] at ll; simp at ll
        have hh : halfM x0 ≤ 20 := few.1
        have fp := f_parted_ok hs ca cl lne (by omega)
        simp only [wCons_ap, wIf_ap, wRet_ap, wNil_ap]
        refine ⟨decide (restM x1 x0 l = []), by simp [fp, at1], fun hb => ?_, fun hb => ?_⟩
        · have hb := of_decide_eq_true hb
          refine ⟨tI l, by simp, ?_⟩
          rw [least_some hj2 hin hl2 hin2 hb]
          rfl
        · have hb := of_decide_eq_false hb
          refine ⟨.im (tI l), by simp, ?_, fun i hi g' hg' => ?_⟩
          · simp [noOw]
          · by_cases h2 : i < m
            · exact hin2 i h2 g' hg'
            · have : i = m := by omega
              subst this
              rw [hl2] at hg'
              cases hg'
              exact hb
      · rintro ρ1 ⟨c, rfl, hno3, hin2⟩
        rw [tt_len] at hin2
        simp only [wNil_ap]
        refine ⟨_, _, rfl, hno3, fun i hi g' hg' => ?_⟩
        by_cases h2 : i < j
        · exact hin i h2 g' hg'
        · have : i = j := by omega
          subst this
          obtain ⟨q, hq⟩ := List.mem_iff_getElem?.mp hg'
          exact hin2 q (List.getElem?_eq_some_iff.mp hq).1 g' hq
    · rintro ρ1 ⟨b, c, rfl, hno, hin⟩
      rw [rngD_len] at hin
      simp only [wCons_ap, wRet_ap]
      refine ⟨.non, by simp, ?_⟩
      rw [least_none.mpr hin]
      rfl
theorem ok_times (hd_times : Hd K mg "times" s_times ["one", "other", "size"]) (z_enumerate : mg "enumerate" = none) (z_len : mg "len" = none) (C_trimmed : FnT P w K mg base 1 "trimmed" f_trimmed) : FnT P w K mg base 2 "times" f_times := by
  refine fn_mk hd_times sc_times (f_times) (sb_cons (ss_setL 3 (sl_rep (sr_of_sl (sl_lst (sa_cons se_int sa_nil))) (se_bin od_add (se_b cd_len z_len (by decide +kernel) (sa_cons (se_var 0 rfl rfl) sa_nil) rfl) (se_b cd_len z_len (by decide +kernel) (sa_cons (se_var 1 rfl rfl) sa_nil) rfl))) rfl rfl)
    (sb_cons (ss_for (si_enT z_enumerate (se_var 0 rfl rfl) rfl) (sg2 4 5 rfl rfl rfl rfl)
    (sb_cons (ss_for (si_enT z_enumerate (se_var 1 rfl rfl) rfl) (sg2 6 7 rfl rfl rfl rfl)
    (sb_cons (ss_ix 3 rfl rfl (se_bin od_add (se_var 4 rfl rfl) (se_var 6 rfl rfl)) (se_bin od_mod (se_bin od_add (se_ix (se_var 3 rfl rfl) (se_bin od_add (se_var 4 rfl rfl) (se_var 6 rfl rfl)) (fun _ _ => rfl)) (se_bin od_mul (se_var 5 rfl rfl) (se_var 7 rfl rfl))) (se_var 2 rfl rfl)))
    sb_nil))
    sb_nil))
    (sb_cons (ss_ret (se_call C_trimmed.cal (sa_cons (se_var 3 rfl rfl) sa_nil) rfl))
    sb_nil))) ?_ ?_
  · intro ds d h
    obtain ⟨_, _, _, rfl, _⟩ := kTTI_of h
    rfl
  · intro ds d h
    obtain ⟨x0, x1, x2, rfl, e⟩ := kTTI_of h
    clear h
    simp only [Option.ite_none_right_eq_some] at e
    obtain ⟨⟨hs, ca, cb, hl⟩, e⟩ := e
    cases e
    have g := hs.ge
    have hx : 0 < x2 := by omega
    simp only [wCons_ap, wSetL_ap]
    refine ⟨_, rep0 (n := x0.length + x1.length) (by simp) (by omega), ?_⟩
    refine wFor_by (enD 0 (x0.map .int)) (by simp) (by simp) (fun j ρ1 => ∃ L a b c d, ρ1 = [.im (tI x0), .im (tI x1), .im (.int x2), .ow (L.map .int), a, b, c, d] ∧ othLf ρ1 3 = true ∧ L.length = x0.length + x1.length ∧ ∀ k, k < L.length → cf L k = conv k (cf (x0.take j)) (cf x1) % x2) ⟨List.replicate (x0.length + x1.length) 0, _, _, _, _, rfl, by simp [othLf], by simp, fun k _ => by
      have e0 : cf (x0.take 0) = fun _ => 0 := rfl
      rw [cf_rep, e0, conv_zero]; simp⟩ ?_ ?_
    · rintro j d ρ1 hj ⟨L, a, b, c, dd, rfl, hl2, hL, hc⟩
      obtain ⟨hj, rfl⟩ := en_get hj
      refine ⟨_, rfl, ?_⟩
      simp only [wCons_ap]
      refine wFor_by (enD 0 (x1.map .int)) (by simp) (by simp) (fun m ρ1 => ∃ L c d, ρ1 = [.im (tI x0), .im (tI x1), .im (.int x2), .ow (L.map .int), .im (.int j), .im (.int (cf x0 j)), c, d] ∧ othLf ρ1 3 = true ∧ L.length = x0.length + x1.length ∧ ∀ k, k < L.length → cf L k = (conv k (cf (x0.take j)) (cf x1) + if j ≤ k ∧ k - j < m then cf x0 j * cf x1 (k - j) else 0) % x2) ⟨L, c, dd, by simp, by simp [othLf] at hl2 ⊢; exact hl2.2.2, hL, fun k hk => by rw [hc k hk, if_neg (by omega), Int.add_zero]⟩ ?_ ?_
      · rintro m d ρ1 hm ⟨L, c, dd, rfl, hl2, hL, hc⟩
        obtain ⟨hm, rfl⟩ := en_get hm
        refine ⟨_, rfl, ?_⟩
        simp only [wCons_ap, wIx_ap, wNil_ap]
        have hat := atI_cf (ns := L) (k := (j : Int) + (m : Int)) (by omega) (by omega)
        have e2 := hc (j + m) (by omega)
        have e4 : j + m - j = m := by omega
        rw [if_neg (by omega), Int.add_zero] at e2
        have e3 : ((j : Int) + (m : Int)).toNat = j + m := by omega
        rw [e3, e2] at hat
        have b1 := ca.cf_lo j
        have b2 := (cf_mod ca.lo ca.hi j)
        have b3 := (emod_in hs (cf x0 j)).2
        have b5 := mulD_in (x := cf x0 j) (y := cf x1 m) (by omega) (by omega)
        refine ⟨_, (j : Int) + (m : Int), j + m, .int ((conv (j + m) (cf (x0.take j)) (cf x1) % x2 + cf x0 j * cf x1 m) % x2), by simp [hat, hx, b5, -mulD_int], rfl, by simp, ?_, rfl, lfA_ints _, by simp [othLf], ?_⟩
        · rw [ixN_in (by omega) (by simp; omega), e3]
        · refine ⟨L.set (j + m) ((conv (j + m) (cf (x0.take j)) (cf x1) % x2 + cf x0 j * cf x1 m) % x2), .im (.int m), .im (.int (cf x1 m)), by simp, by simp [othLf], by simp [hL], fun i hi => ?_⟩
          rw [List.length_set] at hi
          rw [cf_set _ _ _ _ (by omega)]
          by_cases h1 : i = j + m
          · subst h1
            rw [if_pos rfl, if_pos (by omega), e4]
            rw [Int.add_emod, Int.emod_emod, ← Int.add_emod]
          · rw [if_neg h1, hc i hi]
            by_cases h2 : j ≤ i ∧ i - j < m
            · rw [if_pos h2, if_pos (by omega)]
            · rw [if_neg h2, if_neg (by omega)]
      · rintro ρ1 ⟨L, c, dd, rfl, hl2, hL, hc⟩
        rw [enD_len, List.length_map] at hc
        refine ⟨L, _, _, _, _, rfl, hl2, hL, fun k hk => ?_⟩
        rw [hc k hk, conv_take]
        by_cases h2 : j ≤ k
        · by_cases h3 : k - j < x1.length
          · rw [if_pos ⟨h2, h3⟩, if_pos h2]
          · rw [if_neg (by omega), if_pos h2, cf_ge (l := x1) (by omega), Int.mul_zero]
        · rw [if_neg (by omega), if_neg h2]
    rintro ρ1 ⟨L, a, b, c, d, rfl, hl2, hL, hc⟩
    rw [enD_len, List.length_map, List.take_length] at hc
    simp only [wCons_ap, wRet_ap, wNil_ap]
    have hn : L.length ≤ 2000 := by omega
    refine ⟨tI (trimM L), by simp [f_trimmed, kA, hn], ?_⟩
    have e5 : trimM L = timesM x2 x0 x1 := times_of hs fun i => by
      by_cases hi : i < L.length
      · exact hc i hi
      · rw [cf_ge (by omega)]
        have := le_times (s := x2) x0 x1 i (by omega)
        rw [ce_mul] at this
        rw [← this]
        exact (conv_cong i (fun i => by rw [ce_pl, Int.emod_emod]) (fun i => by rw [ce_pl, Int.emod_emod]))
    rw [e5]
theorem ok_factors {cf0 Pt : Addr} (TB : LamX.TabB base mg cf0 Pt) (hd_factors : HdC K mg "factors" s_factors ["thing", "size"] cf0) (x_NoPart : ExcT K mg "NoPart" "NoSum" "NoText") (z_len : mg "len" = none) (z_sorted : mg "sorted" = none) (z_tuple : mg "tuple" = none) (C_inverse_of : FnT P w K mg base 1 "inverse_of" f_inverse_of) (C_least_part : FnT P w K mg base 5 "least_part" f_least_part) (C_parted : FnT P w K mg base 4 "parted" f_parted) (C_times : FnT P w K mg base 2 "times" f_times) : FnGX P w K mg base [(Pt, LQ)] 6 "factors" xf_factors := by
  have hL : LamCx ⟨[(Pt, LQ)], fun X : Cx => X.base = base ∧ X.mg = mg ∧ X.env.code = .ref cf0 ∧ X.env.qual = ("factors" : Str) ++ ".<locals>."⟩ LQ := fun X h => ⟨cf0, Pt, by rw [h.1, h.2.1]; exact TB, h.2.2.1, by rw [h.2.2.2]; rfl, List.mem_singleton.mpr rfl, fun p hp _ => by rw [List.mem_singleton.mp hp]⟩
  refine fnGX_mk (Γ := ⟨[(Pt, LQ)], fun X : Cx => X.base = base ∧ X.mg = mg ∧ X.env.code = .ref cf0 ∧ X.env.qual = ("factors" : Str) ++ ".<locals>."⟩) hd_factors sc_factors rfl (fun X h1 h2 h3 h4 => ⟨h1, h2, h3, h4⟩) xf_factors
    (sr_if (st_cmp od_eq (se_b cd_len z_len (by decide +kernel) (sa_cons (se_var 0 rfl rfl) sa_nil) rfl) se_int (nomark _))
    (sr_cons (sr_raise x_NoPart rfl)
    sr_nil)
    sr_nil)
    (gb_cons (gs_of (ss_set 2 (se_call C_times.cal (sa_cons (se_var 0 rfl rfl) (sa_cons (se_tup (sa_cons (se_call C_inverse_of.cal (sa_cons (se_ix (se_var 0 rfl rfl) (se_neg se_int) (fun _ _ => rfl)) (sa_cons (se_var 1 rfl rfl) sa_nil)) rfl) sa_nil)) (sa_cons (se_var 1 rfl rfl) sa_nil))) rfl) rfl rfl))
    (gb_new 3 sd_nil rfl rfl fun a =>
    (gb_cons (gs_while (st_cmp od_gt (se_b cd_len z_len (by decide +kernel) (sa_cons (se_var 2 rfl rfl) sa_nil) rfl) se_int (nomark _))
    (gb_cons (gs_of (ss_set 4 (se_call C_least_part.cal (sa_cons (se_var 2 rfl rfl) (sa_cons (se_var 1 rfl rfl) sa_nil)) rfl) rfl rfl))
    (gb_cons (gs_of (ss_if (st_cmp od_isN (se_var 4 rfl rfl) se_non (nomark _))
    (sb_cons (ss_set 4 (se_var 2 rfl rfl) rfl rfl)
    sb_nil)
    sb_nil))
    (gb_cons (gs_put 3 (se_var 4 rfl rfl) (se_var 4 rfl rfl) se_int rfl rfl (fun X G => ⟨rfl, rfl, rfl, rfl⟩))
    (gb_cons (gs_of (ss_set 2 (se_ix (se_call C_parted.cal (sa_cons (se_var 2 rfl rfl) (sa_cons (se_var 4 rfl rfl) (sa_cons (se_var 1 rfl rfl) sa_nil))) rfl) se_int (fun _ _ => rfl)) rfl rfl))
    gb_nil)))))
    (gb_cons (gs_sorted 3 5 hL rfl rfl rfl rfl rfl z_sorted z_len)
    (gb_im 3 (sb_cons (ss_ret (se_tup (sa_cons (se_ix (se_var 0 rfl rfl) (se_neg se_int) (fun _ _ => rfl)) (sa_cons (se_tupF z_tuple (sl_lc (own := [("some", 4)]) (si_lst (se_var 5 rfl rfl)) rfl (sg1 4 rfl rfl) (by decide) sp_nil (se_tup (sa_cons (se_var 4 rfl rfl) (sa_cons (se_dget (se_var 3 rfl rfl) (se_var 4 rfl rfl)) sa_nil)))) rfl) sa_nil))))
    sb_nil)))))) ?_ ?_
  · intro ds r h
    obtain ⟨_, _, rfl, _⟩ := kTI_of h
    rfl
  · intro ds r h
    obtain ⟨a, s, rfl, e⟩ := kTI_of h
    clear h
    simp only [Option.ite_none_right_eq_some] at e
    obtain ⟨ok, e⟩ := e
    obtain ⟨hs, ca, la, fw⟩ := id ok
    simp only [gHead_ap, xIf_ap, xCons_ap, xRaise_ap, xNil_ap]
    by_cases ha : a = []
    · rw [if_pos ha] at e
      cases e
      refine ⟨true, by simp [ha], (fun _ => rfl), fun z => nomatch z⟩
    rw [if_neg ha] at e
    cases e
    have lp := List.length_pos_iff.mpr ha
    have li := last_in ca ha
    have iv := inv_ok hs li.1 li.2
    have fi := f_inv_ok hs li.1 li.2
    have ft := f_times_ok hs ca (num_can hs iv.1 iv.2.1) (by simp; omega)
    obtain ⟨wm, lm, em⟩ := mono_ok hs ca ha
    have gg := hs.ge
    have al := atI_end ha
    refine ⟨false, by simp; omega, (fun z => nomatch z), fun _ => ⟨noOw_start _ _, ?_⟩⟩
    simp only [gConsS_ap, gOf_ap, wSet_ap, gNew_ap]
    refine ⟨tI (mono s a), by simp [al, fi]; exact ft, rfl, [], rfl, fun q => ?_⟩
    refine gWhile_by (fun n k1 ρ1 => ∃ l done S, ρ1 = [.im (tI a), .im (.int s), .im (tI l), .ex q, S, .un] ∧ ndS S = true ∧ k1 = cntD done ∧ Wh s l ∧ l.length ≤ n + 1 ∧ l.length ≤ a.length ∧ done ++ pfL s n l = primesOf s a ∧ done.length + l.length ≤ a.length) a.length ⟨mono s a, [], .un, rfl, rfl, rfl, wm, by omega, by omega, rfl, by simp; omega⟩ ?_
    rintro n k1 ρ1 ⟨l, done, S, rfl, hS, rfl, wl, ln, lla, ep, dl⟩
    have nS : ∀ x y z : D, noOw [.im x, .im y, .im z, .ex q, S, .un] = true := fun x y z => by cases S <;> first | rfl | cases hS
    refine ⟨decide (1 < l.length), by simp; omega, fun hb => ?_, fun hb => ?_⟩
    · have hb := of_decide_eq_true hb
      obtain ⟨m, rfl⟩ : ∃ m, n = m + 1 := ⟨n - 1, by omega⟩
      obtain ⟨pg, wq, e1, lq⟩ := step_ok hs wl (by omega)
      have okl : okL s l := okL_of hs wl.c (n := halfM a) (by omega) (by unfold halfM; omega) fw
      have fl := f_least_ok okl
      have p2 := pg.l2
      have fp := f_parted_ok hs wl.c pg.w.c pg.w.ne (by omega)
      simp only [gConsS_ap, gOf_ap, wSet_ap]
      refine ⟨lsD (leastM s l), by simp [fl], rfl, ?_⟩
      refine wIf_to (k := (leastM s l).isNone) ?_ [.im (tI a), .im (.int s), .im (tI l), .ex q, .im (tI (partP s l)), .un] (fun hk Q hq => ?_) (fun hk Q hq => ?_) ⟨rfl, ?_⟩
      · cases leastM s l <;> simp [lsD]
      · have e : partP s l = l := by
          unfold partP
          rw [Option.isNone_iff_eq_none.mp hk]
          rfl
        simp only [wCons_ap, wSet_ap, wNil_ap]
        rw [e] at hq
        exact ⟨tI l, by simp, hq⟩
      · cases h : leastM s l with
        | none => rw [h] at hk; cases hk
        | some g =>
          have e : partP s l = g := by
            unfold partP
            rw [h]
            rfl
          rw [e] at hq
          exact hq
      simp only [gPut_ap]
      have bl := (cnt_bag done).len
      refine ⟨partP s l, 1, rfl, by simp, by simp, by simp, by omega, ?_⟩
      refine ⟨tI (quoM s l (partP s l)), by simp [fp, at0], rfl, m, by omega, quoM s l (partP s l), done ++ [partP s l], .im (tI (partP s l)), rfl, by simp, (cntD_snoc _ _).symm, wq, by omega, by omega, ?_, by simp; omega⟩
      rw [pfL, if_neg (by omega)] at ep
      rw [← ep, List.append_assoc]
      rfl
    · have hb := of_decide_eq_false hb
      have e0 : pfL s n l = [] := by
        cases n with
        | zero => rfl
        | succ m => rw [pfL, if_pos (by omega)]
      rw [e0, List.append_nil] at ep
      have b := cnt_bag done
      have bl := b.len
      have po := primes_ok hs ca ha
      simp only [gConsS_ap, gSort_ap]
      refine ⟨rfl, by omega, fun x hx => ?_, ?_⟩
      · have := (b.ks x.1).mp (List.mem_map.mpr ⟨x, hx, rfl⟩)
        rw [ep] at this
        have := (po.1 _ this).2
        omega
      simp only [gIm_ap, wCons_ap, wRet_ap, wNil_ap]
      refine ⟨rfl, facD s a, ?_, rfl⟩
      have hlc : ∀ S5 : Slot, S5 = .im (.lst ((srtK ((cntD done).map (·.1))).map tI)) → gLc (gLs (gV 5)) (List.map (fun x : Str × Nat => x.2) [("some", 4)]) (set1 4) gYes (gTup (gCons (gV 4) (gCons (gDget (gV 3) (gV 4)) gNil))) [.im (tI a), .im (.int s), .im (tI l), .im (.dct (cntD done)), S, S5] = some ((facK s a).map pairD) := by
        rintro S5 rfl
        have hk : facK s a = (srtK ((cntD done).map (·.1))).map fun k => (k, getM (cntD done) k) := by rw [facK, ordK, ep]
        have sl := (srtK_perm ((cntD done).map (·.1))).length_eq
        rw [List.length_map] at sl
        rw [hk]
        refine gLc_by (ds := (srtK ((cntD done).map (·.1))).map tI) (gLs_by (by simp) (by cases S <;> first | rfl | cases hS)) (by rw [List.length_map]; omega) ?_
        refine lcG_pairs (fun k => getM (cntD done) k) fun k hk => ?_
        have hk := (srtK_perm _).mem_iff.mp hk
        have := b.val ((b.ks k).mp hk)
        have hg := gDget_by (gd := gV 3) (gk := gV 4) (ρ := ((wipeR [.im (tI a), .im (.int s), .im (tI l), .im (.dct (cntD done)), S, .im (.lst ((srtK ((cntD done).map (·.1))).map tI))] [4]).set 4 (.im (tI k)))) (kvs := cntD done) (ks := k) (by simp [wipeR]) (by simp [wipeR]) this
        rw [b.ct]
        exact gTup_to (gCons_to (by simp [wipeR]) (gCons_to hg rfl)) (by simp)
      refine gTup_to (gCons_to (x := .int (cf a (a.length - 1))) (by simp [al]) (gCons_to (x := .ftp ((facK s a).map pairD)) ?_ rfl)) (by simp)
      rw [gFt_ap]
      have h2 := hlc _ rfl
      exact congrArg (Option.map D.ftp) h2
-- 
theorem ok_law_told {Pt : Addr} (hd_law_told : Hd K mg "_law_told" s_law_told ["_law_thing", "_law_size"]) (x_NoPart : ExcT K mg "NoPart" "NoSum" "NoText") (z_ValueError : mg "ValueError" = none) (z_int : mg "int" = none) (z_isinstance : mg "isinstance" = none) (C_factors : FnGX P w K mg base [(Pt, LQ)] 6 "factors" xf_factors) : FnG P w K mg base [(Pt, LQ)] 7 "_law_told" f_told22 := by
  obtain ⟨C, F, A, B, x⟩ := x_NoPart
  refine fnG_mk (Γ := ⟨[(Pt, LQ)], fun _ => True⟩) hd_law_told sc_law_told (fun _ => trivial) f_told22
    (gb_cons (gs_try 3 2 x.gC x.gC x.mC C_factors (sa_cons (se_var 0 rfl rfl) (sa_cons (se_var 1 rfl rfl) sa_nil)) rfl rfl rfl
    (fun a => (sb_cons (ss_set 4 (se_and (se_tr (se_isE (i := 3) x.e x.kF x.gF rfl rfl rfl rfl z_isinstance rfl)) (se_one (se_tr (se_isEV (i := 3) x.e x.kV z_ValueError rfl rfl rfl rfl z_isinstance rfl)))) rfl rfl)
    (sb_cons (ss_ret (se_ix (se_of_sl (sl_lst (sa_cons se_int (sa_cons se_non sa_nil)))) (se_t cd_int z_int (by decide +kernel) (sa_cons (se_and (se_tr (se_var 4 rfl rfl)) (se_and (se_not (se_tr (se_isE (i := 3) x.e x.kA x.gA rfl rfl rfl rfl z_isinstance rfl))) (se_one (se_not (se_tr (se_isE (i := 3) x.e x.kB x.gB rfl rfl rfl rfl z_isinstance rfl)))))) sa_nil) rfl) (fun _ _ => rfl)))
    sb_nil))) rfl rfl rfl rfl)
    (gb_of (sb_cons (ss_ret (se_ix (se_of_sl (sl_lst (sa_cons (se_var 2 rfl rfl) (sa_cons se_int sa_nil)))) (se_t cd_int z_int (by decide +kernel) (sa_cons (se_cmp od_isN (se_var 2 rfl rfl) se_non (nomark _)) sa_nil) rfl) (fun _ _ => rfl)))
    sb_nil))) ?_ ?_
  · intro ds d h
    obtain ⟨_, _, rfl, _⟩ := kTI_of h
    rfl
  · intro ds d h
    obtain ⟨a, s, rfl, e⟩ := kTI_of h
    clear h
    simp only [Option.ite_none_right_eq_some] at e
    obtain ⟨ok, e⟩ := e
    cases e
    simp only [gConsS_ap, gTry_ap, gOf_ap, wCons_ap, wRet_ap, wSet_ap, wNil_ap]
    refine ⟨[tI a, .int s], if a = [] then .no "NoPart" else .ok (facD s a), by simp, by rw [xf_factors_ok ok], fun d hd => ?_, fun y hy => ?_⟩
    · split at hd
      · cases hd
      · rename_i hb
        cases hd
        rw [if_neg hb]
        refine ⟨facD s a, ?_, rfl⟩
        simp [facD, at0]
    · split at hy
      · rename_i hb
        cases hy
        rw [if_pos hb]
        refine ⟨rfl, fun q => ⟨.bl true, by simp, .non, by simp [at1], rfl⟩⟩
      · cases hy
theorem ok_law {Pt : Addr} {fa : Addr} {fd : FuncData} (F : Fun K "law" "law" s_law fa fd) (z_dict : mg "dict" = none) (z_int : mg "int" = none) (C_law_good : FnT P w K mg base 4 "_law_good" f_good22) (C_law_mixed : FnT P w K mg base 2 "_law_mixed" f_law_mixed) (C_law_sum : FnT P w K mg base 2 "_law_sum" f_law_sum) (C_law_times : FnT P w K mg base 2 "_law_times" f_law_times) (C_law_told : FnG P w K mg base [(Pt, LQ)] 7 "_law_told" f_told22) : FnOk P w K mg base CX0 8 fa fd ["_law_script"] (spG K [(Pt, LQ)] f_law) := by
  refine fnokG_mk (Γ := ⟨[(Pt, LQ)], fun _ => True⟩) F sc_law (fun _ => trivial) f_law
    (gb_cons (gs_of (ss_set 1 (se_ix (se_tup (sa_cons se_int (sa_cons se_int (sa_cons se_int sa_nil)))) (se_bin od_mod (se_call C_law_mixed.cal (sa_cons (se_var 0 rfl rfl) (sa_cons se_int sa_nil)) rfl) se_int) (fun _ _ => rfl)) rfl rfl))
    (gb_cons (gs_of (ss_set 2 (se_bin od_add se_int (se_bin od_mul se_int (se_t cd_int z_int (by decide +kernel) (sa_cons (se_and (se_tr (se_cmp od_eq (se_var 1 rfl rfl) se_int (nomark _))) (se_one (se_tr (se_cmp od_eq (se_bin od_mod (se_call C_law_mixed.cal (sa_cons (se_var 0 rfl rfl) (sa_cons se_int sa_nil)) rfl) se_int) se_int (nomark _))))) sa_nil) rfl))) rfl rfl))
    (gb_cons (gs_of (ss_set 3 (se_call C_law_sum.cal (sa_cons (se_call C_law_mixed.cal (sa_cons (se_var 0 rfl rfl) (sa_cons se_int sa_nil)) rfl) (sa_cons (se_var 1 rfl rfl) (sa_cons (se_var 2 rfl rfl) sa_nil))) rfl) rfl rfl))
    (gb_cons (gs_of (ss_set 4 (se_call C_law_sum.cal (sa_cons (se_call C_law_mixed.cal (sa_cons (se_var 0 rfl rfl) (sa_cons se_int sa_nil)) rfl) (sa_cons (se_var 1 rfl rfl) (sa_cons (se_var 2 rfl rfl) sa_nil))) rfl) rfl rfl))
    (gb_cons (gs_setG 5 C_law_told (sa_cons (se_var 3 rfl rfl) (sa_cons (se_var 1 rfl rfl) sa_nil)) rfl rfl rfl)
    (gb_cons (gs_setG 6 C_law_told (sa_cons (se_var 4 rfl rfl) (sa_cons (se_var 1 rfl rfl) sa_nil)) rfl rfl rfl)
    (gb_cons (gs_of (ss_set 7 (se_call C_law_times.cal (sa_cons (se_var 3 rfl rfl) (sa_cons (se_var 4 rfl rfl) (sa_cons (se_var 1 rfl rfl) sa_nil))) rfl) rfl rfl))
    (gb_cons (gs_setG 8 C_law_told (sa_cons (se_var 7 rfl rfl) (sa_cons (se_var 1 rfl rfl) sa_nil)) rfl rfl rfl)
    (gb_cons (gs_of (ss_if (st_sw (sw_or (st_cmp od_ne (se_cmp od_isN (se_var 5 rfl rfl) se_non (nomark _)) (se_cmp od_eq (se_var 3 rfl rfl) (se_tup sa_nil) (nomark _)) (nomark _)) (sw_or (st_cmp od_ne (se_cmp od_isN (se_var 6 rfl rfl) se_non (nomark _)) (se_cmp od_eq (se_var 4 rfl rfl) (se_tup sa_nil) (nomark _)) (nomark _)) (sw_or1 (st_cmp od_ne (se_cmp od_isN (se_var 8 rfl rfl) se_non (nomark _)) (se_cmp od_eq (se_var 7 rfl rfl) (se_tup sa_nil) (nomark _)) (nomark _))))))
    (sb_cons (ss_ret se_bl)
    sb_nil)
    sb_nil))
    (gb_cons (gs_of (ss_if (st_sw (sw_or (st_sw (sw_and (st_cmp od_ne (se_var 3 rfl rfl) (se_tup sa_nil) (nomark _)) (sw_and1 (st_not (st_val (se_call C_law_good.cal (sa_cons (se_var 3 rfl rfl) (sa_cons (se_var 1 rfl rfl) (sa_cons (se_var 5 rfl rfl) sa_nil))) rfl)))))) (sw_or1 (st_sw (sw_and (st_cmp od_ne (se_var 4 rfl rfl) (se_tup sa_nil) (nomark _)) (sw_and1 (st_not (st_val (se_call C_law_good.cal (sa_cons (se_var 4 rfl rfl) (sa_cons (se_var 1 rfl rfl) (sa_cons (se_var 6 rfl rfl) sa_nil))) rfl)))))))))
    (sb_cons (ss_ret se_bl)
    sb_nil)
    sb_nil))
    (gb_cons (gs_of (ss_if (st_cmp od_eq (se_var 7 rfl rfl) (se_tup sa_nil) (nomark _))
    (sb_cons (ss_ret se_bl)
    sb_nil)
    sb_nil))
    (gb_new 9 (sd_dict z_dict (se_ix (se_var 5 rfl rfl) se_int (fun _ _ => rfl)) rfl) rfl rfl fun a =>
    (gb_cons (gs_forT (se_ix (se_var 6 rfl rfl) se_int (fun _ _ => rfl)) (sg2 10 11 rfl rfl rfl rfl)
    (gb_cons (gs_put 9 (se_var 10 rfl rfl) (se_var 10 rfl rfl) (se_var 11 rfl rfl) rfl rfl (fun X G => ⟨rfl, rfl, rfl, rfl⟩))
    gb_nil))
    (gb_im 9 (sb_cons (ss_ret (se_and (se_tr (se_call C_law_good.cal (sa_cons (se_var 7 rfl rfl) (sa_cons (se_var 1 rfl rfl) (sa_cons (se_var 8 rfl rfl) sa_nil))) rfl)) (se_one (se_tr (se_cmp od_eqDct (se_of_sd (sd_dict z_dict (se_ix (se_var 8 rfl rfl) se_int (fun _ _ => rfl)) rfl)) (se_var 9 rfl rfl) (nomark _))))))
    sb_nil))))))))))))))) ?_ ?_
  · intro ds d h
    obtain ⟨_, rfl, _⟩ := kC_of h
    rfl
  · intro ds d h
    obtain ⟨x0, rfl, e⟩ := kC_of h
    clear h
    simp only [Option.ite_none_right_eq_some] at e
    obtain ⟨hlen, e⟩ := e
    cases e
    have hs := sz_szM (mixS x0 0)
    obtain ⟨s, hS⟩ : ∃ s, s = szM (mixS x0 0) := ⟨_, rfl⟩
    rw [← hS] at hs
    have g := hs.ge
    have hx : 0 < s := by omega
    have m1 := mixS_nonneg x0 1
    have m2 := mixS_nonneg x0 2
    have m3 := mixS_nonneg x0 3
    obtain ⟨M, hM⟩ : ∃ M : Int, M = if s = 2 ∧ mixS x0 3 % 4 = 1 then 9 else 5 := ⟨_, rfl⟩
    have hM2 : 5 ≤ M ∧ M ≤ 9 := by rw [hM]; split <;> omega
    have fs1 := f_sum_ok hs m1 (m := M) (by omega)
    have fs2 := f_sum_ok hs m2 (m := M) (by omega)
    have ca := sum_can hs (mixS x0 1) (m := M) (by omega)
    have la := sum_le hs (mixS x0 1) (m := M) (by omega)
    have cb := sum_can hs (mixS x0 2) (m := M) (by omega)
    have lb := sum_le hs (mixS x0 2) (m := M) (by omega)
    obtain ⟨a, hA⟩ : ∃ a, a = sumM (mixS x0 1) s M := ⟨_, rfl⟩
    rw [← hA] at fs1 ca la
    obtain ⟨b, hB⟩ : ∃ b, b = sumM (mixS x0 2) s M := ⟨_, rfl⟩
    rw [← hB] at fs2 cb lb
    have fw : fewM s (M - 1).toNat := by
      rw [hM]
      rcases hs with h | h | h <;> subst h
      · split <;> decide
      · rw [if_neg (by omega)]; decide
      · rw [if_neg (by omega)]; decide
    have ft := f_ltimes_ok hs ca cb (by omega)
    have lt := times_len hs a b
    have ct := times_can hs a b
    obtain ⟨t, hT⟩ : ∃ t, t = timesM s a b := ⟨_, rfl⟩
    have oka : okL s a := okL_of hs ca (n := (M - 1).toNat) (by omega) (by unfold halfM; omega) fw
    have okb : okL s b := okL_of hs cb (n := (M - 1).toNat) (by omega) (by unfold halfM; omega) fw
    have okt : okL s t := by
      rw [hT]
      exact okL_of hs ct (n := (M - 1).toNat) (by omega) (by unfold halfM; omega) fw
    rw [← hT] at ft lt ct
    have ga := f_told22_ok oka
    have gb := f_told22_ok okb
    have gt := f_told22_ok okt
    have hmost : g2 addD (gC (.int 5)) (g2 mulD (gC (.int 4)) (gCall intD (gCons (gB (gAnd (gT (g2 eqD (gV 1) (gC (.int 2)))) (gT (g2 eqD (g2 modD (gCall f_law_mixed (gCons (gV 0) (gCons (gC (.int 3)) gNil))) (gC (.int 4))) (gC (.int 1)))))) gNil))) [.im (.scr x0), .im (.int s), .un, .un, .un, .un, .un, .un, .un, .un, .un, .un] = some (.int M) := by
      rw [hM]
      by_cases h1 : s = 2
      · by_cases h2 : mixS x0 3 % 4 = 1
        · simp [f_mixed, h1, h2]
        · simp [f_mixed, h1, h2]
      · simp [f_mixed, h1]
    simp only [gConsS_ap, gOf_ap, wSet_ap]
    refine ⟨.int s, by simp [f_law_mixed, atI_235, hS], rfl, .int M, hmost, rfl, tI a, by simp [f_mixed]; exact fs1, rfl, tI b, by simp [f_mixed]; exact fs2, rfl, ?_⟩
    simp only [gConsS_ap, gOf_ap, wSet_ap, gCallP_ap]
    refine ⟨[tI a, .int s], _, by simp, ga, [tI b, .int s], _, by simp, gb, tI t, by simp [ft], ?_, [tI t, .int s], _, by simp, gt, ?_⟩
    · split <;> split <;> rfl
    have na : ∀ x : List Int, isNon (if x = [] then D.non else facD s x) = decide (x = []) := fun x => by
      by_cases h : x = []
      · rw [if_pos h, decide_eq_true h]; rfl
      · rw [if_neg h, decide_eq_false h]; rfl
    have Ga : a ≠ [] → GoodF s a := fun h => ⟨oka, h, by omega, fun q hq => by have := ((primes_ok hs ca h).1 q hq).2; omega⟩
    have Gb : b ≠ [] → GoodF s b := fun h => ⟨okb, h, by omega, fun q hq => by have := ((primes_ok hs cb h).1 q hq).2; omega⟩
    have fa : a ≠ [] → f_good22 [tI a, .int s, facD s a] = some (.bl true) := fun h => f_good22_ok (Ga h)
    have fb : b ≠ [] → f_good22 [tI b, .int s, facD s b] = some (.bl true) := fun h => f_good22_ok (Gb h)
    refine wIf_no (by simp [na]) ⟨by split <;> split <;> split <;> rfl, ?_⟩
    refine wIf_no ?_ ⟨by split <;> split <;> split <;> rfl, ?_⟩
    · by_cases h1 : a = []
      · by_cases h2 : b = []
        · simp [h1, h2]
        · simp [h1, h2, fb]
      · by_cases h2 : b = []
        · simp [h1, h2, fa]
        · simp [h1, h2, fa, fb]
    by_cases ht : t = []
    · exact wIf_yes (by simp [ht]) ⟨.bl true, rfl, rfl⟩
    have ha : a ≠ [] := fun z => ht ((can_pl0 ct).mp (by rw [hT, pl_times, z, pl_nil]; grind))
    have hb : b ≠ [] := fun z => ht ((can_pl0 ct).mp (by rw [hT, pl_times, z, pl_nil]; grind))
    have pm := primes_mul hs ca cb ha hb
    rw [← hT] at pm
    have Gt : GoodF s t := ⟨okt, ht, by omega, fun q hq => by
      rcases List.mem_append.mp (pm.mem_iff.mp hq) with z | z
      · exact (Ga ha).few q z
      · exact (Gb hb).few q z⟩
    have fgt := f_good22_ok Gt
    have pa := primes_ok hs ca ha
    have pb := primes_ok hs cb hb
    have pt := primes_ok hs ct ht
    have Ba := fac_bag s a
    have Bb := fac_bag s b
    have Bt := fac_bag s t
    have fb2 := (bag_flat Bb).length_eq
    refine wIf_no (by simp [ht]) ⟨rfl, ?_⟩
    rw [if_neg ha, if_neg hb, if_neg ht]
    have nda := nd_fac s a
    have ndb := nd_fac s b
    have ndt := nd_fac s t
    have la2 := Ba.len
    have lb2 := Bb.len
    have lt2 := Bt.len
    simp only [gNew_ap]
    refine ⟨facK s a, gDict_by (by simp [facD, at1]) Ba.nd (by omega), fun q => ?_⟩
    simp only [gConsS_ap]
    refine gForT_by ((facK s b).map pairD) (by simp [facD, at1]) (nd_pairs _) (fun j k1 ρ1 => ∃ S S', ρ1 = [.im (.scr x0), .im (.int s), .im (.int M), .im (tI a), .im (tI b), .im (facD s a), .im (facD s b), .im (tI t), .im (facD s t), .ex q, S, S'] ∧ ndS S = true ∧ ndS S' = true ∧ Bag k1 (primesOf s a ++ flatJ (facK s b) j)) ⟨.un, .un, rfl, rfl, rfl, by rw [show flatJ (facK s b) 0 = [] from rfl, List.append_nil]; exact Ba⟩ ?_ ?_
    · rintro j d k1 ρ1 hj ⟨S, S', rfl, hS1, hS2, bg⟩
      rw [List.getElem?_map] at hj
      obtain ⟨⟨f, k⟩, hq, rfl⟩ := Option.map_eq_some_iff.mp hj
      obtain ⟨h1, h2⟩ := fac_pair (List.mem_of_getElem? hq)
      have h3 : 0 < (primesOf s b).count f := List.count_pos_iff.mpr h1
      have kp : 1 ≤ k := by simp only at h2; omega
      have tot := flatJ_len (facK s b) j
      have bl := bg.len
      rw [List.length_append] at bl
      refine ⟨_, rfl, rfl, ?_⟩
      simp only [gConsS_ap, gPut_ap, gNilS_ap]
      refine ⟨f, k, rfl, by simp [nda, ndb, ndt], by simp, by simp, by omega, .im (tI f), .im (.int k), rfl, by simp, rfl, ?_⟩
      have := bg.add f (n := k.toNat) (by omega)
      unfold addK at this
      rw [Int.toNat_of_nonneg (by omega), List.append_assoc] at this
      rw [flatJ_succ hq]
      exact this
    · rintro k1 ρ1 ⟨S, S', rfl, hS1, hS2, bg⟩
      rw [List.length_map] at bg
      have full : flatJ (facK s b) (facK s b).length = (facK s b).flatMap fun q => List.replicate q.2.toNat q.1 := by unfold flatJ; rw [List.take_length]
      rw [full] at bg
      have bg2 : Bag k1 (primesOf s t) := bg.perm (((bag_flat Bb).symm.append_left _).trans pm.symm)
      simp only [gIm_ap, wCons_ap, wRet_ap, wNil_ap]
      refine ⟨rfl, .bl true, ?_, rfl⟩
      have q1 : gDict (g2 ixD (gV 8) (gC (.int 1))) [.im (.scr x0), .im (.int s), .im (.int M), .im (tI a), .im (tI b), .im (facD s a), .im (facD s b), .im (tI t), .im (facD s t), .im (.dct k1), S, S'] = some (facK s t) := gDict_by (by simp [facD, at1]) Bt.nd (by omega)
      have q2 := eqDct_by (ga := gDn (gDict (g2 ixD (gV 8) (gC (.int 1))))) (gb := gV 9) (ρ := [.im (.scr x0), .im (.int s), .im (.int M), .im (tI a), .im (tI b), .im (facD s a), .im (facD s b), .im (tI t), .im (facD s t), .im (.dct k1), S, S']) (by rw [gDn_ap, q1]; rfl) (by simp) (Bt.same bg2)
      have q3 : gT (gCall f_good22 (gCons (gV 7) (gCons (gV 1) (gCons (gV 8) gNil)))) [.im (.scr x0), .im (.int s), .im (.int M), .im (tI a), .im (tI b), .im (facD s a), .im (facD s b), .im (tI t), .im (facD s t), .im (.dct k1), S, S'] = some true := by simp [fgt]
      show gB (gAnd _ _) [.im (.scr x0), .im (.int s), .im (.int M), .im (tI a), .im (tI b), .im (facD s a), .im (facD s b), .im (tI t), .im (facD s t), .im (.dct k1), S, S'] = _
      rw [gB_ap, gAnd_ap, q3]
      show (gT _ _).map D.bl = _
      rw [gT_ap, q2]
      rfl
end
end Pf
open PySem PySem.W PyProof.Rows
set_option maxHeartbeats 0 in
theorem PySem.Challenge.cw_primefold_k22_whole_factors_holds : PySem.Challenge.rw_primefold_k22_whole_factors.Holds := by
  w_on; o_law; k_head; (case hw => w_witness2)
  k_fill
  refine Pf.law_endG (l := PySem.Challenge.rw_primefold_k22_whole_factors) (k := 8) (x := "_law_script") rfl rfl ⟨rfl, by decide, by decide⟩ (fun w h Y => PySem.W.km_in_of Y) Pf.f_law (fun ns h => Pf.f_law_true ns h) Pf.LQ ?F
  case F =>
    intro w mg fa h Y KX G hmg
    have empty : h.get? 115 = some (PySem.W.tabObj #[]) := PySem.W.km_tabs_of Y 115 (by k_mem)
    have code : PySem.W.CodeHd h 117 115 := PySem.W.codeHd_of_K KX (by kernel_rfl)
    have x_NoPart : Pf.ExcG KX mg "NoPart" "NoSum" "NoText" := by
      refine' Pf.exc_mk KX G ?za1 ?za2 ?za3 ?za4 ?zxq ?zkC ?zr1 ?zr2 ?ze1 ?ze2 ?ze4 ?ze5 ?ze6 ?ze7 ?ze8 ?zf1 ?zf2 ?zf3 ?zf4 ?zf5 ?zkF ?zkV ?zkA ?zkB ?zkS
      (case za1 => k_is); (case za2 => k_is); (case za3 => k_is); (case za4 => k_is); (case zxq => first | k_is | k_exc); (case zkC => k_is); (case zr1 => k_is); (case zr2 => k_is); (case ze1 => k_is); (case ze2 => k_is); (case ze4 => k_is); (case ze5 => k_is); (case ze6 => k_is); (case ze7 => k_is); (case ze8 => k_is); (case zf1 => k_is); (case zf2 => k_is); (case zf3 => k_is); (case zf4 => k_is); (case zf5 => k_is); (case zkF => kit_is); (case zkV => kit_is); (case zkA => kit_is); (case zkB => kit_is); (case zkS => kit_is)
    have z_ValueError : mg "ValueError" = none := by
      refine' PySem.W.mg_none_of KX G ?z
      (case z => k_is)
    have z_bool : mg "bool" = none := by
      refine' PySem.W.mg_none_of KX G ?z
      (case z => k_is)
    have z_dict : mg "dict" = none := by
      refine' PySem.W.mg_none_of KX G ?z
      (case z => k_is)
    have z_enumerate : mg "enumerate" = none := by
      refine' PySem.W.mg_none_of KX G ?z
      (case z => k_is)
    have z_int : mg "int" = none := by
      refine' PySem.W.mg_none_of KX G ?z
      (case z => k_is)
    have z_isinstance : mg "isinstance" = none := by
      refine' PySem.W.mg_none_of KX G ?z
      (case z => k_is)
    have z_len : mg "len" = none := by
      refine' PySem.W.mg_none_of KX G ?z
      (case z => k_is)
    have z_list : mg "list" = none := by
      refine' PySem.W.mg_none_of KX G ?z
      (case z => k_is)
    have z_max : mg "max" = none := by
      refine' PySem.W.mg_none_of KX G ?z
      (case z => k_is)
    have z_range : mg "range" = none := by
      refine' PySem.W.mg_none_of KX G ?z
      (case z => k_is)
    have z_set : mg "set" = none := by
      refine' PySem.W.mg_none_of KX G ?z
      (case z => k_is)
    have z_sorted : mg "sorted" = none := by
      refine' PySem.W.mg_none_of KX G ?z
      (case z => k_is)
    have z_tuple : mg "tuple" = none := by
      refine' PySem.W.mg_none_of KX G ?z
      (case z => k_is)
    have hd_law_trim : Pf.HdG KX mg "_law_trim" Pf.s_law_trim ["_law_numbers"] := by
      refine' Pf.hd_mk KX G ?a ?l ?c ?k (fun _ _ _ _ _ _ us hl => match us, hl with | [_], _ => rfl)
      (case a => k_is); (case l => k_is); (case c => k_is); (case k => k_is)
    have hd_law_rest : Pf.HdG KX mg "_law_rest" Pf.s_law_rest ["_law_one", "_law_other", "_law_size"] := by
      refine' Pf.hd_mk KX G ?a ?l ?c ?k (fun _ _ _ _ _ _ us hl => match us, hl with | [_, _, _], _ => rfl)
      (case a => k_is); (case l => k_is); (case c => k_is); (case k => k_is)
    have hd_law_wholes : Pf.HdG KX mg "_law_wholes" Pf.s_law_wholes ["_law_length", "_law_size"] := by
      refine' Pf.hd_mk KX G ?a ?l ?c ?k (fun _ _ _ _ _ _ us hl => match us, hl with | [_, _], _ => rfl)
      (case a => k_is); (case l => k_is); (case c => k_is); (case k => k_is)
    have hd_law_is_prime : Pf.HdG KX mg "_law_is_prime" Pf.s_law_is_prime ["_law_thing", "_law_size"] := by
      refine' Pf.hd_mk KX G ?a ?l ?c ?k (fun _ _ _ _ _ _ us hl => match us, hl with | [_, _], _ => rfl)
      (case a => k_is); (case l => k_is); (case c => k_is); (case k => k_is)
    have hd_law_number : Pf.HdG KX mg "_law_number" Pf.s_law_number ["_law_thing", "_law_low", "_law_high"] := by
      refine' Pf.hd_mk KX G ?a ?l ?c ?k (fun _ _ _ _ _ _ us hl => match us, hl with | [_, _, _], _ => rfl)
      (case a => k_is); (case l => k_is); (case c => k_is); (case k => k_is)
    have hd_law_is_long_sum : Pf.HdG KX mg "_law_is_long_sum" Pf.s_law_is_long_sum ["_law_thing", "_law_size"] := by
      refine' Pf.hd_mk KX G ?a ?l ?c ?k (fun _ _ _ _ _ _ us hl => match us, hl with | [_, _], _ => rfl)
      (case a => k_is); (case l => k_is); (case c => k_is); (case k => k_is)
    have hd_law_is_sum : Pf.HdG KX mg "_law_is_sum" Pf.s_law_is_sum ["_law_thing", "_law_size"] := by
      refine' Pf.hd_mk KX G ?a ?l ?c ?k (fun _ _ _ _ _ _ us hl => match us, hl with | [_, _], _ => rfl)
      (case a => k_is); (case l => k_is); (case c => k_is); (case k => k_is)
    have hd_law_times : Pf.HdG KX mg "_law_times" Pf.s_law_times ["_law_one", "_law_other", "_law_size"] := by
      refine' Pf.hd_mk KX G ?a ?l ?c ?k (fun _ _ _ _ _ _ us hl => match us, hl with | [_, _, _], _ => rfl)
      (case a => k_is); (case l => k_is); (case c => k_is); (case k => k_is)
    have hd_law_good : Pf.HdG KX mg "_law_good" Pf.s_law_good ["_law_thing", "_law_size", "_law_found"] := by
      refine' Pf.hd_mk KX G ?a ?l ?c ?k (fun _ _ _ _ _ _ us hl => match us, hl with | [_, _, _], _ => rfl)
      (case a => k_is); (case l => k_is); (case c => k_is); (case k => k_is)
    have hd_law_cell_at : Pf.HdG KX mg "_law_cell_at" Pf.s_law_cell_at ["_law_script", "_law_k"] := by
      refine' Pf.hd_mk KX G ?a ?l ?c ?k (fun _ _ _ _ _ _ us hl => match us, hl with | [_, _], _ => rfl)
      (case a => k_is); (case l => k_is); (case c => k_is); (case k => k_is)
    have hd_law_mixed : Pf.HdG KX mg "_law_mixed" Pf.s_law_mixed ["_law_script", "_law_k"] := by
      refine' Pf.hd_mk KX G ?a ?l ?c ?k (fun _ _ _ _ _ _ us hl => match us, hl with | [_, _], _ => rfl)
      (case a => k_is); (case l => k_is); (case c => k_is); (case k => k_is)
    have hd_law_drawn : Pf.HdG KX mg "_law_drawn" Pf.s_law_drawn ["_law_number_here", "_law_k"] := by
      refine' Pf.hd_mk KX G ?a ?l ?c ?k (fun _ _ _ _ _ _ us hl => match us, hl with | [_, _], _ => rfl)
      (case a => k_is); (case l => k_is); (case c => k_is); (case k => k_is)
    have hd_law_sum : Pf.HdG KX mg "_law_sum" Pf.s_law_sum ["_law_number_here", "_law_size", "_law_most"] := by
      refine' Pf.hd_mk KX G ?a ?l ?c ?k (fun _ _ _ _ _ _ us hl => match us, hl with | [_, _, _], _ => rfl)
      (case a => k_is); (case l => k_is); (case c => k_is); (case k => k_is)
    have hd_inverse_of : Pf.HdG KX mg "inverse_of" Pf.s_inverse_of ["number", "size"] := by
      refine' Pf.hd_mk KX G ?a ?l ?c ?k (fun _ _ _ _ _ _ us hl => match us, hl with | [_, _], _ => rfl)
      (case a => k_is); (case l => k_is); (case c => k_is); (case k => k_is)
    have hd_trimmed : Pf.HdG KX mg "trimmed" Pf.s_trimmed ["numbers"] := by
      refine' Pf.hd_mk KX G ?a ?l ?c ?k (fun _ _ _ _ _ _ us hl => match us, hl with | [_], _ => rfl)
      (case a => k_is); (case l => k_is); (case c => k_is); (case k => k_is)
    have hd_plus : Pf.HdG KX mg "plus" Pf.s_plus ["one", "other", "size"] := by
      refine' Pf.hd_mk KX G ?a ?l ?c ?k (fun _ _ _ _ _ _ us hl => match us, hl with | [_, _, _], _ => rfl)
      (case a => k_is); (case l => k_is); (case c => k_is); (case k => k_is)
    have hd_lowered : Pf.HdG KX mg "lowered" Pf.s_lowered ["one", "often", "other", "by", "size"] := by
      refine' Pf.hd_mk KX G ?a ?l ?c ?k (fun _ _ _ _ _ _ us hl => match us, hl with | [_, _, _, _, _], _ => rfl)
      (case a => k_is); (case l => k_is); (case c => k_is); (case k => k_is)
    have hd_parted : Pf.HdG KX mg "parted" Pf.s_parted ["one", "other", "size"] := by
      refine' Pf.hd_mk KX G ?a ?l ?c ?k (fun _ _ _ _ _ _ us hl => match us, hl with | [_, _, _], _ => rfl)
      (case a => k_is); (case l => k_is); (case c => k_is); (case k => k_is)
    have hd_wholes : Pf.HdG KX mg "wholes" Pf.s_wholes ["length", "size"] := by
      refine' Pf.hd_mk KX G ?a ?l ?c ?k (fun _ _ _ _ _ _ us hl => match us, hl with | [_, _], _ => rfl)
      (case a => k_is); (case l => k_is); (case c => k_is); (case k => k_is)
    have hd_least_part : Pf.HdG KX mg "least_part" Pf.s_least_part ["thing", "size"] := by
      refine' Pf.hd_mk KX G ?a ?l ?c ?k (fun _ _ _ _ _ _ us hl => match us, hl with | [_, _], _ => rfl)
      (case a => k_is); (case l => k_is); (case c => k_is); (case k => k_is)
    have hd_times : Pf.HdG KX mg "times" Pf.s_times ["one", "other", "size"] := by
      refine' Pf.hd_mk KX G ?a ?l ?c ?k (fun _ _ _ _ _ _ us hl => match us, hl with | [_, _, _], _ => rfl)
      (case a => k_is); (case l => k_is); (case c => k_is); (case k => k_is)
    have hd_factors : Pf.HdCG KX mg "factors" Pf.s_factors ["thing", "size"] 117 := by
      refine' Pf.hdC_mk KX G ?a ?l ?c ?k (fun _ _ _ _ _ _ us hl => match us, hl with | [_, _], _ => rfl)
      (case a => k_is); (case l => k_is); (case c => k_is); (case k => k_is)
    have hd_law_told : Pf.HdG KX mg "_law_told" Pf.s_law_told ["_law_thing", "_law_size"] := by
      refine' Pf.hd_mk KX G ?a ?l ?c ?k (fun _ _ _ _ _ _ us hl => match us, hl with | [_, _], _ => rfl)
      (case a => k_is); (case l => k_is); (case c => k_is); (case k => k_is)
    have hd_law : Pf.HdG KX mg "law" Pf.s_law ["_law_script"] := by
      refine' Pf.hd_mk KX G ?a ?l ?c ?k (fun _ _ _ _ _ _ us hl => match us, hl with | [_], _ => rfl)
      (case a => k_is); (case l => k_is); (case c => k_is); (case k => k_is)
    refine ⟨117, 115, empty, by kernel_rfl, code, ?_⟩
    refine Pf.law_fnG hd_law hmg (fun _ _ _ _ _ _ _ _ => .of_eq rfl) fun base fd F TB => ?_
    have C_law_trim := Pf.ok_law_trim (P := PySem.Challenge.rw_primefold_k22_whole_factors.prog) (w := w) (base := base) hd_law_trim z_list z_tuple
    have C_law_rest := Pf.ok_law_rest (P := PySem.Challenge.rw_primefold_k22_whole_factors.prog) (w := w) (base := base) hd_law_rest z_enumerate z_len z_list z_range z_tuple C_law_trim
    have C_law_wholes := Pf.ok_law_wholes (P := PySem.Challenge.rw_primefold_k22_whole_factors.prog) (w := w) (base := base) hd_law_wholes z_range
    have C_law_is_prime := Pf.ok_law_is_prime (P := PySem.Challenge.rw_primefold_k22_whole_factors.prog) (w := w) (base := base) hd_law_is_prime z_len z_range C_law_rest C_law_wholes
    have C_law_number := Pf.ok_law_number (P := PySem.Challenge.rw_primefold_k22_whole_factors.prog) (w := w) (base := base) hd_law_number z_bool z_int z_isinstance
    have C_law_is_long_sum := Pf.ok_law_is_long_sum (P := PySem.Challenge.rw_primefold_k22_whole_factors.prog) (w := w) (base := base) hd_law_is_long_sum z_isinstance z_tuple C_law_number
    have C_law_is_sum := Pf.ok_law_is_sum (P := PySem.Challenge.rw_primefold_k22_whole_factors.prog) (w := w) (base := base) hd_law_is_sum z_len C_law_is_long_sum
    have C_law_times := Pf.ok_law_times (P := PySem.Challenge.rw_primefold_k22_whole_factors.prog) (w := w) (base := base) hd_law_times z_enumerate z_len C_law_trim
    have C_law_good := Pf.ok_law_good (P := PySem.Challenge.rw_primefold_k22_whole_factors.prog) (w := w) (base := base) hd_law_good z_isinstance z_len z_range z_set z_sorted z_tuple C_law_is_prime C_law_is_sum C_law_number C_law_times
    have C_law_cell_at := Pf.ok_law_cell_at (P := PySem.Challenge.rw_primefold_k22_whole_factors.prog) (w := w) (base := base) hd_law_cell_at z_len
    have C_law_mixed := Pf.ok_law_mixed (P := PySem.Challenge.rw_primefold_k22_whole_factors.prog) (w := w) (base := base) hd_law_mixed C_law_cell_at
    have C_law_drawn := Pf.ok_law_drawn (P := PySem.Challenge.rw_primefold_k22_whole_factors.prog) (w := w) (base := base) hd_law_drawn
    have C_law_sum := Pf.ok_law_sum (P := PySem.Challenge.rw_primefold_k22_whole_factors.prog) (w := w) (base := base) hd_law_sum z_int z_range z_tuple C_law_drawn
    have C_inverse_of := Pf.ok_inverse_of (P := PySem.Challenge.rw_primefold_k22_whole_factors.prog) (w := w) (base := base) hd_inverse_of z_range
    have C_trimmed := Pf.ok_trimmed (P := PySem.Challenge.rw_primefold_k22_whole_factors.prog) (w := w) (base := base) hd_trimmed z_len z_tuple
    have C_plus := Pf.ok_plus (P := PySem.Challenge.rw_primefold_k22_whole_factors.prog) (w := w) (base := base) hd_plus z_enumerate z_len z_max C_trimmed
    have C_lowered := Pf.ok_lowered (P := PySem.Challenge.rw_primefold_k22_whole_factors.prog) (w := w) (base := base) hd_lowered z_tuple C_plus C_trimmed
    have C_parted := Pf.ok_parted (P := PySem.Challenge.rw_primefold_k22_whole_factors.prog) (w := w) (base := base) hd_parted z_len z_max C_inverse_of C_lowered C_trimmed
    have C_wholes := Pf.ok_wholes (P := PySem.Challenge.rw_primefold_k22_whole_factors.prog) (w := w) (base := base) hd_wholes z_range
    have C_least_part := Pf.ok_least_part (P := PySem.Challenge.rw_primefold_k22_whole_factors.prog) (w := w) (base := base) hd_least_part z_len z_range C_parted C_wholes
    have C_times := Pf.ok_times (P := PySem.Challenge.rw_primefold_k22_whole_factors.prog) (w := w) (base := base) hd_times z_enumerate z_len C_trimmed
    have C_factors := Pf.ok_factors (P := PySem.Challenge.rw_primefold_k22_whole_factors.prog) (w := w) (base := base) TB hd_factors x_NoPart z_len z_sorted z_tuple C_inverse_of C_least_part C_parted C_times
    have C_law_told := Pf.ok_law_told (P := PySem.Challenge.rw_primefold_k22_whole_factors.prog) (w := w) (base := base) (Pt := 115) hd_law_told x_NoPart z_ValueError z_int z_isinstance C_factors
    exact Pf.ok_law F z_dict z_int C_law_good C_law_mixed C_law_sum C_law_times C_law_told
#print axioms PySem.Challenge.cw_primefold_k22_whole_factors_holds
