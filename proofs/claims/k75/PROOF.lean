import PyProof.Rows.All
import HandS.ForMost
import HandS.ForExc
import HandS.Wide
import HandS.Gcd
import HandS.IsInst
import HandS.Evl
import HandS.TupAny
import HandS.TupMul
import KE.KMathG
import KE.KMathGC
import HandS.ExcSuper
import HandS.ExcField
import HandS.ExcInit
import KE.KExcSuper
import HandS.Zip
import HandS.SortKw
import HandS.TryOnly
import HandS.WideBits
import HandS.Style
import HandS.Sort
import HandS.Conv
import HandS.EndBits
import PySem.Challenge.RW_caskyears_k75_whole_labels_hold_for_ever
set_option Elab.async false
set_option linter.all false
set_option maxRecDepth 100000
/-! A layer of my own over HandS: what a def of plain data computes, as a Lean function ("denotation") over an environment of slots; soundness rule by rule. -/
namespace Dn
open PySem PySem.Spec PyProof.Rows L2
open PySem.W (Frag)

/-! ### data in a heap, carried along -/
theorem sqT_mono {K : Frag} {H H' : Hp} {a : Addr} {xs : List V} (e : Same H H') (h : SqT K H a xs) : SqT K H' a xs := by
  rcases h with (h | ⟨o, h⟩) | h
  · exact .inl (.inl (e _ _ h))
  · exact .inl (.inr ⟨o, e _ _ h⟩)
  · exact .inr h
mutual
theorem dpMono {K : Frag} {H H' : Hp} (e : Same H H') : ∀ (d : PyData) (v : V), Dp K H v d → Dp K H' v d
  | .none, _, h => by cases h; exact .non
  | .bool b, _, h => by cases h; exact .bl b
  | .int i, _, h => by cases h; exact .int i
  | .str x, _, h => by cases h; exact .str x
  | .list ds, _, h => by
    cases h with
    | lst hs ha => exact .lst (e.seq hs) (dpMonoAll e ds _ ha)
  | .tuple ds, _, h => by
    cases h with
    | tup hs ha => exact .tup (sqT_mono e hs) (dpMonoAll e ds _ ha)
  | .dict _, _, h => by cases h
theorem dpMonoAll {K : Frag} {H H' : Hp} (e : Same H H') : ∀ (ds : List PyData) (vs : List V), DpAll K H vs ds → DpAll K H' vs ds
  | [], _, h => by cases h; exact .nil
  | d :: ds, _, h => by
    cases h with
    | cons h1 h2 => exact .cons (dpMono e d _ h1) (dpMonoAll e ds _ h2)
end
end Dn
namespace L2
open PySem PySem.Spec PyProof.Rows Dn
open PySem.W (Frag)
theorem Dp.up {K : Frag} {H H' : Hp} {v : V} {d : PyData} (h : Dp K H v d) (e : Same H H') : Dp K H' v d := dpMono e d v h
theorem DpAll.up {K : Frag} {H H' : Hp} {vs : List V} {ds : List PyData} (h : DpAll K H vs ds) (e : Same H H') : DpAll K H' vs ds := dpMonoAll e ds vs h
theorem DpAll.len {K : Frag} {H : Hp} : ∀ {vs : List V} {ds : List PyData}, DpAll K H vs ds → vs.length = ds.length
  | [], ds, h => by cases h; rfl
  | v :: vs, ds, h => by
    cases h with
    | cons _ h2 => simp only [List.length_cons, DpAll.len h2]
theorem DpAll.at {K : Frag} {H : Hp} : ∀ {vs : List V} {ds : List PyData} {i : Nat} {d : PyData}, DpAll K H vs ds → ds[i]? = some d → ∃ v, vs[i]? = some v ∧ Dp K H v d
  | [], ds, i, d, h, e => by cases h; simp at e
  | v :: vs, ds, 0, d, h, e => by
    cases h with
    | cons h1 h2 => simp at e; subst e; exact ⟨v, rfl, h1⟩
  | v :: vs, ds, i + 1, d, h, e => by
    cases h with
    | cons h1 h2 =>
      simp at e
      obtain ⟨u, h3, h4⟩ := DpAll.at h2 e
      exact ⟨u, by simpa using h3, h4⟩
theorem DpAll.at' {K : Frag} {H : Hp} {vs : List V} {ds : List PyData} {i : Nat} {v : V} (h : DpAll K H vs ds) (e : vs[i]? = some v) : ∃ d, ds[i]? = some d ∧ Dp K H v d := by
  have hl := h.len
  have hi : i < vs.length := (List.getElem?_eq_some_iff.mp e).1
  have hd : ds[i]? = some (ds[i]'(by omega)) := List.getElem?_eq_getElem _
  obtain ⟨u, h1, h2⟩ := h.at hd
  rw [e] at h1
  cases h1
  exact ⟨_, hd, h2⟩
theorem DpAll.app {K : Frag} {H : Hp} : ∀ {vs ws : List V} {ds es : List PyData}, DpAll K H vs ds → DpAll K H ws es → DpAll K H (vs ++ ws) (ds ++ es)
  | [], ws, ds, es, h, h' => by cases h; exact h'
  | v :: vs, ws, ds, es, h, h' => by
    cases h with
    | cons h1 h2 => exact .cons h1 (DpAll.app h2 h')
theorem DpAll.set {K : Frag} {H : Hp} {v : V} {d : PyData} (hv : Dp K H v d) : ∀ {vs : List V} {ds : List PyData} (i : Nat), DpAll K H vs ds → DpAll K H (vs.set i v) (ds.set i d)
  | [], ds, i, h => by cases h; exact .nil
  | u :: vs, ds, 0, h => by
    cases h with
    | cons h1 h2 => exact .cons hv h2
  | u :: vs, ds, i + 1, h => by
    cases h with
    | cons h1 h2 => exact .cons h1 (DpAll.set hv i h2)
theorem DpAll.take {K : Frag} {H : Hp} : ∀ {vs : List V} {ds : List PyData} (n : Nat), DpAll K H vs ds → DpAll K H (vs.take n) (ds.take n)
  | [], ds, n, h => by cases h; simp; exact .nil
  | u :: vs, ds, 0, h => by simp; exact .nil
  | u :: vs, ds, n + 1, h => by
    cases h with
    | cons h1 h2 => exact .cons h1 (DpAll.take n h2)
theorem DpAll.drop {K : Frag} {H : Hp} : ∀ {vs : List V} {ds : List PyData} (n : Nat), DpAll K H vs ds → DpAll K H (vs.drop n) (ds.drop n)
  | vs, ds, 0, h => by simpa using h
  | [], ds, n + 1, h => by cases h; simp; exact .nil
  | u :: vs, ds, n + 1, h => by
    cases h with
    | cons h1 h2 => simpa using DpAll.drop n h2
theorem DpAll.ints {K : Frag} {H : Hp} : ∀ {vs : List V} {ns : List Int}, DpAll K H vs (ns.map .int) → vs = ns.map V.int
  | [], [], h => rfl
  | [], n :: ns, h => by cases h
  | v :: vs, [], h => by cases h
  | v :: vs, n :: ns, h => by
    cases h with
    | cons h1 h2 =>
      cases h1
      rw [DpAll.ints h2]
      rfl
theorem DpAll.of_ints {K : Frag} {H : Hp} : ∀ (ns : List Int), DpAll K H (ns.map V.int) (ns.map .int)
  | [] => .nil
  | n :: ns => .cons (.int n) (DpAll.of_ints ns)
theorem DpAll.bools {K : Frag} {H : Hp} : ∀ {vs : List V} {bs : List Bool}, DpAll K H vs (bs.map .bool) → vs = bs.map V.bl
  | [], [], h => rfl
  | [], n :: ns, h => by cases h
  | v :: vs, [], h => by cases h
  | v :: vs, n :: ns, h => by
    cases h with
    | cons h1 h2 =>
      cases h1
      rw [DpAll.bools h2]
      rfl

end L2
namespace Dn
open PySem PySem.Spec PyProof.Rows L2
open PySem.W (Frag)
/-! ### slots -/
inductive Sl where
  | no
  | val (d : PyData)
  | own (p : Bool) (ds : List PyData)
abbrev En := List Sl

/-- fixed through a def's body: the heap at its entry, what its data may lean on there, what must stay, the parameters' values -/
structure C3 where
  H0 : Hp
  F0 : Hp
  G : Hp
  pv : List V

def Hold (c : C3) (i : Nat) (p : Bool) (a : Addr) : Prop := if p = true then c.pv[i]? = some (.ref a) else c.H0 a = none

structure Rl (K : Frag) (c : C3) (F : Hp) (σ : L2.St) (H : Hp) (env : En) : Prop where
  sub : Same F H
  f0 : Same c.F0 F
  gd : Same c.G H
  g0 : Same c.G c.H0
  new : ∀ a, F a ≠ none → c.F0 a ≠ none ∨ c.H0 a = none
  dom : ∀ a, c.H0 a ≠ none → H a ≠ none
  len : env.length = σ.length
  val : ∀ (i : Nat) (d : PyData), env[i]? = some (.val d) → ∃ v, σ[i]? = some (some v) ∧ Dp K F v d
  own : ∀ (i : Nat) (p : Bool) (ds : List PyData), env[i]? = some (.own p ds) → ∃ (a : Addr) (xs : List V), σ[i]? = some (some (.ref a)) ∧ F a = none ∧ H a = some (.lst xs) ∧ DpAll K F xs ds ∧ c.G a = none ∧ Hold c i p a ∧
    ∀ (j : Nat) (q : Bool) (es : List PyData), j ≠ i → env[j]? = some (.own q es) → σ[j]? ≠ some (some (.ref a))

section
variable {K : Frag} {c : C3} {F F' H H' : Hp} {σ : L2.St} {env env' : En}

/-- the heap grows by one new object, which data may lean on -/
theorem Rl.laid {p : Addr} {o : HO} (R : Rl K c F σ H env) (hp : H p = none) : Same F (upd F p o) ∧ Rl K c (upd F p o) σ (upd H p o) env := by
  have hF : F p = none := R.sub.free hp
  have hH0 : c.H0 p = none := by
    cases e : c.H0 p with
    | none => rfl
    | some u => exact absurd hp (R.dom p (by rw [e]; simp))
  have sF : Same F (upd F p o) := fun b u e => by rw [upd_ne (ne_of_none e hF)]; exact e
  refine ⟨sF, ⟨fun b u e => ?_, R.f0.trans sF, fun b u e => ?_, R.g0, fun a h => ?_, fun a h => ?_, R.len, fun i d h => ?_, fun i q ds h => ?_⟩⟩
  · by_cases hb : b = p
    · subst hb; rw [upd_same] at e ⊢; exact e
    · rw [upd_ne hb] at e ⊢; exact R.sub b u e
  · have := R.gd b u e
    rw [upd_ne (ne_of_none this hp)]; exact this
  · by_cases hb : a = p
    · subst hb; exact .inr hH0
    · rw [upd_ne hb] at h; exact R.new a h
  · by_cases hb : a = p
    · subst hb; rw [upd_same]; simp
    · rw [upd_ne hb]; exact R.dom a h
  · obtain ⟨v, e1, e2⟩ := R.val i d h
    exact ⟨v, e1, e2.up sF⟩
  · obtain ⟨a, xs, e1, e2, e3, e4, e5, e6, e7⟩ := R.own i q ds h
    have ne : a ≠ p := ne_of_none e3 hp
    exact ⟨a, xs, e1, by rw [upd_ne ne]; exact e2, by rw [upd_ne ne]; exact e3, e4.up sF, e5, e6, e7⟩
/-- the heap grows by one new object that nothing leans on yet -/
theorem Rl.grow {p : Addr} {o : HO} (R : Rl K c F σ H env) (hp : H p = none) : Rl K c F σ (upd H p o) env := by
  refine ⟨fun b u e => ?_, R.f0, fun b u e => ?_, R.g0, R.new, fun a h => ?_, R.len, R.val, fun i q ds h => ?_⟩
  · have := R.sub b u e
    rw [upd_ne (ne_of_none this hp)]; exact this
  · have := R.gd b u e
    rw [upd_ne (ne_of_none this hp)]; exact this
  · by_cases hb : a = p
    · subst hb; rw [upd_same]; simp
    · rw [upd_ne hb]; exact R.dom a h
  · obtain ⟨a, xs, e1, e2, e3, e4, e5, e6, e7⟩ := R.own i q ds h
    have ne : a ≠ p := ne_of_none e3 hp
    exact ⟨a, xs, e1, e2, by rw [upd_ne ne]; exact e3, e4, e5, e6, e7⟩
theorem Rl.h0 {p : Addr} (R : Rl K c F σ H env) (hp : H p = none) : c.H0 p = none := by
  cases e : c.H0 p with
  | none => rfl
  | some u => exact absurd hp (R.dom p (by rw [e]; simp))
theorem Rl.gn {p : Addr} (R : Rl K c F σ H env) (hp : H p = none) : c.G p = none := R.gd.free hp
end

/-! ### what an expression computes -/
abbrev Fe := En → Option (PyData × En)
abbrev Ft := En → Option (Bool × En)
abbrev Fl := En → Option (List PyData × En)

def Ge (K : Frag) (f : Fe) : TE := fun σ H Q => ∃ c F env d env', Rl K c F σ H env ∧ f env = some (d, env') ∧ ∀ v F' H', Same F F' → Rl K c F' σ H' env' → Dp K F' v d → Q v H'
def Gt (K : Frag) (f : Ft) : TT := fun σ H Q => ∃ c F env b env', Rl K c F σ H env ∧ f env = some (b, env') ∧ ∀ F' H', Same F F' → Rl K c F' σ H' env' → Q b H'
/-- a list that is new, and that nothing leans on -/
def Gf (K : Frag) (f : Fl) : TE := fun σ H Q => ∃ c F env ds env', Rl K c F σ H env ∧ f env = some (ds, env') ∧ ∀ p xs F' H', Same F F' → H' p = none → Rl K c F' σ H' env' → DpAll K F' xs ds → Q (.ref p) (upd H' p (.lst xs))
/-- arguments, from the left -/
def Ga (K : Frag) (f : Fl) : TA := fun σ H Q => ∃ c F env ds env', Rl K c F σ H env ∧ f env = some (ds, env') ∧ ∀ vs F' H', Same F F' → Rl K c F' σ H' env' → DpAll K F' vs ds → Q vs H'

theorem _root_.L2.PE.imp {X : Cx} {e : Expr} {t u : TE} (h : PE X e t) (w : ∀ σ H Q, u σ H Q → t σ H Q) : PE X e u := ⟨fun pins s σ H Q I q => h.run pins s σ H Q I (w σ H Q q)⟩
theorem _root_.L2.PT.imp {X : Cx} {e : Expr} {t u : TT} (h : PT X e t) (w : ∀ σ H Q, u σ H Q → t σ H Q) : PT X e u := ⟨fun pins s σ H Q I q => h.run pins s σ H Q I (w σ H Q q)⟩
theorem _root_.L2.PW.imp {X : Cx} {e : Expr} {t u : TT} (h : PW X e t) (w : ∀ σ H Q, u σ H Q → t σ H Q) : PW X e u := ⟨fun wh pins s σ H Q I q => h.run wh pins s σ H Q I (w σ H Q q)⟩
theorem _root_.L2.PA.imp {X : Cx} {es : List Expr} {t u : TA} (h : PA X es t) (w : ∀ σ H Q, u σ H Q → t σ H Q) : PA X es u := ⟨fun pos pins s σ H Q I q => h.run pos pins s σ H Q I (w σ H Q q)⟩
theorem _root_.L2.PS.imp {X : Cx} {e : Stmt} {t u : TS} (h : PS X e t) (w : ∀ D σ H, u D σ H → t D σ H) : PS X e u := ⟨fun pins s σ H D I q => h.run pins s σ H D I (w D σ H q)⟩
theorem _root_.L2.PSs.imp {X : Cx} {e : List Stmt} {t u : TS} (h : PSs X e t) (w : ∀ D σ H, u D σ H → t D σ H) : PSs X e u := ⟨fun pins s σ H D I q => h.run pins s σ H D I (w D σ H q)⟩
theorem _root_.L2.PI.imp {X : Cx} {tg it : Expr} {t u : TI} (h : PI X tg it t) (w : ∀ σ H R, u σ H R → t σ H R) : PI X tg it u := ⟨fun pins s σ H R I q => h.run pins s σ H R I (w σ H R q)⟩
theorem _root_.L2.PG.imp {X : Cx} {tg : Expr} {t u : TG} (h : PG X tg t) (w : ∀ v σ H Q, u v σ H Q → t v σ H Q) : PG X tg u := ⟨fun pins s σ H v v' Q I r q => h.run pins s σ H v v' Q I r (w v σ H Q q)⟩
theorem _root_.L2.PTs.imp {X : Cx} {es : List Expr} {t u : TT} (h : PTs X es t) (w : ∀ σ H Q, u σ H Q → t σ H Q) : PTs X es u := ⟨fun pins s σ H Q I q => h.run pins s σ H Q I (w σ H Q q)⟩

/-- run one, then go on -/
theorem Ge.go {K : Frag} {f : Fe} {σ : L2.St} {H : Hp} {Q : VK} {c : C3} {F : Hp} {env env' : En} {d : PyData} (R : Rl K c F σ H env) (e : f env = some (d, env')) (k : ∀ v F' H', Same F F' → Rl K c F' σ H' env' → Dp K F' v d → Q v H') : Ge K f σ H Q := ⟨c, F, env, d, env', R, e, k⟩

/-! ### denotations -/
def eC (d : PyData) : Fe := fun env => some (d, env)
def eV (i : Nat) : Fe := fun env => match env[i]? with
  | some (.val d) => some (d, env)
  | _ => none
/-- the contents of a list that this def owns, as data: read at once -/
def e1 (g : PyData → Option PyData) (a : Fe) : Fe := fun env => (a env).bind fun p => (g p.1).map fun z => (z, p.2)
def e2 (g : PyData → PyData → Option PyData) (a b : Fe) : Fe := fun env => (a env).bind fun p => (b p.2).bind fun q => (g p.1 q.1).map fun z => (z, q.2)
def eA (g : List PyData → Option PyData) (a : Fl) : Fe := fun env => (a env).bind fun p => (g p.1).map fun z => (z, p.2)
def lNil : Fl := fun env => some ([], env)
def lCons (a : Fe) (b : Fl) : Fl := fun env => (a env).bind fun p => (b p.2).map fun q => (p.1 :: q.1, q.2)

section
variable {X : Cx} {a b e : Expr} {es : List Expr} {fa fb f : Fe} {pos : Pos}

theorem de_c {d : PyData} {v : V} (h : PE X e (tC v)) (hv : ∀ F, Dp X.K F v d) : PE X e (Ge X.K (eC d)) := h.imp fun σ H Q ⟨c, F, env, d', env', R, e, k⟩ => by
  cases e
  exact k v F H (Same.refl F) R (hv F)
theorem de_int {i j} : PE X (.Constant (.int i) j pos) (Ge X.K (eC (.int i))) := de_c pe_int fun _ => .int i
theorem de_bl {b j} : PE X (.Constant (.bool b) j pos) (Ge X.K (eC (.bool b))) := de_c pe_bl fun _ => .bl b
theorem de_non {j} : PE X (.Constant .none j pos) (Ge X.K (eC .none)) := de_c pe_non fun _ => .non
theorem de_str {x j} : PE X (.Constant (.str x) j pos) (Ge X.K (eC (.str x))) := de_c pe_str fun _ => .str x
theorem de_v (i : Nat) {x : Str} (hN : X.N[i]? = some x := by rfl) (hv : Vis X.env.scope x := by first | exact Or.inl rfl | exact Or.inr (Or.inl rfl) | exact Or.inr (Or.inr rfl)) (hd : (x == ("__debug__" : Str)) = false := by decide)
    (hcd : (x == ("__classdict__" : Str)) = false := by decide) : PE X (.Name x pos) (Ge X.K (eV i)) := (pe_var hN hv hd hcd).imp fun σ H Q ⟨c, F, env, d, env', R, e, k⟩ => by
  unfold eV at e
  split at e
  · rename_i d' h
    cases e
    obtain ⟨v, e1, e2⟩ := R.val i _ h
    exact ⟨v, e1, k v F H (Same.refl F) R e2⟩
  · cases e
/-- an operation by values: it leaves the heap, or lays one new object -/
def Op1 (K : Frag) (r : V → Hp → VK → Prop) (g : PyData → Option PyData) : Prop := ∀ c F σ H env x d z (Q : VK), Rl K c F σ H env → Dp K F x d → g d = some z → (∀ v F' H', Same F F' → Rl K c F' σ H' env → Dp K F' v z → Q v H') → r x H Q
def Op2 (K : Frag) (r : R2) (g : PyData → PyData → Option PyData) : Prop := ∀ c F σ H env x y d e z (Q : VK), Rl K c F σ H env → Dp K F x d → Dp K F y e → g d e = some z → (∀ v F' H', Same F F' → Rl K c F' σ H' env → Dp K F' v z → Q v H') → r x y H Q
def OpA (K : Frag) (r : List V → Hp → VK → Prop) (g : List PyData → Option PyData) : Prop := ∀ c F σ H env xs ds z (Q : VK), Rl K c F σ H env → DpAll K F xs ds → g ds = some z → (∀ v F' H', Same F F' → Rl K c F' σ H' env → Dp K F' v z → Q v H') → r xs H Q
theorem go2 {K : Frag} {r : R2} {g : PyData → PyData → Option PyData} (o : Op2 K r g) {σ : L2.St} {H : Hp} {Q : VK} (h : Ge K (e2 g fa fb) σ H Q) : tOp r (Ge K fa) (Ge K fb) σ H Q := by
  obtain ⟨c, F, env, d, env', R, e, k⟩ := h
  unfold e2 at e
  simp only [Option.bind_eq_some_iff, Option.map_eq_some_iff] at e
  obtain ⟨⟨d1, n1⟩, h1, ⟨d2, n2⟩, h2, z, h3, h4⟩ := e
  obtain ⟨rfl, rfl⟩ := Prod.mk.inj h4
  refine ⟨c, F, env, d1, n1, R, h1, fun v1 F1 H1 s1 R1 p1 => ⟨c, F1, n1, d2, n2, R1, h2, fun v2 F2 H2 s2 R2 p2 => ?_⟩⟩
  exact o c F2 σ H2 n2 v1 v2 d1 d2 z Q R2 (p1.up s2) p2 h3 fun v F3 H3 s3 R3 p3 => k v F3 H3 ((s1.trans s2).trans s3) R3 p3
theorem go1 {K : Frag} {r : V → Hp → VK → Prop} {g : PyData → Option PyData} (o : Op1 K r g) {σ : L2.St} {H : Hp} {Q : VK} (h : Ge K (e1 g fa) σ H Q) : tUn r (Ge K fa) σ H Q := by
  obtain ⟨c, F, env, d, env', R, e, k⟩ := h
  unfold e1 at e
  simp only [Option.bind_eq_some_iff, Option.map_eq_some_iff] at e
  obtain ⟨⟨d1, n1⟩, h1, z, h3, h4⟩ := e
  obtain ⟨rfl, rfl⟩ := Prod.mk.inj h4
  refine ⟨c, F, env, d1, n1, R, h1, fun v1 F1 H1 s1 R1 p1 => ?_⟩
  exact o c F1 σ H1 n1 v1 d1 z Q R1 p1 h3 fun v F3 H3 s3 R3 p3 => k v F3 H3 (s1.trans s3) R3 p3
theorem goA {K : Frag} {r : List V → Hp → VK → Prop} {g : List PyData → Option PyData} {fl : Fl} (o : OpA K r g) {σ : L2.St} {H : Hp} {Q : VK} (h : Ge K (eA g fl) σ H Q) : tCB r (Ga K fl) σ H Q := by
  obtain ⟨c, F, env, d, env', R, e, k⟩ := h
  unfold eA at e
  simp only [Option.bind_eq_some_iff, Option.map_eq_some_iff] at e
  obtain ⟨⟨d1, n1⟩, h1, z, h3, h4⟩ := e
  obtain ⟨rfl, rfl⟩ := Prod.mk.inj h4
  refine ⟨c, F, env, d1, n1, R, h1, fun v1 F1 H1 s1 R1 p1 => ?_⟩
  exact o c F1 σ H1 n1 v1 d1 z Q R1 p1 h3 fun v F3 H3 s3 R3 p3 => k v F3 H3 (s1.trans s3) R3 p3
theorem da_nil : PA X [] (Ga X.K lNil) := pa_nil.imp fun σ H Q ⟨c, F, env, d, env', R, e, k⟩ => by
  cases e
  exact k [] F H (Same.refl F) R .nil
theorem da_cons {fl : Fl} (ha : PE X e (Ge X.K f)) (hr : PA X es (Ga X.K fl)) (hs : starEach (e :: es) X.env = (false, eval e X.env) :: starEach es X.env := by rfl) : PA X (e :: es) (Ga X.K (lCons f fl)) := (pa_cons ha hr hs).imp fun σ H Q h => by
  obtain ⟨c, F, env, d, env', R, e, k⟩ := h
  unfold lCons at e
  simp only [Option.bind_eq_some_iff, Option.map_eq_some_iff] at e
  obtain ⟨⟨d1, n1⟩, h1, ⟨d2, n2⟩, h2, h4⟩ := e
  obtain ⟨rfl, rfl⟩ := Prod.mk.inj h4
  refine ⟨c, F, env, d1, n1, R, h1, fun v1 F1 H1 s1 R1 p1 => ⟨c, F1, n1, d2, n2, R1, h2, fun v2 F2 H2 s2 R2 p2 => ?_⟩⟩
  exact k (v1 :: v2) F2 H2 (s1.trans s2) R2 (.cons (p1.up s2) p2)
theorem de_op {op : Operator} {r : R2} {g : PyData → PyData → Option PyData} (ho : OpR X (binaryOp op) r) (o : Op2 X.K r g) (ha : PE X a (Ge X.K fa)) (hb : PE X b (Ge X.K fb)) : PE X (.BinOp a op b pos) (Ge X.K (e2 g fa fb)) := (pe_op ho ha hb).imp fun _ _ _ h => go2 o h
theorem de_un {op : UnaryOp} {r : V → Hp → VK → Prop} {g : PyData → Option PyData} (ho : UnR X (unaryOp op) r) (o : Op1 X.K r g) (ha : PE X a (Ge X.K fa)) : PE X (.UnaryOp op a pos) (Ge X.K (e1 g fa)) := (pe_un ho ha).imp fun _ _ _ h => go1 o h
theorem de_cmp {op : CmpOp} {r : R2} {g : PyData → PyData → Option PyData} (ho : OpR X (compareOp op) r) (o : Op2 X.K r g) (ha : PE X a (Ge X.K fa)) (hb : PE X b (Ge X.K fb)) (hm : behindInMarks op b = false) : PE X (.Compare a [op] [b] pos) (Ge X.K (e2 g fa fb)) :=
  (pe_cmpR ho ha hb hm).imp fun _ _ _ h => go2 o h
theorem de_ix {r : R2} {g : PyData → PyData → Option PyData} (hr : IxR X r) (o : Op2 X.K r g) (ha : PE X a (Ge X.K fa)) (hb : PE X b (Ge X.K fb)) (hs : PlainIx b) : PE X (.Subscript a b pos) (Ge X.K (e2 g fa fb)) := (pe_ix hr ha hb hs).imp fun _ _ _ h => go2 o h
end

/-! ### operations by values -/
/-- what fits: below 2 ^ 400000 -/
def fits (i : Int) : Prop := i.natAbs < 2 ^ 400000
instance (i : Int) : Decidable (fits i) := inferInstanceAs (Decidable (_ < _))
section
variable {K : Frag}
@[simp] def gI (f : Int → Int → PyData) (C : Int → Int → Bool) : PyData → PyData → Option PyData
  | .int i, .int j => if C i j then some (f i j) else none
  | _, _ => none
theorem gI_inv {f : Int → Int → PyData} {C : Int → Int → Bool} {d e z : PyData} (h : gI f C d e = some z) : ∃ i j, d = .int i ∧ e = .int j ∧ C i j = true ∧ z = f i j := by
  unfold gI at h
  split at h
  · rename_i i j
    by_cases hc : C i j = true
    · rw [if_pos hc] at h
      exact ⟨i, j, rfl, rfl, hc, (Option.some.inj h).symm⟩
    · rw [if_neg hc] at h; cases h
  · cases h
theorem op2_int {f : Int → Int → Int} {C : Int → Int → Bool} {C' : Int → Int → Prop} (hC : ∀ i j, C i j = true → C' i j) : Op2 K (rI C' fun i j => .int (f i j)) (gI (fun i j => .int (f i j)) C) := by
  intro c F σ H env x y d e z Q R hx hy h k
  obtain ⟨i, j, rfl, rfl, hc, rfl⟩ := gI_inv h
  cases hx
  cases hy
  exact ⟨i, j, rfl, rfl, hC i j hc, k _ F H (Same.refl F) R (.int _)⟩
theorem op2_int0 {f : Int → Int → Int} : Op2 K (rI0 fun i j => .int (f i j)) (gI (fun i j => .int (f i j)) fun _ _ => true) := by
  intro c F σ H env x y d e z Q R hx hy h k
  obtain ⟨i, j, rfl, rfl, hc, rfl⟩ := gI_inv h
  cases hx
  cases hy
  exact ⟨i, j, rfl, rfl, k _ F H (Same.refl F) R (.int _)⟩
theorem op2_bool0 {f : Int → Int → Bool} : Op2 K (rI0 fun i j => .bl (f i j)) (gI (fun i j => .bool (f i j)) fun _ _ => true) := by
  intro c F σ H env x y d e z Q R hx hy h k
  obtain ⟨i, j, rfl, rfl, hc, rfl⟩ := gI_inv h
  cases hx
  cases hy
  exact ⟨i, j, rfl, rfl, k _ F H (Same.refl F) R (.bl _)⟩
end
end Dn

set_option Elab.async false
set_option linter.all false
set_option maxRecDepth 100000
/-! The operations by values. -/
namespace Dn
open PySem PySem.Spec PyProof.Rows L2
open PySem.W (Frag)

/-- a rule of either of two -/
theorem OpR.or {X : Cx} {f : Value → Value → Sem Value} {r r' : R2} (h : OpR X f r) (h' : OpR X f r') : OpR X f (fun x y H Q => r x y H Q ∨ r' x y H Q) := by
  intro pins s σ H x y v u Q I rx ry q
  rcases q with q | q
  · exact h pins s σ H x y v u Q I rx ry q
  · exact h' pins s σ H x y v u Q I rx ry q
theorem CallR.or {X : Cx} {f : Value} {r r' : List V → Hp → VK → Prop} (h : CallR X f r) (h' : CallR X f r') : CallR X f (fun x H Q => r x H Q ∨ r' x H Q) := by
  intro pins s σ H x u Q I rx q
  rcases q with q | q
  · exact h pins s σ H x u Q I rx q
  · exact h' pins s σ H x u Q I rx q
/-- sizes of lists that a denotation lets by -/
def okN (n : Nat) : Bool := decide (n ≤ 1000000)
theorem okN_line {n : Nat} (h : okN n = true) : n ≤ sizeLine := Nat.le_trans (of_decide_eq_true h) (by decide)
theorem okN_lt {n : Nat} (h : okN n = true) : n < sizeLine := Nat.lt_of_le_of_lt (of_decide_eq_true h) (by decide)
theorem okN_of {n : Nat} (h : n ≤ 1000000) : okN n = true := decide_eq_true h

section
variable {X : Cx} {K : Frag}
/-! ### list + list, whatever it stands on -/
def rCatG (K : Frag) : R2 := fun x y H Q => ∃ l b xs zs, x = .ref l ∧ y = .ref b ∧ SqL K H l xs ∧ SqL K H b zs ∧ xs.length + zs.length ≤ sizeLine ∧ ∀ p, H p = none → Q (.ref p) (upd H p (.lst (xs ++ zs)))
theorem op_catG : OpR X (binaryOp .Add) (rCatG X.K) := by
  intro pins s σ H x y v u Q I rx ry h
  obtain ⟨l, b, xs, zs, rfl, rfl, hH, hB, hz, q⟩ := h
  cases rx
  cases ry
  obtain ⟨its, r, ⟨⟨cls, dd, data, sl⟩, n, ho, hc, _, hd⟩, z1⟩ := I.list hH
  obtain ⟨its2, r2, ⟨⟨cls2, dd2, data2, sl2⟩, n2, ho2, hc2, _, hd2⟩, z2⟩ := I.list hB
  simp only at hc hd hc2 hd2
  subst hc hd hc2 hd2
  have l1 := r.length
  have l2 := r2.length
  have e : its.toArray ++ its2.toArray = (its ++ its2).toArray := by simp
  refine PySem.concat_meets ⟨_, ho, rfl⟩ ⟨_, ho2, rfl⟩ noFill_list_add seq_list_add PySem.F.slot_list_add PySem.F.entry_list_add (PySem.F.args_list_add_2 _ _) (list_addW l b its.toArray its2.toArray n n2 dd dd2 sl sl2 (by rw [List.size_toArray, List.size_toArray]; omega)) ⟨ho, ho2, ?_⟩
  rw [e]
  exact ⟨.ref _, _, I.lnew (t' := s.toks) (r.append r2) (by rw [List.length_append]; omega), rfl, q _ I.fresh⟩
/-! ### ints of any size -/
def mulOk (i j : Int) : Bool := decide (i.natAbs.log2 + j.natAbs.log2 < 134000000)
theorem mulOk_ok {i j : Int} (h : mulOk i j = true) : IntMulOk i j := by
  have b : ∀ x : Int, Builtin.Int.intBits x ≤ x.natAbs.log2 + 1 := fun x => by
    unfold Builtin.Int.intBits
    split <;> omega
  have h1 := b i
  have h2 := b j
  have h3 : i.natAbs.log2 + j.natAbs.log2 < 134000000 := of_decide_eq_true h
  have e : bitsLine = 134217728 := by decide
  unfold IntMulOk
  intro z
  rw [Bool.and_eq_true] at z
  have z2 := z.2
  unfold Builtin.Int.intTooBig at z2
  have z3 := of_decide_eq_true z2
  rw [e] at z3
  omega
theorem op_mulG : OpR X (binaryOp .Mult) (rI (fun i j => mulOk i j = true) fun i j => .int (i * j)) := opI fun _ _ _ _ _ _ _ hc q => mul_int q (mulOk_ok hc)
def divOk (j : Int) : Bool := decide (j ≠ 0) && decide (j.natAbs.log2 < 9000)
/-- not far longer than the divisor (classical: never computed) -/
noncomputable def divNear (i j : Int) : Bool := @decide (j ≠ 0 ∧ i.natAbs.log2 < j.natAbs.log2 + 4400) (Classical.propDecidable _)
theorem noPy_near {x y : Int} (h0 : y ≠ 0) (h : x.natAbs.log2 < y.natAbs.log2 + 4400) : Builtin.divisionGoesByPylong x y = false := by
  have key : (if x == 0 then 0 else x.natAbs.log2 / 30 + 1) ≤ (if y == 0 then 0 else y.natAbs.log2 / 30 + 1) + 150 := by
    have e1 : (y == 0) = false := by simpa using h0
    rw [e1]
    by_cases hx : (x == 0) = true
    · rw [if_pos hx]; omega
    · rw [if_neg hx]
      show _ ≤ y.natAbs.log2 / 30 + 1 + 150
      omega
  show (_ && decide ((if x == 0 then 0 else x.natAbs.log2 / 30 + 1) > (if y == 0 then 0 else y.natAbs.log2 / 30 + 1) + 150)) = false
  rw [decide_eq_false (Nat.not_lt.mpr key), Bool.and_false]
theorem op_fdivG : OpR X (binaryOp .FloorDiv) (rI (fun i j => (divOk j || divNear i j) = true) fun i j => .int (i.fdiv j)) := opI fun i j _ _ _ _ _ hc q => by
  rw [Bool.or_eq_true] at hc
  rcases hc with hc | hc
  · unfold divOk at hc
    rw [Bool.and_eq_true] at hc
    exact floordiv_int (of_decide_eq_true hc.1) q (.inl (PyProof.noPylong_of_log2 (of_decide_eq_true hc.2)))
  · have hc' := @of_decide_eq_true _ (Classical.propDecidable _) hc
    exact floordiv_int hc'.1 q (.inl (noPy_near hc'.1 hc'.2))
/-- (in Nat: the kernel must not take a large literal apart) -/
def powOk (i n : Int) : Bool := decide (0 ≤ n) && decide ((i.natAbs.log2 + 1) * n.toNat ≤ 100000000)
theorem op_powG : OpR X (binaryOp .Pow) (rI (fun i n => powOk i n = true) fun i n => .int (i ^ n.toNat)) := opI fun i n _ _ _ _ _ hc q => by
  unfold powOk at hc
  rw [Bool.and_eq_true] at hc
  have h0 : 0 ≤ n := of_decide_eq_true hc.1
  have h1 : ((i.natAbs.log2 : Int) + 1) * n ≤ 100000000 := by
    have h2 : (i.natAbs.log2 + 1) * n.toNat ≤ 100000000 := of_decide_eq_true hc.2
    have h3 : (((i.natAbs.log2 + 1) * n.toNat : Nat) : Int) ≤ 100000000 := by omega
    rw [Int.natCast_mul, Int.toNat_of_nonneg h0] at h3
    exact h3
  have b : (Builtin.Int.intBits i : Int) ≤ (i.natAbs.log2 : Int) + 1 := by
    unfold Builtin.Int.intBits
    split <;> omega
  refine pow_int h0 ?_ q
  have h2 := Int.mul_le_mul_of_nonneg_right b h0
  have : (2 ^ 27 : Int) = 134217728 := by decide
  omega

/-! ### + -/
@[simp] def gAdd : PyData → PyData → Option PyData
  | .int i, .int j => some (.int (i + j))
  | .list a, .list b => if okN (a.length + b.length) then some (.list (a ++ b)) else none
  | .tuple a, .tuple b => if okN (a.length + b.length) then some (.tuple (a ++ b)) else none
  | .str a, .str b => if okN (a.length + b.length) then some (.str (a ++ b)) else none
  | _, _ => none
def rAddG (K : Frag) : R2 := fun x y H Q => rI0 (fun i j => .int (i + j)) x y H Q ∨ rCatG K x y H Q ∨ rCatA K x y H Q ∨ (∃ i j, x = .str i ∧ y = .str j ∧ i.length + j.length ≤ sizeLine ∧ Q (.str (i ++ j)) H)
theorem op_addG : OpR X (binaryOp .Add) (rAddG X.K) := OpR.or op_add (OpR.or op_catG (OpR.or op_catA op_add_str))
theorem o2_add : Op2 K (rAddG K) gAdd := by
  intro c F σ H env x y d e z Q R hx hy h k
  unfold gAdd at h
  split at h
  · cases h; cases hx; cases hy
    exact .inl ⟨_, _, rfl, rfl, k _ F H (Same.refl F) R (.int _)⟩
  · rename_i a b
    split at h
    · rename_i hz
      cases h
      cases hx with
      | @lst a1 xs _ hs ha =>
        cases hy with
        | @lst a2 ys _ hs2 ha2 =>
          refine .inr (.inl ⟨a1, a2, xs, ys, rfl, rfl, R.sub.seq hs, R.sub.seq hs2, ?_, fun p hp => ?_⟩)
          · rw [ha.len, ha2.len]; exact okN_line hz
          · obtain ⟨sF, R'⟩ := R.laid (o := .lst (xs ++ ys)) hp
            exact k _ _ _ sF R' (.lst (SqL.of upd_same) ((ha.app ha2).up sF))
    · cases h
  · rename_i a b
    split at h
    · rename_i hz
      cases h
      cases hx with
      | @tup a1 xs _ hs ha =>
        cases hy with
        | @tup a2 ys _ hs2 ha2 =>
          refine .inr (.inr (.inl ⟨a1, a2, xs, ys, rfl, rfl, sqT_mono R.sub hs, sqT_mono R.sub hs2, ?_, fun e => ?_, fun e e' => ?_, fun _ _ p hp => ?_⟩))
          · rw [ha.len, ha2.len]; exact okN_line hz
          · subst e
            cases ha
            exact k _ F H (Same.refl F) R (.tup hs2 ha2)
          · subst e'
            cases ha2
            exact k _ F H (Same.refl F) R (.tup hs (by rw [List.append_nil]; exact ha))
          · obtain ⟨sF, R'⟩ := R.laid (o := .tup (xs ++ ys)) hp
            exact k _ _ _ sF R' (.tup (SqT.of upd_same) ((ha.app ha2).up sF))
    · cases h
  · rename_i a b
    split at h
    · rename_i hz
      cases h; cases hx; cases hy
      exact .inr (.inr (.inr ⟨a, b, rfl, rfl, okN_line hz, k _ F H (Same.refl F) R (.str _)⟩))
    · cases h
  · cases h
@[simp] def gSub : PyData → PyData → Option PyData
  | .int i, .int j => some (.int (i - j))
  | _, _ => none
theorem o2_sub : Op2 K (rI0 fun i j => .int (i - j)) gSub := by
  intro c F σ H env x y d e z Q R hx hy h k
  unfold gSub at h
  split at h
  · cases h; cases hx; cases hy
    exact ⟨_, _, rfl, rfl, k _ F H (Same.refl F) R (.int _)⟩
  · cases h
@[simp] def gMulI : PyData → PyData → Option PyData
  | .int i, .int j => if mulOk i j then some (.int (i * j)) else none
  | _, _ => none
theorem o2_mulI : Op2 K (rI (fun i j => mulOk i j = true) fun i j => .int (i * j)) gMulI := by
  intro c F σ H env x y d e z Q R hx hy h k
  unfold gMulI at h
  split at h
  · split at h
    · cases h; cases hx; cases hy
      exact ⟨_, _, rfl, rfl, by assumption, k _ F H (Same.refl F) R (.int _)⟩
    · cases h
  · cases h
@[simp] noncomputable def gFdiv : PyData → PyData → Option PyData
  | .int i, .int j => if divOk j || divNear i j then some (.int (i.fdiv j)) else none
  | _, _ => none
theorem o2_fdiv : Op2 K (rI (fun i j => (divOk j || divNear i j) = true) fun i j => .int (i.fdiv j)) gFdiv := by
  intro c F σ H env x y d e z Q R hx hy h k
  unfold gFdiv at h
  split at h
  · split at h
    · cases h; cases hx; cases hy
      exact ⟨_, _, rfl, rfl, by assumption, k _ F H (Same.refl F) R (.int _)⟩
    · cases h
  · cases h
@[simp] def gMod : PyData → PyData → Option PyData
  | .int i, .int j => if j ≠ 0 then some (.int (i.fmod j)) else none
  | _, _ => none
theorem o2_mod : Op2 K (rI (fun _ j => j ≠ 0) fun i j => .int (i.fmod j)) gMod := by
  intro c F σ H env x y d e z Q R hx hy h k
  unfold gMod at h
  split at h
  · split at h
    · cases h; cases hx; cases hy
      exact ⟨_, _, rfl, rfl, by assumption, k _ F H (Same.refl F) R (.int _)⟩
    · cases h
  · cases h
@[simp] def gPow : PyData → PyData → Option PyData
  | .int i, .int j => if powOk i j then some (.int (i ^ j.toNat)) else none
  | _, _ => none
theorem o2_pow : Op2 K (rI (fun i n => powOk i n = true) fun i n => .int (i ^ n.toNat)) gPow := by
  intro c F σ H env x y d e z Q R hx hy h k
  unfold gPow at h
  split at h
  · split at h
    · cases h; cases hx; cases hy
      exact ⟨_, _, rfl, rfl, by assumption, k _ F H (Same.refl F) R (.int _)⟩
    · cases h
  · cases h
@[simp] def gNeg : PyData → Option PyData
  | .int i => some (.int (-i))
  | _ => none
theorem o1_neg : Op1 K (rU fun i => .int (-i)) gNeg := by
  intro c F σ H env x d z Q R hx h k
  unfold gNeg at h
  split at h
  · cases h; cases hx
    exact ⟨_, rfl, k _ F H (Same.refl F) R (.int _)⟩
  · cases h

/-! ### comparisons -/
@[simp] def gEq : PyData → PyData → Option PyData
  | .int i, .int j => some (.bool (decide (i = j)))
  | d, e => if SeqAt.shaped d && SeqAt.shaped e then some (.bool (PyData.eqv d e)) else none
@[simp] def gNe : PyData → PyData → Option PyData
  | .int i, .int j => some (.bool (!decide (i = j)))
  | d, e => if SeqAt.shaped d && SeqAt.shaped e then some (.bool (!PyData.eqv d e)) else none
theorem eqv_int (i j : Int) : PyData.eqv (.int i) (.int j) = decide (i = j) := by
  simp only [PyData.eqv, Bool.beq_eq_decide_eq]
theorem shaped_int (i : Int) : SeqAt.shaped (.int i) = true := by
  simp [SeqAt.shaped, PyData.canLay0, PyData.depth]
theorem o2_eq : Op2 K (rEqD K) gEq := by
  intro c F σ H env x y d e z Q R hx hy h k
  unfold gEq at h
  split at h
  · cases h
    exact ⟨_, _, hx.up R.sub, hy.up R.sub, shaped_int _, shaped_int _, by rw [eqv_int]; exact k _ F H (Same.refl F) R (.bl _)⟩
  · split at h
    · rename_i hs
      cases h
      rw [Bool.and_eq_true] at hs
      exact ⟨_, _, hx.up R.sub, hy.up R.sub, hs.1, hs.2, k _ F H (Same.refl F) R (.bl _)⟩
    · cases h
theorem o2_ne : Op2 K (rNeD K) gNe := by
  intro c F σ H env x y d e z Q R hx hy h k
  unfold gNe at h
  split at h
  · cases h
    exact ⟨_, _, hx.up R.sub, hy.up R.sub, shaped_int _, shaped_int _, by rw [eqv_int]; exact k _ F H (Same.refl F) R (.bl _)⟩
  · split at h
    · rename_i hs
      cases h
      rw [Bool.and_eq_true] at hs
      exact ⟨_, _, hx.up R.sub, hy.up R.sub, hs.1, hs.2, k _ F H (Same.refl F) R (.bl _)⟩
    · cases h
@[simp] def gB (f : Int → Int → Bool) : PyData → PyData → Option PyData
  | .int i, .int j => some (.bool (f i j))
  | _, _ => none
theorem o2_B {f : Int → Int → Bool} : Op2 K (rI0 fun i j => .bl (f i j)) (gB f) := by
  intro c F σ H env x y d e z Q R hx hy h k
  unfold gB at h
  split at h
  · cases h; cases hx; cases hy
    exact ⟨_, _, rfl, rfl, k _ F H (Same.refl F) R (.bl _)⟩
  · cases h
abbrev gLt := gB fun i j => decide (i < j)
abbrev gLe := gB fun i j => decide (i ≤ j)
abbrev gGt := gB fun i j => decide (j < i)
abbrev gGe := gB fun i j => decide (j ≤ i)
/-- x is None: the right side is written -/
@[simp] def isNone : PyData → Bool
  | .none => true
  | _ => false
@[simp] def gIsN (d _e : PyData) : Option PyData := some (.bool (isNone d))
@[simp] def gNotN (d _e : PyData) : Option PyData := some (.bool (!isNone d))
theorem isNone_v {F : Hp} {v : V} {d : PyData} (h : Dp K F v d) : decide (v = .non) = isNone d := by
  cases h <;> simp

/-! ### subscripts -/
@[simp] def gIx : PyData → PyData → Option PyData
  | .list ds, .int i => atI ds i
  | .tuple ds, .int i => atI ds i
  | _, _ => none
theorem atI_dp {F : Hp} {vs : List V} {ds : List PyData} {i : Int} {d : PyData} (h : DpAll K F vs ds) (e : atI ds i = some d) : ∃ v, atI vs i = some v ∧ Dp K F v d := by
  unfold atI at e ⊢
  rw [h.len]
  cases hj : ixN ds.length i with
  | none => rw [hj] at e; cases e
  | some j =>
    rw [hj] at e
    exact h.at e
theorem o2_ix : Op2 K (rIx K) gIx := by
  intro c F σ H env x y d e z Q R hx hy h k
  unfold gIx at h
  split at h
  · cases hy
    cases hx with
    | lst hs ha =>
      obtain ⟨v, h1, h2⟩ := atI_dp ha h
      exact .inl ⟨_, _, _, v, rfl, rfl, R.sub.seq hs, h1, k _ F H (Same.refl F) R h2⟩
  · cases hy
    cases hx with
    | tup hs ha =>
      obtain ⟨v, h1, h2⟩ := atI_dp ha h
      exact .inr (.inl ⟨_, _, _, v, rfl, rfl, sqT_mono R.sub hs, h1, k _ F H (Same.refl F) R h2⟩)
  · cases h

/-! ### calls of built-ins -/
@[simp] def gLen : List PyData → Option PyData
  | [.list ds] => some (.int ds.length)
  | [.tuple ds] => some (.int ds.length)
  | [.str z] => if okN z.length then some (.int z.length) else none
  | _ => none
def rLenG (K : Frag) : List V → Hp → VK → Prop := fun xs H Q => (∃ p ys, xs = [.ref p] ∧ (SqL K H p ys ∨ SqT K H p ys) ∧ Q (.int ys.length) H) ∨ (∃ z, xs = [.str z] ∧ z.length ≤ sizeLine ∧ Q (.int z.length) H)
theorem call_lenG : CallR X (.builtin "len") (rLenG X.K) := CallR.or call_len_seq call_len_str
theorem oA_len : OpA K (rLenG K) gLen := by
  intro c F σ H env xs ds z Q R hx h k
  unfold gLen at h
  split at h
  · cases h
    cases hx with
    | cons h1 h2 =>
      cases h2
      cases h1 with
      | lst hs ha =>
        refine .inl ⟨_, _, rfl, .inl (R.sub.seq hs), ?_⟩
        rw [ha.len]
        exact k _ F H (Same.refl F) R (.int _)
  · cases h
    cases hx with
    | cons h1 h2 =>
      cases h2
      cases h1 with
      | tup hs ha =>
        refine .inl ⟨_, _, rfl, .inr (sqT_mono R.sub hs), ?_⟩
        rw [ha.len]
        exact k _ F H (Same.refl F) R (.int _)
  · split at h
    · rename_i hz
      cases h
      cases hx with
      | cons h1 h2 =>
        cases h2
        cases h1
        exact .inr ⟨_, rfl, okN_line hz, k _ F H (Same.refl F) R (.int _)⟩
    · cases h
  · cases h
@[simp] def gAbs : List PyData → Option PyData
  | [.int i] => some (.int (if i < 0 then -i else i))
  | _ => none
theorem oA_abs : OpA K (fun xs H Q => ∃ i, xs = [.int i] ∧ Q (.int (if i < 0 then -i else i)) H) gAbs := by
  intro c F σ H env xs ds z Q R hx h k
  unfold gAbs at h
  split at h
  · cases h
    cases hx with
    | cons h1 h2 =>
      cases h2; cases h1
      exact ⟨_, rfl, k _ F H (Same.refl F) R (.int _)⟩
  · cases h
@[simp] def gMax2 : List PyData → Option PyData
  | [.int i, .int j] => some (.int (if j > i then j else i))
  | _ => none
@[simp] def gMin2 : List PyData → Option PyData
  | [.int i, .int j] => some (.int (if j < i then j else i))
  | _ => none
theorem oA_max2 : OpA K (fun xs H Q => ∃ i j, xs = [.int i, .int j] ∧ Q (.int (if j > i then j else i)) H) gMax2 := by
  intro c F σ H env xs ds z Q R hx h k
  unfold gMax2 at h
  split at h
  · cases h
    cases hx with
    | cons h1 h2 =>
      cases h2 with
      | cons h2 h3 =>
        cases h3; cases h1; cases h2
        exact ⟨_, _, rfl, k _ F H (Same.refl F) R (.int _)⟩
  · cases h
theorem oA_min2 : OpA K (fun xs H Q => ∃ i j, xs = [.int i, .int j] ∧ Q (.int (if j < i then j else i)) H) gMin2 := by
  intro c F σ H env xs ds z Q R hx h k
  unfold gMin2 at h
  split at h
  · cases h
    cases hx with
    | cons h1 h2 =>
      cases h2 with
      | cons h2 h3 =>
        cases h3; cases h1; cases h2
        exact ⟨_, _, rfl, k _ F H (Same.refl F) R (.int _)⟩
  · cases h
@[simp] def gInt : List PyData → Option PyData
  | [.int i] => some (.int i)
  | [.bool b] => some (.int (if b then 1 else 0))
  | _ => none
theorem oA_int : OpA K (fun xs H Q => (∃ i, xs = [.int i] ∧ Q (.int i) H) ∨ ∃ k, xs = [.bl k] ∧ Q (.int (if k then 1 else 0)) H) gInt := by
  intro c F σ H env xs ds z Q R hx h k
  unfold gInt at h
  split at h
  · cases h
    cases hx with
    | cons h1 h2 =>
      cases h2; cases h1
      exact .inl ⟨_, rfl, k _ F H (Same.refl F) R (.int _)⟩
  · cases h
    cases hx with
    | cons h1 h2 =>
      cases h2; cases h1
      exact .inr ⟨_, rfl, k _ F H (Same.refl F) R (.int _)⟩
  · cases h
@[simp] def gStrI : List PyData → Option PyData
  | [.int i] => if decide (i.natAbs.log2 < 1920) then some (.str (toString i : String)) else none
  | _ => none
theorem oA_strI : OpA K (fun xs H Q => ∃ i, xs = [.int i] ∧ i.natAbs.log2 < 1920 ∧ Q (.str (toString i : String)) H) gStrI := by
  intro c F σ H env xs ds z Q R hx h k
  unfold gStrI at h
  split at h
  · split at h
    · rename_i hz
      cases h
      cases hx with
      | cons h1 h2 =>
        cases h2; cases h1
        exact ⟨_, rfl, of_decide_eq_true hz, k _ F H (Same.refl F) R (.str _)⟩
    · cases h
  · cases h
@[simp] def gGcd : List PyData → Option PyData
  | [.int i, .int j] => some (.int ((Nat.gcd i.natAbs j.natAbs : Nat) : Int))
  | _ => none
theorem oA_gcd : OpA K rGcd gGcd := by
  intro c F σ H env xs ds z Q R hx h k
  unfold gGcd at h
  split at h
  · cases h
    cases hx with
    | cons h1 h2 =>
      cases h2 with
      | cons h2 h3 =>
        cases h3; cases h1; cases h2
        exact ⟨_, _, rfl, k _ F H (Same.refl F) R (.int _)⟩
  · cases h
def lcmOk (i j : Int) : Bool := decide (i.natAbs < 2 ^ 6000) && decide (j.natAbs < 2 ^ 6000)
def rLcm : List V → Hp → VK → Prop := fun vs H Q => ∃ a b : Int, vs = [.int a, .int b] ∧ lcmOk a b = true ∧ Q (.int ((Nat.lcm a.natAbs b.natAbs : Nat) : Int)) H
theorem log_lt {n k : Nat} (h : n < 2 ^ (k + 1)) : n.log2 ≤ k := PySem.W.mg_log h
theorem cr_lcm : CallR X (.builtin "math.lcm") rLcm := by
  intro pins s σ H vs us Q I r h
  obtain ⟨a, b, rfl, hok, q⟩ := h
  obtain ⟨t, u, rfl⟩ := Vals.int2 r
  unfold lcmOk at hok
  rw [Bool.and_eq_true] at hok
  have ha : a.natAbs < 2 ^ 6000 := of_decide_eq_true hok.1
  have hb : b.natAbs < 2 ^ 6000 := of_decide_eq_true hok.2
  have p1 : (1 : Nat) < 2 ^ 6000 := Nat.one_lt_two_pow (by decide)
  have h1 : (max 1 a.natAbs).log2 ≤ 5999 := log_lt (by show max 1 a.natAbs < 2 ^ 6000; omega)
  have h2 : (max a.natAbs b.natAbs).log2 ≤ 5999 := log_lt (by show max a.natAbs b.natAbs < 2 ^ 6000; omega)
  have hl : a.natAbs.lcm b.natAbs < 2 ^ 12001 := by
    have e1 : a.natAbs.lcm b.natAbs ≤ a.natAbs * b.natAbs := Nat.div_le_self _ _
    have e2 : a.natAbs * b.natAbs ≤ 2 ^ 6000 * 2 ^ 6000 := Nat.mul_le_mul (Nat.le_of_lt ha) (Nat.le_of_lt hb)
    rw [← Nat.pow_add] at e2
    have e3 : (2 : Nat) ^ (6000 + 6000) < 2 ^ 12001 := Nat.pow_lt_pow_right (by decide) (by decide)
    omega
  have h3 : (a.natAbs.lcm b.natAbs).log2 ≤ 12000 := log_lt hl
  have e : bitsLine = 134217728 := by decide
  refine PySem.call_function_meets PySem.W.MGF.kind_lcm PySem.W.MGF.plain_lcm PySem.W.MGF.entry_lcm (PySem.W.MGF.args_lcm _ _) (PySem.W.mg_run_lcm a t b u (by omega) (by omega) ?_).meets ?_
  · rw [PySem.W.mc_lcm_one, e]
    show (a.natAbs.lcm b.natAbs).log2 < _
    omega
  · rw [PySem.W.mc_lcm_one]
    exact ⟨.int _, H, I.tok _, ⟨_, rfl⟩, q⟩
@[simp] def gLcm : List PyData → Option PyData
  | [.int i, .int j] => if lcmOk i j then some (.int ((Nat.lcm i.natAbs j.natAbs : Nat) : Int)) else none
  | _ => none
theorem oA_lcm : OpA K rLcm gLcm := by
  intro c F σ H env xs ds z Q R hx h k
  unfold gLcm at h
  split at h
  · split at h
    · cases h
      cases hx with
      | cons h1 h2 =>
        cases h2 with
        | cons h2 h3 =>
          cases h3; cases h1; cases h2
          exact ⟨_, _, rfl, by assumption, k _ F H (Same.refl F) R (.int _)⟩
    · cases h
  · cases h
/-- all ints of a list, if all are -/
def intsOf : List PyData → Option (List Int)
  | [] => some []
  | .int i :: ds => (intsOf ds).map (i :: ·)
  | _ :: _ => none
theorem intsOf_map : ∀ ns : List Int, intsOf (ns.map .int) = some ns
  | [] => rfl
  | n :: ns => by simp [intsOf, intsOf_map ns]
theorem intsOf_inv : ∀ {ds : List PyData} {ns : List Int}, intsOf ds = some ns → ds = ns.map .int
  | [], ns, h => by simp [intsOf] at h; subst h; rfl
  | d :: ds, ns, h => by
    cases d <;> simp [intsOf] at h
    obtain ⟨m, h1, h2⟩ := h
    subst h2
    rw [intsOf_inv h1]
    rfl
def boolsOf : List PyData → Option (List Bool)
  | [] => some []
  | .bool i :: ds => (boolsOf ds).map (i :: ·)
  | _ :: _ => none
theorem boolsOf_map : ∀ ns : List Bool, boolsOf (ns.map .bool) = some ns
  | [] => rfl
  | n :: ns => by simp [boolsOf, boolsOf_map ns]
theorem boolsOf_inv : ∀ {ds : List PyData} {ns : List Bool}, boolsOf ds = some ns → ds = ns.map .bool
  | [], ns, h => by simp [boolsOf] at h; subst h; rfl
  | d :: ds, ns, h => by
    cases d <;> simp [boolsOf] at h
    obtain ⟨m, h1, h2⟩ := h
    subst h2
    rw [boolsOf_inv h1]
    rfl
@[simp] def gSum : List PyData → Option PyData
  | [.list ds] => (intsOf ds).map fun ns => .int ns.sum
  | _ => none
theorem oA_sum : OpA K (rSum K) gSum := by
  intro c F σ H env xs ds z Q R hx h k
  unfold gSum at h
  split at h
  · simp only [Option.map_eq_some_iff] at h
    obtain ⟨ns, h1, rfl⟩ := h
    cases hx with
    | cons h2 h3 =>
      cases h3
      cases h2 with
      | lst hs ha =>
        rw [intsOf_inv h1] at ha
        have e := ha.ints
        subst e
        exact ⟨_, ns, rfl, R.sub.seq hs, k _ F H (Same.refl F) R (.int _)⟩
  · cases h
@[simp] def gAll : List PyData → Option PyData
  | [.list ds] => (boolsOf ds).map fun bs => .bool (bs.all id)
  | _ => none
@[simp] def gAny : List PyData → Option PyData
  | [.list ds] => (boolsOf ds).map fun bs => .bool (bs.any id)
  | _ => none
theorem oA_all : OpA K (rAll K) gAll := by
  intro c F σ H env xs ds z Q R hx h k
  unfold gAll at h
  split at h
  · simp only [Option.map_eq_some_iff] at h
    obtain ⟨ns, h1, rfl⟩ := h
    cases hx with
    | cons h2 h3 =>
      cases h3
      cases h2 with
      | lst hs ha =>
        rw [boolsOf_inv h1] at ha
        have e := ha.bools
        subst e
        exact ⟨_, ns, rfl, R.sub.seq hs, k _ F H (Same.refl F) R (.bl _)⟩
  · cases h
theorem oA_any : OpA K (rAny K) gAny := by
  intro c F σ H env xs ds z Q R hx h k
  unfold gAny at h
  split at h
  · simp only [Option.map_eq_some_iff] at h
    obtain ⟨ns, h1, rfl⟩ := h
    cases hx with
    | cons h2 h3 =>
      cases h3
      cases h2 with
      | lst hs ha =>
        rw [boolsOf_inv h1] at ha
        have e := ha.bools
        subst e
        exact ⟨_, ns, rfl, R.sub.seq hs, k _ F H (Same.refl F) R (.bl _)⟩
  · cases h
@[simp] def gTup : List PyData → Option PyData
  | [.list ds] => some (.tuple ds)
  | [.tuple ds] => some (.tuple ds)
  | _ => none
theorem oA_tup : OpA K (fun xs H Q => ∃ p ys, xs = [.ref p] ∧ ((SqL K H p ys ∧ ∀ l, H l = none → Q (.ref l) (upd H l (.tup ys))) ∨ (SqT K H p ys ∧ Q (.ref p) H))) gTup := by
  intro c F σ H env xs ds z Q R hx h k
  unfold gTup at h
  split at h
  · cases h
    cases hx with
    | cons h1 h2 =>
      cases h2
      cases h1 with
      | @lst a ys _ hs ha =>
        refine ⟨a, ys, rfl, .inl ⟨R.sub.seq hs, fun l hl => ?_⟩⟩
        obtain ⟨sF, R'⟩ := R.laid (o := .tup ys) hl
        exact k _ _ _ sF R' (.tup (SqT.of upd_same) (ha.up sF))
  · cases h
    cases hx with
    | cons h1 h2 =>
      cases h2
      cases h1 with
      | @tup a ys _ hs ha => exact ⟨a, ys, rfl, .inr ⟨sqT_mono R.sub hs, k _ F H (Same.refl F) R (.tup hs ha)⟩⟩
  · cases h
/-- isinstance(x, T) of data, T a built-in type -/
@[simp] def isT (T : String) : PyData → Bool
  | .none => T == "NoneType" || T == "object"
  | .bool _ => T == "bool" || T == "int" || T == "object"
  | .int _ => T == "int" || T == "object"
  | .str _ => T == "str" || T == "object"
  | .list _ => T == "list" || T == "object"
  | .tuple _ => T == "tuple" || T == "object"
  | .dict _ => T == "dict" || T == "object"
def tyN : PyData → String
  | .none => "NoneType"
  | .bool _ => "bool"
  | .int _ => "int"
  | .str _ => "str"
  | .list _ => "list"
  | .tuple _ => "tuple"
  | .dict _ => "dict"
theorem tyX_of {F H : Hp} (e : Same F H) {v : V} {d : PyData} (h : Dp K F v d) : TyX K H v (.type (tyN d)) := by
  cases h with
  | non => exact .base .non
  | bl b => exact .base (.bl b)
  | int i => exact .base (.int i)
  | str x => exact .base (.str x)
  | lst hs ha =>
    rcases e.seq hs with (h | ⟨o, h⟩) | ⟨o, its, n, h1, h2, _⟩
    · exact .base (.lst h)
    · exact .base (.frz h)
    · exact .kList h1 h2
  | tup hs ha =>
    rcases sqT_mono e hs with (h | ⟨o, h⟩) | ⟨o, its, n, h1, h2, _⟩
    · exact .base (.tup h)
    · exact .fTuple h
    · exact .kTuple h1 h2
/-- T's answers, by the library's own table -/
def IsTOk (T : String) : Prop := ∀ d : PyData, kitB (tyN d) T = some (isT T d)
theorem isT_int : IsTOk "int" := fun d => by cases d <;> (simp only [tyN, isT]; decide +kernel)
theorem isT_bool : IsTOk "bool" := fun d => by cases d <;> (simp only [tyN, isT]; decide +kernel)
theorem isT_str : IsTOk "str" := fun d => by cases d <;> (simp only [tyN, isT]; decide +kernel)
theorem isT_list : IsTOk "list" := fun d => by cases d <;> (simp only [tyN, isT]; decide +kernel)
theorem isT_tuple : IsTOk "tuple" := fun d => by cases d <;> (simp only [tyN, isT]; decide +kernel)
theorem isT_dict : IsTOk "dict" := fun d => by cases d <;> (simp only [tyN, isT]; decide +kernel)
end
end Dn

set_option Elab.async false
set_option linter.all false
set_option maxRecDepth 100000
/-! Expressions, tests, statements, loops, comprehensions, defs. -/
namespace Dn
open PySem PySem.Spec PyProof.Rows L2
open PySem.W (Frag)

/-! ### more of slots -/
section
variable {K : Frag} {c : C3} {F F' H H' : Hp} {σ : L2.St} {env env' : En}
theorem get_set_ne {α : Type} {l : List α} {i j : Nat} {a : α} (h : i ≠ j) : (l.set i a)[j]? = l[j]? := List.getElem?_set_ne h
theorem get_set_self {α : Type} {l : List α} {i : Nat} {a b : α} (h : (l.set i a)[i]? = some b) : b = a := by
  rw [List.getElem?_set] at h
  rw [if_pos rfl] at h
  split at h
  · exact (Option.some.inj h).symm
  · cases h
theorem get_set_some {α : Type} {l : List α} {i : Nat} {a b : α} (h : l[i]? = some b) : (l.set i a)[i]? = some a := by
  have hi := (List.getElem?_eq_some_iff.mp h).1
  rw [List.getElem?_set_self hi]
theorem lt_of_set {α : Type} {l : List α} {i : Nat} {a b : α} (h : (l.set i a)[i]? = some b) : i < l.length := by
  have := (List.getElem?_eq_some_iff.mp h).1
  simpa using this
/-- a slot takes data -/
theorem Rl.put {v : V} {d : PyData} (R : Rl K c F σ H env) (h : Dp K F v d) (i : Nat) : Rl K c F (σ.set i (some v)) H (env.set i (.val d)) := by
  refine ⟨R.sub, R.f0, R.gd, R.g0, R.new, R.dom, by simp [R.len], fun j e hj => ?_, fun j p ds hj => ?_⟩
  · by_cases hij : i = j
    · subst hij
      have := get_set_self hj
      cases this
      have hi := lt_of_set hj
      exact ⟨v, by rw [List.getElem?_set_self (by rw [← R.len]; exact hi)], h⟩
    · rw [get_set_ne hij] at hj
      obtain ⟨u, h1, h2⟩ := R.val j e hj
      exact ⟨u, by rw [get_set_ne hij]; exact h1, h2⟩
  · by_cases hij : i = j
    · subst hij
      cases get_set_self hj
    · rw [get_set_ne hij] at hj
      obtain ⟨a, xs, e1, e2, e3, e4, e5, e6, e7⟩ := R.own j p ds hj
      refine ⟨a, xs, by rw [get_set_ne hij]; exact e1, e2, e3, e4, e5, e6, fun k q es hk hq => ?_⟩
      by_cases hik : i = k
      · subst hik
        cases get_set_self hq
      · rw [get_set_ne hik] at hq ⊢
        exact e7 k q es hk hq
/-- a slot takes a list that is new, and owns it -/
theorem Rl.putOwn {p : Addr} {xs : List V} {ds : List PyData} (R : Rl K c F σ H env) (hp : H p = none) (h : DpAll K F xs ds) (i : Nat) : Rl K c F (σ.set i (some (.ref p))) (upd H p (.lst xs)) (env.set i (.own false ds)) := by
  have R1 := R.grow (o := .lst xs) hp
  have hF : F p = none := R.sub.free hp
  refine ⟨R1.sub, R1.f0, R1.gd, R1.g0, R1.new, R1.dom, by simp [R.len], fun j e hj => ?_, fun j q es hj => ?_⟩
  · by_cases hij : i = j
    · subst hij
      cases get_set_self hj
    · rw [get_set_ne hij] at hj
      obtain ⟨u, h1, h2⟩ := R.val j e hj
      exact ⟨u, by rw [get_set_ne hij]; exact h1, h2⟩
  · have other : ∀ (k : Nat) (q : Bool) (es : List PyData) (a : Addr), env[k]? = some (.own q es) → σ[k]? = some (some (.ref a)) → a ≠ p := fun k q es a h1 h2 => by
      obtain ⟨a', ys, e1, e2, e3, _⟩ := R.own k q es h1
      rw [h2] at e1
      cases e1
      exact ne_of_none e3 hp
    by_cases hij : i = j
    · subst hij
      have := get_set_self hj
      cases this
      have hi := lt_of_set hj
      refine ⟨p, xs, by rw [List.getElem?_set_self (by rw [← R.len]; exact hi)], hF, upd_same, h, R.gn hp, ?_, fun k q es hk hq => ?_⟩
      · exact R.h0 hp
      · have hik : i ≠ k := fun z => hk z.symm
        rw [get_set_ne hik] at hq ⊢
        intro z
        exact other k q es p hq z rfl
    · rw [get_set_ne hij] at hj
      obtain ⟨a, ys, e1, e2, e3, e4, e5, e6, e7⟩ := R1.own j q es hj
      have ap := other j q es a hj e1
      refine ⟨a, ys, by rw [get_set_ne hij]; exact e1, e2, e3, e4, e5, e6, fun k q es hk hq => ?_⟩
      by_cases hik : i = k
      · subst hik
        have := get_set_self hq
        cases this
        have hi := lt_of_set hq
        rw [List.getElem?_set_self (by rw [← R.len]; exact hi)]
        intro z
        cases z
        exact ap rfl
      · rw [get_set_ne hik] at hq ⊢
        exact e7 k q es hk hq
/-- the contents of an owned list change -/
theorem Rl.write {p : Bool} {ds es : List PyData} {i : Nat} {a : Addr} {ys : List V} (R : Rl K c F σ H env) (hi : env[i]? = some (.own p ds)) (ha : σ[i]? = some (some (.ref a))) (h : DpAll K F ys es) : Rl K c F σ (upd H a (.lst ys)) (env.set i (.own p es)) := by
  obtain ⟨a', xs, e1, e2, e3, e4, e5, e6, e7⟩ := R.own i p ds hi
  rw [ha] at e1
  cases e1
  refine ⟨fun b u e => ?_, R.f0, fun b u e => ?_, R.g0, R.new, fun b hb => ?_, by simp [R.len], fun j e hj => ?_, fun j q fs hj => ?_⟩
  · rw [upd_ne (ne_of_none e e2)]; exact R.sub b u e
  · rw [upd_ne (ne_of_none e e5)]; exact R.gd b u e
  · by_cases hba : b = a
    · subst hba; rw [upd_same]; simp
    · rw [upd_ne hba]; exact R.dom b hb
  · by_cases hij : i = j
    · subst hij
      cases get_set_self hj
    · rw [get_set_ne hij] at hj
      exact R.val j e hj
  · by_cases hij : i = j
    · subst hij
      have := get_set_self hj
      cases this
      refine ⟨a, ys, ha, e2, upd_same, h, e5, e6, fun k q es hk hq => ?_⟩
      have hik : i ≠ k := fun z => hk z.symm
      rw [get_set_ne hik] at hq
      exact e7 k q es hk hq
    · rw [get_set_ne hij] at hj
      obtain ⟨b, zs, f1, f2, f3, f4, f5, f6, f7⟩ := R.own j q fs hj
      have hne : b ≠ a := fun z => by
        subst z
        exact e7 j q fs (fun z => hij z.symm) hj f1
      refine ⟨b, zs, f1, f2, by rw [upd_ne hne]; exact f3, f4, f5, f6, fun k q es hk hq => ?_⟩
      by_cases hik : i = k
      · subst hik
        rw [ha]
        intro z
        cases z
        exact hne rfl
      · rw [get_set_ne hik] at hq
        exact f7 k q es hk hq
/-- an owned list of this def's own becomes data for good -/
theorem Rl.freeze {ds : List PyData} {i : Nat} (R : Rl K c F σ H env) (hi : env[i]? = some (.own false ds)) : ∃ F', Same F F' ∧ Rl K c F' σ H (env.set i (.val (.list ds))) := by
  obtain ⟨a, xs, e1, e2, e3, e4, e5, e6, e7⟩ := R.own i false ds hi
  have e6' : c.H0 a = none := e6
  have sF : Same F (upd F a (.lst xs)) := fun b u e => by rw [upd_ne (ne_of_none e e2)]; exact e
  refine ⟨upd F a (.lst xs), sF, ⟨fun b u e => ?_, R.f0.trans sF, R.gd, R.g0, fun b hb => ?_, R.dom, by simp [R.len], fun j e hj => ?_, fun j q fs hj => ?_⟩⟩
  · by_cases hba : b = a
    · subst hba; rw [upd_same] at e; cases e; exact e3
    · rw [upd_ne hba] at e; exact R.sub b u e
  · by_cases hba : b = a
    · subst hba; exact .inr e6'
    · rw [upd_ne hba] at hb; exact R.new b hb
  · by_cases hij : i = j
    · subst hij
      have := get_set_self hj
      cases this
      exact ⟨.ref a, e1, .lst (SqL.of upd_same) (e4.up sF)⟩
    · rw [get_set_ne hij] at hj
      obtain ⟨u, h1, h2⟩ := R.val j e hj
      exact ⟨u, h1, h2.up sF⟩
  · by_cases hij : i = j
    · subst hij
      cases get_set_self hj
    · rw [get_set_ne hij] at hj
      obtain ⟨b, zs, f1, f2, f3, f4, f5, f6, f7⟩ := R.own j q fs hj
      have hne : b ≠ a := fun z => by
        subst z
        exact e7 j q fs (fun z => hij z.symm) hj f1
      refine ⟨b, zs, f1, by rw [upd_ne hne]; exact f2, f3, f4.up sF, f5, f6, fun k q es hk hq => ?_⟩
      by_cases hik : i = k
      · subst hik
        cases get_set_self hq
      · rw [get_set_ne hik] at hq
        exact f7 k q es hk hq
/-- an object that nothing knows is watched: it stays while other things run -/
def wat (c : C3) (p : Addr) (o : HO) : C3 := { c with H0 := upd c.H0 p o, G := upd c.G p o }
theorem Rl.watch' {p : Addr} {o : HO} (R : Rl K c F σ H env) (hp : H p = none) : Rl K (wat c p o) F σ (upd H p o) env := by
  have R1 := R.grow (o := o) hp
  have hF : F p = none := R.sub.free hp
  refine ⟨R1.sub, R1.f0, fun b u e => ?_, fun b u e => ?_, fun b hb => ?_, fun b hb => ?_, R1.len, R1.val, fun i q ds h => ?_⟩
  · by_cases hbp : b = p
    · subst hbp
      rw [upd_same]
      exact (show upd c.G b o b = some u from e) ▸ upd_same.symm
    · have e' : c.G b = some u := by
        rw [← upd_ne (H := c.G) (o := o) hbp]; exact e
      rw [upd_ne hbp]
      exact R.gd b u e'
  · by_cases hbp : b = p
    · subst hbp
      have e' : upd c.G b o b = some u := e
      rw [upd_same] at e'
      show upd c.H0 b o b = some u
      rw [upd_same]; exact e'
    · have e' : upd c.G p o b = some u := e
      rw [upd_ne hbp] at e'
      show upd c.H0 p o b = some u
      rw [upd_ne hbp]; exact R.g0 b u e'
  · have hbp : b ≠ p := fun z => by subst z; exact hb hF
    rcases R.new b hb with z | z
    · exact .inl z
    · refine .inr ?_
      show upd c.H0 p o b = none
      rw [upd_ne hbp]; exact z
  · by_cases hbp : b = p
    · subst hbp; rw [upd_same]; simp
    · rw [upd_ne hbp]
      refine R.dom b fun z => hb ?_
      show upd c.H0 p o b = none
      rw [upd_ne hbp]; exact z
  · obtain ⟨a, xs, e1, e2, e3, e4, e5, e6, e7⟩ := R.own i q ds h
    have ne : a ≠ p := ne_of_none e3 hp
    refine ⟨a, xs, e1, e2, by rw [upd_ne ne]; exact e3, e4, ?_, ?_, e7⟩
    · show upd c.G p o a = none
      rw [upd_ne ne]; exact e5
    · cases q with
      | true => exact e6
      | false =>
        show upd c.H0 p o a = none
        rw [upd_ne ne]; exact e6
theorem Rl.watched {p : Addr} {o : HO} (R : Rl K (wat c p o) F σ H env) : H p = some o := R.gd p o (show upd c.G p o p = some o from upd_same)
/-- .. and changed, and forgotten -/
theorem Rl.unwatch {p : Addr} {o o' : HO} (R : Rl K (wat c p o) F σ H env) (hG : c.G p = none) (hF0 : c.F0 p = none) (hH0 : c.H0 p = none) : F p = none ∧ Rl K c F σ (upd H p o') env := by
  have hF : F p = none := by
    cases e : F p with
    | none => rfl
    | some u =>
      rcases R.new p (by rw [e]; simp) with z | z
      · exact absurd hF0 z
      · have z' : upd c.H0 p o p = none := z
        rw [upd_same] at z'; cases z'
  refine ⟨hF, ⟨fun b u e => ?_, R.f0, fun b u e => ?_, fun b u e => ?_, fun b hb => ?_, fun b hb => ?_, R.len, R.val, fun i q ds h => ?_⟩⟩
  · rw [upd_ne (ne_of_none e hF)]; exact R.sub b u e
  · have hbp : b ≠ p := ne_of_none e hG
    rw [upd_ne hbp]
    refine R.gd b u ?_
    show upd c.G p o b = some u
    rw [upd_ne hbp]; exact e
  · have hbp : b ≠ p := ne_of_none e hG
    have := R.g0 b u (by show upd c.G p o b = some u; rw [upd_ne hbp]; exact e)
    have t : upd c.H0 p o b = some u := this
    rw [upd_ne hbp] at t; exact t
  · have hbp : b ≠ p := fun z => by subst z; exact hb hF
    rcases R.new b hb with z | z
    · exact .inl z
    · have z' : upd c.H0 p o b = none := z
      rw [upd_ne hbp] at z'; exact .inr z'
  · by_cases hbp : b = p
    · subst hbp; exact absurd hH0 hb
    · rw [upd_ne hbp]
      refine R.dom b fun z => hb ?_
      have z' : upd c.H0 p o b = none := z
      rw [upd_ne hbp] at z'; exact z'
  · obtain ⟨a, xs, e1, e2, e3, e4, e5, e6, e7⟩ := R.own i q ds h
    have ne : a ≠ p := fun z => by
      subst z
      have z' : upd c.G a o a = none := e5
      rw [upd_same] at z'; cases z'
    refine ⟨a, xs, e1, e2, by rw [upd_ne ne]; exact e3, e4, ?_, ?_, e7⟩
    · have z' : upd c.G p o a = none := e5
      rw [upd_ne ne] at z'; exact z'
    · cases q with
      | true => exact e6
      | false =>
        have z' : upd c.H0 p o a = none := e6
        rw [upd_ne ne] at z'; exact z'
end

/-! ### fresh lists -/
def eF (f : Fl) : Fe := fun env => (f env).map fun p => (.list p.1, p.2)
section
variable {X : Cx} {a b e : Expr} {es : List Expr} {fa fb f : Fe} {fl fm : Fl} {pos : Pos}
theorem gf_ge {K : Frag} {σ : L2.St} {H : Hp} {Q : VK} (h : Ge K (eF fl) σ H Q) : Gf K fl σ H Q := by
  obtain ⟨c, F, env, d, env', R, e, k⟩ := h
  unfold eF at e
  simp only [Option.map_eq_some_iff] at e
  obtain ⟨⟨ds, n⟩, h1, h2⟩ := e
  obtain ⟨rfl, rfl⟩ := Prod.mk.inj h2
  refine ⟨c, F, env, ds, n, R, h1, fun p xs F' H' s hp R' hx => ?_⟩
  obtain ⟨sF, R2⟩ := R'.laid (o := .lst xs) hp
  exact k _ _ _ (s.trans sF) R2 (.lst (SqL.of upd_same) (hx.up sF))
theorem de_f (h : PE X e (Gf X.K fl)) : PE X e (Ge X.K (eF fl)) := h.imp fun _ _ _ => gf_ge
/-- a list display -/
def lLst (f : Fl) : Fl := fun env => (f env).bind fun p => if okN p.1.length then some p else none
theorem df_lst (ha : PA X es (Ga X.K fl)) : PE X (.List es pos) (Gf X.K (lLst fl)) := (pe_lst ha).imp fun σ H Q h => by
  obtain ⟨c, F, env, ds, env', R, e, k⟩ := h
  unfold lLst at e
  simp only [Option.bind_eq_some_iff] at e
  obtain ⟨⟨d1, n1⟩, h1, h2⟩ := e
  split at h2
  · rename_i hz
    cases h2
    exact ⟨c, F, env, _, _, R, h1, fun vs F' H' s R' hd => ⟨by rw [hd.len]; exact okN_line hz, fun p hp => k p vs F' H' s hp R' hd⟩⟩
  · cases h2
def eTup (f : Fl) : Fe := fun env => (f env).bind fun p => if okN p.1.length then some (.tuple p.1, p.2) else none
theorem de_tup {x1} (ha : PA X es (Ga X.K fl)) : PE X (.Tuple es x1 pos) (Ge X.K (eTup fl)) := (pe_tup ha).imp fun σ H Q h => by
  obtain ⟨c, F, env, ds, env', R, e, k⟩ := h
  unfold eTup at e
  simp only [Option.bind_eq_some_iff] at e
  obtain ⟨⟨d1, n1⟩, h1, h2⟩ := e
  split at h2
  · rename_i hz
    cases h2
    refine ⟨c, F, env, d1, n1, R, h1, fun vs F' H' s R' hd => ⟨by rw [hd.len]; exact okN_line hz, fun p hp => ?_⟩⟩
    obtain ⟨sF, R2⟩ := R'.laid (o := .tup vs) hp
    exact k _ _ _ (s.trans sF) R2 (.tup (SqT.of upd_same) (hd.up sF))
  · cases h2
/-- [..] * n -/
def reps (n : Int) (ds : List PyData) : List PyData := (List.replicate n.toNat ds).flatten
/-- (decided by no reckoning: the kernel must not try) -/
noncomputable def smallI (i : Int) : Bool := @decide (-(2 ^ 62) ≤ i ∧ i < 2 ^ 62) (Classical.propDecidable _)
theorem smallI_b {n : Int} (h : smallI n = true) : -(2 ^ 62) ≤ n ∧ n < 2 ^ 62 := by
  unfold smallI at h
  exact @of_decide_eq_true _ (Classical.propDecidable _) h
noncomputable def lRep (fl : Fl) (fb : Fe) : Fl := fun env => (fl env).bind fun p => (fb p.2).bind fun q => match q.1 with
  | .int n => if smallI n && okN (p.1.length * n.toNat) then some (reps n p.1, q.2) else none
  | _ => none
theorem dp_reps {K : Frag} {F : Hp} {xs : List V} {ds : List PyData} (h : DpAll K F xs ds) : ∀ n : Nat, DpAll K F (List.replicate n xs).flatten (List.replicate n ds).flatten
  | 0 => .nil
  | n + 1 => by
    rw [List.replicate_succ, List.replicate_succ, List.flatten_cons, List.flatten_cons]
    exact h.app (dp_reps h n)
theorem df_rep (ha : PE X a (Gf X.K fl)) (hb : PE X b (Ge X.K fb)) : PE X (.BinOp a .Mult b pos) (Gf X.K (lRep fl fb)) := (pe_op op_rep ha hb).imp fun σ H Q h => by
  obtain ⟨c, F, env, ds, env', R, e, k⟩ := h
  unfold lRep at e
  simp only [Option.bind_eq_some_iff] at e
  obtain ⟨⟨d1, n1⟩, h1, ⟨d2, n2⟩, h2, h3⟩ := e
  simp only at h3
  split at h3
  · rename_i n
    split at h3
    · rename_i hz
      rw [Bool.and_eq_true] at hz
      obtain ⟨b1, b2⟩ := smallI_b hz.1
      cases h3
      refine ⟨c, F, env, d1, n1, R, h1, fun p xs F1 H1 s1 hp R1 hx => ?_⟩
      obtain ⟨sF, R2⟩ := R1.laid (o := .lst xs) hp
      refine ⟨c, _, n1, .int n, env', R2, h2, fun v F2 H2 s2 R3 hv => ?_⟩
      cases hv
      refine ⟨p, n, xs, rfl, rfl, R3.sub p _ (s2 p _ upd_same), by omega, by omega, ?_, fun q hq => ?_⟩
      · rw [hx.len]; exact okN_line hz.2
      · exact k q _ F2 H2 ((s1.trans sF).trans s2) hq R3 (dp_reps (hx.up (sF.trans s2)) n.toNat)
    · cases h3
  · cases h3
/-! ### slices -/
abbrev Fo := En → Option (Option Int × En)
def Go (K : Frag) (f : Fo) : TO := fun σ H Q => ∃ c F env o env', Rl K c F σ H env ∧ f env = some (o, env') ∧ ∀ F' H', Same F F' → Rl K c F' σ H' env' → Q o H'
def oNo : Fo := fun env => some (none, env)
def oSo (f : Fe) : Fo := fun env => (f env).bind fun p => match p.1 with
  | .int i => some (some i, p.2)
  | _ => none
theorem PO.imp {X : Cx} {e : Option Expr} {t u : TO} (h : PO X e t) (w : ∀ σ H Q, u σ H Q → t σ H Q) : PO X e u := ⟨fun pins s σ H Q I q => h.run pins s σ H Q I (w σ H Q q)⟩
theorem do_no : PO X none (Go X.K oNo) := PO.imp po_none fun σ H Q ⟨c, F, env, o, env', R, e, k⟩ => by
  cases e
  exact k F H (Same.refl F) R
theorem do_so (h : PE X e (Ge X.K f)) : PO X (some e) (Go X.K (oSo f)) := PO.imp (po_some h) fun σ H Q ⟨c, F, env, o, env', R, e, k⟩ => by
  unfold oSo at e
  simp only [Option.bind_eq_some_iff] at e
  obtain ⟨⟨d1, n1⟩, h1, h2⟩ := e
  simp only at h2
  split at h2
  · cases h2
    refine ⟨c, F, env, _, _, R, h1, fun v F' H' s R' hv => ?_⟩
    cases hv
    exact ⟨_, rfl, k F' H' s R'⟩
  · cases h2
def cutD (xs : List PyData) (lo hi : Option Int) : List PyData := (xs.drop (HT.sIx xs.length 0 lo)).take (HT.sIx xs.length xs.length hi - HT.sIx xs.length 0 lo)
theorem cut_dp {K : Frag} {F : Hp} {xs : List V} {ds : List PyData} (h : DpAll K F xs ds) (lo hi : Option Int) : DpAll K F (cutV xs lo hi) (cutD ds lo hi) := by
  unfold cutV cutD
  rw [h.len]
  exact (h.drop _).take _
@[simp] def gCut : PyData → Option Int → Option Int → Option PyData
  | .list ds, lo, hi => some (.list (cutD ds lo hi))
  | .tuple ds, lo, hi => some (.tuple (cutD ds lo hi))
  | _, _, _ => none
def eCut (fa : Fe) (lo hi : Fo) : Fe := fun env => (fa env).bind fun p => (lo p.2).bind fun q => (hi q.2).bind fun r => (gCut p.1 q.1 r.1).map fun z => (z, r.2)
theorem cutD_whole {ds : List PyData} {lo hi : Option Int} (h : HT.sIx ds.length 0 lo = 0 ∧ HT.sIx ds.length ds.length hi = ds.length) : cutD ds lo hi = ds := by
  unfold cutD
  rw [h.1, h.2]
  simp
theorem de_cut {lo hi : Option Expr} {fo fh : Fo} {p2} (ha : PE X a (Ge X.K fa)) (hl : PO X lo (Go X.K fo)) (hh : PO X hi (Go X.K fh)) : PE X (.Subscript a (.Slice lo hi none p2) pos) (Ge X.K (eCut fa fo fh)) :=
  (pe_slice (SlR.or sl_list sl_tupA) ha hl hh).imp fun σ H Q h => by
  obtain ⟨c, F, env, d, env', R, e, k⟩ := h
  unfold eCut at e
  simp only [Option.bind_eq_some_iff, Option.map_eq_some_iff] at e
  obtain ⟨⟨d1, n1⟩, h1, ⟨d2, n2⟩, h2, ⟨d3, n3⟩, h3, z, h4, h5⟩ := e
  obtain ⟨rfl, rfl⟩ := Prod.mk.inj h5
  refine ⟨c, F, env, d1, n1, R, h1, fun v1 F1 H1 s1 R1 p1 => ⟨c, F1, n1, d2, n2, R1, h2, fun F2 H2 s2 R2 => ⟨c, F2, n2, d3, _, R2, h3, fun F3 H3 s3 R3 => ?_⟩⟩⟩
  have p3 := p1.up (s2.trans s3)
  have s13 := (s1.trans s2).trans s3
  dsimp only at h4 k
  unfold gCut at h4
  split at h4
  · cases h4
    cases p3 with
    | @lst a1 xs _ hs ha =>
      refine .inl ⟨a1, xs, rfl, R3.sub.seq hs, fun q hq => ?_⟩
      obtain ⟨sF, R4⟩ := R3.laid (o := .lst (cutV xs d2 d3)) hq
      exact k _ _ _ (s13.trans sF) R4 (.lst (SqL.of upd_same) ((cut_dp ha d2 d3).up sF))
  · cases h4
    cases p3 with
    | @tup a1 xs _ hs ha =>
      refine .inr ⟨a1, xs, rfl, sqT_mono R3.sub hs, fun hw => ?_, fun _ q hq => ?_⟩
      · rw [ha.len] at hw
        rw [cutD_whole hw] at k
        exact k _ F3 H3 s13 R3 (.tup hs ha)
      · obtain ⟨sF, R4⟩ := R3.laid (o := .tup (cutV xs d2 d3)) hq
        exact k _ _ _ (s13.trans sF) R4 (.tup (SqT.of upd_same) ((cut_dp ha d2 d3).up sF))
  · cases h4
end

/-! ### tests -/
def tB' (f : Fe) : Ft := fun env => (f env).bind fun p => match p.1 with
  | .bool b => some (b, p.2)
  | _ => none
def tNo (f : Ft) : Ft := fun env => (f env).map fun p => (!p.1, p.2)
def tAn (f g : Ft) : Ft := fun env => (f env).bind fun p => if p.1 then g p.2 else some (false, p.2)
def tOrr (f g : Ft) : Ft := fun env => (f env).bind fun p => if p.1 then some (true, p.2) else g p.2
@[simp] def truth : PyData → Option Bool
  | .none => some false
  | .bool b => some b
  | .int i => some (i != 0)
  | .str x => if okN x.length then some ((x.length : Int) != 0) else none
  | .list ds => some (!ds.isEmpty)
  | .tuple ds => some (!ds.isEmpty)
  | .dict _ => none
def tTr (f : Fe) : Ft := fun env => (f env).bind fun p => (truth p.1).map fun b => (b, p.2)
section
variable {X : Cx} {a b e : Expr} {rest : List Expr} {fa fb f : Fe} {ta tb : Ft} {pos : Pos}
theorem bool_of {K : Frag} {σ : L2.St} {H : Hp} {Q : Bool → Hp → Prop} (h : Gt K (tB' f) σ H Q) : Ge K f σ H fun x H1 => ∃ k, x = .bl k ∧ Q k H1 := by
  obtain ⟨c, F, env, d, env', R, e, k⟩ := h
  unfold tB' at e
  simp only [Option.bind_eq_some_iff] at e
  obtain ⟨⟨d1, n1⟩, h1, h2⟩ := e
  simp only at h2
  split at h2
  · cases h2
    refine ⟨c, F, env, _, _, R, h1, fun v F' H' s R' hv => ?_⟩
    cases hv
    exact ⟨_, rfl, k F' H' s R'⟩
  · cases h2
theorem dt_val (h : PE X e (Ge X.K f)) (he : ∀ whole, isTrue e X.env whole = (do let v ← whole; standAt e.pos; holding [v] (truthy v)) := by intro _; rfl) : PT X e (Gt X.K (tB' f)) := (pt_val h he).imp fun _ _ _ => bool_of
theorem dt_cmp {op : CmpOp} {r : R2} {g : PyData → PyData → Option PyData} (ho : OpR X (compareOp op) r) (o : Op2 X.K r g) (ha : PE X a (Ge X.K fa)) (hb : PE X b (Ge X.K fb)) (hm : behindInMarks op b = false) : PT X (.Compare a [op] [b] pos) (Gt X.K (tB' (e2 g fa fb))) :=
  (pt_cmpR ho ha hb hm).imp fun σ H Q h => go2 o (bool_of h)
theorem dt_not (h : PT X a (Gt X.K ta)) : PT X (.UnaryOp .Not a pos) (Gt X.K (tNo ta)) := (pt_not h).imp fun σ H Q h => by
  obtain ⟨c, F, env, d, env', R, e, k⟩ := h
  unfold tNo at e
  simp only [Option.map_eq_some_iff] at e
  obtain ⟨⟨d1, n1⟩, h1, h2⟩ := e
  obtain ⟨rfl, rfl⟩ := Prod.mk.inj h2
  exact ⟨c, F, env, d1, n1, R, h1, k⟩
theorem dw_and1 (h : PT X a (Gt X.K ta)) : PW X (.BoolOp .And [a] pos) (Gt X.K ta) := pw_and1 h
theorem dw_or1 (h : PT X a (Gt X.K ta)) : PW X (.BoolOp .Or [a] pos) (Gt X.K ta) := pw_or1 h
theorem dw_and (h : PT X a (Gt X.K ta)) (h2 : PW X (.BoolOp .And (b :: rest) pos) (Gt X.K tb)) : PW X (.BoolOp .And (a :: b :: rest) pos) (Gt X.K (tAn ta tb)) := (pw_and h h2).imp fun σ H Q h => by
  obtain ⟨c, F, env, d, env', R, e, k⟩ := h
  unfold tAn at e
  simp only [Option.bind_eq_some_iff] at e
  obtain ⟨⟨d1, n1⟩, h1, h2⟩ := e
  refine ⟨c, F, env, d1, n1, R, h1, fun F1 H1 s1 R1 => ?_⟩
  cases d1 with
  | true => exact iteT ⟨c, F1, n1, d, env', R1, h2, fun F2 H2 s2 R2 => k F2 H2 (s1.trans s2) R2⟩
  | false =>
    cases h2
    exact iteF (k F1 H1 s1 R1)
theorem dw_or (h : PT X a (Gt X.K ta)) (h2 : PW X (.BoolOp .Or (b :: rest) pos) (Gt X.K tb)) : PW X (.BoolOp .Or (a :: b :: rest) pos) (Gt X.K (tOrr ta tb)) := (pw_or h h2).imp fun σ H Q h => by
  obtain ⟨c, F, env, d, env', R, e, k⟩ := h
  unfold tOrr at e
  simp only [Option.bind_eq_some_iff] at e
  obtain ⟨⟨d1, n1⟩, h1, h2⟩ := e
  refine ⟨c, F, env, d1, n1, R, h1, fun F1 H1 s1 R1 => ?_⟩
  cases d1 with
  | false => exact iteF ⟨c, F1, n1, d, env', R1, h2, fun F2 H2 s2 R2 => k F2 H2 (s1.trans s2) R2⟩
  | true =>
    cases h2
    exact iteT (k F1 H1 s1 R1)
/-- a value's truth -/
theorem dt_tru (h : PE X e (Ge X.K f)) (he : ∀ whole, isTrue e X.env whole = (do let v ← whole; standAt e.pos; holding [v] (truthy v)) := by intro _; rfl) : PT X e (Gt X.K (tTr f)) := (pt_truth h he).imp fun σ H Q h => by
  obtain ⟨c, F, env, d, env', R, e, k⟩ := h
  unfold tTr at e
  simp only [Option.bind_eq_some_iff, Option.map_eq_some_iff] at e
  obtain ⟨⟨d1, n1⟩, h1, b, h2, h3⟩ := e
  obtain ⟨rfl, rfl⟩ := Prod.mk.inj h3
  refine ⟨c, F, env, d1, n1, R, h1, fun v F' H' s R' hv => ⟨b, ?_, k F' H' s R'⟩⟩
  cases hv with
  | non => simp [truth] at h2; simp [TruV, h2]
  | bl x => simp [truth] at h2; simp [TruV, h2]
  | int i => simp [truth] at h2; simp [TruV, h2]
  | str x =>
    simp only [truth] at h2
    by_cases hz : okN x.length = true
    · rw [if_pos hz] at h2
      exact ⟨okN_line hz, (Option.some.inj h2).symm⟩
    · rw [if_neg hz] at h2
      cases h2
  | @lst _ _ _ds hs ha =>
    have h2' : (!_ds.isEmpty) = b := Option.some.inj h2
    subst h2'
    refine .inl ⟨_, R'.sub.seq hs, ?_⟩
    have := ha.len
    cases ha <;> rfl
  | @tup _ _ _ds hs ha =>
    have h2' : (!_ds.isEmpty) = b := Option.some.inj h2
    subst h2'
    refine .inr (.inl ⟨_, sqT_mono R'.sub hs, ?_⟩)
    cases ha <;> rfl
/-- and, or, not as values -/
def eAn (f g : Fe) : Fe := fun env => (f env).bind fun p => match p.1 with
  | .bool true => g p.2
  | .bool false => some (.bool false, p.2)
  | _ => none
def eOr (f g : Fe) : Fe := fun env => (f env).bind fun p => match p.1 with
  | .bool false => g p.2
  | .bool true => some (.bool true, p.2)
  | _ => none
def eNo (f : Fe) : Fe := fun env => (f env).bind fun p => match p.1 with
  | .bool b => some (.bool (!b), p.2)
  | _ => none
theorem de_one {op} (h : PE X a (Ge X.K fa)) : PE X (.BoolOp op [a] pos) (Ge X.K fa) := pe_one h
theorem de_and (h : PE X a (Ge X.K fa)) (h2 : PE X (.BoolOp .And (b :: rest) pos) (Ge X.K fb)) : PE X (.BoolOp .And (a :: b :: rest) pos) (Ge X.K (eAn fa fb)) := (pe_and h h2).imp fun σ H Q h => by
  obtain ⟨c, F, env, d, env', R, e, k⟩ := h
  unfold eAn at e
  simp only [Option.bind_eq_some_iff] at e
  obtain ⟨⟨d1, n1⟩, h1, h2⟩ := e
  refine ⟨c, F, env, d1, n1, R, h1, fun v F1 H1 s1 R1 hv => ?_⟩
  simp only at h2
  split at h2
  · cases hv
    exact ⟨true, rfl, iteT ⟨c, F1, n1, d, env', R1, h2, fun v F2 H2 s2 R2 => k v F2 H2 (s1.trans s2) R2⟩⟩
  · cases hv
    cases h2
    exact ⟨false, rfl, iteF (k _ F1 H1 s1 R1 (.bl _))⟩
  · cases h2
theorem de_or (h : PE X a (Ge X.K fa)) (h2 : PE X (.BoolOp .Or (b :: rest) pos) (Ge X.K fb)) : PE X (.BoolOp .Or (a :: b :: rest) pos) (Ge X.K (eOr fa fb)) := (pe_or h h2).imp fun σ H Q h => by
  obtain ⟨c, F, env, d, env', R, e, k⟩ := h
  unfold eOr at e
  simp only [Option.bind_eq_some_iff] at e
  obtain ⟨⟨d1, n1⟩, h1, h2⟩ := e
  refine ⟨c, F, env, d1, n1, R, h1, fun v F1 H1 s1 R1 hv => ?_⟩
  simp only at h2
  split at h2
  · cases hv
    exact ⟨false, rfl, iteF ⟨c, F1, n1, d, env', R1, h2, fun v F2 H2 s2 R2 => k v F2 H2 (s1.trans s2) R2⟩⟩
  · cases hv
    cases h2
    exact ⟨true, rfl, iteT (k _ F1 H1 s1 R1 (.bl _))⟩
  · cases h2
theorem de_not (h : PE X a (Ge X.K fa)) : PE X (.UnaryOp .Not a pos) (Ge X.K (eNo fa)) := (pe_not h).imp fun σ H Q h => by
  obtain ⟨c, F, env, d, env', R, e, k⟩ := h
  unfold eNo at e
  simp only [Option.bind_eq_some_iff] at e
  obtain ⟨⟨d1, n1⟩, h1, h2⟩ := e
  refine ⟨c, F, env, d1, n1, R, h1, fun v F1 H1 s1 R1 hv => ?_⟩
  simp only at h2
  split at h2
  · cases hv
    cases h2
    exact ⟨_, rfl, k _ F1 H1 s1 R1 (.bl _)⟩
  · cases h2
def eIf (t : Ft) (f g : Fe) : Fe := fun env => (t env).bind fun p => if p.1 then f p.2 else g p.2
theorem de_if {t : Expr} (ht : PT X t (Gt X.K ta)) (ha : PE X a (Ge X.K fa)) (hb : PE X b (Ge X.K fb)) : PE X (.IfExp t a b pos) (Ge X.K (eIf ta fa fb)) := (pe_ifExp ht ha hb).imp fun σ H Q h => by
  obtain ⟨c, F, env, d, env', R, e, k⟩ := h
  unfold eIf at e
  simp only [Option.bind_eq_some_iff] at e
  obtain ⟨⟨d1, n1⟩, h1, h2⟩ := e
  refine ⟨c, F, env, d1, n1, R, h1, fun F1 H1 s1 R1 => ?_⟩
  cases d1 with
  | true => exact iteT ⟨c, F1, n1, d, env', R1, h2, fun v F2 H2 s2 R2 => k v F2 H2 (s1.trans s2) R2⟩
  | false => exact iteF ⟨c, F1, n1, d, env', R1, h2, fun v F2 H2 s2 R2 => k v F2 H2 (s1.trans s2) R2⟩
/-- a < b < c -/
def eCh (g g' : PyData → PyData → Option PyData) (fa fb fc : Fe) : Fe := fun env => (fa env).bind fun p => (fb p.2).bind fun q => (g p.1 q.1).bind fun z => match z with
  | .bool true => (fc q.2).bind fun r => (g' q.1 r.1).map fun y => (y, r.2)
  | .bool false => some (.bool false, q.2)
  | _ => none
theorem goCh {K : Frag} {r r' : R2} {g g' : PyData → PyData → Option PyData} (o : Op2 K r g) (o' : Op2 K r' g') {fc : Fe} {σ : L2.St} {H : Hp} {Q : VK} (h : Ge K (eCh g g' fa fb fc) σ H Q) : tChain r r' (Ge K fa) (Ge K fb) (Ge K fc) σ H Q := by
  obtain ⟨c, F, env, d, env', R, e, k⟩ := h
  unfold eCh at e
  simp only [Option.bind_eq_some_iff] at e
  obtain ⟨⟨d1, n1⟩, h1, ⟨d2, n2⟩, h2, z, h3, h4⟩ := e
  refine ⟨c, F, env, d1, n1, R, h1, fun v1 F1 H1 s1 R1 p1 => ⟨c, F1, n1, d2, n2, R1, h2, fun v2 F2 H2 s2 R2 p2 => ?_⟩⟩
  refine o c F2 σ H2 n2 v1 v2 d1 d2 z _ R2 (p1.up s2) p2 h3 fun v F3 H3 s3 R3 p3 => ?_
  simp only at h4
  split at h4
  · cases p3
    simp only [Option.bind_eq_some_iff, Option.map_eq_some_iff] at h4
    obtain ⟨⟨d4, n4⟩, h5, y, h6, h7⟩ := h4
    obtain ⟨rfl, rfl⟩ := Prod.mk.inj h7
    refine ⟨true, rfl, iteT ⟨c, F3, n2, d4, _, R3, h5, fun v4 F4 H4 s4 R4 p4 => ?_⟩⟩
    exact o' c F4 σ H4 _ v2 v4 d2 d4 y Q R4 (p2.up (s3.trans s4)) p4 h6 fun v5 F5 H5 s5 R5 p5 => k v5 F5 H5 ((((s1.trans s2).trans s3).trans s4).trans s5) R5 p5
  · cases p3
    cases h4
    exact ⟨false, rfl, iteF (k _ F3 H3 ((s1.trans s2).trans s3) R3 (.bl _))⟩
  · cases h4
theorem de_chain {op op' : CmpOp} {r r' : R2} {g g' : PyData → PyData → Option PyData} {c' : Expr} {fc : Fe} (ho : OpR X (compareOp op) r) (o : Op2 X.K r g) (ho' : OpR X (compareOp op') r') (o' : Op2 X.K r' g') (ha : PE X a (Ge X.K fa)) (hb : PE X b (Ge X.K fb)) (hc : PE X c' (Ge X.K fc))
    (hm : lastMarks [op, op'] [b, c'] = false := by with_unfolding_all rfl) : PE X (.Compare a [op, op'] [b, c'] pos) (Ge X.K (eCh g g' fa fb fc)) := (pe_chain ho ho' ha hb hc hm).imp fun _ _ _ h => goCh o o' h
theorem dt_chain {op op' : CmpOp} {r r' : R2} {g g' : PyData → PyData → Option PyData} {c' : Expr} {fc : Fe} (ho : OpR X (compareOp op) r) (o : Op2 X.K r g) (ho' : OpR X (compareOp op') r') (o' : Op2 X.K r' g') (ha : PE X a (Ge X.K fa)) (hb : PE X b (Ge X.K fb)) (hc : PE X c' (Ge X.K fc))
    (hm : lastMarks [op, op'] [b, c'] = false := by with_unfolding_all rfl) : PT X (.Compare a [op, op'] [b, c'] pos) (Gt X.K (tB' (eCh g g' fa fb fc))) := (pt_chain ho ho' ha hb hc hm).imp fun _ _ _ h => goCh o o' (bool_of h)
/-- is None -/
def eIsN (f : Fe) : Fe := fun env => (f env).map fun p => (.bool (isNone p.1), p.2)
def eNotN (f : Fe) : Fe := fun env => (f env).map fun p => (.bool (!isNone p.1), p.2)
theorem goIsN {K : Frag} {σ : L2.St} {H : Hp} {Q : VK} (h : Ge K (eIsN f) σ H Q) : tIsN (Ge K f) σ H Q := by
  obtain ⟨c, F, env, d, env', R, e, k⟩ := h
  unfold eIsN at e
  simp only [Option.map_eq_some_iff] at e
  obtain ⟨⟨d1, n1⟩, h1, h2⟩ := e
  obtain ⟨rfl, rfl⟩ := Prod.mk.inj h2
  refine ⟨c, F, env, d1, n1, R, h1, fun v F1 H1 s1 R1 hv => ?_⟩
  show Q (.bl (decide (v = .non))) H1
  rw [isNone_v hv]
  exact k _ F1 H1 s1 R1 (.bl _)
theorem goNotN {K : Frag} {σ : L2.St} {H : Hp} {Q : VK} (h : Ge K (eNotN f) σ H Q) : tNotN (Ge K f) σ H Q := by
  obtain ⟨c, F, env, d, env', R, e, k⟩ := h
  unfold eNotN at e
  simp only [Option.map_eq_some_iff] at e
  obtain ⟨⟨d1, n1⟩, h1, h2⟩ := e
  obtain ⟨rfl, rfl⟩ := Prod.mk.inj h2
  refine ⟨c, F, env, d1, n1, R, h1, fun v F1 H1 s1 R1 hv => ?_⟩
  show Q (.bl (!decide (v = .non))) H1
  rw [isNone_v hv]
  exact k _ F1 H1 s1 R1 (.bl _)
theorem de_isN {j pos'} (ha : PE X a (Ge X.K fa)) : PE X (.Compare a [.Is] [.Constant .none j pos'] pos) (Ge X.K (eIsN fa)) := (pe_cmp (pc_isN ha)).imp fun _ _ _ h => goIsN h
theorem de_notN {j pos'} (ha : PE X a (Ge X.K fa)) : PE X (.Compare a [.IsNot] [.Constant .none j pos'] pos) (Ge X.K (eNotN fa)) := (pe_cmp (pc_notN ha)).imp fun _ _ _ h => goNotN h
theorem dt_isN {j pos'} (ha : PE X a (Ge X.K fa)) : PT X (.Compare a [.Is] [.Constant .none j pos'] pos) (Gt X.K (tB' (eIsN fa))) := (pt_cmp (pc_isN ha)).imp fun _ _ _ h => goIsN (bool_of h)
theorem dt_notN {j pos'} (ha : PE X a (Ge X.K fa)) : PT X (.Compare a [.IsNot] [.Constant .none j pos'] pos) (Gt X.K (tB' (eNotN fa))) := (pt_cmp (pc_notN ha)).imp fun _ _ _ h => goNotN (bool_of h)
/-! ### built-ins -/
variable {es : List Expr} {fl : Fl} {x : Str} {p : Pos} {id T : String} {r : List V → Hp → VK → Prop} {g : List PyData → Option PyData}
theorem de_B (hc : CallR X (.builtin id) r) (o : OpA X.K r g) (hg : Gl X x) (hm : X.mg x = none) (hv : bootBuiltins x = some (.builtin id)) (ha : PA X (e :: es) (Ga X.K fl)) (hn : x ≠ "__name__" := by decide) (hdb : (x == ("__debug__" : Str)) = false := by decide)
    (he : starEach (e :: es) X.env = (false, eval e X.env) :: starEach es X.env := by rfl) (hpl : (backTo pos (starEach es X.env)).any (·.1) = false := by rfl) : PE X (.Call (.Name x p) (e :: es) [] pos) (Ge X.K (eA g fl)) := (pe_callB hc hg hm hv ha hn hdb he hpl).imp fun _ _ _ h => goA o h
theorem de_T (hc : CallR X (.type T) r) (o : OpA X.K r g) (hg : Gl X x) (hm : X.mg x = none) (hv : bootBuiltins x = some (.type T)) (ha : PA X (e :: es) (Ga X.K fl)) (hn : x ≠ "__name__" := by decide) (hdb : (x == ("__debug__" : Str)) = false := by decide)
    (he : starEach (e :: es) X.env = (false, eval e X.env) :: starEach es X.env := by rfl) (hpl : (backTo pos (starEach es X.env)).any (·.1) = false := by rfl) : PE X (.Call (.Name x p) (e :: es) [] pos) (Ge X.K (eA g fl)) := (pe_callTy hc hg hm hv ha hn hdb he hpl).imp fun _ _ _ h => goA o h
theorem de_M (hc : CallR X (.builtin id) r) (o : OpA X.K r g) (hg : Gl X x) (hm : X.mg x = some (.builtin id)) (ha : PA X (e :: es) (Ga X.K fl)) (hdb : (x == ("__debug__" : Str)) = false := by decide)
    (he : starEach (e :: es) X.env = (false, eval e X.env) :: starEach es X.env := by rfl) (hpl : (backTo pos (starEach es X.env)).any (·.1) = false := by rfl) : PE X (.Call (.Name x p) (e :: es) [] pos) (Ge X.K (eA g fl)) := (pe_callBfun hc hg hm ha hdb he hpl).imp fun _ _ _ h => goA o h
/-- isinstance(e, T) -/
def eIs (T : String) (f : Fe) : Fe := fun env => (f env).map fun p => (.bool (isT T p.1), p.2)
theorem de_isi {y : Str} {q : Pos} (hT : IsTOk T) (hg : Gl X "isinstance") (hm : X.mg "isinstance" = none) (hgy : Gl X y) (hmy : X.mg y = none) (hvy : bootBuiltins y = some (.type T)) (ha : PE X e (Ge X.K f)) (hny : y ≠ "__name__" := by decide) (hdy : (y == ("__debug__" : Str)) = false := by decide)
    (he0 : starEach (Expr.Name y q :: []) X.env = (false, eval (Expr.Name y q) X.env) :: starEach [] X.env := by rfl)
    (he : starEach (e :: Expr.Name y q :: []) X.env = (false, eval e X.env) :: starEach [Expr.Name y q] X.env := by rfl) (hpl : (backTo pos (starEach [Expr.Name y q] X.env)).any (·.1) = false := by rfl) :
    PE X (.Call (.Name "isinstance" p) [e, .Name y q] [] pos) (Ge X.K (eIs T f)) := (pe_callB call_isi hg hm (by decide +kernel) (pa_cons ha (pa_cons (pe_bltn (v := .ty T) hgy hmy hvy rfl hny hdy) pa_nil he0) he) (by decide) (by decide) he hpl).imp fun σ H Q h => by
  obtain ⟨c, F, env, d, env', R, e, k⟩ := h
  unfold eIs at e
  simp only [Option.map_eq_some_iff] at e
  obtain ⟨⟨d1, n1⟩, h1, h2⟩ := e
  obtain ⟨rfl, rfl⟩ := Prod.mk.inj h2
  refine ⟨c, F, env, d1, n1, R, h1, fun v F1 H1 s1 R1 hv => ?_⟩
  exact ⟨v, .ty T, .type (tyN d1), .type T, isT T d1, rfl, .ty T, tyX_of R1.sub hv, kit_ty (hT d1), k _ F1 H1 s1 R1 (.bl _)⟩
end
end Dn

set_option Elab.async false
set_option linter.all false
set_option maxRecDepth 100000
set_option maxHeartbeats 2000000
/-! an own exception class: its __init__ says super().__init__(a text), then self.value = value -/
namespace PySem
namespace CaskX
open PySem.W PySem.Calls PyProof.Rows PySem.HandSPX
def iA (p1 p2 : Pos) : Arguments := { posonlyargs := [], args := [{ arg := "self", annotation := none, pos := p1 }, { arg := "value", annotation := none, pos := p2 }], vararg := none, kwonlyargs := [], kw_defaults := [], kwarg := none, defaults := [] }
def iB (m : Str) (q0 q1 q2 q3 q4 q5 r1 r2 r3 r4 : Pos) : List Stmt :=
  [.Expr (.Call (.Attribute (.Call (.Name "super" q0) [] [] q1) "__init__" q2) [.Constant (.str m) 0 q3] [] q4) q5, .Assign [.Attribute (.Name "self" r1) "value" r2] (.Name "value" r3) r4]
def iS : Scope := { kind := .function, names := [(PySem.Str.ofString "self", .local), (PySem.Str.ofString "value", .local), (PySem.Str.ofString "__class__", .free), (PySem.Str.ofString "super", .globalImplicit)], isGenerator := false, isCoroutine := false, more := [] }
/-- what the written part says of a class at C, of the class at D whose __init__ it has, of this __init__, at fI -/
structure CaskTxt (prog : Program) (K : Frag) (mg : Str → Option Value) (C D fI : Addr) : Prop where
  cls : ∃ nm q N bs bm sn sub ab col dd k0 k1 k2 k3 k5, K.lookup C = some (excClassObj nm q C N bs bm true sn sub ab col dd k0 k1 k2 k3 k5 "ValueError.__new__") ∧ refsVE bm
  sa : findIn K (.ref C) "__setattr__" = some (some (.builtin "object.__setattr__"))
  ga : findIn K (.ref C) "__getattribute__" = some (some (.builtin "BaseException.__getattribute__"))
  gg : findIn K (.ref C) "__getattr__" = some none
  noN : findIn K (.ref C) "value" = some none
  iC : findIn K (.ref C) "__init__" = some (some (.ref fI))
  tC : typeIn K (.ref fI) = some (.type "function")
  kC : keepIn K (.ref C) = true
  exC : subIn K (.ref C) (.type "BaseException") = some true
  tyC : typeIn K (.ref C) = some (.type "type")
  hdC : hasDictIn K C = true
  opq : nsIn K cStatics "thirdparty.any" = some none
  veC : subIn K (.ref C) (.type "ValueError") = some true
  sup : ks_superIn K C D "__init__" = some (some (.builtin "ValueError.__init__"))
  dC : mroIn K C (.ref D) = some true
  dcl : ∃ cd, clsIn K D = some cd
  nosup : mg "super" = none
  top : (prog.main.scope.names.lookup ("super" : Str)).isSome = false
  fn : ∃ (oc : Value) (od : Option Addr) (doc pm : Value) (an : Option Addr) (cda cc : Addr) (ct : Value) (osl : Array (Option Value)) (p1 p2 q0 q1 q2 q3 q4 q5 r1 r2 r3 r4 : Pos) (m : Str) (vs : Array Value) (file : Str) (tf : Tok) (ccl cl : Value) (cdd cld : Option Addr) (ccs csl : Array (Option Value)),
    K.lookup fI = some ⟨oc, od, .func (ksFn "__init__" "CaskError.__init__" (iA p1 p2) (iB m q0 q1 q2 q3 q4 q5 r1 r2 r3 r4) iS .none .none doc pm an (.ref cda) ct cc), osl⟩ ∧ codeIn K (.ref cda) "CaskError.__init__" = true ∧
    K.lookup cda = some ⟨ccl, cdd, .fields vs, ccs⟩ ∧ vs[2]? = some (.str file tf) ∧ ((prog.main.file : Str) == file) = true ∧ K.lookup cc = some ⟨cl, cld, .cell (some (.ref D)), csl⟩ ∧
    ∃ pl : Env → Sem Bool, ∀ env : Env, eval (.Call (.Attribute (.Call (.Name "super" q0) [] [] q1) "__init__" q2) [.Constant (.str m) 0 q3] [] q4) env = (do
      let ov ← attributeBase (.Call (.Name "super" q0) [] [] q1) "__init__" env (eval (.Call (.Name "super" q0) [] [] q1) env)
      standAt q2.atName
      let (f, first) ← holding [ov] (getMethod ov "__init__" (pl env))
      callWith q4 f first (backTo q4 (starEach [.Constant (.str m) 0 q3] env)) [])
theorem kept_but {K : Frag} {h h' : Heap} {x : Addr} (X : K.In h) (hx : K.lookup x = none) (k : ∀ b o, b ≠ x → h.get? b = some o → h'.get? b = some o) : K.In h' := fun a o e =>
  k a o (fun z => by rw [z, hx] at e; cases e) (X a o e)
theorem one_size (v : Value) : [v].length ≤ sizeLine := by
  rw [sizeLine_eq]
  exact (by decide : 1 ≤ 16777216)
/-- what __init__ leaves of a fresh exception at x -/
structure InitEnd (h h' : Heap) (x C dx t1 : Addr) (v : Value) : Prop where
  keep : ∀ b o, b ≠ x → h.get? b = some o → h'.get? b = some o
  obj : h'.get? x = some { cls := .ref C, dict := some dx, data := .fields #[.ref t1, .none, .none, .none, .bool false, .none] }
  dbig : h.objs.size ≤ dx
  dne : dx ≠ x
  ns : h'.Ns1 dx (fun y => if y = "value" then some v else none)
/-- a made exception -/
structure OwnMade (h h' : Heap) (e C d : Addr) (v : Value) : Prop where
  keep : ∀ b o, h.get? b = some o → h'.get? b = some o
  new : h.objs.size ≤ e
  obj : ∃ oe vs, h'.get? e = some oe ∧ oe.cls = .ref C ∧ oe.dict = some d ∧ oe.data = .fields vs ∧ vs[1]? = some .none
  dbig : h.objs.size ≤ d
  dne : d ≠ e
  ns : h'.Ns1 d (fun y => if y = "value" then some v else none)
section
variable {prog : Program} {w : World} {A : Around} {E : Value → Shared → Prop} {R : Result → Shared → Prop} {s : Shared} {K : Frag} {mg : Str → Option Value} {C D fI : Addr}
/-- the method-wrapper of ValueError.__init__, called -/
theorem call_mw {h : Heap} {g : Array GenState} {d : Drawn} {t : Nat} {os : OsState} {nm q : Str} {N : Addr} {bs bm : List Value} {hdct : Bool} {sn : List Str} {sub : List Value} {ab : Bool} {col : Option Bool} {dd : Option Addr} {k0 k1 k2 k3 k5 : Option Value} {u e t0 : Addr} {rest : List Value} {Q : Value → Shared → Prop}
    (hC : h.get? C = some (excClassObj nm q C N bs bm hdct sn sub ab col dd k0 k1 k2 k3 k5 "ValueError.__new__")) (he : h.get? e = some (excO C t0)) (hu : h.get? u = some (kxs_mw "ValueError.__init__" e)) (hrest : rest.length ≤ sizeLine)
    (hq : ∀ h' t1, (∀ b o, b ≠ e → h.get? b = some o → h'.get? b = some o) → h'.get? e = some (excO C t1) → Q .none ⟨h', g, d, t, os⟩) :
    wpAny (model prog w) A (call (.ref u) rest) Q E ⟨h, g, d, t, os⟩ := by
  refine wpAny_call (codeAny_of_tree ?_)
  show wpAny _ A.in1 (callAny (.ref u) ⟨rest, []⟩) _ _ _
  simp only [callAny]
  refine wpAny_bind (wpAny_load hu ?_)
  simp only [kxs_mw, show (Value.type "method-wrapper" == Value.type "method" || Value.type "method-wrapper" == Value.type "builtin_function_or_method" || Value.type "method-wrapper" == Value.type "method-wrapper") = true by decide, if_true]
  refine W.KFB.if_so (by decide) ?_
  refine wpAny_bind (ESX.check_bound F.excBase_ValueError hC he rfl ?_)
  refine wpAny_bind (wpAny_pure (wpAny_pure ?_))
  refine ⟨Code.quiet_builtin _ (by decide +kernel), codeAny_builtin F.excBase_ValueError.initEntry ?_⟩
  rw [Around.under_plainId F.excBase_ValueError.init.plain _]
  wp_walk
  refine hq _ h.objs.size (fun b o hb ho => ?_) ?_
  · rw [Heap.get?_update_other _ _ (Ne.symm hb)]
    exact Heap.get?_push_of_some _ ho
  · rw [Heap.get?_update_self _ (Heap.get?_push_of_some _ he) rfl]
    rfl
theorem cask_init (T : CaskTxt prog K mg C D fI) {x t0 : Addr} {v : Value} (X : K.In s.heap) (G : s.heap.Ns mainGlobals mg) (Bt : ∃ mb, s.heap.Ns builtinsNs mb ∧ ∀ x : Str, x ≠ "__name__" → mb x = bootBuiltins x) (hlim : s.heap.NoLimit)
    (hx : s.heap.get? x = some (excO C t0)) (hnx : K.lookup x = none) (hroom : A.depth < recursionLimit)
    (hq : ∀ h' tk dx t1, InitEnd s.heap h' x C dx t1 v → R (.ok (.ret .none)) { s with heap := h', toks := tk }) :
    codeAny (model prog w) A (.call (.ref fI) ⟨[.ref x, v], []⟩) R s := by
  obtain ⟨oc, od, doc, pm, an, cda, cc, ct, osl, p1, p2, q0, q1, q2, q3, q4, q5, r1, r2, r3, r4, m, vs, file, tf, ccl, cl, cdd, cld, ccs, csl, ho, hcd, hcode, hvs, hfile, hcell, pl, hev⟩ := T.fn
  obtain ⟨nm, q, N, bs, bm, sn, sub, ab, col, dd, k0, k1, k2, k3, k5, hC, hbm⟩ := T.cls
  have hcl : clsIn K C = some { name := nm, bases := bs, mro := .ref C :: bm, ns := N, qualname := q, hasDict := true, slotNames := sn, subclasses := sub, abstract := ab, collection := col, hasDel := false } := by unfold clsIn; rw [hC] <;> rfl
  obtain ⟨cdD, hD⟩ := T.dcl
  obtain ⟨mb, B1, B2⟩ := Bt
  refine ks_codeAny_call_defAt (fd := ksFn "__init__" "CaskError.__init__" (iA p1 p2) (iB m q0 q1 q2 q3 q4 q5 r1 r2 r3 r4) iS .none .none doc pm an (.ref cda) ct cc) (body := iB m q0 q1 q2 q3 q4 q5 r1 r2 r3 r4) (binds := [("self", .ref x), ("value", v)]) hroom (X _ _ ho) rfl hlim (codeRec_of X hcd) rfl
    (BindsTo.of_eq (by first | rfl | with_unfolding_all rfl)) (show ∀ y ∈ iS.names, y.2 ≠ .cell by decide) (fun y hy => by
      simp only [List.mem_cons, List.not_mem_nil, or_false] at hy
      rcases hy with rfl | rfl <;> rfl) (fun h₁ hns hk₁ => ?_)
  have X₁ : K.In h₁ := X.keeps hk₁
  have hx₁ := hk₁ _ _ hx
  have hxL : s.heap.objs.size ≠ x := Nat.ne_of_gt (Heap.lt_size hx)
  obtain ⟨hp, g, d, t, os⟩ := s
  let env := ksEnv "CaskError.__init__" iS hp.objs.size fI (.ref cda) cc
  let body := iB m q0 q1 q2 q3 q4 q5 r1 r2 r3 r4
  show _root_.PySem.wpAt (model prog w) (A.deeper env) (.func body env) (execs body env) _ _ _
  refine ks_wpAt_execs_cons (ks_wpAt_Expr_any (ks_wpAt_MethodCall (he := hev env) ?_) (by with_unfolding_all rfl) (by with_unfolding_all rfl))
  obtain ⟨oD, hD1, hD2⟩ : ∃ oD, h₁.get? D = some oD ∧ oD.data = .cls cdD := by
    unfold clsIn at hD
    split at hD
    · rename_i c d cd' sl ho
      cases hD
      exact ⟨_, X₁ _ _ ho, rfl⟩
    · cases hD
  have I₁ : InstAt h₁ x (excO C t0) C none := ⟨hx₁, rfl, rfl, trivial⟩
  refine ks_wpAt_super_base (vs := vs) (file := file) (tf := tf) rfl rfl (by decide) rfl (X₁ _ _ ho) rfl rfl rfl (X₁ _ _ hcode) rfl hvs hfile T.top ?_
  refine ks_loadName_global rfl rfl (loadGlobal_builtin (G.keeps hk₁) T.nosup (B1.keeps hk₁) ((B2 "super" (by decide)).trans (by decide +kernel)) ⟨rfl, ?_⟩)
  refine wpAny_loadName_free rfl rfl rfl ⟨_, X₁ _ _ hcell, rfl⟩ ?_
  refine wpAny_loadName_local (v := .ref x) rfl rfl hns (by first | rfl | with_unfolding_all rfl | kernel_rfl) ?_
  refine ks_wpAny_isType_cls hD1 hD2 ⟨rfl, ?_⟩
  refine ks_wpAny_call_super hD1 hD2 I₁.at_ I₁.cls (fun c e => ?_) (looks_mroIn X₁ T.dC) (fun h₂ hso k₂ => ?_)
  · cases e
  have X₂ : K.In h₂ := X₁.keeps k₂
  have hx₂ := k₂ _ _ hx₁
  have I₂ : InstAt h₂ x (excO C t0) C none := ⟨hx₂, rfl, rfl, trivial⟩
  have hm := T.sup
  unfold ks_superIn at hm
  rw [hcl] at hm
  refine kxs_getMethod kxs_ValueError hso (looks_opaque X₂ T.opq) (l₀ := .ref C :: bm) (fun A Q E s k q => wpAny_bind ((looks_clsIn X₂ hcl) A _ E s k (wpAny_pure q))) rfl X₂ hm (I₂.type.andThen (looks_subIn X₂ T.veC)) (ks_ne X₂ I₂ hcl) (by decide) ?_
  -- the wrapper is called
  have hu : (h₂.push (kxs_mw "ValueError.__init__" x)).get? h₂.objs.size = some (kxs_mw "ValueError.__init__" x) := Heap.get?_push_at rfl rfl
  have k₃ : ∀ b o, h₂.get? b = some o → (h₂.push (kxs_mw "ValueError.__init__" x)).get? b = some o := fun b o e => Heap.get?_push_of_some _ e
  have hx₃ := k₃ _ _ hx₂
  have X₃ : K.In (h₂.push (kxs_mw "ValueError.__init__" x)) := X₂.keeps k₃
  refine kxs_callWith (i := "ValueError.__init__") (x := x) (by first | rfl | with_unfolding_all rfl) ?_
  refine evalArgs_plain (spliced_more (wpAny_Constant_str (spliced_none ⟨hu, ?_⟩)) (by first | rfl | with_unfolding_all rfl))
  refine call_mw (X₃ _ _ hC) hx₃ hu (one_size _) fun h₄ t1 k₄ hx₄ => ?_
  -- self.value = value
  have k04 : ∀ b o, b ≠ x → hp.get? b = some o → h₄.get? b = some o := fun b o hb e => k₄ b o hb (k₃ _ _ (k₂ _ _ (hk₁ b o e)))
  have X₄ : K.In h₄ := kept_but X₃ hnx k₄
  have hns4 := hns.at (h' := h₄) fun o q => k₄ _ _ hxL (k₃ _ _ (k₂ _ _ q))
  refine ks_wpAt_execs_cons (wpAt_of_wpAny (plainObj_wpAny_Assign_Attribute ?_ (by first | rfl | with_unfolding_all rfl)))
  refine wpAny_Name (wpAny_loadName_local (v := v) rfl rfl hns4 (by first | rfl | with_unfolding_all rfl | kernel_rfl) ?_) (by decide)
  refine wpAny_Name (wpAny_loadName_local (v := .ref x) rfl rfl hns4 (by first | rfl | with_unfolding_all rfl | kernel_rfl) ?_) (by decide)
  refine set_plain X₄ (ox := excO C t1) (od := none) ⟨hx₄, rfl, rfl, trivial⟩ T.sa ?_
  refine exc_osa X₄ hx₄ hcl (show refsVE (.ref C :: bm) = true from hbm) rfl T.noN (fun h₅ tk₅ dx k₅ dn dne hx₅ hn₅ => ?_)
  have zz : hp.objs.size ≤ dx := by
    have z1 : hp.objs.size < h₁.objs.size := hns.lt
    have z4 : hp.objs.size < h₄.objs.size := hns4.lt
    exact Nat.le_of_lt (Nat.lt_of_lt_of_le z4 dn)
  refine wpAt_of_wpAny (wpAny_execs_nil (hq h₅ tk₅ dx t1 ⟨fun b o hb e => k₅ b o hb (k04 b o hb e), hx₅, zz, dne, hn₅⟩))
theorem cask_made (T : CaskTxt prog K mg C D fI) {v : Value} (X : K.In s.heap) (G : s.heap.Ns mainGlobals mg) (Bt : ∃ mb, s.heap.Ns builtinsNs mb ∧ ∀ x : Str, x ≠ "__name__" → mb x = bootBuiltins x) (hlim : s.heap.NoLimit) (hroom : A.depth + 1 < recursionLimit)
    (hq : ∀ h' tk e d, OwnMade s.heap h' e C d v → R (.ok (.ret (.ref e))) { s with heap := h', toks := tk }) :
    codeAny (model prog w) A (.call (.ref C) ⟨[v], []⟩) R s := by
  obtain ⟨nm, q, N, bs, bm, sn, sub, ab, col, dd, k0, k1, k2, k3, k5, hC, hbm⟩ := T.cls
  obtain ⟨hp, g, dr, tk, os⟩ := s
  have k : ∀ b o, hp.get? b = some o → ((hp.push (kdv_tup [v])).push (excO C hp.objs.size)).get? b = some o := fun b o e => Heap.get?_push_of_some _ (Heap.get?_push_of_some _ e)
  have hget : ((hp.push (kdv_tup [v])).push (excO C hp.objs.size)).get? (hp.objs.size + 1) = some (excO C hp.objs.size) := by heap_get
  have hnx : K.lookup (hp.objs.size + 1) = none := by
    cases e : K.lookup (hp.objs.size + 1) with
    | none => rfl
    | some o =>
      have z : hp.get? (hp.objs.size + 1) = some o := X _ _ e
      exact absurd (Nat.lt_of_succ_lt (Heap.lt_size z)) (Nat.lt_irrefl _)
  obtain ⟨mb, B1, B2⟩ := Bt
  refine call_own F.excBase_ValueError (fun X => refsVE_contains X bm hbm) (X _ _ hC) (looks_findIn X T.iC) (fun self => bind_fn X self T.tC) (one_size v) ?_
  refine cask_init (s := ⟨(hp.push (kdv_tup [v])).push (excO C hp.objs.size), g, dr, tk, os⟩) T (X.keeps k) (G.keeps k) ⟨mb, B1.keeps k, B2⟩ (hlim.keeps k) hget hnx ?_ fun h' tk' dx t1 ⟨k', hx, dn, dne, hns⟩ => ?_
  · show A.depth + 1 < recursionLimit
    exact hroom
  · have old : ∀ b o, hp.get? b = some o → h'.get? b = some o := fun b o e => k' b o (Nat.ne_of_lt (Nat.lt_succ_of_lt (Heap.lt_size e))) (k b o e)
    have z : hp.objs.size + 1 + 1 ≤ dx := by
      first
        | (simpa only [Heap.size_push] using dn)
        | exact dn
        | (have q := dn; rw [Heap.size_push, Heap.size_push] at q; exact q)
    exact ⟨rfl, hq h' tk' (hp.objs.size + 1) dx ⟨old, Nat.le_succ _, ⟨_, _, hx, rfl, rfl, rfl, rfl⟩, Nat.le_trans (Nat.le_trans (Nat.le_succ _) (Nat.le_succ _)) z, dne, hns⟩⟩
end
end CaskX
end PySem
namespace L2
open PySem PySem.Spec PyProof.Rows
theorem relO_cask {v : V} {v' : Value} (r : RelV v v') (f : Str) : RelO (List.lookup f [(("value" : Str), v)]) (if f = "value" then some v' else none) := by
  by_cases hw : f = "value"
  · subst hw
    rw [if_pos rfl]
    have q : List.lookup ("value" : Str) [(("value" : Str), v)] = some v := by simp [List.lookup]
    rw [q]
    exact r
  · rw [if_neg hw]
    have qw : (f == ("value" : Str)) = false := by simpa using hw
    have q2 : List.lookup f [(("value" : Str), v)] = none := by simp [List.lookup, qw]
    rw [q2]
    trivial
section
variable {X : Cx} {C D fI : Addr}
/-- C(e) -/
def tMkCask (C : Addr) (ta : TA) : St → Hp → XK → Prop := fun σ H Q => ta σ H fun vs H1 => ∃ v, vs = [v] ∧ ∀ d, H1 d = none → Q (.ref C) (some d) (upd H1 d (.xd [(("value" : Str), v)]))
theorem pmk_cask {x : Str} {a : Expr} {ta : TA} {p pos : Pos} {k : Nat} (T : PySem.CaskX.CaskTxt X.prog X.K X.mg C D fI) (gC : X.mg x = some (.ref C)) (hr : Room k X.A) (ha : PA X [a] ta) (hg : Gl X x := by rfl) (hdb : (x == ("__debug__" : Str)) = false := by decide)
    (he : starEach (a :: []) X.env = (false, eval a X.env) :: starEach [] X.env := by rfl) (hpl : (backTo pos (starEach [] X.env)).any (·.1) = false := by rfl) :
    PMk X (.Call (.Name x p) [a] [] pos) (tMkCask C ta) := by
  intro pins s σ H Q I h
  refine wpAny_Call_Name_kw (ld_glob I hg gC ?_ hdb)
  refine PySem.W.callWith_K (h₀ := X.base) I.ok.mod.kin T.kC (thn (ha.run pos pins s σ H _ I h) fun us s1 hh => ?_) he hpl
  obtain ⟨vs, H1, I1, r1, v, ev, q1⟩ := hh
  subst ev
  refine ⟨I1.kIn, ?_⟩
  cases r1 with
  | cons rv rn =>
    rename_i v' us'
    cases rn
    show wpAny _ _ (call (.ref C) [v']) _ _ _
    have hlim := I1.nolimit
    have hG : s1.heap.Ns mainGlobals X.mg := I1.ok.mod.glob.keeps I1.bk
    have hB : ∃ mb, s1.heap.Ns builtinsNs mb ∧ ∀ x : Str, x ≠ "__name__" → mb x = bootBuiltins x := by
      obtain ⟨mb, h1, h2⟩ := I1.ok.mod.blt
      exact ⟨mb, h1.keeps I1.bk, h2⟩
    obtain ⟨hp, g, dr, tk, os⟩ := s1
    refine wpAny_call (PySem.CaskX.cask_made T I1.kIn hG hB hlim (by have := hr.dp; omega) fun h' tk' e d M => ?_)
    show MkP X pins σ Q (.ref e) ⟨h', g, dr, tk', os⟩
    obtain ⟨oe, fv, hoe, hc, hd, hdat, h1⟩ := M.obj
    have hns := M.ns
    obtain ⟨G', g1, g2⟩ := restrict h' fun b => decide (b ≠ e)
    have gk : ∀ b, b ≠ e → G'.get? b = h'.get? b := fun b hb => g1 b (decide_eq_true hb)
    have ge : G'.get? e = none := g2 e (by simp)
    have old : ∀ b o, hp.get? b = some o → G'.get? b = some o := fun b o q => (gk b (Nat.ne_of_lt (Nat.lt_of_lt_of_le (Heap.lt_size q) M.new))).trans (M.keep b o q)
    have ob : ObjOk X.prog X.w (upd H1 d (.xd [(("value" : Str), v)])) G' d (.xd [(("value" : Str), v)]) :=
      ⟨_, hns.at (fun o q => (gk d M.dne).trans q), fun f => relO_cask rv f⟩
    have J : Inv X pins σ (upd H1 d (.xd [(("value" : Str), v)])) ⟨G', g, dr, tk', os⟩ := I1.laid (t' := tk') old M.dbig ob
    refine ⟨e, oe, fv, ⟨G', g, dr, tk', os⟩, _, .ref C, some d, rfl, J, fun b o q => ?_, ge, hoe, ⟨hc, hd⟩, hdat, h1, ?_, rfl, I1.bare, raises_own T.exC T.tyC, q1 d (I1.hok.fresh M.dbig)⟩
    · by_cases hb : b = e
      · have q' : G'.get? b = some o := q
        rw [hb, ge] at q'; cases q'
      · exact (gk b hb).symm.trans q
    · rw [upd_ne (Ne.symm M.dne)]
      exact I1.hok.fresh M.new
end
end L2

set_option Elab.async false
set_option linter.all false
set_option maxRecDepth 100000
/-! Targets, statements, loops, comprehensions, defs and their calls. -/
namespace Dn
open PySem PySem.Spec PyProof.Rows L2
open PySem.W (Frag)

/-! ### slots forgotten for a block, and given back -/
def wipeE (env : En) : List Nat → En
  | [] => env
  | v :: vs => (wipeE env vs).set v .no
def restE (e1 e2 : En) : List Nat → En
  | [] => e2
  | v :: vs => match e1[v]? with
    | some s => (restE e1 e2 vs).set v s
    | none => restE e1 e2 vs
def noOwn (env : En) (vs : List Nat) : Bool := vs.all fun i => match env[i]? with
  | some (.own _ _) => false
  | _ => true
theorem wipe_get {σ : L2.St} {j : Nat} : ∀ {vs : List Nat}, (wipe σ vs)[j]? = if j ∈ vs then σ[j]?.map (fun _ => none) else σ[j]?
  | [] => by simp [wipe]
  | v :: vs => by
    unfold wipe
    by_cases h : v = j
    · subst h
      rw [List.getElem?_set, if_pos rfl, if_pos List.mem_cons_self, wipe_length]
      by_cases hl : v < σ.length
      · rw [if_pos hl, List.getElem?_eq_getElem hl]; rfl
      · rw [if_neg hl, List.getElem?_eq_none (by omega)]; rfl
    · rw [List.getElem?_set_ne h, wipe_get (vs := vs)]
      by_cases hm : j ∈ vs
      · rw [if_pos hm, if_pos (List.mem_cons_of_mem _ hm)]
      · rw [if_neg hm, if_neg (by simp only [List.mem_cons, not_or]; exact ⟨fun z => h z.symm, hm⟩)]
theorem wipe_set {σ : L2.St} {i : Nat} {x : Option V} {vs : List Nat} (h : i ∈ vs) : wipe (σ.set i x) vs = wipe σ vs := by
  apply List.ext_getElem?
  intro j
  rw [wipe_get, wipe_get]
  by_cases hj : j ∈ vs
  · rw [if_pos hj, if_pos hj, List.getElem?_set]
    by_cases hij : i = j
    · subst hij
      rw [if_pos rfl]
      by_cases hl : i < σ.length
      · rw [if_pos hl, List.getElem?_eq_getElem hl]; rfl
      · rw [if_neg hl, List.getElem?_eq_none (by omega)]
    · rw [if_neg hij]
  · rw [if_neg hj, if_neg hj, List.getElem?_set_ne]
    intro z; subst z; exact hj h
theorem wipe_wipe {σ : L2.St} {vs ws : List Nat} (h : ∀ i ∈ ws, i ∈ vs) : wipe (wipe σ ws) vs = wipe σ vs := by
  apply List.ext_getElem?
  intro j
  rw [wipe_get, wipe_get, wipe_get]
  by_cases hj : j ∈ vs
  · rw [if_pos hj, if_pos hj]
    by_cases hw : j ∈ ws
    · rw [if_pos hw, Option.map_map]; rfl
    · rw [if_neg hw]
  · rw [if_neg hj, if_neg hj, if_neg fun z => hj (h j z)]
theorem restE_len {e1 e2 : En} : ∀ vs : List Nat, (restE e1 e2 vs).length = e2.length
  | [] => rfl
  | v :: vs => by
    unfold restE
    cases h : e1[v]? with
    | none => exact restE_len vs
    | some s => simp [restE_len vs]
theorem restE_get {e1 e2 : En} (hl : e1.length = e2.length) {j : Nat} : ∀ {vs : List Nat}, (restE e1 e2 vs)[j]? = if j ∈ vs then e1[j]? else e2[j]?
  | [] => by simp [restE]
  | v :: vs => by
    unfold restE
    by_cases h : v = j
    · subst h
      rw [if_pos List.mem_cons_self]
      cases hv : e1[v]? with
      | none =>
        dsimp only
        rw [restE_get hl]
        by_cases hm : v ∈ vs
        · rw [if_pos hm, hv]
        · rw [if_neg hm]
          have := List.getElem?_eq_none_iff.mp hv
          exact List.getElem?_eq_none (by omega)
      | some s =>
        dsimp only
        have := (List.getElem?_eq_some_iff.mp hv).1
        rw [List.getElem?_set_self (by rw [restE_len]; omega)]
    · have hne : (if j ∈ v :: vs then e1[j]? else e2[j]?) = if j ∈ vs then e1[j]? else e2[j]? := by
        by_cases hm : j ∈ vs
        · rw [if_pos hm, if_pos (List.mem_cons_of_mem _ hm)]
        · rw [if_neg hm, if_neg (by simp only [List.mem_cons, not_or]; exact ⟨fun z => h z.symm, hm⟩)]
      rw [hne]
      cases hv : e1[v]? with
      | none => exact restE_get hl
      | some s =>
        dsimp only
        rw [List.getElem?_set_ne h]
        exact restE_get hl
section
variable {K : Frag} {c : C3} {F F' F1 F2 H H' H1 H2 : Hp} {σ : L2.St} {env env' e1 e2 : En}
theorem Rl.forget (R : Rl K c F σ H env) (i : Nat) : Rl K c F (σ.set i none) H (env.set i .no) := by
  refine ⟨R.sub, R.f0, R.gd, R.g0, R.new, R.dom, by simp [R.len], fun j e hj => ?_, fun j p ds hj => ?_⟩
  · by_cases hij : i = j
    · subst hij
      cases get_set_self hj
    · rw [get_set_ne hij] at hj
      obtain ⟨u, h1, h2⟩ := R.val j e hj
      exact ⟨u, by rw [get_set_ne hij]; exact h1, h2⟩
  · by_cases hij : i = j
    · subst hij
      cases get_set_self hj
    · rw [get_set_ne hij] at hj
      obtain ⟨a, xs, e1, e2, e3, e4, e5, e6, e7⟩ := R.own j p ds hj
      refine ⟨a, xs, by rw [get_set_ne hij]; exact e1, e2, e3, e4, e5, e6, fun k q es hk hq => ?_⟩
      by_cases hik : i = k
      · subst hik
        cases get_set_self hq
      · rw [get_set_ne hik] at hq ⊢
        exact e7 k q es hk hq
theorem Rl.wipe' (R : Rl K c F σ H env) : ∀ vs : List Nat, Rl K c F (wipe σ vs) H (wipeE env vs)
  | [] => R
  | v :: vs => (R.wipe' vs).forget v
theorem Rl.rest (R1 : Rl K c F1 σ H1 e1) (hno : noOwn e1 vs = true) (s : Same F1 F2) (R2 : Rl K c F2 (wipe σ vs) H2 e2) : Rl K c F2 σ H2 (restE e1 e2 vs) := by
  have hl : e1.length = e2.length := by rw [R1.len, R2.len, wipe_length]
  have out : ∀ i, i ∉ vs → (wipe σ vs)[i]? = σ[i]? := fun i h => by rw [wipe_get, if_neg h]
  have noo : ∀ i p ds, i ∈ vs → e1[i]? ≠ some (.own p ds) := fun i p ds hi z => by
    have := List.all_eq_true.mp hno i hi
    rw [z] at this
    cases this
  refine ⟨R2.sub, R2.f0, R2.gd, R2.g0, R2.new, R2.dom, by rw [restE_len, R2.len, wipe_length], fun j d hj => ?_, fun j p ds hj => ?_⟩
  · rw [restE_get hl] at hj
    by_cases hm : j ∈ vs
    · rw [if_pos hm] at hj
      obtain ⟨u, h1, h2⟩ := R1.val j d hj
      exact ⟨u, h1, h2.up s⟩
    · rw [if_neg hm] at hj
      obtain ⟨u, h1, h2⟩ := R2.val j d hj
      exact ⟨u, by rw [← out j hm]; exact h1, h2⟩
  · rw [restE_get hl] at hj
    by_cases hm : j ∈ vs
    · rw [if_pos hm] at hj
      exact absurd hj (noo j p ds hm)
    · rw [if_neg hm] at hj
      obtain ⟨a, xs, f1, f2, f3, f4, f5, f6, f7⟩ := R2.own j p ds hj
      refine ⟨a, xs, by rw [← out j hm]; exact f1, f2, f3, f4, f5, f6, fun k q es hk hq => ?_⟩
      rw [restE_get hl] at hq
      by_cases hkm : k ∈ vs
      · rw [if_pos hkm] at hq
        exact absurd hq (noo k q es hkm)
      · rw [if_neg hkm] at hq
        rw [← out k hkm]
        exact f7 k q es hk hq
/-- behind a call that changed nothing known -/
theorem Rl.after (R : Rl K c F σ H env) (s : Same F F') (sub : Same F' H') (keep : Same H H') (new : ∀ b, F' b ≠ none → F b ≠ none ∨ H b = none) : Rl K c F' σ H' env := by
  refine ⟨sub, R.f0.trans s, R.gd.trans keep, R.g0, fun a ha => ?_, fun a ha => ?_, R.len, fun i d h => ?_, fun i p ds h => ?_⟩
  · rcases new a ha with z | z
    · exact R.new a z
    · exact .inr (R.h0 z)
  · cases e : H a with
    | none => exact absurd e (R.dom a ha)
    | some o => rw [keep a o e]; simp
  · obtain ⟨v, h1, h2⟩ := R.val i d h
    exact ⟨v, h1, h2.up s⟩
  · obtain ⟨a, xs, e1, e2, e3, e4, e5, e6, e7⟩ := R.own i p ds h
    refine ⟨a, xs, e1, ?_, keep a _ e3, e4.up s, e5, e6, e7⟩
    cases e : F' a with
    | none => rfl
    | some o =>
      rcases new a (by rw [e]; simp) with z | z
      · exact absurd e2 z
      · rw [e3] at z; cases z
/-- behind a call that changed the list that slot i owns -/
theorem Rl.afterM {i : Nat} {p : Bool} {ks ks' : List PyData} {a : Addr} {xs' : List V} (R : Rl K c F σ H env) (hi : env[i]? = some (.own p ks)) (ha : σ[i]? = some (some (.ref a))) (s : Same F F') (sub : Same F' H') (keep : ∀ b o, b ≠ a → H b = some o → H' b = some o)
    (new : ∀ b, F' b ≠ none → F b ≠ none ∨ H b = none) (hx : H' a = some (.lst xs')) (hd : DpAll K F' xs' ks') : Rl K c F' σ H' (env.set i (.own p ks')) := by
  obtain ⟨a', xs, e1, e2, e3, e4, e5, e6, e7⟩ := R.own i p ks hi
  rw [ha] at e1
  cases e1
  have nF : ∀ b ys, F b = none → H b = some (.lst ys) → F' b = none := fun b ys h1 h2 => by
    cases e : F' b with
    | none => rfl
    | some o =>
      rcases new b (by rw [e]; simp) with z | z
      · exact absurd h1 z
      · rw [h2] at z; cases z
  refine ⟨sub, R.f0.trans s, fun b o e => ?_, R.g0, fun b hb => ?_, fun b hb => ?_, by simp [R.len], fun j d h => ?_, fun j q ds h => ?_⟩
  · exact keep b o (ne_of_none e e5) (R.gd b o e)
  · rcases new b hb with z | z
    · exact R.new b z
    · exact .inr (R.h0 z)
  · by_cases hba : b = a
    · subst hba; rw [hx]; simp
    · cases e : H b with
      | none => exact absurd e (R.dom b hb)
      | some o => rw [keep b o hba e]; simp
  · by_cases hij : i = j
    · subst hij
      cases get_set_self h
    · rw [get_set_ne hij] at h
      obtain ⟨v, h1, h2⟩ := R.val j d h
      exact ⟨v, h1, h2.up s⟩
  · by_cases hij : i = j
    · subst hij
      have := get_set_self h
      cases this
      refine ⟨a, xs', ha, nF a xs e2 e3, hx, hd, e5, e6, fun k q es hk hq => ?_⟩
      have hik : i ≠ k := fun z => hk z.symm
      rw [get_set_ne hik] at hq
      exact e7 k q es hk hq
    · rw [get_set_ne hij] at h
      obtain ⟨b, zs, f1, f2, f3, f4, f5, f6, f7⟩ := R.own j q ds h
      have hne : b ≠ a := fun z => by
        subst z
        exact e7 j q ds (fun z => hij z.symm) h f1
      refine ⟨b, zs, f1, nF b zs f2 f3, keep b _ hne f3, f4.up s, f5, f6, fun k q es hk hq => ?_⟩
      by_cases hik : i = k
      · subst hik
        rw [ha]
        intro z
        cases z
        exact hne rfl
      · rw [get_set_ne hik] at hq
        exact f7 k q es hk hq
end

/-! ### targets -/
abbrev Tg := PyData → En → Option En
abbrev Tgs := List PyData → En → Option En
def tG (K : Frag) (t : Tg) (S : List Nat) : TG := fun v σ H Q => ∃ c F env d env', Rl K c F σ H env ∧ Dp K F v d ∧ t d env = some env' ∧ ∀ σ', Rl K c F σ' H env' → (∀ vs : List Nat, (∀ i ∈ S, i ∈ vs) → wipe σ' vs = wipe σ vs) → Q σ' H
def tGs (K : Frag) (t : Tgs) (S : List Nat) : TGs := fun xs σ H Q => ∃ c F env ds env', Rl K c F σ H env ∧ DpAll K F xs ds ∧ t ds env = some env' ∧ ∀ σ', Rl K c F σ' H env' → (∀ vs : List Nat, (∀ i ∈ S, i ∈ vs) → wipe σ' vs = wipe σ vs) → Q σ' H
def g1 (i : Nat) : Tg := fun d env => some (env.set i (.val d))
def gsN : Tgs := fun ds env => match ds with
  | [] => some env
  | _ => none
def gsC (t : Tg) (u : Tgs) : Tgs := fun ds env => match ds with
  | d :: ds => (t d env).bind fun e => u ds e
  | [] => none
def g2 (n : Nat) (t : Tgs) : Tg := fun d env => match d with
  | .tuple ds => if ds.length = n then t ds env else none
  | _ => none
theorem PGs.imp {X : Cx} {ts : List Expr} {t u : TGs} (h : PGs X ts t) (w : ∀ v σ H Q, u v σ H Q → t v σ H Q) : PGs X ts u := ⟨fun pins s σ H v v' Q I r q => h.run pins s σ H v v' Q I r (w v σ H Q q)⟩
section
variable {X : Cx} {pos : Pos}
theorem dg_name (i : Nat) {x : Str} (hN : X.N.Nodup) (hi : X.N[i]? = some x := by rfl) (hx : Loc X.env.scope x := by first | exact Or.inl rfl | exact Or.inr rfl) (hf : X.fn x = true ∨ X.env.scope.names.lookup x = some .local := by first | exact .inl rfl | exact .inr rfl | assumption) : PG X (.Name x pos) (tG X.K (g1 i) [i]) :=
  (pg_name hN hi hx hf).imp fun v σ H Q ⟨c, F, env, d, env', R, hd, e, k⟩ => by
    cases e
    exact k _ (R.put hd i) fun vs h => wipe_set (h i (by simp))
theorem dgs_nil : PGs X [] (tGs X.K gsN []) := PGs.imp pgs_nil fun v σ H Q ⟨c, F, env, d, env', R, hd, e, k⟩ => by
  unfold gsN at e
  split at e
  · cases e
    cases hd
    exact ⟨rfl, k σ R fun _ _ => rfl⟩
  · cases e
theorem dgs_cons {e : Expr} {es : List Expr} {t : Tg} {u : Tgs} {S T : List Nat} (h1 : PG X e (tG X.K t S)) (h2 : PGs X es (tGs X.K u T))
    (hs : (assignEach (e :: es) X.env).map (·.2) = assign e X.env :: (assignEach es X.env).map (·.2) := by rfl) : PGs X (e :: es) (tGs X.K (gsC t u) (S ++ T)) := PGs.imp (pgs_cons h1 h2 hs) fun v σ H Q ⟨c, F, env, ds, env', R, hd, e, k⟩ => by
  unfold gsC at e
  split at e
  · rename_i d ds
    simp only [Option.bind_eq_some_iff] at e
    obtain ⟨e1, h3, h4⟩ := e
    cases hd with
    | @cons v vs _ _ hv hvs =>
      refine ⟨v, vs, rfl, c, F, env, d, e1, R, hv, h3, fun σ1 R1 w1 => ⟨c, F, e1, ds, env', R1, hvs, h4, fun σ2 R2 w2 => k σ2 R2 fun vs' hv' => ?_⟩⟩
      rw [w2 vs' fun i hi => hv' i (List.mem_append_right _ hi), w1 vs' fun i hi => hv' i (List.mem_append_left _ hi)]
  · cases e
theorem dg_tup {es : List Expr} {k0 : Nat} {t : Tgs} {n : Nat} {S : List Nat} (hc : X.calm = true) (h : PGs X es (tGs X.K t S))
    (hn : (assignEach es X.env).length = n := by rfl) (hst : (assignEach es X.env).findIdx? (·.1) = none := by rfl) : PG X (.Tuple es k0 pos) (tG X.K (g2 n t) S) := (pg_tup hc h hn hst).imp fun v σ H Q ⟨c, F, env, d, env', R, hd, e, k⟩ => by
  unfold g2 at e
  split at e
  · split at e
    · cases hd with
      | tup hs ha => exact ⟨_, _, rfl, sqT_mono R.sub hs, by rw [ha.len]; assumption, c, F, env, _, env', R, ha, e, k⟩
    · cases e
  · cases e
end

/-! ### statements -/
inductive Flw where
  | nx
  | rt (d : PyData)
  | rl (ds : List PyData)
  | bk
  | ct
  | ex (cl : Str) (d : PyData)
abbrev Fs := En → Option (Flw × En)
/-- what is wished of an exception that goes out; where its class stands -/
structure XC where
  W : L2.WX
  ca : Str → Addr
def xc0 (ca : Str → Addr) : XC := ⟨fun _ _ _ _ => False, ca⟩
/-- an exception's dict -/
abbrev xdO (v : V) : HO := .xd [(("value" : Str), v)]
def Fin (K : Frag) (xc : XC) (c : C3) (F : Hp) (fl : Flw) (env : En) (D : Ends) : Prop := match fl with
  | .nx => ∀ σ F' H, Same F F' → Rl K c F' σ H env → D.nx σ H
  | .rt d => ∀ σ F' H v, Same F F' → Rl K c F' σ H env → Dp K F' v d → D.rt v H
  | .rl ds => ∀ σ F' H p xs, Same F F' → H p = none → Rl K c F' σ H env → DpAll K F' xs ds → D.rt (.ref p) (upd H p (.lst xs))
  | .bk => ∀ σ F' H, Same F F' → Rl K c F' σ H env → D.bk σ H
  | .ct => ∀ σ F' H, Same F F' → Rl K c F' σ H env → D.ct σ H
  | .ex cl d => ∀ σ F' H v dd, Same F F' → Rl K c F' σ H env → H dd = none → Dp K F' v d → xc.W (.ref (xc.ca cl)) (some dd) σ (upd H dd (xdO v))
theorem Fin.up {K : Frag} {xc : XC} {c : C3} {F F' : Hp} {fl : Flw} {env : En} {D : Ends} (h : Fin K xc c F fl env D) (s : Same F F') : Fin K xc c F' fl env D := by
  cases fl with
  | nx => exact fun σ G H s' R => h σ G H (s.trans s') R
  | rt d => exact fun σ G H v s' R => h σ G H v (s.trans s') R
  | rl ds => exact fun σ G H p xs s' hp R hx => h σ G H p xs (s.trans s') hp R hx
  | bk => exact fun σ G H s' R => h σ G H (s.trans s') R
  | ct => exact fun σ G H s' R => h σ G H (s.trans s') R
  | ex cl d => exact fun σ G H v dd s' R hd hv => h σ G H v dd (s.trans s') R hd hv
def Gs (K : Frag) (xc : XC) (f : Fs) : TS := fun D σ H => ∃ c F env fl env', Rl K c F σ H env ∧ f env = some (fl, env') ∧ Fin K xc c F fl env' D
def sNx : Fs := fun env => some (.nx, env)
def sSeq (a b : Fs) : Fs := fun env => (a env).bind fun p => match p.1 with
  | .nx => b p.2
  | _ => some p
def sSet (e : Fe) (g : Tg) : Fs := fun env => (e env).bind fun p => (g p.1 p.2).map fun z => (.nx, z)
def sOwn (e : Fl) (i : Nat) : Fs := fun env => (e env).map fun p => (.nx, p.2.set i (.own false p.1))
def sEx (e : Fe) : Fs := fun env => (e env).map fun p => (.nx, p.2)
def sRt (e : Fe) : Fs := fun env => (e env).map fun p => (.rt p.1, p.2)
def sRtN : Fs := fun env => some (.rt .none, env)
def sBk : Fs := fun env => some (.bk, env)
def sCt : Fs := fun env => some (.ct, env)
def sIf (t : Ft) (a b : Fs) : Fs := fun env => (t env).bind fun p => if p.1 then a p.2 else b p.2
def sNever : Fs := fun _ => none
/-- xs.append(e), xs[i] = e of an owned list -/
def isOwn (env : En) (i : Nat) : Bool := match env[i]? with
  | some (.own _ _) => true
  | _ => false
def sApp (i : Nat) (e : Fe) : Fs := fun env => if isOwn env i then (e env).bind fun p => match p.2[i]? with
  | some (.own b ds) => if okN ds.length then some (.nx, p.2.set i (.own b (ds ++ [p.1]))) else none
  | _ => none else none
theorem own_of {K : Frag} {c : C3} {F H : Hp} {σ : L2.St} {env : En} {i : Nat} (R : Rl K c F σ H env) (h : isOwn env i = true) : ∃ a xs, σ[i]? = some (some (.ref a)) ∧ H a = some (.lst xs) := by
  unfold isOwn at h
  split at h
  · rename_i b ds hi
    obtain ⟨a, xs, e1, e2, e3, _⟩ := R.own i b ds hi
    exact ⟨a, xs, e1, e3⟩
  · cases h
def sPut (i : Nat) (ix e : Fe) : Fs := fun env => (e env).bind fun p => if isOwn p.2 i then (ix p.2).bind fun q => match q.1, q.2[i]? with
  | .int k, some (.own b ds) => (ixN ds.length k).map fun j => (.nx, q.2.set i (.own b (ds.set j p.1)))
  | _, _ => none else none
/-- read an owned list's item, its length, it as data for good -/
def eIxO (i : Nat) (ix : Fe) : Fe := fun env => if isOwn env i then (ix env).bind fun q => match q.1, q.2[i]? with
  | .int k, some (.own _ ds) => (atI ds k).map fun d => (d, q.2)
  | _, _ => none else none
def eLenO (i : Nat) : Fe := fun env => match env[i]? with
  | some (.own _ ds) => some (.int ds.length, env)
  | _ => none
def sFrz (i : Nat) (a : Fs) : Fs := fun env => match env[i]? with
  | some (.own false ds) => a (env.set i (.val (.list ds)))
  | _ => a env
section
variable {X : Cx} {xc : XC} {e ix : Expr} {fe fi : Fe} {fl : Fl} {st : Stmt} {rest : List Stmt} {f g : Fs} {pos : Pos}
theorem dss_nil : PSs X [] (Gs X.K xc sNx) := PSs.imp pss_nil fun D σ H ⟨c, F, env, fl, env', R, e, k⟩ => by
  cases e
  exact k σ F H (Same.refl F) R
theorem dss_one (h : PS X st (Gs X.K xc f)) : PSs X [st] (Gs X.K xc f) := pss_one h
theorem dss_cons (h : PS X st (Gs X.K xc f)) (h2 : PSs X rest (Gs X.K xc g)) : PSs X (st :: rest) (Gs X.K xc (sSeq f g)) := PSs.imp (pss_cons h h2) fun D σ H ⟨c, F, env, fl, env', R, e, k⟩ => by
  unfold sSeq at e
  simp only [Option.bind_eq_some_iff] at e
  obtain ⟨⟨f1, n1⟩, h1, h2⟩ := e
  refine ⟨c, F, env, f1, n1, R, h1, ?_⟩
  cases f1 with
  | nx => exact fun σ' F' H' s R' => ⟨c, F', n1, fl, env', R', h2, k.up s⟩
  | rt d => cases h2; exact k
  | rl d => cases h2; exact k
  | bk => cases h2; exact k
  | ct => cases h2; exact k
  | ex cl d => cases h2; exact k
theorem ds_expr (he : PE X e (Ge X.K fe)) (hs : swapsWith e none pos.line X.env = pure false := by rfl) : PS X (.Expr e pos) (Gs X.K xc (sEx fe)) := PS.imp (ps_expr he hs) fun D σ H ⟨c, F, env, fl, env', R, e, k⟩ => by
  unfold sEx at e
  simp only [Option.map_eq_some_iff] at e
  obtain ⟨⟨d1, n1⟩, h1, h2⟩ := e
  obtain ⟨rfl, rfl⟩ := Prod.mk.inj h2
  exact ⟨c, F, env, d1, n1, R, h1, fun v F' H' s R' hv => k σ F' H' s R'⟩
theorem ds_pass : PS X (.Pass pos) (Gs X.K xc sNx) := PS.imp ps_pass fun D σ H ⟨c, F, env, fl, env', R, e, k⟩ => by
  cases e
  exact k σ F H (Same.refl F) R
theorem ds_break : PS X (.Break pos) (Gs X.K xc sBk) := PS.imp ps_break fun D σ H ⟨c, F, env, fl, env', R, e, k⟩ => by
  cases e
  exact k σ F H (Same.refl F) R
theorem ds_continue : PS X (.Continue pos) (Gs X.K xc sCt) := PS.imp ps_continue fun D σ H ⟨c, F, env, fl, env', R, e, k⟩ => by
  cases e
  exact k σ F H (Same.refl F) R
theorem ds_ret (he : PE X e (Ge X.K fe)) : PS X (.Return (some e) pos) (Gs X.K xc (sRt fe)) := PS.imp (ps_ret he) fun D σ H ⟨c, F, env, fl, env', R, e, k⟩ => by
  unfold sRt at e
  simp only [Option.map_eq_some_iff] at e
  obtain ⟨⟨d1, n1⟩, h1, h2⟩ := e
  obtain ⟨rfl, rfl⟩ := Prod.mk.inj h2
  exact ⟨c, F, env, d1, n1, R, h1, fun v F' H' s R' hv => k σ F' H' v s R' hv⟩
/-- return of a new list -/
def sRl (f : Fl) : Fs := fun env => (f env).map fun p => (.rl p.1, p.2)
theorem ds_retL (he : PE X e (Gf X.K fl)) : PS X (.Return (some e) pos) (Gs X.K xc (sRl fl)) := PS.imp (ps_ret he) fun D σ H ⟨c, F, env, fl, env', R, e, k⟩ => by
  unfold sRl at e
  simp only [Option.map_eq_some_iff] at e
  obtain ⟨⟨d1, n1⟩, h1, h2⟩ := e
  obtain ⟨rfl, rfl⟩ := Prod.mk.inj h2
  exact ⟨c, F, env, d1, n1, R, h1, fun p xs F' H' s hp R' hx => k σ F' H' p xs s hp R' hx⟩
theorem ds_retN : PS X (.Return none pos) (Gs X.K xc sRtN) := PS.imp ps_retN fun D σ H ⟨c, F, env, fl, env', R, e, k⟩ => by
  cases e
  exact k σ F H .non (Same.refl F) R .non
theorem ds_never : PS X st (Gs X.K xc sNever) := PS.imp ps_never fun D σ H ⟨c, F, env, fl, env', R, e, k⟩ => by cases e
theorem ds_if {t : Expr} {a b : List Stmt} {ft : Ft} (ht : PT X t (Gt X.K ft)) (ha : PSs X a (Gs X.K xc f)) (hb : PSs X b (Gs X.K xc g)) : PS X (.If t a b pos) (Gs X.K xc (sIf ft f g)) := PS.imp (ps_if ht ha hb) fun D σ H ⟨c, F, env, fl, env', R, e, k⟩ => by
  unfold sIf at e
  simp only [Option.bind_eq_some_iff] at e
  obtain ⟨⟨b1, n1⟩, h1, h2⟩ := e
  refine ⟨c, F, env, b1, n1, R, h1, fun F' H' s R' => ?_⟩
  cases b1 with
  | true => exact iteT ⟨c, F', n1, fl, env', R', h2, k.up s⟩
  | false => exact iteF ⟨c, F', n1, fl, env', R', h2, k.up s⟩
theorem ds_set (i : Nat) {x : Str} {pos' : Pos} (hN : X.N.Nodup) (he : PE X e (Ge X.K fe)) (hi : X.N[i]? = some x := by rfl) (hx : Loc X.env.scope x := by first | exact Or.inl rfl | exact Or.inr rfl) (hs : swapsWith e (some (.Name x pos')) pos.line X.env = pure false := by rfl)
    (hf : X.fn x = true ∨ X.env.scope.names.lookup x = some .local := by first | exact .inl rfl | exact .inr rfl | assumption) : PS X (.Assign [.Name x pos'] e pos) (Gs X.K xc (sSet fe (g1 i))) := PS.imp (ps_set hN hi hx he hs hf) fun D σ H ⟨c, F, env, fl, env', R, e, k⟩ => by
  unfold sSet g1 at e
  simp only [Option.bind_eq_some_iff, Option.map_some, Option.some.injEq] at e
  obtain ⟨⟨d1, n1⟩, h1, h2⟩ := e
  obtain ⟨rfl, rfl⟩ := Prod.mk.inj h2
  exact ⟨c, F, env, d1, n1, R, h1, fun v F' H' s R' hv => k _ F' H' s (R'.put hv i)⟩
theorem ds_own (i : Nat) {x : Str} {pos' : Pos} (hN : X.N.Nodup) (he : PE X e (Gf X.K fl)) (hi : X.N[i]? = some x := by rfl) (hx : Loc X.env.scope x := by first | exact Or.inl rfl | exact Or.inr rfl) (hs : swapsWith e (some (.Name x pos')) pos.line X.env = pure false := by rfl)
    (hf : X.fn x = true ∨ X.env.scope.names.lookup x = some .local := by first | exact .inl rfl | exact .inr rfl | assumption) : PS X (.Assign [.Name x pos'] e pos) (Gs X.K xc (sOwn fl i)) := PS.imp (ps_set hN hi hx he hs hf) fun D σ H ⟨c, F, env, fl, env', R, e, k⟩ => by
  unfold sOwn at e
  simp only [Option.map_eq_some_iff] at e
  obtain ⟨⟨d1, n1⟩, h1, h2⟩ := e
  obtain ⟨rfl, rfl⟩ := Prod.mk.inj h2
  exact ⟨c, F, env, d1, n1, R, h1, fun p xs F' H' s hp R' hx => k _ F' _ s (R'.putOwn hp hx i)⟩
/-- target = e, the target of any form (a tuple of names) -/
theorem ds_asg {tg : Expr} {t : Tg} {S : List Nat} (he : PE X e (Ge X.K fe)) (hg : PG X tg (tG X.K t S)) (hs : swapsWithSole [tg] e pos.line X.env = pure false := by rfl) (hw : swappedStores [tg] e X.env = pure none := by rfl)
    (h1 : (assignEach [tg] X.env).map (·.2) = [assign tg X.env] := by rfl) : PS X (.Assign [tg] e pos) (Gs X.K xc (sSet fe t)) := PS.imp (ps_asg he hg hs hw h1) fun D σ H ⟨c, F, env, fl, env', R, e, k⟩ => by
  unfold sSet at e
  simp only [Option.bind_eq_some_iff, Option.map_eq_some_iff] at e
  obtain ⟨⟨d1, n1⟩, h1, z, h2, h3⟩ := e
  obtain ⟨rfl, rfl⟩ := Prod.mk.inj h3
  exact ⟨c, F, env, d1, n1, R, h1, fun v F' H' s R' hv => ⟨c, F', n1, d1, z, R', hv, h2, fun σ' R2 _ => k σ' F' H' s R2⟩⟩
/-- a, b = e1, e2 at once -/
def sPar (i j : Nat) (f : Fl) : Fs := fun env => (f env).bind fun p => match p.1 with
  | [d, e] => some (.nx, (p.2.set i (.val d)).set j (.val e))
  | _ => none
theorem ds_par (i j : Nat) {x y : Str} {a b : Expr} {px py pt : Pos} {kt k2 pt2} (hc : X.calm = true) (hN : X.N.Nodup) (ha : PA X [a, b] (Ga X.K fl)) (hi : X.N[i]? = some x := by rfl) (hj : X.N[j]? = some y := by rfl) (hij : i ≠ j := by decide)
    (hx : X.env.scope.names.lookup x = some .local := by rfl) (hy : X.env.scope.names.lookup y = some .local := by rfl)
    (hw : swappedStores [.Tuple [.Name x px, .Name y py] kt pt] (.Tuple [a, b] k2 pt2) X.env = pure (some [x, y]) := by rfl)
    (hs : swapsWithSole [.Tuple [.Name x px, .Name y py] kt pt] (.Tuple [a, b] k2 pt2) pos.line X.env = pure false := by rfl) :
    PS X (.Assign [.Tuple [.Name x px, .Name y py] kt pt] (.Tuple [a, b] k2 pt2) pos) (Gs X.K xc (sPar i j fl)) := PS.imp (ps_par hc hN hi hj hij hx hy ha hw hs) fun D σ H ⟨c, F, env, fl, env', R, e, k⟩ => by
  unfold sPar at e
  simp only [Option.bind_eq_some_iff] at e
  obtain ⟨⟨d1, n1⟩, h1, h2⟩ := e
  dsimp only at h2
  split at h2
  · cases h2
    refine ⟨c, F, env, _, _, R, h1, fun vs F' H' s R' hv => ?_⟩
    cases hv with
    | cons h3 h4 =>
      cases h4 with
      | cons h4 h5 =>
        cases h5
        exact ⟨_, _, rfl, k _ F' H' s ((R'.put h3 i).put h4 j)⟩
  · cases h2
/-! the statements on an owned list -/
theorem ds_app (i : Nat) {x : Str} {p2 apos cpos : Pos} (he : PE X e (Ge X.K fe)) (hN : X.N[i]? = some x := by rfl) (hv : Vis X.env.scope x := by first | exact Or.inl rfl | exact Or.inr (Or.inl rfl) | exact Or.inr (Or.inr rfl)) (hd : (x == ("__debug__" : Str)) = false := by decide)
    (hcd : (x == ("__classdict__" : Str)) = false := by decide) (hs : swapsWith (.Call (.Attribute (.Name x p2) "append" apos) [e] [] cpos) none pos.line X.env = pure false := by rfl)
    (hbase : attributeBase (.Name x p2) "append" X.env (eval (.Name x p2) X.env) = eval (.Name x p2) X.env := by rfl)
    (hfew : ((backTo cpos (starEach (e :: []) X.env)).all (fun x => !x.1) && (backToKw cpos (keywordEach [] X.env)).all (fun x => x.1.isSome)
      && decide ((e :: []).length + ([] : List Keyword).length + (if ([] : List Keyword).isEmpty then 0 else 1) < 30)) = true := by rfl)
    (hline : (apos.endLine == cpos.line) = true := by rfl) (hs2 : starEach (e :: []) X.env = (false, eval e X.env) :: starEach [] X.env := by rfl) (hplain : (backTo cpos (starEach [] X.env)).any (·.1) = false := by rfl) :
    PS X (.Expr (.Call (.Attribute (.Name x p2) "append" apos) [e] [] cpos) pos) (Gs X.K xc (sApp i fe)) :=
  PS.imp (ps_expr (pe_bm PySem.F.plainAttrs_list PySem.F.slot_list_append PySem.F.type_list_append mt_append (pe_var hN hv hd hcd) (pa_cons he pa_nil hs2) hbase hfew hline hs2 hplain) hs) fun D σ H ⟨c, F, env, fl, env', R, e, k⟩ => by
  unfold sApp at e
  by_cases ho : isOwn env i = true
  · rw [if_pos ho] at e
    simp only [Option.bind_eq_some_iff] at e
    obtain ⟨⟨d1, n1⟩, h1, h2⟩ := e
    dsimp only at h2
    split at h2
    · rename_i b ds hi
      split at h2
      · rename_i hz
        cases h2
        obtain ⟨a, ys, ha, hy⟩ := own_of R ho
        refine ⟨.ref a, ha, .inl ⟨rfl, ys, SqL.of hy⟩, c, F, env, d1, n1, R, h1, fun v F' H' s R' hv => ?_⟩
        obtain ⟨a', xs, e1, e2, e3, e4, e5, e6, e7⟩ := R'.own i b ds hi
        rw [ha] at e1
        cases e1
        refine ⟨a, xs, v, rfl, rfl, e3, ?_, ?_⟩
        · rw [e4.len]; exact okN_lt hz
        · exact k σ F' _ s (R'.write hi ha (e4.app (.cons hv .nil)))
      · cases h2
    · cases h2
  · rw [if_neg ho] at e
    cases e
theorem ds_put (i : Nat) {x : Str} {p2 apos : Pos} (he : PE X e (Ge X.K fe)) (hix : PE X ix (Ge X.K fi)) (hN : X.N[i]? = some x := by rfl) (hv : Vis X.env.scope x := by first | exact Or.inl rfl | exact Or.inr (Or.inl rfl) | exact Or.inr (Or.inr rfl)) (hd : (x == ("__debug__" : Str)) = false := by decide)
    (hcd : (x == ("__classdict__" : Str)) = false := by decide)
    (ha : ∀ v, assign (.Subscript (.Name x p2) ix apos) X.env v = (do
      let ov ← holding [v] (eval (.Name x p2) X.env)
      let iv ← holding [v, ov] (eval ix X.env)
      standAt apos
      holding [v, ov, iv] (setItem ov iv v)
      release [v, ov, iv] []) := by intro _; rfl)
    (hs : swapsWithSole [.Subscript (.Name x p2) ix apos] e pos.line X.env = pure false := by rfl) (hw : swappedStores [.Subscript (.Name x p2) ix apos] e X.env = pure none := by rfl)
    (h1 : (assignEach [.Subscript (.Name x p2) ix apos] X.env).map (·.2) = [assign (.Subscript (.Name x p2) ix apos) X.env] := by rfl) :
    PS X (.Assign [.Subscript (.Name x p2) ix apos] e pos) (Gs X.K xc (sPut i fi fe)) :=
  PS.imp (ps_asg he (pg_sub (pe_var hN hv hd hcd) hix set_list ha) hs hw h1) fun D σ H ⟨c, F, env, fl, env', R, e, k⟩ => by
  unfold sPut at e
  simp only [Option.bind_eq_some_iff] at e
  obtain ⟨⟨d1, n1⟩, h1, h2⟩ := e
  by_cases ho : isOwn n1 i = true
  · dsimp only at h2
    rw [if_pos ho] at h2
    simp only [Option.bind_eq_some_iff] at h2
    obtain ⟨⟨d2, n2⟩, h2, h3⟩ := h2
    dsimp only at h3
    split at h3
    · rename_i kk b ds hi
      simp only [Option.map_eq_some_iff] at h3
      obtain ⟨j, hj, h4⟩ := h3
      obtain ⟨rfl, rfl⟩ := Prod.mk.inj h4
      refine ⟨c, F, env, d1, n1, R, h1, fun v F1 H1 s1 R1 p1 => ?_⟩
      obtain ⟨a, ys, ha, hy⟩ := own_of R1 ho
      refine ⟨.ref a, ha, c, F1, n1, _, n2, R1, h2, fun w F2 H2 s2 R2 p2 => ?_⟩
      cases p2
      obtain ⟨a', xs, e1, e2, e3, e4, e5, e6, e7⟩ := R2.own i b ds hi
      rw [ha] at e1
      cases e1
      refine ⟨a, xs, kk, j, rfl, rfl, e3, by rw [e4.len]; exact hj, ?_⟩
      exact k σ F2 _ (s1.trans s2) (R2.write hi ha (e4.set (p1.up s2) j))
    · cases h3
  · dsimp only at h2
    rw [if_neg ho] at h2
    cases h2
theorem de_ixO (i : Nat) {x : Str} {p2 : Pos} (hix : PE X ix (Ge X.K fi)) (hN : X.N[i]? = some x := by rfl) (hv : Vis X.env.scope x := by first | exact Or.inl rfl | exact Or.inr (Or.inl rfl) | exact Or.inr (Or.inr rfl)) (hd : (x == ("__debug__" : Str)) = false := by decide)
    (hcd : (x == ("__classdict__" : Str)) = false := by decide) (hs : PlainIx ix := by exact fun _ _ => rfl) : PE X (.Subscript (.Name x p2) ix pos) (Ge X.K (eIxO i fi)) :=
  PE.imp (pe_ix ix_list (pe_var hN hv hd hcd) hix hs) fun σ H Q ⟨c, F, env, d, env', R, e, k⟩ => by
  unfold eIxO at e
  by_cases ho : isOwn env i = true
  · rw [if_pos ho] at e
    simp only [Option.bind_eq_some_iff] at e
    obtain ⟨⟨d1, n1⟩, h1, h2⟩ := e
    dsimp only at h2
    split at h2
    · rename_i kk b ds hi
      simp only [Option.map_eq_some_iff] at h2
      obtain ⟨y, hy, h3⟩ := h2
      obtain ⟨rfl, rfl⟩ := Prod.mk.inj h3
      obtain ⟨a, ys, ha, hys⟩ := own_of R ho
      refine ⟨.ref a, ha, c, F, env, _, _, R, h1, fun w F2 H2 s2 R2 p2 => ?_⟩
      cases p2
      obtain ⟨a', xs, e1, e2, e3, e4, e5, e6, e7⟩ := R2.own i b ds hi
      rw [ha] at e1
      cases e1
      obtain ⟨u, h4, h5⟩ := atI_dp e4 hy
      exact ⟨a, xs, kk, u, rfl, rfl, SqL.of e3, h4, k u F2 H2 s2 R2 h5⟩
    · cases h2
  · rw [if_neg ho] at e
    cases e
theorem de_lenO (i : Nat) {x : Str} {p p2 : Pos} (hg : Gl X "len") (hm : X.mg "len" = none) (hN : X.N[i]? = some x := by rfl) (hv : Vis X.env.scope x := by first | exact Or.inl rfl | exact Or.inr (Or.inl rfl) | exact Or.inr (Or.inr rfl)) (hd : (x == ("__debug__" : Str)) = false := by decide)
    (hcd : (x == ("__classdict__" : Str)) = false := by decide) (he : starEach (Expr.Name x p2 :: []) X.env = (false, eval (Expr.Name x p2) X.env) :: starEach [] X.env := by rfl) (hpl : (backTo pos (starEach [] X.env)).any (·.1) = false := by rfl) :
    PE X (.Call (.Name "len" p) [.Name x p2] [] pos) (Ge X.K (eLenO i)) :=
  PE.imp (pe_callB call_len_seq hg hm PySem.boot_len (pa_cons (pe_var hN hv hd hcd) pa_nil he) (by decide) (by decide) he hpl) fun σ H Q ⟨c, F, env, d, env', R, e, k⟩ => by
  unfold eLenO at e
  split at e
  · rename_i b ds hi
    cases e
    obtain ⟨a, xs, e1, e2, e3, e4, e5, e6, e7⟩ := R.own i b ds hi
    refine ⟨.ref a, e1, a, xs, rfl, .inl (SqL.of e3), ?_⟩
    rw [e4.len]
    exact k _ F H (Same.refl F) R (.int _)
  · cases e
theorem ds_frz (i : Nat) (h : PS X st (Gs X.K xc f)) : PS X st (Gs X.K xc (sFrz i f)) := PS.imp h fun D σ H ⟨c, F, env, fl, env', R, e, k⟩ => by
  unfold sFrz at e
  split at e
  · rename_i ds hi
    obtain ⟨F', s, R'⟩ := R.freeze hi
    exact ⟨c, F', _, fl, env', R', e, k.up s⟩
  · exact ⟨c, F, env, fl, env', R, e, k⟩
def sAug (i : Nat) (g : PyData → PyData → Option PyData) (e : Fe) : Fs := fun env => match env[i]? with
  | some (.val d) => (e env).bind fun p => (g d p.1).map fun z => (.nx, p.2.set i (.val z))
  | _ => none
theorem ds_aug (i : Nat) {x : Str} {op : Operator} {fI : Int → Int → Int} {pos' : Pos} (hN : X.N.Nodup) (he : PE X e (Ge X.K fe)) (ho : PIp X op (ipI fI)) (hi : X.N[i]? = some x := by rfl) (hx : Loc X.env.scope x := by first | exact Or.inl rfl | exact Or.inr rfl)
    (hf : X.fn x = true ∨ X.env.scope.names.lookup x = some .local := by first | exact .inl rfl | exact .inr rfl | assumption) : PS X (.AugAssign (.Name x pos') op e pos) (Gs X.K xc (sAug i (gI (fun a b => .int (fI a b)) fun _ _ => true) fe)) := PS.imp (ps_aug hN hi hx he ho hf) fun D σ H ⟨c, F, env, fl, env', R, e, k⟩ => by
  unfold sAug at e
  split at e
  · rename_i d hd
    simp only [Option.bind_eq_some_iff, Option.map_eq_some_iff] at e
    obtain ⟨⟨d1, n1⟩, h1, z, h2, h3⟩ := e
    obtain ⟨rfl, rfl⟩ := Prod.mk.inj h3
    obtain ⟨a, b, rfl, rfl, _, rfl⟩ := gI_inv h2
    obtain ⟨v, hv, pv⟩ := R.val i _ hd
    cases pv
    refine ⟨_, hv, c, F, env, _, n1, R, h1, fun w F' H' s R' hw => ?_⟩
    cases hw
    exact ⟨a, b, rfl, rfl, k _ F' H' s (R'.put (.int _) i)⟩
  · cases e
end
end Dn

set_option Elab.async false
set_option linter.all false
set_option maxRecDepth 100000
set_option maxHeartbeats 2000000
/-! zip of two sequences of any kind, list or tuple -/
namespace Zm
open PySem
/-- what zip asks of an iterator at it, over the items xs at l -/
structure Nx (it l : Addr) (xs : Array Value) (I : Heap → Nat → Prop) (S : Heap → Prop) : Prop where
  item : ∀ {prog : Program} {w : World} {A : Around} {E : Value → Shared → Prop} {s : Shared} {k : Nat} {x : Value} {Q : Value → Shared → Prop}, I s.heap k → S s.heap → xs[k]? = some x →
    (∀ g, I g (k + 1) → Heap.SameBut it s.heap g → Q x { s with heap := g }) → wpAny (model prog w) A (Builtin.SmallTypes.nextOf (.ref it)) Q E s
  over : ∀ {prog : Program} {w : World} {A : Around} {E : Value → Shared → Prop} {s : Shared} {k : Nat} {Q : Value → Shared → Prop}, A.handled = none → I s.heap k → S s.heap → xs[k]? = none →
    (∀ g e, Heap.ExtBut it s.heap g → (∃ o, g.get? e = some o ∧ o.cls = .type "StopIteration") → E (.ref e) { s with heap := g }) → wpAny (model prog w) A (Builtin.SmallTypes.nextOf (.ref it)) Q E s
  it' : ∀ {g g' : Heap} {k : Nat} {c : Addr}, I g k → Heap.ExtBut c g g' → it ≠ c → I g' k
  sq' : ∀ {g g' : Heap} {c : Addr}, S g → Heap.ExtBut c g g' → l ≠ c → S g'
  at' : ∀ {g g' : Heap} {k : Nat}, I g k → (∀ o, g.get? it = some o → g'.get? it = some o) → I g' k
  lt : ∀ {g : Heap} {k : Nat}, I g k → it < g.objs.size
theorem nxL (it l : Addr) (xs : Array Value) : Nx it l xs (fun g k => g.IsListIter it l k) (fun g => g.IsList l xs) where
  item := fun a b c d => wpAny_nextOf_list_item a b c d
  over := fun hh a b c d => wpAny_nextOf_list_end hh a b c d
  it' := fun a b c => a.extBut b c
  sq' := fun a b c => a.extBut b c
  at' := fun a b => a.at b
  lt := fun ⟨_, a, _⟩ => Heap.lt_size a
theorem nxT (it l : Addr) (xs : Array Value) : Nx it l xs (fun g k => g.IsTupleIter it l k) (fun g => g.IsTuple l xs) where
  item := fun a b c d => RZ.nextOf_tuple_item a b c d
  over := fun hh a b c d => RZ.nextOf_tuple_end hh a b c d
  it' := fun a b c => a.extBut b c
  sq' := fun a b c => a.extBut b c
  at' := fun a b => a.at b
  lt := fun ⟨_, a, _⟩ => Heap.lt_size a
section
variable {prog : Program} {w : World} {A : Around} {E : Value → Shared → Prop} {s : Shared} {z TI TO i1 i2 l1 l2 : Addr} {xs ys : Array Value} {I J : Heap → Nat → Prop} {S T : Heap → Prop}
theorem turn_item {k m : Nat} {x y a b : Value} {Q : Value → Shared → Prop} (N1 : Nx i1 l1 xs I S) (N2 : Nx i2 l2 ys J T) (D : ZipApart z TI TO i1 i2 l1 l2) (cz : IsZip s.heap z TI TO .none) (cI : IsPair s.heap TI (.ref i1) (.ref i2)) (cO : IsPair s.heap TO a b)
    (a1 : I s.heap k) (a2 : J s.heap m) (b1 : S s.heap) (b2 : T s.heap) (hx : xs[k]? = some x) (hy : ys[m]? = some y)
    (hq : ∀ g, IsZip g z TI TO (rawInt s.heap.objs.size) → IsPair g TO x y → I g (k + 1) → J g (m + 1) → IsPair g s.heap.objs.size x y → g.objs.size = s.heap.objs.size + 1 → (∀ c o, c ≠ z → c ≠ TO → c ≠ i1 → c ≠ i2 → s.heap.get? c = some o → g.get? c = some o) → Q (.ref s.heap.objs.size) { s with heap := g }) :
    wpAny (model prog w) A (Builtin.«zip.__next__» ⟨[.ref z], []⟩) (fun fl s' => ∃ v, fl = .done (.ret v) ∧ Q v s') E s := by
  show wpAny _ _ (field (.ref z) 2 >>= _) _ _ _; refine wpAny_bind (wpAny_field cz rfl (x := .bool false) rfl ?_)
  show wpAny _ _ (field (.ref z) 3 >>= _) _ _ _; refine wpAny_bind (wpAny_field cz rfl (x := .ref TI) rfl ?_); refine wpAny_bind (wpAny_seqItems cI rfl ?_)
  show wpAny _ _ (Builtin.SmallTypes.ownedTupleIsFree (.ref z) >>= _) _ _ _; refine wpAny_bind ?_; unfold Builtin.SmallTypes.ownedTupleIsFree
  refine wpAny_bind (wpAny_field cz rfl (x := .none) rfl (wpAny_pure ?_)); simp only [if_true]; refine wpAny_bind (wpAny_rule ?_); refine wpAny_bind (wpAny_field cz rfl (x := .ref TO) rfl ?_)
  refine wpAny_bind (wpAny_setField_rec cz (by simp) fun g1 cz1 u1 => ?_); replace cz1 : IsZip g1 z TI TO .ellipsis := cz1
  refine wpAny_bind ?_; simp only [List.zipIdx_cons, List.zipIdx_nil, List.forIn_cons, List.forIn_nil]
  -- the first one's next
  refine wpAny_bind (wpAny_bind (wpAny_onRaise ?_)); show wpAny _ _ (Builtin.SmallTypes.nextOf (.ref i1) >>= _) _ _ _
  refine wpAny_bind (N1.item (N1.it' a1 u1.extBut D.i1z) (N1.sq' b1 u1.extBut D.l1z) hx fun g2 a1' u2 => wpAny_pure ?_)
  have cO2 : IsPair g2 TO a b := u2.extBut _ _ D.TOi1 (u1.extBut _ _ D.TOz cO)
  refine wpAny_bind (wpAny_seqItems cO2 rfl ?_); refine wpAny_bind (wpAny_updateSeq_pair cO2 fun g3 cO3 u3 => ?_); replace cO3 : IsPair g3 TO x b := cO3; refine wpAny_bind (wpAny_letGo (wpAny_pure ?_))
  -- the second one's next
  refine wpAny_bind (wpAny_bind (wpAny_onRaise ?_)); show wpAny _ _ (Builtin.SmallTypes.nextOf (.ref i2) >>= _) _ _ _
  refine wpAny_bind (N2.item (N2.it' (N2.it' (N2.it' a2 u1.extBut D.i2z) u2.extBut D.i12.symm) u3.extBut D.TOi2.symm) (N2.sq' (N2.sq' (N2.sq' b2 u1.extBut D.l2z) u2.extBut D.l2i1) u3.extBut D.l2TO) hy fun g4 a2' u4 => wpAny_pure ?_)
  have cO4 : IsPair g4 TO x b := u4.extBut _ _ D.TOi2 cO3
  refine wpAny_bind (wpAny_seqItems cO4 rfl ?_); refine wpAny_bind (wpAny_updateSeq_pair cO4 fun g5 cO5 u5 => ?_); replace cO5 : IsPair g5 TO x y := cO5; refine wpAny_bind (wpAny_letGo (wpAny_pure (wpAny_pure ?_)))
  -- the pair handed out
  refine wpAny_bind (wpAny_seqItems cO5 rfl ?_); refine wpAny_bind (wpAny_newTuple ?_)
  have e5 : g5.objs.size = s.heap.objs.size := by rw [u5.1, u4.1, u3.1, u2.1, u1.1]
  have cz5 : IsZip g5 z TI TO .ellipsis := u5.extBut _ _ D.TOz.symm (u4.extBut _ _ D.i2z.symm (u3.extBut _ _ D.TOz.symm (u2.extBut _ _ D.i1z.symm cz1)))
  have old : ∀ c o, c ≠ z → c ≠ TO → c ≠ i1 → c ≠ i2 → s.heap.get? c = some o → g5.get? c = some o := fun c o n1 n2 n3 n4 e => u5.extBut _ _ n2 (u4.extBut _ _ n4 (u3.extBut _ _ n2 (u2.extBut _ _ n3 (u1.extBut _ _ n1 e))))
  have a15 : I g5 (k + 1) := N1.it' (N1.it' (N1.it' a1' u3.extBut D.TOi1.symm) u4.extBut D.i12) u5.extBut D.TOi1.symm
  have a25 : J g5 (m + 1) := N2.it' a2' u5.extBut D.TOi2.symm
  have lz : z < g5.objs.size := Heap.lt_size cz5
  show wpAny _ _ (Builtin.SmallTypes.ownedTupleHandOut (.ref z) (.ref g5.objs.size) >>= _) _ _ _; refine wpAny_bind ?_; unfold Builtin.SmallTypes.ownedTupleHandOut
  have cz6 : IsZip (g5.push { cls := .type "tuple", data := .seq #[x, y] }) z TI TO .ellipsis := Heap.get?_push_of_some _ cz5
  refine wpAny_bind (wpAny_setField_rec cz6 (by simp) fun g7 cz7 u7 => ?_); replace cz7 : IsZip g7 z TI TO (rawInt g5.objs.size) := cz7
  refine wpAny_setField_rec cz7 (by simp) fun g8 cz8 u8 => ?_; replace cz8 : IsZip g8 z TI TO (rawInt g5.objs.size) := cz8
  have up : ∀ c o, c ≠ z → g5.get? c = some o → g8.get? c = some o := fun c o n1 e => u8.extBut _ _ n1 (u7.extBut _ _ n1 (Heap.get?_push_of_some _ e))
  have cT : IsPair g8 g5.objs.size x y := u8.extBut _ _ (Nat.ne_of_gt lz) (u7.extBut _ _ (Nat.ne_of_gt lz) (Heap.get?_push_size _ rfl))
  have e8 : g8.objs.size = g5.objs.size + 1 := by rw [u8.1, u7.1, Heap.size_push]
  rw [e5] at cz8 cT e8; refine wpAny_pure ⟨_, rfl, ?_⟩; show Q (.ref g5.objs.size) _; rw [e5]
  exact hq g8 cz8 (up _ _ D.TOz cO5) (N1.at' a15 fun o e => up _ o D.i1z e) (N2.at' a25 fun o e => up _ o D.i2z e) cT e8 fun c o n1 n2 n3 n4 e => up c o n1 (old c o n1 n2 n3 n4 e)
theorem turn_over {k m : Nat} {a b : Value} {Q : Fin → Shared → Prop} (N1 : Nx i1 l1 xs I S) (N2 : Nx i2 l2 ys J T) (hh : A.handled = none) (D : ZipApart z TI TO i1 i2 l1 l2) (cz : IsZip s.heap z TI TO .none) (cI : IsPair s.heap TI (.ref i1) (.ref i2)) (cO : IsPair s.heap TO a b)
    (a1 : I s.heap k) (a2 : J s.heap m) (b1 : S s.heap) (b2 : T s.heap) (he : xs[k]? = none ∨ ys[m]? = none)
    (hq : ∀ g e, (∀ c o, c ≠ z → c ≠ TO → c ≠ i1 → c ≠ i2 → s.heap.get? c = some o → g.get? c = some o) → (∃ o, g.get? e = some o ∧ o.cls = .type "StopIteration") → E (.ref e) { s with heap := g }) :
    wpAny (model prog w) A (Builtin.«zip.__next__» ⟨[.ref z], []⟩) Q E s := by
  show wpAny _ _ (field (.ref z) 2 >>= _) _ _ _; refine wpAny_bind (wpAny_field cz rfl (x := .bool false) rfl ?_)
  show wpAny _ _ (field (.ref z) 3 >>= _) _ _ _; refine wpAny_bind (wpAny_field cz rfl (x := .ref TI) rfl ?_); refine wpAny_bind (wpAny_seqItems cI rfl ?_)
  show wpAny _ _ (Builtin.SmallTypes.ownedTupleIsFree (.ref z) >>= _) _ _ _; refine wpAny_bind ?_; unfold Builtin.SmallTypes.ownedTupleIsFree
  refine wpAny_bind (wpAny_field cz rfl (x := .none) rfl (wpAny_pure ?_)); simp only [if_true]; refine wpAny_bind (wpAny_rule ?_); refine wpAny_bind (wpAny_field cz rfl (x := .ref TO) rfl ?_)
  refine wpAny_bind (wpAny_setField_rec cz (by simp) fun g1 cz1 u1 => ?_); replace cz1 : IsZip g1 z TI TO .ellipsis := cz1
  refine wpAny_bind ?_; simp only [List.zipIdx_cons, List.zipIdx_nil, List.forIn_cons, List.forIn_nil]
  refine wpAny_bind (wpAny_bind (wpAny_onRaise ?_)); show wpAny _ _ (Builtin.SmallTypes.nextOf (.ref i1) >>= _) _ _ _
  cases hx : xs[k]? with
  | none =>
    refine wpAny_bind (N1.over hh (N1.it' a1 u1.extBut D.i1z) (N1.sq' b1 u1.extBut D.l1z) hx fun g2 e u2 ⟨oe, q1, q2⟩ => ?_)
    have cz2 : IsZip g2 z TI TO .ellipsis := u2 _ _ D.i1z.symm cz1
    have nez : e ≠ z := fun q => by subst q; rw [cz2] at q1; cases q1; simp at q2
    refine wpAny_setField_rec cz2 (by simp) fun g3 _ u3 => hq g3 e (fun c o n1 _ n3 _ q => u3.extBut _ _ n1 (u2 _ _ n3 (u1.extBut _ _ n1 q))) ⟨oe, u3.extBut _ _ nez q1, q2⟩
  | some x =>
    have hy : ys[m]? = none := he.elim (fun q => by rw [hx] at q; cases q) id
    refine wpAny_bind (N1.item (N1.it' a1 u1.extBut D.i1z) (N1.sq' b1 u1.extBut D.l1z) hx fun g2 a1' u2 => wpAny_pure ?_)
    have cO2 : IsPair g2 TO a b := u2.extBut _ _ D.TOi1 (u1.extBut _ _ D.TOz cO)
    refine wpAny_bind (wpAny_seqItems cO2 rfl ?_); refine wpAny_bind (wpAny_updateSeq_pair cO2 fun g3 cO3 u3 => ?_); refine wpAny_bind (wpAny_letGo (wpAny_pure ?_))
    refine wpAny_bind (wpAny_bind (wpAny_onRaise ?_)); show wpAny _ _ (Builtin.SmallTypes.nextOf (.ref i2) >>= _) _ _ _
    refine wpAny_bind (N2.over hh (N2.it' (N2.it' (N2.it' a2 u1.extBut D.i2z) u2.extBut D.i12.symm) u3.extBut D.TOi2.symm) (N2.sq' (N2.sq' (N2.sq' b2 u1.extBut D.l2z) u2.extBut D.l2i1) u3.extBut D.l2TO) hy fun g4 e u4 ⟨oe, q1, q2⟩ => ?_)
    have cz4 : IsZip g4 z TI TO .ellipsis := u4 _ _ D.i2z.symm (u3.extBut _ _ D.TOz.symm (u2.extBut _ _ D.i1z.symm cz1))
    have nez : e ≠ z := fun q => by subst q; rw [cz4] at q1; cases q1; simp at q2
    refine wpAny_setField_rec cz4 (by simp) fun g5 _ u5 => hq g5 e (fun c o n1 n2 n3 n4 q => u5.extBut _ _ n1 (u4 _ _ n4 (u3.extBut _ _ n2 (u2.extBut _ _ n3 (u1.extBut _ _ n1 q))))) ⟨oe, u5.extBut _ _ nez q1, q2⟩
theorem next_item {k m : Nat} {x y a b : Value} {Q : Option Value → Shared → Prop} (N1 : Nx i1 l1 xs I S) (N2 : Nx i2 l2 ys J T) (D : ZipApart z TI TO i1 i2 l1 l2) (cz : IsZip s.heap z TI TO .none) (cI : IsPair s.heap TI (.ref i1) (.ref i2)) (cO : IsPair s.heap TO a b)
    (a1 : I s.heap k) (a2 : J s.heap m) (b1 : S s.heap) (b2 : T s.heap) (hx : xs[k]? = some x) (hy : ys[m]? = some y)
    (hq : ∀ g, IsZip g z TI TO (rawInt s.heap.objs.size) → IsPair g TO x y → I g (k + 1) → J g (m + 1) → IsPair g s.heap.objs.size x y → g.objs.size = s.heap.objs.size + 1 → (∀ c o, c ≠ z → c ≠ TO → c ≠ i1 → c ≠ i2 → s.heap.get? c = some o → g.get? c = some o) → Q (some (.ref s.heap.objs.size)) { s with heap := g }) : wpAny (model prog w) A (pyNext (.ref z)) Q E s := by
  have ty : s.TypeIs (.ref z) "zip" := ⟨_, cz, rfl⟩
  unfold pyNext
  exact wpAny_bind (wpAny_attempt (wpAny_callSpecial?_slot (name := Str.ofString "__next__") ty F.slot_zip_next (wpAny_call_entry F.slot_zip_next ty F.entry_zip_next (turn_item N1 N2 D cz cI cO a1 a2 b1 b2 hx hy fun g c1 c2 c3 c4 c5 c6 c7 => wpAny_pure (hq g c1 c2 c3 c4 c5 c6 c7)) (F.args_zip_next_1 _))))
theorem next_over {k m : Nat} {a b : Value} {Q : Option Value → Shared → Prop} (N1 : Nx i1 l1 xs I S) (N2 : Nx i2 l2 ys J T) (hh : A.handled = none) (D : ZipApart z TI TO i1 i2 l1 l2) (cz : IsZip s.heap z TI TO .none) (cI : IsPair s.heap TI (.ref i1) (.ref i2)) (cO : IsPair s.heap TO a b)
    (a1 : I s.heap k) (a2 : J s.heap m) (b1 : S s.heap) (b2 : T s.heap) (he : xs[k]? = none ∨ ys[m]? = none)
    (hq : ∀ g, (∀ c o, c ≠ z → c ≠ TO → c ≠ i1 → c ≠ i2 → s.heap.get? c = some o → g.get? c = some o) → Q none { s with heap := g }) : wpAny (model prog w) A (pyNext (.ref z)) Q E s := by
  have ty : s.TypeIs (.ref z) "zip" := ⟨_, cz, rfl⟩
  unfold pyNext
  refine wpAny_bind (wpAny_attempt (wpAny_callSpecial?_slot (name := Str.ofString "__next__") ty F.slot_zip_next (wpAny_call_entry F.slot_zip_next ty F.entry_zip_next (turn_over N1 N2 hh D cz cI cO a1 a2 b1 b2 he fun g e kp ⟨o, q1, q2⟩ => ?_) (F.args_zip_next_1 _))))
  exact wpAny_bind (wpAny_isInstance (T := "StopIteration") (b := true) ⟨o, q1, q2⟩ isSubtype_stop (wpAny_pure (hq _ kp)))
end
/-! zip(t, l), t a tuple, l a list -/
abbrev mk1 (h : Heap) (l1 : Addr) : Heap := h.push { cls := .type "tuple_iterator", data := .fields #[.ref l1, .int 0 0] }
abbrev mk2 (h : Heap) (l1 l2 : Addr) : Heap := (mk1 h l1).push { cls := .type "list_iterator", data := .fields #[.ref l2, .int 0 0] }
abbrev mk3 (h : Heap) (l1 l2 : Addr) : Heap := (mk2 h l1 l2).push { cls := .type "tuple", data := .seq #[.ref h.objs.size, .ref (mk1 h l1).objs.size] }
abbrev mk4 (h : Heap) (l1 l2 : Addr) : Heap := (mk3 h l1 l2).push { cls := .type "tuple", data := .seq #[.none, .none] }
abbrev mk5 (h : Heap) (l1 l2 : Addr) : Heap := (mk4 h l1 l2).push { cls := .type "zip", data := .fields #[.none, .bool false, .bool false, .ref (mk2 h l1 l2).objs.size, .ref (mk3 h l1 l2).objs.size] }
theorem meets_new (l1 l2 : Addr) (xs ys : Array Value) : Meets (Builtin.«zip.__new__» ⟨[.type "zip", .ref l1, .ref l2], []⟩) (fun _ R s => s.heap.IsTuple l1 xs ∧ s.heap.IsList l2 ys ∧ R (.ok (.ret (.ref (mk4 s.heap l1 l2).objs.size))) { s with heap := mk5 s.heap l1 l2 }) :=
  .of_wp fun prog w A R s h => by
    obtain ⟨hp, g, d, tk, os⟩ := s; obtain ⟨c1, c2, h⟩ := h; have hsub := sub_zip
    have hL1 : Heap.IsTuple (Shared.heap ⟨hp, g, d, tk, os⟩) l1 xs := c1
    have hL2 : Heap.IsList (Shared.heap ⟨mk1 hp l1, g, d, tk, os⟩) l2 ys := Heap.IsList.push c2 _
    wp_walk using wpAny_pyIter_tuple hL1, wpAny_pyIter_list hL2
    exact ⟨_, rfl, h⟩
end Zm

set_option Elab.async false
set_option linter.all false
set_option maxRecDepth 100000
set_option maxHeartbeats 2000000
/-! zip(t, l): the call, the turns of a loop, the layer's rule -/
namespace Zm
open PySem
section
variable {prog : Program} {w : World} {A : Around} {E : Value → Shared → Prop} {s : Shared}
theorem call_mixed {l1 l2 : Addr} {xs ys : Array Value} {Q : Value → Shared → Prop} (c1 : s.heap.IsTuple l1 xs) (c2 : s.heap.IsList l2 ys)
    (h : ∀ g, IsZip g (s.heap.objs.size + 4) (s.heap.objs.size + 2) (s.heap.objs.size + 3) .none → IsPair g (s.heap.objs.size + 2) (.ref s.heap.objs.size) (.ref (s.heap.objs.size + 1)) → IsPair g (s.heap.objs.size + 3) .none .none →
      g.IsTupleIter s.heap.objs.size l1 0 → g.IsListIter (s.heap.objs.size + 1) l2 0 → g.objs.size = s.heap.objs.size + 5 → (∀ c o, s.heap.get? c = some o → g.get? c = some o) → Q (.ref (s.heap.objs.size + 4)) { s with heap := g }) :
    wpAny (model prog w) A (call (.type "zip") [.ref l1, .ref l2]) Q E s := by
  refine callType_new F.called_zip (by decide) (F.typeCall_zip_2 _ _) (F.newCall_zip_2 _ _) (fun o => F.args_object_init_3 o _ _) F.entry_zip_new (meets_new l1 l2 xs ys) ⟨c1, c2, ?_⟩
  have k1 : (mk1 s.heap l1).objs.size = s.heap.objs.size + 1 := Heap.size_push ..
  have k2 : (mk2 s.heap l1 l2).objs.size = s.heap.objs.size + 2 := by rw [Heap.size_push, k1]
  have k3 : (mk3 s.heap l1 l2).objs.size = s.heap.objs.size + 3 := by rw [Heap.size_push, k2]
  have k4 : (mk4 s.heap l1 l2).objs.size = s.heap.objs.size + 4 := by rw [Heap.size_push, k3]
  have k5 : (mk5 s.heap l1 l2).objs.size = s.heap.objs.size + 5 := by rw [Heap.size_push, k4]
  have p5 : (mk5 s.heap l1 l2).get? (mk4 s.heap l1 l2).objs.size = some _ := Heap.get?_push_size _ rfl
  have p4 : (mk5 s.heap l1 l2).get? (mk3 s.heap l1 l2).objs.size = some _ := Heap.get?_push_of_some _ (Heap.get?_push_size _ rfl)
  have p3 : (mk5 s.heap l1 l2).get? (mk2 s.heap l1 l2).objs.size = some _ := Heap.get?_push_of_some _ (Heap.get?_push_of_some _ (Heap.get?_push_size _ rfl))
  have p2 : (mk5 s.heap l1 l2).get? (mk1 s.heap l1).objs.size = some _ := Heap.get?_push_of_some _ (Heap.get?_push_of_some _ (Heap.get?_push_of_some _ (Heap.get?_push_size _ rfl)))
  have p1 : (mk5 s.heap l1 l2).get? s.heap.objs.size = some _ := Heap.get?_push_of_some _ (Heap.get?_push_of_some _ (Heap.get?_push_of_some _ (Heap.get?_push_of_some _ (Heap.get?_push_size _ rfl))))
  show _ ∧ _
  rw [k2, k3, k4] at p5; rw [k1, k2] at p3; rw [k3] at p4; rw [k1] at p2; rw [k4]
  exact ⟨⟨_, p5, rfl⟩, h _ p5 p3 p4 ⟨_, p1, rfl, rfl⟩ ⟨_, p2, rfl, rfl⟩ k5 fun c o q => Heap.get?_push_of_some _ (Heap.get?_push_of_some _ (Heap.get?_push_of_some _ (Heap.get?_push_of_some _ (Heap.get?_push_of_some _ q))))⟩
end
open PySem.Spec PyProof.Rows L2
/-- the tuple at a, the list at b, their items in new pairs -/
def ItM (K : PySem.W.Frag) (a b : Addr) : It :=
  ⟨fun i H => ∃ (xs ys : List V) (x y : V), SqT K H a xs ∧ SqL K H b ys ∧ xs[i]? = some x ∧ ys[i]? = some y,
   fun i H v G => ∃ N x y, v = .ref N ∧ H N = none ∧ G = upd H N (.tup [x, y]) ∧ (∀ xs, SqT K H a xs → xs[i]? = some x) ∧ ∀ ys, SqL K H b ys → ys[i]? = some y,
   fun i H => ∃ xs ys : List V, SqT K H a xs ∧ SqL K H b ys ∧ (xs.length ≤ i ∨ ys.length ≤ i)⟩
theorem turns {P : Program} {w : World} {K : PySem.W.Frag} {elts : List Expr} {kk : Nat} {tpos : Pos} {a b z TI TO i1 i2 : Addr} (D : ZipApart z TI TO i1 i2 a b) :
    Turn P w K (.Tuple elts kk tpos) (ItM K a b) [z, TI, TO, i1, i2] z (fun i g => IsZip g z TI TO .none ∧ IsPair g TI (.ref i1) (.ref i2) ∧ (∃ x y, IsPair g TO x y) ∧ g.IsTupleIter i1 a i ∧ g.IsListIter i2 b i) where
  mem := by simp
  obj := fun i g ⟨cz, cI, ⟨x, y, cO⟩, ⟨o1, e1, _, d1⟩, ⟨o2, e2, _, d2⟩⟩ c hc => by
    rcases (show c = z ∨ c = TI ∨ c = TO ∨ c = i1 ∨ c = i2 by simpa using hc) with rfl | rfl | rfl | rfl | rfl
    · exact ⟨_, cz, fun v q => nomatch q⟩
    · exact ⟨_, cI, fun v q => nomatch q⟩
    · exact ⟨_, cO, fun v q => nomatch q⟩
    · exact ⟨o1, e1, fun v q => by rw [d1] at q; cases q⟩
    · exact ⟨o2, e2, fun v q => by rw [d2] at q; cases q⟩
  keep := fun i g g' ⟨cz, cI, ⟨x, y, cO⟩, a1, a2⟩ k => ⟨k z (by simp) _ cz, k TI (by simp) _ cI, ⟨x, y, k TO (by simp) _ cO⟩, a1.at fun o q => k i1 (by simp) o q, a2.at fun o q => k i2 (by simp) o q⟩
  item := by
    intro X hP hw hK hc i pins s σ H E I hf st hg
    subst hP hw hK
    obtain ⟨cz, cI, ⟨x0, y0, cO⟩, a1, a2⟩ := st
    obtain ⟨xs, ys, x, y, qx, qy, hx, hy⟩ := hg
    obtain ⟨its, rv, p, _⟩ := I.tuple qx
    obtain ⟨jts, rv2, p2, _⟩ := I.list qy
    obtain ⟨u, hu, ru⟩ := rv.get hx
    obtain ⟨u2, hu2, ru2⟩ := rv2.get hy
    have lz : z < s.heap.objs.size := Heap.lt_size cz
    refine next_item (nxT i1 a its.toArray) (nxL i2 b jts.toArray) D cz cI cO a1 a2 p p2.isList (x := u) (y := u2) (by simpa using hu) (by simpa using hu2) fun g z' TO' a1' a2' cT hsz kp => ?_
    refine ⟨_, rfl, wpAny_letOwnedTupleGo_zip (s := { s with heap := g }) z' fun g' z'' sb => ?_⟩
    have cT2 : g'.get? s.heap.objs.size = some { cls := .type "tuple", data := .seq #[u, u2] } := (sb.2 _ (Nat.ne_of_gt lz)).trans cT
    have new : ObjOk X.prog X.w (upd H s.heap.objs.size (.tup [x, y])) g' s.heap.objs.size (.tup [x, y]) := ⟨by show 2 ≤ sizeLine; decide, [u, u2], .cons ru (.cons ru2 .nil), ⟨_, cT2, rfl, _, rfl⟩⟩
    have all : ∀ c o, c ∉ [z, TI, TO, i1, i2] → s.heap.get? c = some o → g'.get? c = some o := fun c o hb q => by
      simp only [List.mem_cons, List.not_mem_nil, or_false, not_or] at hb
      exact (sb.2 c hb.1).trans (kp c o hb.1 hb.2.2.1 hb.2.2.2.1 hb.2.2.2.2 q)
    have I1 : Inv X pins σ (upd H s.heap.objs.size (.tup [x, y])) { s with heap := g' } := I.turnedNew (t' := s.toks) (ch := [z, TI, TO, i1, i2]) all hf (Nat.le_refl _) new
    refine ⟨.ref s.heap.objs.size, _, I1, rfl, ⟨_, x, y, rfl, I.hok.fresh (Nat.le_refl _), rfl, fun l hl => (I.tuple_inj hl qx) ▸ hx, fun l hl => (I.list_inj hl qy) ▸ hy⟩, ⟨z'', (sb.2 _ D.TIz).trans (kp _ _ D.TIz D.TITO D.TIi1 D.TIi2 cI), ⟨u, u2, (sb.2 _ D.TOz).trans TO'⟩, a1'.at fun o q => (sb.2 _ D.i1z).trans q, a2'.at fun o q => (sb.2 _ D.i2z).trans q⟩, fun c hcm => ?_⟩
    have lc : c < s.heap.objs.size := by
      rcases (show c = z ∨ c = TI ∨ c = TO ∨ c = i1 ∨ c = i2 by simpa using hcm) with rfl | rfl | rfl | rfl | rfl
      · exact lz
      · exact Heap.lt_size cI
      · exact Heap.lt_size cO
      · exact (nxT c a its.toArray).lt a1
      · exact (nxL c b jts.toArray).lt a2
    rw [upd_ne (Nat.ne_of_lt lc)]; exact (hf c hcm).1
  done := by
    intro X hP hw hK hc i pins s σ H E I hf st hg
    subst hP hw hK
    obtain ⟨cz, cI, ⟨x0, y0, cO⟩, a1, a2⟩ := st
    obtain ⟨xs, ys, qx, qy, he⟩ := hg
    obtain ⟨its, rv, p, _⟩ := I.tuple qx
    obtain ⟨jts, rv2, p2, _⟩ := I.list qy
    have n1 := rv.length
    have n2 := rv2.length
    have hn : its.toArray[i]? = none ∨ jts.toArray[i]? = none := he.elim (fun q => .inl (by simp; omega)) fun q => .inr (by simp; omega)
    exact next_over (nxT i1 a its.toArray) (nxL i2 b jts.toArray) (I.ok.hd hc) D cz cI cO a1 a2 p p2.isList hn fun g kp => ⟨rfl, I.turnedL (t' := s.toks) (ch := [z, TI, TO, i1, i2]) (fun c o hb q => by
      simp only [List.mem_cons, List.not_mem_nil, or_false, not_or] at hb
      exact kp c o hb.1 hb.2.2.1 hb.2.2.2.1 hb.2.2.2.2 q) hf⟩
  self := fun A i s Q E st h => wpAny_pyIter_zip st.1 h
def iMix (K : PySem.W.Frag) (ta : TA) : TI := fun σ H R => ta σ H fun vs G => ∃ a b xs ys, vs = [.ref a, .ref b] ∧ SqT K G a xs ∧ SqL K G b ys ∧ R (ItM K a b) G
theorem pi_mixed {X : Cx} {e e2 : Expr} {ta : TA} {p pos tpos : Pos} {elts : List Expr} {kk : Nat} (hg : Gl X "zip") (hm : X.mg "zip" = none) (ha : PA X [e, e2] ta)
    (hs : starEach [e, e2] X.env = (false, eval e X.env) :: starEach [e2] X.env := by rfl) (hpl : (backTo pos (starEach [e2] X.env)).any (·.1) = false := by rfl) : PI X (.Tuple elts kk tpos) (.Call (.Name "zip" p) [e, e2] [] pos) (iMix X.K ta) := by
  refine ⟨fun pins s σ H R I h => Call_ (ld_blt I hg hm PyProof.Rows.boot_zip (PyProof.Rows.callWith_type1 (thn (ha.run pos pins s σ H _ I h) fun us r ⟨vs, G, I1, r1, a, b, xs, ys, ex, qx, qy, q⟩ => ?_) hs hpl))⟩
  subst ex
  obtain ⟨u, u2, rfl, q1, q2⟩ := vals2 r1
  cases q1
  cases q2
  obtain ⟨its, rv, p1, _⟩ := I1.tuple qx
  obtain ⟨jts, rv2, p2, _⟩ := I1.list qy
  obtain ⟨o1, ho1, _⟩ := id p1
  refine call_mixed (show r.heap.IsTuple a its.toArray from p1) p2.isList fun g cz cI cO a1 a2 hsz kp => wpAny_pyIter_zip cz ?_
  have I2 : Inv X pins σ G { r with heap := g } := I1.kept (t' := r.toks) kp
  refine ⟨r.heap.objs.size + 4, [r.heap.objs.size + 4, r.heap.objs.size + 2, r.heap.objs.size + 3, r.heap.objs.size, r.heap.objs.size + 1], _, _, G, rfl, I2, turns (PySem.W.ktu_apart r.heap.objs.size a b (Heap.lt_size ho1) p2.lt), ⟨cz, cI, ⟨_, _, cO⟩, a1, a2⟩, fun c hc => ?_, q⟩
  have le : r.heap.objs.size ≤ c := by
    rcases (show c = r.heap.objs.size + 4 ∨ c = r.heap.objs.size + 2 ∨ c = r.heap.objs.size + 3 ∨ c = r.heap.objs.size ∨ c = r.heap.objs.size + 1 by simpa using hc) with rfl | rfl | rfl | rfl | rfl
    · exact Nat.le_add_right _ 4
    · exact Nat.le_add_right _ 2
    · exact Nat.le_add_right _ 3
    · exact Nat.le_refl _
    · exact Nat.le_add_right _ 1
  exact I1.fpOk le (I1.hok.fresh le)
end Zm

set_option Elab.async false
set_option linter.all false
set_option maxRecDepth 100000
/-! What is walked; for, while; comprehensions; defs and their calls. -/
namespace Dn
open PySem PySem.Spec PyProof.Rows L2
open PySem.W (Frag)

/-! ### what is walked -/
abbrev Fi := Fl
structure Wk (K : Frag) (F : Hp) (J : It) (ds : List PyData) : Prop where
  go : ∀ i H, Same F H → i < ds.length → J.go i H
  stop : ∀ i H, Same F H → ds.length ≤ i → J.stop i H
  yld : ∀ i H x H' d, Same F H → ds[i]? = some d → J.yld i H x H' → (H' = H ∧ Dp K F x d) ∨ (∃ T xs es, H T = none ∧ H' = upd H T (.tup xs) ∧ x = .ref T ∧ d = .tuple es ∧ DpAll K F xs es)
theorem Wk.up {K : Frag} {F F' : Hp} {J : It} {ds : List PyData} (w : Wk K F J ds) (s : Same F F') : Wk K F' J ds :=
  ⟨fun i H h => w.go i H (s.trans h), fun i H h => w.stop i H (s.trans h), fun i H x H' d h e y => by
    rcases w.yld i H x H' d (s.trans h) e y with ⟨h1, h2⟩ | ⟨T, xs, es, h1, h2, h3, h4, h5⟩
    · exact .inl ⟨h1, h2.up s⟩
    · exact .inr ⟨T, xs, es, h1, h2, h3, h4, h5.up s⟩⟩
def tI (K : Frag) (f : Fi) : TI := fun σ H R => ∃ c F env ds env', Rl K c F σ H env ∧ f env = some (ds, env') ∧ ∀ J F' H', Same F F' → Rl K c F' σ H' env' → Wk K F' J ds → R J H'
/-- the items of data that is walked -/
@[simp] def items : PyData → Option (List PyData)
  | .list ds => some ds
  | .tuple ds => some ds
  | _ => none
def iSeq (f : Fe) : Fi := fun env => (f env).bind fun p => (items p.1).map fun ds => (ds, p.2)
def rng (lo hi : Int) : List PyData := (List.range (hi - lo).toNat).map fun (i : Nat) => .int (lo + i)
noncomputable def iR1 (f : Fl) : Fi := fun env => (f env).bind fun p => match p.1 with
  | [.int n] => if smallI n then some (rng 0 n, p.2) else none
  | _ => none
noncomputable def iR2 (f : Fl) : Fi := fun env => (f env).bind fun p => match p.1 with
  | [.int m, .int n] => if smallI m && smallI n then some (rng m n, p.2) else none
  | _ => none
def zipD (xs ys : List PyData) : List PyData := List.zipWith (fun a b => .tuple [a, b]) xs ys
def iZp (f : Fl) : Fi := fun env => (f env).bind fun p => match p.1 with
  | [.list xs, .list ys] => some (zipD xs ys, p.2)
  | [.tuple xs, .list ys] => some (zipD xs ys, p.2)
  | [.tuple xs, .tuple ys] => some (zipD xs ys, p.2)
  | _ => none
def enumD (n : Int) : List PyData → List PyData
  | [] => []
  | d :: ds => .tuple [.int n, d] :: enumD (n + 1) ds
theorem enumD_get : ∀ (ds : List PyData) (n : Int) (i : Nat), (enumD n ds)[i]? = ds[i]?.map fun d => .tuple [.int (n + i), d]
  | [], n, i => by simp [enumD]
  | d :: ds, n, 0 => by simp [enumD]
  | d :: ds, n, i + 1 => by
    simp only [enumD, List.getElem?_cons_succ]
    rw [enumD_get ds (n + 1) i]
    have : n + 1 + (i : Int) = n + ((i + 1 : Nat) : Int) := by omega
    rw [this]
theorem enumD_len : ∀ (ds : List PyData) (n : Int), (enumD n ds).length = ds.length
  | [], _ => rfl
  | d :: ds, n => by simp [enumD, enumD_len ds]
def iEn (f : Fl) : Fi := fun env => (f env).bind fun p => match p.1 with
  | [.list xs] => some (enumD 0 xs, p.2)
  | _ => none
section
variable {X : Cx} {tg l : Expr} {f : Fe} {fl : Fl}
/-- a list or a tuple -/
def iLT (K : Frag) (tl : TE) : TI := fun σ H R => tl σ H fun x H1 => (∃ a, x = .ref a ∧ (∃ xs, SqL K H1 a xs) ∧ R (Itl K a) H1) ∨ (∃ a, x = .ref a ∧ (∃ xs, SqT K H1 a xs) ∧ R (Itt K a) H1)
theorem pi_lt {tl : TE} (hl : PE X l tl) : PI X tg l (iLT X.K tl) := by
  refine ⟨fun pins s σ H R I h => ?_⟩
  refine thn (hl.run pins s σ H _ I h) fun v s1 ⟨x, H1, I1, r1, q1⟩ => ?_
  rcases q1 with ⟨a, e, ⟨xs, hq⟩, q⟩ | ⟨a, e, ⟨xs, hq⟩, q⟩
  · subst e
    cases r1
    obtain ⟨its, rv, p, hz⟩ := I1.list hq
    refine wpAny_pyIter_list p.isList ?_
    refine ⟨s1.heap.objs.size, [s1.heap.objs.size], _, _, H1, rfl, I1.kept (t' := s1.toks) fun b o e => Heap.get?_push_of_some _ e, turn_list a _, ⟨_, Heap.get?_push_size _ rfl, rfl, rfl⟩, fun b hb => ?_, q⟩
    have e : b = s1.heap.objs.size := by simpa using hb
    subst e
    exact I1.fpOk (Nat.le_refl _) (I1.hok.fresh (Nat.le_refl _))
  · subst e
    cases r1
    obtain ⟨its, rv, p, hz⟩ := I1.tuple hq
    refine wpAny_pyIter_tuple (show s1.heap.IsTuple a its.toArray from p) ?_
    refine ⟨s1.heap.objs.size, [s1.heap.objs.size], _, _, H1, rfl, I1.kept (t' := s1.toks) fun b o e => Heap.get?_push_of_some _ e, turn_tuple a _, ⟨_, Heap.get?_push_size _ rfl, rfl, rfl⟩, fun b hb => ?_, q⟩
    have e : b = s1.heap.objs.size := by simpa using hb
    subst e
    exact I1.fpOk (Nat.le_refl _) (I1.hok.fresh (Nat.le_refl _))
theorem len_get {α : Type} {l : List α} {i : Nat} (h : i < l.length) : ∃ a, l[i]? = some a := ⟨_, List.getElem?_eq_getElem h⟩
theorem wk_list {K : Frag} {F : Hp} {a : Addr} {xs : List V} {ds : List PyData} (hs : SqL K F a xs) (ha : DpAll K F xs ds) : Wk K F (Itl K a) ds where
  go := fun i H s h => by
    obtain ⟨x, hx⟩ := len_get (show i < xs.length by rw [ha.len]; exact h)
    exact ⟨xs, x, s.seq hs, hx⟩
  stop := fun i H s h => ⟨xs, s.seq hs, by rw [ha.len]; exact h⟩
  yld := fun i H x H' d s e y => by
    obtain ⟨h1, h2⟩ := y
    obtain ⟨v, h3, h4⟩ := ha.at e
    have h5 := h2 xs (s.seq hs)
    rw [h3] at h5
    cases h5
    exact .inl ⟨h1, h4⟩
theorem wk_tup {K : Frag} {F : Hp} {a : Addr} {xs : List V} {ds : List PyData} (hs : SqT K F a xs) (ha : DpAll K F xs ds) : Wk K F (Itt K a) ds where
  go := fun i H s h => by
    obtain ⟨x, hx⟩ := len_get (show i < xs.length by rw [ha.len]; exact h)
    exact ⟨xs, x, sqT_mono s hs, hx⟩
  stop := fun i H s h => ⟨xs, sqT_mono s hs, by rw [ha.len]; exact h⟩
  yld := fun i H x H' d s e y => by
    obtain ⟨h1, h2⟩ := y
    obtain ⟨v, h3, h4⟩ := ha.at e
    have h5 := h2 xs (sqT_mono s hs)
    rw [h3] at h5
    cases h5
    exact .inl ⟨h1, h4⟩
theorem di_seq (h : PE X l (Ge X.K f)) : PI X tg l (tI X.K (iSeq f)) := PI.imp (pi_lt h) fun σ H R ⟨c, F, env, ds, env', R0, e, k⟩ => by
  unfold iSeq at e
  simp only [Option.bind_eq_some_iff, Option.map_eq_some_iff] at e
  obtain ⟨⟨d1, n1⟩, h1, es, h2, h3⟩ := e
  obtain ⟨rfl, rfl⟩ := Prod.mk.inj h3
  refine ⟨c, F, env, d1, n1, R0, h1, fun v F' H' s R' hv => ?_⟩
  cases hv with
  | lst hs ha => cases h2; exact .inl ⟨_, rfl, ⟨_, R'.sub.seq hs⟩, k _ F' H' s R' (wk_list hs ha)⟩
  | tup hs ha => cases h2; exact .inr ⟨_, rfl, ⟨_, sqT_mono R'.sub hs⟩, k _ F' H' s R' (wk_tup hs ha)⟩
  | non => cases h2
  | bl _ => cases h2
  | int _ => cases h2
  | str _ => cases h2
theorem wk_rng {K : Frag} {F : Hp} {lo hi : Int} : Wk K F (Itr lo (hi - lo).toNat) (rng lo hi) where
  go := fun i H s h => by
    have h' : i < (rng lo hi).length := h
    simp only [rng, List.length_map, List.length_range] at h'
    exact h'
  stop := fun i H s h => by
    have h' : (rng lo hi).length ≤ i := h
    simp only [rng, List.length_map, List.length_range] at h'
    exact h'
  yld := fun i H x H' d s e y => by
    obtain ⟨h1, h2⟩ := y
    subst h2
    simp only [rng, List.getElem?_map, Option.map_eq_some_iff] at e
    obtain ⟨j, h3, h4⟩ := e
    have h5 : i < (hi - lo).toNat := by
      by_cases hh : i < (hi - lo).toNat
      · exact hh
      · rw [List.getElem?_eq_none (by rw [List.length_range]; omega)] at h3; cases h3
    rw [List.getElem?_range h5] at h3
    cases h3
    subst h4
    exact .inl ⟨h1, .int _⟩
theorem di_r1 {a : Expr} {p pos : Pos} (hg : Gl X "range") (hm : X.mg "range" = none) (ha : PA X [a] (Ga X.K fl)) (hs : starEach [a] X.env = [(false, eval a X.env)] := by rfl) : PI X tg (.Call (.Name "range" p) [a] [] pos) (tI X.K (iR1 fl)) :=
  PI.imp (pi_range1 hg hm ha hs) fun σ H R ⟨c, F, env, ds, env', R0, e, k⟩ => by
  unfold iR1 at e
  simp only [Option.bind_eq_some_iff] at e
  obtain ⟨⟨d1, n1⟩, h1, h2⟩ := e
  dsimp only at h2
  split at h2
  · split at h2
    · rename_i hz
      cases h2
      refine ⟨c, F, env, _, _, R0, h1, fun v F' H' s R' hv => ?_⟩
      cases hv with
      | cons h3 h4 =>
        cases h4; cases h3
        obtain ⟨b1, b2⟩ := smallI_b hz
        refine ⟨_, rfl, b1, b2, ?_⟩
        have := wk_rng (K := X.K) (F := F') (lo := 0) (hi := ‹Int›)
        rw [Int.sub_zero] at this
        exact k _ F' H' s R' this
    · cases h2
  · cases h2
theorem di_r2 {a b : Expr} {p pos : Pos} (hg : Gl X "range") (hm : X.mg "range" = none) (ha : PA X [a, b] (Ga X.K fl)) (hs : starEach [a, b] X.env = [(false, eval a X.env), (false, eval b X.env)] := by rfl) (hs2 : starEach [b] X.env = [(false, eval b X.env)] := by rfl) :
    PI X tg (.Call (.Name "range" p) [a, b] [] pos) (tI X.K (iR2 fl)) :=
  PI.imp (pi_range2 hg hm ha hs hs2) fun σ H R ⟨c, F, env, ds, env', R0, e, k⟩ => by
  unfold iR2 at e
  simp only [Option.bind_eq_some_iff] at e
  obtain ⟨⟨d1, n1⟩, h1, h2⟩ := e
  dsimp only at h2
  split at h2
  · split at h2
    · rename_i hz
      rw [Bool.and_eq_true] at hz
      cases h2
      refine ⟨c, F, env, _, _, R0, h1, fun v F' H' s R' hv => ?_⟩
      cases hv with
      | cons h3 h4 =>
        cases h4 with
        | cons h4 h5 =>
          cases h5; cases h3; cases h4
          obtain ⟨b1, b2⟩ := smallI_b hz.1
          obtain ⟨b3, b4⟩ := smallI_b hz.2
          exact ⟨_, _, rfl, ⟨b1, b2, b3, b4⟩, k _ F' H' s R' wk_rng⟩
    · cases h2
  · cases h2
theorem zip_get {xs ys : List PyData} {i : Nat} : (zipD xs ys)[i]? = (match xs[i]?, ys[i]? with | some a, some b => some (.tuple [a, b]) | _, _ => none) := by
  unfold zipD
  rw [List.getElem?_zipWith]
  cases xs[i]? <;> cases ys[i]? <;> rfl
theorem wk_zip {K : Frag} {F : Hp} {a b : Addr} {xs ys : List V} {ds es : List PyData} (hs : SqL K F a xs) (ha : DpAll K F xs ds) (hs2 : SqL K F b ys) (ha2 : DpAll K F ys es) : Wk K F (Itz K a b) (zipD ds es) where
  go := fun i H s h => by
    simp only [zipD, List.length_zipWith] at h
    obtain ⟨x, hx⟩ := len_get (show i < xs.length by rw [ha.len]; omega)
    obtain ⟨y, hy⟩ := len_get (show i < ys.length by rw [ha2.len]; omega)
    exact ⟨xs, ys, x, y, s.seq hs, s.seq hs2, hx, hy⟩
  stop := fun i H s h => by
    simp only [zipD, List.length_zipWith] at h
    have l1 := ha.len
    have l2 := ha2.len
    exact ⟨xs, ys, s.seq hs, s.seq hs2, by omega⟩
  yld := fun i H v H' d s e y => by
    obtain ⟨T, x, y, h1, h2, h3, h4, h5⟩ := y
    rw [zip_get] at e
    cases hx : ds[i]? with
    | none => rw [hx] at e; cases e
    | some d1 =>
      cases hy : es[i]? with
      | none => rw [hx, hy] at e; cases e
      | some d2 =>
        rw [hx, hy] at e
        cases e
        obtain ⟨u, f1, f2⟩ := ha.at hx
        obtain ⟨w, f3, f4⟩ := ha2.at hy
        have := h4 xs (s.seq hs)
        rw [f1] at this
        cases this
        have := h5 ys (s.seq hs2)
        rw [f3] at this
        cases this
        exact .inr ⟨T, _, _, h2, h3, h1, rfl, .cons f2 (.cons f4 .nil)⟩
theorem wk_zipM {K : Frag} {F : Hp} {a b : Addr} {xs ys : List V} {ds es : List PyData} (hs : SqT K F a xs) (ha : DpAll K F xs ds) (hs2 : SqL K F b ys) (ha2 : DpAll K F ys es) : Wk K F (Zm.ItM K a b) (zipD ds es) where
  go := fun i H s h => by
    simp only [zipD, List.length_zipWith] at h
    obtain ⟨x, hx⟩ := len_get (show i < xs.length by rw [ha.len]; omega)
    obtain ⟨y, hy⟩ := len_get (show i < ys.length by rw [ha2.len]; omega)
    exact ⟨xs, ys, x, y, sqT_mono s hs, s.seq hs2, hx, hy⟩
  stop := fun i H s h => by
    simp only [zipD, List.length_zipWith] at h
    have l1 := ha.len
    have l2 := ha2.len
    exact ⟨xs, ys, sqT_mono s hs, s.seq hs2, by omega⟩
  yld := fun i H v H' d s e y => by
    obtain ⟨T, x, y, h1, h2, h3, h4, h5⟩ := y
    rw [zip_get] at e
    cases hx : ds[i]? with
    | none => rw [hx] at e; cases e
    | some d1 =>
      cases hy : es[i]? with
      | none => rw [hx, hy] at e; cases e
      | some d2 =>
        rw [hx, hy] at e
        cases e
        obtain ⟨u, f1, f2⟩ := ha.at hx
        obtain ⟨w, f3, f4⟩ := ha2.at hy
        have := h4 xs (sqT_mono s hs)
        rw [f1] at this
        cases this
        have := h5 ys (s.seq hs2)
        rw [f3] at this
        cases this
        exact .inr ⟨T, _, _, h2, h3, h1, rfl, .cons f2 (.cons f4 .nil)⟩
theorem wk_zipT {K : Frag} {F : Hp} {a b : Addr} {xs ys : List V} {ds es : List PyData} (hs : SqT K F a xs) (ha : DpAll K F xs ds) (hs2 : SqT K F b ys) (ha2 : DpAll K F ys es) : Wk K F (RZ.ItzT K a b) (zipD ds es) where
  go := fun i H s h => by
    simp only [zipD, List.length_zipWith] at h
    obtain ⟨x, hx⟩ := len_get (show i < xs.length by rw [ha.len]; omega)
    obtain ⟨y, hy⟩ := len_get (show i < ys.length by rw [ha2.len]; omega)
    exact ⟨xs, ys, x, y, sqT_mono s hs, sqT_mono s hs2, hx, hy⟩
  stop := fun i H s h => by
    simp only [zipD, List.length_zipWith] at h
    have l1 := ha.len
    have l2 := ha2.len
    exact ⟨xs, ys, sqT_mono s hs, sqT_mono s hs2, by omega⟩
  yld := fun i H v H' d s e y => by
    obtain ⟨T, x, y, h1, h2, h3, h4, h5⟩ := y
    rw [zip_get] at e
    cases hx : ds[i]? with
    | none => rw [hx] at e; cases e
    | some d1 =>
      cases hy : es[i]? with
      | none => rw [hx, hy] at e; cases e
      | some d2 =>
        rw [hx, hy] at e
        cases e
        obtain ⟨u, f1, f2⟩ := ha.at hx
        obtain ⟨w, f3, f4⟩ := ha2.at hy
        have := h4 xs (sqT_mono s hs)
        rw [f1] at this
        cases this
        have := h5 ys (sqT_mono s hs2)
        rw [f3] at this
        cases this
        exact .inr ⟨T, _, _, h2, h3, h1, rfl, .cons f2 (.cons f4 .nil)⟩
theorem _root_.L2.PI.or {X : Cx} {tg it : Expr} {t u : TI} (h : PI X tg it t) (h2 : PI X tg it u) : PI X tg it (fun σ H R => t σ H R ∨ u σ H R) := ⟨fun pins s σ H R I q => q.elim (fun q => h.run pins s σ H R I q) fun q => h2.run pins s σ H R I q⟩
theorem di_zip {e e2 : Expr} {p pos tpos : Pos} {elts : List Expr} {kk : Nat} (hg : Gl X "zip") (hm : X.mg "zip" = none) (ha : PA X [e, e2] (Ga X.K fl))
    (hs : starEach [e, e2] X.env = (false, eval e X.env) :: starEach [e2] X.env := by rfl) (hpl : (backTo pos (starEach [e2] X.env)).any (·.1) = false := by rfl) :
    PI X (.Tuple elts kk tpos) (.Call (.Name "zip" p) [e, e2] [] pos) (tI X.K (iZp fl)) := PI.imp (PI.or (RZ.pi_zipA hg hm ha hs hpl) (Zm.pi_mixed hg hm ha hs hpl)) fun σ H R ⟨c, F, env, ds, env', R0, e, k⟩ => by
  unfold iZp at e
  simp only [Option.bind_eq_some_iff] at e
  obtain ⟨⟨d1, n1⟩, h1, h2⟩ := e
  dsimp only at h2
  split at h2
  · cases h2
    refine .inl ⟨c, F, env, _, _, R0, h1, fun v F' H' s R' hv => ?_⟩
    cases hv with
    | cons h3 h4 =>
      cases h4 with
      | cons h4 h5 =>
        cases h5
        cases h3 with
        | lst hs ha =>
          cases h4 with
          | lst hs2 ha2 => exact ⟨_, _, _, _, rfl, .inl ⟨R'.sub.seq hs, R'.sub.seq hs2, k _ F' H' s R' (wk_zip hs ha hs2 ha2)⟩⟩
  · cases h2
    refine .inr ⟨c, F, env, _, _, R0, h1, fun v F' H' s R' hv => ?_⟩
    cases hv with
    | cons h3 h4 =>
      cases h4 with
      | cons h4 h5 =>
        cases h5
        cases h3 with
        | tup hs ha =>
          cases h4 with
          | lst hs2 ha2 => exact ⟨_, _, _, _, rfl, sqT_mono R'.sub hs, R'.sub.seq hs2, k _ F' H' s R' (wk_zipM hs ha hs2 ha2)⟩
  · cases h2
    refine .inl ⟨c, F, env, _, _, R0, h1, fun v F' H' s R' hv => ?_⟩
    cases hv with
    | cons h3 h4 =>
      cases h4 with
      | cons h4 h5 =>
        cases h5
        cases h3 with
        | tup hs ha =>
          cases h4 with
          | tup hs2 ha2 => exact ⟨_, _, _, _, rfl, .inr ⟨sqT_mono R'.sub hs, sqT_mono R'.sub hs2, k _ F' H' s R' (wk_zipT hs ha hs2 ha2)⟩⟩
  · cases h2
theorem wk_enum {K : Frag} {F : Hp} {a : Addr} {xs : List V} {ds : List PyData} (hs : SqL K F a xs) (ha : DpAll K F xs ds) : Wk K F (Ite K a) (enumD 0 ds) where
  go := fun i H s h => by
    rw [enumD_len] at h
    obtain ⟨x, hx⟩ := len_get (show i < xs.length by rw [ha.len]; omega)
    exact ⟨xs, x, s.seq hs, hx⟩
  stop := fun i H s h => by
    rw [enumD_len] at h
    exact ⟨xs, s.seq hs, by rw [ha.len]; exact h⟩
  yld := fun i H v H' d s e y => by
    obtain ⟨T, x, h1, h2, h3, h4⟩ := y
    rw [enumD_get, Option.map_eq_some_iff] at e
    obtain ⟨d1, hx, rfl⟩ := e
    obtain ⟨u, f1, f2⟩ := ha.at hx
    have := h4 xs (s.seq hs)
    rw [f1] at this
    cases this
    rw [Int.zero_add]
    exact .inr ⟨T, _, _, h2, h3, h1, rfl, .cons (.int _) (.cons f2 .nil)⟩
theorem di_enum {e : Expr} {p pos tpos : Pos} {elts : List Expr} {kk : Nat} (hg : Gl X "enumerate") (hm : X.mg "enumerate" = none) (ha : PA X [e] (Ga X.K fl)) (hs : starEach [e] X.env = [(false, eval e X.env)] := by rfl) :
    PI X (.Tuple elts kk tpos) (.Call (.Name "enumerate" p) [e] [] pos) (tI X.K (iEn fl)) := PI.imp (pi_enum hg hm ha hs) fun σ H R ⟨c, F, env, ds, env', R0, e, k⟩ => by
  unfold iEn at e
  simp only [Option.bind_eq_some_iff] at e
  obtain ⟨⟨d1, n1⟩, h1, h2⟩ := e
  dsimp only at h2
  split at h2
  · cases h2
    refine ⟨c, F, env, _, _, R0, h1, fun v F' H' s R' hv => ?_⟩
    cases hv with
    | cons h3 h4 =>
      cases h4
      cases h3 with
      | lst hs ha => exact ⟨_, _, rfl, R'.sub.seq hs, k _ F' H' s R' (wk_enum hs ha)⟩
  · cases h2
end

/-! ### for, while -/
def forL (g : Tg) (b : Fs) : List PyData → En → Option (Flw × En)
  | [], env => some (.nx, env)
  | d :: ds, env => (g d env).bind fun e1 => (b e1).bind fun p => match p.1 with
    | .nx => forL g b ds p.2
    | .ct => forL g b ds p.2
    | .bk => some (.nx, p.2)
    | .rt r => some (.rt r, p.2)
    | .rl r => some (.rl r, p.2)
    | .ex cl r => some (.ex cl r, p.2)
def sFor (it : Fi) (g : Tg) (b : Fs) : Fs := fun env => (it env).bind fun p => forL g b p.1 p.2
def whL (t : Ft) (b : Fs) : Nat → En → Option (Flw × En)
  | 0, _ => none
  | n + 1, env => (t env).bind fun q => if q.1 then (b q.2).bind fun p => match p.1 with
      | .nx => whL t b n p.2
      | .ct => whL t b n p.2
      | .bk => some (.nx, p.2)
      | .rt r => some (.rt r, p.2)
      | .rl r => some (.rl r, p.2)
      | .ex cl r => some (.ex cl r, p.2)
    else some (.nx, q.2)
open Classical in
/-- a while, by as many turns as it needs -/
noncomputable def sWh (t : Ft) (b : Fs) : Fs := fun env => if h : ∃ n r, whL t b n env = some r then some (Classical.choose (Classical.choose_spec h)) else none
theorem whL_mono {t : Ft} {b : Fs} : ∀ {n m : Nat} {env : En} {r : Flw × En}, whL t b n env = some r → n ≤ m → whL t b m env = some r
  | 0, m, env, r, h, _ => by cases h
  | n + 1, 0, env, r, h, hm => by omega
  | n + 1, m + 1, env, r, h, hm => by
    unfold whL at h ⊢
    simp only [Option.bind_eq_some_iff] at h ⊢
    obtain ⟨q, h1, h2⟩ := h
    refine ⟨q, h1, ?_⟩
    by_cases hq : q.1 = true
    · rw [if_pos hq] at h2 ⊢
      simp only [Option.bind_eq_some_iff] at h2 ⊢
      obtain ⟨p, h3, h4⟩ := h2
      refine ⟨p, h3, ?_⟩
      split
      · rename_i hp; rw [hp] at h4; exact whL_mono h4 (by omega)
      · rename_i hp; rw [hp] at h4; exact whL_mono h4 (by omega)
      · rename_i hp; rw [hp] at h4; exact h4
      · rename_i hp; rw [hp] at h4; exact h4
      · rename_i hp; rw [hp] at h4; exact h4
      · rename_i hp; rw [hp] at h4; exact h4
    · rw [if_neg hq] at h2 ⊢
      exact h2
theorem sWh_of {t : Ft} {b : Fs} {n : Nat} {env : En} {r : Flw × En} (h : whL t b n env = some r) : sWh t b env = some r := by
  have hx : ∃ n r, whL t b n env = some r := ⟨n, r, h⟩
  have hc := Classical.choose_spec (Classical.choose_spec hx)
  have e : Classical.choose (Classical.choose_spec hx) = r := by
    have a := whL_mono hc (Nat.le_max_left _ n)
    have b' := whL_mono h (Nat.le_max_right (Classical.choose hx) n)
    rw [a] at b'
    exact Option.some.inj b'
  unfold sWh
  rw [dif_pos hx, e]
theorem sWh_inv {t : Ft} {b : Fs} {env : En} {r : Flw × En} (h : sWh t b env = some r) : ∃ n, whL t b n env = some r := by
  unfold sWh at h
  split at h
  · rename_i hx
    have hc := Classical.choose_spec (Classical.choose_spec hx)
    rw [Option.some.inj h] at hc
    exact ⟨_, hc⟩
  · cases h
section
variable {X : Cx} {xc : XC} {pos : Pos}
theorem get_drop {α : Type} {l : List α} {i : Nat} {a : α} (h : l[i]? = some a) : l.drop i = a :: l.drop (i + 1) := by
  have hi := (List.getElem?_eq_some_iff.mp h).1
  have e := (List.getElem?_eq_some_iff.mp h).2
  rw [List.drop_eq_getElem_cons hi, e]
theorem Rl.yield {K : Frag} {c : C3} {F H H' : Hp} {σ : L2.St} {env : En} {x : V} {d : PyData} (R : Rl K c F σ H env) (h : (H' = H ∧ Dp K F x d) ∨ (∃ T xs es, H T = none ∧ H' = upd H T (.tup xs) ∧ x = .ref T ∧ d = .tuple es ∧ DpAll K F xs es)) :
    ∃ F', Same F F' ∧ Rl K c F' σ H' env ∧ Dp K F' x d := by
  rcases h with ⟨rfl, h⟩ | ⟨T, xs, es, h1, rfl, rfl, rfl, h2⟩
  · exact ⟨F, Same.refl F, R, h⟩
  · obtain ⟨s, R'⟩ := R.laid (o := .tup xs) h1
    exact ⟨_, s, R', .tup (SqT.of upd_same) (h2.up s)⟩
theorem ds_for {tg iter : Expr} {body : List Stmt} {fi : Fi} {g : Tg} {S : List Nat} {fb : Fs} (hc : X.calm = true) (hi : PI X tg iter (tI X.K fi)) (hg : PG X tg (tG X.K g S)) (hb : PSs X body (Gs X.K xc fb)) (hp : PassesOwn (model X.prog X.w) X.A X.env X.xe := by first | exact PassesOwn.never | exact passes_of rfl | assumption)
    (hs : ∀ x, foldedSetIterable iter X.env x = pure x := by intro _; rfl) : PS X (.For tg iter body [] pos) (Gs X.K xc (sFor fi g fb)) := PS.imp (ps_for hp hc hi hg hb hs) fun D σ H ⟨c, F, env, fl, env', R, e, k⟩ => by
  unfold sFor at e
  simp only [Option.bind_eq_some_iff] at e
  obtain ⟨⟨ds, n1⟩, h1, h2⟩ := e
  refine ⟨c, F, env, ds, n1, R, h1, fun J F1 H1 s1 R1 w => ?_⟩
  refine ⟨fun i m σ H => ∃ F' en, Same F1 F' ∧ Rl X.K c F' σ H en ∧ i ≤ ds.length ∧ m = ds.length - i ∧ forL g fb (ds.drop i) en = some (fl, env'), ⟨ds.length, F1, n1, Same.refl F1, R1, Nat.zero_le _, by omega, by simpa using h2⟩, ?_⟩
  rintro i m σ2 H2 ⟨F2, en, s2, R2, hi, rfl, hl⟩
  by_cases hlt : i < ds.length
  · obtain ⟨d, hd⟩ := len_get hlt
    rw [get_drop hd] at hl
    unfold forL at hl
    simp only [Option.bind_eq_some_iff] at hl
    obtain ⟨e1, h3, p, h4, h5⟩ := hl
    refine .inr ⟨w.go i H2 (s2.trans R2.sub) hlt, _, fun σ' H' hN => ⟨ds.length - (i + 1), by omega, hN⟩, fun x H' y => ?_⟩
    obtain ⟨F3, s3, R3, hx⟩ := R2.yield ((w.up s2).yld i H2 x H' d R2.sub hd y)
    refine ⟨c, F3, en, d, e1, R3, hx, h3, fun σ4 R4 _ => ⟨c, F3, e1, p.1, p.2, R4, h4, ?_⟩⟩
    have s13 := s2.trans s3
    split at h5
    · rename_i hp
      rw [hp]
      exact fun σ' F' H' s R' => ⟨F', p.2, s13.trans s, R', hlt, rfl, h5⟩
    · rename_i hp
      rw [hp]
      exact fun σ' F' H' s R' => ⟨F', p.2, s13.trans s, R', hlt, rfl, h5⟩
    · rename_i hp
      rw [hp]
      cases h5
      exact fun σ' F' H' s R' => k σ' F' H' ((s1.trans s13).trans s) R'
    · rename_i r hp
      rw [hp]
      cases h5
      exact fun σ' F' H' v s R' hv => k σ' F' H' v ((s1.trans s13).trans s) R' hv
    · rename_i r hp
      rw [hp]
      cases h5
      exact fun σ' F' H' p xs s hp R' hx => k σ' F' H' p xs ((s1.trans s13).trans s) hp R' hx
    · rename_i cl r hp
      rw [hp]
      cases h5
      exact fun σ' F' H' v dd s R' hd hv => k σ' F' H' v dd ((s1.trans s13).trans s) R' hd hv
  · have ei : ds.drop i = [] := List.drop_eq_nil_of_le (by omega)
    rw [ei] at hl
    cases hl
    exact .inl ⟨w.stop i H2 (s2.trans R2.sub) (by omega), k σ2 F2 H2 (s1.trans s2) R2⟩
theorem ds_while {t : Expr} {body : List Stmt} {ft : Ft} {fb : Fs} (ht : PT X t (Gt X.K ft)) (hb : PSs X body (Gs X.K xc fb)) (hp : PassesOwn (model X.prog X.w) X.A X.env X.xe := by first | exact PassesOwn.never | exact passes_of rfl | assumption) : PS X (.While t body [] pos) (Gs X.K xc (sWh ft fb)) := PS.imp (ps_while hp ht hb) fun D σ H ⟨c, F, env, fl, env', R, e, k⟩ => by
  obtain ⟨n, hn⟩ := sWh_inv e
  refine ⟨fun m σ H => ∃ F' en, Same F F' ∧ Rl X.K c F' σ H en ∧ whL ft fb m en = some (fl, env'), ⟨n, F, env, Same.refl F, R, hn⟩, ?_⟩
  rintro m σ2 H2 ⟨F2, en, s2, R2, hl⟩
  cases m with
  | zero => cases hl
  | succ m =>
    unfold whL at hl
    simp only [Option.bind_eq_some_iff] at hl
    obtain ⟨⟨q1, q2⟩, h1, h2⟩ := hl
    refine ⟨c, F2, en, q1, q2, R2, h1, fun F3 H3 s3 R3 => ?_⟩
    have s13 := s2.trans s3
    cases q1 with
    | true =>
      rw [if_pos rfl] at h2
      simp only [Option.bind_eq_some_iff] at h2
      obtain ⟨p, h4, h5⟩ := h2
      refine iteT ⟨_, fun σ' H' hN => ⟨m, Nat.lt_succ_self m, hN⟩, c, F3, q2, p.1, p.2, R3, h4, ?_⟩
      split at h5
      · rename_i hp
        rw [hp]
        exact fun σ' F' H' s R' => ⟨F', p.2, s13.trans s, R', h5⟩
      · rename_i hp
        rw [hp]
        exact fun σ' F' H' s R' => ⟨F', p.2, s13.trans s, R', h5⟩
      · rename_i hp
        rw [hp]
        cases h5
        exact fun σ' F' H' s R' => k σ' F' H' (s13.trans s) R'
      · rename_i r hp
        rw [hp]
        cases h5
        exact fun σ' F' H' v s R' hv => k σ' F' H' v (s13.trans s) R' hv
      · rename_i r hp
        rw [hp]
        cases h5
        exact fun σ' F' H' p xs s hp R' hx => k σ' F' H' p xs (s13.trans s) hp R' hx
      · rename_i cl r hp
        rw [hp]
        cases h5
        exact fun σ' F' H' v dd s R' hd hv => k σ' F' H' v dd (s13.trans s) R' hd hv
    | false =>
      rw [if_neg Bool.false_ne_true] at h2
      cases h2
      exact iteF (k σ2 F3 H3 s13 R3)
end

/-! ### comprehensions -/
def compL (g : Tg) (t : Ft) (e : Fe) (vs : List Nat) : List PyData → En → Option (List PyData × En)
  | [], env => some ([], env)
  | d :: ds, env => (g d env).bind fun e1 => (t e1).bind fun p => if p.1 then (e p.2).bind fun q => (compL g t e vs ds (wipeE q.2 vs)).map fun r => (q.1 :: r.1, r.2) else compL g t e vs ds (wipeE p.2 vs)
def tYs : Ft := fun env => some (true, env)
def lCm (it : Fi) (g : Tg) (t : Ft) (e : Fe) (vs : List Nat) : Fl := fun env => (it env).bind fun p => if okN p.1.length && noOwn p.2 vs then (compL g t e vs p.1 (wipeE p.2 vs)).map fun r => (r.1, restE p.2 r.2 vs) else none
def Gt' (K : Frag) (t : Ft) : TT := Gt K t
section
variable {X : Cx} {xc : XC} {pos : Pos}
theorem dts_nil : PTs X [] (Gt X.K tYs) := PTs.imp pts_nil fun σ H Q ⟨c, F, env, b, env', R, e, k⟩ => by
  cases e
  exact k F H (Same.refl F) R
theorem dts_one {c : Expr} {t : Ft} (h : PT X c (Gt X.K t)) : PTs X [c] (Gt X.K t) := pts_one h
def delA (H : Hp) (p : Addr) : Hp := fun b => if b = p then none else H b
theorem delA_same {H : Hp} {p : Addr} : delA H p p = none := if_pos rfl
theorem delA_ne {H : Hp} {p b : Addr} (h : b ≠ p) : delA H p b = H b := if_neg h
theorem upd_delA {H : Hp} {p : Addr} {o : HO} (h : H p = some o) : upd (delA H p) p o = H := by
  funext b
  by_cases hb : b = p
  · subst hb; rw [upd_same, h]
  · rw [upd_ne hb, delA_ne hb]
theorem Rl.rewatch {K : Frag} {c : C3} {F H : Hp} {σ : L2.St} {env : En} {p : Addr} {o o' : HO} (R : Rl K (wat c p o) F σ H env) (hF0 : c.F0 p = none) : Rl K (wat c p o') F σ (upd H p o') env := by
  have hF : F p = none := by
    cases e : F p with
    | none => rfl
    | some u =>
      rcases R.new p (by rw [e]; simp) with z | z
      · exact absurd hF0 z
      · have z' : upd c.H0 p o p = none := z
        rw [upd_same] at z'; cases z'
  have w : ∀ {b : Addr} {f : Hp}, b ≠ p → upd f p o b = upd f p o' b := fun hb => by rw [upd_ne hb, upd_ne hb]
  refine ⟨fun b u e => ?_, R.f0, fun b u e => ?_, fun b u e => ?_, fun b hb => ?_, fun b hb => ?_, R.len, R.val, fun i q ds h => ?_⟩
  · rw [upd_ne (ne_of_none e hF)]; exact R.sub b u e
  · by_cases hbp : b = p
    · subst hbp
      have e' : upd c.G b o' b = some u := e
      rw [upd_same] at e' ⊢; exact e'
    · rw [upd_ne hbp]
      refine R.gd b u ?_
      show upd c.G p o b = some u
      rw [w hbp]; exact e
  · by_cases hbp : b = p
    · subst hbp
      have e' : upd c.G b o' b = some u := e
      show upd c.H0 b o' b = some u
      rw [upd_same] at e' ⊢; exact e'
    · have := R.g0 b u (by show upd c.G p o b = some u; rw [w hbp]; exact e)
      show upd c.H0 p o' b = some u
      rw [← w hbp]; exact this
  · have hbp : b ≠ p := fun z => by subst z; exact hb hF
    rcases R.new b hb with z | z
    · exact .inl z
    · refine .inr ?_
      show upd c.H0 p o' b = none
      rw [← w hbp]; exact z
  · by_cases hbp : b = p
    · subst hbp; rw [upd_same]; simp
    · rw [upd_ne hbp]
      refine R.dom b ?_
      show upd c.H0 p o b ≠ none
      rw [w hbp]; exact hb
  · obtain ⟨a, xs, e1, e2, e3, e4, e5, e6, e7⟩ := R.own i q ds h
    have ne : a ≠ p := fun z => by
      subst z
      have z' : upd c.G a o a = none := e5
      rw [upd_same] at z'; cases z'
    refine ⟨a, xs, e1, e2, by rw [upd_ne ne]; exact e3, e4, ?_, ?_, e7⟩
    · show upd c.G p o' a = none
      rw [← w ne]; exact e5
    · cases q with
      | true => exact e6
      | false =>
        show upd c.H0 p o' a = none
        rw [← w ne]; exact e6
theorem Rl.unw {K : Frag} {c : C3} {F H : Hp} {σ : L2.St} {env : En} {p : Addr} {o : HO} (R : Rl K (wat c p o) F σ H env) (hG : c.G p = none) (hF0 : c.F0 p = none) (hH0 : c.H0 p = none) : Rl K c F σ (delA H p) env := by
  obtain ⟨hF, R'⟩ := R.unwatch (o' := o) hG hF0 hH0
  refine ⟨fun b u e => ?_, R'.f0, fun b u e => ?_, R'.g0, R'.new, fun b hb => ?_, R'.len, R'.val, fun i q ds h => ?_⟩
  · have ne := ne_of_none e hF
    have := R'.sub b u e
    rw [upd_ne ne] at this
    rw [delA_ne ne]; exact this
  · have ne := ne_of_none e hG
    have := R'.gd b u e
    rw [upd_ne ne] at this
    rw [delA_ne ne]; exact this
  · have ne : b ≠ p := fun z => by subst z; exact hb hH0
    have := R'.dom b hb
    rw [upd_ne ne] at this
    rw [delA_ne ne]; exact this
  · obtain ⟨a, xs, e1, e2, e3, e4, e5, e6, e7⟩ := R.own i q ds h
    have ne : a ≠ p := fun z => by
      subst z
      have z' : upd c.G a o a = none := e5
      rw [upd_same] at z'; cases z'
    obtain ⟨a', xs', f1, f2, f3, f4, f5, f6, f7⟩ := R'.own i q ds h
    rw [e1] at f1
    cases f1
    exact ⟨a, xs, e1, e2, by rw [delA_ne ne]; exact e3, e4, f5, f6, e7⟩
theorem read_comp {K : Frag} {fi : Fi} {g : Tg} {S : List Nat} {t : Ft} {fe : Fe} {vs : List Nat} (hS : ∀ i ∈ S, i ∈ vs) {σ : L2.St} {H : Hp} {Q : VK} (h : Gf K (lCm fi g t fe vs) σ H Q) : tLc (tI K fi) (tG K g S) (Gt K t) (Ge K fe) vs σ H Q := by
  obtain ⟨c, F, env, ds, env', R, e, k⟩ := h
  unfold lCm at e
  simp only [Option.bind_eq_some_iff] at e
  obtain ⟨⟨ds0, n1⟩, h1, h2⟩ := e
  dsimp only at h2
  split at h2
  · rename_i hz
    rw [Bool.and_eq_true] at hz
    simp only [Option.map_eq_some_iff] at h2
    obtain ⟨⟨res, en'⟩, h3, h4⟩ := h2
    obtain ⟨rfl, rfl⟩ := Prod.mk.inj h4
    refine ⟨c, F, env, ds0, n1, R, h1, fun J F1 H1 s1 R1 w D hD => ?_⟩
    have zz : ds0.length < sizeLine := okN_lt hz.1
    have hG : c.G D = none := R1.gn hD
    have hH0 : c.H0 D = none := R1.h0 hD
    have hF0 : c.F0 D = none := (R1.f0.trans R1.sub).free hD
    refine ⟨fun i m H => ∃ F' en xs acc rest, Same F1 F' ∧ Rl K (wat c D (.lst xs)) F' (wipe σ vs) H en ∧ DpAll K F' xs acc ∧ acc.length ≤ i ∧ i ≤ ds0.length ∧ m = ds0.length - i ∧
        compL g t fe vs (ds0.drop i) en = some (rest, en') ∧ acc ++ rest = res, ⟨ds0.length, F1, wipeE n1 vs, [], [], res, Same.refl F1, (R1.watch' hD).wipe' vs, .nil, Nat.le_refl _, Nat.zero_le _, by omega, by simpa using h3, rfl⟩, ?_⟩
    rintro i m H2 ⟨F2, en, xs, acc, rest, s2, R2, hx, hai, hi, rfl, hl, hres⟩
    by_cases hlt : i < ds0.length
    · obtain ⟨d, hd⟩ := len_get hlt
      rw [get_drop hd] at hl
      unfold compL at hl
      simp only [Option.bind_eq_some_iff] at hl
      obtain ⟨e1, h5, ⟨b6, p6⟩, h6, h7⟩ := hl
      refine .inr ⟨w.go i H2 (s2.trans R2.sub) hlt, _, fun H' hN => ⟨ds0.length - (i + 1), by omega, hN⟩, fun x H' y => ?_⟩
      obtain ⟨F3, s3, R3, hx3⟩ := R2.yield ((w.up s2).yld i H2 x H' d R2.sub hd y)
      refine ⟨_, F3, en, d, e1, R3, hx3, h5, fun σ4 R4 w4 => ⟨?_, _, F3, e1, b6, p6, R4, h6, fun F5 H5 s5 R5 => ?_⟩⟩
      · rw [w4 vs hS, wipe_wipe fun _ h => h]
      have w4' : wipe σ4 vs = wipe σ vs := by rw [w4 vs hS, wipe_wipe fun _ h => h]
      have s25 := (s2.trans s3).trans s5
      cases b6 with
      | true =>
        rw [if_pos rfl] at h7
        simp only [Option.bind_eq_some_iff, Option.map_eq_some_iff] at h7
        obtain ⟨⟨d8, n8⟩, h8, ⟨r9, n9⟩, h9, h10⟩ := h7
        obtain ⟨rfl, rfl⟩ := Prod.mk.inj h10
        refine iteT ⟨_, F5, p6, d8, n8, R5, h8, fun v F6 H6 s6 R6 hv => ⟨xs, R6.watched, ?_, ?_⟩⟩
        · rw [hx.len]; omega
        · have R7 := (R6.rewatch (o' := .lst (xs ++ [v])) hF0).wipe' vs
          rw [w4'] at R7
          exact ⟨F6, _, xs ++ [v], acc ++ [d8], r9, s25.trans s6, R7, (hx.up ((s3.trans s5).trans s6)).app (.cons hv .nil), by simp; omega, hlt, rfl, h9, by rw [← hres]; simp⟩
      | false =>
        rw [if_neg Bool.false_ne_true] at h7
        refine iteF ?_
        have R7 := R5.wipe' vs
        rw [w4'] at R7
        exact ⟨F5, _, xs, acc, rest, s25, R7, hx.up (s3.trans s5), by omega, hlt, rfl, h7, hres⟩
    · have ei : ds0.drop i = [] := List.drop_eq_nil_of_le (by omega)
      rw [ei] at hl
      cases hl
      refine .inl ⟨w.stop i H2 (s2.trans R2.sub) (by omega), ?_⟩
      rw [List.append_nil] at hres
      subst hres
      have R3 := R2.unw hG hF0 hH0
      have R4 := R1.rest hz.2 s2 R3
      have := k D xs F2 (delA H2 D) (s1.trans s2) delA_same R4 hx
      rw [upd_delA R2.watched] at this
      exact this
  · cases h2
theorem df_comp {elt tg iter : Expr} {ifs : List Expr} {scope : Scope} {own : List (Str × Nat)} {fi : Fi} {g : Tg} {S : List Nat} {t : Ft} {fe : Fe} (hc : X.calm = true) (hN : X.N.Nodup) (hi : PI X tg iter (tI X.K fi)) (ok : BlkOk X.N X.env.scope scope own)
    (hg : ∀ (s : Shared) (H : Hp) (C : Addr) (cl : List (Str × Addr)) (fp : List Addr), PG (X.blk s H scope (compEnvC scope cl C X.env) fp) tg (tG X.K g S)) (ht : ∀ (s : Shared) (H : Hp) (C : Addr) (cl : List (Str × Addr)) (fp : List Addr), PTs (X.blk s H scope (compEnvC scope cl C X.env) fp) ifs (Gt X.K t))
    (he : ∀ (s : Shared) (H : Hp) (C : Addr) (cl : List (Str × Addr)) (fp : List Addr), PE (X.blk s H scope (compEnvC scope cl C X.env) fp) elt (Ge X.K fe)) (hS : ∀ i ∈ S, i ∈ own.map (·.2) := by decide) (hs : ∀ x, foldedSetIterable iter X.env x = pure x := by intro _; rfl) :
    PE X (.ListComp elt [⟨tg, iter, ifs, 0⟩] scope pos) (Gf X.K (lCm fi g t fe (own.map (·.2)))) := PE.imp (pe_lc hc hN hi ok hg ht he hs) fun _ _ _ => read_comp hS
/-- y = [..] on one line, y a local name: data, or owned -/
theorem ds_setComp (i : Nat) {y : Str} {py : Pos} {elt tg iter : Expr} {ifs : List Expr} {scope : Scope} {own : List (Str × Nat)} {spos : Pos} {fi : Fi} {g : Tg} {S : List Nat} {t : Ft} {fe : Fe} (hc : X.calm = true) (hN : X.N.Nodup)
    (hsw : swapsWith (.ListComp elt [⟨tg, iter, ifs, 0⟩] scope pos) (some (.Name y py)) spos.line X.env = pure true) (hi : PI X tg iter (tI X.K fi)) (ok : BlkOk X.N X.env.scope scope own)
    (hg : ∀ (s : Shared) (H : Hp) (C : Addr) (cl : List (Str × Addr)) (fp : List Addr), PG (X.blk s H scope (compEnvC scope cl C X.env) fp) tg (tG X.K g S)) (ht : ∀ (s : Shared) (H : Hp) (C : Addr) (cl : List (Str × Addr)) (fp : List Addr), PTs (X.blk s H scope (compEnvC scope cl C X.env) fp) ifs (Gt X.K t))
    (he : ∀ (s : Shared) (H : Hp) (C : Addr) (cl : List (Str × Addr)) (fp : List Addr), PE (X.blk s H scope (compEnvC scope cl C X.env) fp) elt (Ge X.K fe)) (hS : ∀ i ∈ S, i ∈ own.map (·.2) := by decide) (hy : X.N[i]? = some y := by rfl) (hyl : X.env.scope.names.lookup y = some .local := by rfl) (hs : ∀ x, foldedSetIterable iter X.env x = pure x := by intro _; rfl) :
    PS X (.Assign [.Name y py] (.ListComp elt [⟨tg, iter, ifs, 0⟩] scope pos) spos) (Gs X.K xc (sSet (eF (lCm fi g t fe (own.map (·.2)))) (g1 i))) :=
  PS.imp (ps_setLc hc hN hy hyl hsw hi ok hg ht he hs) fun D σ H ⟨c, F, env, fl, env', R, e, k⟩ => by
  simp only [sSet, eF, g1, Option.bind_eq_some_iff, Option.map_eq_some_iff, Option.map_some, Option.some.injEq] at e
  obtain ⟨⟨d1, n1⟩, ⟨⟨ds, n2⟩, h1, h2⟩, h3⟩ := e
  obtain ⟨rfl, rfl⟩ := Prod.mk.inj h2
  obtain ⟨rfl, rfl⟩ := Prod.mk.inj h3
  refine read_comp hS ⟨c, F, env, ds, n2, R, h1, fun p xs F' H' s hp R' hx => ?_⟩
  obtain ⟨sF, R2⟩ := R'.laid (o := .lst xs) hp
  exact k _ _ _ (s.trans sF) (R2.put (.lst (SqL.of upd_same) (hx.up sF)) i)
theorem ds_ownComp (i : Nat) {y : Str} {py : Pos} {elt tg iter : Expr} {ifs : List Expr} {scope : Scope} {own : List (Str × Nat)} {spos : Pos} {fi : Fi} {g : Tg} {S : List Nat} {t : Ft} {fe : Fe} (hc : X.calm = true) (hN : X.N.Nodup)
    (hsw : swapsWith (.ListComp elt [⟨tg, iter, ifs, 0⟩] scope pos) (some (.Name y py)) spos.line X.env = pure true) (hi : PI X tg iter (tI X.K fi)) (ok : BlkOk X.N X.env.scope scope own)
    (hg : ∀ (s : Shared) (H : Hp) (C : Addr) (cl : List (Str × Addr)) (fp : List Addr), PG (X.blk s H scope (compEnvC scope cl C X.env) fp) tg (tG X.K g S)) (ht : ∀ (s : Shared) (H : Hp) (C : Addr) (cl : List (Str × Addr)) (fp : List Addr), PTs (X.blk s H scope (compEnvC scope cl C X.env) fp) ifs (Gt X.K t))
    (he : ∀ (s : Shared) (H : Hp) (C : Addr) (cl : List (Str × Addr)) (fp : List Addr), PE (X.blk s H scope (compEnvC scope cl C X.env) fp) elt (Ge X.K fe)) (hS : ∀ i ∈ S, i ∈ own.map (·.2) := by decide) (hy : X.N[i]? = some y := by rfl) (hyl : X.env.scope.names.lookup y = some .local := by rfl) (hs : ∀ x, foldedSetIterable iter X.env x = pure x := by intro _; rfl) :
    PS X (.Assign [.Name y py] (.ListComp elt [⟨tg, iter, ifs, 0⟩] scope pos) spos) (Gs X.K xc (sOwn (lCm fi g t fe (own.map (·.2))) i)) :=
  PS.imp (ps_setLc hc hN hy hyl hsw hi ok hg ht he hs) fun D σ H ⟨c, F, env, fl, env', R, e, k⟩ => by
  simp only [sOwn, Option.map_eq_some_iff] at e
  obtain ⟨⟨ds, n2⟩, h1, h3⟩ := e
  obtain ⟨rfl, rfl⟩ := Prod.mk.inj h3
  exact read_comp hS ⟨c, F, env, ds, n2, R, h1, fun p xs F' H' s hp R' hx => k _ F' _ s (R'.putOwn hp hx i)⟩
end

/-! ### defs -/
/-- a def of plain data: what it computes -/
def spP (K : Frag) (n : Nat) (f : List PyData → Option PyData) : Sp := fun vs H Q _ => ∃ (F : Hp) (ds : List PyData) (d : PyData), vs.length = n ∧ Same F H ∧ DpAll K F vs ds ∧ f ds = some d ∧
  ∀ v F' H', Same F F' → Same F' H' → Same H H' → (∀ b, F' b ≠ none → F b ≠ none ∨ H b = none) → Dp K F' v d → Q v H'
/-- a def whose first parameter is a list that it changes -/
def spM (K : Frag) (n : Nat) (f : List PyData → List PyData → Option (PyData × List PyData)) : Sp := fun vs H Q _ => ∃ (F : Hp) (a : Addr) (ws xs : List V) (ks ds ks' : List PyData) (d : PyData), vs = .ref a :: ws ∧ vs.length = n ∧ Same F H ∧ F a = none ∧ H a = some (.lst xs) ∧ DpAll K F xs ks ∧ DpAll K F ws ds ∧ f ks ds = some (d, ks') ∧
  ∀ v F' H' xs', Same F F' → Same F' H' → (∀ b o, b ≠ a → H b = some o → H' b = some o) → (∀ b, F' b ≠ none → F b ≠ none ∨ H b = none) → H' a = some (.lst xs') → DpAll K F' xs' ks' → Dp K F' v d → Q v H'
/-- a def that hands back a new list -/
def spL (K : Frag) (n : Nat) (f : List PyData → Option (List PyData)) : Sp := fun vs H Q _ => ∃ (F : Hp) (ds es : List PyData), vs.length = n ∧ Same F H ∧ DpAll K F vs ds ∧ f ds = some es ∧
  ∀ p xs F' H', Same F F' → Same F' H' → Same H H' → (∀ b, F' b ≠ none → F b ≠ none ∨ H b = none) → H' p = none → DpAll K F' xs es → Q (.ref p) (upd H' p (.lst xs))
def en0 (N : Nat) (ds : List PyData) : En := ds.map .val ++ List.replicate (N - ds.length) .no
def endP : Option (Flw × En) → Option PyData
  | some (.rt d, _) => some d
  | some (.rl ds, _) => some (.list ds)
  | some (.nx, _) => some .none
  | _ => none
def runP (b : Fs) (N n : Nat) : List PyData → Option PyData := fun ds => if ds.length = n then endP (b (en0 N ds)) else none
def endL : Option (Flw × En) → Option (List PyData)
  | some (.rl ds, _) => some ds
  | _ => none
def runL (b : Fs) (N n : Nat) : List PyData → Option (List PyData) := fun ds => if ds.length = n then endL (b (en0 N ds)) else none
def endM : Option (Flw × En) → Option (PyData × List PyData)
  | some (.rt d, .own true ks :: _) => some (d, ks)
  | some (.rl d, .own true ks :: _) => some (.list d, ks)
  | some (.nx, .own true ks :: _) => some (.none, ks)
  | _ => none
def runM (b : Fs) (N n : Nat) : List PyData → List PyData → Option (PyData × List PyData) := fun ks ds => if ds.length + 1 = n then endM (b (.own true ks :: en0 (N - 1) ds)) else none
theorem en0_val {N : Nat} {ds : List PyData} {i : Nat} {d : PyData} (h : (en0 N ds)[i]? = some (.val d)) : ds[i]? = some d := by
  unfold en0 at h
  by_cases hi : i < ds.length
  · rw [List.getElem?_append_left (by simpa using hi), List.getElem?_map] at h
    cases e : ds[i]? with
    | none => rw [e] at h; cases h
    | some x => rw [e] at h; cases h; rfl
  · rw [List.getElem?_append_right (by simpa using hi), List.getElem?_replicate] at h
    split at h <;> cases h
theorem en0_own {N : Nat} {ds es : List PyData} {i : Nat} {p : Bool} (h : (en0 N ds)[i]? = some (.own p es)) : False := by
  unfold en0 at h
  by_cases hi : i < ds.length
  · rw [List.getElem?_append_left (by simpa using hi), List.getElem?_map] at h
    cases e : ds[i]? with
    | none => rw [e] at h; cases h
    | some x => rw [e] at h; cases h
  · rw [List.getElem?_append_right (by simpa using hi), List.getElem?_replicate] at h
    split at h <;> cases h
theorem start_get {N : List Str} {vs : List V} {i : Nat} {v : V} (h : vs[i]? = some v) : (L2.start N vs)[i]? = some (some v) := by
  unfold L2.start
  have hi := (List.getElem?_eq_some_iff.mp h).1
  rw [List.getElem?_append_left (by simpa using hi), List.getElem?_map, h]
  rfl
section
variable {P : Program} {w : World} {K : Frag} {mg : Str → Option Value} {base : Heap} {x qual : Str} {st : Stmt} {f : Addr} {fd : FuncData} {N ps : List Str} {k n : Nat} {fb : Fs}
theorem start_len (hn : vs.length ≤ N.length) : (L2.start N vs).length = N.length := by
  unfold L2.start
  rw [List.length_append, List.length_map, List.length_replicate]
  omega
theorem okP {ca : Str → Addr} (Fn : L2.Fun K x qual st f fd) (S : FnScope N ps (defScope st)) (hn : ps.length = n)
    (hb : ∀ (cdv : Value) (A : Around) (outer : List Env) (s : Shared) (H : Hp) (E : XK), Room k (A.deeper (envOfC qual (defScope st) s.heap.objs.size f cdv)) → PSs (cxOf CX0 P w K mg base N qual (defScope st) f cdv A outer s H E).nox (defBody st) (Gs K (xc0 ca) fb)) :
    FnOk P w K mg base CX0 (k + 1) f fd ps (spP K n (runP fb N.length n)) := by
  refine Fn.ok S (fun vs H Q E h => ?_) (fun cdv A outer s H vs Q E hr h => ⟨Gs K (xc0 ca) fb, hb cdv A outer s H E hr, ?_⟩)
  · obtain ⟨F, ds, d, h1, _⟩ := h
    rw [h1, hn]
  · obtain ⟨F, ds, d, h1, h2, h3, h4, h5⟩ := h
    have hl := h3.len
    have hN : ps.length ≤ N.length := by
      have := congrArg List.length S.pre
      rw [List.length_take] at this
      omega
    unfold runP at h4
    rw [if_pos (by omega)] at h4
    cases e : fb (en0 N.length ds) with
    | none => rw [e] at h4; cases h4
    | some r =>
      obtain ⟨fl, env'⟩ := r
      rw [e] at h4
      have R : Rl K ⟨H, F, H, vs⟩ F (L2.start N vs) H (en0 N.length ds) := by
        refine ⟨h2, Same.refl F, Same.refl H, Same.refl H, fun a h => .inl h, fun a h => h, ?_, fun i d h => ?_, fun i p es h => (en0_own h).elim⟩
        · rw [start_len (by omega)]
          unfold en0
          rw [List.length_append, List.length_map, List.length_replicate]
          omega
        · obtain ⟨v, e1, e2⟩ := h3.at (en0_val h)
          exact ⟨v, start_get e1, e2⟩
      refine ⟨⟨H, F, H, vs⟩, F, en0 N.length ds, fl, env', R, e, ?_⟩
      have fin : ∀ {σ' : L2.St} {F' H' : Hp}, Rl K ⟨H, F, H, vs⟩ F' σ' H' env' → Same F F' ∧ Same F' H' ∧ Same H H' ∧ ∀ b, F' b ≠ none → F b ≠ none ∨ H b = none := fun R' => ⟨R'.f0, R'.sub, R'.gd, R'.new⟩
      cases fl with
      | nx =>
        cases h4
        intro σ' F' H' s' R'
        obtain ⟨a1, a2, a3, a4⟩ := fin R'
        exact h5 .non F' H' a1 a2 a3 a4 .non
      | rt d' =>
        cases h4
        intro σ' F' H' v s' R' hv
        obtain ⟨a1, a2, a3, a4⟩ := fin R'
        exact h5 v F' H' a1 a2 a3 a4 hv
      | rl es =>
        cases h4
        intro σ' F' H' p xs s' hp R' hx
        obtain ⟨sF, R2⟩ := R'.laid (o := .lst xs) hp
        obtain ⟨a1, a2, a3, a4⟩ := fin R2
        exact h5 (.ref p) _ _ a1 a2 a3 a4 (.lst (SqL.of upd_same) (hx.up sF))
      | bk => cases h4
      | ct => cases h4
      | ex => cases h4
theorem okM {ca : Str → Addr} (Fn : L2.Fun K x qual st f fd) (S : FnScope N ps (defScope st)) (hn : ps.length = n)
    (hb : ∀ (cdv : Value) (A : Around) (outer : List Env) (s : Shared) (H : Hp) (E : XK), Room k (A.deeper (envOfC qual (defScope st) s.heap.objs.size f cdv)) → PSs (cxOf CX0 P w K mg base N qual (defScope st) f cdv A outer s H E).nox (defBody st) (Gs K (xc0 ca) fb)) :
    FnOk P w K mg base CX0 (k + 1) f fd ps (spM K n (runM fb N.length n)) := by
  refine Fn.ok S (fun vs H Q E h => ?_) (fun cdv A outer s H vs Q E hr h => ⟨Gs K (xc0 ca) fb, hb cdv A outer s H E hr, ?_⟩)
  · obtain ⟨F, a, ws, xs, ks, ds, ks', d, h0, h1, _⟩ := h
    rw [h1, hn]
  · obtain ⟨F, a, ws, xs, ks, ds, ks', d, rfl, h1, h2, hFa, hHa, hxs, hws, h4, h5⟩ := h
    have hl := hws.len
    have h1' : ws.length + 1 = n := h1
    have hN : ps.length ≤ N.length := by
      have := congrArg List.length S.pre
      rw [List.length_take] at this
      omega
    unfold runM at h4
    rw [if_pos (by omega)] at h4
    cases e : fb (.own true ks :: en0 (N.length - 1) ds) with
    | none => rw [e] at h4; cases h4
    | some r =>
      obtain ⟨fl, env'⟩ := r
      rw [e] at h4
      have keepD : Same (delA H a) H := fun b o e => by
        by_cases hb : b = a
        · subst hb; rw [delA_same] at e; cases e
        · rw [delA_ne hb] at e; exact e
      have R : Rl K ⟨H, F, delA H a, .ref a :: ws⟩ F (L2.start N (.ref a :: ws)) H (.own true ks :: en0 (N.length - 1) ds) := by
        refine ⟨h2, Same.refl F, keepD, keepD, fun a h => .inl h, fun a h => h, ?_, fun i d h => ?_, fun i p es h => ?_⟩
        · rw [start_len (by rw [h1]; omega)]
          unfold en0
          rw [List.length_cons, List.length_append, List.length_map, List.length_replicate]
          omega
        · cases i with
          | zero => cases h
          | succ i =>
            rw [List.getElem?_cons_succ] at h
            obtain ⟨v, e1, e2⟩ := hws.at (en0_val h)
            exact ⟨v, start_get (by rw [List.getElem?_cons_succ]; exact e1), e2⟩
        · cases i with
          | zero =>
            cases h
            refine ⟨a, xs, start_get rfl, hFa, hHa, hxs, delA_same, ?_, fun j q es hj hq => ?_⟩
            · show (V.ref a :: ws)[0]? = some (.ref a)
              rfl
            · cases j with
              | zero => exact absurd rfl hj
              | succ j =>
                rw [List.getElem?_cons_succ] at hq
                exact (en0_own hq).elim
          | succ i =>
            rw [List.getElem?_cons_succ] at h
            exact (en0_own h).elim
      refine ⟨⟨H, F, delA H a, .ref a :: ws⟩, F, _, fl, env', R, e, ?_⟩
      have fin : ∀ {σ' : L2.St} {F' H' : Hp} {ks' : List PyData} {tl : En}, Rl K ⟨H, F, delA H a, .ref a :: ws⟩ F' σ' H' (.own true ks' :: tl) → Same F F' ∧ Same F' H' ∧ (∀ b o, b ≠ a → H b = some o → H' b = some o) ∧ (∀ b, F' b ≠ none → F b ≠ none ∨ H b = none) ∧ ∃ xs', H' a = some (.lst xs') ∧ DpAll K F' xs' ks' := fun R' => by
        refine ⟨R'.f0, R'.sub, fun b o hb e => R'.gd b o (by show delA H a b = some o; rw [delA_ne hb]; exact e), R'.new, ?_⟩
        obtain ⟨a', xs', e1, e2, e3, e4, e5, e6, e7⟩ := R'.own 0 true _ rfl
        have e6' : (V.ref a :: ws)[0]? = some (.ref a') := e6
        cases e6'
        exact ⟨xs', e3, e4⟩
      cases fl with
      | nx =>
        cases env' with
        | nil => cases h4
        | cons s0 tl =>
          cases s0 with
          | own b ks2 =>
            cases b with
            | true =>
              cases h4
              intro σ' F' H' s' R'
              obtain ⟨a1, a2, a3, a4, xs', a5, a6⟩ := fin R'
              exact h5 .non F' H' xs' a1 a2 a3 a4 a5 a6 .non
            | false => cases h4
          | no => cases h4
          | val _ => cases h4
      | rt d' =>
        cases env' with
        | nil => cases h4
        | cons s0 tl =>
          cases s0 with
          | own b ks2 =>
            cases b with
            | true =>
              cases h4
              intro σ' F' H' v s' R' hv
              obtain ⟨a1, a2, a3, a4, xs', a5, a6⟩ := fin R'
              exact h5 v F' H' xs' a1 a2 a3 a4 a5 a6 hv
            | false => cases h4
          | no => cases h4
          | val _ => cases h4
      | rl es =>
        cases env' with
        | nil => cases h4
        | cons s0 tl =>
          cases s0 with
          | own b ks2 =>
            cases b with
            | true =>
              cases h4
              intro σ' F' H' p xs s' hp R' hx
              obtain ⟨sF, R2⟩ := R'.laid (o := .lst xs) hp
              obtain ⟨a1, a2, a3, a4, xs', a5, a6⟩ := fin R2
              exact h5 (.ref p) _ _ xs' a1 a2 a3 a4 a5 a6 (.lst (SqL.of upd_same) (hx.up sF))
            | false => cases h4
          | no => cases h4
          | val _ => cases h4
      | bk => cases h4
      | ct => cases h4
      | ex => cases h4
theorem okL {ca : Str → Addr} (Fn : L2.Fun K x qual st f fd) (S : FnScope N ps (defScope st)) (hn : ps.length = n)
    (hb : ∀ (cdv : Value) (A : Around) (outer : List Env) (s : Shared) (H : Hp) (E : XK), Room k (A.deeper (envOfC qual (defScope st) s.heap.objs.size f cdv)) → PSs (cxOf CX0 P w K mg base N qual (defScope st) f cdv A outer s H E).nox (defBody st) (Gs K (xc0 ca) fb)) :
    FnOk P w K mg base CX0 (k + 1) f fd ps (spL K n (runL fb N.length n)) := by
  refine Fn.ok S (fun vs H Q E h => ?_) (fun cdv A outer s H vs Q E hr h => ⟨Gs K (xc0 ca) fb, hb cdv A outer s H E hr, ?_⟩)
  · obtain ⟨F, ds, d, h1, _⟩ := h
    rw [h1, hn]
  · obtain ⟨F, ds, d, h1, h2, h3, h4, h5⟩ := h
    have hl := h3.len
    have hN : ps.length ≤ N.length := by
      have := congrArg List.length S.pre
      rw [List.length_take] at this
      omega
    unfold runL at h4
    rw [if_pos (by omega)] at h4
    cases e : fb (en0 N.length ds) with
    | none => rw [e] at h4; cases h4
    | some r =>
      obtain ⟨fl, env'⟩ := r
      rw [e] at h4
      have R : Rl K ⟨H, F, H, vs⟩ F (L2.start N vs) H (en0 N.length ds) := by
        refine ⟨h2, Same.refl F, Same.refl H, Same.refl H, fun a h => .inl h, fun a h => h, ?_, fun i d h => ?_, fun i p es h => (en0_own h).elim⟩
        · rw [start_len (by omega)]
          unfold en0
          rw [List.length_append, List.length_map, List.length_replicate]
          omega
        · obtain ⟨v, e1, e2⟩ := h3.at (en0_val h)
          exact ⟨v, start_get e1, e2⟩
      refine ⟨⟨H, F, H, vs⟩, F, en0 N.length ds, fl, env', R, e, ?_⟩
      have fin : ∀ {σ' : L2.St} {F' H' : Hp}, Rl K ⟨H, F, H, vs⟩ F' σ' H' env' → Same F F' ∧ Same F' H' ∧ Same H H' ∧ ∀ b, F' b ≠ none → F b ≠ none ∨ H b = none := fun R' => ⟨R'.f0, R'.sub, R'.gd, R'.new⟩
      cases fl with
      | rl es =>
        cases h4
        intro σ' F' H' p xs s' hp R' hx
        obtain ⟨a1, a2, a3, a4⟩ := fin R'
        exact h5 p xs F' H' a1 a2 a3 a4 hp hx
      | nx => cases h4
      | rt d' => cases h4
      | bk => cases h4
      | ct => cases h4
      | ex => cases h4
theorem okNone {f : Addr} {fd : FuncData} {ps : List Str} {k : Nat} {sp : Sp} (hl : ∀ vs H Q E, sp vs H Q E → vs.length = ps.length) (h : ∀ vs H Q E, sp vs H Q E → False) : FnOk P w K mg base CX0 k f fd ps sp :=
  ⟨hl, fun A outer s H args us vs Q E _ _ _ _ hs => (h vs H Q E hs).elim⟩
theorem hu64 {A : Around} (hr : Room k A) : A.units + 64 < cLine := by
  have := hr.un
  omega
end
/-! ### calls of defs -/
def eM (i : Nat) (g : List PyData → List PyData → Option (PyData × List PyData)) (fl : Fl) : Fe := fun env => if isOwn env i then (fl env).bind fun p => match p.2[i]? with
  | some (.own b ks) => (g ks p.1).map fun q => (q.1, p.2.set i (.own b q.2))
  | _ => none else none
section
variable {X : Cx} {xc : XC} {k n : Nat} {f : Addr} {fd : FuncData} {ps : List Str} {x : Str} {p pos : Pos} {e : Expr} {es : List Expr} {fl : Fl} {g : List PyData → Option PyData} {gM : List PyData → List PyData → Option (PyData × List PyData)}
theorem runP_len {b : Fs} {N n : Nat} (ds : List PyData) (z : PyData) (h : runP b N n ds = some z) : ds.length = n := by
  unfold runP at h
  split at h
  · assumption
  · cases h
theorem runM_len {b : Fs} {N n : Nat} (ks ds : List PyData) (z : PyData × List PyData) (h : runM b N n ks ds = some z) : ds.length + 1 = n := by
  unfold runM at h
  split at h
  · assumption
  · cases h
theorem oA_call {K : Frag} {E : XK} (hl : ∀ ds z, g ds = some z → ds.length = n) : OpA K (fun vs H Q => spP K n g (vs ++ []) H Q E) g := by
  intro c F σ H env xs ds z Q R hx h k
  show spP K n g (xs ++ []) H Q E
  rw [List.append_nil]
  exact ⟨F, ds, z, by rw [hx.len]; exact hl ds z h, R.sub, hx, h, fun v F' H' a1 a2 a3 a4 hv => k v F' H' a1 (R.after a1 a2 a3 a4) hv⟩
theorem de_call (Fk : FnOk X.prog X.w X.K X.mg X.base CX0 k f fd ps (spP X.K n g)) (hl : ∀ ds z, g ds = some z → ds.length = n) (hr : Room k X.A) (hg : Gl X x) (hm : X.mg x = some (.ref f)) (hk : PySem.W.keepIn X.K (.ref f) = true) (hb : Binds X.K fd ps []) (ha : PA X (e :: es) (Ga X.K fl))
    (hdb : (x == ("__debug__" : Str)) = false := by decide) (he : starEach (e :: es) X.env = (false, eval e X.env) :: starEach es X.env := by rfl) (hpl : (backTo pos (starEach es X.env)).any (·.1) = false := by rfl) :
    PE X (.Call (.Name x p) (e :: es) [] pos) (Ge X.K (eA g fl)) := PE.imp (pe_call Fk hr hg hm hk hb .nil pass0 ha hdb he hpl) fun _ _ _ h => goA (oA_call hl) h
theorem de_callM (i : Nat) {y : Str} {p2 : Pos} (Fk : FnOk X.prog X.w X.K X.mg X.base CX0 k f fd ps (spM X.K n gM)) (hl : ∀ ks ds z, gM ks ds = some z → ds.length + 1 = n) (hr : Room k X.A) (hg : Gl X x) (hm : X.mg x = some (.ref f)) (hk : PySem.W.keepIn X.K (.ref f) = true) (hb : Binds X.K fd ps []) (ha : PA X es (Ga X.K fl))
    (hN : X.N[i]? = some y := by rfl) (hv : Vis X.env.scope y := by first | exact Or.inl rfl | exact Or.inr (Or.inl rfl) | exact Or.inr (Or.inr rfl)) (hd : (y == ("__debug__" : Str)) = false := by decide) (hcd : (y == ("__classdict__" : Str)) = false := by decide)
    (hdb : (x == ("__debug__" : Str)) = false := by decide) (he : starEach (.Name y p2 :: es) X.env = (false, eval (.Name y p2) X.env) :: starEach es X.env := by rfl) (hpl : (backTo pos (starEach es X.env)).any (·.1) = false := by rfl) :
    PE X (.Call (.Name x p) (.Name y p2 :: es) [] pos) (Ge X.K (eM i gM fl)) := PE.imp (pe_call Fk hr hg hm hk hb .nil pass0 (pa_cons (pe_var hN hv hd hcd) ha he) hdb he hpl) fun σ H Q ⟨c, F, env, d, env', R, e, k⟩ => by
  unfold eM at e
  by_cases ho : isOwn env i = true
  · rw [if_pos ho] at e
    simp only [Option.bind_eq_some_iff] at e
    obtain ⟨⟨d1, n1⟩, h1, h2⟩ := e
    dsimp only at h2
    split at h2
    · rename_i b ks hi
      simp only [Option.map_eq_some_iff] at h2
      obtain ⟨⟨z, ks'⟩, h3, h4⟩ := h2
      obtain ⟨rfl, rfl⟩ := Prod.mk.inj h4
      obtain ⟨a, ys, ha, hys⟩ := own_of R ho
      refine ⟨.ref a, ha, c, F, env, d1, n1, R, h1, fun ws F1 H1 s1 R1 hw => ?_⟩
      obtain ⟨a', xs, e1, e2, e3, e4, e5, e6, e7⟩ := R1.own i b ks hi
      rw [ha] at e1
      cases e1
      show spM X.K n gM ((.ref a :: ws) ++ []) H1 Q E0
      rw [List.append_nil]
      refine ⟨F1, a, ws, xs, ks, d1, ks', z, rfl, ?_, R1.sub, e2, e3, e4, hw, h3, fun v F' H' xs' a1 a2 a3 a4 a5 a6 hv => ?_⟩
      · rw [List.length_cons, hw.len]; exact hl ks d1 _ h3
      · exact k v F' H' (s1.trans a1) (R1.afterM hi ha a1 a2 a3 a4 a5 a6) hv
    · cases h2
  · rw [if_neg ho] at e
    cases e
end
end Dn
namespace Dn
open PySem PySem.Spec PyProof.Rows L2
open PySem.W (Frag)
/-! ### either of two ways, by what is known -/
def eOne (c : En → Bool) (f g : Fe) : Fe := fun env => if c env then f env else g env
section
variable {X : Cx} {xc : XC} {e a b l : Expr} {es : List Expr} {f g fa fb fi : Fe} {fl fm : Fl} {pos : Pos}
theorem de_either (c : En → Bool) (h1 : PE X e (Ge X.K f)) (h2 : PE X e (Ge X.K g)) : PE X e (Ge X.K (eOne c f g)) := ⟨fun pins s σ H Q I ⟨c0, F, env, d, env', R, e, k⟩ => by
  unfold eOne at e
  split at e
  · exact h1.run pins s σ H Q I ⟨c0, F, env, d, env', R, e, k⟩
  · exact h2.run pins s σ H Q I ⟨c0, F, env, d, env', R, e, k⟩⟩
/-- len(x), x[i] of a name that owns its list, or holds data -/
abbrev eLenV (i : Nat) : Fe := eOne (fun env => isOwn env i) (eLenO i) (eA gLen (lCons (eV i) lNil))
abbrev eIxV (i : Nat) (fi : Fe) : Fe := eOne (fun env => isOwn env i) (eIxO i fi) (e2 gIx (eV i) fi)
theorem de_lenV (i : Nat) {x : Str} {p p2 : Pos} (hg : Gl X "len") (hm : X.mg "len" = none) (hN : X.N[i]? = some x := by rfl) (hv : Vis X.env.scope x := by first | exact Or.inl rfl | exact Or.inr (Or.inl rfl) | exact Or.inr (Or.inr rfl)) (hd : (x == ("__debug__" : Str)) = false := by decide)
    (hcd : (x == ("__classdict__" : Str)) = false := by decide) (he : starEach (Expr.Name x p2 :: []) X.env = (false, eval (Expr.Name x p2) X.env) :: starEach [] X.env := by rfl) (hpl : (backTo pos (starEach [] X.env)).any (·.1) = false := by rfl) :
    PE X (.Call (.Name "len" p) [.Name x p2] [] pos) (Ge X.K (eLenV i)) :=
  de_either _ (de_lenO i hg hm hN hv hd hcd he hpl) (de_B call_lenG oA_len hg hm PySem.boot_len (da_cons (de_v i hN hv hd hcd) da_nil he) (by decide) (by decide) he hpl)
theorem de_ixV (i : Nat) {x : Str} {p2 : Pos} {ix : Expr} (hix : PE X ix (Ge X.K fi)) (hN : X.N[i]? = some x := by rfl) (hv : Vis X.env.scope x := by first | exact Or.inl rfl | exact Or.inr (Or.inl rfl) | exact Or.inr (Or.inr rfl)) (hd : (x == ("__debug__" : Str)) = false := by decide)
    (hcd : (x == ("__classdict__" : Str)) = false := by decide) (hs : PlainIx ix := by exact fun _ _ => rfl) : PE X (.Subscript (.Name x p2) ix pos) (Ge X.K (eIxV i fi)) :=
  de_either _ (de_ixO i hix hN hv hd hcd hs) (de_ix ix_seq o2_ix (de_v i hN hv hd hcd) hix hs)
/-- list(x) -/
def lOf (f : Fl) : Fl := fun env => (f env).bind fun p => match p.1 with
  | [.list ds] => some (ds, p.2)
  | [.tuple ds] => some (ds, p.2)
  | _ => none
theorem df_listOf {p : Pos} (hg : Gl X "list") (hm : X.mg "list" = none) (ha : PA X [a] (Ga X.K fl)) (he : starEach (a :: []) X.env = (false, eval a X.env) :: starEach [] X.env := by rfl) (hpl : (backTo pos (starEach [] X.env)).any (·.1) = false := by rfl) :
    PE X (.Call (.Name "list" p) [a] [] pos) (Gf X.K (lOf fl)) := PE.imp (pe_callTy call_list_of hg hm (by decide +kernel) ha (by decide) (by decide) he hpl) fun σ H Q ⟨c, F, env, ds, env', R, e, k⟩ => by
  unfold lOf at e
  simp only [Option.bind_eq_some_iff] at e
  obtain ⟨⟨d1, n1⟩, h1, h2⟩ := e
  dsimp only at h2
  split at h2
  · cases h2
    refine ⟨c, F, env, _, _, R, h1, fun vs F' H' s R' hv => ?_⟩
    cases hv with
    | cons h3 h4 =>
      cases h4
      cases h3 with
      | lst hs ha => exact ⟨_, _, rfl, .inl (R'.sub.seq hs), fun l hl => k l _ F' H' s hl R' ha⟩
  · cases h2
    refine ⟨c, F, env, _, _, R, h1, fun vs F' H' s R' hv => ?_⟩
    cases hv with
    | cons h3 h4 =>
      cases h4
      cases h3 with
      | tup hs ha => exact ⟨_, _, rfl, .inr (sqT_mono R'.sub hs), fun l hl => k l _ F' H' s hl R' ha⟩
  · cases h2
/-- list + list, new -/
def lCat (fa fb : Fe) : Fl := fun env => (fa env).bind fun p => (fb p.2).bind fun q => match p.1, q.1 with
  | .list xs, .list ys => if okN (xs.length + ys.length) then some (xs ++ ys, q.2) else none
  | _, _ => none
theorem df_cat (ha : PE X a (Ge X.K fa)) (hb : PE X b (Ge X.K fb)) : PE X (.BinOp a .Add b pos) (Gf X.K (lCat fa fb)) := PE.imp (pe_op op_catG ha hb) fun σ H Q ⟨c, F, env, ds, env', R, e, k⟩ => by
  unfold lCat at e
  simp only [Option.bind_eq_some_iff] at e
  obtain ⟨⟨d1, n1⟩, h1, ⟨d2, n2⟩, h2, h3⟩ := e
  dsimp only at h3
  split at h3
  · split at h3
    · rename_i hz
      cases h3
      refine ⟨c, F, env, _, n1, R, h1, fun v1 F1 H1 s1 R1 p1 => ⟨c, F1, n1, _, _, R1, h2, fun v2 F2 H2 s2 R2 p2 => ?_⟩⟩
      have p1' := p1.up s2
      cases p1' with
      | @lst a1 xs _ hs ha =>
        cases p2 with
        | @lst a2 ys _ hs2 ha2 =>
          refine ⟨a1, a2, xs, ys, rfl, rfl, R2.sub.seq hs, R2.sub.seq hs2, ?_, fun p hp => k p _ F2 H2 (s1.trans s2) hp R2 (ha.app ha2)⟩
          rw [ha.len, ha2.len]; exact okN_line hz
    · cases h3
  · cases h3
end
end Dn
namespace Dn
open PySem PySem.Spec PyProof.Rows L2
open PySem.W (Frag)
section
variable {X : Cx} {xc : XC} {k k2 n m : Nat} {f f2 : Addr} {fd fd2 : FuncData} {ps ps2 : List Str} {x : Str} {p pos : Pos} {e a : Expr} {es : List Expr} {fl fm : Fl} {g : List PyData → Option (List PyData)} {gM : List PyData → List PyData → Option (PyData × List PyData)}
theorem runL_len {b : Fs} {N n : Nat} (ds : List PyData) (z : List PyData) (h : runL b N n ds = some z) : ds.length = n := by
  unfold runL at h
  split at h
  · assumption
  · cases h
def lA (g : List PyData → Option (List PyData)) (a : Fl) : Fl := fun env => (a env).bind fun p => (g p.1).map fun z => (z, p.2)
theorem df_call (Fk : FnOk X.prog X.w X.K X.mg X.base CX0 k f fd ps (spL X.K n g)) (hl : ∀ ds z, g ds = some z → ds.length = n) (hr : Room k X.A) (hg : Gl X x) (hm : X.mg x = some (.ref f)) (hk : PySem.W.keepIn X.K (.ref f) = true) (hb : Binds X.K fd ps []) (ha : PA X (e :: es) (Ga X.K fl))
    (hdb : (x == ("__debug__" : Str)) = false := by decide) (he : starEach (e :: es) X.env = (false, eval e X.env) :: starEach es X.env := by rfl) (hpl : (backTo pos (starEach es X.env)).any (·.1) = false := by rfl) :
    PE X (.Call (.Name x p) (e :: es) [] pos) (Gf X.K (lA g fl)) := PE.imp (pe_call Fk hr hg hm hk hb .nil pass0 ha hdb he hpl) fun σ H Q ⟨c, F, env, ds, env', R, e, k⟩ => by
  unfold lA at e
  simp only [Option.bind_eq_some_iff, Option.map_eq_some_iff] at e
  obtain ⟨⟨d1, n1⟩, h1, z, h2, h3⟩ := e
  obtain ⟨rfl, rfl⟩ := Prod.mk.inj h3
  refine ⟨c, F, env, d1, n1, R, h1, fun vs F1 H1 s1 R1 hv => ?_⟩
  show spL X.K n g (vs ++ []) H1 Q E0
  rw [List.append_nil]
  exact ⟨F1, d1, z, by rw [hv.len]; exact hl d1 z h2, R1.sub, hv, h2, fun p xs F' H' a1 a2 a3 a4 hp hx => k p xs F' H' (s1.trans a1) hp (R1.after a1 a2 a3 a4) hx⟩
/-- a def that changes its first argument, a new list -/
def eMF (g : List PyData → List PyData → Option (PyData × List PyData)) (fl : Fl) : Fe := fun env => (fl env).bind fun p => (g p.1 []).map fun q => (q.1, p.2)
theorem de_callMF (Fk : FnOk X.prog X.w X.K X.mg X.base CX0 k f fd ps (spM X.K n gM)) (hl : ∀ ks ds z, gM ks ds = some z → ds.length + 1 = n) (hr : Room k X.A) (hg : Gl X x) (hm : X.mg x = some (.ref f)) (hk : PySem.W.keepIn X.K (.ref f) = true) (hb : Binds X.K fd ps []) (ha : PE X a (Gf X.K fl))
    (hdb : (x == ("__debug__" : Str)) = false := by decide) (he : starEach (a :: []) X.env = (false, eval a X.env) :: starEach [] X.env := by rfl) (hpl : (backTo pos (starEach [] X.env)).any (·.1) = false := by rfl) :
    PE X (.Call (.Name x p) [a] [] pos) (Ge X.K (eMF gM fl)) := PE.imp (pe_call Fk hr hg hm hk hb .nil pass0 (pa_cons ha pa_nil he) hdb he hpl) fun σ H Q ⟨c, F, env, d, env', R, e, k⟩ => by
  unfold eMF at e
  simp only [Option.bind_eq_some_iff, Option.map_eq_some_iff] at e
  obtain ⟨⟨d1, n1⟩, h1, ⟨z, ks'⟩, h2, h3⟩ := e
  obtain ⟨rfl, rfl⟩ := Prod.mk.inj h3
  refine ⟨c, F, env, d1, n1, R, h1, fun q xs F1 H1 s1 hq R1 hx => ?_⟩
  show spM X.K n gM ([.ref q] ++ []) (upd H1 q (.lst xs)) Q E0
  rw [List.append_nil]
  have R2 := R1.grow (o := .lst xs) hq
  refine ⟨F1, q, [], xs, d1, [], ks', z, rfl, hl d1 [] _ h2, R2.sub, R1.sub.free hq, upd_same, hx, .nil, h2, fun v F' H' xs' a1 a2 a3 a4 a5 a6 hv => ?_⟩
  -- the list is left behind: nothing of the caller's hangs on it
  have R3 : Rl X.K c F' σ H' n1 := by
    refine R1.after a1 a2 (fun b o e => a3 b o (ne_of_none e hq) (by rw [upd_ne (ne_of_none e hq)]; exact e)) fun b hb => ?_
    rcases a4 b hb with z | z
    · exact .inl z
    · by_cases hbq : b = q
      · subst hbq; rw [upd_same] at z; cases z
      · rw [upd_ne hbq] at z; exact .inr z
  exact k v F' H' (s1.trans a1) R3 hv
end
end Dn

set_option Elab.async false
set_option linter.all false
set_option maxRecDepth 100000
/-! Evaluation of denotations at environments that are written out: simp goes from the left, never under a binder. -/
namespace Dn
open PySem PySem.Spec PyProof.Rows L2

variable {a b c : Fe} {f g : Fs} {t u : Ft} {l m : Fl} {x y z : Sl} {e : En} {d d' : PyData} {i j n : Nat}

def kP {α β : Type} (e : β) (a : α) : α × β := (a, e)
@[simp] theorem kP_e {α β : Type} {e : β} {a : α} : kP e a = (a, e) := rfl

/-! names, constants -/
@[simp] theorem ev_C : eC d (x :: e) = some (d, x :: e) := rfl
def kV (s : Option Sl) (e : En) : Option (PyData × En) := match s with
  | some (.val d) => some (d, e)
  | _ => none
@[simp] theorem ev_V : eV i (x :: e) = kV ((x :: e)[i]?) (x :: e) := rfl
@[simp] theorem kV_val : kV (some (.val d)) e = some (d, e) := rfl
/-! operations -/
def kE1 (g : PyData → Option PyData) (p : PyData × En) : Option (PyData × En) := (g p.1).map (kP p.2)
@[simp] theorem ev_1 {g : PyData → Option PyData} : e1 g a (x :: e) = (a (x :: e)).bind (kE1 g) := rfl
@[simp] theorem kE1_e {g : PyData → Option PyData} : kE1 g (d, e) = (g d).map (kP e) := rfl
def kE2b (g : PyData → PyData → Option PyData) (d : PyData) (p : PyData × En) : Option (PyData × En) := (g d p.1).map (kP p.2)
def kE2 (g : PyData → PyData → Option PyData) (b : Fe) (p : PyData × En) : Option (PyData × En) := (b p.2).bind (kE2b g p.1)
@[simp] theorem ev_2 {g : PyData → PyData → Option PyData} : e2 g a b (x :: e) = (a (x :: e)).bind (kE2 g b) := rfl
@[simp] theorem kE2_e {g : PyData → PyData → Option PyData} : kE2 g b (d, e) = (b e).bind (kE2b g d) := rfl
@[simp] theorem kE2b_e {g : PyData → PyData → Option PyData} : kE2b g d (d', e) = (g d d').map (kP e) := rfl
def kEA (g : List PyData → Option PyData) (p : List PyData × En) : Option (PyData × En) := (g p.1).map (kP p.2)
@[simp] theorem ev_A {g : List PyData → Option PyData} : eA g l (x :: e) = (l (x :: e)).bind (kEA g) := rfl
@[simp] theorem kEA_e {g : List PyData → Option PyData} {ds : List PyData} : kEA g (ds, e) = (g ds).map (kP e) := rfl
@[simp] theorem ev_Nil : lNil (x :: e) = some ([], x :: e) := rfl
def kCons2 (d : PyData) (q : List PyData × En) : List PyData × En := (d :: q.1, q.2)
def kCons (b : Fl) (p : PyData × En) : Option (List PyData × En) := (b p.2).map (kCons2 p.1)
@[simp] theorem ev_Cons : lCons a l (x :: e) = (a (x :: e)).bind (kCons l) := rfl
@[simp] theorem kCons_e : kCons l (d, e) = (l e).map (kCons2 d) := rfl
@[simp] theorem kCons2_e {ds : List PyData} : kCons2 d (ds, e) = (d :: ds, e) := rfl
/-! lists, tuples -/
def kF (p : List PyData × En) : PyData × En := (.list p.1, p.2)
@[simp] theorem ev_F : eF l (x :: e) = (l (x :: e)).map kF := rfl
@[simp] theorem kF_e {ds : List PyData} : kF (ds, e) = (.list ds, e) := rfl
def kLst (p : List PyData × En) : Option (List PyData × En) := if okN p.1.length then some p else none
@[simp] theorem ev_Lst : lLst l (x :: e) = (l (x :: e)).bind kLst := (rfl)
theorem kLst_e {ds : List PyData} : kLst (ds, e) = if okN ds.length then some (ds, e) else none := rfl
def kTup (p : List PyData × En) : Option (PyData × En) := if okN p.1.length then some (.tuple p.1, p.2) else none
@[simp] theorem ev_Tup : eTup l (x :: e) = (l (x :: e)).bind kTup := (rfl)
theorem kTup_e {ds : List PyData} : kTup (ds, e) = if okN ds.length then some (.tuple ds, e) else none := rfl
@[simp] theorem okN_0 : okN 0 = true := by decide
@[simp] theorem okN_1 : okN 1 = true := by decide
@[simp] theorem okN_2 : okN 2 = true := by decide
@[simp] theorem okN_3 : okN 3 = true := by decide
@[simp] theorem okN_4 : okN 4 = true := by decide
@[simp] theorem kLst_0 : kLst ([], e) = some ([], e) := rfl
@[simp] theorem kLst_1 {d1 : PyData} : kLst ([d1], e) = some ([d1], e) := rfl
@[simp] theorem kLst_2 {d1 d2 : PyData} : kLst ([d1, d2], e) = some ([d1, d2], e) := rfl
@[simp] theorem kLst_3 {d1 d2 d3 : PyData} : kLst ([d1, d2, d3], e) = some ([d1, d2, d3], e) := rfl
@[simp] theorem kLst_4 {d1 d2 d3 d4 : PyData} : kLst ([d1, d2, d3, d4], e) = some ([d1, d2, d3, d4], e) := rfl
@[simp] theorem kLst_5 {d1 d2 d3 d4 d5 : PyData} : kLst ([d1, d2, d3, d4, d5], e) = some ([d1, d2, d3, d4, d5], e) := rfl
@[simp] theorem kLst_6 {d1 d2 d3 d4 d5 d6 : PyData} : kLst ([d1, d2, d3, d4, d5, d6], e) = some ([d1, d2, d3, d4, d5, d6], e) := rfl
@[simp] theorem kTup_0 : kTup ([], e) = some (.tuple [], e) := rfl
@[simp] theorem kTup_1 {d1 : PyData} : kTup ([d1], e) = some (.tuple [d1], e) := rfl
@[simp] theorem kTup_2 {d1 d2 : PyData} : kTup ([d1, d2], e) = some (.tuple [d1, d2], e) := rfl
@[simp] theorem kTup_3 {d1 d2 d3 : PyData} : kTup ([d1, d2, d3], e) = some (.tuple [d1, d2, d3], e) := rfl
@[simp] theorem kTup_4 {d1 d2 d3 d4 : PyData} : kTup ([d1, d2, d3, d4], e) = some (.tuple [d1, d2, d3, d4], e) := rfl
theorem smallI_of {n : Int} (h : -1000000 ≤ n) (h2 : n ≤ 1000000) : smallI n = true := by
  unfold smallI
  exact @decide_eq_true _ (Classical.propDecidable _) ⟨by omega, by omega⟩
noncomputable def kRep2 (ds : List PyData) (q : PyData × En) : Option (List PyData × En) := match q.1 with
  | .int n => if smallI n && okN (ds.length * n.toNat) then some (reps n ds, q.2) else none
  | _ => none
noncomputable def kRep (b : Fe) (p : List PyData × En) : Option (List PyData × En) := (b p.2).bind (kRep2 p.1)
@[simp] theorem ev_Rep : lRep l b (x :: e) = (l (x :: e)).bind (kRep b) := (rfl)
@[simp] theorem kRep_e {ds : List PyData} : kRep b (ds, e) = (b e).bind (kRep2 ds) := rfl
theorem kRep2_n {ds : List PyData} {n : Int} (h : n ≤ 1000) (hd : ds.length ≤ 1000) (h0 : -1000 ≤ n) : kRep2 ds (.int n, e) = some (reps n ds, e) := by
  unfold kRep2
  have h1 : ds.length * n.toNat ≤ 1000 * 1000 := Nat.mul_le_mul hd (by omega)
  have : okN (ds.length * n.toNat) = true := okN_of (by omega)
  simp [this, smallI_of (show -1000000 ≤ n by omega) (show n ≤ 1000000 by omega)]
/-! slices -/
@[simp] theorem ev_No : oNo (x :: e) = some (none, x :: e) := rfl
def kSo (p : PyData × En) : Option (Option Int × En) := match p.1 with
  | .int i => some (some i, p.2)
  | _ => none
@[simp] theorem ev_So : oSo a (x :: e) = (a (x :: e)).bind kSo := rfl
@[simp] theorem kSo_e {n : Int} : kSo (.int n, e) = some (some n, e) := rfl
def kCut3 (d : PyData) (o : Option Int) (r : Option Int × En) : Option (PyData × En) := (gCut d o r.1).map (kP r.2)
def kCut2 (hi : Fo) (d : PyData) (q : Option Int × En) : Option (PyData × En) := (hi q.2).bind (kCut3 d q.1)
def kCut (lo hi : Fo) (p : PyData × En) : Option (PyData × En) := (lo p.2).bind (kCut2 hi p.1)
@[simp] theorem ev_Cut {lo hi : Fo} : eCut a lo hi (x :: e) = (a (x :: e)).bind (kCut lo hi) := (rfl)
@[simp] theorem kCut_e {lo hi : Fo} : kCut lo hi (d, e) = (lo e).bind (kCut2 hi d) := rfl
@[simp] theorem kCut2_e {hi : Fo} {o : Option Int} : kCut2 hi d (o, e) = (hi e).bind (kCut3 d o) := rfl
@[simp] theorem kCut3_e {o o' : Option Int} : kCut3 d o (o', e) = (gCut d o o').map (kP e) := rfl
/-! tests -/
def kTB (p : PyData × En) : Option (Bool × En) := match p.1 with
  | .bool b => some (b, p.2)
  | _ => none
@[simp] theorem ev_B : tB' a (x :: e) = (a (x :: e)).bind kTB := rfl
@[simp] theorem kTB_e {v : Bool} : kTB (.bool v, e) = some (v, e) := rfl
def kNo (p : Bool × En) : Bool × En := (!p.1, p.2)
@[simp] theorem ev_tNo : tNo t (x :: e) = (t (x :: e)).map kNo := rfl
@[simp] theorem kNo_e {v : Bool} : kNo (v, e) = (!v, e) := rfl
def kAn (u : Ft) (p : Bool × En) : Option (Bool × En) := if p.1 then u p.2 else some (false, p.2)
@[simp] theorem ev_tAn : tAn t u (x :: e) = (t (x :: e)).bind (kAn u) := rfl
@[simp] theorem kAn_t : kAn u (true, e) = u e := rfl
@[simp] theorem kAn_f : kAn u (false, e) = some (false, e) := rfl
def kOrr (u : Ft) (p : Bool × En) : Option (Bool × En) := if p.1 then some (true, p.2) else u p.2
@[simp] theorem ev_tOrr : tOrr t u (x :: e) = (t (x :: e)).bind (kOrr u) := rfl
@[simp] theorem kOrr_t : kOrr u (true, e) = some (true, e) := rfl
@[simp] theorem kOrr_f : kOrr u (false, e) = u e := rfl
def kTr (p : PyData × En) : Option (Bool × En) := (truth p.1).map (kP p.2)
@[simp] theorem ev_tTr : tTr a (x :: e) = (a (x :: e)).bind kTr := (rfl)
@[simp] theorem kTr_e : kTr (d, e) = (truth d).map (kP e) := (rfl)
def keAn (b : Fe) (p : PyData × En) : Option (PyData × En) := match p.1 with
  | .bool true => b p.2
  | .bool false => some (.bool false, p.2)
  | _ => none
@[simp] theorem ev_eAn : eAn a b (x :: e) = (a (x :: e)).bind (keAn b) := rfl
@[simp] theorem keAn_t : keAn b (.bool true, e) = b e := rfl
@[simp] theorem keAn_f : keAn b (.bool false, e) = some (.bool false, e) := rfl
def keOr (b : Fe) (p : PyData × En) : Option (PyData × En) := match p.1 with
  | .bool false => b p.2
  | .bool true => some (.bool true, p.2)
  | _ => none
@[simp] theorem ev_eOr : eOr a b (x :: e) = (a (x :: e)).bind (keOr b) := rfl
@[simp] theorem keOr_f : keOr b (.bool false, e) = b e := rfl
@[simp] theorem keOr_t : keOr b (.bool true, e) = some (.bool true, e) := rfl
def keNo (p : PyData × En) : Option (PyData × En) := match p.1 with
  | .bool b => some (.bool (!b), p.2)
  | _ => none
@[simp] theorem ev_eNo : eNo a (x :: e) = (a (x :: e)).bind keNo := rfl
@[simp] theorem keNo_e {v : Bool} : keNo (.bool v, e) = some (.bool (!v), e) := rfl
def keIf (a b : Fe) (p : Bool × En) : Option (PyData × En) := if p.1 then a p.2 else b p.2
@[simp] theorem ev_eIf : eIf t a b (x :: e) = (t (x :: e)).bind (keIf a b) := rfl
@[simp] theorem keIf_t : keIf a b (true, e) = a e := rfl
@[simp] theorem keIf_f : keIf a b (false, e) = b e := rfl
def kCh4 (g' : PyData → PyData → Option PyData) (d : PyData) (r : PyData × En) : Option (PyData × En) := (g' d r.1).map (kP r.2)
def kCh3 (g' : PyData → PyData → Option PyData) (fc : Fe) (d : PyData) (e : En) (z : PyData) : Option (PyData × En) := match z with
  | .bool true => (fc e).bind (kCh4 g' d)
  | .bool false => some (.bool false, e)
  | _ => none
def kCh2 (g g' : PyData → PyData → Option PyData) (fc : Fe) (d : PyData) (q : PyData × En) : Option (PyData × En) := (g d q.1).bind (kCh3 g' fc q.1 q.2)
def kCh1 (g g' : PyData → PyData → Option PyData) (fb fc : Fe) (p : PyData × En) : Option (PyData × En) := (fb p.2).bind (kCh2 g g' fc p.1)
@[simp] theorem ev_Ch {g g' : PyData → PyData → Option PyData} : eCh g g' a b c (x :: e) = (a (x :: e)).bind (kCh1 g g' b c) := by
  unfold eCh kCh1 kCh2 kCh3 kCh4
  rfl
@[simp] theorem kCh1_e {g g' : PyData → PyData → Option PyData} : kCh1 g g' b c (d, e) = (b e).bind (kCh2 g g' c d) := rfl
@[simp] theorem kCh2_e {g g' : PyData → PyData → Option PyData} : kCh2 g g' c d (d', e) = (g d d').bind (kCh3 g' c d' e) := rfl
@[simp] theorem kCh3_t {g' : PyData → PyData → Option PyData} : kCh3 g' c d e (.bool true) = (c e).bind (kCh4 g' d) := rfl
@[simp] theorem kCh3_f {g' : PyData → PyData → Option PyData} : kCh3 g' c d e (.bool false) = some (.bool false, e) := rfl
@[simp] theorem kCh4_e {g' : PyData → PyData → Option PyData} : kCh4 g' d (d', e) = (g' d d').map (kP e) := rfl
def kIsN (p : PyData × En) : PyData × En := (.bool (isNone p.1), p.2)
def kNotN (p : PyData × En) : PyData × En := (.bool (!isNone p.1), p.2)
def kIs (T : String) (p : PyData × En) : PyData × En := (.bool (isT T p.1), p.2)
@[simp] theorem ev_IsN : eIsN a (x :: e) = (a (x :: e)).map kIsN := rfl
@[simp] theorem ev_NotN : eNotN a (x :: e) = (a (x :: e)).map kNotN := rfl
@[simp] theorem ev_Is {T : String} : eIs T a (x :: e) = (a (x :: e)).map (kIs T) := rfl
@[simp] theorem kIsN_e : kIsN (d, e) = (.bool (isNone d), e) := rfl
@[simp] theorem kNotN_e : kNotN (d, e) = (.bool (!isNone d), e) := rfl
@[simp] theorem kIs_e {T : String} : kIs T (d, e) = (.bool (isT T d), e) := rfl
/-! targets -/
@[simp] theorem ev_g1 : g1 i d e = some (e.set i (.val d)) := rfl
@[simp] theorem ev_gsN : gsN [] e = some e := rfl
@[simp] theorem ev_gsC {tg : Tg} {us : Tgs} {ds : List PyData} : gsC tg us (d :: ds) e = (tg d e).bind (us ds) := rfl
@[simp] theorem ev_g2 {n : Nat} {us : Tgs} {ds : List PyData} : g2 n us (.tuple ds) e = if ds.length = n then us ds e else none := rfl
/-! statements -/
@[simp] theorem ev_Nx : sNx (x :: e) = some (.nx, x :: e) := rfl
def kSeq (b : Fs) (p : Flw × En) : Option (Flw × En) := match p.1 with
  | .nx => b p.2
  | _ => some p
@[simp] theorem ev_Seq : sSeq f g (x :: e) = (f (x :: e)).bind (kSeq g) := rfl
@[simp] theorem kSeq_nx : kSeq g (.nx, e) = g e := rfl
@[simp] theorem kSeq_rt : kSeq g (.rt d, e) = some (.rt d, e) := rfl
@[simp] theorem kSeq_rl {ds : List PyData} : kSeq g (.rl ds, e) = some (.rl ds, e) := rfl
@[simp] theorem kSeq_bk : kSeq g (.bk, e) = some (.bk, e) := rfl
@[simp] theorem kSeq_ct : kSeq g (.ct, e) = some (.ct, e) := rfl
@[simp] theorem kSeq_ex {cl : Str} : kSeq g (.ex cl d, e) = some (.ex cl d, e) := rfl
def kNxt (e : En) : Flw × En := (.nx, e)
@[simp] theorem kNxt_e : kNxt e = (.nx, e) := rfl
def kSet (tg : Tg) (p : PyData × En) : Option (Flw × En) := (tg p.1 p.2).map kNxt
@[simp] theorem ev_Set {tg : Tg} : sSet a tg (x :: e) = (a (x :: e)).bind (kSet tg) := rfl
@[simp] theorem kSet_e {tg : Tg} : kSet tg (d, e) = (tg d e).map kNxt := rfl
def kOwn (i : Nat) (p : List PyData × En) : Flw × En := (.nx, p.2.set i (.own false p.1))
@[simp] theorem ev_Own : sOwn l i (x :: e) = (l (x :: e)).map (kOwn i) := rfl
@[simp] theorem kOwn_e {ds : List PyData} : kOwn i (ds, e) = (.nx, e.set i (.own false ds)) := rfl
def kEx (p : PyData × En) : Flw × En := (.nx, p.2)
@[simp] theorem ev_Ex : sEx a (x :: e) = (a (x :: e)).map kEx := rfl
@[simp] theorem kEx_e : kEx (d, e) = (.nx, e) := rfl
def kRt (p : PyData × En) : Flw × En := (.rt p.1, p.2)
@[simp] theorem ev_Rt : sRt a (x :: e) = (a (x :: e)).map kRt := rfl
@[simp] theorem kRt_e : kRt (d, e) = (.rt d, e) := rfl
def kRl (p : List PyData × En) : Flw × En := (.rl p.1, p.2)
@[simp] theorem ev_Rl : sRl l (x :: e) = (l (x :: e)).map kRl := rfl
@[simp] theorem kRl_e {ds : List PyData} : kRl (ds, e) = (.rl ds, e) := rfl
@[simp] theorem ev_RtN : sRtN (x :: e) = some (.rt .none, x :: e) := rfl
@[simp] theorem ev_Bk : sBk (x :: e) = some (.bk, x :: e) := rfl
@[simp] theorem ev_Ct : sCt (x :: e) = some (.ct, x :: e) := rfl
@[simp] theorem ev_Never : sNever (x :: e) = none := rfl
def kIf (f g : Fs) (p : Bool × En) : Option (Flw × En) := if p.1 then f p.2 else g p.2
@[simp] theorem ev_If : sIf t f g (x :: e) = (t (x :: e)).bind (kIf f g) := rfl
@[simp] theorem kIf_t : kIf f g (true, e) = f e := rfl
@[simp] theorem kIf_f : kIf f g (false, e) = g e := rfl
/-! owned lists -/
def kIsOwn (s : Option Sl) : Bool := match s with
  | some (.own _ _) => true
  | _ => false
@[simp] theorem ev_isOwn : isOwn (x :: e) i = kIsOwn ((x :: e)[i]?) := rfl
@[simp] theorem kIsOwn_own {p : Bool} {ds : List PyData} : kIsOwn (some (.own p ds)) = true := rfl
@[simp] theorem kIsOwn_val : kIsOwn (some (.val d)) = false := rfl
@[simp] theorem kIsOwn_no : kIsOwn (some .no) = false := rfl
def kApp2 (i : Nat) (d : PyData) (e : En) (s : Option Sl) : Option (Flw × En) := match s with
  | some (.own b ds) => if okN ds.length then some (.nx, e.set i (.own b (ds ++ [d]))) else none
  | _ => none
def kApp (i : Nat) (p : PyData × En) : Option (Flw × En) := kApp2 i p.1 p.2 p.2[i]?
@[simp] theorem ev_App : sApp i a (x :: e) = if isOwn (x :: e) i then (a (x :: e)).bind (kApp i) else none := (rfl)
@[simp] theorem kApp_e : kApp i (d, e) = kApp2 i d e e[i]? := (rfl)
theorem kApp2_e {p : Bool} {ds : List PyData} : kApp2 i d e (some (.own p ds)) = if okN ds.length then some (.nx, e.set i (.own p (ds ++ [d]))) else none := rfl
theorem kApp2_ok {p : Bool} {ds : List PyData} (h : ds.length ≤ 1000000) : kApp2 i d e (some (.own p ds)) = some (.nx, e.set i (.own p (ds ++ [d]))) := by
  rw [kApp2_e, if_pos (okN_of h)]
def kPut3 (i : Nat) (d : PyData) (k : PyData) (e : En) (s : Option Sl) : Option (Flw × En) := match k, s with
  | .int k, some (.own b ds) => (ixN ds.length k).map fun j => (.nx, e.set i (.own b (ds.set j d)))
  | _, _ => none
def kPut2 (i : Nat) (d : PyData) (q : PyData × En) : Option (Flw × En) := kPut3 i d q.1 q.2 q.2[i]?
def kPut (i : Nat) (ix : Fe) (p : PyData × En) : Option (Flw × En) := if isOwn p.2 i then (ix p.2).bind (kPut2 i p.1) else none
@[simp] theorem ev_Put {ix : Fe} : sPut i ix a (x :: e) = (a (x :: e)).bind (kPut i ix) := rfl
@[simp] theorem kPut_e {ix : Fe} : kPut i ix (d, e) = if isOwn e i then (ix e).bind (kPut2 i d) else none := rfl
@[simp] theorem kPut2_e : kPut2 i d (d', e) = kPut3 i d d' e e[i]? := rfl
theorem kPut3_e {p : Bool} {ds : List PyData} {k : Int} : kPut3 i d (.int k) e (some (.own p ds)) = (ixN ds.length k).map fun j => (.nx, e.set i (.own p (ds.set j d))) := rfl
theorem kPut3_ok {p : Bool} {ds : List PyData} {k : Nat} (h : k < ds.length) : kPut3 i d (.int (k : Int)) e (some (.own p ds)) = some (.nx, e.set i (.own p (ds.set k d))) := by
  rw [kPut3_e]
  unfold ixN
  rw [if_pos (by omega), if_pos (by omega)]
  simp
def kIxO2 (k : PyData) (e : En) (s : Option Sl) : Option (PyData × En) := match k, s with
  | .int k, some (.own _ ds) => (atI ds k).map (kP e)
  | _, _ => none
def kIxO (i : Nat) (q : PyData × En) : Option (PyData × En) := kIxO2 q.1 q.2 q.2[i]?
@[simp] theorem ev_IxO {ix : Fe} : eIxO i ix (x :: e) = if isOwn (x :: e) i then (ix (x :: e)).bind (kIxO i) else none := rfl
@[simp] theorem kIxO_e : kIxO i (d, e) = kIxO2 d e e[i]? := rfl
@[simp] theorem kIxO2_e {p : Bool} {ds : List PyData} {k : Int} : kIxO2 (.int k) e (some (.own p ds)) = (atI ds k).map (kP e) := rfl
def kLenO (e : En) (s : Option Sl) : Option (PyData × En) := match s with
  | some (.own _ ds) => some (.int ds.length, e)
  | _ => none
@[simp] theorem ev_LenO : eLenO i (x :: e) = kLenO (x :: e) ((x :: e)[i]?) := rfl
@[simp] theorem kLenO_e {p : Bool} {ds : List PyData} : kLenO e (some (.own p ds)) = some (.int ds.length, e) := rfl
def kFrz (i : Nat) (f : Fs) (e : En) (s : Option Sl) : Option (Flw × En) := match s with
  | some (.own false ds) => f (e.set i (.val (.list ds)))
  | _ => f e
@[simp] theorem ev_Frz : sFrz i f (x :: e) = kFrz i f (x :: e) ((x :: e)[i]?) := rfl
@[simp] theorem kFrz_own {ds : List PyData} : kFrz i f e (some (.own false ds)) = f (e.set i (.val (.list ds))) := rfl
@[simp] theorem kFrz_par {ds : List PyData} : kFrz i f e (some (.own true ds)) = f e := rfl
@[simp] theorem kFrz_val : kFrz i f e (some (.val d)) = f e := rfl
@[simp] theorem kFrz_no : kFrz i f e (some .no) = f e := rfl
def kPar (i j : Nat) (p : List PyData × En) : Option (Flw × En) := match p.1 with
  | [d, d'] => some (.nx, (p.2.set i (.val d)).set j (.val d'))
  | _ => none
@[simp] theorem ev_Par : sPar i j l (x :: e) = (l (x :: e)).bind (kPar i j) := rfl
@[simp] theorem kPar_e : kPar i j ([d, d'], e) = some (.nx, (e.set i (.val d)).set j (.val d')) := rfl
def kAug2 (i : Nat) (g : PyData → PyData → Option PyData) (d : PyData) (p : PyData × En) : Option (Flw × En) := (g d p.1).map fun z => (.nx, p.2.set i (.val z))
def kAug (i : Nat) (g : PyData → PyData → Option PyData) (a : Fe) (e : En) (s : Option Sl) : Option (Flw × En) := match s with
  | some (.val d) => (a e).bind (kAug2 i g d)
  | _ => none
@[simp] theorem ev_Aug {g : PyData → PyData → Option PyData} : sAug i g a (x :: e) = kAug i g a (x :: e) ((x :: e)[i]?) := rfl
@[simp] theorem kAug_e {g : PyData → PyData → Option PyData} : kAug i g a e (some (.val d)) = (a e).bind (kAug2 i g d) := rfl
@[simp] theorem kAug2_e {g : PyData → PyData → Option PyData} : kAug2 i g d (d', e) = (g d d').map fun z => (.nx, e.set i (.val z)) := rfl
/-! calls that change a list, that hand back a new one -/
def kM2 (i : Nat) (e : En) (b : Bool) (q : PyData × List PyData) : PyData × En := (q.1, e.set i (.own b q.2))
def kM1 (i : Nat) (g : List PyData → List PyData → Option (PyData × List PyData)) (ds : List PyData) (e : En) (s : Option Sl) : Option (PyData × En) := match s with
  | some (.own b ks) => (g ks ds).map (kM2 i e b)
  | _ => none
def kM (i : Nat) (g : List PyData → List PyData → Option (PyData × List PyData)) (p : List PyData × En) : Option (PyData × En) := kM1 i g p.1 p.2 p.2[i]?
@[simp] theorem ev_M {g : List PyData → List PyData → Option (PyData × List PyData)} : eM i g l (x :: e) = if isOwn (x :: e) i then (l (x :: e)).bind (kM i g) else none := rfl
@[simp] theorem kM_e {g : List PyData → List PyData → Option (PyData × List PyData)} {ds : List PyData} : kM i g (ds, e) = kM1 i g ds e e[i]? := rfl
@[simp] theorem kM1_e {g : List PyData → List PyData → Option (PyData × List PyData)} {ds ks : List PyData} {p : Bool} : kM1 i g ds e (some (.own p ks)) = (g ks ds).map (kM2 i e p) := rfl
@[simp] theorem kM2_e {ks : List PyData} {p : Bool} : kM2 i e p (d, ks) = (d, e.set i (.own p ks)) := rfl
def kMF2 (e : En) (q : PyData × List PyData) : PyData × En := (q.1, e)
def kMF (g : List PyData → List PyData → Option (PyData × List PyData)) (p : List PyData × En) : Option (PyData × En) := (g p.1 []).map (kMF2 p.2)
@[simp] theorem ev_MF {g : List PyData → List PyData → Option (PyData × List PyData)} : eMF g l (x :: e) = (l (x :: e)).bind (kMF g) := rfl
@[simp] theorem kMF_e {g : List PyData → List PyData → Option (PyData × List PyData)} {ds : List PyData} : kMF g (ds, e) = (g ds []).map (kMF2 e) := rfl
@[simp] theorem kMF2_e {ks : List PyData} : kMF2 e (d, ks) = (d, e) := rfl
def kLA (g : List PyData → Option (List PyData)) (p : List PyData × En) : Option (List PyData × En) := (g p.1).map (kP p.2)
@[simp] theorem ev_LA {g : List PyData → Option (List PyData)} : lA g l (x :: e) = (l (x :: e)).bind (kLA g) := rfl
@[simp] theorem kLA_e {g : List PyData → Option (List PyData)} {ds : List PyData} : kLA g (ds, e) = (g ds).map (kP e) := rfl
def kOne (a b : Fe) (e : En) (v : Bool) : Option (PyData × En) := match v with
  | true => a e
  | false => b e
@[simp] theorem ev_One {q : En → Bool} : eOne q a b (x :: e) = kOne a b (x :: e) (q (x :: e)) := by
  unfold eOne kOne
  cases q (x :: e) <;> rfl
@[simp] theorem kOne_t : kOne a b e true = a e := rfl
@[simp] theorem kOne_f : kOne a b e false = b e := rfl
def kOf (p : List PyData × En) : Option (List PyData × En) := match p.1 with
  | [.list ds] => some (ds, p.2)
  | [.tuple ds] => some (ds, p.2)
  | _ => none
@[simp] theorem ev_Of : lOf l (x :: e) = (l (x :: e)).bind kOf := rfl
@[simp] theorem kOf_l {ds : List PyData} : kOf ([.list ds], e) = some (ds, e) := rfl
@[simp] theorem kOf_t {ds : List PyData} : kOf ([.tuple ds], e) = some (ds, e) := rfl
/-! what is walked -/
def kSq2 (e : En) (ds : List PyData) : List PyData × En := (ds, e)
def kSq (p : PyData × En) : Option (List PyData × En) := (items p.1).map (kSq2 p.2)
@[simp] theorem ev_Sq : iSeq a (x :: e) = (a (x :: e)).bind kSq := rfl
@[simp] theorem kSq_e : kSq (d, e) = (items d).map (kSq2 e) := rfl
@[simp] theorem kSq2_e {ds : List PyData} : kSq2 e ds = (ds, e) := rfl
noncomputable def kR1 (p : List PyData × En) : Option (List PyData × En) := match p.1 with
  | [.int n] => if smallI n then some (rng 0 n, p.2) else none
  | _ => none
noncomputable def kR2 (p : List PyData × En) : Option (List PyData × En) := match p.1 with
  | [.int m, .int n] => if smallI m && smallI n then some (rng m n, p.2) else none
  | _ => none
@[simp] theorem ev_R1 : iR1 l (x :: e) = (l (x :: e)).bind kR1 := (rfl)
@[simp] theorem ev_R2 : iR2 l (x :: e) = (l (x :: e)).bind kR2 := (rfl)
theorem kR1_e {n : Int} : kR1 ([.int n], e) = if smallI n then some (rng 0 n, e) else none := rfl
theorem kR1_ok {n : Int} (h : -1000000 ≤ n) (h2 : n ≤ 1000000) : kR1 ([.int n], e) = some (rng 0 n, e) := by
  rw [kR1_e, if_pos (smallI_of h h2)]
theorem kR2_ok {m n : Int} (h : -1000000 ≤ m) (h2 : m ≤ 1000000) (h3 : -1000000 ≤ n) (h4 : n ≤ 1000000) : kR2 ([.int m, .int n], e) = some (rng m n, e) := by
  show (if smallI m && smallI n then some (rng m n, e) else none) = _
  rw [smallI_of h h2, smallI_of h3 h4]
  rfl
def kZp (p : List PyData × En) : Option (List PyData × En) := match p.1 with
  | [.list xs, .list ys] => some (zipD xs ys, p.2)
  | [.tuple xs, .list ys] => some (zipD xs ys, p.2)
  | [.tuple xs, .tuple ys] => some (zipD xs ys, p.2)
  | _ => none
@[simp] theorem ev_Zp : iZp l (x :: e) = (l (x :: e)).bind kZp := rfl
@[simp] theorem kZp_e {xs ys : List PyData} : kZp ([.list xs, .list ys], e) = some (zipD xs ys, e) := rfl
@[simp] theorem kZp_t {xs ys : List PyData} : kZp ([.tuple xs, .list ys], e) = some (zipD xs ys, e) := rfl
@[simp] theorem kZp_tt {xs ys : List PyData} : kZp ([.tuple xs, .tuple ys], e) = some (zipD xs ys, e) := rfl
def kEn (p : List PyData × En) : Option (List PyData × En) := match p.1 with
  | [.list xs] => some (enumD 0 xs, p.2)
  | _ => none
@[simp] theorem ev_En : iEn l (x :: e) = (l (x :: e)).bind kEn := rfl
@[simp] theorem kEn_e {xs : List PyData} : kEn ([.list xs], e) = some (enumD 0 xs, e) := rfl
def kFor (tg : Tg) (f : Fs) (p : List PyData × En) : Option (Flw × En) := forL tg f p.1 p.2
@[simp] theorem ev_For {it : Fi} {tg : Tg} : sFor it tg f (x :: e) = (it (x :: e)).bind (kFor tg f) := rfl
@[simp] theorem kFor_e {tg : Tg} {ds : List PyData} : kFor tg f (ds, e) = forL tg f ds e := rfl
def kCm3 (e1 : En) (vs : List Nat) (r : List PyData × En) : List PyData × En := (r.1, restE e1 r.2 vs)
def kCm2 (tg : Tg) (t : Ft) (a : Fe) (vs : List Nat) (e : En) (ds : List PyData) (ok : Bool) : Option (List PyData × En) := match ok with
  | true => (compL tg t a vs ds (wipeE e vs)).map (kCm3 e vs)
  | false => none
def kCm (tg : Tg) (t : Ft) (a : Fe) (vs : List Nat) (p : List PyData × En) : Option (List PyData × En) := kCm2 tg t a vs p.2 p.1 (okN p.1.length && noOwn p.2 vs)
@[simp] theorem ev_Cm {it : Fi} {tg : Tg} {vs : List Nat} : lCm it tg t a vs (x :: e) = (it (x :: e)).bind (kCm tg t a vs) := by
  unfold lCm kCm kCm2 kCm3
  congr
  funext p
  cases okN p.1.length && noOwn p.2 vs <;> rfl
@[simp] theorem ev_Ys : tYs (x :: e) = some (true, x :: e) := rfl
/-- a comprehension, from what its loop gives -/
theorem kCm_ok {tg : Tg} {vs : List Nat} {ds rs : List PyData} {e1 e' : En} (hn : ds.length ≤ 1000000) (ho : noOwn e vs = true) (hw : wipeE e vs = e1) (h : compL tg t a vs ds e1 = some (rs, e')) : kCm tg t a vs (ds, e) = some (rs, restE e e' vs) := by
  unfold kCm
  show kCm2 tg t a vs e ds (okN ds.length && noOwn e vs) = _
  rw [okN_of hn, ho]
  show (compL tg t a vs ds (wipeE e vs)).map (kCm3 e vs) = _
  rw [hw, h]
  rfl
/-- the loop of a comprehension that keeps all, and changes nothing else -/
theorem comp_map {tg : Tg} {vs : List Nat} {e : En} {F : PyData → PyData} : ∀ {ds : List PyData} (h : ∀ d ∈ ds, ∃ e1 e2 e3, tg d e = some e1 ∧ t e1 = some (true, e2) ∧ a e2 = some (F d, e3) ∧ wipeE e3 vs = e), compL tg t a vs ds e = some (ds.map F, e)
  | [], _ => rfl
  | d :: ds, h => by
    obtain ⟨e1, e2, e3, h1, h2, h3, h4⟩ := h d List.mem_cons_self
    have ih := comp_map (e := e) (F := F) (ds := ds) fun d hd => h d (List.mem_cons_of_mem _ hd)
    unfold compL
    rw [h1]
    show (t e1).bind _ = _
    rw [h2]
    show (a e2).bind _ = _
    rw [h3]
    show (compL tg t a vs ds (wipeE e3 vs)).map _ = _
    rw [h4, ih]
    rfl
/-- .. over the codes of a list -/
theorem comp_enc {α β : Type} {tg : Tg} {vs : List Nat} {e : En} {E : α → PyData} {D : β → PyData} {F : α → β} : ∀ {xs : List α} (h : ∀ y ∈ xs, ∃ e1 e2 e3, tg (E y) e = some e1 ∧ t e1 = some (true, e2) ∧ a e2 = some (D (F y), e3) ∧ wipeE e3 vs = e), compL tg t a vs (xs.map E) e = some ((xs.map F).map D, e)
  | [], _ => rfl
  | d :: ds, h => by
    obtain ⟨e1, e2, e3, h1, h2, h3, h4⟩ := h d List.mem_cons_self
    have ih := comp_enc (e := e) (F := F) (xs := ds) fun d hd => h d (List.mem_cons_of_mem _ hd)
    rw [List.map_cons]
    unfold compL
    rw [h1]
    show (t e1).bind _ = _
    rw [h2]
    show (a e2).bind _ = _
    rw [h3]
    show (compL tg t a vs (ds.map E) (wipeE e3 vs)).map _ = _
    rw [h4, ih]
    rfl
/-- with a test -/
theorem comp_filter {α β : Type} {tg : Tg} {vs : List Nat} {e : En} {E : α → PyData} {D : β → PyData} {F : α → β} {p : α → Bool} : ∀ {xs : List α} (h : ∀ y ∈ xs, ∃ e1 e2, tg (E y) e = some e1 ∧ t e1 = some (p y, e2) ∧ (p y = false → wipeE e2 vs = e) ∧ (p y = true → ∃ e3, a e2 = some (D (F y), e3) ∧ wipeE e3 vs = e)), compL tg t a vs (xs.map E) e = some (((xs.filter p).map F).map D, e)
  | [], _ => rfl
  | d :: ds, h => by
    obtain ⟨e1, e2, h1, h2, h3, h4⟩ := h d List.mem_cons_self
    have ih := comp_filter (e := e) (F := F) (p := p) (xs := ds) fun d hd => h d (List.mem_cons_of_mem _ hd)
    rw [List.map_cons]
    unfold compL
    rw [h1]
    show (t e1).bind _ = _
    rw [h2]
    cases hp : p d with
    | true =>
      obtain ⟨e3, h5, h6⟩ := h4 hp
      show (a e2).bind _ = _
      rw [h5]
      show (compL tg t a vs (ds.map E) (wipeE e3 vs)).map _ = _
      rw [h6, ih, List.filter_cons_of_pos hp]
      rfl
    | false =>
      show compL tg t a vs (ds.map E) (wipeE e2 vs) = _
      rw [h3 hp, ih, List.filter_cons_of_neg (by rw [hp]; exact Bool.false_ne_true)]
/-- a comprehension that carries a state (a list that its element changes) -/
theorem comp_state {α β σ : Type} {tg : Tg} {vs : List Nat} {S : σ → En} {E : α → PyData} {D : β → PyData} {F : σ → α → β × σ} {I : σ → Prop} : ∀ {xs : List α} {s : σ} (hI : I s) (h : ∀ s, I s → ∀ y ∈ xs, I (F s y).2 ∧ ∃ e1 e2 e3, tg (E y) (S s) = some e1 ∧ t e1 = some (true, e2) ∧ a e2 = some (D (F s y).1, e3) ∧ wipeE e3 vs = S (F s y).2),
    ∃ (ys : List β) (s' : σ), compL tg t a vs (xs.map E) (S s) = some (ys.map D, S s') ∧ I s' ∧ ys.length = xs.length ∧ (∀ z ∈ ys, ∃ s y, I s ∧ y ∈ xs ∧ z = (F s y).1)
  | [], s, hI, _ => ⟨[], s, rfl, hI, rfl, fun _ h => nomatch h⟩
  | d :: ds, s, hI, h => by
    obtain ⟨hI2, e1, e2, e3, h1, h2, h3, h4⟩ := h s hI d List.mem_cons_self
    obtain ⟨ys, s', h5, h6, h7, h8⟩ := comp_state (xs := ds) (s := (F s d).2) hI2 fun s hs y hy => h s hs y (List.mem_cons_of_mem _ hy)
    refine ⟨(F s d).1 :: ys, s', ?_, h6, by simp [h7], fun z hz => ?_⟩
    · rw [List.map_cons]
      unfold compL
      rw [h1]
      show (t e1).bind _ = _
      rw [h2]
      show (a e2).bind _ = _
      rw [h3]
      show (compL tg t a vs (ds.map E) (wipeE e3 vs)).map _ = _
      rw [h4, h5]
      rfl
    · rcases List.mem_cons.mp hz with rfl | hz
      · exact ⟨s, d, hI, List.mem_cons_self, rfl⟩
      · obtain ⟨s1, y, a1, a2, a3⟩ := h8 z hz
        exact ⟨s1, y, a1, List.mem_cons_of_mem _ a2, a3⟩
/-! for loops -/
theorem for_nil {tg : Tg} : forL tg f [] e = some (.nx, e) := rfl
def kTurn (tg : Tg) (f : Fs) (ds : List PyData) (p : Flw × En) : Option (Flw × En) := match p.1 with
  | .nx => forL tg f ds p.2
  | .ct => forL tg f ds p.2
  | .bk => some (.nx, p.2)
  | .rt r => some (.rt r, p.2)
  | .rl r => some (.rl r, p.2)
  | .ex cl r => some (.ex cl r, p.2)
theorem for_cons {tg : Tg} {ds : List PyData} : forL tg f (d :: ds) e = (tg d e).bind fun e1 => (f e1).bind (kTurn tg f ds) := by
  conv => lhs; unfold forL
  rfl
@[simp] theorem kTurn_nx {tg : Tg} {ds : List PyData} : kTurn tg f ds (.nx, e) = forL tg f ds e := rfl
@[simp] theorem kTurn_ct {tg : Tg} {ds : List PyData} : kTurn tg f ds (.ct, e) = forL tg f ds e := rfl
/-- a loop whose turns go on: the state is folded; what the loop's own names hold behind it is of some state -/
theorem for_state {α σ : Type} {tg : Tg} {S : σ → En → Prop} {E : α → PyData} {step : σ → α → σ} : ∀ {xs : List α} {s : σ} {e : En} (hs : S s e) (h : ∀ s e, S s e → ∀ y ∈ xs, ∃ e1 e2 fl, tg (E y) e = some e1 ∧ f e1 = some (fl, e2) ∧ (fl = .nx ∨ fl = .ct) ∧ S (step s y) e2),
    ∃ e', forL tg f (xs.map E) e = some (.nx, e') ∧ S (xs.foldl step s) e'
  | [], s, e, hs, _ => ⟨e, rfl, hs⟩
  | d :: ds, s, e, hs, h => by
    obtain ⟨e1, e2, fl, h1, h2, h3, h4⟩ := h s e hs d List.mem_cons_self
    obtain ⟨e', h5, h6⟩ := for_state (xs := ds) h4 fun s e hs y hy => h s e hs y (List.mem_cons_of_mem _ hy)
    refine ⟨e', ?_, h6⟩
    rw [List.map_cons, for_cons, h1]
    show (f e1).bind _ = _
    rw [h2]
    rcases h3 with rfl | rfl
    · exact h5
    · exact h5
/-! ends -/
@[simp] theorem endP_rt : endP (some (.rt d, e)) = some d := rfl
@[simp] theorem endP_rl {ds : List PyData} : endP (some (.rl ds, e)) = some (.list ds) := rfl
@[simp] theorem endP_nx : endP (some (.nx, e)) = some .none := rfl
@[simp] theorem endL_rl {ds : List PyData} : endL (some (.rl ds, e)) = some ds := rfl
@[simp] theorem endM_rt {ks : List PyData} : endM (some (.rt d, .own true ks :: e)) = some (d, ks) := rfl
@[simp] theorem endM_rl {ks ds : List PyData} : endM (some (.rl ds, .own true ks :: e)) = some (.list ds, ks) := rfl
@[simp] theorem endM_nx {ks : List PyData} : endM (some (.nx, .own true ks :: e)) = some (.none, ks) := rfl
theorem run1 {N : Nat} {b : Fs} {d1 : PyData} : runP b (N + 1) 1 [d1] = endP (b (.val d1 :: List.replicate N .no)) := by simp [runP, en0]
theorem run2 {N : Nat} {b : Fs} {d1 d2 : PyData} : runP b (N + 2) 2 [d1, d2] = endP (b (.val d1 :: .val d2 :: List.replicate N .no)) := by simp [runP, en0]
theorem run3 {N : Nat} {b : Fs} {d1 d2 d3 : PyData} : runP b (N + 3) 3 [d1, d2, d3] = endP (b (.val d1 :: .val d2 :: .val d3 :: List.replicate N .no)) := by simp [runP, en0]
theorem run4 {N : Nat} {b : Fs} {d1 d2 d3 d4 : PyData} : runP b (N + 4) 4 [d1, d2, d3, d4] = endP (b (.val d1 :: .val d2 :: .val d3 :: .val d4 :: List.replicate N .no)) := by simp [runP, en0]
theorem run5 {N : Nat} {b : Fs} {d1 d2 d3 d4 d5 : PyData} : runP b (N + 5) 5 [d1, d2, d3, d4, d5] = endP (b (.val d1 :: .val d2 :: .val d3 :: .val d4 :: .val d5 :: List.replicate N .no)) := by simp [runP, en0]
theorem runL2 {N : Nat} {b : Fs} {d1 d2 : PyData} : runL b (N + 2) 2 [d1, d2] = endL (b (.val d1 :: .val d2 :: List.replicate N .no)) := by simp [runL, en0]
theorem runM1 {N : Nat} {b : Fs} {ks : List PyData} : runM b (N + 1) 1 ks [] = endM (b (.own true ks :: List.replicate N .no)) := by simp [runM, en0]
theorem runM2 {N : Nat} {b : Fs} {d1 : PyData} {ks : List PyData} : runM b (N + 2) 2 ks [d1] = endM (b (.own true ks :: .val d1 :: List.replicate N .no)) := by simp [runM, en0]
theorem runM3 {N : Nat} {b : Fs} {d1 d2 : PyData} {ks : List PyData} : runM b (N + 3) 3 ks [d1, d2] = endM (b (.own true ks :: .val d1 :: .val d2 :: List.replicate N .no)) := by simp [runM, en0]
@[simp] theorem rep_0 {α : Type} {a : α} : List.replicate 0 a = [] := rfl
/-! items by written places -/
@[simp] theorem atI_0 {α : Type} {a : α} {l : List α} : atI (a :: l) 0 = some a := by simp [atI, ixN]
@[simp] theorem atI_1 {α : Type} {a b : α} {l : List α} : atI (a :: b :: l) 1 = some b := by
  have h : (1 : Int) < ((a :: b :: l).length : Int) := by simp; omega
  unfold atI ixN
  rw [if_pos (by decide), if_pos h]
  rfl
@[simp] theorem atI_2 {α : Type} {a b c : α} {l : List α} : atI (a :: b :: c :: l) 2 = some c := by
  have h : (2 : Int) < ((a :: b :: c :: l).length : Int) := by simp; omega
  unfold atI ixN
  rw [if_pos (by decide), if_pos h]
  rfl
end Dn

set_option Elab.async false
set_option linter.all false
set_option maxRecDepth 100000
/-! the end: the script handed to a law that is walked -/
namespace Dn
open PySem PySem.Spec PyProof.Rows L2
open PySem.W (Frag)
theorem spP_script {K : Frag} {f : List PyData → Option PyData} {H : Hp} {a : Addr} {ns : List Int} {E : XK} (hS : SqL K H a (ns.map V.int)) (h : f [.list (ns.map .int)] = some (.bool true)) :
    spP K 1 f [.ref a] H (fun v _ => v = .bl true) E :=
  ⟨H, [.list (ns.map .int)], .bool true, rfl, Same.refl H, .cons (.lst hS (DpAll.of_ints _)) .nil, h, fun v F' H' _ _ _ _ hd => by cases hd; rfl⟩
end Dn

set_option Elab.async false
set_option linter.all false
set_option maxRecDepth 100000
/-! row_table's part over a list of owned lists, by hand: rows = [[0] * len(row) for stage in row]; rows[k][k] = ..; rows[k][k - 1] = ..; return (rows, below). Slots: row below shares rows k stage -/
namespace Dn
open PySem PySem.Spec PyProof.Rows L2
open PySem.W (Frag)
def rowEntry (b : Int) (ns : List Int) (k j : Nat) : Int := if j = k then b - ns.getD k 0 else if j + 1 = k then ns.getD j 0 else 0
def rowOf (b : Int) (ns : List Int) (k : Nat) : List Int := (List.range ns.length).map (rowEntry b ns k)
def rowsOf (b : Int) (ns : List Int) : List (List Int) := (List.range ns.length).map (rowOf b ns)
def encRows (rows : List (List Int)) : PyData := .list (rows.map fun r => .list (r.map .int))
def fbRows : Fs := fun env => match env with
  | [.val (.tuple rs), .val (.int b), .val (.list ss), _, _, _] => (intsOf ss).bind fun ns => if ns.length = rs.length ∧ rs.length ≤ 1000 then some (.rt (.tuple [encRows (rowsOf b ns), .int b]), List.replicate 6 .no) else none
  | _ => none
theorem rep_one (n : Nat) (v : V) : (List.replicate n [v]).flatten = List.replicate n v := by
  induction n with
  | zero => rfl
  | succ n ih => rw [List.replicate_succ, List.flatten_cons, ih, List.replicate_succ]; rfl
/-- the rows behind i turns -/
def midRow (b : Int) (ns : List Int) (i k : Nat) : List V := (List.range ns.length).map fun j => V.int (if k < i then rowEntry b ns k j else 0)
theorem mid_start (b : Int) (ns : List Int) (k : Nat) : midRow b ns 0 k = List.replicate ns.length (V.int 0) := by
  unfold midRow
  apply List.ext_getElem?
  intro j
  by_cases h : j < ns.length
  · rw [List.getElem?_map, List.getElem?_range h, List.getElem?_replicate, if_pos h]
    rfl
  · rw [List.getElem?_eq_none (by simpa using h), List.getElem?_eq_none (by simpa using h)]
theorem mid_other {b : Int} {ns : List Int} {i k : Nat} (h : k ≠ i) : midRow b ns (i + 1) k = midRow b ns i k := by
  unfold midRow
  apply List.map_congr_left
  intro j _
  have : (k < i + 1) = (k < i) := by
    apply propext
    constructor
    · intro; omega
    · intro; omega
  simp only [this]
theorem mid_len {b : Int} {ns : List Int} {i k : Nat} : (midRow b ns i k).length = ns.length := by simp [midRow]
theorem mid_turn {b : Int} {ns : List Int} {i : Nat} (hi : i < ns.length) : midRow b ns (i + 1) i = if 0 < i then ((midRow b ns i i).set i (V.int (b - ns.getD i 0))).set (i - 1) (V.int (ns.getD (i - 1) 0)) else (midRow b ns i i).set i (V.int (b - ns.getD i 0)) := by
  apply List.ext_getElem?
  intro j
  by_cases hj : j < ns.length
  · have e0 : ∀ m : Nat, (midRow b ns m i)[j]? = some (V.int (if i < m then rowEntry b ns i j else 0)) := fun m => by
      unfold midRow
      rw [List.getElem?_map, List.getElem?_range hj]
      rfl
    rw [e0, if_pos (by omega)]
    have e1 : ∀ (m : Nat) (v : V), ((midRow b ns i i).set m v)[j]? = if m = j then some v else some (V.int 0) := fun m v => by
      rw [List.getElem?_set, mid_len, e0, if_neg (Nat.lt_irrefl i)]
      by_cases h1 : m = j
      · rw [if_pos h1, if_pos (by omega), if_pos h1]
      · rw [if_neg h1, if_neg h1]
    have e2 : ∀ (m m' : Nat) (v v' : V), (((midRow b ns i i).set m v).set m' v')[j]? = if m' = j then some v' else if m = j then some v else some (V.int 0) := fun m m' v v' => by
      rw [List.getElem?_set, List.length_set, mid_len, e1]
      by_cases h1 : m' = j
      · rw [if_pos h1, if_pos (by omega), if_pos h1]
      · rw [if_neg h1, if_neg h1]
    unfold rowEntry
    by_cases h0 : 0 < i
    · rw [if_pos h0, e2]
      by_cases h1 : i - 1 = j
      · rw [if_pos h1, if_neg (show ¬ j = i by omega), if_pos (show j + 1 = i by omega), h1]
      · rw [if_neg h1]
        by_cases h2 : i = j
        · rw [if_pos h2, if_pos h2.symm]
        · rw [if_neg h2, if_neg (fun z => h2 z.symm), if_neg (show ¬ j + 1 = i by omega)]
    · rw [if_neg h0, e1]
      by_cases h2 : i = j
      · rw [if_pos h2, if_pos h2.symm]
      · rw [if_neg h2, if_neg (fun z => h2 z.symm), if_neg (show ¬ j + 1 = i by omega)]
  · rw [List.getElem?_eq_none (by rw [mid_len]; omega)]
    split
    · rw [List.getElem?_eq_none (by rw [List.length_set, List.length_set, mid_len]; omega)]
    · rw [List.getElem?_eq_none (by rw [List.length_set, mid_len]; omega)]
theorem mid_end {b : Int} {ns : List Int} {k : Nat} (h : k < ns.length) : midRow b ns ns.length k = (rowOf b ns k).map V.int := by
  unfold midRow rowOf
  rw [List.map_map]
  apply List.map_congr_left
  intro j _
  rw [if_pos h]
  rfl
theorem nodup_get {α : Type} {l : List α} (h : l.Nodup) {i j : Nat} {a : α} (hi : l[i]? = some a) (hj : l[j]? = some a) : i = j := by
  obtain ⟨h1, e1⟩ := List.getElem?_eq_some_iff.mp hi
  obtain ⟨h2, e2⟩ := List.getElem?_eq_some_iff.mp hj
  exact (List.getElem_inj h).mp (e1.trans e2.symm)
def tRowsA (K : Frag) : TS := tAsg (tLc (iLT K (tVar 0)) (gName 5) tYes (tOp rRep (tLst (tCons (tC (.int 0)) tNil)) (tCB (fun xs H Q => ∃ p ys, xs = [V.ref p] ∧ (SqL K H p ys ∨ SqT K H p ys) ∧ Q (.int ys.length) H) (tCons (tVar 0) tNil))) [5]) (gName 3)
def tSetK (K : Frag) (te : TE) (ti : TE) : TS := tAsg te (L2.gSub (tOp (rIxL K) (tVar 3) (tVar 4)) ti rSetL)
def tRowsB (K : Frag) : TS := tFor (iRng1 (tCons (tCB (fun xs H Q => ∃ p ys, xs = [V.ref p] ∧ (SqL K H p ys ∨ SqT K H p ys) ∧ Q (.int ys.length) H) (tCons (tVar 0) tNil)) tNil)) (gName 4)
  (tSeq (tSetK K (tOp (rI0 fun i j => .int (i - j)) (tVar 1) (tOp (rIx K) (tVar 2) (tVar 4))) (tVar 4))
    (tIfS (tTest (tOp (rI0 fun i j => .bl (decide (j < i))) (tVar 4) (tC (.int 0)))) (tSetK K (tOp (rIx K) (tVar 2) (tOp (rI0 fun i j => .int (i - j)) (tVar 4) (tC (.int 1)))) (tOp (rI0 fun i j => .int (i - j)) (tVar 4) (tC (.int 1)))) tNext))
def tRowsC : TS := tRet (tTup (tCons (tVar 3) (tCons (tVar 1) tNil)))
def tRows (K : Frag) : TS := tSeq (tRowsA K) (tSeq (tRowsB K) tRowsC)
theorem tYes_i {σ : L2.St} {H : Hp} {Q : Bool → Hp → Prop} (h : Q true H) : tYes σ H Q := h
theorem sub_nat {i : Nat} (h : 0 < i) : ((i : Int) - 1) = ((i - 1 : Nat) : Int) := by omega
theorem read_rows {K : Frag} {xc : XC} {D : Ends} {σ : L2.St} {H : Hp} (h : Gs K xc fbRows D σ H) : tRows K D σ H := by
  obtain ⟨c, F, env, fl, env', R, e, k⟩ := h
  unfold fbRows at e
  split at e
  · rename_i rs b ss s3 s4 s5
    simp only [Option.bind_eq_some_iff] at e
    obtain ⟨ns, hns, e⟩ := e
    split at e
    · rename_i hlen
      obtain ⟨hl1, hl2⟩ := hlen
      cases e
      have hss := intsOf_inv hns
      subst hss
      obtain ⟨v0, g0, p0⟩ := R.val 0 _ rfl
      obtain ⟨v1, g1', p1⟩ := R.val 1 _ rfl
      obtain ⟨v2, g2', p2⟩ := R.val 2 _ rfl
      have hσ := R.len
      obtain ⟨w3, w4, w5, rfl⟩ : ∃ w3 w4 w5, σ = [some v0, some v1, some v2, w3, w4, w5] := by
        match σ, hσ, g0, g1', g2' with
        | [a0, a1, a2, a3, a4, a5], _, h0, h1, h2 =>
          cases h0; cases h1; cases h2
          exact ⟨a3, a4, a5, rfl⟩
      cases p1
      cases p0 with
      | @tup ar xs _ hs0 ha0 =>
        cases p2 with
        | @lst as2 ys _ hs2 ha2 =>
          have hys := ha2.ints
          subst hys
          have hxl : xs.length = ns.length := by rw [ha0.len, hl1]
          have rowT : ∀ {H'}, Same H H' → SqT K H' ar xs := fun s => sqT_mono (R.sub.trans s) hs0
          have shL : ∀ {H'}, Same H H' → SqL K H' as2 (ns.map V.int) := fun s => (R.sub.trans s).seq hs2
          -- rows = [[0] * len(row) for stage in row]
          show tRowsA K { D with nx := tSeq (tRowsB K) tRowsC D } _ H
          refine ⟨_, rfl, .inr ⟨ar, rfl, ⟨xs, rowT (Same.refl H)⟩, fun Dd hD => ?_⟩⟩
          refine lc_tup (K := K) (a := ar) (xs := xs) (fun i H' => ∃ as : List Addr, as.length = i ∧ H' Dd = some (.lst (as.map V.ref)) ∧ Same H H' ∧ as.Nodup ∧ ∀ a ∈ as, H a = none ∧ a ≠ Dd ∧ H' a = some (.lst (List.replicate ns.length (V.int 0)))) ⟨[], rfl, upd_same, fun b o e => by rw [upd_ne (ne_of_none e hD)]; exact e, .nil, fun _ h => nomatch h⟩ (fun i H' _ ⟨as, _, _, s, _⟩ => rowT s) ?_ ?_
          · rintro i y H1 hy ⟨as, hal, hDd, s1, hnd, hall⟩
            have hi : i < xs.length := (List.getElem?_eq_some_iff.mp hy).1
            refine ⟨rfl, ?_⟩
            refine tYes_i ?_
            refine iteT ?_
            refine ⟨by show 1 ≤ sizeLine; decide, fun p hp => ?_⟩
            have s2 : Same H1 (upd H1 p (.lst [V.int 0])) := fun b o e => by rw [upd_ne (ne_of_none e hp)]; exact e
            refine ⟨_, rfl, ar, xs, rfl, .inr (rowT (s1.trans s2)), ?_⟩
            refine ⟨p, (xs.length : Int), [V.int 0], rfl, rfl, upd_same, by omega, by omega, ?_, fun q hq => ?_⟩
            · show 1 * (xs.length : Int).toNat ≤ sizeLine
              have : sizeLine = 16777216 := sizeLine_eq
              omega
            have hpq : q ≠ p := fun z => by rw [z, upd_same] at hq; cases hq
            have hq1 : H1 q = none := by rw [upd_ne hpq] at hq; exact hq
            have hqD : q ≠ Dd := fun z => by rw [z, hDd] at hq1; cases hq1
            have hpD : p ≠ Dd := fun z => by rw [z, hDd] at hp; cases hp
            have s3 : Same (upd H1 p (.lst [V.int 0])) (upd (upd H1 p (.lst [V.int 0])) q (.lst (List.replicate (xs.length : Int).toNat [V.int 0]).flatten)) := fun b o e => by rw [upd_ne (ne_of_none e hq)]; exact e
            refine ⟨as.map V.ref, ?_, ?_, as ++ [q], ?_, ?_, ?_, ?_, ?_⟩
            · rw [upd_ne (Ne.symm hqD), upd_ne (Ne.symm hpD)]; exact hDd
            · rw [List.length_map]
              have : sizeLine = 16777216 := sizeLine_eq
              omega
            · simp [hal]
            · rw [upd_same]; simp
            · intro b o e
              have hbD : b ≠ Dd := ne_of_none e hD
              rw [upd_ne hbD]
              exact s3 b o (s2 b o (s1 b o e))
            · rw [List.nodup_append]
              refine ⟨hnd, by simp, fun a ha b hb => ?_⟩
              rw [List.mem_singleton] at hb
              subst hb
              intro z
              subst z
              rw [(hall a ha).2.2] at hq1
              cases hq1
            · intro a ha
              rcases List.mem_append.mp ha with ha | ha
              · obtain ⟨h1, h2, h3⟩ := hall a ha
                refine ⟨h1, h2, ?_⟩
                rw [upd_ne h2]
                exact s3 a _ (s2 a _ h3)
              · rw [List.mem_singleton] at ha
                subst ha
                refine ⟨s1.free hq1, hqD, ?_⟩
                rw [upd_ne hqD, upd_same, rep_one, Int.toNat_natCast, hxl]
          · rintro H2 ⟨as, hal, hDd, s1, hnd, hall⟩
            rw [hxl] at hal
            -- for k in range(len(row))
            show tRowsB K { D with nx := tRowsC D } _ H2
            refine ⟨_, rfl, ar, xs, rfl, .inr (rowT s1), ?_⟩
            refine ⟨(xs.length : Int), rfl, by omega, by omega, ?_⟩
            rw [Int.toNat_natCast, hxl]
            refine for_range (lo := 0) (n := ns.length) (fun i σ' H' => ∃ w4' w5', σ' = [some (.ref ar), some (.int b), some (.ref as2), some (.ref Dd), w4', w5'] ∧ Same H H' ∧ H' Dd = some (.lst (as.map V.ref)) ∧ ∀ (j : Nat) (a : Addr), as[j]? = some a → H' a = some (.lst (midRow b ns i j)))
              ⟨_, _, rfl, s1, hDd, fun j a ha => by rw [(hall a (List.mem_of_getElem? ha)).2.2, mid_start]⟩ ?_ ?_
            · rintro i σ' H3 hi ⟨w4', w5', rfl, s3, hD3, hrow⟩
              obtain ⟨a, ha⟩ := len_get (show i < as.length by omega)
              obtain ⟨hfree, hne, _⟩ := hall a (List.mem_of_getElem? ha)
              have hgi : (ns.map V.int)[i]? = some (.int (ns.getD i 0)) := by
                rw [List.getElem?_map, List.getElem?_eq_getElem hi, List.getD_eq_getElem?_getD, List.getElem?_eq_getElem hi]; rfl
              have hDi : (as.map V.ref)[i]? = some (.ref a) := by rw [List.getElem?_map, ha]; rfl
              -- rows[k][k] = below - shares[k]
              refine ⟨_, rfl, _, rfl, _, rfl, .inl ⟨as2, _, _, _, rfl, rfl, shL s3, by rw [Int.zero_add]; exact atI_nat hgi, ?_⟩⟩
              refine ⟨_, _, rfl, rfl, ?_⟩
              refine ⟨_, rfl, _, rfl, Dd, _, _, _, rfl, rfl, SqL.of hD3, by rw [Int.zero_add]; exact atI_nat hDi, _, rfl, ?_⟩
              have hix : ixN (midRow b ns i i).length (0 + (i : Int)) = some i := by
                rw [mid_len, Int.zero_add]
                unfold ixN
                rw [if_pos (by omega), if_pos (by omega), Int.toNat_natCast]
              refine ⟨a, _, _, i, rfl, rfl, hrow i a ha, hix, ?_⟩
              have s4 : ∀ o : HO, Same H (upd H3 a o) := fun o b' u e => by rw [upd_ne (ne_of_none e hfree)]; exact s3 b' u e
              -- if k > 0
              refine ⟨_, rfl, _, _, rfl, rfl, _, rfl, ?_⟩
              have finish : ∀ (zs : List V), zs = midRow b ns (i + 1) i → ∀ H4 : Hp, (∀ b', b' ≠ a → H4 b' = H3 b') → H4 a = some (.lst zs) →
                  ∃ w4'' w5'', ([some (.ref ar), some (.int b), some (.ref as2), some (.ref Dd), w4', w5'] : L2.St).set 4 (some (.int (0 + (i : Int)))) = [some (.ref ar), some (.int b), some (.ref as2), some (.ref Dd), w4'', w5''] ∧ Same H H4 ∧ H4 Dd = some (.lst (as.map V.ref)) ∧ ∀ (j : Nat) (a' : Addr), as[j]? = some a' → H4 a' = some (.lst (midRow b ns (i + 1) j)) := fun zs hz H4 hother hat => by
                refine ⟨_, _, rfl, fun b' u e => ?_, ?_, fun j a' ha' => ?_⟩
                · rw [hother b' (ne_of_none e hfree)]; exact s3 b' u e
                · rw [hother Dd (Ne.symm hne)]; exact hD3
                · by_cases hja : a' = a
                  · subst hja
                    have : j = i := nodup_get hnd ha' ha
                    subst this
                    rw [hat, hz]
                  · rw [hother a' hja, hrow j a' ha', mid_other]
                    intro z
                    subst z
                    rw [ha] at ha'
                    cases ha'
                    exact hja rfl
              by_cases h0 : 0 < i
              · have hd : decide ((0 : Int) < 0 + (i : Int)) = true := decide_eq_true (by omega)
                rw [hd]
                refine iteT ?_
                have hgi1 : (ns.map V.int)[i - 1]? = some (.int (ns.getD (i - 1) 0)) := by
                  have hi1 : i - 1 < ns.length := by omega
                  rw [List.getElem?_map, List.getElem?_eq_getElem hi1, List.getD_eq_getElem?_getD, List.getElem?_eq_getElem hi1]; rfl
                have e1 : (0 : Int) + (i : Int) - 1 = ((i - 1 : Nat) : Int) := by omega
                refine ⟨_, rfl, _, rfl, _, _, rfl, rfl, .inl ⟨as2, _, _, _, rfl, rfl, shL (s4 _), by rw [e1]; exact atI_nat hgi1, ?_⟩⟩
                refine ⟨_, rfl, _, rfl, Dd, _, _, _, rfl, rfl, SqL.of (by rw [upd_ne (Ne.symm hne)]; exact hD3), by rw [Int.zero_add]; exact atI_nat hDi, _, rfl, _, _, rfl, rfl, ?_⟩
                have hix1 : ixN ((midRow b ns i i).set i (V.int (b - ns.getD i 0))).length (0 + (i : Int) - 1) = some (i - 1) := by
                  rw [List.length_set, mid_len, e1]
                  unfold ixN
                  rw [if_pos (by omega), if_pos (by omega), Int.toNat_natCast]
                refine ⟨a, _, _, i - 1, rfl, rfl, upd_same, hix1, ?_⟩
                refine finish _ ?_ _ (fun b' hb => by rw [upd_ne hb, upd_ne hb]) upd_same
                rw [mid_turn hi, if_pos h0]
              · have hd : decide ((0 : Int) < 0 + (i : Int)) = false := decide_eq_false (by omega)
                rw [hd]
                refine iteF ?_
                refine finish _ ?_ _ (fun b' hb => by rw [upd_ne hb]) upd_same
                rw [mid_turn hi, if_neg h0]
            · rintro σ' H3 ⟨w4', w5', rfl, s3, hD3, hrow⟩
              -- return (rows, below)
              refine ⟨_, rfl, _, rfl, by show 2 ≤ sizeLine; decide, fun t ht => ?_⟩
              have hrow' : ∀ (j : Nat) (a : Addr), as[j]? = some a → H3 a = some (.lst ((rowOf b ns j).map V.int)) := fun j a ha => by
                rw [hrow j a ha, mid_end]
                have := (List.getElem?_eq_some_iff.mp ha).1
                omega
              -- what data leans on now
              let F1 : Hp := fun a => if a = Dd ∨ a ∈ as then H3 a else F a
              have hFD : F Dd = none := R.sub.free hD
              have hFa : ∀ a ∈ as, F a = none := fun a ha => R.sub.free (hall a ha).1
              have sF1 : Same F F1 := fun a o e => by
                show (if a = Dd ∨ a ∈ as then H3 a else F a) = some o
                rw [if_neg]
                · exact e
                · rintro (z | z)
                  · rw [z, hFD] at e; cases e
                  · rw [hFa a z] at e; cases e
              have F1D : F1 Dd = some (.lst (as.map V.ref)) := by
                show (if Dd = Dd ∨ Dd ∈ as then H3 Dd else F Dd) = _
                rw [if_pos (.inl rfl)]; exact hD3
              have F1a : ∀ a ∈ as, F1 a = H3 a := fun a ha => by
                show (if a = Dd ∨ a ∈ as then H3 a else F a) = _
                rw [if_pos (.inr ha)]
              have newA : ∀ a, a = Dd ∨ a ∈ as → c.H0 a = none := fun a ha => by
                rcases ha with rfl | ha
                · exact R.h0 hD
                · exact R.h0 (hall a ha).1
              have R1 : Rl K c F1 [some (.ref ar), some (.int b), some (.ref as2), some (.ref Dd), w4', w5'] H3 (List.replicate 6 .no) := by
                refine ⟨fun a o e => ?_, R.f0.trans sF1, R.gd.trans s3, R.g0, fun a ha => ?_, fun a ha => ?_, rfl, fun i d hh => ?_, fun i q es hh => ?_⟩
                · have e' : (if a = Dd ∨ a ∈ as then H3 a else F a) = some o := e
                  split at e'
                  · exact e'
                  · exact s3 a o (R.sub a o e')
                · have e' : (if a = Dd ∨ a ∈ as then H3 a else F a) ≠ none := ha
                  split at e'
                  · exact .inr (newA a (by assumption))
                  · exact R.new a e'
                · cases e : H a with
                  | none => exact absurd e (R.dom a ha)
                  | some o => rw [s3 a o e]; simp
                · rw [List.getElem?_replicate] at hh
                  split at hh <;> cases hh
                · rw [List.getElem?_replicate] at hh
                  split at hh <;> cases hh
              obtain ⟨sF2, R2⟩ := R1.laid (o := .tup [V.ref Dd, V.int b]) ht
              have rowsD : ∀ (l : List Addr) (m : Nat), (∀ (j : Nat) (a : Addr), l[j]? = some a → F1 a = some (.lst ((rowOf b ns (m + j)).map V.int))) → DpAll K F1 (l.map V.ref) ((List.range' m l.length).map fun j => .list ((rowOf b ns j).map .int)) := by
                intro l
                induction l with
                | nil => intro m _; exact .nil
                | cons a l ih =>
                  intro m hm
                  have h0 := hm 0 a rfl
                  rw [Nat.add_zero] at h0
                  rw [List.length_cons, List.range'_succ, List.map_cons, List.map_cons]
                  refine .cons (.lst (SqL.of h0) (DpAll.of_ints _)) (ih (m + 1) fun j a' hj => ?_)
                  have := hm (j + 1) a' (by simpa using hj)
                  rw [show m + 1 + j = m + (j + 1) by omega]
                  exact this
              have hd : DpAll K F1 (as.map V.ref) ((rowsOf b ns).map fun r => .list (r.map .int)) := by
                have := rowsD as 0 fun j a ha => by
                  rw [F1a a (List.mem_of_getElem? ha), Nat.zero_add]
                  exact hrow' j a ha
                rw [hal] at this
                unfold rowsOf
                rw [List.range_eq_range', List.map_map]
                exact this
              refine k _ _ _ _ (sF1.trans sF2) R2 (.tup (SqT.of upd_same) (.cons (.lst (SqL.of (sF2 Dd _ F1D)) (hd.up sF2)) (.cons (.int b) .nil)))
    · cases e
  · cases e
end Dn

set_option Elab.async false
set_option linter.all false
set_option maxRecDepth 100000
/-! exceptions: raised, let out by calls, caught -/
namespace Dn
open PySem PySem.Spec PyProof.Rows L2
open PySem.W (Frag)

/-! ### what a def hands back that may raise -/
inductive Xo where
  | ok (d : PyData)
  | ex (cl : Str) (d : PyData)
abbrev FeX := En → Option (Xo × En)
def FinO (K : Frag) (xc : XC) (c : C3) (F : Hp) (σ : L2.St) (o : Xo) (env : En) (Q : VK) : Prop := match o with
  | .ok d => ∀ v F' H', Same F F' → Rl K c F' σ H' env → Dp K F' v d → Q v H'
  | .ex cl d => ∀ F' H v dd, Same F F' → Rl K c F' σ H env → H dd = none → Dp K F' v d → xc.W (.ref (xc.ca cl)) (some dd) σ (upd H dd (xdO v))
def GeX (K : Frag) (xc : XC) (f : FeX) : TE := fun σ H Q => ∃ c F env o env', Rl K c F σ H env ∧ f env = some (o, env') ∧ FinO K xc c F σ o env' Q
theorem FinO.up {K : Frag} {xc : XC} {c : C3} {F F' : Hp} {σ : L2.St} {o : Xo} {env : En} {Q : VK} (h : FinO K xc c F σ o env Q) (s : Same F F') : FinO K xc c F' σ o env Q := by
  cases o with
  | ok d => exact fun v G H s' R hv => h v G H (s.trans s') R hv
  | ex cl d => exact fun G H v dd s' R hd hv => h G H v dd (s.trans s') R hd hv
def spX (K : Frag) (ca : Str → Addr) (n : Nat) (f : List PyData → Option Xo) : Sp := fun vs H Q E => ∃ (F : Hp) (ds : List PyData) (o : Xo), vs.length = n ∧ Same F H ∧ DpAll K F vs ds ∧ f ds = some o ∧ (match o with
  | .ok d => ∀ v F' H', Same F F' → Same F' H' → Same H H' → (∀ b, F' b ≠ none → F b ≠ none ∨ H b = none) → Dp K F' v d → Q v H'
  | .ex cl d => ∀ F' H' v dd, Same F F' → Same F' H' → Same H H' → (∀ b, F' b ≠ none → F b ≠ none ∨ H b = none) → H' dd = none → Dp K F' v d → E (.ref (ca cl)) (some dd) (upd H' dd (xdO v)))
def endX : Option (Flw × En) → Option Xo
  | some (.rt d, _) => some (.ok d)
  | some (.rl ds, _) => some (.ok (.list ds))
  | some (.nx, _) => some (.ok .none)
  | some (.ex cl d, _) => some (.ex cl d)
  | _ => none
def runX (b : Fs) (N n : Nat) : List PyData → Option Xo := fun ds => if ds.length = n then endX (b (en0 N ds)) else none
theorem runX_len {b : Fs} {N n : Nat} (ds : List PyData) (z : Xo) (h : runX b N n ds = some z) : ds.length = n := by
  unfold runX at h
  split at h
  · assumption
  · cases h
section
variable {P : Program} {w : World} {K : Frag} {mg : Str → Option Value} {base : Heap} {x qual : Str} {st : Stmt} {f : Addr} {fd : FuncData} {N ps : List Str} {k n : Nat} {fb : Fs}
theorem okX {ca : Str → Addr} (Fn : L2.Fun K x qual st f fd) (S : FnScope N ps (defScope st)) (hn : ps.length = n)
    (hb : ∀ (cdv : Value) (A : Around) (outer : List Env) (s : Shared) (H : Hp) (E : XK), Room k (A.deeper (envOfC qual (defScope st) s.heap.objs.size f cdv)) → PSs (cxOf (L2.CX P w) P w K mg base N qual (defScope st) f cdv A outer s H E) (defBody st) (Gs K ⟨fun cls d _ H => E cls d H, ca⟩ fb)) :
    FnOk P w K mg base (L2.CX P w) (k + 1) f fd ps (spX K ca n (runX fb N.length n)) := by
  refine Fn.okX S (fun vs H Q E h => ?_) (fun cdv A outer s H vs Q E hr h => ⟨_, hb cdv A outer s H E hr, ?_⟩)
  · obtain ⟨F, ds, d, h1, _⟩ := h
    rw [h1, hn]
  · obtain ⟨F, ds, d, h1, h2, h3, h4, h5⟩ := h
    have hl := h3.len
    have hN : ps.length ≤ N.length := by
      have := congrArg List.length S.pre
      rw [List.length_take] at this
      omega
    unfold runX at h4
    rw [if_pos (by omega)] at h4
    cases e : fb (en0 N.length ds) with
    | none => rw [e] at h4; cases h4
    | some r =>
      obtain ⟨fl, env'⟩ := r
      rw [e] at h4
      have R : Rl K ⟨H, F, H, vs⟩ F (L2.start N vs) H (en0 N.length ds) := by
        refine ⟨h2, Same.refl F, Same.refl H, Same.refl H, fun a h => .inl h, fun a h => h, ?_, fun i d h => ?_, fun i p es h => (en0_own h).elim⟩
        · rw [start_len (by omega)]
          unfold en0
          rw [List.length_append, List.length_map, List.length_replicate]
          omega
        · obtain ⟨v, e1, e2⟩ := h3.at (en0_val h)
          exact ⟨v, start_get e1, e2⟩
      refine ⟨⟨H, F, H, vs⟩, F, en0 N.length ds, fl, env', R, e, ?_⟩
      have fin : ∀ {σ' : L2.St} {F' H' : Hp}, Rl K ⟨H, F, H, vs⟩ F' σ' H' env' → Same F F' ∧ Same F' H' ∧ Same H H' ∧ ∀ b, F' b ≠ none → F b ≠ none ∨ H b = none := fun R' => ⟨R'.f0, R'.sub, R'.gd, R'.new⟩
      cases fl with
      | nx =>
        cases h4
        intro σ' F' H' s' R'
        obtain ⟨a1, a2, a3, a4⟩ := fin R'
        exact h5 .non F' H' a1 a2 a3 a4 .non
      | rt d' =>
        cases h4
        intro σ' F' H' v s' R' hv
        obtain ⟨a1, a2, a3, a4⟩ := fin R'
        exact h5 v F' H' a1 a2 a3 a4 hv
      | rl es =>
        cases h4
        intro σ' F' H' p xs s' hp R' hx
        obtain ⟨sF, R2⟩ := R'.laid (o := .lst xs) hp
        obtain ⟨a1, a2, a3, a4⟩ := fin R2
        exact h5 (.ref p) _ _ a1 a2 a3 a4 (.lst (SqL.of upd_same) (hx.up sF))
      | bk => cases h4
      | ct => cases h4
      | ex cl d' =>
        cases h4
        intro σ' F' H' v dd s' R' hd hv
        obtain ⟨a1, a2, a3, a4⟩ := fin R'
        exact h5 F' H' v dd a1 a2 a3 a4 hd hv
end
/-! ### raise -/
def sRaise (cl : Str) (f : Fe) : Fs := fun env => (f env).map fun p => (.ex cl p.1, p.2)
/-! ### expressions that may raise -/
def xP (f : Fe) : FeX := fun env => (f env).map fun p => (.ok p.1, p.2)
def xA (g : List PyData → Option Xo) (fl : Fl) : FeX := fun env => (fl env).bind fun p => (g p.1).map fun z => (z, p.2)
/-- (a written constant, f) -/
def xTup (k : PyData) (f : FeX) : FeX := fun env => (f env).map fun p => (match p.1 with
  | .ok d => .ok (.tuple [k, d])
  | .ex cl d => .ex cl d, p.2)
def sSetX (f : FeX) (i : Nat) : Fs := fun env => (f env).map fun p => match p.1 with
  | .ok d => (.nx, p.2.set i (.val d))
  | .ex cl d => (.ex cl d, p.2)
def sRtX (f : FeX) : Fs := fun env => (f env).map fun p => match p.1 with
  | .ok d => (.rt d, p.2)
  | .ex cl d => (.ex cl d, p.2)
def sExX (f : FeX) : Fs := fun env => (f env).map fun p => match p.1 with
  | .ok d => (.nx, p.2)
  | .ex cl d => (.ex cl d, p.2)
section
variable {X : Cx} {xc : XC} {k n : Nat} {f C D fI : Addr} {fd : FuncData} {ps : List Str} {x : Str} {p pos pos2 : Pos} {e a : Expr} {es : List Expr} {fl : Fl} {fe : Fe} {fx : FeX} {g : List PyData → Option Xo}
theorem ds_raise (hc : X.calm = true) (tk : Takes X xc.W) (T : PySem.CaskX.CaskTxt X.prog X.K X.mg (xc.ca x) D fI) (gC : X.mg x = some (.ref (xc.ca x))) (hr : Room k X.A) (hg : Gl X x) (ha : PE X a (Ge X.K fe)) (hdb : (x == ("__debug__" : Str)) = false := by decide)
    (he : starEach (a :: []) X.env = (false, eval a X.env) :: starEach [] X.env := by rfl) (hpl : (backTo pos (starEach [] X.env)).any (·.1) = false := by rfl) :
    PS X (.Raise (some (.Call (.Name x p) [a] [] pos)) none pos2) (Gs X.K xc (sRaise x fe)) := PS.imp (ps_raise hc tk (pmk_cask T gC hr (pa_cons ha pa_nil he) hg hdb he hpl)) fun Dd σ H ⟨c, F, env, fl, env', R, e, kk⟩ => by
  unfold sRaise at e
  simp only [Option.map_eq_some_iff] at e
  obtain ⟨⟨d1, n1⟩, h1, h2⟩ := e
  obtain ⟨rfl, rfl⟩ := Prod.mk.inj h2
  exact ⟨c, F, env, d1, n1, R, h1, fun v F' H' s R' hv => ⟨v, rfl, fun dd hd => kk σ F' H' v dd s R' hd hv⟩⟩
theorem dx_pure (h : PE X e (Ge X.K fe)) : PE X e (GeX X.K xc (xP fe)) := PE.imp h fun σ H Q ⟨c, F, env, o, env', R, e, kk⟩ => by
  unfold xP at e
  simp only [Option.map_eq_some_iff] at e
  obtain ⟨⟨d1, n1⟩, h1, h2⟩ := e
  obtain ⟨rfl, rfl⟩ := Prod.mk.inj h2
  exact ⟨c, F, env, d1, n1, R, h1, kk⟩
theorem dx_call (Fk : FnOk X.prog X.w X.K X.mg X.base (L2.CX X.prog X.w) k f fd ps (spX X.K xc.ca n g)) (hl : ∀ ds z, g ds = some z → ds.length = n) (hr : Room k X.A) (tk : Takes X xc.W) (hg : Gl X x) (hm : X.mg x = some (.ref f)) (hk : PySem.W.keepIn X.K (.ref f) = true) (hb : Binds X.K fd ps []) (ha : PA X (e :: es) (Ga X.K fl))
    (hdb : (x == ("__debug__" : Str)) = false := by decide) (he : starEach (e :: es) X.env = (false, eval e X.env) :: starEach es X.env := by rfl) (hpl : (backTo pos (starEach es X.env)).any (·.1) = false := by rfl) :
    PE X (.Call (.Name x p) (e :: es) [] pos) (GeX X.K xc (xA g fl)) := PE.imp (pe_callS (E := WE xc.W) Fk hr hg hm hk hb (fun σ => passAt tk σ) ha hdb he hpl) fun σ H Q ⟨c, F, env, o, env', R, e, kk⟩ => by
  unfold xA at e
  simp only [Option.bind_eq_some_iff, Option.map_eq_some_iff] at e
  obtain ⟨⟨d1, n1⟩, h1, z, h3, h4⟩ := e
  obtain ⟨rfl, rfl⟩ := Prod.mk.inj h4
  refine ⟨c, F, env, d1, n1, R, h1, fun vs F1 H1 s1 R1 hv => ⟨F1, d1, z, by rw [hv.len]; exact hl _ _ h3, R1.sub, hv, h3, ?_⟩⟩
  cases z with
  | ok d => exact fun v F' H' a1 a2 a3 a4 hv => kk v F' H' (s1.trans a1) (R1.after a1 a2 a3 a4) hv
  | ex cl d => exact fun F' H' v dd a1 a2 a3 a4 hd hv => kk F' H' v dd (s1.trans a1) (R1.after a1 a2 a3 a4) hd hv
theorem dx_tup {kc : Expr} {u : V} {dk : PyData} {x1} (hk : PE X kc (tC u)) (hu : ∀ F, Dp X.K F u dk) (h : PE X e (GeX X.K xc fx)) (hs1 : starEach (kc :: e :: []) X.env = (false, eval kc X.env) :: starEach (e :: []) X.env := by rfl) (hs2 : starEach (e :: []) X.env = (false, eval e X.env) :: starEach [] X.env := by rfl) :
    PE X (.Tuple [kc, e] x1 pos) (GeX X.K xc (xTup dk fx)) := PE.imp (pe_tup (pa_cons hk (pa_cons h pa_nil hs2) hs1)) fun σ H Q ⟨c, F, env, o, env', R, e, kk⟩ => by
  unfold xTup at e
  simp only [Option.map_eq_some_iff] at e
  obtain ⟨⟨o1, n1⟩, h1, h2⟩ := e
  obtain ⟨rfl, rfl⟩ := Prod.mk.inj h2
  refine ⟨c, F, env, o1, n1, R, h1, ?_⟩
  cases o1 with
  | ok d =>
    refine fun v F' H' s R' hv => ⟨by show 2 ≤ sizeLine; decide, fun t ht => ?_⟩
    obtain ⟨sF, R2⟩ := R'.laid (o := .tup [u, v]) ht
    exact kk (.ref t) _ _ (s.trans sF) R2 (.tup (SqT.of upd_same) (.cons (hu _) (.cons (hv.up sF) .nil)))
  | ex cl d => exact kk
theorem ds_setX (i : Nat) {y : Str} {pos' : Pos} (hN : X.N.Nodup) (he : PE X e (GeX X.K xc fx)) (hi : X.N[i]? = some y := by rfl) (hx : Loc X.env.scope y := by first | exact Or.inl rfl | exact Or.inr rfl) (hs : swapsWith e (some (.Name y pos')) pos.line X.env = pure false := by rfl)
    (hf : X.fn y = true ∨ X.env.scope.names.lookup y = some .local := by first | exact .inl rfl | exact .inr rfl | assumption) : PS X (.Assign [.Name y pos'] e pos) (Gs X.K xc (sSetX fx i)) := PS.imp (ps_set hN hi hx he hs hf) fun D σ H ⟨c, F, env, fl, env', R, e, kk⟩ => by
  unfold sSetX at e
  simp only [Option.map_eq_some_iff] at e
  obtain ⟨⟨o1, n1⟩, h1, h2⟩ := e
  refine ⟨c, F, env, o1, n1, R, h1, ?_⟩
  cases o1 with
  | ok d =>
    obtain ⟨rfl, rfl⟩ := Prod.mk.inj h2
    exact fun v F' H' s R' hv => kk _ F' H' s (R'.put hv i)
  | ex cl d =>
    obtain ⟨rfl, rfl⟩ := Prod.mk.inj h2
    exact fun F' H' v dd s R' hd hv => kk σ F' H' v dd s R' hd hv
theorem ds_retX (he : PE X e (GeX X.K xc fx)) : PS X (.Return (some e) pos) (Gs X.K xc (sRtX fx)) := PS.imp (ps_ret he) fun D σ H ⟨c, F, env, fl, env', R, e, kk⟩ => by
  unfold sRtX at e
  simp only [Option.map_eq_some_iff] at e
  obtain ⟨⟨o1, n1⟩, h1, h2⟩ := e
  refine ⟨c, F, env, o1, n1, R, h1, ?_⟩
  cases o1 with
  | ok d =>
    obtain ⟨rfl, rfl⟩ := Prod.mk.inj h2
    exact fun v F' H' s R' hv => kk σ F' H' v s R' hv
  | ex cl d =>
    obtain ⟨rfl, rfl⟩ := Prod.mk.inj h2
    exact fun F' H' v dd s R' hd hv => kk σ F' H' v dd s R' hd hv
theorem ds_exprX (he : PE X e (GeX X.K xc fx)) (hs : swapsWith e none pos.line X.env = pure false := by rfl) : PS X (.Expr e pos) (Gs X.K xc (sExX fx)) := PS.imp (ps_expr he hs) fun D σ H ⟨c, F, env, fl, env', R, e, kk⟩ => by
  unfold sExX at e
  simp only [Option.map_eq_some_iff] at e
  obtain ⟨⟨o1, n1⟩, h1, h2⟩ := e
  refine ⟨c, F, env, o1, n1, R, h1, ?_⟩
  cases o1 with
  | ok d =>
    obtain ⟨rfl, rfl⟩ := Prod.mk.inj h2
    exact fun v F' H' s R' hv => kk σ F' H' s R'
  | ex cl d =>
    obtain ⟨rfl, rfl⟩ := Prod.mk.inj h2
    exact fun F' H' v dd s R' hd hv => kk σ F' H' v dd s R' hd hv
end
end Dn

set_option Elab.async false
set_option linter.all false
set_option maxRecDepth 100000
/-! try: body, except C as e: y = .. e.value .. -/
namespace Dn
open PySem PySem.Spec PyProof.Rows L2
open PySem.W (Frag)
/-- a slot forgets -/
theorem Rl.junk {K : Frag} {c : C3} {F H : Hp} {σ : L2.St} {env : En} (R : Rl K c F σ H env) (i : Nat) (x : Option V) : Rl K c F (σ.set i x) H (env.set i .no) := by
  have R1 := R.forget i
  refine ⟨R1.sub, R1.f0, R1.gd, R1.g0, R1.new, R1.dom, by simp [R.len], fun j e hj => ?_, fun j p ds hj => ?_⟩
  · by_cases hij : i = j
    · subst hij
      cases get_set_self hj
    · obtain ⟨u, h1, h2⟩ := R1.val j e hj
      rw [get_set_ne hij] at h1
      exact ⟨u, by rw [get_set_ne hij]; exact h1, h2⟩
  · by_cases hij : i = j
    · subst hij
      cases get_set_self hj
    · obtain ⟨a, xs, e1, e2, e3, e4, e5, e6, e7⟩ := R1.own j p ds hj
      rw [get_set_ne hij] at e1
      refine ⟨a, xs, by rw [get_set_ne hij]; exact e1, e2, e3, e4, e5, e6, fun k q es hk hq => ?_⟩
      have z := e7 k q es hk hq
      by_cases hik : i = k
      · subst hik
        cases get_set_self hq
      · rw [get_set_ne hik] at z ⊢
        exact z
/-- what an except suite's expression makes of the error's value -/
def SuiteE (X : Cx) (i : Nat) (e : Expr) (mk : PyData → PyData) : Prop := ∀ (a : Addr) (oe : Obj) (C dd : Addr) (pn : List (Addr × Obj)), XfC X.K C → PySem.W.findIn X.K (.ref C) "value" = some none → Zc (.ref C) (some dd) oe → (∃ vs, oe.data = .fields vs) →
  ∃ te : TE, PE (X.suite a ((a, oe) :: pn)) e te ∧ ∀ (c : C3) (F : Hp) (env : En) (σ : L2.St) (H : Hp) (v : V) (d : PyData) (Q : VK), Rl X.K c F σ H env → σ[i]? = some (some (.ref a)) → H dd = some (xdO v) → Dp X.K F v d →
    (∀ v' F' H', Same F F' → Rl X.K c F' σ H' env → Dp X.K F' v' (mk d) → Q v' H') → te σ H Q
section
variable {X : Cx} {i : Nat} {n : Str} {p pos : Pos}
theorem suite_val (hN : X.N[i]? = some n := by rfl) (hv : Vis X.env.scope n := by first | exact Or.inl rfl | exact Or.inr (Or.inl rfl) | exact Or.inr (Or.inr rfl)) (hd : (n == ("__debug__" : Str)) = false := by decide) (hcd : (n == ("__classdict__" : Str)) = false := by decide)
    (hb : attributeBase (.Name n p) "value" X.env (eval (.Name n p) X.env) = eval (.Name n p) X.env := by rfl) : SuiteE X i (.Attribute (.Name n p) "value" pos) fun d => d := by
  intro a oe C dd pn T hno hz hf
  refine ⟨_, pe_xf T hno hz hf (pe_var (X := X.suite a ((a, oe) :: pn)) hN hv hd hcd) hb, fun c F env σ H v d Q R hσ hH hv k => ?_⟩
  exact ⟨.ref a, hσ, rfl, rfl, dd, _, v, rfl, hH, by simp [List.lookup], k v F H (Same.refl F) R hv⟩
theorem suite_tup {kc e : Expr} {u : V} {dk : PyData} {mk : PyData → PyData} {x1} (hk : ∀ a pn, PE (X.suite a pn) kc (tC u)) (hu : ∀ F, Dp X.K F u dk) (h : SuiteE X i e mk) (hs1 : starEach (kc :: e :: []) X.env = (false, eval kc X.env) :: starEach (e :: []) X.env := by rfl) (hs2 : starEach (e :: []) X.env = (false, eval e X.env) :: starEach [] X.env := by rfl) :
    SuiteE X i (.Tuple [kc, e] x1 pos) fun d => .tuple [dk, mk d] := by
  intro a oe C dd pn T hno hz hf
  obtain ⟨te, h1, h2⟩ := h a oe C dd pn T hno hz hf
  refine ⟨_, pe_tup (pa_cons (hk a _) (pa_cons h1 pa_nil hs2) hs1), fun c F env σ H v d Q R hσ hH hv k => ?_⟩
  refine h2 c F env σ H v d _ R hσ hH hv fun v' F' H' s R' hv' => ⟨by show 2 ≤ sizeLine; decide, fun t ht => ?_⟩
  obtain ⟨sF, R2⟩ := R'.laid (o := .tup [u, v']) ht
  exact k (.ref t) _ _ (s.trans sF) R2 (.tup (SqT.of upd_same) (.cons (hu _) (.cons (hv'.up sF) .nil)))
theorem suite_lst {e : Expr} {mk : PyData → PyData} (h : SuiteE X i e mk) (hs2 : starEach (e :: []) X.env = (false, eval e X.env) :: starEach [] X.env := by rfl) :
    SuiteE X i (.List [e] pos) fun d => .list [mk d] := by
  intro a oe C dd pn T hno hz hf
  obtain ⟨te, h1, h2⟩ := h a oe C dd pn T hno hz hf
  refine ⟨_, pe_lst (pa_cons h1 pa_nil hs2), fun c F env σ H v d Q R hσ hH hv k => ?_⟩
  refine h2 c F env σ H v d _ R hσ hH hv fun v' F' H' s R' hv' => ⟨by show 1 ≤ sizeLine; decide, fun t ht => ?_⟩
  obtain ⟨sF, R2⟩ := R'.laid (o := .lst [v']) ht
  exact k (.ref t) _ _ (s.trans sF) R2 (.lst (SqL.of upd_same) (.cons (hv'.up sF) .nil))
end
/-- an error of the class at S is what «except S» names -/
theorem exm_self {K : PySem.W.Frag} {S : Addr} (h1 : PySem.W.subIn K (.ref S) (.type "BaseException") = some true) (h2 : PySem.W.isClsIn K S = true) (h3 : PySem.W.typeIn K (.ref S) = some (.type "type")) (h4 : PySem.W.subIn K (.ref S) (.ref S) = some true) :
    PySem.W.exmOne K (.ref S) (.ref S) = some true := by
  have e1 : (PySem.W.subIn K (.ref S) (.type "BaseException") == some true) = true := by rw [h1] <;> rfl
  have e2 : ((PySem.W.clsIn K S).isSome && PySem.W.typeIn K (.ref S) == some (.type "type")) = true := by
    have h2' : (PySem.W.clsIn K S).isSome = true := h2
    rw [h2', h3] <;> rfl
  show (if (PySem.W.subIn K (.ref S) (.type "BaseException") == some true) = true then (if ((PySem.W.clsIn K S).isSome && PySem.W.typeIn K (.ref S) == some (.type "type")) = true then PySem.W.subIn K (.ref S) (.ref S) else none) else none) = some true
  rw [if_pos e1, if_pos e2]
  exact h4
def sTry (cl : Str) (i j : Nat) (mk : PyData → PyData) (b : Fs) : Fs := fun env => (b env).bind fun p => match p.1 with
  | .ex c d => if c = cl ∧ i < p.2.length then some (.nx, ((p.2.set i .no).set j (.val (mk d))).set i .no) else none
  | _ => some p
section
variable {X : Cx} {xc : XC} {n y cl : Str} {i j : Nat} {body : List Stmt} {e : Expr} {fb : Fs} {mk : PyData → PyData} {np py pos spos hpos : Pos}
theorem ds_try (i j : Nat) (hN : X.N.Nodup) (hc : Names X cl (.ref (xc.ca cl))) (tk : Takes X xc.W) (hX : XfC X.K (xc.ca cl)) (hno : PySem.W.findIn X.K (.ref (xc.ca cl)) "value" = some none) (hm : PySem.W.exmOne X.K (.ref (xc.ca cl)) (.ref (xc.ca cl)) = some true)
    (hb : ∀ (W : WX) (pn : List (Addr × Obj)) (xe : Value → Shared → Prop), Takes (X.tr pn xe) W → PassesOwn (model X.prog X.w) X.A X.env xe → PSs (X.tr pn xe) body (Gs X.K ⟨W, xc.ca⟩ fb))
    (hE : SuiteE X i e mk) (hs : X.stack = X.env :: X.outer := by rfl) (hf : X.env.frame = some X.env.locals := by rfl) (hi : X.N[i]? = some n := by rfl) (hln : X.env.kindOf n = some .local := by rfl) (hj : X.N[j]? = some y := by rfl) (hij : i ≠ j := by decide)
    (hy : Loc X.env.scope y := by first | exact Or.inl rfl | exact Or.inr rfl) (hsw : swapsWith e (some (.Name y py)) spos.line X.env = pure false := by rfl)
    (hfy : X.fn y = true ∨ X.env.scope.names.lookup y = some .local := by first | exact .inl rfl | exact .inr rfl | assumption) :
    PS X (.Try body [.ExceptHandler (some (.Name cl np)) (some n) [.Assign [.Name y py] e spos] hpos] [] [] pos) (Gs X.K xc (sTry cl i j mk fb)) := by
  let ts : Addr → Value → Option Addr → TS := fun a cls dO D σ H => ∃ (dd : Addr) (v : V), cls = .ref (xc.ca cl) ∧ dO = some dd ∧ H dd = some (xdO v) ∧ ∃ (c : C3) (F : Hp) (env : En) (d : PyData), Rl X.K c F σ H env ∧ σ[i]? = some (some (.ref a)) ∧ Dp X.K F v d ∧
    ∀ v' F' H', Same F F' → Rl X.K c F' σ H' env → Dp X.K F' v' (mk d) → D.nx (σ.set j (some v')) H'
  refine PS.imp (ps_try_as (tb := fun W => Gs X.K ⟨W, xc.ca⟩ fb) (ts := ts) (Wout := xc.W) hs hf hN hi hln hc tk hb (fun a oe cls dO pn hz hfl => ?_)) fun D σ H ⟨c, F, env, fl, env', R, e0, kk⟩ => ?_
  · refine pss_one ⟨fun pins s σ H D I h => ?_⟩
    obtain ⟨dd, v, rfl, rfl, hH, c, F, env, d, R, hσ, hv, k⟩ := h
    obtain ⟨te, h1, h2⟩ := hE a oe (xc.ca cl) dd pn hX hno hz hfl
    exact (ps_set (X := X.suite a ((a, oe) :: pn)) hN hj hy h1 hsw hfy).run pins s σ H D I (h2 c F env σ H v d _ R hσ hH hv fun v' F' H' s R' hv' => k v' F' H' s R' hv')
  · unfold sTry at e0
    simp only [Option.bind_eq_some_iff] at e0
    obtain ⟨⟨f1, n1⟩, h1, h2⟩ := e0
    refine ⟨c, F, env, f1, n1, R, h1, ?_⟩
    cases f1 with
    | nx => cases h2; exact kk
    | rt d => cases h2; exact kk
    | rl d => cases h2; exact kk
    | bk => cases h2; exact kk
    | ct => cases h2; exact kk
    | ex c' d =>
      dsimp only at h2
      split at h2
      · rename_i hcl
        have hc' := hcl.1
        subst hc'
        cases h2
        intro σ' F' H' v dd s R' hd hv
        refine ⟨true, hm, fun _ a ha => ?_, fun z => nomatch z⟩
        have R1 := (R'.grow (o := xdO v) hd).junk i (some (.ref a))
        have hil : i < σ'.length := by rw [← R'.len]; exact hcl.2
        refine ⟨dd, v, rfl, rfl, upd_same, c, F', _, d, R1, by rw [List.getElem?_set_self hil], hv, fun v' F'' H'' s2 R2 hv' => ?_⟩
        exact kk _ F'' H'' (s.trans s2) ((R2.put hv' j).junk i none)
      · cases h2
end
end Dn

set_option Elab.async false
set_option linter.all false
set_option maxRecDepth 100000
/-! calls with keywords -/
namespace Dn
open PySem PySem.Spec PyProof.Rows L2
open PySem.W (Frag)
/-- the parameters' values: p by place, q by name, which of them is each parameter's -/
def kG {α : Type} (p q : Nat) (pm : List Nat) (d : α) (us ws : List α) : List α := if us.length = p ∧ ws.length = q then pm.map fun i => (us ++ ws).getD i d else []
theorem vals_getD {vs : List V} {us : List Value} (r : Vals vs us) (i : Nat) : RelV (vs.getD i .non) (us.getD i .none) := by
  induction r generalizing i with
  | nil => exact rfl
  | cons h _ ih =>
    cases i with
    | zero => exact h
    | succ i => exact ih i
theorem vals_map {vs : List V} {us : List Value} (r : Vals vs us) : ∀ pm : List Nat, Vals (pm.map fun i => vs.getD i .non) (pm.map fun i => us.getD i .none)
  | [] => .nil
  | i :: pm => .cons (vals_getD r i) (vals_map r pm)
theorem kbinds_of {K : Frag} {fd : FuncData} {ps ks : List Str} {p q : Nat} {pm : List Nat} (h : ∀ (s : Shared) (us ws : List Value), K.In s.heap → us.length = p → ws.length = q → BindsTo s fd ⟨us, ks.zip ws⟩ (ps.zip (pm.map fun i => (us ++ ws).getD i .none))) (hps : 0 < ps.length) :
    KBinds K fd ps ks (kG p q pm .none) (kG p q pm .non) := by
  refine ⟨fun s us ws X hl => ?_, fun {vs us zs ws} r1 r2 => ?_⟩
  · unfold kG at hl ⊢
    by_cases hc : us.length = p ∧ ws.length = q
    · rw [if_pos hc]
      exact h s us ws X hc.1 hc.2
    · rw [if_neg hc] at hl
      simp at hl
      omega
  · unfold kG
    rw [r1.length, r2.length]
    by_cases hc : us.length = p ∧ ws.length = q
    · rw [if_pos hc, if_pos hc]
      exact vals_map (r1.append r2) pm
    · rw [if_neg hc, if_neg hc]
      exact .nil
theorem dp_getD {K : Frag} {F : Hp} {vs : List V} {ds : List PyData} (h : DpAll K F vs ds) (i : Nat) : Dp K F (vs.getD i .non) (ds.getD i .none) := by
  by_cases hi : i < ds.length
  · obtain ⟨v, h1, h2⟩ := h.at (List.getElem?_eq_getElem hi)
    rw [List.getD_eq_getElem?_getD, List.getD_eq_getElem?_getD, h1, List.getElem?_eq_getElem hi]
    exact h2
  · rw [List.getD_eq_getElem?_getD, List.getD_eq_getElem?_getD, List.getElem?_eq_none (by rw [h.len]; omega), List.getElem?_eq_none (by omega)]
    exact .non
theorem dp_map {K : Frag} {F : Hp} {vs : List V} {ds : List PyData} (h : DpAll K F vs ds) : ∀ pm : List Nat, DpAll K F (pm.map fun i => vs.getD i .non) (pm.map fun i => ds.getD i .none)
  | [] => .nil
  | i :: pm => .cons (dp_getD h i) (dp_map h pm)
theorem dp_kG {K : Frag} {F : Hp} {p q : Nat} {pm : List Nat} {vs ws : List V} {ds es : List PyData} (h : DpAll K F vs ds) (h2 : DpAll K F ws es) : DpAll K F (kG p q pm .non vs ws) (kG p q pm .none ds es) := by
  unfold kG
  rw [h.len, h2.len]
  by_cases hc : ds.length = p ∧ es.length = q
  · rw [if_pos hc, if_pos hc]
    exact dp_map (h.app h2) pm
  · rw [if_neg hc, if_neg hc]
    exact .nil
/-- the arguments, put in the parameters' order -/
def lK (p q : Nat) (pm : List Nat) (fl fk : Fl) : Fl := fun env => (fl env).bind fun a => (fk a.2).map fun b => (kG p q pm .none a.1 b.1, b.2)
theorem _root_.L2.PK.imp {X : Cx} {es : List Keyword} {t u : TA} (h : PK X es t) (w : ∀ σ H Q, u σ H Q → t σ H Q) : PK X es u := ⟨fun pos pins s σ H Q I q => h.run pos pins s σ H Q I (w σ H Q q)⟩
section
variable {X : Cx} {xc : XC} {CX : CXT} {k n p q : Nat} {pm : List Nat} {f : Addr} {fd : FuncData} {ps ks : List Str} {sp : Sp} {E : XK} {x : Str} {np pos kpos : Pos} {e : Expr} {es : List Expr} {kws : List Keyword} {t tk : TA} {fe : Fe} {fl fk : Fl} {nm : Option Str} {g : List PyData → Option PyData} {gx : List PyData → Option Xo}
theorem dk_nil : PK X [] (Ga X.K lNil) := PK.imp pk_nil fun σ H Q ⟨c, F, env, d, env', R, e, k⟩ => by
  cases e
  exact k [] F H (Same.refl F) R .nil
theorem dk_cons (ha : PE X e (Ge X.K fe)) (hr : PK X kws (Ga X.K fl)) : PK X (⟨nm, e, kpos⟩ :: kws) (Ga X.K (lCons fe fl)) := PK.imp (pk_cons ha hr) fun σ H Q h => by
  obtain ⟨c, F, env, d, env', R, e, k⟩ := h
  unfold lCons at e
  simp only [Option.bind_eq_some_iff, Option.map_eq_some_iff] at e
  obtain ⟨⟨d1, n1⟩, h1, ⟨d2, n2⟩, h2, h4⟩ := e
  obtain ⟨rfl, rfl⟩ := Prod.mk.inj h4
  refine ⟨c, F, env, d1, n1, R, h1, fun v1 F1 H1 s1 R1 p1 => ⟨c, F1, n1, d2, n2, R1, h2, fun v2 F2 H2 s2 R2 p2 => ?_⟩⟩
  exact k (v1 :: v2) F2 H2 (s1.trans s2) R2 (.cons (p1.up s2) p2)
/-- f(k = v, ..) -/
theorem pe_callK0 {g : List Value → List Value → List Value} {gV : List V → List V → List V} (F : FnOk X.prog X.w X.K X.mg X.base CX k f fd ps sp) (hr : Room k X.A) (hg : Gl X x) (hm : X.mg x = some (.ref f)) (hk : PySem.W.keepIn X.K (.ref f) = true) (hb : KBinds X.K fd ps ks g gV) (hx : Passes CX X E)
    (hkw : PK X kws tk) (hall : (backToKw pos (keywordEach kws X.env)).all (·.1.isSome) = true := by rfl) (hks : (backToKw pos (keywordEach kws X.env)).filterMap (·.1) = ks := by rfl)
    (hdb : (x == ("__debug__" : Str)) = false := by decide) (hpl : ((backTo pos (starEach [] X.env)).any (·.1) || (backToKw pos (keywordEach kws X.env)).any (·.1.isNone)) = false := by rfl) :
    PE X (.Call (.Name x np) [] kws pos) (tCallK sp gV E tNil tk) := by
  refine ⟨fun pins s σ H Q I h => ?_⟩
  refine wpAny_Call_Name_kw (ld_glob I hg hm ?_ hdb)
  refine PySem.W.callWith_KW0 (h₀ := X.base) I.ok.mod.kin hk hall (thn (hkw.run pos pins s σ H _ I h) fun ws s2 ⟨zs, H2, I2, rz, q2⟩ => ⟨I2.kIn, ?_⟩) hpl
  rw [hks]
  exact run_fnk (us := []) (vs := []) F hr hb hx I2 .nil rz q2
theorem read_K {K : Frag} {E : XK} (hl : ∀ ds z, g ds = some z → ds.length = n) {σ : L2.St} {H : Hp} {Q : VK} (h : Ge K (eA g (lK p q pm fl fk)) σ H Q) : tCallK (spP K n g) (kG p q pm .non) E (Ga K fl) (Ga K fk) σ H Q := by
  obtain ⟨c, F, env, d, env', R, e, kk⟩ := h
  unfold eA lK at e
  simp only [Option.bind_eq_some_iff, Option.map_eq_some_iff] at e
  obtain ⟨⟨d1, n1⟩, ⟨⟨d2, n2⟩, h1, ⟨d3, n3⟩, h2, h3⟩, z, h4, h5⟩ := e
  obtain ⟨rfl, rfl⟩ := Prod.mk.inj h3
  obtain ⟨rfl, rfl⟩ := Prod.mk.inj h5
  refine ⟨c, F, env, d2, n2, R, h1, fun v1 F1 H1 s1 R1 p1 => ⟨c, F1, n2, d3, n3, R1, h2, fun v2 F2 H2 s2 R2 p2 => ?_⟩⟩
  have hv := dp_kG (p := p) (q := q) (pm := pm) (p1.up s2) p2
  exact ⟨F2, _, z, by rw [hv.len]; exact hl _ _ h4, R2.sub, hv, h4, fun v F' H' a1 a2 a3 a4 hv' => kk v F' H' ((s1.trans s2).trans a1) (R2.after a1 a2 a3 a4) hv'⟩
theorem de_callK (Fk : FnOk X.prog X.w X.K X.mg X.base CX0 k f fd ps (spP X.K n g)) (hl : ∀ ds z, g ds = some z → ds.length = n) (hr : Room k X.A) (hg : Gl X x) (hm : X.mg x = some (.ref f)) (hk : PySem.W.keepIn X.K (.ref f) = true) (hb : KBinds X.K fd ps ks (kG p q pm .none) (kG p q pm .non)) (ha : PA X (e :: es) (Ga X.K fl)) (hkw : PK X kws (Ga X.K fk))
    (hall : (backToKw pos (keywordEach kws X.env)).all (·.1.isSome) = true := by rfl) (hks : (backToKw pos (keywordEach kws X.env)).filterMap (·.1) = ks := by rfl) (hdb : (x == ("__debug__" : Str)) = false := by decide) (he : starEach (e :: es) X.env = (false, eval e X.env) :: starEach es X.env := by rfl)
    (hpl : ((backTo pos (starEach (e :: es) X.env)).any (·.1) || (backToKw pos (keywordEach kws X.env)).any (·.1.isNone)) = false := by rfl) :
    PE X (.Call (.Name x np) (e :: es) kws pos) (Ge X.K (eA g (lK p q pm fl fk))) := PE.imp (pe_callK (E := E0) Fk hr hg hm hk hb pass0 ha hkw hall hks hdb he hpl) fun _ _ _ h => read_K hl h
theorem de_callK0 (Fk : FnOk X.prog X.w X.K X.mg X.base CX0 k f fd ps (spP X.K n g)) (hl : ∀ ds z, g ds = some z → ds.length = n) (hr : Room k X.A) (hg : Gl X x) (hm : X.mg x = some (.ref f)) (hk : PySem.W.keepIn X.K (.ref f) = true) (hb : KBinds X.K fd ps ks (kG p q pm .none) (kG p q pm .non)) (hkw : PK X kws (Ga X.K fk))
    (hall : (backToKw pos (keywordEach kws X.env)).all (·.1.isSome) = true := by rfl) (hks : (backToKw pos (keywordEach kws X.env)).filterMap (·.1) = ks := by rfl) (hdb : (x == ("__debug__" : Str)) = false := by decide)
    (hpl : ((backTo pos (starEach [] X.env)).any (·.1) || (backToKw pos (keywordEach kws X.env)).any (·.1.isNone)) = false := by rfl) :
    PE X (.Call (.Name x np) [] kws pos) (Ge X.K (eA g (lK p q pm lNil fk))) := PE.imp (pe_callK0 (E := E0) Fk hr hg hm hk hb pass0 hkw hall hks hdb hpl) fun σ H Q h => by
  obtain ⟨c, F, env, a, n1, R, e, kk⟩ := read_K (K := X.K) (E := E0) hl h
  cases e
  exact kk [] F H (Same.refl F) R .nil
/-! .. of defs that raise -/
def tCallKS (sp : Sp) (gV : List V → List V → List V) (E : L2.St → XK) (t tk : TA) : TE := fun σ H Q => t σ H fun vs H1 => tk σ H1 fun zs H2 => sp (gV vs zs) H2 Q (E σ)
theorem run_fnkS {E : L2.St → XK} {g : List Value → List Value → List Value} {gV : List V → List V → List V} {pins : List (Addr × Obj)} {σ : L2.St} {H : Hp} {s : Shared} {Q : VK} {us ws : List Value} {vs zs : List V} (F : FnOk X.prog X.w X.K X.mg X.base CX k f fd ps sp) (hr : Room k X.A) (hb : KBinds X.K fd ps ks g gV) (hx : PassesAt CX X σ (E σ))
    (I : Inv X pins σ H s) (r : Vals vs us) (rz : Vals zs ws) (h : sp (gV vs zs) H Q (E σ)) : wpAny (model X.prog X.w) X.A (call (.ref f) us (ks.zip ws)) (EP X pins σ Q) X.xe s := by
  have r2 := hb.rel r rz
  have hl : (g us ws).length = ps.length := by rw [← r2.length]; exact F.len _ _ _ _ h
  refine wpAny_call (codeAny_mono (F.run X.A X.stack s H ⟨us, ks.zip ws⟩ (g us ws) (gV vs zs) Q (E σ) hr I.env0 (hb.to s us ws I.kIn hl) r2 h) fun r s' hq => ?_)
  cases r with
  | error e => exact hx pins H s e s' I hq
  | ok fl =>
    cases fl with
    | ret u => exact I.after hq
    | next => exact False.elim hq
    | brk => exact False.elim hq
    | cont => exact False.elim hq
theorem pe_callKS0 {E : L2.St → XK} {g : List Value → List Value → List Value} {gV : List V → List V → List V} (F : FnOk X.prog X.w X.K X.mg X.base CX k f fd ps sp) (hr : Room k X.A) (hg : Gl X x) (hm : X.mg x = some (.ref f)) (hk : PySem.W.keepIn X.K (.ref f) = true) (hb : KBinds X.K fd ps ks g gV) (hx : ∀ σ, PassesAt CX X σ (E σ))
    (hkw : PK X kws tk) (hall : (backToKw pos (keywordEach kws X.env)).all (·.1.isSome) = true := by rfl) (hks : (backToKw pos (keywordEach kws X.env)).filterMap (·.1) = ks := by rfl)
    (hdb : (x == ("__debug__" : Str)) = false := by decide) (hpl : ((backTo pos (starEach [] X.env)).any (·.1) || (backToKw pos (keywordEach kws X.env)).any (·.1.isNone)) = false := by rfl) :
    PE X (.Call (.Name x np) [] kws pos) (tCallKS sp gV E tNil tk) := by
  refine ⟨fun pins s σ H Q I h => ?_⟩
  refine wpAny_Call_Name_kw (ld_glob I hg hm ?_ hdb)
  refine PySem.W.callWith_KW0 (h₀ := X.base) I.ok.mod.kin hk hall (thn (hkw.run pos pins s σ H _ I h) fun ws s2 ⟨zs, H2, I2, rz, q2⟩ => ⟨I2.kIn, ?_⟩) hpl
  rw [hks]
  exact run_fnkS (us := []) (vs := []) F hr hb (hx σ) I2 .nil rz q2
theorem dx_callK0 (Fk : FnOk X.prog X.w X.K X.mg X.base (L2.CX X.prog X.w) k f fd ps (spX X.K xc.ca n gx)) (hl : ∀ ds z, gx ds = some z → ds.length = n) (hr : Room k X.A) (tk : Takes X xc.W) (hg : Gl X x) (hm : X.mg x = some (.ref f)) (hk : PySem.W.keepIn X.K (.ref f) = true) (hb : KBinds X.K fd ps ks (kG p q pm .none) (kG p q pm .non)) (hkw : PK X kws (Ga X.K fk))
    (hall : (backToKw pos (keywordEach kws X.env)).all (·.1.isSome) = true := by rfl) (hks : (backToKw pos (keywordEach kws X.env)).filterMap (·.1) = ks := by rfl) (hdb : (x == ("__debug__" : Str)) = false := by decide)
    (hpl : ((backTo pos (starEach [] X.env)).any (·.1) || (backToKw pos (keywordEach kws X.env)).any (·.1.isNone)) = false := by rfl) :
    PE X (.Call (.Name x np) [] kws pos) (GeX X.K xc (xA gx (lK p q pm lNil fk))) := PE.imp (pe_callKS0 (E := WE xc.W) Fk hr hg hm hk hb (fun σ => passAt tk σ) hkw hall hks hdb hpl) fun σ H Q ⟨c, F, env, o, env', R, e, kk⟩ => by
  unfold xA lK lNil at e
  simp only [Option.bind_eq_some_iff, Option.map_eq_some_iff, Option.bind_some] at e
  obtain ⟨⟨d1, n1⟩, ⟨⟨d3, n3⟩, h2, h3⟩, z, h4, h5⟩ := e
  obtain ⟨rfl, rfl⟩ := Prod.mk.inj h3
  obtain ⟨rfl, rfl⟩ := Prod.mk.inj h5
  refine ⟨c, F, env, d3, n3, R, h2, fun v2 F2 H2 s2 R2 p2 => ?_⟩
  have hv := dp_kG (p := p) (q := q) (pm := pm) (F := F2) DpAll.nil p2
  refine ⟨F2, _, z, by rw [hv.len]; exact hl _ _ h4, R2.sub, hv, h4, ?_⟩
  cases z with
  | ok d => exact fun v F' H' a1 a2 a3 a4 hv => kk v F' H' (s2.trans a1) (R2.after a1 a2 a3 a4) hv
  | ex cl d => exact fun F' H' v dd a1 a2 a3 a4 hd hv => kk F' H' v dd (s2.trans a1) (R2.after a1 a2 a3 a4) hd hv
end
end Dn

set_option Elab.async false
set_option linter.all false
set_option maxRecDepth 100000
/-! evaluation of what raises, of calls with keywords; bit_length -/
namespace Dn
open PySem PySem.Spec PyProof.Rows L2
@[simp] def gBits : PyData → Option PyData
  | .int i => some (.int (Builtin.Int.intBits i : Nat))
  | _ => none
theorem de_bits {X : Cx} {a : Expr} {fa : Fe} {apos pos : Pos} (ha : PE X a (Ge X.K fa)) (hbase : attributeBase a "bit_length" X.env (eval a X.env) = eval a X.env := by rfl) (hline : (apos.endLine == pos.line) = true := by rfl) :
    PE X (.Call (.Attribute a "bit_length" apos) [] [] pos) (Ge X.K (e1 gBits fa)) := PE.imp (pe_bits ha hbase hline) fun σ H Q ⟨c, F, env, d, env', R, e, k⟩ => by
  unfold e1 at e
  simp only [Option.bind_eq_some_iff, Option.map_eq_some_iff] at e
  obtain ⟨⟨d1, n1⟩, h1, z, h3, h4⟩ := e
  obtain ⟨rfl, rfl⟩ := Prod.mk.inj h4
  refine ⟨c, F, env, d1, n1, R, h1, fun v F' H' s R' hv => ?_⟩
  cases hv with
  | int i =>
    cases h3
    exact ⟨i, rfl, k _ F' H' s R' (.int _)⟩
  | non => cases h3
  | bl b => cases h3
  | str b => cases h3
  | lst _ _ => cases h3
  | tup _ _ => cases h3
variable {a : Fe} {f g : Fs} {l m : Fl} {x y : Sl} {e : En} {d d' : PyData} {i j p q n : Nat} {pm : List Nat} {fx : FeX}
def kK2 (p q : Nat) (pm : List Nat) (ds : List PyData) (b : List PyData × En) : List PyData × En := (kG p q pm .none ds b.1, b.2)
def kK (p q : Nat) (pm : List Nat) (m : Fl) (a : List PyData × En) : Option (List PyData × En) := (m a.2).map (kK2 p q pm a.1)
@[simp] theorem ev_K : lK p q pm l m (x :: e) = (l (x :: e)).bind (kK p q pm m) := rfl
@[simp] theorem kK_e {ds : List PyData} : kK p q pm m (ds, e) = (m e).map (kK2 p q pm ds) := rfl
@[simp] theorem kK2_e {ds es : List PyData} : kK2 p q pm ds (es, e) = (kG p q pm .none ds es, e) := rfl
def kXA (g : List PyData → Option Xo) (p : List PyData × En) : Option (Xo × En) := (g p.1).map (kP p.2)
@[simp] theorem ev_xA {g : List PyData → Option Xo} : xA g l (x :: e) = (l (x :: e)).bind (kXA g) := rfl
@[simp] theorem kXA_e {g : List PyData → Option Xo} {ds : List PyData} : kXA g (ds, e) = (g ds).map (kP e) := rfl
def kXT (k : PyData) (p : Xo × En) : Xo × En := (match p.1 with
  | .ok d => .ok (.tuple [k, d])
  | .ex cl d => .ex cl d, p.2)
@[simp] theorem ev_xT {k : PyData} : xTup k fx (x :: e) = (fx (x :: e)).map (kXT k) := rfl
@[simp] theorem kXT_ok {k : PyData} : kXT k (.ok d, e) = (.ok (.tuple [k, d]), e) := rfl
@[simp] theorem kXT_ex {k : PyData} {cl : Str} : kXT k (.ex cl d, e) = (.ex cl d, e) := rfl
def kSX (i : Nat) (p : Xo × En) : Flw × En := match p.1 with
  | .ok d => (.nx, p.2.set i (.val d))
  | .ex cl d => (.ex cl d, p.2)
@[simp] theorem ev_setX : sSetX fx i (x :: e) = (fx (x :: e)).map (kSX i) := rfl
@[simp] theorem kSX_ok : kSX i (.ok d, e) = (.nx, e.set i (.val d)) := rfl
@[simp] theorem kSX_ex {cl : Str} : kSX i (.ex cl d, e) = (.ex cl d, e) := rfl
def kRX (p : Xo × En) : Flw × En := match p.1 with
  | .ok d => (.rt d, p.2)
  | .ex cl d => (.ex cl d, p.2)
@[simp] theorem ev_rtX : sRtX fx (x :: e) = (fx (x :: e)).map kRX := rfl
@[simp] theorem kRX_ok : kRX (.ok d, e) = (.rt d, e) := rfl
@[simp] theorem kRX_ex {cl : Str} : kRX (.ex cl d, e) = (.ex cl d, e) := rfl
def kEX (p : Xo × En) : Flw × En := match p.1 with
  | .ok d => (.nx, p.2)
  | .ex cl d => (.ex cl d, p.2)
@[simp] theorem ev_exX : sExX fx (x :: e) = (fx (x :: e)).map kEX := rfl
@[simp] theorem kEX_ok : kEX (.ok d, e) = (.nx, e) := rfl
@[simp] theorem kEX_ex {cl : Str} : kEX (.ex cl d, e) = (.ex cl d, e) := rfl
def kRz (cl : Str) (p : PyData × En) : Flw × En := (.ex cl p.1, p.2)
@[simp] theorem ev_raise {cl : Str} : sRaise cl a (x :: e) = (a (x :: e)).map (kRz cl) := rfl
@[simp] theorem kRz_e {cl : Str} : kRz cl (d, e) = (.ex cl d, e) := rfl
def kTry (cl : Str) (i j : Nat) (mk : PyData → PyData) (p : Flw × En) : Option (Flw × En) := match p.1 with
  | .ex c d => if c = cl ∧ i < p.2.length then some (.nx, ((p.2.set i .no).set j (.val (mk d))).set i .no) else none
  | _ => some p
@[simp] theorem ev_try {cl : Str} {mk : PyData → PyData} : sTry cl i j mk f (x :: e) = (f (x :: e)).bind (kTry cl i j mk) := rfl
@[simp] theorem kTry_nx {cl : Str} {mk : PyData → PyData} : kTry cl i j mk (.nx, e) = some (.nx, e) := rfl
@[simp] theorem kTry_rt {cl : Str} {mk : PyData → PyData} : kTry cl i j mk (.rt d, e) = some (.rt d, e) := rfl
theorem kTry_ex {cl : Str} {mk : PyData → PyData} (h : i < e.length) : kTry cl i j mk (.ex cl d, e) = some (.nx, ((e.set i .no).set j (.val (mk d))).set i .no) := if_pos ⟨rfl, h⟩
@[simp] theorem kTurn_ex {tg : Tg} {ds : List PyData} {cl : Str} : kTurn tg f ds (.ex cl d, e) = some (.ex cl d, e) := rfl
@[simp] theorem kTurn_rt {tg : Tg} {ds : List PyData} : kTurn tg f ds (.rt d, e) = some (.rt d, e) := rfl
@[simp] theorem endX_rt : endX (some (.rt d, e)) = some (.ok d) := rfl
@[simp] theorem endX_rl {ds : List PyData} : endX (some (.rl ds, e)) = some (.ok (.list ds)) := rfl
@[simp] theorem endX_nx : endX (some (.nx, e)) = some (.ok .none) := rfl
@[simp] theorem endX_ex {cl : Str} : endX (some (.ex cl d, e)) = some (.ex cl d) := rfl
theorem runX1 {N : Nat} {b : Fs} {d1 : PyData} : runX b (N + 1) 1 [d1] = endX (b (.val d1 :: List.replicate N .no)) := by simp [runX, en0]
theorem runX2 {N : Nat} {b : Fs} {d1 d2 : PyData} : runX b (N + 2) 2 [d1, d2] = endX (b (.val d1 :: .val d2 :: List.replicate N .no)) := by simp [runX, en0]
theorem runX3 {N : Nat} {b : Fs} {d1 d2 d3 : PyData} : runX b (N + 3) 3 [d1, d2, d3] = endX (b (.val d1 :: .val d2 :: .val d3 :: List.replicate N .no)) := by simp [runX, en0]
end Dn

set_option Elab.async false
set_option linter.all false
set_option maxRecDepth 100000
/-! t[::-1] of a tuple -/
namespace Dn
open PySem PySem.Spec PyProof.Rows L2 HT
section
variable {prog : Program} {w : World} {A : Around} {E : Value → Shared → Prop} {s : Shared}
theorem adjust_rev (n : Nat) : Builtin.Slice.sliceAdjust none none (-1) (n : Int) = ((n : Int) - 1, -1) := by
  unfold Builtin.Slice.sliceAdjust
  simp
theorem places_rev (n : Nat) : Builtin.Slice.slicePlaces ((n : Int) - 1) (-1) (-1) = n := by
  unfold Builtin.Slice.slicePlaces
  have h1 : ¬ ((-1 : Int) > 0) := by omega
  simp only [h1, if_false]
  split
  · rw [show ((n : Int) - 1 - -1 - 1) = (n : Int) - 1 by omega, show (- -1 : Int) = 1 by decide, Int.ediv_one]; omega
  · omega
theorem filterMap_same {α β : Type} {f g : α → Option β} : ∀ {l : List α}, (∀ x ∈ l, f x = g x) → l.filterMap f = l.filterMap g
  | [], _ => rfl
  | x :: l, h => by
    rw [List.filterMap_cons, List.filterMap_cons, h x List.mem_cons_self, filterMap_same fun y hy => h y (List.mem_cons_of_mem _ hy)]
theorem pick_rev (xs : Array Value) : ((List.range xs.size).filterMap fun (m : Nat) => xs[((xs.size : Int) - 1 + (m : Int) * (-1)).toNat]?).toArray = xs.toList.reverse.toArray := by
  have e : ((List.range xs.size).filterMap fun (m : Nat) => xs[((xs.size : Int) - 1 + (m : Int) * (-1)).toNat]?) = ((List.range xs.size).map fun k => xs.size - 1 - k).filterMap (xs[·]?) := by
    rw [List.filterMap_map]
    refine filterMap_same fun m hm => ?_
    have hm' := List.mem_range.mp hm
    show _ = xs[xs.size - 1 - m]?
    rw [show ((xs.size : Int) - 1 + (m : Int) * (-1)).toNat = xs.size - 1 - m by omega]
  rw [e]
  have := PySem.W.krv_pick xs
  unfold slicePick at this
  rw [PySem.W.krv_bounds] at this
  dsimp only at this
  rw [PySem.W.krv_sliceRange] at this
  exact this
theorem sliceApplied_rev {sl : Addr} {vl vu vs : Value} {n : Nat} {Q : Int × Int × Nat → Shared → Prop} (hs : s.heap.IsSliceOf sl vl vu vs) (pl : IsPart vl none) (pu : IsPart vu none) (ps : IsPart vs (some (-1)))
    (h : Q ((n : Int) - 1, -1, n) s) : wpAny (model prog w) A (Builtin.Slice.sliceApplied (.ref sl) (pure (n : Int))) Q E s := by
  obtain ⟨os, hos, hcs, hds⟩ := id hs
  unfold Builtin.Slice.sliceApplied Builtin.Slice.sliceFields
  refine wpAny_bind (wpAny_bind (wpAny_field hos hds (x := vl) rfl (wpAny_bind (wpAny_field hos hds (x := vu) rfl (wpAny_bind (wpAny_field hos hds (x := vs) rfl (wpAny_pure ?_)))))))
  refine wpAny_bind (slicePart_ ps ?_)
  show wpAny _ _ (if ((-1 : Int) == 0) = true then _ else _) _ _ s
  rw [if_neg (by decide)]
  refine wpAny_bind (slicePart_ pl (wpAny_bind (slicePart_ pu (wpAny_bind (wpAny_pure ?_)))))
  show wpAny _ _ (match Builtin.Slice.sliceAdjust none none (-1) (n : Int) with | (lo, hi) => pure (lo, (-1 : Int), Builtin.Slice.slicePlaces lo hi (-1))) _ _ s
  rw [adjust_rev n]
  show wpAny _ _ (pure ((n : Int) - 1, (-1 : Int), Builtin.Slice.slicePlaces ((n : Int) - 1) (-1) (-1))) _ _ s
  rw [places_rev]
  exact wpAny_pure h
theorem getItem_tuple_rev {t sl : Addr} {items : Array Value} {vl vu vs : Value} {Q : Value → Shared → Prop} (ht : IsTup s.heap t items) (hs : s.heap.IsSliceOf sl vl vu vs) (pl : IsPart vl none) (pu : IsPart vu none) (ps : IsPart vs (some (-1)))
    (h : Q (.ref s.heap.objs.size) { s with heap := s.heap.push { cls := .type "tuple", data := .seq items.toList.reverse.toArray } })
    (hsz : items.size ≤ sizeLine) : wpAny (model prog w) A (getItem (.ref t) (.ref sl)) Q E s := by
  have htake : sizeOk (.seq items.toList.reverse.toArray) := by
    show items.toList.reverse.toArray.size ≤ sizeLine
    rw [List.size_toArray, List.length_reverse, Array.length_toList]
    omega
  obtain ⟨os, hos, hcs, hds⟩ := id hs
  have hTs : s.TypeIs (.ref sl) "slice" := ⟨os, hos, hcs⟩
  unfold getItem
  try with_reducible refine wpAny_holding ?_
  first | refine wpAny_bind (wpAny_pure ?_) | skip
  refine wpAny_bind (wpAny_sequenceKey ht.typeIs (by decide) ?_)
  refine wpAny_bind (wpAny_callSpecial?_slot (name := Str.ofString "__getitem__") ht.typeIs PyProof.Rows.slot_tuple_getitem
    (wpAny_call_entry PyProof.Rows.slot_tuple_getitem ht.typeIs entry_tuple_getitem ?_ (args_tuple_getitem _ _)))
  show wpAny _ _ (Builtin.Tuple.tupleItemsOf (.ref t) >>= _) _ _ s
  refine wpAny_bind (tupleItemsOf_ ht ?_)
  refine wpAny_bind (wpAny_typeOf hTs ?_)
  rw [if_pos (by decide)]
  refine wpAny_bind (sliceApplied_rev hs pl pu ps ?_)
  have hno : ¬ ((((items.size : Int) - 1) == 0 && (-1 : Int) == 1 && items.size == items.size) = true) := by
    intro q
    rw [Bool.and_eq_true, Bool.and_eq_true] at q
    exact absurd q.1.2 (by decide)
  show wpAny _ _ (if (((items.size : Int) - 1) == 0 && (-1 : Int) == 1 && items.size == items.size) = true then _ else _) _ _ s
  rw [if_neg hno, pick_rev]
  first
    | exact wpAny_bind (m := Builtin.Tuple.tupleExact _) (wpAny_newObj_type (wpAny_pure ⟨_, rfl, wpAny_pure h⟩) htake)
    | exact wpAny_bind (m := Builtin.Tuple.tupleExact _) (wpAny_newObj_type (wpAny_bind (wpAny_pure (wpAny_pure ⟨_, rfl, wpAny_pure h⟩))) htake)
    | exact wpAny_bind (wpAny_bind (m := Builtin.Tuple.tupleExact _) (wpAny_newObj_type (wpAny_pure (wpAny_pure ⟨_, rfl, wpAny_pure h⟩)) htake))
    | exact wpAny_bind (wpAny_bind (m := Builtin.Tuple.tupleExact _) (wpAny_newObj_type (wpAny_pure ⟨_, rfl, wpAny_pure h⟩) htake))
end
section
variable {X : Cx} {a : Expr} {fa : Fe} {pos : Pos}
def tRevT (K : PySem.W.Frag) (te : TE) : TE := fun σ H Q => te σ H fun x H1 => ∃ a xs, x = .ref a ∧ SqT K H1 a xs ∧ ∀ p, H1 p = none → Q (.ref p) (upd H1 p (.tup xs.reverse))
theorem pe_revT {e : Expr} {te : TE} {k : Nat} {p1 p2 p3 pos : Pos} (he : PE X e te) : PE X (.Subscript e (.Slice none none (some (.UnaryOp .USub (.Constant (.int 1) k p1) p2)) p3) pos) (tRevT X.K te) := by
  refine ⟨fun pins s σ H Q I h => ?_⟩
  refine Subscript_ (thn (he.run pins s σ H _ I h) fun v s1 ⟨x, H1, I1, r1, q1⟩ => ?_)
  obtain ⟨a, xs, ex, hx, q⟩ := q1
  subst ex
  cases r1
  have hst : PO X (some (.UnaryOp .USub (.Constant (.int 1) k p1) p2)) (tPart (tUn (rU fun i => .int (-i)) (tC (.int 1)))) := po_some (pe_un un_neg pe_int)
  refine wpAny_Slice (thn (po_none.run pins s1 σ H1 (fun o H2 => o = none ∧ H2 = H1) I1 ⟨rfl, rfl⟩) fun vl s2 ⟨l, H2, I2, pl, el, e2⟩ => ?_)
  subst el e2
  refine thn (po_none.run pins s2 σ H2 (fun o H3 => o = none ∧ H3 = H2) I2 ⟨rfl, rfl⟩) fun vu s3 ⟨u, H3, I3, pu, eu, e3⟩ => ?_
  subst eu e3
  refine thn (hst.run pins s3 σ H3 (fun o H4 => o = some (-1) ∧ H4 = H3) I3 ⟨1, rfl, -1, rfl, rfl, rfl⟩) fun vs s4 ⟨o, H4, I4, ps, eo, e4⟩ => ?_
  subst eo e4
  have I5 : Inv X pins σ H4 { s4 with heap := s4.heap.push { cls := .type "slice", data := .fields #[vl, vu, vs] } } := I4.kept (t' := s4.toks) fun b ob q => Heap.get?_push_of_some _ q
  obtain ⟨its, r, ht, hz⟩ := I5.tuple hx
  show wpAny (model X.prog X.w) X.A (subscriptTail e (.Slice none none (some (.UnaryOp .USub (.Constant (.int 1) k p1) p2)) p3) (.ref a) (.ref s4.heap.objs.size)) (EP X pins σ Q) X.xe { s4 with heap := s4.heap.push { cls := .type "slice", data := .fields #[vl, vu, vs] } }
  refine tail_any (ops := [.ref a, .ref s4.heap.objs.size]) ht.typeIs (PyProof.Rows.slot_tuple_getitem.lookup) ?_ (by with_unfolding_all rfl)
  refine getItem_tuple_rev ht (Heap.IsSliceOf.new _ vl vu vs) pl pu ps ?_ (by rw [List.size_toArray, ← r.length]; exact hz)
  refine ⟨.ref _, _, I5.laid (t' := s4.toks) (o := .tup xs.reverse) (fun b ob q => Heap.get?_push_of_some _ q) (Nat.le_refl _) ?_, rfl, q _ (I5.hok.fresh (Nat.le_refl _))⟩
  exact ⟨by rw [List.length_reverse]; exact hz, _, r.reverse, IsTup.new _ _⟩
noncomputable def eRevT (fa : Fe) : Fe := fun env => (fa env).bind fun p => match p.1 with
  | .tuple ds => some (.tuple ds.reverse, p.2)
  | _ => none
theorem DpAll.rev {K : PySem.W.Frag} {F : Hp} : ∀ {xs : List V} {ds : List PyData}, DpAll K F xs ds → DpAll K F xs.reverse ds.reverse
  | _, _, .nil => .nil
  | _, _, .cons h1 h2 => by
    rw [List.reverse_cons, List.reverse_cons]
    exact (DpAll.rev h2).app (.cons h1 .nil)
theorem de_revT {k : Nat} {p1 p2 p3 : Pos} (ha : PE X a (Ge X.K fa)) : PE X (.Subscript a (.Slice none none (some (.UnaryOp .USub (.Constant (.int 1) k p1) p2)) p3) pos) (Ge X.K (eRevT fa)) := (pe_revT ha).imp fun σ H Q h => by
  obtain ⟨c, F, env, d, env', R, e, k⟩ := h
  unfold eRevT at e
  simp only [Option.bind_eq_some_iff] at e
  obtain ⟨⟨d1, n1⟩, h1, h2⟩ := e
  dsimp only at h2
  split at h2
  · cases h2
    refine ⟨c, F, env, _, _, R, h1, fun v1 F1 H1 s1 R1 p1 => ?_⟩
    cases p1 with
    | @tup a1 xs _ hs ha =>
      refine ⟨a1, xs, rfl, sqT_mono R1.sub hs, fun q hq => ?_⟩
      obtain ⟨sF, R4⟩ := R1.laid (o := .tup xs.reverse) hq
      exact k _ _ _ (s1.trans sF) R4 (.tup (SqT.of upd_same) ((DpAll.rev ha).up sF))
  · cases h2
/-! i not in range(n) -/
theorem op_notin_rng : OpR X (compareOp .NotIn) (fun x y H Q => ∃ i a lo hi, x = V.int i ∧ y = V.ref a ∧ H a = some (.rng lo hi) ∧ Q (.bl (!decide (lo ≤ i ∧ i < hi))) H) := by
  intro pins s σ H x y v u Q I rx ry h
  obtain ⟨i, a, lo, hi, rfl, rfl, ha, q⟩ := h
  obtain ⟨k, rfl⟩ := rx
  obtain rfl : u = Value.ref a := ry
  obtain ⟨t1, t2, t3, ho⟩ := I.hok a _ ha
  show wpAny _ _ (do return Value.bool (!(← contains (Value.ref a) (Value.int i k)))) _ _ s
  refine wpAny_bind (wpAny_contains_slot (T := "range") ⟨_, ho, rfl⟩ F.slot_range_contains (call_meets F.slot_range_contains ⟨_, ho, rfl⟩ F.entry_range_contains (F.args_range_contains_2 _ _) (q_contains a lo hi i t1 t2 t3 k)
    ⟨ho, wpAny_truthy_bool (wpAny_pure ⟨.bl _, H, I, rfl, ?_⟩)⟩))
  rw [place1]
  exact q
theorem cr_range1 : CallR X (.type "range") (fun vs H Q => ∃ j, vs = [V.int j] ∧ ∀ p, H p = none → Q (.ref p) (upd H p (.rng 0 j))) := by
  intro pins s σ H vs us Q I r h
  obtain ⟨j, rfl, q⟩ := h
  obtain ⟨u2, rfl, rj⟩ := vals1 r
  obtain ⟨u, rfl⟩ := rj
  refine call_range_1 ⟨.ref s.heap.objs.size, upd H s.heap.objs.size (.rng 0 j), I.laid (t' := s.toks + 2) (fun b o e => Heap.get?_push_of_some _ e) (Nat.le_refl _) ?_, rfl, q _ (I.hok.fresh (Nat.le_refl _))⟩
  exact ⟨s.toks, u, s.toks + 1, Heap.get?_push_size _ rfl⟩
noncomputable def tNinR (fa : Fe) (fl : Fl) : Ft := fun env => (fa env).bind fun p => (fl p.2).bind fun q => match p.1, q.1 with
  | .int i, [.int n] => some (!decide (0 ≤ i ∧ i < n), q.2)
  | _, _ => none
theorem dt_ninR {c : Expr} {fl : Fl} {p p2 : Pos} (ha : PE X a (Ge X.K fa)) (hg : Gl X "range") (hm : X.mg "range" = none) (hc : PA X [c] (Ga X.K fl)) (he : starEach [c] X.env = (false, eval c X.env) :: starEach [] X.env := by rfl) (hpl : (backTo p2 (starEach [] X.env)).any (·.1) = false := by rfl) :
    PT X (.Compare a [.NotIn] [.Call (.Name "range" p) [c] [] p2] pos) (Gt X.K (tNinR fa fl)) :=
  (pt_cmpR op_notin_rng ha (pe_callTy cr_range1 hg hm (by decide +kernel) hc (by decide) (by decide) he hpl) (by rfl)).imp fun σ H Q h => by
  obtain ⟨c, F, env, d, env', R, e, k⟩ := h
  unfold tNinR at e
  simp only [Option.bind_eq_some_iff] at e
  obtain ⟨⟨d1, n1⟩, h1, ⟨d2, n2⟩, h2, h3⟩ := e
  dsimp only at h3
  split at h3
  · cases h3
    refine ⟨c, F, env, _, _, R, h1, fun v1 F1 H1 s1 R1 p1 => ⟨c, F1, n1, _, _, R1, h2, fun vs F2 H2 s2 R2 hv => ?_⟩⟩
    cases p1
    cases hv with
    | cons h4 h5 =>
      cases h5
      cases h4
      refine ⟨_, rfl, fun q hq => ⟨_, _, _, _, rfl, rfl, upd_same, ?_⟩⟩
      obtain ⟨sF, R4⟩ := R2.laid (o := .rng 0 _) hq
      exact ⟨_, rfl, k _ _ ((s1.trans s2).trans sF) R4⟩
  · cases h3
/-! list(range(n)) -/
theorem dp_rg {K : PySem.W.Frag} {F : Hp} (n : Int) : DpAll K F (rgV 0 n) (rng 0 n) := by
  have e1 : rgV 0 n = (((List.range (n - 0).toNat).map fun (i : Nat) => (0 : Int) + (i : Int))).map V.int := by
    unfold rgV
    rw [List.map_map]; rfl
  have e2 : rng 0 n = (((List.range (n - 0).toNat).map fun (i : Nat) => (0 : Int) + (i : Int))).map PyData.int := by
    unfold rng
    rw [List.map_map]; rfl
  rw [e1, e2]
  exact DpAll.of_ints _
noncomputable def lRg (fc : Fe) : Fl := fun env => (fc env).bind fun p => match p.1 with
  | .int n => if smallI n && okN n.toNat then some (rng 0 n, p.2) else none
  | _ => none
theorem df_listRg {c : Expr} {fc : Fe} {p p2 p3 : Pos} (hcalm : X.calm = true) (hg : Gl X "list") (hm : X.mg "list" = none) (hg2 : Gl X "range") (hm2 : X.mg "range" = none) (hc : PE X c (Ge X.K fc)) (na : starEach [c] X.env = (false, eval c X.env) :: starEach [] X.env := by rfl)
    (na2 : starEach [Expr.Call (.Name "range" p2) [c] [] p3] X.env = (false, eval (Expr.Call (.Name "range" p2) [c] [] p3) X.env) :: starEach [] X.env := by rfl) :
    PE X (.Call (.Name "list" p) [.Call (.Name "range" p2) [c] [] p3] [] pos) (Gf X.K (lRg fc)) := (pe_listRg hcalm hg hm (prg_1 hg2 hm2 hc na) na2).imp fun σ H Q h => by
  obtain ⟨c0, F, env, ds, env', R, e, k⟩ := h
  unfold lRg at e
  simp only [Option.bind_eq_some_iff] at e
  obtain ⟨⟨d1, n1⟩, h1, h2⟩ := e
  dsimp only at h2
  split at h2
  · split at h2
    · rename_i hz
      cases h2
      rw [Bool.and_eq_true] at hz
      obtain ⟨b1, b2⟩ := smallI_b hz.1
      have b3 : _ ≤ 1000000 := of_decide_eq_true hz.2
      refine ⟨c0, F, env, _, _, R, h1, fun v1 F1 H1 s1 R1 p1 => ?_⟩
      cases p1
      exact ⟨_, rfl, ⟨by decide, by decide, b1, b2, by omega⟩, fun q hq => k q _ F1 H1 s1 hq R1 (dp_rg _)⟩
    · cases h2
  · cases h2
end
end Dn
namespace Dn
open PySem PySem.Spec PyProof.Rows L2
/-! evaluation -/
variable {a : Fe} {l : Fl} {x : Sl} {e : En}
def kRevT (p : PyData × En) : Option (PyData × En) := match p.1 with
  | .tuple ds => some (.tuple ds.reverse, p.2)
  | _ => none
@[simp] theorem ev_RevT : eRevT a (x :: e) = (a (x :: e)).bind kRevT := rfl
@[simp] theorem kRevT_t {ds : List PyData} : kRevT (.tuple ds, e) = some (.tuple ds.reverse, e) := rfl
noncomputable def kNin2 (p : PyData) (q : List PyData × En) : Option (Bool × En) := match p, q.1 with
  | .int i, [.int n] => some (!decide (0 ≤ i ∧ i < n), q.2)
  | _, _ => none
noncomputable def kNin1 (l : Fl) (p : PyData × En) : Option (Bool × En) := (l p.2).bind (kNin2 p.1)
@[simp] theorem ev_NinR : tNinR a l (x :: e) = (a (x :: e)).bind (kNin1 l) := rfl
@[simp] theorem kNin1_e {d : PyData} : kNin1 l (d, e) = (l e).bind (kNin2 d) := rfl
theorem kNin2_yes {i n : Int} (h : 0 ≤ i ∧ i < n) : kNin2 (.int i) ([.int n], e) = some (false, e) := by
  show some (!decide (0 ≤ i ∧ i < n), e) = _
  rw [decide_eq_true h]; rfl
noncomputable def kRg (p : PyData × En) : Option (List PyData × En) := match p.1 with
  | .int n => if smallI n && okN n.toNat then some (rng 0 n, p.2) else none
  | _ => none
@[simp] theorem ev_lRg : lRg a (x :: e) = (a (x :: e)).bind kRg := rfl
end Dn

set_option Elab.async false
set_option linter.all false
set_option maxRecDepth 100000
/-! fractions as Rat: their pairs, sizes, general lemmas with no program in sight -/
namespace Dn
open PySem PySem.Spec PyProof.Rows L2
def encQ (q : Rat) : PyData := .tuple [.int q.num, .int (q.den : Int)]
theorem encQ_inj {a b : Rat} (h : encQ a = encQ b) : a = b := by
  unfold encQ at h
  injection h with h
  injection h with h1 h2
  injection h2 with h2 _
  injection h1 with h1
  injection h2 with h2
  exact Rat.ext h1 (Int.ofNat.inj h2)
theorem encQ_0 : encQ 0 = .tuple [.int 0, .int 1] := rfl
theorem encQ_1 : encQ 1 = .tuple [.int 1, .int 1] := rfl
theorem encQ_nat (n : Nat) : encQ (n : Rat) = .tuple [.int n, .int 1] := rfl
theorem fdiv_nn {a : Int} {d : Nat} : a.fdiv (d : Int) = a / (d : Int) := Int.fdiv_eq_ediv_of_nonneg _ (by omega)
/-- a / b in lowest terms -/
theorem low_num {a b : Int} (hb : 0 < b) : a.fdiv ((Nat.gcd a.natAbs b.natAbs : Nat) : Int) = (Rat.divInt a b).num := by
  rw [fdiv_nn, Rat.num_divInt, Int.sign_eq_one_of_pos hb, Int.one_mul, Int.gcd_comm]
  rfl
theorem low_den {a b : Int} (hb : 0 < b) : b.fdiv ((Nat.gcd a.natAbs b.natAbs : Nat) : Int) = ((Rat.divInt a b).den : Int) := by
  rw [fdiv_nn, Rat.den_divInt, if_neg (by omega), Int.gcd_comm]
  obtain ⟨n, rfl⟩ := Int.eq_ofNat_of_zero_le (Int.le_of_lt hb)
  show (n : Int) / ((Nat.gcd a.natAbs n : Nat) : Int) = ((n / Nat.gcd a.natAbs n : Nat) : Int)
  rw [Int.natCast_ediv]
theorem log_of {n k : Nat} (h : n < 2 ^ k) (hk : 0 < k) : n.log2 < k := by
  by_cases h0 : n = 0
  · subst h0; simpa using hk
  · exact (Nat.log2_lt h0).mpr h
theorem mulOk_lt {i j : Int} (hi : i.natAbs < 2 ^ 60000) (hj : j.natAbs < 2 ^ 60000) : mulOk i j = true := by
  unfold mulOk
  refine decide_eq_true ?_
  have h1 := log_of hi (by decide)
  have h2 := log_of hj (by decide)
  omega
theorem divOk_lt {j : Int} (h0 : j ≠ 0) (hj : j.natAbs < 2 ^ 9000) : divOk j = true := by
  unfold divOk
  rw [decide_eq_true h0, decide_eq_true (log_of hj (by decide))]
  rfl
theorem lt_pow {n a b : Nat} (h : n < 2 ^ a) (hab : a ≤ b) : n < 2 ^ b := Nat.lt_of_lt_of_le h (Nat.pow_le_pow_right (by decide) hab)
theorem mul_pow {n m a b : Nat} (h : n < 2 ^ a) (h2 : m < 2 ^ b) : n * m < 2 ^ (a + b) := by
  rw [Nat.pow_add]
  have hb : 0 < 2 ^ b := Nat.pos_of_neZero _
  rcases Nat.eq_zero_or_pos n with h0 | h0
  · subst h0; rw [Nat.zero_mul]; exact Nat.mul_pos (Nat.pos_of_neZero _) hb
  · exact Nat.lt_of_lt_of_le ((Nat.mul_lt_mul_left h0).mpr h2) (Nat.mul_le_mul_right _ (Nat.le_of_lt h))
theorem natQ_ne {D : Nat} (h : 0 < D) : (D : Rat) ≠ 0 := by
  intro h1
  have h2 : D = 0 := Rat.natCast_inj.mp (by rw [h1]; rfl)
  omega
theorem natQ_pos {D : Nat} (h : 0 < D) : (0 : Rat) < (D : Rat) := by
  have : ((0 : Nat) : Rat) < (D : Rat) := Rat.natCast_lt_natCast.mpr h
  exact this
/-- q is a whole number of parts of D -/
def Pt (D : Nat) (q : Rat) : Prop := ∃ z : Int, q * (D : Rat) = (z : Rat)
theorem Pt.add {D : Nat} {p q : Rat} (h : Pt D p) (h2 : Pt D q) : Pt D (p + q) := by
  obtain ⟨a, ha⟩ := h
  obtain ⟨b, hb⟩ := h2
  exact ⟨a + b, by rw [Rat.intCast_add]; grind⟩
theorem Pt.sub {D : Nat} {p q : Rat} (h : Pt D p) (h2 : Pt D q) : Pt D (p - q) := by
  obtain ⟨a, ha⟩ := h
  obtain ⟨b, hb⟩ := h2
  exact ⟨a - b, by rw [Rat.intCast_sub]; grind⟩
theorem Pt.mul {D E : Nat} {p q : Rat} (h : Pt D p) (h2 : Pt E q) : Pt (D * E) (p * q) := by
  obtain ⟨a, ha⟩ := h
  obtain ⟨b, hb⟩ := h2
  exact ⟨a * b, by rw [Rat.intCast_mul, Rat.natCast_mul]; grind⟩
theorem Pt.zero {D : Nat} : Pt D 0 := ⟨0, by grind⟩
theorem Pt.int {D : Nat} (z : Int) : Pt D (z : Rat) := ⟨z * D, by rw [Rat.intCast_mul]; rfl⟩
theorem Pt.up {D E : Nat} {q : Rat} (h : Pt D q) (hd : D ∣ E) : Pt E q := by
  obtain ⟨a, ha⟩ := h
  obtain ⟨k, rfl⟩ := hd
  refine ⟨a * k, ?_⟩
  rw [Rat.natCast_mul, Rat.intCast_mul, ← ha]
  have : ((k : Int) : Rat) = (k : Rat) := rfl
  rw [this]
  grind
theorem Pt.of_div {a : Int} {D : Nat} (hD : 0 < D) : Pt D (Rat.divInt a D) := by
  refine ⟨a, ?_⟩
  rw [Rat.divInt_eq_div]
  have : ((D : Int) : Rat) = (D : Rat) := rfl
  rw [this]
  have := natQ_ne hD
  grind
theorem Pt.den {D : Nat} {q : Rat} (h : Pt D q) (hD : 0 < D) : q = Rat.divInt (q * D).num D := by
  obtain ⟨z, hz⟩ := h
  rw [hz, Rat.num_intCast, Rat.divInt_eq_div]
  have : ((D : Int) : Rat) = (D : Rat) := rfl
  rw [this]
  have := natQ_ne hD
  grind
theorem Pt.den_dvd {D : Nat} {q : Rat} (h : Pt D q) (hD : 0 < D) : q.den ∣ D := by
  rw [h.den hD, Rat.den_divInt, if_neg (by omega)]
  refine ⟨Int.gcd (D : Int) (q * D).num, ?_⟩
  rw [Nat.div_mul_cancel (Int.gcd_dvd_natAbs_left _ _)]
  rfl
theorem Pt.num_le {D : Nat} {q : Rat} (h : Pt D q) (hD : 0 < D) : q.num.natAbs ≤ (q * D).num.natAbs := by
  have e := h.den hD
  have : q.num = (q * D).num / (Int.gcd (D : Int) (q * D).num : Int) := by
    have := congrArg Rat.num e
    rw [Rat.num_divInt, Int.sign_eq_one_of_pos (by omega), Int.one_mul] at this
    exact this
  rw [this]
  exact Int.natAbs_ediv_le_natAbs _ _
/-- small enough to reckon with -/
structure Sz (q : Rat) : Prop where
  den : q.den < 2 ^ 4000
  num : q.num.natAbs < 2 ^ 5000
theorem Pt.sz {D N : Nat} {q : Rat} (h : Pt D q) (hD : 0 < D) (hD2 : D < 2 ^ 4000) (hN : N < 2 ^ 1000) (h1 : q ≤ (N : Rat)) (h2 : -(N : Rat) ≤ q) : Sz q := by
  refine ⟨Nat.lt_of_le_of_lt (Nat.le_of_dvd hD (h.den_dvd hD)) hD2, Nat.lt_of_le_of_lt (h.num_le hD) ?_⟩
  obtain ⟨z, hz⟩ := h
  rw [hz, Rat.num_intCast]
  have hp := natQ_pos hD
  have e1 : (z : Rat) ≤ ((N * D : Nat) : Rat) := by
    rw [← hz, Rat.natCast_mul]
    exact Rat.mul_le_mul_of_nonneg_right h1 (Rat.le_of_lt hp)
  have e2 : ((-(N * D : Nat) : Int) : Rat) ≤ (z : Rat) := by
    rw [← hz, Rat.intCast_neg]
    have : (((N * D : Nat) : Int) : Rat) = (N : Rat) * (D : Rat) := by
      rw [← Rat.natCast_mul]; rfl
    rw [this]
    have := Rat.mul_le_mul_of_nonneg_right h2 (Rat.le_of_lt hp)
    grind
  have f1 : z ≤ ((N * D : Nat) : Int) := Rat.intCast_le_intCast.mp e1
  have f2 : (-(N * D : Nat) : Int) ≤ z := Rat.intCast_le_intCast.mp e2
  have : N * D < 2 ^ (1000 + 4000) := mul_pow hN hD2
  omega
theorem Sz.d9000 {q : Rat} (h : Sz q) : q.den < 2 ^ 9000 := lt_pow h.den (by decide)
theorem Sz.num6 {q : Rat} (h : Sz q) : q.num.natAbs < 2 ^ 60000 := lt_pow h.num (by decide)
theorem Sz.den6 {q : Rat} (h : Sz q) : (q.den : Int).natAbs < 2 ^ 60000 := lt_pow (by show q.den < _; exact h.den) (by decide)
theorem den_pos {q : Rat} : 0 < q.den := Nat.pos_of_ne_zero q.den_nz
theorem den_posI {q : Rat} : (0 : Int) < q.den := by have := @den_pos q; omega
theorem q_add (x y : Rat) : Rat.divInt (x.num * y.den + y.num * x.den) (x.den * y.den) = x + y := by
  conv => rhs; rw [← Rat.num_divInt_den x, ← Rat.num_divInt_den y]
  rw [Rat.divInt_add_divInt _ _ (by have := @den_posI x; omega) (by have := @den_posI y; omega)]
theorem q_mul (x y : Rat) : Rat.divInt (x.num * y.num) (x.den * y.den) = x * y := by
  conv => rhs; rw [← Rat.num_divInt_den x, ← Rat.num_divInt_den y]
  rw [Rat.divInt_mul_divInt]
theorem q_sub (x y : Rat) : Rat.divInt (x.num * y.den - y.num * x.den) (x.den * y.den) = x - y := by
  conv => rhs; rw [← Rat.num_divInt_den x, ← Rat.num_divInt_den y]
  rw [Rat.sub_eq_add_neg, Rat.neg_divInt, Rat.divInt_add_divInt _ _ (by have := @den_posI x; omega) (by have := @den_posI y; omega)]
  congr 1
  grind
theorem q_div (x y : Rat) (h : y ≠ 0) : Rat.divInt (x.num * y.den) (x.den * y.num) = x / y := by
  have e1 := Rat.num_divInt_den x
  have e2 := Rat.num_divInt_den y
  rw [Rat.divInt_eq_div] at e1 e2 ⊢
  conv => rhs; rw [← e1, ← e2]
  have hy : (y.num : Rat) ≠ 0 := fun z => h (by rw [← e2, z]; grind)
  have d1 : ((x.den : Int) : Rat) ≠ 0 := natQ_ne den_pos
  have d2 : ((y.den : Int) : Rat) ≠ 0 := natQ_ne den_pos
  rw [Rat.intCast_mul, Rat.intCast_mul]
  grind
theorem q_coprime (q : Rat) : Nat.gcd q.num.natAbs q.den = 1 := q.reduced
theorem whL_turn {t : Ft} {b : Fs} {n : Nat} {e e1 e2 : En} {r : Option (Flw × En)} (ht : t e = some (true, e1)) (hb : b e1 = some (.nx, e2)) (hn : whL t b n e2 = r) : whL t b (n + 1) e = r := by
  simp [whL, ht, hb, hn]
theorem whL_stop {t : Ft} {b : Fs} {n : Nat} {e e1 : En} (ht : t e = some (false, e1)) : whL t b (n + 1) e = some (.nx, e1) := by
  simp [whL, ht]
theorem rng_nat (n : Nat) : rng 0 (n : Int) = (List.range n).map fun (i : Nat) => .int (i : Int) := by
  unfold rng
  rw [show ((n : Int) - 0).toNat = n by omega]
  exact List.map_congr_left fun i _ => by rw [Int.zero_add]
theorem rng_nat2 (m n : Nat) : rng (m : Int) (n : Int) = (List.range (n - m)).map fun (i : Nat) => .int ((m + i : Nat) : Int) := by
  unfold rng
  rw [show ((n : Int) - (m : Int)).toNat = n - m by omega]
  exact List.map_congr_left fun i _ => by rw [Int.natCast_add]
theorem atI_get {α : Type} {l : List α} {i : Nat} (h : i < l.length) : atI l (i : Int) = some l[i] := by
  unfold atI ixN
  rw [if_pos (by omega), if_pos (by omega), Int.toNat_natCast]
  exact List.getElem?_eq_getElem h
theorem atI_getD {l : List PyData} {i : Nat} (h : i < l.length) : atI l (i : Int) = some (l.getD i .none) := by
  rw [atI_get h, List.getD_eq_getElem?_getD, List.getElem?_eq_getElem h]; rfl
/-- data that _law_same looks through to depth r -/
def Pl : Nat → PyData → Prop
  | 0, _ => False
  | _ + 1, .int _ => True
  | _ + 1, .none => True
  | _ + 1, .bool _ => True
  | _ + 1, .str s => PyData.strOk s = true
  | r + 1, .list ds => ds.length ≤ 1000000 ∧ ∀ d ∈ ds, Pl r d
  | r + 1, .tuple ds => ds.length ≤ 1000000 ∧ ∀ d ∈ ds, Pl r d
  | _ + 1, _ => False
theorem Pl.q {r : Nat} (q : Rat) : Pl (r + 2) (encQ q) := by
  refine ⟨by simp, fun d hd => ?_⟩
  simp only [List.mem_cons, List.not_mem_nil, or_false] at hd
  rcases hd with rfl | rfl <;> trivial
/-- facts of sizes -/
theorem Sz.nn {x y : Rat} (h : Sz x) (h2 : Sz y) : mulOk x.num y.num = true := mulOk_lt h.num6 h2.num6
theorem Sz.nd {x y : Rat} (h : Sz x) (h2 : Sz y) : mulOk x.num (y.den : Int) = true := mulOk_lt h.num6 h2.den6
theorem Sz.dn {x y : Rat} (h : Sz x) (h2 : Sz y) : mulOk (x.den : Int) y.num = true := mulOk_lt h.den6 h2.num6
theorem Sz.dd {x y : Rat} (h : Sz x) (h2 : Sz y) : mulOk (x.den : Int) (y.den : Int) = true := mulOk_lt h.den6 h2.den6
theorem dd_pos {x y : Rat} : 0 < (x.den : Int) * (y.den : Int) := Int.mul_pos den_posI den_posI
theorem Sz.ddlt {x y : Rat} (h : Sz x) (h2 : Sz y) : ((x.den : Int) * (y.den : Int)).natAbs < 2 ^ 9000 := by
  rw [Int.natAbs_mul]
  exact lt_pow (mul_pow h.den h2.den) (by decide)
theorem Sz.dnlt {x y : Rat} (h : Sz x) (h2 : Sz y) : ((x.den : Int) * y.num).natAbs < 2 ^ 9000 := by
  rw [Int.natAbs_mul]
  exact lt_pow (mul_pow h.den h2.num) (by decide)
theorem Sz.one : Sz 1 := ⟨Nat.one_lt_two_pow (by decide), Nat.one_lt_two_pow (by decide)⟩
theorem Sz.zero : Sz 0 := ⟨Nat.one_lt_two_pow (by decide), Nat.pos_of_neZero _⟩
theorem numQ_pos {q : Rat} : 0 < q.num ↔ 0 < q := by
  rw [Rat.lt_iff]
  simp
theorem numQ_0 {q : Rat} : q.num = 0 ↔ q = 0 := Rat.num_eq_zero
theorem num_le_den {q : Rat} : q.num ≤ (q.den : Int) ↔ q ≤ 1 := by
  rw [Rat.le_iff]
  simp
@[simp] theorem shaped_b (b : Bool) : SeqAt.shaped (.bool b) = true := by simp [SeqAt.shaped, PyData.canLay0, PyData.depth]
@[simp] theorem shaped_nil : SeqAt.shaped (.list []) = true := by decide +kernel
@[simp] theorem eqv_b (a b : Bool) : PyData.eqv (.bool a) (.bool b) = (a == b) := by simp only [PyData.eqv]
@[simp] theorem eqv_nil : PyData.eqv (.list []) (.list []) = true := by decide +kernel
@[simp] theorem wipe_nil {e : En} : wipeE e [] = e := rfl
@[simp] theorem wipe_cons {e : En} {v : Nat} {vs : List Nat} : wipeE e (v :: vs) = (wipeE e vs).set v .no := rfl
def kRest (e1 e2 : En) (v : Nat) (vs : List Nat) (o : Option Sl) : En := match o with
  | some s => (restE e1 e2 vs).set v s
  | none => restE e1 e2 vs
@[simp] theorem rest_nil {e1 e2 : En} : restE e1 e2 [] = e2 := rfl
@[simp] theorem rest_cons {e1 e2 : En} {v : Nat} {vs : List Nat} : restE e1 e2 (v :: vs) = kRest e1 e2 v vs e1[v]? := by
  unfold restE kRest
  rfl
@[simp] theorem kRest_s {e1 e2 : En} {v : Nat} {vs : List Nat} {s : Sl} : kRest e1 e2 v vs (some s) = (restE e1 e2 vs).set v s := rfl
theorem set_back {e : En} {i : Nat} {s : Sl} (h : e[i]? = some s) (d : Sl) : (e.set i d).set i s = e := by
  rw [List.set_set]
  apply List.ext_getElem?
  intro j
  rw [List.getElem?_set]
  by_cases hj : i = j
  · subst hj
    rw [if_pos rfl, h]
    have := (List.getElem?_eq_some_iff.mp h).1
    rw [if_pos this]
  · rw [if_neg hj]
theorem no_own1 {e : En} {i : Nat} (h : noOwn e [i] = true) : True := trivial
/-- [a(x) for x in xs if t(x)], the tests and elements change nothing -/
theorem cm_f {α β : Type} {t : Ft} {a : Fe} {i : Nat} {e : En} {E : α → PyData} {D : β → PyData} {F : α → β} {p : α → Bool} {s : Sl} {xs : List α} (hn : xs.length ≤ 1000000) (hs : e[i]? = some s) (ho : noOwn e [i] = true)
    (h : ∀ y ∈ xs, t (e.set i (.val (E y))) = some (p y, e.set i (.val (E y))) ∧ (p y = true → a (e.set i (.val (E y))) = some (D (F y), e.set i (.val (E y))))) :
    kCm (g1 i) t a [i] (xs.map E, e) = some (((xs.filter p).map F).map D, e) := by
  refine (kCm_ok (by simpa using hn) ho rfl (comp_filter (F := F) (p := p) (D := D) fun y hy => ⟨e.set i (.val (E y)), e.set i (.val (E y)), ?_, (h y hy).1, fun _ => ?_, fun hp => ⟨e.set i (.val (E y)), (h y hy).2 hp, ?_⟩⟩)).trans ?_
  · show some (((e.set i .no)).set i (.val (E y))) = _
    rw [List.set_set]
  · show (e.set i (.val (E y))).set i .no = e.set i .no
    rw [List.set_set]
  · show (e.set i (.val (E y))).set i .no = e.set i .no
    rw [List.set_set]
  · rw [rest_cons, hs, kRest_s, rest_nil]
    rw [show wipeE e [i] = e.set i .no from rfl, set_back hs]
theorem filter_all {α : Type} (xs : List α) : xs.filter (fun _ => true) = xs := List.filter_eq_self.mpr fun _ _ => rfl
theorem cm_a {α β : Type} {a : Fe} {i : Nat} {e : En} {E : α → PyData} {D : β → PyData} {F : α → β} {s : Sl} {xs : List α} (hn : xs.length ≤ 1000000) (hs : e[i]? = some s) (ho : noOwn e [i] = true)
    (h : ∀ y ∈ xs, a (e.set i (.val (E y))) = some (D (F y), e.set i (.val (E y)))) :
    kCm (g1 i) tYs a [i] (xs.map E, e) = some ((xs.map F).map D, e) := by
  have := cm_f (t := tYs) (p := fun _ => true) hn hs ho fun y hy => ⟨rfl, fun _ => h y hy⟩
  rw [filter_all] at this
  exact this
/-- [a(x, y) for x, y in xs if t(x, y)] -/
theorem cm_f2 {α β : Type} {t : Ft} {a : Fe} {i j : Nat} {e : En} {E1 E2 : α → PyData} {D : β → PyData} {F : α → β} {p : α → Bool} {s s2 : Sl} {xs : List α} (hn : xs.length ≤ 1000000) (hij : i ≠ j) (hs : e[i]? = some s) (hs2 : e[j]? = some s2) (ho : noOwn e [i, j] = true)
    (h : ∀ y ∈ xs, t ((e.set i (.val (E1 y))).set j (.val (E2 y))) = some (p y, (e.set i (.val (E1 y))).set j (.val (E2 y))) ∧ (p y = true → a ((e.set i (.val (E1 y))).set j (.val (E2 y))) = some (D (F y), (e.set i (.val (E1 y))).set j (.val (E2 y))))) :
    kCm (g2 2 (gsC (g1 i) (gsC (g1 j) gsN))) t a [i, j] (xs.map (fun y => .tuple [E1 y, E2 y]), e) = some (((xs.filter p).map F).map D, e) := by
  have w : ∀ d1 d2 : Sl, wipeE ((e.set i d1).set j d2) [i, j] = wipeE e [i, j] := fun d1 d2 => by
    show (((e.set i d1).set j d2).set j .no).set i .no = (e.set j .no).set i .no
    rw [List.set_set, List.set_comm _ _ hij.symm, List.set_comm _ _ hij.symm, List.set_set]
  refine (kCm_ok (by simpa using hn) ho rfl (comp_filter (F := F) (p := p) (D := D) fun y hy => ⟨(e.set i (.val (E1 y))).set j (.val (E2 y)), (e.set i (.val (E1 y))).set j (.val (E2 y)), ?_, (h y hy).1, fun _ => w _ _, fun hp => ⟨(e.set i (.val (E1 y))).set j (.val (E2 y)), (h y hy).2 hp, w _ _⟩⟩)).trans ?_
  · show some ((((e.set j .no).set i .no).set i (.val (E1 y))).set j (.val (E2 y))) = _
    rw [List.set_set, List.set_comm _ _ hij, List.set_comm _ _ hij, List.set_set]
  · rw [rest_cons, hs, kRest_s, rest_cons, hs2, kRest_s, rest_nil]
    show some (_, ((((e.set j .no).set i .no).set j s2).set i s)) = _
    rw [List.set_comm _ _ hij, set_back hs2, set_back hs]
theorem cm_a2 {α β : Type} {a : Fe} {i j : Nat} {e : En} {E1 E2 : α → PyData} {D : β → PyData} {F : α → β} {s s2 : Sl} {xs : List α} (hn : xs.length ≤ 1000000) (hij : i ≠ j) (hs : e[i]? = some s) (hs2 : e[j]? = some s2) (ho : noOwn e [i, j] = true)
    (h : ∀ y ∈ xs, a ((e.set i (.val (E1 y))).set j (.val (E2 y))) = some (D (F y), (e.set i (.val (E1 y))).set j (.val (E2 y)))) :
    kCm (g2 2 (gsC (g1 i) (gsC (g1 j) gsN))) tYs a [i, j] (xs.map (fun y => .tuple [E1 y, E2 y]), e) = some ((xs.map F).map D, e) := by
  have := cm_f2 (t := tYs) (p := fun _ => true) hn hij hs hs2 ho fun y hy => ⟨rfl, fun _ => h y hy⟩
  rw [filter_all] at this
  exact this
theorem Pl.list {r : Nat} {ds : List PyData} (h : Pl (r + 1) (.list ds)) : ds.length ≤ 1000000 ∧ ∀ d ∈ ds, Pl r d := h
theorem Pl.tuple {r : Nat} {ds : List PyData} (h : Pl (r + 1) (.tuple ds)) : ds.length ≤ 1000000 ∧ ∀ d ∈ ds, Pl r d := h
theorem Pl.mkL {r : Nat} {ds : List PyData} (h : ds.length ≤ 1000000 ∧ ∀ d ∈ ds, Pl r d) : Pl (r + 1) (.list ds) := h
theorem Pl.mkT {r : Nat} {ds : List PyData} (h : ds.length ≤ 1000000 ∧ ∀ d ∈ ds, Pl r d) : Pl (r + 1) (.tuple ds) := h
theorem Pl.at {r : Nat} {ds : List PyData} (h : ∀ d ∈ ds, Pl r d) {i : Nat} (hi : i < ds.length) : Pl r (ds.getD i .none) := h _ (by rw [List.getD_eq_getElem?_getD, List.getElem?_eq_getElem hi]; exact List.getElem_mem hi)
theorem kR1_len {n : Nat} {e : En} (h : n ≤ 1000000) : kR1 ([.int (n : Int)], e) = some ((List.range n).map fun (i : Nat) => .int (i : Int), e) := by
  rw [kR1_ok (by omega) (by omega), rng_nat]
theorem kR2_len {m n : Nat} {e : En} (h : m ≤ 1000000) (h2 : n ≤ 1000000) : kR2 ([.int (m : Int), .int (n : Int)], e) = some ((List.range (n - m)).map fun (i : Nat) => .int ((m + i : Nat) : Int), e) := by
  rw [kR2_ok (by omega) (by omega) (by omega) (by omega), rng_nat2]
theorem filter_none {α : Type} (xs : List α) : xs.filter (fun _ => false) = [] := List.filter_eq_nil_iff.mpr fun _ _ => by simp
/-- a loop, turn by turn -/
theorem for_at {α : Type} {tg : Tg} {f : Fs} {E : α → PyData} {S : Nat → En → Prop} : ∀ {xs : List α} {k : Nat} {e : En}, S k e → (∀ (i : Nat) (y : α), xs[i]? = some y → ∀ e, S (k + i) e → ∃ e1 e2 fl, tg (E y) e = some e1 ∧ f e1 = some (fl, e2) ∧ (fl = .nx ∨ fl = .ct) ∧ S (k + i + 1) e2) →
    ∃ e', forL tg f (xs.map E) e = some (.nx, e') ∧ S (k + xs.length) e'
  | [], k, e, hs, _ => ⟨e, rfl, hs⟩
  | d :: ds, k, e, hs, h => by
    obtain ⟨e1, e2, fl, h1, h2, h3, h4⟩ := h 0 d rfl e hs
    obtain ⟨e', h5, h6⟩ := for_at (xs := ds) (k := k + 1) h4 fun i y hi e he => by
      have := h (i + 1) y (by simpa using hi) e (by rw [show k + (i + 1) = k + 1 + i by omega]; exact he)
      rw [show k + (i + 1) + 1 = k + 1 + i + 1 by omega] at this
      exact this
    refine ⟨e', ?_, by rw [List.length_cons, show k + (ds.length + 1) = k + 1 + ds.length by omega]; exact h6⟩
    rw [List.map_cons, for_cons, h1]
    show (f e1).bind _ = _
    rw [h2]
    rcases h3 with rfl | rfl
    · exact h5
    · exact h5
theorem for_ix {tg : Tg} {f : Fs} {E : Nat → PyData} {S : Nat → En → Prop} {n : Nat} {e : En} (hs : S 0 e) (h : ∀ i, i < n → ∀ e, S i e → ∃ e1 e2 fl, tg (E i) e = some e1 ∧ f e1 = some (fl, e2) ∧ (fl = .nx ∨ fl = .ct) ∧ S (i + 1) e2) :
    ∃ e', forL tg f ((List.range n).map E) e = some (.nx, e') ∧ S n e' := by
  have := for_at (tg := tg) (f := f) (E := E) (S := S) (xs := List.range n) (k := 0) hs fun i y hi e he => by
    have hi2 : i < n := by
      have := (List.getElem?_eq_some_iff.mp hi).1
      simpa using this
    rw [List.getElem?_range hi2] at hi
    cases hi
    rw [Nat.zero_add] at he ⊢
    exact h i hi2 e he
  rw [List.length_range, Nat.zero_add] at this
  exact this
theorem for_at0 {α : Type} {tg : Tg} {f : Fs} {E : α → PyData} {S : Nat → En → Prop} {xs : List α} {e : En} (hs : S 0 e) (h : ∀ (i : Nat) (y : α), xs[i]? = some y → ∀ e, S i e → ∃ e1 e2 fl, tg (E y) e = some e1 ∧ f e1 = some (fl, e2) ∧ (fl = .nx ∨ fl = .ct) ∧ S (i + 1) e2) :
    ∃ e', forL tg f (xs.map E) e = some (.nx, e') ∧ S xs.length e' := by
  have := for_at (xs := xs) (k := 0) hs fun i y hi e he => by
    rw [Nat.zero_add] at he ⊢
    exact h i y hi e he
  rw [Nat.zero_add] at this
  exact this
/-- a loop that hands back in turn n -/
theorem for_ret {tg : Tg} {f : Fs} {E : Nat → PyData} {S : Nat → En → Prop} {n N : Nat} {e : En} {r : Flw} {Z : En → Prop} (hN : n < N) (hr : ∀ e, Z e → True) (hs : S 0 e) (h : ∀ i, i < n → ∀ e, S i e → ∃ e1 e2 fl, tg (E i) e = some e1 ∧ f e1 = some (fl, e2) ∧ (fl = .nx ∨ fl = .ct) ∧ S (i + 1) e2)
    (hz : ∀ e, S n e → ∃ e1 e2, tg (E n) e = some e1 ∧ f e1 = some (r, e2) ∧ ∀ (ds : List PyData), kTurn tg f ds (r, e2) = some (r, e2)) : ∃ e', forL tg f ((List.range N).map E) e = some (r, e') := by
  have key : ∀ (m k : Nat) (e : En), k + m = n → S k e → ∃ e', forL tg f ((List.range' k (N - k)).map E) e = some (r, e') := by
    intro m
    induction m with
    | zero =>
      intro k e hk he
      have hk' : k = n := by omega
      subst hk'
      obtain ⟨e1, e2, h1, h2, h3⟩ := hz e he
      refine ⟨e2, ?_⟩
      rw [show N - k = (N - k - 1) + 1 by omega, List.range'_succ, List.map_cons, for_cons, h1]
      show (f e1).bind _ = _
      rw [h2]
      exact h3 _
    | succ m ih =>
      intro k e hk he
      obtain ⟨e1, e2, fl, h1, h2, h3, h4⟩ := h k (by omega) e he
      obtain ⟨e', h5⟩ := ih (k + 1) e2 (by omega) h4
      refine ⟨e', ?_⟩
      rw [show N - k = (N - (k + 1)) + 1 by omega, List.range'_succ, List.map_cons, for_cons, h1]
      show (f e1).bind _ = _
      rw [h2]
      rcases h3 with rfl | rfl
      · exact h5
      · exact h5
  have := key n 0 e (by omega) hs
  rw [Nat.sub_zero, ← List.range_eq_range'] at this
  exact this
end Dn

set_option Elab.async false
set_option linter.all false
set_option maxRecDepth 100000
/-! vectors, tables and sums of ints -/
namespace Dn
open PySem PySem.Spec PyProof.Rows L2
def sumN (f : Nat → Int) : Nat → Int
  | 0 => 0
  | n + 1 => sumN f n + f n
theorem sumN_range (f : Nat → Int) : ∀ n, ((List.range n).map f).sum = sumN f n
  | 0 => rfl
  | n + 1 => by rw [List.range_succ, List.map_append, List.sum_append, sumN_range f n]; simp [sumN]
theorem sumN_congr {f g : Nat → Int} : ∀ {n : Nat}, (∀ i, i < n → f i = g i) → sumN f n = sumN g n
  | 0, _ => rfl
  | n + 1, h => by rw [sumN, sumN, sumN_congr fun i hi => h i (by omega), h n (by omega)]
theorem sumN_add (f g : Nat → Int) : ∀ n, sumN (fun i => f i + g i) n = sumN f n + sumN g n
  | 0 => rfl
  | n + 1 => by rw [sumN, sumN, sumN, sumN_add f g n]; omega
theorem sumN_mul (c : Int) (f : Nat → Int) : ∀ n, sumN (fun i => c * f i) n = c * sumN f n
  | 0 => by simp [sumN]
  | n + 1 => by rw [sumN, sumN, sumN_mul c f n, Int.mul_add]
theorem sumN_zero : ∀ n, sumN (fun _ => 0) n = 0
  | 0 => rfl
  | n + 1 => by rw [sumN, sumN_zero n]; rfl
theorem sumN_swap (f : Nat → Nat → Int) (m : Nat) : ∀ n, sumN (fun i => sumN (f i) m) n = sumN (fun j => sumN (fun i => f i j) n) m
  | 0 => by simp [sumN, sumN_zero]
  | n + 1 => by
    rw [sumN, sumN_swap f m n]
    show _ = sumN (fun j => sumN (fun i => f i j) n + f n j) m
    rw [sumN_add]
theorem sumN_nonneg {f : Nat → Int} : ∀ {n : Nat}, (∀ i, i < n → 0 ≤ f i) → 0 ≤ sumN f n
  | 0, _ => Int.le_refl 0
  | n + 1, h => by
    have := sumN_nonneg (f := f) (n := n) fun i hi => h i (by omega)
    have := h n (by omega)
    rw [sumN]; omega
theorem sumN_ge {f : Nat → Int} : ∀ {n : Nat}, (∀ i, i < n → 0 ≤ f i) → ∀ i, i < n → f i ≤ sumN f n
  | 0, _, i, hi => by omega
  | n + 1, h, i, hi => by
    have h0 : 0 ≤ sumN f n := sumN_nonneg fun i hi => h i (by omega)
    have h1 := h n (by omega)
    rw [sumN]
    by_cases e : i = n
    · subst e; omega
    · have := sumN_ge (fun i hi => h i (by omega)) i (show i < n by omega); omega
/-- one entry alone -/
theorem sumN_one (c : Nat → Int) (k : Nat) : ∀ n, sumN (fun j => if j = k then c j else 0) n = if k < n then c k else 0
  | 0 => by simp [sumN]
  | n + 1 => by
    rw [sumN, sumN_one c k n]
    by_cases h : n = k
    · subst h; rw [if_neg (by omega), if_pos rfl, if_pos (by omega)]; omega
    · rw [if_neg h]
      by_cases h2 : k < n
      · rw [if_pos h2, if_pos (by omega)]; omega
      · rw [if_neg h2, if_neg (by omega)]; omega
def vecP (n : Nat) (f : Nat → Int) : PyData := .list ((List.range n).map fun i => .int (f i))
def matP (m n : Nat) (M : Nat → Nat → Int) : PyData := .list ((List.range m).map fun k => vecP n (M k))
theorem vecP_congr {n : Nat} {f g : Nat → Int} (h : ∀ i, i < n → f i = g i) : vecP n f = vecP n g := by
  unfold vecP
  congr 1
  exact List.map_congr_left fun i hi => by rw [h i (List.mem_range.mp hi)]
theorem vecP_of (ns : List Int) : PyData.list (ns.map .int) = vecP ns.length fun i => ns.getD i 0 := by
  unfold vecP
  congr 1
  apply List.ext_getElem?
  intro i
  rw [List.getElem?_map, List.getElem?_map]
  by_cases h : i < ns.length
  · rw [List.getElem?_range h, List.getElem?_eq_getElem h]
    simp [List.getD_eq_getElem?_getD, List.getElem?_eq_getElem h]
  · rw [List.getElem?_eq_none (by omega), List.getElem?_eq_none (by simpa using h)]
    rfl
theorem ints_vec (n : Nat) (f : Nat → Int) : intsOf ((List.range n).map fun i => .int (f i)) = some ((List.range n).map f) := by
  rw [← intsOf_map, List.map_map]; rfl
theorem sum_vec (n : Nat) (f : Nat → Int) : gSum [vecP n f] = some (.int (sumN f n)) := by
  show (intsOf _).map _ = _
  rw [ints_vec, Option.map_some, sumN_range]
theorem zip_range {α : Type} (F G : Nat → PyData) : ∀ l : List Nat, zipD (l.map F) (l.map G) = l.map fun i => .tuple [F i, G i]
  | [] => rfl
  | x :: l => by
    have := zip_range (α := α) F G l
    unfold zipD at this ⊢
    rw [List.map_cons, List.map_cons, List.map_cons, List.zipWith_cons_cons, this]
theorem zip_vec (n : Nat) (f g : Nat → Int) : zipD ((List.range n).map fun i => .int (f i)) ((List.range n).map fun i => .int (g i)) = (List.range n).map fun i => .tuple [.int (f i), .int (g i)] := zip_range (α := Nat) _ _ _
theorem atI_lastD {l : List PyData} (h : 0 < l.length) : atI l (-1) = some (l.getD (l.length - 1) .none) := by
  unfold atI ixN
  rw [if_neg (by omega), if_pos (by omega)]
  rw [show (-1 + (l.length : Int)).toNat = l.length - 1 by omega]
  rw [List.getD_eq_getElem?_getD]
  simp only [Option.bind_some]
  rw [List.getElem?_eq_getElem (by omega)]
  rfl
theorem atI_map {F : Nat → PyData} {n i : Nat} (h : i < n) : atI ((List.range n).map F) (i : Int) = some (F i) := by
  rw [atI_get (by simpa using h)]
  simp
theorem atI_mapl {F : Nat → PyData} {n : Nat} (h : 0 < n) : atI ((List.range n).map F) (-1) = some (F (n - 1)) := by
  rw [atI_lastD (by simpa using h)]
  have h1 : n - 1 < n := by omega
  simp [List.getD_eq_getElem?_getD, h1]
def ser (M : Nat → Nat → Int) (n : Nat) (f0 : Nat → Int) : Nat → Nat → Int
  | 0 => f0
  | y + 1 => fun k => sumN (fun j => M k j * ser M n f0 y j) n
def oyD (M : Nat → Nat → Int) (m : Nat) (f0 : Nat → Int) (B sb : Int) (y : Nat) : PyData := .tuple [vecP m (ser M m f0 y), .int (sb * B ^ y)]
def oyP (M : Nat → Nat → Int) (m : Nat) (f0 : Nat → Int) (B sb : Int) (n : Nat) : List PyData := (List.range (n + 1)).map (oyD M m f0 B sb)
theorem oy_len {M : Nat → Nat → Int} {m : Nat} {f0 : Nat → Int} {B sb : Int} {n : Nat} : (oyP M m f0 B sb n).length = n + 1 := by simp [oyP]
theorem oy_last {M : Nat → Nat → Int} {m : Nat} {f0 : Nat → Int} {B sb : Int} {n : Nat} : atI (oyP M m f0 B sb n) (-1) = some (oyD M m f0 B sb n) := atI_mapl (by omega)
theorem oy_at {M : Nat → Nat → Int} {m : Nat} {f0 : Nat → Int} {B sb : Int} {n i : Nat} (h : i ≤ n) : atI (oyP M m f0 B sb n) (i : Int) = some (oyD M m f0 B sb i) := atI_map (by omega)
theorem oy_succ {M : Nat → Nat → Int} {m : Nat} {f0 : Nat → Int} {B sb : Int} {n : Nat} : oyP M m f0 B sb n ++ [oyD M m f0 B sb (n + 1)] = oyP M m f0 B sb (n + 1) := by
  unfold oyP
  rw [List.range_succ (n := n + 1), List.map_append]
  rfl
theorem items_mat {m n : Nat} {M : Nat → Nat → Int} : items (matP m n M) = some ((List.range m).map fun k => vecP n (M k)) := rfl
theorem items_vec {n : Nat} {f : Nat → Int} : items (vecP n f) = some ((List.range n).map fun i => .int (f i)) := rfl
theorem kZp_vec {n : Nat} {f g : Nat → Int} {e : En} : kZp ([vecP n f, vecP n g], e) = some ((List.range n).map fun i => .tuple [.int (f i), .int (g i)], e) := by
  unfold vecP
  rw [kZp_e, zip_vec]
theorem vec_fold {n : Nat} {f : Nat → Int} : .list (((List.range n).map f).map PyData.int) = vecP n f := by
  unfold vecP
  rw [List.map_map]; rfl
theorem gIx_vec {n i : Nat} {f : Nat → Int} (h : i < n) : gIx (vecP n f) (.int (i : Int)) = some (.int (f i)) := atI_map h
theorem gIx_vecl {n : Nat} {f : Nat → Int} (h : 0 < n) : gIx (vecP n f) (.int (-1)) = some (.int (f (n - 1))) := atI_mapl h
theorem gLen_vec {n : Nat} {f : Nat → Int} : gLen [vecP n f] = some (.int (n : Int)) := by
  unfold vecP
  simp
theorem kOf_vec {n : Nat} {f : Nat → Int} {e : En} : kOf ([vecP n f], e) = some ((List.range n).map fun i => .int (f i), e) := rfl
end Dn

set_option Elab.async false
set_option linter.all false
set_option maxRecDepth 100000
/-! rows of casks: the mathematics -/
namespace Dn
open PySem PySem.Spec PyProof.Rows L2
/-- the least common multiple of the denominators -/
def lcms (l : List Rat) : Nat := l.foldl (fun b q => Nat.lcm b q.den) 1
theorem lcms_snoc (l : List Rat) (q : Rat) : lcms (l ++ [q]) = Nat.lcm (lcms l) q.den := by simp [lcms]
theorem foldl_lcm_dvd {D : Nat} : ∀ (l : List Rat) (b : Nat), b ∣ D → (∀ q ∈ l, q.den ∣ D) → l.foldl (fun b q => Nat.lcm b q.den) b ∣ D
  | [], _, h, _ => h
  | q :: l, b, h, h2 => foldl_lcm_dvd l _ (Nat.lcm_dvd h (h2 q List.mem_cons_self)) fun q hq => h2 q (List.mem_cons_of_mem _ hq)
theorem lcms_dvd {D : Nat} {l : List Rat} (h : ∀ q ∈ l, q.den ∣ D) : lcms l ∣ D := foldl_lcm_dvd l 1 (Nat.one_dvd _) h
theorem dvd_foldl : ∀ (l : List Rat) (b : Nat), b ∣ l.foldl (fun b q => Nat.lcm b q.den) b
  | [], _ => Nat.dvd_refl _
  | q :: l, b => Nat.dvd_trans (Nat.dvd_lcm_left b q.den) (dvd_foldl l _)
theorem dvd_lcms : ∀ (l : List Rat) (b : Nat) (q : Rat), q ∈ l → q.den ∣ l.foldl (fun b q => Nat.lcm b q.den) b
  | p :: l, b, q, h => by
    rcases List.mem_cons.mp h with rfl | h
    · exact Nat.dvd_trans (Nat.dvd_lcm_right b q.den) (dvd_foldl l _)
    · exact dvd_lcms l _ q h
theorem den_lcms {l : List Rat} {q : Rat} (h : q ∈ l) : q.den ∣ lcms l := dvd_lcms l 1 q h
theorem lcms_pos (l : List Rat) : 0 < lcms l := by
  have : ∀ (l : List Rat) (b : Nat), 0 < b → 0 < l.foldl (fun b q => Nat.lcm b q.den) b := by
    intro l
    induction l with
    | nil => intro b h; exact h
    | cons q l ih => intro b h; exact ih _ (Nat.lcm_pos h den_pos)
  exact this l 1 (by decide)
/-- a product of denominators -/
def dprod (l : List Rat) : Nat := l.foldr (fun q b => q.den * b) 1
theorem den_dprod : ∀ {l : List Rat} {q : Rat}, q ∈ l → q.den ∣ dprod l
  | p :: l, q, h => by
    rcases List.mem_cons.mp h with rfl | h
    · exact Nat.dvd_mul_right _ _
    · exact Nat.dvd_trans (den_dprod h) (Nat.dvd_mul_left _ _)
theorem dprod_pos : ∀ l : List Rat, 0 < dprod l
  | [] => Nat.one_pos
  | q :: l => Nat.mul_pos den_pos (dprod_pos l)
theorem dprod_le {c : Nat} : ∀ {l : List Rat}, (∀ q ∈ l, q.den ≤ c) → dprod l ≤ c ^ l.length
  | [], _ => Nat.le_refl _
  | q :: l, h => by
    rw [List.length_cons, Nat.pow_succ, Nat.mul_comm]
    exact Nat.mul_le_mul (h q List.mem_cons_self) (dprod_le fun q hq => h q (List.mem_cons_of_mem _ hq))
theorem lcms_le {c : Nat} {l : List Rat} (h : ∀ q ∈ l, q.den ≤ c) : lcms l ≤ c ^ l.length :=
  Nat.le_trans (Nat.le_of_dvd (dprod_pos l) (lcms_dvd fun q hq => den_dprod hq)) (dprod_le h)
/-- q in parts of B -/
def sh (B : Nat) (q : Rat) : Int := q.num * ((B / q.den : Nat) : Int)
theorem sh_q {B : Nat} {q : Rat} (h : q.den ∣ B) : ((sh B q : Int) : Rat) = q * (B : Rat) := by
  obtain ⟨c, rfl⟩ := h
  unfold sh
  rw [Nat.mul_div_cancel_left _ den_pos, Rat.intCast_mul, Rat.natCast_mul]
  have e := Rat.num_divInt_den q
  rw [Rat.divInt_eq_div] at e
  have d1 : ((q.den : Int) : Rat) ≠ 0 := natQ_ne den_pos
  have d2 : ((q.den : Int) : Rat) = (q.den : Rat) := rfl
  have d3 : ((c : Int) : Rat) = (c : Rat) := rfl
  rw [d3]
  rw [d2] at e d1
  have : (q.num : Rat) = q * (q.den : Rat) := by
    have h2 : (q.num : Rat) / (q.den : Rat) * (q.den : Rat) = q * (q.den : Rat) := by rw [e]
    grind
  rw [this]
  grind
/-- a row of shares -/
structure RowC (c : Nat) (r : List Rat) : Prop where
  len : 1 ≤ r.length ∧ r.length ≤ 6
  pos : ∀ q ∈ r, 0 < q
  le1 : ∀ q ∈ r, q ≤ 1
  den : ∀ q ∈ r, q.den ≤ c
abbrev RowOk (r : List Rat) : Prop := RowC 1000 r
def rB (r : List Rat) : Nat := lcms r
def rs (r : List Rat) (k : Nat) : Int := (r.map (sh (rB r))).getD k 0
def rM (r : List Rat) : Nat → Nat → Int := rowEntry (rB r : Int) (r.map (sh (rB r)))
def e0 (i : Nat) : Int := if i = 0 then 1 else 0
def rv (r : List Rat) (y k : Nat) : Int := ser (rM r) r.length e0 y k
def rN (r : List Rat) (y : Nat) : Int := sumN (rv r y) r.length
section
variable {r : List Rat}
theorem rB_pos : 0 < rB r := lcms_pos r
theorem rB_lt (h : RowOk r) : rB r ≤ 1000 ^ 6 := Nat.le_trans (lcms_le h.den) (Nat.pow_le_pow_right (by decide) h.len.2)
theorem rs_at {k : Nat} {q : Rat} (hk : r[k]? = some q) : rs r k = sh (rB r) q := by
  unfold rs
  rw [List.getD_eq_getElem?_getD, List.getElem?_map, hk]
  rfl
theorem rs_q {k : Nat} {q : Rat} (hk : r[k]? = some q) : ((rs r k : Int) : Rat) = q * (rB r : Rat) := by
  rw [rs_at hk]
  exact sh_q (den_lcms (List.mem_of_getElem? hk))
theorem rs_bound {c : Nat} (h : RowC c r) {k : Nat} (hk : k < r.length) : 0 < rs r k ∧ rs r k ≤ rB r := by
  have e := List.getElem?_eq_getElem hk
  have hm := List.mem_of_getElem? e
  have e1 := rs_q e
  have p := natQ_pos (@rB_pos r)
  have q0 := h.pos _ hm
  have q1 := h.le1 _ hm
  constructor
  · have : ((0 : Int) : Rat) < ((rs r k : Int) : Rat) := by
      rw [e1]; exact Rat.mul_pos q0 p
    exact Rat.intCast_lt_intCast.mp this
  · have : ((rs r k : Int) : Rat) ≤ (((rB r : Nat) : Int) : Rat) := by
      rw [e1]
      have := Rat.mul_le_mul_of_nonneg_right q1 (Rat.le_of_lt p)
      have e3 : (((rB r : Nat) : Int) : Rat) = (rB r : Rat) := rfl
      rw [e3]
      grind
    exact Rat.intCast_le_intCast.mp this
theorem rM_eq (k j : Nat) : rM r k j = if j = k then (rB r : Int) - rs r k else if j + 1 = k then rs r j else 0 := rfl
theorem rv_succ {y k : Nat} (hk : k < r.length) : rv r (y + 1) k = ((rB r : Int) - rs r k) * rv r y k + if 0 < k then rs r (k - 1) * rv r y (k - 1) else 0 := by
  show sumN (fun j => rM r k j * ser (rM r) r.length e0 y j) r.length = _
  have e : ∀ j, j < r.length → rM r k j * ser (rM r) r.length e0 y j = (if j = k then ((rB r : Int) - rs r j) * rv r y j else 0) + (if j = k - 1 then (if 0 < k then rs r j * rv r y j else 0) else 0) := by
    intro j _
    show rM r k j * rv r y j = _
    rw [rM_eq]
    by_cases h1 : j = k
    · subst h1
      rw [if_pos rfl, if_pos rfl]
      by_cases h2 : 0 < j
      · rw [if_neg (show ¬ j = j - 1 by omega)]; omega
      · rw [if_neg h2]; split <;> omega
    · rw [if_neg h1, if_neg h1]
      by_cases h2 : j + 1 = k
      · rw [if_pos h2, if_pos (show j = k - 1 by omega), if_pos (by omega)]; omega
      · rw [if_neg h2, Int.zero_mul]
        by_cases h3 : j = k - 1
        · rw [if_pos h3, if_neg (by omega)]; omega
        · rw [if_neg h3]; omega
  rw [sumN_congr e, sumN_add, sumN_one (fun j => ((rB r : Int) - rs r j) * rv r y j), sumN_one (fun j => if 0 < k then rs r j * rv r y j else 0), if_pos hk, if_pos (show k - 1 < r.length by omega)]
theorem rv_nonneg {c : Nat} (h : RowC c r) : ∀ (y k : Nat), k < r.length → 0 ≤ rv r y k
  | 0, k, _ => by show 0 ≤ e0 k; unfold e0; split <;> omega
  | y + 1, k, hk => by
    rw [rv_succ hk]
    have h1 := rs_bound h hk
    have h2 := Int.mul_nonneg (show 0 ≤ (rB r : Int) - rs r k by omega) (rv_nonneg h y k hk)
    split
    · have h3 := rs_bound h (show k - 1 < r.length by omega)
      have := Int.mul_nonneg (show 0 ≤ rs r (k - 1) by omega) (rv_nonneg h y (k - 1) (by omega))
      omega
    · omega
theorem rN_part (y : Nat) : ∀ m, m < r.length → sumN (rv r (y + 1)) (m + 1) = (rB r : Int) * sumN (rv r y) (m + 1) - rs r m * rv r y m
  | 0, hm => by
    simp only [sumN]
    rw [rv_succ hm, if_neg (by omega)]
    grind
  | m + 1, hm => by
    rw [sumN, rN_part y m (by omega), rv_succ hm, if_pos (by omega), show m + 1 - 1 = m by omega]
    rw [show sumN (rv r y) (m + 1 + 1) = sumN (rv r y) (m + 1) + rv r y (m + 1) from rfl]
    grind
theorem rN_succ {c : Nat} (h : RowC c r) (y : Nat) : rN r (y + 1) = (rB r : Int) * rN r y - rs r (r.length - 1) * rv r y (r.length - 1) := by
  have := rN_part (r := r) y (r.length - 1) (by have := h.len.1; omega)
  rw [show r.length - 1 + 1 = r.length by have := h.len.1; omega] at this
  exact this
theorem rN_0 {c : Nat} (h : RowC c r) : rN r 0 = 1 := by
  have := sumN_one (fun _ => 1) 0 r.length
  rw [if_pos (by have := h.len.1; omega)] at this
  exact this
theorem rN_nonneg {c : Nat} (h : RowC c r) (y : Nat) : 0 ≤ rN r y := sumN_nonneg (rv_nonneg h y)
theorem rN_le {c : Nat} (h : RowC c r) : ∀ y, rN r y ≤ (rB r : Int) ^ y
  | 0 => by rw [rN_0 h]; simp
  | y + 1 => by
    rw [rN_succ h]
    have hm : r.length - 1 < r.length := by have := h.len.1; omega
    have h1 := rs_bound h hm
    have h2 := Int.mul_nonneg (show 0 ≤ rs r (r.length - 1) by omega) (rv_nonneg h y _ hm)
    have h3 := Int.mul_le_mul_of_nonneg_left (rN_le h y) (show 0 ≤ (rB r : Int) by omega)
    rw [Int.pow_succ, Int.mul_comm ((rB r : Int) ^ y)]
    omega
theorem rv_le {c : Nat} (h : RowC c r) (y k : Nat) (hk : k < r.length) : rv r y k ≤ (rB r : Int) ^ y := Int.le_trans (sumN_ge (rv_nonneg h y) k hk) (rN_le h y)
/-! as fractions -/
/-- what is in stage k at age y -/
def rX (r : List Rat) (y k : Nat) : Rat := Rat.divInt (rv r y k) ((rB r : Int) ^ y)
/-- what is still in the row at age y -/
def rS (r : List Rat) (y : Nat) : Rat := Rat.divInt (rN r y) ((rB r : Int) ^ y)
/-- what is tapped at age a -/
def rT (r : List Rat) : Nat → Rat
  | 0 => 0
  | a + 1 => rX r a (r.length - 1) * r.getD (r.length - 1) 0
theorem pow_q (b y : Nat) : (((b : Int) ^ y : Int) : Rat) = ((b ^ y : Nat) : Rat) := by
  have : ((b : Int) ^ y) = ((b ^ y : Nat) : Int) := by simp
  rw [this]; rfl
theorem powB_pos (y : Nat) : 0 < rB r ^ y := Nat.pow_pos rB_pos
theorem rX_q (y k : Nat) : rX r y k * ((rB r ^ y : Nat) : Rat) = (rv r y k : Rat) := by
  unfold rX
  rw [Rat.divInt_eq_div, pow_q]
  have := natQ_ne (powB_pos (r := r) y)
  grind
theorem rS_q (y : Nat) : rS r y * ((rB r ^ y : Nat) : Rat) = (rN r y : Rat) := by
  unfold rS
  rw [Rat.divInt_eq_div, pow_q]
  have := natQ_ne (powB_pos (r := r) y)
  grind
theorem q_cancel {D : Nat} {x y : Rat} (hD : 0 < D) (h : x * (D : Rat) = y * (D : Rat)) : x = y := by
  have := natQ_ne hD
  grind
theorem q_nn {D : Nat} {x : Rat} (hD : 0 < D) (h : 0 ≤ x * (D : Rat)) : 0 ≤ x := by
  refine Rat.not_lt.mp fun z => ?_
  have := Rat.mul_lt_mul_of_pos_right z (natQ_pos hD)
  grind
theorem rS_0 {c : Nat} (h : RowC c r) : rS r 0 = 1 := by
  have := rS_q (r := r) 0
  rw [rN_0 h] at this
  simpa using this
theorem rl_mem {c : Nat} (h : RowC c r) : r[r.length - 1]? = some (r.getD (r.length - 1) 0) := by
  have := h.len.1
  rw [List.getD_eq_getElem?_getD, List.getElem?_eq_getElem (by omega)]
  rfl
/-- what leaves in a year is tapped -/
theorem rT_rS {c : Nat} (h : RowC c r) (a : Nat) : rT r (a + 1) = rS r a - rS r (a + 1) := by
  refine q_cancel (powB_pos (r := r) (a + 1)) ?_
  have e1 := rS_q (r := r) (a + 1)
  have e2 := rS_q (r := r) a
  have e3 := rX_q (r := r) a (r.length - 1)
  have e4 := rs_q (rl_mem h)
  have e5 := congrArg (fun z : Int => (z : Rat)) (rN_succ h a)
  simp only [Rat.intCast_sub, Rat.intCast_mul] at e5
  have e6 : ((rB r ^ (a + 1) : Nat) : Rat) = ((rB r ^ a : Nat) : Rat) * (rB r : Rat) := by rw [Nat.pow_succ, Rat.natCast_mul]
  have e7 : (((rB r : Nat) : Int) : Rat) = (rB r : Rat) := rfl
  rw [e7] at e5
  rw [e6] at e1 ⊢
  show rX r a (r.length - 1) * r.getD (r.length - 1) 0 * _ = _
  grind
theorem rX_nonneg {c : Nat} (h : RowC c r) (y k : Nat) (hk : k < r.length) : 0 ≤ rX r y k := by
  have h1 : ((0 : Int) : Rat) ≤ ((rv r y k : Int) : Rat) := Rat.intCast_le_intCast.mpr (rv_nonneg h y k hk)
  exact q_nn (powB_pos (r := r) y) (by rw [rX_q]; exact h1)
theorem rT_nonneg {c : Nat} (h : RowC c r) : ∀ a, 0 ≤ rT r a
  | 0 => Rat.le_refl
  | a + 1 => Rat.mul_nonneg (rX_nonneg h a _ (by have := h.len.1; omega)) (Rat.le_of_lt (h.pos _ (List.mem_of_getElem? (rl_mem h))))
theorem rS_anti {c : Nat} (h : RowC c r) (a : Nat) : rS r (a + 1) ≤ rS r a := by
  have := rT_nonneg h (a + 1)
  rw [rT_rS h] at this
  grind
theorem rS_mono {c : Nat} (h : RowC c r) {a b : Nat} (hab : a ≤ b) : rS r b ≤ rS r a := by
  induction b with
  | zero => rw [show a = 0 by omega]; exact Rat.le_refl
  | succ b ih =>
    by_cases e : a = b + 1
    · rw [e]; exact Rat.le_refl
    · exact Rat.le_trans (rS_anti h b) (ih (by omega))
theorem rS_nonneg {c : Nat} (h : RowC c r) (y : Nat) : 0 ≤ rS r y := by
  have h1 : ((0 : Int) : Rat) ≤ ((rN r y : Int) : Rat) := Rat.intCast_le_intCast.mpr (rN_nonneg h y)
  exact q_nn (powB_pos (r := r) y) (by rw [rS_q]; exact h1)
theorem rS_le1 {c : Nat} (h : RowC c r) (y : Nat) : rS r y ≤ 1 := by
  rw [← rS_0 h]; exact rS_mono h (Nat.zero_le y)
/-- sums of fractions -/
def qsN (f : Nat → Rat) : Nat → Rat
  | 0 => 0
  | n + 1 => qsN f n + f n
theorem qsN_congr {f g : Nat → Rat} : ∀ {n : Nat}, (∀ i, i < n → f i = g i) → qsN f n = qsN g n
  | 0, _ => rfl
  | n + 1, h => by rw [qsN, qsN, qsN_congr fun i hi => h i (by omega), h n (by omega)]
theorem qsN_add (f g : Nat → Rat) : ∀ n, qsN (fun i => f i + g i) n = qsN f n + qsN g n
  | 0 => by show (0 : Rat) = 0 + 0; grind
  | n + 1 => by rw [qsN, qsN, qsN, qsN_add f g n]; grind
theorem qsN_int (f : Nat → Int) (g : Nat → Rat) (D : Rat) (m : Nat) (h : ∀ i, i < m → g i * D = (f i : Rat)) : qsN g m * D = (sumN f m : Rat) := by
  induction m with
  | zero => show (0 : Rat) * D = ((0 : Int) : Rat); rw [Rat.zero_mul]; rfl
  | succ m ih =>
    rw [qsN, sumN, Rat.intCast_add, ← ih fun i hi => h i (by omega), ← h m (by omega)]
    grind
theorem rX_sum (y : Nat) : qsN (rX r y) r.length = rS r y := by
  refine q_cancel (powB_pos (r := r) y) ?_
  rw [rS_q]
  exact qsN_int _ _ _ _ fun i _ => rX_q y i
theorem rT_sum {c : Nat} (h : RowC c r) : ∀ n, qsN (rT r) (n + 1) = 1 - rS r n
  | 0 => by
    show (0 : Rat) + 0 = 1 - rS r 0
    rw [rS_0 h]; grind
  | n + 1 => by
    rw [qsN, rT_sum h n, rT_rS h]; grind
/-! parts -/
theorem rX_pt (y k : Nat) : Pt (rB r ^ y) (rX r y k) := ⟨_, rX_q y k⟩
theorem rS_pt (y : Nat) : Pt (rB r ^ y) (rS r y) := ⟨_, rS_q y⟩
theorem rT_pt {c : Nat} (h : RowC c r) : ∀ a, Pt (rB r ^ a) (rT r a)
  | 0 => Pt.zero
  | a + 1 => by rw [rT_rS h]; exact ((rS_pt a).up ⟨rB r, Nat.pow_succ _ _⟩).sub (rS_pt (a + 1))
theorem rX_le {c : Nat} (h : RowC c r) (y k : Nat) (hk : k < r.length) : rX r y k ≤ 1 := by
  have p := natQ_pos (powB_pos (r := r) y)
  have h1 : ((rv r y k : Int) : Rat) ≤ (((rB r : Int) ^ y : Int) : Rat) := Rat.intCast_le_intCast.mpr (rv_le h y k hk)
  rw [pow_q, ← rX_q] at h1
  refine Rat.not_lt.mp fun z => ?_
  have := Rat.mul_lt_mul_of_pos_right z p
  grind
theorem rT_le {c : Nat} (h : RowC c r) : ∀ a, rT r a ≤ 1
  | 0 => by show (0 : Rat) ≤ 1; decide
  | a + 1 => by
    rw [rT_rS h]
    have := rS_le1 h a
    have := rS_nonneg h (a + 1)
    grind
end
def rowP (r : List Rat) : PyData := .tuple (r.map encQ)
theorem gLen_row {r : List Rat} : gLen [rowP r] = some (.int (r.length : Int)) := by simp [rowP]
theorem items_row {r : List Rat} : items (rowP r) = some (r.map encQ) := rfl
theorem isT_row {r : List Rat} : isT "tuple" (rowP r) = true := by simp [rowP]
theorem all_true {α : Type} (xs : List α) : gAll [.list ((xs.map fun _ => true).map .bool)] = some (.bool true) := by
  have : boolsOf ((xs.map fun _ => true).map .bool) = some (xs.map fun _ => true) := by
    induction xs with
    | nil => rfl
    | cons x xs ih => simp only [List.map_cons, boolsOf, ih]; rfl
  simp [-List.map_map, this]
theorem rep_one' (n : Nat) (v : PyData) : (List.replicate n [v]).flatten = List.replicate n v := by
  induction n with
  | zero => rfl
  | succ n ih => rw [List.replicate_succ, List.flatten_cons, ih, List.replicate_succ]; rfl
theorem rows_mat (r : List Rat) : encRows (rowsOf (rB r : Int) (r.map (sh (rB r)))) = matP r.length r.length (rM r) := by
  unfold encRows rowsOf matP rowOf vecP rM
  rw [List.length_map, List.map_map]
  congr 1
  refine List.map_congr_left fun k _ => ?_
  show PyData.list _ = _
  rw [List.map_map]
  rfl
theorem start_vec (m : Nat) (h : 1 ≤ m) : PyData.list ([.int 1] ++ reps ((m : Int) - 1) [.int 0]) = vecP m e0 := by
  unfold vecP reps
  congr 1
  rw [rep_one', show ((m : Int) - 1).toNat = m - 1 by omega]
  apply List.ext_getElem?
  intro i
  rw [List.getElem?_map]
  cases i with
  | zero => rw [List.getElem?_range (by omega)]; rfl
  | succ i =>
    show (List.replicate (m - 1) (PyData.int 0))[i]? = _
    rw [List.getElem?_replicate]
    by_cases h2 : i + 1 < m
    · rw [if_pos (by omega), List.getElem?_range h2]; rfl
    · rw [if_neg (by omega), List.getElem?_eq_none (by simpa using h2)]; rfl
theorem powB_lt {r : List Rat} (h : RowOk r) {y : Nat} (hy : y ≤ 60) : rB r ^ y < 2 ^ 4000 := by
  have h1 : rB r ≤ 2 ^ 60 := Nat.le_trans (rB_lt h) (by decide)
  have h2 : rB r ^ y ≤ (2 ^ 60) ^ y := Nat.pow_le_pow_left h1 y
  rw [← Nat.pow_mul] at h2
  exact Nat.lt_of_le_of_lt h2 (Nat.pow_lt_pow_right (by decide) (by omega))
theorem rB_lt4 {r : List Rat} (h : RowOk r) : rB r < 2 ^ 4000 := by
  have := powB_lt h (y := 1) (by decide)
  rwa [Nat.pow_one] at this
theorem rM_abs {r : List Rat} {c : Nat} (h : RowC c r) {k j : Nat} (hk : k < r.length) (hj : j < r.length) : (rM r k j).natAbs ≤ rB r := by
  rw [rM_eq]
  have h1 := rs_bound h hk
  have h2 := rs_bound h hj
  split
  · omega
  · split <;> omega
theorem rv_abs {r : List Rat} {c : Nat} (h : RowC c r) {y k : Nat} (hk : k < r.length) : (rv r y k).natAbs ≤ rB r ^ y := by
  have h1 := rv_nonneg h y k hk
  have h2 := rv_le h y k hk
  have : ((rB r : Int) ^ y) = ((rB r ^ y : Nat) : Int) := by simp
  omega
theorem rM_mul {r : List Rat} (h : RowOk r) {y : Nat} (hy : y ≤ 60) {k j : Nat} (hk : k < r.length) (hj : j < r.length) : mulOk (rM r k j) (ser (rM r) r.length e0 y j) = true :=
  mulOk_lt (lt_pow (Nat.lt_of_le_of_lt (rM_abs h hk hj) (rB_lt4 h)) (by decide)) (lt_pow (Nat.lt_of_le_of_lt (rv_abs h hj) (powB_lt h hy)) (by decide))
theorem rB_mul {r : List Rat} (h : RowOk r) {y : Nat} (hy : y ≤ 60) : mulOk (1 * (rB r : Int) ^ y) (rB r : Int) = true := by
  refine mulOk_lt (lt_pow (a := 4000) ?_ (by decide)) (lt_pow (a := 4000) (by exact rB_lt4 h) (by decide))
  have : ((rB r : Int) ^ y) = ((rB r ^ y : Nat) : Int) := by simp
  rw [Int.one_mul, this]
  exact powB_lt h hy
theorem Sz.of01 {D : Nat} {q : Rat} (h : Pt D q) (hD : 0 < D) (hD2 : D < 2 ^ 4000) (h0 : 0 ≤ q) (h1 : q ≤ 1) : Sz q :=
  h.sz (N := 1) hD hD2 (Nat.one_lt_two_pow (by decide)) h1 (by have : ((1 : Nat) : Rat) = 1 := rfl; rw [this]; grind)
theorem rX_sz {r : List Rat} (h : RowOk r) {y k : Nat} (hy : y ≤ 60) (hk : k < r.length) : Sz (rX r y k) := Sz.of01 (rX_pt y k) (powB_pos y) (powB_lt h hy) (rX_nonneg h y k hk) (rX_le h y k hk)
theorem rS_sz {r : List Rat} (h : RowOk r) {y : Nat} (hy : y ≤ 60) : Sz (rS r y) := Sz.of01 (rS_pt y) (powB_pos y) (powB_lt h hy) (rS_nonneg h y) (rS_le1 h y)
theorem rT_sz {r : List Rat} (h : RowOk r) {y : Nat} (hy : y ≤ 60) : Sz (rT r y) := Sz.of01 (rT_pt h y) (powB_pos y) (powB_lt h hy) (rT_nonneg h y) (rT_le h y)
def rowS (r : List Rat) (n : Nat) : List PyData := oyP (rM r) r.length e0 (rB r : Int) 1 n
theorem RowC.num {r : List Rat} (h : RowC 1000 r) : ∀ q ∈ r, q.num.natAbs < 2 ^ 60000 := fun q hq => by
  have h0 := numQ_pos.mpr (h.pos q hq)
  have h1 := num_le_den.mpr (h.le1 q hq)
  have h2 := h.den q hq
  have : (1001 : Nat) ≤ 2 ^ 60000 := Nat.le_trans (by decide : 1001 ≤ 2 ^ 10) (Nat.pow_le_pow_right (by decide) (by decide))
  omega
theorem RowC.len6 {r : List Rat} {c : Nat} (h : RowC c r) : r.length ≤ 1000000 := by have := h.len.2; omega
end Dn

set_option Elab.async false
set_option linter.all false
set_option maxRecDepth 100000
/-! told lists: years of birth and amounts -/
namespace Dn
open PySem PySem.Spec PyProof.Rows L2
def tlE (F : Nat → Rat) (b : Nat) : PyData := .tuple [.int (b : Int), encQ (F b)]
def tlI (F : Nat → Rat) (n : Nat) : List Nat := (List.range n).filter fun b => decide (0 < F b)
def tl (F : Nat → Rat) (n : Nat) : PyData := .list ((tlI F n).map (tlE F))
theorem tlI_succ (F : Nat → Rat) (n : Nat) : tlI F (n + 1) = tlI F n ++ if 0 < F n then [n] else [] := by
  unfold tlI
  rw [List.range_succ, List.filter_append]
  by_cases h : 0 < F n
  · simp [h]
  · simp [h]
theorem tlI_len (F : Nat → Rat) (n : Nat) : (tlI F n).length ≤ n := by
  unfold tlI
  have := List.length_filter_le (fun b => decide (0 < F b)) (List.range n)
  simpa using this
theorem tlI_congr {F G : Nat → Rat} {n : Nat} (h : ∀ b, b < n → F b = G b) : tlI F n = tlI G n := by
  unfold tlI
  apply List.filter_congr
  intro b hb
  rw [h b (List.mem_range.mp hb)]
theorem tl_congr {F G : Nat → Rat} {n : Nat} (h : ∀ b, b < n → F b = G b) : tl F n = tl G n := by
  unfold tl
  rw [tlI_congr h]
  congr 1
  refine List.map_congr_left fun b hb => ?_
  unfold tlE
  rw [h b (by have := (List.mem_filter.mp hb).1; simpa using this)]
theorem items_tl {F : Nat → Rat} {n : Nat} : items (tl F n) = some ((tlI F n).map (tlE F)) := rfl
/-- the year's own entry -/
theorem tl_year {F : Nat → Rat} (h0 : ∀ b, 0 ≤ F b) (n b : Nat) : ((tlI F n).filter fun i => decide (i = b)) = if b < n ∧ 0 < F b then [b] else [] := by
  induction n with
  | zero => rfl
  | succ n ih =>
    rw [tlI_succ, List.filter_append, ih]
    by_cases h1 : 0 < F n
    · rw [if_pos h1]
      by_cases h2 : n = b
      · subst h2
        rw [if_neg (by omega), if_pos ⟨by omega, h1⟩]
        simp
      · rw [show (List.filter (fun i => decide (i = b)) [n]) = [] by simp [h2], List.append_nil]
        by_cases h3 : b < n ∧ 0 < F b
        · rw [if_pos h3, if_pos ⟨by omega, h3.2⟩]
        · rw [if_neg h3, if_neg fun z => h3 ⟨by omega, z.2⟩]
    · rw [if_neg h1, List.filter_nil, List.append_nil]
      by_cases h3 : b < n ∧ 0 < F b
      · rw [if_pos h3, if_pos ⟨by omega, h3.2⟩]
      · rw [if_neg h3, if_neg fun z => h3 ⟨by
          by_cases e : b = n
          · subst e; exact absurd z.2 h1
          · omega, z.2⟩]
theorem cut_to {l : List PyData} {n : Nat} : cutD l none (some (n : Int)) = l.take n := by
  unfold cutD
  rw [HT.sIx_nat, HT.sIx_none, Nat.sub_zero, List.drop_zero]
  by_cases h : n ≤ l.length
  · rw [Nat.min_eq_left h]
  · rw [Nat.min_eq_right (by omega), List.take_length, List.take_of_length_le (by omega)]
theorem cut_from {l : List PyData} {n : Nat} : cutD l (some (n : Int)) none = l.drop n := by
  unfold cutD
  rw [HT.sIx_nat, HT.sIx_none]
  by_cases h : n ≤ l.length
  · rw [Nat.min_eq_left h, List.take_of_length_le (by simp)]
  · rw [Nat.min_eq_right (by omega), Nat.sub_self, List.take_zero, List.drop_eq_nil_of_le (by omega)]
theorem cut_1 {l : List PyData} : cutD l (some 1) none = l.drop 1 := cut_from (n := 1)
theorem oy_take {M : Nat → Nat → Int} {m : Nat} {f0 : Nat → Int} {B sb : Int} {n : Nat} : (oyP M m f0 B sb n).take n = (List.range n).map (oyD M m f0 B sb) := by
  unfold oyP
  rw [List.range_succ, List.map_append, List.take_left' (by simp)]
theorem oy_drop1 {M : Nat → Nat → Int} {m : Nat} {f0 : Nat → Int} {B sb : Int} {n : Nat} : (oyP M m f0 B sb n).drop 1 = (List.range n).map fun i => oyD M m f0 B sb (i + 1) := by
  unfold oyP
  rw [List.range_succ_eq_map, List.map_cons, List.drop_succ_cons, List.drop_zero, List.map_map]
  rfl
/-- older -/
def rO (r : List Rat) : Nat → Rat
  | 0 => 1
  | a + 1 => rS r a
theorem divInt_rest {a b : Int} (hb : 0 < b) : Rat.divInt (b - a) b = 1 - Rat.divInt a b := by
  rw [Rat.divInt_eq_div, Rat.divInt_eq_div, Rat.intCast_sub]
  have : (b : Rat) ≠ 0 := fun h => by
    have : b = 0 := Rat.intCast_inj.mp (by rw [h]; rfl)
    omega
  grind
theorem rX_last {r : List Rat} {c : Nat} (h : RowC c r) (a : Nat) : Rat.divInt (rv r a (r.length - 1) * (r.getD (r.length - 1) 0).num) ((rB r : Int) ^ a * (r.getD (r.length - 1) 0).den) = rT r (a + 1) := by
  show _ = Rat.divInt _ _ * _
  conv => rhs; rw [← Rat.num_divInt_den (r.getD (r.length - 1) 0)]
  rw [Rat.divInt_mul_divInt]
theorem divInt_pos {a b : Int} (hb : 0 < b) : 0 < Rat.divInt a b ↔ 0 < a := by
  have hb' : (0 : Rat) < (b : Rat) := Rat.intCast_lt_intCast.mpr hb
  have e : Rat.divInt a b * (b : Rat) = (a : Rat) := by
    rw [Rat.divInt_eq_div]
    grind
  constructor
  · intro h
    have := Rat.mul_pos h hb'
    rw [e] at this
    exact Rat.intCast_lt_intCast.mp this
  · intro h
    have h2 : (0 : Rat) < (a : Rat) := Rat.intCast_lt_intCast.mpr h
    refine Rat.not_le.mp fun z => ?_
    have := Rat.mul_le_mul_of_nonneg_right z (Rat.le_of_lt hb')
    grind
end Dn

set_option Elab.async false
set_option linter.all false
set_option maxRecDepth 100000
/-! sums of lists of fractions -/
namespace Dn
open PySem PySem.Spec PyProof.Rows L2
theorem items_l {ds : List PyData} : items (.list ds) = some ds := rfl
theorem items_t {ds : List PyData} : items (.tuple ds) = some ds := rfl
def qs (l : List Rat) : Rat := l.foldl (· + ·) 0
theorem qs_snoc (l : List Rat) (q : Rat) : qs (l ++ [q]) = qs l + q := by simp [qs]
theorem qs_nil : qs [] = 0 := rfl
theorem qs_from (l : List Rat) : ∀ z : Rat, l.foldl (· + ·) z = z + qs l := by
  induction l with
  | nil => intro z; show z = z + 0; grind
  | cons q l ih =>
    intro z
    show l.foldl (· + ·) (z + q) = z + l.foldl (· + ·) (0 + q)
    rw [ih (z + q), ih (0 + q)]
    grind
theorem qs_append (a b : List Rat) : qs (a ++ b) = qs a + qs b := by
  unfold qs
  rw [List.foldl_append, qs_from b]
  rfl
theorem qs_cons (q : Rat) (l : List Rat) : qs (q :: l) = q + qs l := by
  have := qs_append [q] l
  rw [show qs [q] = q by show (0 : Rat) + q = q; grind] at this
  exact this
theorem qs_range (f : Nat → Rat) : ∀ n, qs ((List.range n).map f) = qsN f n
  | 0 => rfl
  | n + 1 => by rw [List.range_succ, List.map_append, List.map_singleton, qs_snoc, qs_range f n]; rfl
theorem qs_tl {F : Nat → Rat} (h : ∀ b, 0 ≤ F b) : ∀ n, qs ((tlI F n).map F) = qsN F n
  | 0 => rfl
  | n + 1 => by
    rw [tlI_succ, List.map_append, qs_append, qs_tl h n, qsN]
    by_cases h1 : 0 < F n
    · rw [if_pos h1]
      show _ + (0 + F n) = _
      grind
    · rw [if_neg h1, show F n = 0 from Rat.le_antisymm (Rat.not_lt.mp h1) (h n)]
      rfl
theorem qsN_first (f : Nat → Rat) : ∀ n, qsN f (n + 1) = f 0 + qsN (fun i => f (i + 1)) n
  | 0 => by show (0 : Rat) + f 0 = f 0 + 0; grind
  | n + 1 => by rw [qsN, qsN_first f n, qsN]; grind
theorem qsN_rev (f : Nat → Rat) : ∀ y, qsN (fun b => f (y - b)) (y + 1) = qsN f (y + 1)
  | 0 => rfl
  | y + 1 => by
    rw [qsN_first, show (fun i => f (y + 1 - (i + 1))) = fun i => f (y - i) by funext i; rw [Nat.add_sub_add_right], qsN_rev f y, Nat.sub_zero]
    show _ = qsN f (y + 1) + f (y + 1)
    grind
theorem qsN_shift (f : Nat → Rat) (a : Nat) : ∀ n, qsN (fun i => f (a + i)) n = qsN f (a + n) - qsN f a
  | 0 => by show (0 : Rat) = _; rw [Nat.add_zero]; grind
  | n + 1 => by rw [qsN, qsN_shift f a n, show a + (n + 1) = (a + n) + 1 by omega, qsN]; grind
theorem qsN_swap (f : Nat → Nat → Rat) (m : Nat) : ∀ n, qsN (fun i => qsN (f i) m) n = qsN (fun j => qsN (fun i => f i j) n) m
  | 0 => by
    show (0 : Rat) = qsN (fun _ => 0) m
    have : ∀ m, qsN (fun _ => (0 : Rat)) m = 0 := by
      intro m
      induction m with
      | zero => rfl
      | succ m ih => rw [qsN, ih]; grind
    rw [this]
  | n + 1 => by
    rw [qsN, qsN_swap f m n]
    show _ = qsN (fun j => qsN (fun i => f i j) n + f n j) m
    rw [qsN_add]
theorem qsN_const (c : Rat) : ∀ n : Nat, qsN (fun _ => c) n = (n : Rat) * c
  | 0 => by show (0 : Rat) = ((0 : Nat) : Rat) * c; rw [show ((0 : Nat) : Rat) = 0 from rfl]; grind
  | n + 1 => by
    rw [qsN, qsN_const c n]
    have : (((n + 1 : Nat)) : Rat) = (n : Rat) + 1 := by rw [Rat.natCast_add]; rfl
    rw [this]; grind
theorem qsN_neg (f : Nat → Rat) : ∀ n, qsN (fun i => - f i) n = - qsN f n
  | 0 => by show (0 : Rat) = -0; grind
  | n + 1 => by rw [qsN, qsN_neg f n, qsN]; grind
theorem qsN_sub (f g : Nat → Rat) (n : Nat) : qsN (fun i => f i - g i) n = qsN f n - qsN g n := by
  rw [show (fun i => f i - g i) = fun i => f i + - g i by funext i; grind, qsN_add, qsN_neg]; grind
theorem qsN_nonneg {f : Nat → Rat} : ∀ {n : Nat}, (∀ i, i < n → 0 ≤ f i) → 0 ≤ qsN f n
  | 0, _ => Rat.le_refl
  | n + 1, h => by
    have h1 := qsN_nonneg (f := f) (n := n) fun i hi => h i (by omega)
    have h2 := h n (by omega)
    rw [qsN]; grind
/-- a bundle of bounds for sums -/
structure Bd (D N : Nat) (l : List Rat) : Prop where
  pt : ∀ q ∈ l, Pt D q
  lo : ∀ q ∈ l, 0 ≤ q
  hi : ∀ q ∈ l, q ≤ (N : Rat)
theorem Bd.take {D N : Nat} {l : List Rat} (h : Bd D N l) (i : Nat) : Bd D N (l.take i) :=
  ⟨fun q hq => h.pt q (List.mem_of_mem_take hq), fun q hq => h.lo q (List.mem_of_mem_take hq), fun q hq => h.hi q (List.mem_of_mem_take hq)⟩
theorem Bd.append {D N : Nat} {l k : List Rat} (h : Bd D N l) (h2 : Bd D N k) : Bd D N (l ++ k) :=
  ⟨fun q hq => (List.mem_append.mp hq).elim (h.pt q) (h2.pt q), fun q hq => (List.mem_append.mp hq).elim (h.lo q) (h2.lo q), fun q hq => (List.mem_append.mp hq).elim (h.hi q) (h2.hi q)⟩
theorem Bd.sum {D N : Nat} : ∀ {l : List Rat}, Bd D N l → Pt D (qs l) ∧ 0 ≤ qs l ∧ qs l ≤ ((l.length * N : Nat) : Rat)
  | [], _ => ⟨Pt.zero, Rat.le_refl, by rw [List.length_nil, Nat.zero_mul]; exact Rat.le_refl⟩
  | q :: l, h => by
    obtain ⟨h1, h2, h3⟩ := Bd.sum (l := l) ⟨fun q hq => h.pt q (List.mem_cons_of_mem _ hq), fun q hq => h.lo q (List.mem_cons_of_mem _ hq), fun q hq => h.hi q (List.mem_cons_of_mem _ hq)⟩
    have a1 := h.pt q List.mem_cons_self
    have a2 := h.lo q List.mem_cons_self
    have a3 := h.hi q List.mem_cons_self
    rw [qs_cons]
    refine ⟨a1.add h1, by grind, ?_⟩
    rw [List.length_cons, Nat.succ_mul, Rat.natCast_add]
    grind
theorem Bd.sz {D N : Nat} {l : List Rat} (h : Bd D N l) (hD : 0 < D) (hD2 : D < 2 ^ 4000) (hN : l.length * N < 2 ^ 1000) : Sz (qs l) := by
  obtain ⟨h1, h2, h3⟩ := h.sum
  exact h1.sz hD hD2 hN h3 (by
    have : (0 : Rat) ≤ ((l.length * N : Nat) : Rat) := by
      have : ((0 : Nat) : Rat) ≤ ((l.length * N : Nat) : Rat) := Rat.natCast_le_natCast.mpr (Nat.zero_le _)
      exact this
    grind)
theorem Bd.each {D N : Nat} {l : List Rat} (h : Bd D N l) (hD : 0 < D) (hD2 : D < 2 ^ 4000) (hN : N < 2 ^ 1000) {q : Rat} (hq : q ∈ l) : Sz q :=
  (h.pt q hq).sz hD hD2 hN (h.hi q hq) (by
    have : (0 : Rat) ≤ (N : Rat) := by
      have : ((0 : Nat) : Rat) ≤ (N : Rat) := Rat.natCast_le_natCast.mpr (Nat.zero_le _)
      exact this
    have := h.lo q hq
    grind)
end Dn

set_option Elab.async false
set_option linter.all false
set_option maxRecDepth 100000
/-! more of rows -/
namespace Dn
open PySem PySem.Spec PyProof.Rows L2
/-- == of fractions' pairs -/
theorem shaped_q (q : Rat) : SeqAt.shaped (encQ q) = true := by
  simp [encQ, SeqAt.shaped, PyData.canLay0, PyData.canLayAll0, PyData.depth, PyData.depthAll]
theorem eqv_q (a b : Rat) : PyData.eqv (encQ a) (encQ b) = decide (a = b) := by
  simp only [encQ, PyData.eqv, PyData.eqvAll]
  rw [Bool.eq_iff_iff]
  simp only [Bool.and_eq_true, beq_iff_eq, decide_eq_true_eq, Bool.and_true]
  constructor
  · intro h
    exact Rat.ext h.1 (by have := h.2; omega)
  · rintro rfl
    exact ⟨rfl, rfl⟩
theorem gEq_q (a b : Rat) : gEq (encQ a) (encQ b) = some (.bool (decide (a = b))) := by
  have : gEq (encQ a) (encQ b) = if SeqAt.shaped (encQ a) && SeqAt.shaped (encQ b) then some (.bool (PyData.eqv (encQ a) (encQ b))) else none := rfl
  rw [this, shaped_q, shaped_q, eqv_q]
  rfl
theorem gNe_q (a b : Rat) : gNe (encQ a) (encQ b) = some (.bool (!decide (a = b))) := by
  have : gNe (encQ a) (encQ b) = if SeqAt.shaped (encQ a) && SeqAt.shaped (encQ b) then some (.bool (!PyData.eqv (encQ a) (encQ b))) else none := rfl
  rw [this, shaped_q, shaped_q, eqv_q]
  rfl
/-- wine that has left by an age and what is held -/
theorem wine_all {r : List Rat} (h : RowOk r) (a : Nat) : qs ((List.range (a + 1)).map (rT r) ++ (List.range r.length).map (rX r a)) = 1 := by
  rw [qs_append, qs_range, qs_range, rT_sum h, rX_sum]
  grind
theorem bdT {r : List Rat} (h : RowOk r) {a n : Nat} (f : Nat → Nat) (hf : ∀ i, i < n → f i ≤ a) : Bd (rB r ^ a) 1 ((List.range n).map fun i => rT r (f i)) := by
  refine ⟨fun q hq => ?_, fun q hq => ?_, fun q hq => ?_⟩ <;> obtain ⟨i, hi, rfl⟩ := List.mem_map.mp hq
  · exact (rT_pt h _).up (Nat.pow_dvd_pow _ (hf i (List.mem_range.mp hi)))
  · exact rT_nonneg h _
  · exact rT_le h _
theorem bdX {r : List Rat} (h : RowOk r) {a y : Nat} (hy : y ≤ a) : Bd (rB r ^ a) 1 ((List.range r.length).map (rX r y)) := by
  refine ⟨fun q hq => ?_, fun q hq => ?_, fun q hq => ?_⟩ <;> obtain ⟨i, hi, rfl⟩ := List.mem_map.mp hq
  · exact (rX_pt _ _).up (Nat.pow_dvd_pow _ hy)
  · exact rX_nonneg h _ _ (List.mem_range.mp hi)
  · exact rX_le h _ _ (List.mem_range.mp hi)
theorem small_1000 {n : Nat} (h : n ≤ 1000000) : n < 2 ^ 1000 := Nat.lt_of_le_of_lt h (Nat.lt_of_lt_of_le (by decide : 1000000 < 2 ^ 20) (Nat.pow_le_pow_right (by decide) (by decide)))
/-- stages' totals -/
def tot (r : List Rat) : Nat → Nat → Int
  | 0 => rv r 0
  | i + 1 => fun k => tot r i k * (rB r : Int) + rv r (i + 1) k
def rA (r : List Rat) (y k : Nat) : Rat := qsN (fun a => rX r a k) (y + 1)
theorem tot_q {r : List Rat} : ∀ (y k : Nat), rA r y k * ((rB r ^ y : Nat) : Rat) = (tot r y k : Rat)
  | 0, k => by
    have := rX_q (r := r) 0 k
    show (0 + rX r 0 k) * _ = _
    rw [show (tot r 0 k) = rv r 0 k from rfl, ← this]
    grind
  | y + 1, k => by
    have h1 := tot_q (r := r) y k
    have h2 := rX_q (r := r) (y + 1) k
    have e6 : ((rB r ^ (y + 1) : Nat) : Rat) = ((rB r ^ y : Nat) : Rat) * (rB r : Rat) := by rw [Nat.pow_succ, Rat.natCast_mul]
    have e7 : (((rB r : Nat) : Int) : Rat) = (rB r : Rat) := rfl
    show (rA r y k + rX r (y + 1) k) * _ = ((tot r y k * (rB r : Int) + rv r (y + 1) k : Int) : Rat)
    rw [Rat.intCast_add, Rat.intCast_mul, ← h1, ← h2, e7, e6]
    grind
theorem tot_div {r : List Rat} (y k : Nat) : Rat.divInt (tot r y k) ((rB r : Int) ^ y) = rA r y k := by
  refine q_cancel (powB_pos (r := r) y) ?_
  rw [tot_q, Rat.divInt_eq_div, pow_q]
  have := natQ_ne (powB_pos (r := r) y)
  grind
theorem tot_bound {r : List Rat} (h : RowOk r) {k : Nat} (hk : k < r.length) : ∀ y, 0 ≤ tot r y k ∧ tot r y k ≤ ((y + 1 : Nat) : Int) * (rB r : Int) ^ y
  | 0 => ⟨rv_nonneg h 0 k hk, by have := rv_le h 0 k hk; show rv r 0 k ≤ _; omega⟩
  | y + 1 => by
    obtain ⟨h1, h2⟩ := tot_bound h hk y
    have h3 := rv_nonneg h (y + 1) k hk
    have h4 := rv_le h (y + 1) k hk
    have h5 : (0 : Int) ≤ (rB r : Int) := by omega
    refine ⟨?_, ?_⟩
    · have := Int.mul_nonneg h1 h5
      show 0 ≤ tot r y k * (rB r : Int) + rv r (y + 1) k
      omega
    · have h6 := Int.mul_le_mul_of_nonneg_right h2 h5
      show tot r y k * (rB r : Int) + rv r (y + 1) k ≤ _
      rw [Int.mul_assoc, show (rB r : Int) ^ y * (rB r : Int) = (rB r : Int) ^ (y + 1) from (Int.pow_succ _ _).symm] at h6
      have e : ((y + 1 + 1 : Nat) : Int) * (rB r : Int) ^ (y + 1) = ((y + 1 : Nat) : Int) * (rB r : Int) ^ (y + 1) + (rB r : Int) ^ (y + 1) := by
        have : ((y + 1 + 1 : Nat) : Int) = ((y + 1 : Nat) : Int) + 1 := by omega
        rw [this, Int.add_mul, Int.one_mul]
      omega
theorem tot_mul {r : List Rat} (h : RowOk r) {y k : Nat} (hy : y ≤ 59) (hk : k < r.length) : mulOk (tot r y k) (rB r : Int) = true := by
  obtain ⟨h1, h2⟩ := tot_bound h hk y
  refine mulOk_lt (lt_pow (a := 10 + 4000) ?_ (by decide)) (lt_pow (a := 4000) (by exact rB_lt4 h) (by decide))
  have h3 := mul_pow (show y + 1 < 2 ^ 10 by omega) (powB_lt h (show y ≤ 60 by omega))
  have : ((y + 1 : Nat) : Int) * (rB r : Int) ^ y = (((y + 1) * rB r ^ y : Nat) : Int) := by simp
  omega
theorem rA_sum {r : List Rat} (y : Nat) : qsN (rA r y) r.length = qsN (rS r) (y + 1) := by
  show qsN (fun k => qsN (fun a => rX r a k) (y + 1)) r.length = _
  rw [qsN_swap (fun k a => rX r a k)]
  exact qsN_congr fun a _ => rX_sum a
theorem rA_pt {r : List Rat} (y k : Nat) : Pt (rB r ^ y) (rA r y k) := ⟨_, tot_q y k⟩
theorem rA_nonneg {r : List Rat} (h : RowOk r) (y : Nat) {k : Nat} (hk : k < r.length) : 0 ≤ rA r y k := qsN_nonneg fun a _ => rX_nonneg h a k hk
theorem qsN_le {f : Nat → Rat} {c : Rat} : ∀ {n : Nat}, (∀ i, i < n → f i ≤ c) → qsN f n ≤ (n : Rat) * c
  | 0, _ => by show (0 : Rat) ≤ ((0 : Nat) : Rat) * c; rw [show ((0 : Nat) : Rat) = 0 from rfl]; grind
  | n + 1, h => by
    have h1 := qsN_le (f := f) (c := c) (n := n) fun i hi => h i (by omega)
    have h2 := h n (by omega)
    have : (((n + 1 : Nat)) : Rat) = (n : Rat) + 1 := by rw [Rat.natCast_add]; rfl
    rw [qsN, this]; grind
theorem rA_le {r : List Rat} (h : RowOk r) (y : Nat) {k : Nat} (hk : k < r.length) : rA r y k ≤ ((y + 1 : Nat) : Rat) := by
  have := qsN_le (f := fun a => rX r a k) (c := 1) (n := y + 1) fun a _ => rX_le h a k hk
  rw [Rat.mul_one] at this
  exact this
theorem years_all {r : List Rat} (y : Nat) : qs ((List.range (y + 1)).map (fun i => 1 - rS r i) ++ (List.range r.length).map (rA r y)) = ((y + 1 : Nat) : Rat) := by
  rw [qs_append, qs_range, qs_range, rA_sum, qsN_sub, qsN_const]
  grind
/-- a quotient's parts -/
theorem Pt.div {D : Nat} {x y : Rat} (hD : 0 < D) (hx : Pt D x) (hy : Pt D y) (h0 : 0 < y) (h1 : y ≤ 1) : ∃ E, 0 < E ∧ E ≤ D ∧ Pt E (x / y) := by
  obtain ⟨a, ha⟩ := hx
  obtain ⟨b, hb⟩ := hy
  have p := natQ_pos hD
  have hb0 : 0 < b := by
    have : (0 : Rat) < (b : Rat) := by rw [← hb]; exact Rat.mul_pos h0 p
    exact Rat.intCast_lt_intCast.mp this
  have hb1 : b ≤ D := by
    have : (b : Rat) ≤ (((D : Nat) : Int) : Rat) := by
      rw [← hb]
      have e3 : (((D : Nat) : Int) : Rat) = (D : Rat) := rfl
      rw [e3]
      have := Rat.mul_le_mul_of_nonneg_right h1 (Rat.le_of_lt p)
      grind
    exact Rat.intCast_le_intCast.mp this
  refine ⟨b.toNat, by omega, by omega, a, ?_⟩
  have e : ((b.toNat : Nat) : Rat) = (b : Rat) := by
    have : ((b.toNat : Nat) : Int) = b := by omega
    have e2 : ((b.toNat : Nat) : Rat) = (((b.toNat : Nat) : Int) : Rat) := rfl
    rw [e2, this]
  rw [e, ← ha, ← hb]
  have : y ≠ 0 := fun z => by rw [z] at h0; exact absurd h0 (by decide)
  grind
theorem qs_filter {F : Nat → Rat} (h : ∀ b, 0 ≤ F b) (p : Nat → Bool) : ∀ n, qs (((tlI F n).filter p).map F) = qsN (fun b => if p b = true then F b else 0) n
  | 0 => rfl
  | n + 1 => by
    rw [tlI_succ, List.filter_append, List.map_append, qs_append, qs_filter h p n, qsN]
    congr 1
    by_cases h1 : 0 < F n
    · rw [if_pos h1]
      by_cases h2 : p n = true
      · rw [if_pos h2, List.filter_cons_of_pos h2]
        show (0 : Rat) + F n = F n
        grind
      · rw [if_neg h2, List.filter_cons_of_neg h2]
        rfl
    · rw [if_neg h1, show F n = 0 from Rat.le_antisymm (Rat.not_lt.mp h1) (h n)]
      simp [qs]
theorem qsN_tail (f : Nat → Rat) (a : Nat) : ∀ n, qsN (fun c => if a ≤ c then f c else 0) n = qsN f n - qsN f (min a n)
  | 0 => by rw [Nat.min_zero]; show (0 : Rat) = 0 - 0; grind
  | n + 1 => by
    rw [qsN, qsN_tail f a n]
    by_cases h : a ≤ n
    · rw [if_pos h, Nat.min_eq_left h, Nat.min_eq_left (by omega), qsN]; grind
    · rw [if_neg h, Nat.min_eq_right (by omega), Nat.min_eq_right (by omega)]; grind
theorem part_sum {r : List Rat} (h : RowOk r) (a y : Nat) : qsN (fun b => if a ≤ y - b then rT r (y - b) else 0) (y + 1) = rS r (min (a - 1) y) - rS r y := by
  rw [qsN_rev (fun c => if a ≤ c then rT r c else 0) y, qsN_tail, rT_sum h]
  by_cases ha : a = 0
  · subst ha
    rw [Nat.zero_min, Nat.zero_sub, Nat.zero_min, rS_0 h]
    show 1 - rS r y - 0 = _
    grind
  · by_cases h1 : a ≤ y
    · rw [Nat.min_eq_left (show a ≤ y + 1 by omega), Nat.min_eq_left (show a - 1 ≤ y by omega)]
      have := rT_sum h (a - 1)
      rw [show a - 1 + 1 = a by omega] at this
      rw [this]; grind
    · rw [Nat.min_eq_right (show y + 1 ≤ a by omega), Nat.min_eq_right (show y ≤ a - 1 by omega), rT_sum h]
      grind
theorem rT_zero {r : List Rat} (h : RowOk r) {y : Nat} (h0 : 1 - rS r y = 0) {a : Nat} (ha : a ≤ y) : rT r a = 0 := by
  have h1 := rT_sum h a
  rw [qsN] at h1
  have h2 : 0 ≤ qsN (rT r) a := qsN_nonneg fun i _ => rT_nonneg h i
  have h3 := rS_mono h ha
  have h4 := rT_nonneg h a
  grind
end Dn

set_option Elab.async false
set_option linter.all false
set_option maxRecDepth 100000
/-! what a script's cell is drawn from: a list of three ints -/
namespace Dn
open PySem PySem.Spec PyProof.Rows L2
/-- n more pulls are within bounds -/
def KegOk (n : Nat) (ks : List PyData) : Prop := ∃ a b c : Int, ks = [.int a, .int b, .int c] ∧ 0 ≤ a ∧ 0 ≤ b ∧ b ≤ 2 ^ 100 ∧ 0 ≤ c ∧ c + n ≤ 1000000
theorem KegOk.mono {n m : Nat} {ks : List PyData} (h : KegOk n ks) (hm : m ≤ n) : KegOk m ks := by
  obtain ⟨a, b, c, h1, h2, h3, h4, h5, h6⟩ := h
  exact ⟨a, b, c, h1, h2, h3, h4, h5, by omega⟩
theorem fmod_lt {a b : Int} (h : 0 < b) : 0 ≤ a.fmod b ∧ a.fmod b < b := by
  rw [Int.fmod_eq_emod_of_nonneg _ (by omega)]
  exact ⟨Int.emod_nonneg _ (by omega), Int.emod_lt_of_pos _ h⟩
theorem fdiv_nonneg {a b : Int} (h : 0 < b) (ha : 0 ≤ a) : 0 ≤ a.fdiv b := by
  rw [Int.fdiv_eq_ediv_of_nonneg _ (by omega)]
  exact Int.ediv_nonneg ha (by omega)
theorem powOk_lt {i : Int} (h : i.natAbs < 2 ^ 1000) : powOk i 3 = true := by
  unfold powOk
  rw [Bool.and_eq_true]
  refine ⟨by decide, decide_eq_true ?_⟩
  have := log_of h (by decide)
  show (i.natAbs.log2 + 1) * 3 ≤ 100000000
  omega
/-- a comprehension whose elements pull -/
theorem comp_keg {α : Type} {tg : Tg} {t : Ft} {a : Fe} {vs : List Nat} {S : List PyData → En} {E : α → PyData} {R : PyData → Prop} {c : Nat} : ∀ {xs : List α} {n : Nat} {ks : List PyData}, KegOk (n + c * xs.length) ks →
    (∀ (n : Nat) (ks : List PyData), KegOk (n + c) ks → ∀ y ∈ xs, ∃ d ks' e1 e2 e3, R d ∧ KegOk n ks' ∧ tg (E y) (S ks) = some e1 ∧ t e1 = some (true, e2) ∧ a e2 = some (d, e3) ∧ wipeE e3 vs = S ks') →
    ∃ ds ks', compL tg t a vs (xs.map E) (S ks) = some (ds, S ks') ∧ KegOk n ks' ∧ ds.length = xs.length ∧ ∀ d ∈ ds, R d
  | [], n, ks, hk, _ => ⟨[], ks, rfl, hk, rfl, fun _ h => nomatch h⟩
  | y :: xs, n, ks, hk, h => by
    rw [List.length_cons, Nat.mul_succ, ← Nat.add_assoc] at hk
    obtain ⟨d, k1, e1, e2, e3, r, h1, h2, h3, h4, h5⟩ := h _ _ hk y List.mem_cons_self
    obtain ⟨ds, k2, h6, h7, h8, h9⟩ := comp_keg (xs := xs) h1 fun n ks hk y hy => h n ks hk y (List.mem_cons_of_mem _ hy)
    refine ⟨d :: ds, k2, ?_, h7, by simp [h8], fun z hz => ?_⟩
    · rw [List.map_cons]
      unfold compL
      rw [h2]
      show (t e1).bind _ = _
      rw [h3]
      show (a e2).bind _ = _
      rw [h4]
      show (compL tg t a vs (xs.map E) (wipeE e3 vs)).map _ = _
      rw [h5, h6]
      rfl
    · rcases List.mem_cons.mp hz with rfl | hz
      · exact r
      · exact h9 z hz
end Dn

set_option Elab.async false
set_option linter.all false
set_option maxRecDepth 100000
/-! yearly cellars: the mathematics -/
namespace Dn
open PySem PySem.Spec PyProof.Rows L2
/-- n casks; the table t (row, column), what comes in c, what is drawn s; all in parts of W -/
structure CelOk (n W V : Nat) (t : Nat → Nat → Rat) (c s : Nat → Rat) : Prop where
  n1 : 1 ≤ n
  n8 : n ≤ 8
  W1 : 0 < W
  W9 : W < 2 ^ 1000
  V1 : 0 < V
  V9 : V < 2 ^ 1000
  tp : ∀ i j, i < n → j < n → Pt W (t i j)
  t0 : ∀ i j, i < n → j < n → 0 ≤ t i j
  t1 : ∀ j, j < n → qsN (fun i => t i j) n ≤ 1
  sp : ∀ j, j < n → Pt W (s j)
  s0 : ∀ j, j < n → 0 ≤ s j
  s1 : ∀ j, j < n → s j ≤ 1
  cp : ∀ j, j < n → Pt V (c j)
  c0 : ∀ j, j < n → 0 ≤ c j
  c1 : ∀ j, j < n → c j ≤ 100
/-- what is in the casks, by age -/
def cX (n : Nat) (t : Nat → Nat → Rat) (c s : Nat → Rat) : Nat → Nat → Rat
  | 0 => c
  | y + 1 => fun k => qsN (fun j => t k j * (1 - s j) * cX n t c s y j) n
/-- what is drawn at an age -/
def cG (n : Nat) (t : Nat → Nat → Rat) (c s : Nat → Rat) : Nat → Rat
  | 0 => 0
  | a + 1 => qsN (fun j => cX n t c s a j * s j) n
section
variable {n W V : Nat} {t : Nat → Nat → Rat} {c s : Nat → Rat}
theorem qsN_mulL (a : Rat) (f : Nat → Rat) : ∀ n, qsN (fun i => a * f i) n = a * qsN f n
  | 0 => by show (0 : Rat) = a * 0; grind
  | n + 1 => by rw [qsN, qsN_mulL a f n, qsN]; grind
theorem qsN_mulR (a : Rat) (f : Nat → Rat) : ∀ n, qsN (fun i => f i * a) n = qsN f n * a
  | 0 => by show (0 : Rat) = 0 * a; grind
  | n + 1 => by rw [qsN, qsN_mulR a f n, qsN]; grind
/-- nothing is lost but what is drawn -/
theorem cX_sum (hf : ∀ j, j < n → qsN (fun i => t i j) n = 1) (y : Nat) : qsN (cX n t c s (y + 1)) n = qsN (cX n t c s y) n - cG n t c s (y + 1) := by
  show qsN (fun k => qsN (fun j => t k j * (1 - s j) * cX n t c s y j) n) n = _ - qsN _ n
  rw [qsN_swap (fun k j => t k j * (1 - s j) * cX n t c s y j), ← qsN_sub]
  refine qsN_congr fun j hj => ?_
  rw [show (fun i => t i j * (1 - s j) * cX n t c s y j) = fun i => t i j * ((1 - s j) * cX n t c s y j) by funext i; grind, qsN_mulR (_) (fun i => t i j), hf j hj]
  grind
theorem cel_all (hf : ∀ j, j < n → qsN (fun i => t i j) n = 1) : ∀ a, qsN (cG n t c s) (a + 1) + qsN (cX n t c s a) n = qsN c n
  | 0 => by show (0 : Rat) + 0 + qsN c n = _; grind
  | a + 1 => by
    have := cel_all hf a
    rw [qsN, cX_sum hf a]
    grind
theorem cX_nonneg (h : CelOk n W V t c s) : ∀ y k, k < n → 0 ≤ cX n t c s y k
  | 0, k, hk => h.c0 k hk
  | y + 1, k, hk => qsN_nonneg fun j hj => Rat.mul_nonneg (Rat.mul_nonneg (h.t0 k j hk hj) (by have := h.s1 j hj; grind)) (cX_nonneg h y j hj)
end
def vecQ (n : Nat) (c : Nat → Rat) : PyData := .tuple ((List.range n).map fun j => encQ (c j))
def tabQ (n : Nat) (t : Nat → Nat → Rat) : PyData := .tuple ((List.range n).map fun i => vecQ n (t i))
def yrP (n : Nat) (t : Nat → Nat → Rat) (c s : Nat → Rat) : PyData := .tuple [tabQ n t, vecQ n c, vecQ n s]
theorem items_vq {n : Nat} {c : Nat → Rat} : items (vecQ n c) = some ((List.range n).map fun j => encQ (c j)) := rfl
theorem items_tq {n : Nat} {t : Nat → Nat → Rat} : items (tabQ n t) = some ((List.range n).map fun i => vecQ n (t i)) := rfl
theorem gLen_vq {n : Nat} {c : Nat → Rat} : gLen [vecQ n c] = some (.int (n : Int)) := by simp [vecQ]
theorem gLen_tq {n : Nat} {t : Nat → Nat → Rat} : gLen [tabQ n t] = some (.int (n : Int)) := by simp [tabQ]
theorem isT_vq {n : Nat} {c : Nat → Rat} : isT "tuple" (vecQ n c) = true := by simp [vecQ]
theorem isT_tq {n : Nat} {t : Nat → Nat → Rat} : isT "tuple" (tabQ n t) = true := by simp [tabQ]
theorem gIx_vq {n i : Nat} {c : Nat → Rat} (h : i < n) : gIx (vecQ n c) (.int (i : Int)) = some (encQ (c i)) := atI_map h
theorem Pt.one_of {D : Nat} : Pt D 1 := Pt.int 1
theorem col_bd {n W V : Nat} {t : Nat → Nat → Rat} {c s : Nat → Rat} (h : CelOk n W V t c s) {j : Nat} (hj : j < n) : Bd W 1 ((List.range n).map fun i => t i j) := by
  refine ⟨fun q hq => ?_, fun q hq => ?_, fun q hq => ?_⟩ <;> obtain ⟨i, hi, rfl⟩ := List.mem_map.mp hq
  · exact h.tp i j (List.mem_range.mp hi) hj
  · exact h.t0 i j (List.mem_range.mp hi) hj
  · have key : ∀ m, m ≤ n → ∀ i, i < m → t i j ≤ qsN (fun i => t i j) m := by
      intro m
      induction m with
      | zero => intro _ i hi; omega
      | succ m ih =>
        intro hm i hi
        have h0 : 0 ≤ qsN (fun i => t i j) m := qsN_nonneg fun i hi => h.t0 i j (by omega) hj
        have h1 := h.t0 m j (by omega) hj
        rw [qsN]
        by_cases e : i = m
        · subst e; grind
        · have := ih (by omega) i (by omega); grind
    exact Rat.le_trans (key n (Nat.le_refl _) i (List.mem_range.mp hi)) (h.t1 j hj)
end Dn

set_option Elab.async false
set_option linter.all false
set_option maxRecDepth 100000
/-! yearly cellars in integers -/
namespace Dn
open PySem PySem.Spec PyProof.Rows L2
/-- what is drawn goes, the rest is worked -/
def dT (t : Nat → Nat → Rat) (s : Nat → Rat) (i j : Nat) : Rat := t i j * (1 - s j)
/-- all entries, row by row -/
def allT (n : Nat) (t : Nat → Nat → Rat) : List Rat := (List.range n).flatMap fun i => (List.range n).map (t i)
def cB (n : Nat) (t : Nat → Nat → Rat) : Nat := lcms (allT n t)
def cM (n : Nat) (t : Nat → Nat → Rat) (i j : Nat) : Int := sh (cB n t) (t i j)
def cU (n : Nat) (c : Nat → Rat) : Nat := lcms ((List.range n).map c)
def cI (n : Nat) (c : Nat → Rat) (j : Nat) : Int := sh (cU n c) (c j)
theorem allT_mem {n : Nat} {t : Nat → Nat → Rat} {q : Rat} (h : q ∈ allT n t) : ∃ i j, i < n ∧ j < n ∧ q = t i j := by
  obtain ⟨i, hi, h2⟩ := List.mem_flatMap.mp h
  obtain ⟨j, hj, rfl⟩ := List.mem_map.mp h2
  exact ⟨i, j, List.mem_range.mp hi, List.mem_range.mp hj, rfl⟩
theorem mem_allT {n i j : Nat} {t : Nat → Nat → Rat} (hi : i < n) (hj : j < n) : t i j ∈ allT n t :=
  List.mem_flatMap.mpr ⟨i, List.mem_range.mpr hi, List.mem_map.mpr ⟨j, List.mem_range.mpr hj, rfl⟩⟩
theorem cB_pos {n : Nat} {t : Nat → Nat → Rat} : 0 < cB n t := lcms_pos _
theorem cU_pos {n : Nat} {c : Nat → Rat} : 0 < cU n c := lcms_pos _
theorem cB_dvd {n D : Nat} {t : Nat → Nat → Rat} (hD : 0 < D) (h : ∀ i j, i < n → j < n → Pt D (t i j)) : cB n t ∣ D := lcms_dvd fun q hq => by
  obtain ⟨i, j, hi, hj, rfl⟩ := allT_mem hq
  exact (h i j hi hj).den_dvd hD
theorem cU_dvd {n D : Nat} {c : Nat → Rat} (hD : 0 < D) (h : ∀ j, j < n → Pt D (c j)) : cU n c ∣ D := lcms_dvd fun q hq => by
  obtain ⟨j, hj, rfl⟩ := List.mem_map.mp hq
  exact (h j (List.mem_range.mp hj)).den_dvd hD
theorem cM_q {n i j : Nat} {t : Nat → Nat → Rat} (hi : i < n) (hj : j < n) : ((cM n t i j : Int) : Rat) = t i j * (cB n t : Rat) := sh_q (den_lcms (mem_allT hi hj))
theorem cI_q {n j : Nat} {c : Nat → Rat} (hj : j < n) : ((cI n c j : Int) : Rat) = c j * (cU n c : Rat) := sh_q (den_lcms (List.mem_map.mpr ⟨j, List.mem_range.mpr hj, rfl⟩))
theorem sumN_q (f : Nat → Int) (n : Nat) : ((sumN f n : Int) : Rat) = qsN (fun i => (f i : Rat)) n := by
  have := qsN_int f (fun i => (f i : Rat)) 1 n fun i _ => by grind
  rw [← this]; grind
/-- a series of rows of fractions, and in integers -/
def qser (n : Nat) (t : Nat → Nat → Rat) (c : Nat → Rat) : Nat → Nat → Rat
  | 0 => c
  | y + 1 => fun k => qsN (fun j => t k j * qser n t c y j) n
theorem qser_int {n : Nat} {t : Nat → Nat → Rat} {c : Nat → Rat} : ∀ (y k : Nat), k < n → ((ser (cM n t) n (cI n c) y k : Int) : Rat) = qser n t c y k * ((cU n c * cB n t ^ y : Nat) : Rat)
  | 0, k, hk => by
    show ((cI n c k : Int) : Rat) = c k * _
    rw [cI_q hk, Nat.pow_zero, Nat.mul_one]
  | y + 1, k, hk => by
    show ((sumN (fun j => cM n t k j * ser (cM n t) n (cI n c) y j) n : Int) : Rat) = qsN (fun j => t k j * qser n t c y j) n * _
    rw [sumN_q, ← qsN_mulR]
    refine qsN_congr fun j hj => ?_
    rw [Rat.intCast_mul, cM_q hk hj, qser_int y j hj, Nat.pow_succ, ← Nat.mul_assoc, Rat.natCast_mul (cU n c * cB n t ^ y)]
    grind
theorem qser_div {n : Nat} {t : Nat → Nat → Rat} {c : Nat → Rat} {y k : Nat} (hk : k < n) : Rat.divInt (ser (cM n t) n (cI n c) y k) ((cU n c : Int) * (cB n t : Int) ^ y) = qser n t c y k := by
  have hp : 0 < cU n c * cB n t ^ y := Nat.mul_pos cU_pos (Nat.pow_pos cB_pos)
  have e : (cU n c : Int) * (cB n t : Int) ^ y = ((cU n c * cB n t ^ y : Nat) : Int) := by simp
  refine q_cancel hp ?_
  rw [← qser_int y k hk, e, Rat.divInt_eq_div]
  have := natQ_ne hp
  have e2 : (((cU n c * cB n t ^ y : Nat) : Int) : Rat) = ((cU n c * cB n t ^ y : Nat) : Rat) := rfl
  rw [e2]
  grind
theorem qser_pt {n : Nat} {t : Nat → Nat → Rat} {c : Nat → Rat} {y k : Nat} (hk : k < n) : Pt (cU n c * cB n t ^ y) (qser n t c y k) := ⟨_, (qser_int y k hk).symm⟩
/-- no more than at first -/
theorem qser_nonneg {n : Nat} {t : Nat → Nat → Rat} {c : Nat → Rat} (ht : ∀ i j, i < n → j < n → 0 ≤ t i j) (hc : ∀ j, j < n → 0 ≤ c j) : ∀ y k, k < n → 0 ≤ qser n t c y k
  | 0, k, hk => hc k hk
  | y + 1, k, hk => qsN_nonneg fun j hj => Rat.mul_nonneg (ht k j hk hj) (qser_nonneg ht hc y j hj)
theorem qsN_le_qsN {f g : Nat → Rat} : ∀ {n : Nat}, (∀ i, i < n → f i ≤ g i) → qsN f n ≤ qsN g n
  | 0, _ => Rat.le_refl
  | n + 1, h => by
    have h1 := qsN_le_qsN (f := f) (g := g) (n := n) fun i hi => h i (by omega)
    have h2 := h n (by omega)
    rw [qsN, qsN]; grind
theorem qsN_ge {f : Nat → Rat} : ∀ {n : Nat}, (∀ i, i < n → 0 ≤ f i) → ∀ i, i < n → f i ≤ qsN f n
  | 0, _, i, hi => by omega
  | n + 1, h, i, hi => by
    have h0 : 0 ≤ qsN f n := qsN_nonneg fun i hi => h i (by omega)
    have h1 := h n (by omega)
    rw [qsN]
    by_cases e : i = n
    · subst e; grind
    · have := qsN_ge (fun i hi => h i (by omega)) i (show i < n by omega); grind
theorem qser_sum {n : Nat} {t : Nat → Nat → Rat} {c : Nat → Rat} (ht : ∀ i j, i < n → j < n → 0 ≤ t i j) (hc : ∀ j, j < n → 0 ≤ c j) (h1 : ∀ j, j < n → qsN (fun i => t i j) n ≤ 1) : ∀ y, qsN (qser n t c y) n ≤ qsN c n
  | 0 => Rat.le_refl
  | y + 1 => by
    refine Rat.le_trans ?_ (qser_sum ht hc h1 y)
    show qsN (fun k => qsN (fun j => t k j * qser n t c y j) n) n ≤ _
    rw [qsN_swap (fun k j => t k j * qser n t c y j)]
    refine qsN_le_qsN fun j hj => ?_
    rw [qsN_mulR (qser n t c y j) (fun i => t i j)]
    have := Rat.mul_le_mul_of_nonneg_right (h1 j hj) (qser_nonneg ht hc y j hj)
    grind
theorem qser_le {n : Nat} {t : Nat → Nat → Rat} {c : Nat → Rat} (ht : ∀ i j, i < n → j < n → 0 ≤ t i j) (hc : ∀ j, j < n → 0 ≤ c j) (h1 : ∀ j, j < n → qsN (fun i => t i j) n ≤ 1) {y k : Nat} (hk : k < n) : qser n t c y k ≤ qsN c n :=
  Rat.le_trans (qsN_ge (fun i hi => qser_nonneg ht hc y i hi) k hk) (qser_sum ht hc h1 y)
/-- sums over the years, as they are reckoned -/
def stot (M : Nat → Nat → Int) (n : Nat) (c : Nat → Int) (B : Int) : Nat → Nat → Int
  | 0 => c
  | y + 1 => fun k => sumN (fun j => M k j * stot M n c B y j) n + c k * (B ^ y * B)
def qtot (n : Nat) (t : Nat → Nat → Rat) (c : Nat → Rat) (y k : Nat) : Rat := qsN (fun a => qser n t c a k) (y + 1)
theorem qtot_succ {n : Nat} {t : Nat → Nat → Rat} {c : Nat → Rat} (y k : Nat) : qtot n t c (y + 1) k = qsN (fun j => t k j * qtot n t c y j) n + c k := by
  unfold qtot
  rw [qsN_first]
  show c k + qsN (fun a => qsN (fun j => t k j * qser n t c a j) n) (y + 1) = _
  rw [qsN_swap (fun a j => t k j * qser n t c a j)]
  rw [qsN_congr (g := fun j => t k j * qsN (fun a => qser n t c a j) (y + 1)) fun j _ => qsN_mulL (t k j) (fun a => qser n t c a j) (y + 1)]
  grind
theorem qtot_int {n : Nat} {t : Nat → Nat → Rat} {c : Nat → Rat} : ∀ (y k : Nat), k < n → ((stot (cM n t) n (cI n c) (cB n t) y k : Int) : Rat) = qtot n t c y k * ((cU n c * cB n t ^ y : Nat) : Rat)
  | 0, k, hk => by
    show ((cI n c k : Int) : Rat) = (0 + c k) * _
    rw [cI_q hk, Nat.pow_zero, Nat.mul_one]; grind
  | y + 1, k, hk => by
    show ((sumN (fun j => cM n t k j * stot (cM n t) n (cI n c) (cB n t) y j) n + cI n c k * ((cB n t : Int) ^ y * (cB n t : Int)) : Int) : Rat) = _
    rw [Rat.intCast_add, sumN_q, qtot_succ]
    have e1 : qsN (fun j => ((cM n t k j * stot (cM n t) n (cI n c) (cB n t) y j : Int) : Rat)) n = qsN (fun j => t k j * qtot n t c y j) n * ((cU n c * cB n t ^ (y + 1) : Nat) : Rat) := by
      rw [← qsN_mulR]
      refine qsN_congr fun j hj => ?_
      rw [Rat.intCast_mul, cM_q hk hj, qtot_int y j hj, Nat.pow_succ, ← Nat.mul_assoc, Rat.natCast_mul (cU n c * cB n t ^ y)]
      grind
    have e2 : ((cI n c k * ((cB n t : Int) ^ y * (cB n t : Int)) : Int) : Rat) = c k * ((cU n c * cB n t ^ (y + 1) : Nat) : Rat) := by
      have : (cB n t : Int) ^ y * (cB n t : Int) = ((cB n t ^ (y + 1) : Nat) : Int) := by rw [Nat.pow_succ]; simp
      rw [this, Rat.intCast_mul, cI_q hk, Rat.natCast_mul]
      have e3 : (((cB n t ^ (y + 1) : Nat) : Int) : Rat) = ((cB n t ^ (y + 1) : Nat) : Rat) := rfl
      rw [e3]; grind
    rw [e1, e2]; grind
theorem qtot_div {n : Nat} {t : Nat → Nat → Rat} {c : Nat → Rat} {y k : Nat} (hk : k < n) : Rat.divInt (stot (cM n t) n (cI n c) (cB n t) y k) ((cU n c : Int) * (cB n t : Int) ^ y) = qtot n t c y k := by
  have hp : 0 < cU n c * cB n t ^ y := Nat.mul_pos cU_pos (Nat.pow_pos cB_pos)
  have e : (cU n c : Int) * (cB n t : Int) ^ y = ((cU n c * cB n t ^ y : Nat) : Int) := by simp
  refine q_cancel hp ?_
  rw [← qtot_int y k hk, e, Rat.divInt_eq_div]
  have := natQ_ne hp
  have e2 : (((cU n c * cB n t ^ y : Nat) : Int) : Rat) = ((cU n c * cB n t ^ y : Nat) : Rat) := rfl
  rw [e2]
  grind
theorem cX_qser {n : Nat} {t : Nat → Nat → Rat} {c s : Nat → Rat} : ∀ y, cX n t c s y = qser n (dT t s) c y
  | 0 => rfl
  | y + 1 => by
    funext k
    show qsN (fun j => t k j * (1 - s j) * cX n t c s y j) n = qsN (fun j => t k j * (1 - s j) * qser n (dT t s) c y j) n
    rw [cX_qser y]
/-! quotients of ints -/
theorem div_mul {a : Int} {D : Nat} (h : 0 < D) : Rat.divInt a (D : Int) * ((D : Nat) : Rat) = (a : Rat) := by
  have := natQ_ne h
  rw [Rat.divInt_eq_div]
  have e : (((D : Nat) : Int) : Rat) = (D : Rat) := rfl
  rw [e]
  grind
theorem div_nn {a : Int} {D : Nat} (h : 0 ≤ a) : 0 ≤ Rat.divInt a (D : Int) := by
  rcases Nat.eq_zero_or_pos D with h0 | h0
  · subst h0
    rw [show (((0 : Nat) : Int)) = 0 from rfl, Rat.divInt_zero]
    exact Rat.le_refl
  · refine q_nn h0 ?_
    rw [div_mul h0]
    have : ((0 : Int) : Rat) ≤ (a : Rat) := Rat.intCast_le_intCast.mpr h
    exact this
theorem div_le {a : Int} {D m : Nat} (h : 0 < D) (h2 : a ≤ ((m * D : Nat) : Int)) : Rat.divInt a (D : Int) ≤ ((m : Nat) : Rat) := by
  have hp := natQ_pos h
  refine Rat.not_lt.mp fun z => ?_
  have h3 := Rat.mul_lt_mul_of_pos_right z hp
  rw [div_mul h] at h3
  have h4 : (a : Rat) ≤ (((m * D : Nat) : Int) : Rat) := Rat.intCast_le_intCast.mpr h2
  have e : (((m * D : Nat) : Int) : Rat) = (m : Rat) * (D : Rat) := by rw [← Rat.natCast_mul]; rfl
  rw [e] at h4
  grind
end Dn

set_option Elab.async false
set_option linter.all false
set_option maxRecDepth 100000
/-! rows over many years: when the tap begins, sizes to 300 years, labels -/
namespace Dn
open PySem PySem.Spec PyProof.Rows L2
section
variable {r : List Rat}
theorem pB0 (y : Nat) : 0 < (rB r : Int) ^ y := Int.pow_pos (by have := @rB_pos r; omega)
theorem rv_zero {c : Nat} (h : RowC c r) : ∀ (y k : Nat), k < r.length → y < k → rv r y k = 0
  | 0, k, _, hy => by show e0 k = 0; unfold e0; rw [if_neg (by omega)]
  | y + 1, k, hk, hy => by
    rw [rv_succ hk, rv_zero h y k hk (by omega), if_pos (by omega), rv_zero h y (k - 1) (by omega) (by omega)]
    simp
theorem rv_diag {c : Nat} (h : RowC c r) : ∀ k, k < r.length → 0 < rv r k k
  | 0, _ => by show 0 < e0 0; decide
  | k + 1, hk => by
    rw [rv_succ hk, rv_zero h k (k + 1) hk (by omega), if_pos (by omega), Nat.add_sub_cancel, Int.mul_zero, Int.zero_add]
    exact Int.mul_pos (rs_bound h (show k < r.length by omega)).1 (rv_diag h k (by omega))
theorem rN_full {c : Nat} (h : RowC c r) : ∀ y, y < r.length → rN r y = (rB r : Int) ^ y
  | 0, _ => by rw [rN_0 h]; rfl
  | y + 1, hy => by
    rw [rN_succ h, rv_zero h y (r.length - 1) (by omega) (by omega), rN_full h y (by omega), Int.pow_succ, Int.mul_zero, Int.sub_zero, Int.mul_comm]
theorem rN_less {c : Nat} (h : RowC c r) : ∀ d, rN r (r.length + d) < (rB r : Int) ^ (r.length + d)
  | 0 => by
    have hm := h.len
    obtain ⟨n, hn⟩ : ∃ n, r.length = n + 1 := ⟨r.length - 1, by omega⟩
    have e : rN r (r.length + 0) = (rB r : Int) * rN r n - rs r (r.length - 1) * rv r n (r.length - 1) := by
      conv => lhs; rw [Nat.add_zero, hn]
      exact rN_succ h n
    have h1 := rN_full h n (by omega)
    have h2 := rv_diag h n (by omega)
    have h3 := rs_bound h (show n < r.length by omega)
    have h4 := Int.mul_pos h3.1 h2
    rw [e, h1, show r.length - 1 = n by omega, Nat.add_zero]
    conv => rhs; rw [hn, Int.pow_succ, Int.mul_comm]
    omega
  | d + 1 => by
    have h1 := rN_less h d
    have hm := h.len
    rw [← Nat.add_assoc, rN_succ h, Int.pow_succ, Int.mul_comm _ (rB r : Int)]
    have h2 := Int.mul_lt_mul_of_pos_left h1 (show 0 < (rB r : Int) by have := @rB_pos r; omega)
    have h3 := Int.mul_nonneg (show 0 ≤ rs r (r.length - 1) from Int.le_of_lt (rs_bound h (by omega)).1) (rv_nonneg h (r.length + d) (r.length - 1) (by omega))
    omega
theorem rv_all {c : Nat} (h : RowC c r) (ha : ∀ k, k < r.length → rs r k = (rB r : Int)) : ∀ k, k < r.length → rv r k k = (rB r : Int) ^ k
  | 0, _ => rfl
  | k + 1, hk => by
    rw [rv_succ hk, rv_zero h k (k + 1) hk (by omega), if_pos (by omega), Nat.add_sub_cancel, Int.mul_zero, Int.zero_add, ha k (by omega), rv_all h ha k (by omega), Int.pow_succ, Int.mul_comm]
theorem rN_stay {c : Nat} (h : RowC c r) : (∀ y, 0 < rN r y) ∨ rN r r.length = 0 := by
  have hm := h.len
  by_cases ha : ∀ k, k < r.length → rs r k = (rB r : Int)
  · right
    obtain ⟨n, hn⟩ : ∃ n, r.length = n + 1 := ⟨r.length - 1, by omega⟩
    have e : rN r r.length = (rB r : Int) * rN r n - rs r (r.length - 1) * rv r n (r.length - 1) := by
      conv => lhs; rw [hn]
      exact rN_succ h n
    rw [e, show r.length - 1 = n by omega, ha n (by omega), rv_all h ha n (by omega), rN_full h n (by omega)]
    omega
  · left
    obtain ⟨k, hk⟩ := Classical.not_forall.mp ha
    obtain ⟨hk, hne⟩ := Classical.not_imp.mp hk
    have hb := rs_bound h hk
    have pos : ∀ d, 0 < rv r (k + d) k := by
      intro d
      induction d with
      | zero => exact rv_diag h k hk
      | succ d ih =>
        rw [← Nat.add_assoc, rv_succ hk]
        have h1 := Int.mul_pos (show 0 < (rB r : Int) - rs r k by omega) ih
        split
        · have h3 := Int.mul_nonneg (show 0 ≤ rs r (k - 1) from Int.le_of_lt (rs_bound h (by omega)).1) (rv_nonneg h (k + d) (k - 1) (by omega))
          omega
        · omega
    intro y
    by_cases hy : y < r.length
    · rw [rN_full h y hy]; exact pB0 y
    · have h1 := pos (y - k)
      rw [show k + (y - k) = y by omega] at h1
      have h2 : rv r y k ≤ rN r y := sumN_ge (rv_nonneg h y) k hk
      omega
theorem divInt_eq1 {a b : Int} (hb : 0 < b) : Rat.divInt a b = 1 ↔ a = b := by
  have e : Rat.divInt a b * (b : Rat) = (a : Rat) := by
    have : (b : Rat) ≠ 0 := fun h => by
      have : b = 0 := Rat.intCast_inj.mp (by rw [h]; rfl)
      omega
    rw [Rat.divInt_eq_div]
    grind
  constructor
  · intro h
    rw [h, Rat.one_mul] at e
    exact (Rat.intCast_inj.mp e).symm
  · intro h
    subst h
    have : (a : Rat) ≠ 0 := fun h => by
      have : a = 0 := Rat.intCast_inj.mp (by rw [h]; rfl)
      omega
    rw [Rat.divInt_eq_div]
    grind
theorem rS_1 {c : Nat} (h : RowC c r) {y : Nat} (hy : y < r.length) : rS r y = 1 := (divInt_eq1 (pB0 y)).mpr (rN_full h y hy)
theorem rS_lt {c : Nat} (h : RowC c r) {y : Nat} (hy : r.length ≤ y) : rS r y < 1 := by
  have h1 := rN_less h (y - r.length)
  rw [show r.length + (y - r.length) = y by omega] at h1
  have h2 := rS_le1 h y
  have h3 : rS r y ≠ 1 := fun z => by
    have := (divInt_eq1 (pB0 y)).mp z
    omega
  exact Rat.not_le.mp fun z => h3 (Rat.le_antisymm h2 z)
theorem rS_stay {c : Nat} (h : RowC c r) : (∀ y, 0 < rS r y) ∨ rS r r.length = 0 := by
  rcases rN_stay h with h1 | h1
  · exact .inl fun y => (divInt_pos (pB0 y)).mpr (h1 y)
  · right
    unfold rS
    rw [h1]
    exact Rat.zero_divInt _
/-! labels -/
/-- the year holds the label -/
def hit (r : List Rat) (a : Nat) (q : Rat) (y : Nat) : Prop := rS r y ≠ 1 ∧ if y < a then q ≤ 0 else q * (1 - rS r y) ≤ rS r (a - 1) - rS r y
theorem hit_n {c : Nat} (h : RowC c r) {a : Nat} {q : Rat} (h1 : q ≤ 1) (hq : q = 0 ∨ a ≤ r.length) : hit r a q r.length := by
  have hm := h.len
  have hn := rS_lt h (Nat.le_refl r.length)
  refine ⟨fun z => by rw [z] at hn; exact absurd hn (by decide), ?_⟩
  by_cases c : r.length < a
  · rw [if_pos c]
    rcases hq with rfl | hq
    · exact Rat.le_refl
    · omega
  · rw [if_neg c, rS_1 h (show a - 1 < r.length by omega)]
    have := Rat.mul_le_mul_of_nonneg_right h1 (show 0 ≤ 1 - rS r r.length by grind)
    grind
theorem hit_ge {c : Nat} (h : RowC c r) {a y : Nat} {q : Rat} (hh : hit r a q y) : r.length ≤ y := by
  refine Nat.le_of_not_lt fun z => hh.1 (rS_1 h z)
theorem hit_age {a y : Nat} {q : Rat} (hq : 0 < q) (hh : hit r a q y) : a ≤ y := by
  refine Nat.le_of_not_lt fun z => ?_
  have := hh.2
  rw [if_pos z] at this
  grind
theorem hit_more {c : Nat} (h : RowC c r) {a y : Nat} {q : Rat} (hq : 0 < q) (h1 : q ≤ 1) (ha : r.length < a) (hh : hit r a q y) : q < rS r (a - 1) := by
  have hy := hit_age hq hh
  have h2 := hh.2
  rw [if_neg (by omega)] at h2
  have hl := rS_lt h (show r.length ≤ a - 1 by omega)
  have hly := rS_lt h (show r.length ≤ y by omega)
  have hp := rS_nonneg h y
  refine Rat.not_le.mp fun z => ?_
  -- S(a-1) ≤ q, q (1 - S y) ≤ S(a-1) - S y ≤ q - S y
  have e1 : rS r y ≤ q * rS r y := by grind
  rcases rS_stay h with h3 | h3
  · have h4 := h3 y
    have : ¬ q < 1 := fun z2 => by
      have := Rat.mul_lt_mul_of_pos_right z2 h4
      grind
    have : q = 1 := by grind
    subst this
    grind
  · have h4 := rS_mono h (show r.length ≤ a - 1 by omega)
    have h5 := rS_mono h (show r.length ≤ y by omega)
    have h6 : rS r y = 0 := by grind
    have h7 : rS r (a - 1) = 0 := by have := rS_nonneg h (a - 1); grind
    rw [h6, h7] at h2
    grind
/-- in a year from the age on -/
theorem hit_iff {c : Nat} (h : RowC c r) {a y : Nat} {q : Rat} (ha : r.length < a) (hy : a ≤ y) : hit r a q y ↔ 1 - rS r (a - 1) ≤ (1 - q) * (1 - rS r y) := by
  have hly := rS_lt h (show r.length ≤ y by omega)
  unfold hit
  rw [if_neg (by omega)]
  constructor
  · intro ⟨_, h2⟩; grind
  · intro h2
    refine ⟨fun z => by rw [z] at hly; exact absurd hly (by decide), by grind⟩
/-! sizes -/
theorem lcms_dprod : rB r ∣ dprod r := lcms_dvd fun q hq => den_dprod hq
structure Row3 (r : List Rat) : Prop where
  ok : RowOk r
  prod : dprod r ≤ 2 ^ 29
theorem Row3.le (h : Row3 r) : rB r ≤ 2 ^ 29 := Nat.le_trans (Nat.le_of_dvd (dprod_pos r) lcms_dprod) h.prod
theorem pow29 {b y : Nat} (hb : b ≤ 2 ^ 29) (hy : y ≤ 301) : b ^ y < 2 ^ 8740 := by
  have h2 : b ^ y ≤ (2 ^ 29) ^ y := Nat.pow_le_pow_left hb y
  rw [← Nat.pow_mul] at h2
  exact Nat.lt_of_le_of_lt h2 (Nat.pow_lt_pow_right (by decide) (by omega))
theorem Row3.powB (h : Row3 r) {y : Nat} (hy : y ≤ 301) : rB r ^ y < 2 ^ 8740 := pow29 h.le hy
theorem Row3.aB (h : Row3 r) {y : Nat} (hy : y ≤ 301) : ((rB r : Int) ^ y).natAbs < 2 ^ 8740 := by
  have : ((rB r : Int) ^ y) = ((rB r ^ y : Nat) : Int) := by simp
  rw [this]
  exact h.powB hy
theorem Row3.aP (h : Row3 r) {y : Nat} (hy : y ≤ 301) : ((dprod r : Int) ^ y).natAbs < 2 ^ 8740 := by
  have : ((dprod r : Int) ^ y) = ((dprod r ^ y : Nat) : Int) := by simp
  rw [this]
  exact pow29 h.prod hy
theorem Row3.rM_mul (h : Row3 r) {y : Nat} (hy : y ≤ 301) {k j : Nat} (hk : k < r.length) (hj : j < r.length) : mulOk (rM r k j) (ser (rM r) r.length e0 y j) = true :=
  mulOk_lt (lt_pow (Nat.lt_of_le_of_lt (rM_abs h.ok hk hj) (rB_lt4 h.ok)) (by decide)) (lt_pow (Nat.lt_of_le_of_lt (rv_abs h.ok hj) (h.powB hy)) (by decide))
theorem Row3.rB_mul (h : Row3 r) {y : Nat} (hy : y ≤ 301) : mulOk (1 * (rB r : Int) ^ y) (rB r : Int) = true := by
  rw [Int.one_mul]
  exact mulOk_lt (lt_pow (h.aB hy) (by decide)) (lt_pow (a := 4000) (by exact rB_lt4 h.ok) (by decide))
theorem rS_den {c : Nat} (h : RowC c r) (y : Nat) : (rS r y).den ≤ rB r ^ y := Nat.le_of_dvd (powB_pos y) ((rS_pt y).den_dvd (powB_pos y))
theorem dprod_set {c : Nat} (hc : 1 ≤ c) {q : Rat} : ∀ {l : List Rat} (k : Nat), (∀ p ∈ l, p.den ≤ c) → dprod (l.set k q) ≤ c ^ l.length * q.den
  | [], _, _ => by
    show 1 ≤ 1 * q.den
    have := @den_pos q; omega
  | p :: l, 0, h => by
    show q.den * dprod l ≤ c ^ (l.length + 1) * q.den
    have h1 := dprod_le (c := c) (l := l) fun p hp => h p (List.mem_cons_of_mem _ hp)
    have h2 : c ^ l.length ≤ c ^ (l.length + 1) := Nat.pow_le_pow_right hc (by omega)
    rw [Nat.mul_comm]
    exact Nat.mul_le_mul_right _ (by omega)
  | p :: l, k + 1, h => by
    show p.den * dprod (l.set k q) ≤ c ^ (l.length + 1) * q.den
    have h1 := dprod_set hc (q := q) (l := l) k fun p hp => h p (List.mem_cons_of_mem _ hp)
    have h2 := h p List.mem_cons_self
    rw [Nat.pow_succ, Nat.mul_comm (c ^ l.length) c, Nat.mul_assoc]
    exact Nat.mul_le_mul h2 h1
theorem dprod_snoc (l : List Rat) (q : Rat) : dprod (l ++ [q]) = dprod l * q.den := by
  induction l with
  | nil => show q.den * 1 = 1 * q.den; omega
  | cons p l ih =>
    show p.den * dprod (l ++ [q]) = p.den * dprod l * q.den
    rw [ih, Nat.mul_assoc]
/-- the law's own number below, and its amounts -/
def rC (r : List Rat) : Nat := dprod r / rB r
theorem rC_mul : rC r * rB r = dprod r := Nat.div_mul_cancel lcms_dprod
theorem sh_dprod {q : Rat} (hq : q ∈ r) : sh (dprod r) q = (rC r : Int) * sh (rB r) q := by
  unfold sh
  rw [← rC_mul, Nat.mul_div_assoc _ (show q.den ∣ rB r from den_lcms hq), Int.natCast_mul, ← Int.mul_assoc, ← Int.mul_assoc, Int.mul_comm q.num]
theorem shares_vec : PyData.list ((r.map (sh (dprod r))).map .int) = vecP r.length fun k => (rC r : Int) * rs r k := by
  rw [vecP_of, List.length_map]
  refine vecP_congr fun k hk => ?_
  have e := List.getElem?_eq_getElem hk
  rw [rs_at e, List.getD_eq_getElem?_getD, List.getElem?_map, e]
  exact sh_dprod (List.getElem_mem hk)
def lv (r : List Rat) (y k : Nat) : Int := (rC r : Int) ^ y * rv r y k
def lAm (r : List Rat) (y : Nat) : Int := (rC r : Int) ^ y * rN r y
theorem lv_0 (k : Nat) : lv r 0 k = e0 k := by
  show (rC r : Int) ^ 0 * e0 k = e0 k
  rw [Int.pow_zero, Int.one_mul]
theorem lv_sum (y : Nat) : sumN (lv r y) r.length = lAm r y := sumN_mul _ _ _
theorem lv_succ {y k : Nat} (hk : k < r.length) : lv r (y + 1) k = lv r y k * ((dprod r : Int) - (rC r : Int) * rs r k) + if 0 < k then lv r y (k - 1) * ((rC r : Int) * rs r (k - 1)) else 0 := by
  unfold lv
  rw [rv_succ hk, ← rC_mul, Int.natCast_mul, ← Int.mul_sub, Int.mul_add, Int.pow_succ]
  split
  · congr 1 <;> simp only [Int.mul_assoc, Int.mul_comm, Int.mul_left_comm]
  · rw [Int.mul_zero]
    congr 1
    simp only [Int.mul_assoc, Int.mul_comm, Int.mul_left_comm]
theorem rC_pos : 0 < rC r := by
  refine Nat.pos_of_ne_zero fun z => ?_
  have := @rC_mul r
  rw [z, Nat.zero_mul] at this
  have := dprod_pos r
  omega
theorem rC_pow (y : Nat) : (rC r : Int) ^ y * (rB r : Int) ^ y = (dprod r : Int) ^ y := by
  rw [← rC_mul, Int.natCast_mul, Int.mul_pow]
theorem lC0 (y : Nat) : 0 < (rC r : Int) ^ y := Int.pow_pos (by have := @rC_pos r; omega)
theorem lP0 (y : Nat) : 0 < (dprod r : Int) ^ y := Int.pow_pos (by have := dprod_pos r; omega)
theorem lAm_q (y : Nat) : ((lAm r y : Int) : Rat) = rS r y * (((dprod r : Int) ^ y : Int) : Rat) := by
  unfold lAm
  rw [← rC_pow, Rat.intCast_mul, Rat.intCast_mul, ← rS_q, pow_q (rB r)]
  grind
theorem lv_bound {c : Nat} (h : RowC c r) (y k : Nat) (hk : k < r.length) : 0 ≤ lv r y k ∧ lv r y k ≤ (dprod r : Int) ^ y := by
  unfold lv
  have h1 := Int.le_of_lt (@lC0 r y)
  refine ⟨Int.mul_nonneg h1 (rv_nonneg h y k hk), ?_⟩
  rw [← rC_pow]
  exact Int.mul_le_mul_of_nonneg_left (rv_le h y k hk) h1
theorem lAm_bound {c : Nat} (h : RowC c r) (y : Nat) : 0 ≤ lAm r y ∧ lAm r y ≤ (dprod r : Int) ^ y := by
  unfold lAm
  have h1 := Int.le_of_lt (@lC0 r y)
  refine ⟨Int.mul_nonneg h1 (rN_nonneg h y), ?_⟩
  rw [← rC_pow]
  exact Int.mul_le_mul_of_nonneg_left (rN_le h y) h1
theorem abs_le {a b : Int} (h0 : 0 ≤ a) (h : a ≤ b) : a.natAbs ≤ b.natAbs := by omega
theorem Row3.lv8 (h : Row3 r) {y k : Nat} (hy : y ≤ 301) (hk : k < r.length) : (lv r y k).natAbs < 2 ^ 8740 := Nat.lt_of_le_of_lt (abs_le (lv_bound h.ok y k hk).1 (lv_bound h.ok y k hk).2) (h.aP hy)
theorem Row3.lA8 (h : Row3 r) {y : Nat} (hy : y ≤ 301) : (lAm r y).natAbs < 2 ^ 8740 := Nat.lt_of_le_of_lt (abs_le (lAm_bound h.ok y).1 (lAm_bound h.ok y).2) (h.aP hy)
theorem Row3.sh8 (h : Row3 r) {k : Nat} (hk : k < r.length) : 0 ≤ (rC r : Int) * rs r k ∧ (rC r : Int) * rs r k ≤ dprod r := by
  have h1 := rs_bound h.ok hk
  have h2 := @rC_pos r
  refine ⟨Int.mul_nonneg (by omega) (by omega), ?_⟩
  rw [← rC_mul, Int.natCast_mul]
  exact Int.mul_le_mul_of_nonneg_left h1.2 (by omega)
def lfE (r : List Rat) (y : Nat) : PyData := .tuple [.int (lAm r y), .int ((dprod r : Int) ^ y)]
def lfP (r : List Rat) (n : Nat) : List PyData := (List.range (n + 1)).map (lfE r)
theorem lf_len {n : Nat} : (lfP r n).length = n + 1 := by simp [lfP]
theorem lf_succ {n : Nat} : lfP r n ++ [lfE r (n + 1)] = lfP r (n + 1) := by
  unfold lfP
  rw [List.range_succ (n := n + 1), List.map_append]
  rfl
theorem lf_at {n i : Nat} (h : i ≤ n) : atI (lfP r n) (i : Int) = some (lfE r i) := atI_map (by omega)
end
end Dn

set_option Elab.async false
set_option linter.all false
set_option maxRecDepth 100000
/-! wide rows: sizes; the mean wait and its spread -/
namespace Dn
open PySem PySem.Spec PyProof.Rows L2
theorem mulOk_big {i j : Int} (hi : i.natAbs < 2 ^ 1000000) (hj : j.natAbs < 2 ^ 1000000) : mulOk i j = true := by
  unfold mulOk
  refine decide_eq_true ?_
  have h1 := log_of hi (by decide)
  have h2 := log_of hj (by decide)
  omega
section
variable {r : List Rat}
structure RowW (r : List Rat) : Prop where
  ok : RowC (10 ^ 41) r
  prod : dprod r < 2 ^ 300
theorem rB_dprod : rB r ≤ dprod r := Nat.le_of_dvd (dprod_pos r) lcms_dprod
theorem powB_dprod (y : Nat) : rB r ^ y ≤ dprod r ^ y := Nat.pow_le_pow_left rB_dprod y
theorem pow_abs (b y : Nat) : ((b : Int) ^ y).natAbs = b ^ y := by
  have : ((b : Int) ^ y) = ((b ^ y : Nat) : Int) := by simp
  rw [this]; rfl
theorem RowW.powP (h : RowW r) {y : Nat} (hy : y ≤ 301) : dprod r ^ y < 2 ^ 90301 := by
  have h2 : dprod r ^ y ≤ (2 ^ 300) ^ y := Nat.pow_le_pow_left (Nat.le_of_lt h.prod) y
  rw [← Nat.pow_mul] at h2
  exact Nat.lt_of_le_of_lt h2 (Nat.pow_lt_pow_right (by decide) (by omega))
theorem RowW.aP (h : RowW r) {y : Nat} (hy : y ≤ 301) : ((dprod r : Int) ^ y).natAbs < 2 ^ 90301 := by
  rw [pow_abs]; exact h.powP hy
theorem RowW.aB (h : RowW r) {y : Nat} (hy : y ≤ 301) : ((rB r : Int) ^ y).natAbs < 2 ^ 90301 := by
  rw [pow_abs]; exact Nat.lt_of_le_of_lt (powB_dprod y) (h.powP hy)
theorem RowW.B4 (h : RowW r) : rB r < 2 ^ 4000 := lt_pow (Nat.lt_of_le_of_lt rB_dprod h.prod) (by decide)
theorem ten41 : (10 : Nat) ^ 41 < 2 ^ 140 := by decide
theorem RowW.den (h : RowW r) : ∀ q ∈ r, q.den < 2 ^ 140 := fun q hq => Nat.lt_of_le_of_lt (h.ok.den q hq) ten41
theorem RowW.num (h : RowW r) : ∀ q ∈ r, q.num.natAbs < 2 ^ 60000 := fun q hq => by
  have h0 := numQ_pos.mpr (h.ok.pos q hq)
  have h1 := num_le_den.mpr (h.ok.le1 q hq)
  have h2 := h.den q hq
  exact lt_pow (a := 140) (by omega) (by decide)
theorem RowW.rM_mul (h : RowW r) {y : Nat} (hy : y ≤ 301) {k j : Nat} (hk : k < r.length) (hj : j < r.length) : mulOk (rM r k j) (ser (rM r) r.length e0 y j) = true :=
  mulOk_big (lt_pow (Nat.lt_of_le_of_lt (rM_abs h.ok hk hj) h.B4) (by decide)) (lt_pow (Nat.lt_of_le_of_lt (rv_abs h.ok hj) (Nat.lt_of_le_of_lt (powB_dprod y) (h.powP hy))) (by decide))
theorem RowW.rB_mul (h : RowW r) {y : Nat} (hy : y ≤ 301) : mulOk (1 * (rB r : Int) ^ y) (rB r : Int) = true := by
  rw [Int.one_mul]
  exact mulOk_big (lt_pow (h.aB hy) (by decide)) (lt_pow (a := 4000) (by exact h.B4) (by decide))
theorem RowW.lv8 (h : RowW r) {y k : Nat} (hy : y ≤ 301) (hk : k < r.length) : (lv r y k).natAbs < 2 ^ 90301 := Nat.lt_of_le_of_lt (abs_le (lv_bound h.ok y k hk).1 (lv_bound h.ok y k hk).2) (h.aP hy)
theorem RowW.lA8 (h : RowW r) {y : Nat} (hy : y ≤ 301) : (lAm r y).natAbs < 2 ^ 90301 := Nat.lt_of_le_of_lt (abs_le (lAm_bound h.ok y).1 (lAm_bound h.ok y).2) (h.aP hy)
theorem RowW.sh8 (h : RowW r) {k : Nat} (hk : k < r.length) : 0 ≤ (rC r : Int) * rs r k ∧ (rC r : Int) * rs r k ≤ dprod r := by
  have h1 := rs_bound h.ok hk
  have h2 := @rC_pos r
  refine ⟨Int.mul_nonneg (by omega) (by omega), ?_⟩
  rw [← rC_mul, Int.natCast_mul]
  exact Int.mul_le_mul_of_nonneg_left h1.2 (by omega)
/-- numbers that may be divided by -/
def Few (n : Nat) (r : List Rat) (y : Nat) : Prop := dprod r ^ y < 2 ^ n
theorem Few.mono {n x y : Nat} (h : Few n r y) (hx : x ≤ y) : Few n r x := Nat.lt_of_le_of_lt (Nat.pow_le_pow_right (dprod_pos r) hx) h
theorem Few.up {n m y : Nat} (h : Few n r y) (hm : n ≤ m) : Few m r y := lt_pow h hm
theorem Few.aB {n y : Nat} (h : Few n r y) : ((rB r : Int) ^ y).natAbs < 2 ^ n := by
  rw [pow_abs]; exact Nat.lt_of_le_of_lt (powB_dprod y) h
theorem Few.bB {n y : Nat} (h : Few n r y) : rB r ^ y < 2 ^ n := Nat.lt_of_le_of_lt (powB_dprod y) h
end
/-! the mean wait, and its spread -/
def wM : List Rat → Rat
  | [] => 0
  | s :: l => (1 + s * wM l) * s⁻¹
def wQ : List Rat → Rat
  | [] => 0
  | s :: l => (1 + 2 * (wM (s :: l) - 1) + s * wQ l) * s⁻¹
theorem wM_cons {s : Rat} {l : List Rat} (hs : 0 < s) : wM (s :: l) = s⁻¹ + wM l := by
  have : s ≠ 0 := fun z => by rw [z] at hs; exact absurd hs (by decide)
  show (1 + s * wM l) * s⁻¹ = s⁻¹ + wM l
  generalize wM l = m
  grind
theorem wM_qs : ∀ {l : List Rat}, (∀ s ∈ l, 0 < s) → wM l = qs (l.map fun s => s⁻¹)
  | [], _ => rfl
  | s :: l, h => by
    rw [wM_cons (h s List.mem_cons_self), List.map_cons, qs_cons, wM_qs fun t ht => h t (List.mem_cons_of_mem _ ht)]
theorem wQ_cons {s : Rat} {l : List Rat} (hs : 0 < s) : wQ (s :: l) = (2 * wM (s :: l) - 1) * s⁻¹ + wQ l := by
  have : s ≠ 0 := fun z => by rw [z] at hs; exact absurd hs (by decide)
  rw [wQ]
  generalize wM (s :: l) = m
  grind
theorem wQ_qs : ∀ {l : List Rat}, (∀ s ∈ l, 0 < s) → wQ l - wM l * wM l = qs (l.map fun s => (s⁻¹ - 1) * s⁻¹)
  | [], _ => by decide +kernel
  | s :: l, h => by
    have hs := h s List.mem_cons_self
    have ih := wQ_qs (l := l) fun t ht => h t (List.mem_cons_of_mem _ ht)
    rw [List.map_cons, qs_cons, ← ih, wQ_cons hs, wM_cons hs]
    grind
/-- the product of the numbers above -/
def nprod (l : List Rat) : Nat := l.foldr (fun q b => q.num.natAbs * b) 1
theorem nprod_pos : ∀ {l : List Rat}, (∀ s ∈ l, 0 < s) → 0 < nprod l
  | [], _ => Nat.one_pos
  | s :: l, h => Nat.mul_pos (by have := numQ_pos.mpr (h s List.mem_cons_self); omega) (nprod_pos fun t ht => h t (List.mem_cons_of_mem _ ht))
theorem nprod_le : ∀ {l : List Rat}, (∀ s ∈ l, 0 < s) → (∀ s ∈ l, s ≤ 1) → nprod l ≤ dprod l
  | [], _, _ => Nat.le_refl _
  | s :: l, h, h1 => Nat.mul_le_mul (by
      have a := numQ_pos.mpr (h s List.mem_cons_self)
      have b := num_le_den.mpr (h1 s List.mem_cons_self)
      omega) (nprod_le (fun t ht => h t (List.mem_cons_of_mem _ ht)) fun t ht => h1 t (List.mem_cons_of_mem _ ht))
theorem inv_pt {s : Rat} (hs : 0 < s) : Pt s.num.natAbs s⁻¹ := by
  have hne : s ≠ 0 := fun z => by rw [z] at hs; exact absurd hs (by decide)
  have hn := numQ_pos.mpr hs
  refine ⟨s.den, ?_⟩
  have e := Rat.num_divInt_den s
  rw [Rat.divInt_eq_div] at e
  have d2 : ((s.den : Int) : Rat) = (s.den : Rat) := rfl
  rw [d2] at e
  have en : (s.num : Rat) = s * (s.den : Rat) := by
    have h2 : (s.num : Rat) / (s.den : Rat) * (s.den : Rat) = s * (s.den : Rat) := by rw [e]
    have := natQ_pos (@den_pos s)
    grind
  have e2 : ((s.num.natAbs : Nat) : Rat) = (s.num : Rat) := by
    have : ((s.num.natAbs : Nat) : Int) = s.num := by omega
    show (((s.num.natAbs : Nat) : Int) : Rat) = _
    rw [this]
  rw [e2, en, d2]
  grind
theorem inv_enc {s : Rat} (hs : 0 < s) : PyData.tuple [.int (s.den : Int), .int s.num] = encQ s⁻¹ := by
  have hn := numQ_pos.mpr hs
  have e : s⁻¹ = Rat.divInt (s.den : Int) s.num := by
    have e := Rat.num_divInt_den s
    rw [Rat.divInt_eq_div] at e ⊢
    have hne : s ≠ 0 := fun z => by rw [z] at hs; exact absurd hs (by decide)
    have h1 : (s.num : Rat) ≠ 0 := fun z => by
      have : s.num = 0 := Rat.intCast_inj.mp (by rw [z]; rfl)
      omega
    have h2 : (((s.den : Int)) : Rat) ≠ 0 := natQ_ne den_pos
    generalize (s.num : Rat) = a at *
    generalize (((s.den : Int)) : Rat) = b at *
    rw [← e]
    grind
  rw [e]
  unfold encQ
  rw [← low_num hn, ← low_den hn]
  have g : Nat.gcd (s.den : Int).natAbs s.num.natAbs = 1 := by
    rw [Nat.gcd_comm]
    exact s.reduced
  rw [g]
  simp [Int.fdiv_one]
theorem inv_ge {s : Rat} (hs : 0 < s) (h1 : s ≤ 1) : 1 ≤ s⁻¹ := by
  have hne : s ≠ 0 := fun z => by rw [z] at hs; exact absurd hs (by decide)
  refine Rat.not_lt.mp fun z => ?_
  have := Rat.mul_lt_mul_of_pos_right z hs
  grind
theorem inv_le {s : Rat} (hs : 0 < s) : s⁻¹ ≤ (s.den : Rat) := by
  have hne : s ≠ 0 := fun z => by rw [z] at hs; exact absurd hs (by decide)
  have hn := numQ_pos.mpr hs
  have e := Rat.num_divInt_den s
  rw [Rat.divInt_eq_div] at e
  have d2 : ((s.den : Int) : Rat) = (s.den : Rat) := rfl
  rw [d2] at e
  have en : (s.num : Rat) = s * (s.den : Rat) := by
    have h2 : (s.num : Rat) / (s.den : Rat) * (s.den : Rat) = s * (s.den : Rat) := by rw [e]
    have := natQ_pos (@den_pos s)
    grind
  have h1 : ((1 : Int) : Rat) ≤ (s.num : Rat) := Rat.intCast_le_intCast.mpr (by omega)
  have h1' : (1 : Rat) ≤ s * (s.den : Rat) := by rw [← en]; exact h1
  refine Rat.not_lt.mp fun z => ?_
  have := Rat.mul_lt_mul_of_pos_right z hs
  grind
end Dn

set_option Elab.async false
set_option linter.all false
set_option maxRecDepth 100000
/-! the sequence of the shares does not count; labels in order -/
namespace Dn
open PySem PySem.Spec PyProof.Rows L2
/-- what leaves a stage, of what comes in -/
def flow (s : Rat) (f : Nat → Rat) : Nat → Rat
  | 0 => 0
  | y + 1 => (1 - s) * flow s f y + s * f y
theorem flow_two (s t : Rat) (f : Nat → Rat) (y : Nat) : flow s (flow t f) (y + 2) = (1 - s) * flow s (flow t f) (y + 1) + (1 - t) * (flow s (flow t f) (y + 1) - (1 - s) * flow s (flow t f) y) + s * t * f y := by
  have e1 : flow s (flow t f) (y + 2) = (1 - s) * flow s (flow t f) (y + 1) + s * flow t f (y + 1) := rfl
  have e2 : flow t f (y + 1) = (1 - t) * flow t f y + t * f y := rfl
  have e3 : flow s (flow t f) (y + 1) = (1 - s) * flow s (flow t f) y + s * flow t f y := rfl
  rw [e1, e2, e3]
  generalize flow s (flow t f) y = a
  generalize flow t f y = b
  generalize f y = c
  grind
theorem flow_comm (s t : Rat) (f : Nat → Rat) : ∀ y, flow s (flow t f) y = flow t (flow s f) y ∧ flow s (flow t f) (y + 1) = flow t (flow s f) (y + 1)
  | 0 => by
    refine ⟨rfl, ?_⟩
    show (1 - s) * 0 + s * 0 = (1 - t) * 0 + t * 0
    grind
  | y + 1 => by
    obtain ⟨h1, h2⟩ := flow_comm s t f y
    refine ⟨h2, ?_⟩
    rw [flow_two, flow_two, h1, h2]
    generalize flow t (flow s f) y = a
    generalize flow t (flow s f) (y + 1) = b
    grind
theorem flow_swap (s t : Rat) (f : Nat → Rat) : flow s (flow t f) = flow t (flow s f) := funext fun y => (flow_comm s t f y).1
/-- through all stages -/
def through (l : List Rat) (f : Nat → Rat) : Nat → Rat := l.foldl (fun g s => flow s g) f
theorem through_perm {l m : List Rat} (h : l.Perm m) : ∀ f, through l f = through m f := by
  induction h with
  | nil => intro f; rfl
  | cons x h ih => intro f; exact ih (flow x f)
  | swap x y l =>
    intro f
    show through l (flow x (flow y f)) = through l (flow y (flow x f))
    rw [flow_swap]
  | trans h1 h2 ih1 ih2 => intro f; rw [ih1, ih2]
theorem through_snoc (l : List Rat) (s : Rat) (f : Nat → Rat) : through (l ++ [s]) f = flow s (through l f) := by
  unfold through
  rw [List.foldl_append]; rfl
/-- one part at the age 0 -/
def dlt (y : Nat) : Rat := if y = 0 then 1 else 0
section
variable {r : List Rat}
theorem rX_succ {c : Nat} (h : RowC c r) {y k : Nat} {s : Rat} (hk : r[k]? = some s) : rX r (y + 1) k = (1 - s) * rX r y k + if 0 < k then (r.getD (k - 1) 0) * rX r y (k - 1) else 0 := by
  have hk' : k < r.length := (List.getElem?_eq_some_iff.mp hk).1
  refine q_cancel (powB_pos (r := r) (y + 1)) ?_
  rw [rX_q, rv_succ hk', Rat.intCast_add, Rat.intCast_mul, Rat.intCast_sub, rs_q hk]
  have e1 : (((rB r : Int)) : Rat) = (rB r : Rat) := rfl
  have e2 : ((rB r ^ (y + 1) : Nat) : Rat) = ((rB r ^ y : Nat) : Rat) * (rB r : Rat) := by rw [Nat.pow_succ, Rat.natCast_mul]
  rw [e1, e2, ← rX_q]
  generalize hP : ((rB r ^ y : Nat) : Rat) = P
  by_cases h0 : 0 < k
  · have hk2 : r[k - 1]? = some (r.getD (k - 1) 0) := by
      rw [List.getD_eq_getElem?_getD, List.getElem?_eq_getElem (show k - 1 < r.length by omega)]; rfl
    rw [if_pos h0, if_pos h0, Rat.intCast_mul, rs_q hk2, ← rX_q, hP]
    generalize rX r y k = a
    generalize rX r y (k - 1) = b
    generalize r.getD (k - 1) 0 = t
    generalize (rB r : Rat) = B
    grind
  · rw [if_neg h0, if_neg h0]
    have e3 : ((0 : Int) : Rat) = 0 := rfl
    rw [e3]
    generalize rX r y k = a
    generalize (rB r : Rat) = B
    grind
theorem rX_0 (k : Nat) : rX r 0 k = if k = 0 then 1 else 0 := by
  unfold rX
  have e : rv r 0 k = if k = 0 then 1 else 0 := rfl
  rw [e, Int.pow_zero]
  split <;> rfl
/-- what leaves stage k -/
def outK (r : List Rat) (k : Nat) : Nat → Rat
  | 0 => 0
  | y + 1 => r.getD k 0 * rX r y k
theorem outK_flow {c : Nat} (h : RowC c r) {k : Nat} (hk : k < r.length) : outK r k = flow (r.getD k 0) (if k = 0 then dlt else outK r (k - 1)) := by
  have e : r[k]? = some (r.getD k 0) := by
    rw [List.getD_eq_getElem?_getD, List.getElem?_eq_getElem hk]; rfl
  generalize hs : r.getD k 0 = s at *
  funext y
  induction y with
  | zero => rfl
  | succ y ih =>
    show r.getD k 0 * rX r y k = (1 - s) * flow s _ y + s * _
    rw [← ih, hs]
    cases y with
    | zero =>
      rw [rX_0]
      show _ = (1 - s) * 0 + s * _
      by_cases h0 : k = 0
      · rw [if_pos h0, if_pos h0]
        show s * 1 = (1 - s) * 0 + s * (if (0 : Nat) = 0 then 1 else 0)
        rw [if_pos rfl]; grind
      · rw [if_neg h0, if_neg h0]
        show s * 0 = (1 - s) * 0 + s * 0
        grind
    | succ y =>
      rw [rX_succ h e]
      show _ = (1 - s) * (r.getD k 0 * rX r y k) + s * _
      rw [hs]
      by_cases h0 : k = 0
      · rw [if_neg (by omega), if_pos h0]
        show s * _ = (1 - s) * (s * rX r y k) + s * (if y + 1 = 0 then 1 else 0)
        rw [if_neg (by omega)]
        generalize rX r y k = a
        grind
      · rw [if_pos (by omega), if_neg h0]
        show s * _ = (1 - s) * (s * rX r y k) + s * (r.getD (k - 1) 0 * rX r y (k - 1))
        generalize rX r y k = a
        generalize r.getD (k - 1) 0 * rX r y (k - 1) = b
        grind
theorem outK_through {c : Nat} (h : RowC c r) : ∀ k, k < r.length → outK r k = through (r.take (k + 1)) dlt
  | 0, hk => by
    rw [outK_flow h hk, if_pos rfl]
    have e : r.take 1 = [r.getD 0 0] := by
      cases r with
      | nil => simp at hk
      | cons a l => rfl
    rw [e]; rfl
  | k + 1, hk => by
    have e : r.take (k + 1 + 1) = r.take (k + 1) ++ [r.getD (k + 1) 0] := by
      rw [List.take_add_one, List.getD_eq_getElem?_getD, List.getElem?_eq_getElem hk]; rfl
    rw [e, through_snoc, outK_flow h hk, if_neg (by omega), Nat.add_sub_cancel, outK_through h k (by omega)]
theorem rT_through {c : Nat} (h : RowC c r) (a : Nat) : rT r a = through r dlt a := by
  have hm := h.len
  have e := outK_through h (r.length - 1) (by omega)
  rw [show r.length - 1 + 1 = r.length by omega, List.take_length] at e
  rw [← e]
  cases a with
  | zero => rfl
  | succ a =>
    show rX r a (r.length - 1) * _ = _ * rX r a (r.length - 1)
    exact Rat.mul_comm _ _
theorem rS_perm {c d : Nat} {m : List Rat} (h : RowC c r) (h2 : RowC d m) (hp : r.Perm m) (y : Nat) : rS r y = rS m y := by
  have e1 := rT_sum h y
  have e2 := rT_sum h2 y
  have e3 : qsN (rT r) (y + 1) = qsN (rT m) (y + 1) := qsN_congr fun i _ => by
    rw [rT_through h, rT_through h2, through_perm hp]
  rw [e1, e2] at e3
  grind
end
end Dn
namespace Dn
open PySem PySem.Spec PyProof.Rows L2
section
variable {r : List Rat}
theorem hit_mono {c : Nat} (h : RowC c r) {a y z : Nat} {q : Rat} (h0 : 0 ≤ q) (h1 : q ≤ 1) (hh : hit r a q y) (hz : y ≤ z) : hit r a q z := by
  have hn := hit_ge h hh
  have hl := rS_lt h (show r.length ≤ z by omega)
  have hm := rS_mono h hz
  refine ⟨fun e => by rw [e] at hl; exact absurd hl (by decide), ?_⟩
  have h2 := hh.2
  by_cases c1 : z < a
  · rw [if_pos c1]
    rw [if_pos (by omega)] at h2
    exact h2
  · rw [if_neg c1]
    by_cases c2 : y < a
    · rw [if_pos c2] at h2
      have : q = 0 := Rat.le_antisymm h2 h0
      rw [this, Rat.zero_mul]
      have := rS_mono h (show a - 1 ≤ z by omega)
      grind
    · rw [if_neg c2] at h2
      have h3 := Rat.mul_le_mul_of_nonneg_left (show 1 - rS r y ≤ 1 - rS r z by grind) (show 0 ≤ 1 - q by grind)
      grind
theorem hit_lower {c : Nat} (h : RowC c r) {a y : Nat} {q p : Rat} (hp : p ≤ q) (hh : hit r a q y) : hit r a p y := by
  refine ⟨hh.1, ?_⟩
  have h2 := hh.2
  have hs := rS_le1 h y
  by_cases c1 : y < a
  · rw [if_pos c1] at h2 ⊢
    exact Rat.le_trans hp h2
  · rw [if_neg c1] at h2 ⊢
    exact Rat.le_trans (Rat.mul_le_mul_of_nonneg_right hp (by grind)) h2
theorem hit_younger {c : Nat} (h : RowC c r) {a b y : Nat} {q : Rat} (hab : a ≤ b) (hh : hit r b q y) : hit r a q y := by
  refine ⟨hh.1, ?_⟩
  have h2 := hh.2
  have hs := rS_le1 h y
  by_cases c1 : y < a
  · rw [if_pos c1]
    rw [if_pos (by omega)] at h2
    exact h2
  · rw [if_neg c1]
    by_cases c2 : y < b
    · rw [if_pos c2] at h2
      have h3 := Rat.mul_le_mul_of_nonneg_right h2 (show 0 ≤ 1 - rS r y by grind)
      rw [Rat.zero_mul] at h3
      have := rS_mono h (show a - 1 ≤ y by omega)
      grind
    · rw [if_neg c2] at h2
      have := rS_mono h (show a - 1 ≤ b - 1 by omega)
      grind
/-- where a label stands -/
def Place (r : List Rat) (a : Nat) (q : Rat) (o : Option (Option Nat)) : Prop := match o with
  | some (some t) => t ≤ 300 ∧ hit r a q t ∧ ∀ i, i < t → ¬ hit r a q i
  | some none => (∀ i, i < 301 → ¬ hit r a q i) ∧ ¬ q < rS r (a - 1)
  | none => (∀ i, i < 301 → ¬ hit r a q i) ∧ q < rS r (a - 1)
def plN (o : Option (Option Nat)) : Nat := match o with
  | some (some t) => t
  | some none => 302
  | none => 301
theorem place_lower {c : Nat} (h : RowC c r) {a : Nat} {q p : Rat} {o o' : Option (Option Nat)} (hp : p ≤ q) (h1 : Place r a q o) (h2 : Place r a p o') : plN o' ≤ plN o := by
  match o, o', h1, h2 with
  | some (some t), some (some u), ⟨a1, a2, a3⟩, ⟨b1, b2, b3⟩ => exact Nat.le_of_not_lt fun z => b3 t z (hit_lower h hp a2)
  | some (some t), some none, ⟨a1, a2, a3⟩, ⟨b1, b2⟩ => exact absurd (hit_lower h hp a2) (b1 t (by omega))
  | some (some t), none, ⟨a1, a2, a3⟩, ⟨b1, b2⟩ => exact absurd (hit_lower h hp a2) (b1 t (by omega))
  | some none, some (some u), _, ⟨b1, _, _⟩ => show u ≤ 302; omega
  | some none, some none, _, _ => exact Nat.le_refl _
  | some none, none, _, _ => show 301 ≤ 302; omega
  | none, some (some u), _, ⟨b1, _, _⟩ => show u ≤ 301; omega
  | none, some none, ⟨_, a2⟩, ⟨_, b2⟩ => exact absurd (show p < rS r (a - 1) by grind) b2
  | none, none, _, _ => exact Nat.le_refl _
theorem place_older {c : Nat} (h : RowC c r) {a b : Nat} {q : Rat} {o o' : Option (Option Nat)} (hab : a ≤ b) (h1 : Place r a q o) (h2 : Place r b q o') : plN o ≤ plN o' := by
  have hm := rS_mono h (show a - 1 ≤ b - 1 by omega)
  match o, o', h1, h2 with
  | some (some t), some (some u), ⟨a1, a2, a3⟩, ⟨b1, b2, b3⟩ => exact Nat.le_of_not_lt fun z => a3 u z (hit_younger h hab b2)
  | some (some t), some none, ⟨a1, _, _⟩, _ => show t ≤ 302; omega
  | some (some t), none, ⟨a1, _, _⟩, _ => show t ≤ 301; omega
  | some none, some (some u), ⟨a1, _⟩, ⟨b1, b2, _⟩ => exact absurd (hit_younger h hab b2) (a1 u (by omega))
  | some none, some none, _, _ => exact Nat.le_refl _
  | some none, none, ⟨_, a2⟩, ⟨_, b2⟩ => exact absurd (show q < rS r (a - 1) by grind) a2
  | none, some (some u), ⟨a1, _⟩, ⟨b1, b2, _⟩ => exact absurd (hit_younger h hab b2) (a1 u (by omega))
  | none, some none, _, _ => show 301 ≤ 302; omega
  | none, none, _, _ => exact Nat.le_refl _
theorem place_same {m : List Rat} (hs : ∀ y, rS r y = rS m y) {a : Nat} {q : Rat} {o o' : Option (Option Nat)} (h1 : Place r a q o) (h2 : Place m a q o') : o = o' := by
  have hh : ∀ y, hit r a q y ↔ hit m a q y := fun y => by unfold hit; rw [hs y, hs (a - 1)]
  match o, o', h1, h2 with
  | some (some t), some (some u), ⟨a1, a2, a3⟩, ⟨b1, b2, b3⟩ =>
    have e1 : ¬ t < u := fun z => b3 t z ((hh t).mp a2)
    have e2 : ¬ u < t := fun z => a3 u z ((hh u).mpr b2)
    rw [show t = u by omega]
  | some (some t), some none, ⟨a1, a2, a3⟩, ⟨b1, b2⟩ => exact absurd ((hh t).mp a2) (b1 t (by omega))
  | some (some t), none, ⟨a1, a2, a3⟩, ⟨b1, b2⟩ => exact absurd ((hh t).mp a2) (b1 t (by omega))
  | some none, some (some u), ⟨a1, _⟩, ⟨b1, b2, _⟩ => exact absurd ((hh u).mpr b2) (a1 u (by omega))
  | some none, some none, _, _ => rfl
  | some none, none, ⟨_, a2⟩, ⟨_, b2⟩ => rw [hs] at a2; exact absurd b2 a2
  | none, some (some u), ⟨a1, _⟩, ⟨b1, b2, _⟩ => exact absurd ((hh u).mpr b2) (a1 u (by omega))
  | none, some none, ⟨_, a2⟩, ⟨_, b2⟩ => rw [hs] at a2; exact absurd a2 b2
  | none, none, _, _ => rfl
/-- a year holds the label just from there on -/
theorem place_iff {c : Nat} (h : RowC c r) {a : Nat} {q : Rat} (h0 : 0 ≤ q) (h1 : q ≤ 1) {o : Option (Option Nat)} (hp : Place r a q o) {y : Nat} (hy : y ≤ 300) : hit r a q y ↔ plN o ≤ y := by
  match o, hp with
  | some (some t), ⟨a1, a2, a3⟩ => exact ⟨fun z => Nat.le_of_not_lt fun w => a3 y w z, fun z => hit_mono h h0 h1 a2 z⟩
  | some none, ⟨a1, _⟩ => exact ⟨fun z => absurd z (a1 y (by omega)), fun z => absurd z (by show ¬ 302 ≤ y; omega)⟩
  | none, ⟨a1, _⟩ => exact ⟨fun z => absurd z (a1 y (by omega)), fun z => absurd z (by show ¬ 301 ≤ y; omega)⟩
end
end Dn

set_option Elab.async false
set_option linter.all false
set_option maxRecDepth 100000
set_option maxHeartbeats 4000000
namespace K75
open PySem PySem.Spec PyProof.Rows L2 Dn
def topS (i : Nat) : Stmt := PySem.Challenge.pw_caskyears_k75_whole_labels_hold_for_ever.main.body.getD i (.Pass ⟨0, 0, 0, 0⟩)
/-- what the top has written -/
structure Wd (P : Program) (K : PySem.W.Frag) (mg : Str → Option Value) where
  ca : Str → Addr
  xD : Addr
  xI : Addr
  xt_TooMany : PySem.CaskX.CaskTxt P K mg (ca "TooMany") xD xI
  xg_TooMany : mg "TooMany" = some (.ref (ca "TooMany"))
  xf_TooMany : XfC K (ca "TooMany")
  xn_TooMany : PySem.W.findIn K (.ref (ca "TooMany")) "value" = some none
  xm_TooMany : PySem.W.exmOne K (.ref (ca "TooMany")) (.ref (ca "TooMany")) = some true
  b_int : mg "int" = none
  b_abs : mg "abs" = none
  b_range : mg "range" = none
  b_len : mg "len" = none
  b_tuple : mg "tuple" = none
  b_isinstance : mg "isinstance" = none
  b_bool : mg "bool" = none
  b_all : mg "all" = none
  b_sum : mg "sum" = none
  b_zip : mg "zip" = none
  b_list : mg "list" = none
  b_min : mg "min" = none
  b_max : mg "max" = none
  b_str : mg "str" = none
  b_gcd : mg "gcd" = some (.builtin "math.gcd")
  b_lcm : mg "lcm" = some (.builtin "math.lcm")
  a_law_pull : Addr
  fd_law_pull : FuncData
  F_law_pull : L2.Fun K "_law_pull" "_law_pull" (topS 38) a_law_pull fd_law_pull
  m_law_pull : mg "_law_pull" = some (.ref a_law_pull)
  n_law_pull : Binds K fd_law_pull (["_law_keg_here", "_law_many"] : List Str) []
  a_law_low : Addr
  fd_law_low : FuncData
  F_law_low : L2.Fun K "_law_low" "_law_low" (topS 39) a_law_low fd_law_low
  m_law_low : mg "_law_low" = some (.ref a_law_low)
  n_law_low : Binds K fd_law_low (["_law_above", "_law_below"] : List Str) []
  a_law_row : Addr
  fd_law_row : FuncData
  F_law_row : L2.Fun K "_law_row" "_law_row" (topS 41) a_law_row fd_law_row
  m_law_row : mg "_law_row" = some (.ref a_law_row)
  n_law_row : Binds K fd_law_row (["_law_keg_here"] : List Str) []
  a_is_integer : Addr
  fd_is_integer : FuncData
  F_is_integer : L2.Fun K "is_integer" "is_integer" (topS 9) a_is_integer fd_is_integer
  m_is_integer : mg "is_integer" = some (.ref a_is_integer)
  n_is_integer : Binds K fd_is_integer (["value"] : List Str) []
  a_is_fraction : Addr
  fd_is_fraction : FuncData
  F_is_fraction : L2.Fun K "is_fraction" "is_fraction" (topS 11) a_is_fraction fd_is_fraction
  m_is_fraction : mg "is_fraction" = some (.ref a_is_fraction)
  n_is_fraction : Binds K fd_is_fraction (["value"] : List Str) []
  a_is_share : Addr
  fd_is_share : FuncData
  F_is_share : L2.Fun K "is_share" "is_share" (topS 12) a_is_share fd_is_share
  m_is_share : mg "is_share" = some (.ref a_is_share)
  n_is_share : Binds K fd_is_share (["value"] : List Str) []
  a_is_row : Addr
  fd_is_row : FuncData
  F_is_row : L2.Fun K "is_row" "is_row" (topS 27) a_is_row fd_is_row
  m_is_row : mg "is_row" = some (.ref a_is_row)
  n_is_row : Binds K fd_is_row (["value"] : List Str) []
  a_need_row : Addr
  fd_need_row : FuncData
  F_need_row : L2.Fun K "need_row" "need_row" (topS 28) a_need_row fd_need_row
  m_need_row : mg "need_row" = some (.ref a_need_row)
  n_need_row : Binds K fd_need_row (["row"] : List Str) []
  a_need_from_zero : Addr
  fd_need_from_zero : FuncData
  F_need_from_zero : L2.Fun K "need_from_zero" "need_from_zero" (topS 21) a_need_from_zero fd_need_from_zero
  m_need_from_zero : mg "need_from_zero" = some (.ref a_need_from_zero)
  n_need_from_zero : Binds K fd_need_from_zero (["number"] : List Str) []
  a_common_below : Addr
  fd_common_below : FuncData
  F_common_below : L2.Fun K "common_below" "common_below" (topS 22) a_common_below fd_common_below
  m_common_below : mg "common_below" = some (.ref a_common_below)
  n_common_below : Binds K fd_common_below (["parts"] : List Str) []
  a_over_below : Addr
  fd_over_below : FuncData
  F_over_below : L2.Fun K "over_below" "over_below" (topS 23) a_over_below fd_over_below
  m_over_below : mg "over_below" = some (.ref a_over_below)
  n_over_below : Binds K fd_over_below (["parts", "below"] : List Str) []
  a_row_table : Addr
  fd_row_table : FuncData
  F_row_table : L2.Fun K "row_table" "row_table" (topS 29) a_row_table fd_row_table
  m_row_table : mg "row_table" = some (.ref a_row_table)
  n_row_table : Binds K fd_row_table (["row"] : List Str) []
  a_stepped : Addr
  fd_stepped : FuncData
  F_stepped : L2.Fun K "stepped" "stepped" (topS 24) a_stepped fd_stepped
  m_stepped : mg "stepped" = some (.ref a_stepped)
  n_stepped : Binds K fd_stepped (["rows", "numbers"] : List Str) []
  a_over_years : Addr
  fd_over_years : FuncData
  F_over_years : L2.Fun K "over_years" "over_years" (topS 25) a_over_years fd_over_years
  m_over_years : mg "over_years" = some (.ref a_over_years)
  n_over_years : Binds K fd_over_years (["rows", "below", "start", "start_below", "years"] : List Str) []
  a_row_series : Addr
  fd_row_series : FuncData
  F_row_series : L2.Fun K "row_series" "row_series" (topS 30) a_row_series fd_row_series
  m_row_series : mg "row_series" = some (.ref a_row_series)
  n_row_series : Binds K fd_row_series (["row", "years"] : List Str) []
  a_fraction : Addr
  fd_fraction : FuncData
  F_fraction : L2.Fun K "fraction" "fraction" (topS 15) a_fraction fd_fraction
  m_fraction : mg "fraction" = some (.ref a_fraction)
  n_fraction : Binds K fd_fraction (["above", "below"] : List Str) []
  a_tap_total : Addr
  fd_tap_total : FuncData
  F_tap_total : L2.Fun K "tap_total" "tap_total" (topS 31) a_tap_total fd_tap_total
  m_tap_total : mg "tap_total" = some (.ref a_tap_total)
  n_tap_total : Binds K fd_tap_total (["row", "year"] : List Str) []
  a_need_fraction : Addr
  fd_need_fraction : FuncData
  F_need_fraction : L2.Fun K "need_fraction" "need_fraction" (topS 13) a_need_fraction fd_need_fraction
  m_need_fraction : mg "need_fraction" = some (.ref a_need_fraction)
  n_need_fraction : Binds K fd_need_fraction (["value"] : List Str) []
  a_less : Addr
  fd_less : FuncData
  F_less : L2.Fun K "less" "less" (topS 16) a_less fd_less
  m_less : mg "less" = some (.ref a_less)
  n_less : Binds K fd_less (["one", "other"] : List Str) []
  a_over : Addr
  fd_over : FuncData
  F_over : L2.Fun K "over" "over" (topS 18) a_over fd_over
  m_over : mg "over" = some (.ref a_over)
  n_over : Binds K fd_over (["one", "other"] : List Str) []
  a_older_in : Addr
  fd_older_in : FuncData
  F_older_in : L2.Fun K "older_in" "older_in" (topS 34) a_older_in fd_older_in
  m_older_in : mg "older_in" = some (.ref a_older_in)
  n_older_in : Binds K fd_older_in (["row", "age", "year"] : List Str) []
  a_law_label : Addr
  fd_law_label : FuncData
  F_law_label : L2.Fun K "_law_label" "_law_label" (topS 42) a_law_label fd_law_label
  m_law_label : mg "_law_label" = some (.ref a_law_label)
  n_law_label : Binds K fd_law_label (["_law_keg_here", "_law_row_here", "_law_age"] : List Str) []
  a_need_share : Addr
  fd_need_share : FuncData
  F_need_share : L2.Fun K "need_share" "need_share" (topS 14) a_need_share fd_need_share
  m_need_share : mg "need_share" = some (.ref a_need_share)
  n_need_share : Binds K fd_need_share (["value"] : List Str) []
  a_compared : Addr
  fd_compared : FuncData
  F_compared : L2.Fun K "compared" "compared" (topS 19) a_compared fd_compared
  m_compared : mg "compared" = some (.ref a_compared)
  n_compared : Binds K fd_compared (["one", "other"] : List Str) []
  a_times : Addr
  fd_times : FuncData
  F_times : L2.Fun K "times" "times" (topS 17) a_times fd_times
  m_times : mg "times" = some (.ref a_times)
  n_times : Binds K fd_times (["one", "other"] : List Str) []
  a_label_from : Addr
  fd_label_from : FuncData
  F_label_from : L2.Fun K "label_from" "label_from" (topS 35) a_label_from fd_label_from
  m_label_from : mg "label_from" = some (.ref a_label_from)
  n_label_from : Binds K fd_label_from (["row", "age", "share"] : List Str) []
  a_law_told : Addr
  fd_law_told : FuncData
  F_law_told : L2.Fun K "_law_told" "_law_told" (topS 44) a_law_told fd_law_told
  m_law_told : mg "_law_told" = some (.ref a_law_told)
  n_law_told : Binds K fd_law_told (["_law_row_here", "_law_age", "_law_label_here"] : List Str) []
  a_law_same : Addr
  fd_law_same : FuncData
  F_law_same : L2.Fun K "_law_same" "_law_same" (topS 40) a_law_same fd_law_same
  m_law_same : mg "_law_same" = some (.ref a_law_same)
  n_law_same : Binds K fd_law_same (["_law_told_here", "_law_due"] : List Str) []
  a_law_place : Addr
  fd_law_place : FuncData
  F_law_place : L2.Fun K "_law_place" "_law_place" (topS 45) a_law_place fd_law_place
  m_law_place : mg "_law_place" = some (.ref a_law_place)
  n_law_place : Binds K fd_law_place (["_law_told_here"] : List Str) []
  a_law_less : Addr
  fd_law_less : FuncData
  F_law_less : L2.Fun K "_law_less" "_law_less" (topS 43) a_law_less fd_law_less
  m_law_less : mg "_law_less" = some (.ref a_law_less)
  n_law_less : Binds K fd_law_less (["_law_one", "_law_other"] : List Str) []
  a_older : Addr
  fd_older : FuncData
  F_older : L2.Fun K "older" "older" (topS 33) a_older fd_older
  m_older : mg "older" = some (.ref a_older)
  n_older : Binds K fd_older (["row", "age"] : List Str) []
  a_law_years_right : Addr
  fd_law_years_right : FuncData
  F_law_years_right : L2.Fun K "_law_years_right" "_law_years_right" (topS 46) a_law_years_right fd_law_years_right
  m_law_years_right : mg "_law_years_right" = some (.ref a_law_years_right)
  n_law_years_right : Binds K fd_law_years_right (["_law_row_here", "_law_age", "_law_label_here", "_law_told_here", "_law_years"] : List Str) []
  a_law_right : Addr
  fd_law_right : FuncData
  F_law_right : L2.Fun K "_law_right" "_law_right" (topS 47) a_law_right fd_law_right
  m_law_right : mg "_law_right" = some (.ref a_law_right)
  n_law_right : Binds K fd_law_right (["_law_keg_here"] : List Str) []
  a_law_keg : Addr
  fd_law_keg : FuncData
  F_law_keg : L2.Fun K "_law_keg" "_law_keg" (topS 37) a_law_keg fd_law_keg
  m_law_keg : mg "_law_keg" = some (.ref a_law_keg)
  n_law_keg : Binds K fd_law_keg (["_law_cell", "_law_k"] : List Str) []
  a_law : Addr
  fd_law : FuncData
  F_law : L2.Fun K "law" "law" (topS 48) a_law fd_law
  m_law : mg "law" = some (.ref a_law)
  n_law : Binds K fd_law (["_law_script"] : List Str) []
end K75

set_option Elab.async false
set_option linter.all false
set_option maxRecDepth 100000
set_option maxHeartbeats 4000000
namespace K75
open PySem PySem.Spec PyProof.Rows L2 Dn
section
variable {P : Program} {w : World} {K : PySem.W.Frag} {mg : Str → Option Value} {base : Heap}
/-! _law_pull -/
abbrev s_law_pull : Stmt := topS 38
theorem sc_law_pull : FnScope (["_law_keg_here", "_law_many", "_law_pulled", "_law_stirred"] : List Str) (["_law_keg_here", "_law_many"] : List Str) (defScope s_law_pull) := ⟨rfl, rfl, rfl, by decide +kernel, rfl, by decide +kernel, by decide +kernel⟩
noncomputable def dn_law_pull : Fs :=
  sSeq (sIf (tB' (e2 gGt (eIxV 0 (eC (.int 0))) (eC (.int 0)))) (sSeq (sSet (e2 gMod (eA gInt (lCons (eIxV 0 (eC (.int 0))) (lNil))) (eV 1)) (g1 2))
  (sSeq (sPut 0 (eC (.int 0)) (e2 gFdiv (eIxV 0 (eC (.int 0))) (eV 1)))
  (sRt (eV 2)))) (sNx))
  (sSeq (sPut 0 (eC (.int 2)) (e2 gAdd (eIxV 0 (eC (.int 2))) (eC (.int 1))))
  (sSeq (sSet (e2 gMod (eA gInt (lCons (e2 gPow (e2 gAdd (eIxV 0 (eC (.int 1))) (e2 gMulI (eIxV 0 (eC (.int 2))) (eC (.int 179424673)))) (eC (.int 3))) (lNil))) (e2 gAdd (e2 gPow (eC (.int 10)) (eC (.int 28))) (eC (.int 331)))) (g1 3))
  (sRt (e2 gMod (e2 gFdiv (e2 gMod (eA gInt (lCons (e2 gAdd (e2 gMulI (eV 3) (eV 3)) (e2 gFdiv (eV 3) (eC (.int 7717)))) (lNil))) (e2 gAdd (e2 gPow (eC (.int 10)) (eC (.int 25))) (eC (.int 13)))) (eC (.int 8887))) (eV 1)))))
noncomputable def Ph_law_pull := runM dn_law_pull 4 2
theorem Ph_law_pull_len (ks ds : List PyData) (z : PyData × List PyData) (h : Ph_law_pull ks ds = some z) : ds.length + 1 = 2 := runM_len ks ds z h
theorem ok_law_pull (T : Wd P K mg) : FnOk P w K mg base CX0 1 T.a_law_pull T.fd_law_pull (["_law_keg_here", "_law_many"] : List Str) (spM K 2 Ph_law_pull) := by
  have key := okM (ca := T.ca) (P := P) (w := w) (mg := mg) (base := base) (k := 0) (n := 2) T.F_law_pull sc_law_pull rfl fun cdv A outer s H E hr => (have nd := sc_law_pull.nd; dss_cons (ds_if (dt_cmp op_gt o2_B (de_ixV 0 (de_int)) (de_int) (nomark _)) (dss_cons (ds_set 2 nd (de_op op_modN o2_mod (de_T call_int1 oA_int (by rfl) T.b_int (by decide +kernel) (da_cons (de_ixV 0 (de_int)) (da_nil))) (de_v 1)))
    (dss_cons (ds_put 0 (de_op op_fdivG o2_fdiv (de_ixV 0 (de_int)) (de_v 1)) (de_int))
    (dss_one (ds_ret (de_v 2))))) (dss_nil))
    (dss_cons (ds_put 0 (de_op op_addG o2_add (de_ixV 0 (de_int)) (de_int)) (de_int))
    (dss_cons (ds_set 3 nd (de_op op_modN o2_mod (de_T call_int1 oA_int (by rfl) T.b_int (by decide +kernel) (da_cons (de_op op_powG o2_pow (de_op op_addG o2_add (de_ixV 0 (de_int)) (de_op op_mulG o2_mulI (de_ixV 0 (de_int)) (de_int))) (de_int)) (da_nil))) (de_op op_addG o2_add (de_op op_powG o2_pow (de_int) (de_int)) (de_int))))
    (dss_one (ds_ret (de_op op_modN o2_mod (de_op op_fdivG o2_fdiv (de_op op_modN o2_mod (de_T call_int1 oA_int (by rfl) T.b_int (by decide +kernel) (da_cons (de_op op_addG o2_add (de_op op_mulG o2_mulI (de_v 3) (de_v 3)) (de_op op_fdivG o2_fdiv (de_v 3) (de_int))) (da_nil))) (de_op op_addG o2_add (de_op op_powG o2_pow (de_int) (de_int)) (de_int))) (de_int)) (de_v 1)))))))
  exact key
/-! _law_low -/
abbrev s_law_low : Stmt := topS 39
theorem sc_law_low : FnScope (["_law_above", "_law_below", "_law_one", "_law_other"] : List Str) (["_law_above", "_law_below"] : List Str) (defScope s_law_low) := ⟨rfl, rfl, rfl, by decide +kernel, rfl, by decide +kernel, by decide +kernel⟩
noncomputable def wt_law_low_1 : Ft :=
  tB' (e2 gGt (eV 3) (eC (.int 0)))
noncomputable def wb_law_low_1 : Fs :=
  sPar 2 3 (lCons (eV 3) (lCons (e2 gMod (eA gInt (lCons (eV 2) (lNil))) (eV 3)) (lNil)))
noncomputable def dn_law_low : Fs :=
  sSeq (sPar 2 3 (lCons (eA gAbs (lCons (eV 0) (lNil))) (lCons (eV 1) (lNil))))
  (sSeq (sWh (wt_law_low_1) (wb_law_low_1))
  (sRt (eTup (lCons (e2 gFdiv (eV 0) (eV 2)) (lCons (e2 gFdiv (eV 1) (eV 2)) (lNil))))))
noncomputable def Ph_law_low := runP dn_law_low 4 2
theorem Ph_law_low_len (ds : List PyData) (z : PyData) (h : Ph_law_low ds = some z) : ds.length = 2 := runP_len ds z h
theorem ok_law_low (T : Wd P K mg) : FnOk P w K mg base CX0 1 T.a_law_low T.fd_law_low (["_law_above", "_law_below"] : List Str) (spP K 2 Ph_law_low) := by
  have key := okP (ca := T.ca) (P := P) (w := w) (mg := mg) (base := base) (k := 0) (n := 2) T.F_law_low sc_law_low rfl fun cdv A outer s H E hr => (have nd := sc_law_low.nd; dss_cons (ds_par 2 3 rfl nd (da_cons (de_B call_abs oA_abs (by rfl) T.b_abs (by decide +kernel) (da_cons (de_v 0) (da_nil))) (da_cons (de_v 1) (da_nil))))
    (dss_cons (ds_while (dt_cmp op_gt o2_B (de_v 3) (de_int) (nomark _)) (dss_one (ds_par 2 3 rfl nd (da_cons (de_v 3) (da_cons (de_op op_modN o2_mod (de_T call_int1 oA_int (by rfl) T.b_int (by decide +kernel) (da_cons (de_v 2) (da_nil))) (de_v 3)) (da_nil))))))
    (dss_one (ds_ret (de_tup (da_cons (de_op op_fdivG o2_fdiv (de_v 0) (de_v 2)) (da_cons (de_op op_fdivG o2_fdiv (de_v 1) (de_v 2)) (da_nil))))))))
  exact key
/-! _law_row -/
abbrev s_law_row : Stmt := topS 41
theorem sc_law_row : FnScope (["_law_keg_here", "_law_row_here", "_law_k", "_law_below", "_law_slow"] : List Str) (["_law_keg_here"] : List Str) (defScope s_law_row) := ⟨rfl, rfl, rfl, by decide +kernel, rfl, by decide +kernel, by decide +kernel⟩
noncomputable def lp_law_row_1 : Fs :=
  sSeq (sSet (e2 gAdd (eC (.int 1)) (eM 0 Ph_law_pull (lCons (eC (.int 10)) (lNil)))) (g1 3))
  (sApp 1 (eA Ph_law_low (lCons (e2 gAdd (eC (.int 1)) (eM 0 Ph_law_pull (lCons (eV 3) (lNil)))) (lCons (eV 3) (lNil)))))
noncomputable def dn_law_row : Fs :=
  sSeq (sOwn (lLst (lNil)) 1)
  (sSeq (sFor (iR1 (lCons (e2 gAdd (eC (.int 1)) (eM 0 Ph_law_pull (lCons (eC (.int 6)) (lNil)))) (lNil))) (g1 2) (lp_law_row_1))
  (sSeq (sIf (tB' (e2 gEq (eM 0 Ph_law_pull (lCons (eC (.int 4)) (lNil))) (eC (.int 2)))) (sSeq (sSet (e2 gAdd (eC (.int 2)) (eM 0 Ph_law_pull (lCons (eC (.int 59)) (lNil)))) (g1 4))
  (sPut 1 (eM 0 Ph_law_pull (lCons (eLenV 1) (lNil))) (eTup (lCons (eC (.int 1)) (lCons (eV 4) (lNil)))))) (sNx))
  (sFrz 1 (sRt (eA gTup (lCons (eV 1) (lNil)))))))
noncomputable def Ph_law_row := runM dn_law_row 5 1
theorem Ph_law_row_len (ks ds : List PyData) (z : PyData × List PyData) (h : Ph_law_row ks ds = some z) : ds.length + 1 = 1 := runM_len ks ds z h
theorem ok_law_row (T : Wd P K mg) : FnOk P w K mg base CX0 2 T.a_law_row T.fd_law_row (["_law_keg_here"] : List Str) (spM K 1 Ph_law_row) := by
  have key := okM (ca := T.ca) (P := P) (w := w) (mg := mg) (base := base) (k := 1) (n := 1) T.F_law_row sc_law_row rfl fun cdv A outer s H E hr => (have nd := sc_law_row.nd; dss_cons (ds_own 1 nd (df_lst (da_nil)))
    (dss_cons (ds_for rfl (di_r1 (by rfl) T.b_range (da_cons (de_op op_addG o2_add (de_int) (de_callM 0 (ok_law_pull T) Ph_law_pull_len (hr.mono (by decide)) (by rfl) T.m_law_pull T.F_law_pull.kp T.n_law_pull (da_cons (de_int) (da_nil)))) (da_nil))) (dg_name 2 nd) (dss_cons (ds_set 3 nd (de_op op_addG o2_add (de_int) (de_callM 0 (ok_law_pull T) Ph_law_pull_len (hr.mono (by decide)) (by rfl) T.m_law_pull T.F_law_pull.kp T.n_law_pull (da_cons (de_int) (da_nil)))))
    (dss_one (ds_app 1 (de_call (ok_law_low T) Ph_law_low_len (hr.mono (by decide)) (by rfl) T.m_law_low T.F_law_low.kp T.n_law_low (da_cons (de_op op_addG o2_add (de_int) (de_callM 0 (ok_law_pull T) Ph_law_pull_len (hr.mono (by decide)) (by rfl) T.m_law_pull T.F_law_pull.kp T.n_law_pull (da_cons (de_v 3) (da_nil)))) (da_cons (de_v 3) (da_nil))))))))
    (dss_cons (ds_if (dt_cmp (op_eqD (hu64 hr)) o2_eq (de_callM 0 (ok_law_pull T) Ph_law_pull_len (hr.mono (by decide)) (by rfl) T.m_law_pull T.F_law_pull.kp T.n_law_pull (da_cons (de_int) (da_nil))) (de_int) (nomark _)) (dss_cons (ds_set 4 nd (de_op op_addG o2_add (de_int) (de_callM 0 (ok_law_pull T) Ph_law_pull_len (hr.mono (by decide)) (by rfl) T.m_law_pull T.F_law_pull.kp T.n_law_pull (da_cons (de_int) (da_nil)))))
    (dss_one (ds_put 1 (de_tup (da_cons (de_int) (da_cons (de_v 4) (da_nil)))) (de_callM 0 (ok_law_pull T) Ph_law_pull_len (hr.mono (by decide)) (by rfl) T.m_law_pull T.F_law_pull.kp T.n_law_pull (da_cons (de_lenV 1 (by rfl) T.b_len) (da_nil)))))) (dss_nil))
    (dss_one (ds_frz 1 (ds_ret (de_T call_tuple_of oA_tup (by rfl) T.b_tuple (by decide +kernel) (da_cons (de_v 1) (da_nil)))))))))
  exact key
/-! is_integer -/
abbrev s_is_integer : Stmt := topS 9
theorem sc_is_integer : FnScope (["value"] : List Str) (["value"] : List Str) (defScope s_is_integer) := ⟨rfl, rfl, rfl, by decide +kernel, rfl, by decide +kernel, by decide +kernel⟩
noncomputable def dn_is_integer : Fs :=
  sRt (eAn (eIs "int" (eV 0)) (eNo (eIs "bool" (eV 0))))
noncomputable def Ph_is_integer := runP dn_is_integer 1 1
theorem Ph_is_integer_len (ds : List PyData) (z : PyData) (h : Ph_is_integer ds = some z) : ds.length = 1 := runP_len ds z h
theorem ok_is_integer (T : Wd P K mg) : FnOk P w K mg base CX0 1 T.a_is_integer T.fd_is_integer (["value"] : List Str) (spP K 1 Ph_is_integer) := by
  have key := okP (ca := T.ca) (P := P) (w := w) (mg := mg) (base := base) (k := 0) (n := 1) T.F_is_integer sc_is_integer rfl fun cdv A outer s H E hr => (have nd := sc_is_integer.nd; dss_one (ds_ret (de_and (de_isi isT_int (by rfl) T.b_isinstance (by rfl) T.b_int (by decide +kernel) (de_v 0)) (de_one (de_not (de_isi isT_bool (by rfl) T.b_isinstance (by rfl) T.b_bool (by decide +kernel) (de_v 0)))))))
  exact key
/-! is_fraction -/
abbrev s_is_fraction : Stmt := topS 11
theorem sc_is_fraction : FnScope (["value"] : List Str) (["value"] : List Str) (defScope s_is_fraction) := ⟨rfl, rfl, rfl, by decide +kernel, rfl, by decide +kernel, by decide +kernel⟩
noncomputable def dn_is_fraction : Fs :=
  sSeq (sIf (tOrr (tNo (tTr (eIs "tuple" (eV 0)))) (tB' (e2 gNe (eA gLen (lCons (eV 0) (lNil))) (eC (.int 2))))) (sRt (eC (.bool false))) (sNx))
  (sSeq (sIf (tOrr (tNo (tTr (eA Ph_is_integer (lCons (e2 gIx (eV 0) (eC (.int 0))) (lNil))))) (tNo (tTr (eA Ph_is_integer (lCons (e2 gIx (eV 0) (eC (.int 1))) (lNil)))))) (sRt (eC (.bool false))) (sNx))
  (sRt (eAn (e2 gGe (e2 gIx (eV 0) (eC (.int 1))) (eC (.int 1))) (e2 gEq (eA gGcd (lCons (e2 gIx (eV 0) (eC (.int 0))) (lCons (e2 gIx (eV 0) (eC (.int 1))) (lNil)))) (eC (.int 1))))))
noncomputable def Ph_is_fraction := runP dn_is_fraction 1 1
theorem Ph_is_fraction_len (ds : List PyData) (z : PyData) (h : Ph_is_fraction ds = some z) : ds.length = 1 := runP_len ds z h
theorem ok_is_fraction (T : Wd P K mg) : FnOk P w K mg base CX0 2 T.a_is_fraction T.fd_is_fraction (["value"] : List Str) (spP K 1 Ph_is_fraction) := by
  have key := okP (ca := T.ca) (P := P) (w := w) (mg := mg) (base := base) (k := 1) (n := 1) T.F_is_fraction sc_is_fraction rfl fun cdv A outer s H E hr => (have nd := sc_is_fraction.nd; dss_cons (ds_if (PW.pt (dw_or (dt_not (dt_tru (de_isi isT_tuple (by rfl) T.b_isinstance (by rfl) T.b_tuple (by decide +kernel) (de_v 0)))) (dw_or1 (dt_cmp (op_neD (hu64 hr)) o2_ne (de_B call_lenG oA_len (by rfl) T.b_len PySem.boot_len (da_cons (de_v 0) (da_nil))) (de_int) (nomark _))))) (dss_one (ds_ret (de_bl))) (dss_nil))
    (dss_cons (ds_if (PW.pt (dw_or (dt_not (dt_tru (de_call (ok_is_integer T) Ph_is_integer_len (hr.mono (by decide)) (by rfl) T.m_is_integer T.F_is_integer.kp T.n_is_integer (da_cons (de_ix ix_seq o2_ix (de_v 0) (de_int) (fun _ _ => rfl)) (da_nil))))) (dw_or1 (dt_not (dt_tru (de_call (ok_is_integer T) Ph_is_integer_len (hr.mono (by decide)) (by rfl) T.m_is_integer T.F_is_integer.kp T.n_is_integer (da_cons (de_ix ix_seq o2_ix (de_v 0) (de_int) (fun _ _ => rfl)) (da_nil)))))))) (dss_one (ds_ret (de_bl))) (dss_nil))
    (dss_one (ds_ret (de_and (de_cmp op_ge o2_B (de_ix ix_seq o2_ix (de_v 0) (de_int) (fun _ _ => rfl)) (de_int) (nomark _)) (de_one (de_cmp (op_eqD (hu64 hr)) o2_eq (de_M cr_gcd oA_gcd (by rfl) T.b_gcd (da_cons (de_ix ix_seq o2_ix (de_v 0) (de_int) (fun _ _ => rfl)) (da_cons (de_ix ix_seq o2_ix (de_v 0) (de_int) (fun _ _ => rfl)) (da_nil)))) (de_int) (nomark _))))))))
  exact key
/-! is_share -/
abbrev s_is_share : Stmt := topS 12
theorem sc_is_share : FnScope (["value"] : List Str) (["value"] : List Str) (defScope s_is_share) := ⟨rfl, rfl, rfl, by decide +kernel, rfl, by decide +kernel, by decide +kernel⟩
noncomputable def dn_is_share : Fs :=
  sRt (eAn (eA Ph_is_fraction (lCons (eV 0) (lNil))) (eCh gLe gLe (eC (.int 0)) (e2 gIx (eV 0) (eC (.int 0))) (e2 gIx (eV 0) (eC (.int 1)))))
noncomputable def Ph_is_share := runP dn_is_share 1 1
theorem Ph_is_share_len (ds : List PyData) (z : PyData) (h : Ph_is_share ds = some z) : ds.length = 1 := runP_len ds z h
theorem ok_is_share (T : Wd P K mg) : FnOk P w K mg base CX0 3 T.a_is_share T.fd_is_share (["value"] : List Str) (spP K 1 Ph_is_share) := by
  have key := okP (ca := T.ca) (P := P) (w := w) (mg := mg) (base := base) (k := 2) (n := 1) T.F_is_share sc_is_share rfl fun cdv A outer s H E hr => (have nd := sc_is_share.nd; dss_one (ds_ret (de_and (de_call (ok_is_fraction T) Ph_is_fraction_len (hr.mono (by decide)) (by rfl) T.m_is_fraction T.F_is_fraction.kp T.n_is_fraction (da_cons (de_v 0) (da_nil))) (de_one (de_chain op_le o2_B op_le o2_B (de_int) (de_ix ix_seq o2_ix (de_v 0) (de_int) (fun _ _ => rfl)) (de_ix ix_seq o2_ix (de_v 0) (de_int) (fun _ _ => rfl)))))))
  exact key
/-! is_row -/
abbrev s_is_row : Stmt := topS 27
theorem sc_is_row : FnScope (["value", "share"] : List Str) (["value"] : List Str) (defScope s_is_row) := ⟨rfl, rfl, rfl, by decide +kernel, rfl, by decide +kernel, by decide +kernel⟩
noncomputable def ce_is_row_1 : Fe :=
  eAn (eA Ph_is_share (lCons (eV 1) (lNil))) (e2 gGt (e2 gIx (eV 1) (eC (.int 0))) (eC (.int 0)))
noncomputable def dn_is_row : Fs :=
  sSeq (sIf (tOrr (tNo (tTr (eIs "tuple" (eV 0)))) (tNo (tB' (eCh gLe gLe (eC (.int 1)) (eA gLen (lCons (eV 0) (lNil))) (eC (.int 6)))))) (sRt (eC (.bool false))) (sNx))
  (sRt (eA gAll (lCons (eF (lCm (iSeq (eV 0)) (g1 1) (tYs) (ce_is_row_1) [1])) (lNil))))
noncomputable def Ph_is_row := runP dn_is_row 2 1
theorem Ph_is_row_len (ds : List PyData) (z : PyData) (h : Ph_is_row ds = some z) : ds.length = 1 := runP_len ds z h
theorem ok_is_row (T : Wd P K mg) : FnOk P w K mg base CX0 4 T.a_is_row T.fd_is_row (["value"] : List Str) (spP K 1 Ph_is_row) := by
  have key := okP (ca := T.ca) (P := P) (w := w) (mg := mg) (base := base) (k := 3) (n := 1) T.F_is_row sc_is_row rfl fun cdv A outer s H E hr => (have nd := sc_is_row.nd; dss_cons (ds_if (PW.pt (dw_or (dt_not (dt_tru (de_isi isT_tuple (by rfl) T.b_isinstance (by rfl) T.b_tuple (by decide +kernel) (de_v 0)))) (dw_or1 (dt_not (dt_chain op_le o2_B op_le o2_B (de_int) (de_B call_lenG oA_len (by rfl) T.b_len PySem.boot_len (da_cons (de_v 0) (da_nil))) (de_int)))))) (dss_one (ds_ret (de_bl))) (dss_nil))
    (dss_one (ds_ret (de_B (cr_all rfl) oA_all (by rfl) T.b_all (by decide +kernel) (da_cons (de_f (df_comp (own := [("share", 1)]) rfl nd (di_seq (de_v 0)) (blkOk_by (own := [("share", 1)]) (by kernel_rfl)) (fun _ _ _ _ _ => dg_name 1 nd) (fun _ _ _ _ _ => dts_nil) (fun _ _ _ _ _ => de_and (de_call (ok_is_share T) Ph_is_share_len (hr.mono (by decide)) (by rfl) T.m_is_share T.F_is_share.kp T.n_is_share (da_cons (de_v 1) (da_nil))) (de_one (de_cmp op_gt o2_B (de_ix ix_seq o2_ix (de_v 1) (de_int) (fun _ _ => rfl)) (de_int) (nomark _)))))) (da_nil))))))
  exact key
/-! need_row -/
abbrev s_need_row : Stmt := topS 28
theorem sc_need_row : FnScope (["row"] : List Str) (["row"] : List Str) (defScope s_need_row) := ⟨rfl, rfl, rfl, by decide +kernel, rfl, by decide +kernel, by decide +kernel⟩
noncomputable def dn_need_row : Fs :=
  sIf (tNo (tTr (eA Ph_is_row (lCons (eV 0) (lNil))))) (sNever) (sNx)
noncomputable def Ph_need_row := runP dn_need_row 1 1
theorem Ph_need_row_len (ds : List PyData) (z : PyData) (h : Ph_need_row ds = some z) : ds.length = 1 := runP_len ds z h
theorem ok_need_row (T : Wd P K mg) : FnOk P w K mg base CX0 5 T.a_need_row T.fd_need_row (["row"] : List Str) (spP K 1 Ph_need_row) := by
  have key := okP (ca := T.ca) (P := P) (w := w) (mg := mg) (base := base) (k := 4) (n := 1) T.F_need_row sc_need_row rfl fun cdv A outer s H E hr => (have nd := sc_need_row.nd; dss_one (ds_if (dt_not (dt_tru (de_call (ok_is_row T) Ph_is_row_len (hr.mono (by decide)) (by rfl) T.m_is_row T.F_is_row.kp T.n_is_row (da_cons (de_v 0) (da_nil))))) (dss_one (ds_never)) (dss_nil)))
  exact key
/-! need_from_zero -/
abbrev s_need_from_zero : Stmt := topS 21
theorem sc_need_from_zero : FnScope (["number"] : List Str) (["number"] : List Str) (defScope s_need_from_zero) := ⟨rfl, rfl, rfl, by decide +kernel, rfl, by decide +kernel, by decide +kernel⟩
noncomputable def dn_need_from_zero : Fs :=
  sIf (tB' (e2 gLt (eV 0) (eC (.int 0)))) (sNever) (sNx)
noncomputable def Ph_need_from_zero := runP dn_need_from_zero 1 1
theorem Ph_need_from_zero_len (ds : List PyData) (z : PyData) (h : Ph_need_from_zero ds = some z) : ds.length = 1 := runP_len ds z h
theorem ok_need_from_zero (T : Wd P K mg) : FnOk P w K mg base CX0 1 T.a_need_from_zero T.fd_need_from_zero (["number"] : List Str) (spP K 1 Ph_need_from_zero) := by
  have key := okP (ca := T.ca) (P := P) (w := w) (mg := mg) (base := base) (k := 0) (n := 1) T.F_need_from_zero sc_need_from_zero rfl fun cdv A outer s H E hr => (have nd := sc_need_from_zero.nd; dss_one (ds_if (dt_cmp op_lt o2_B (de_v 0) (de_int) (nomark _)) (dss_one (ds_never)) (dss_nil)))
  exact key
/-! common_below -/
abbrev s_common_below : Stmt := topS 22
theorem sc_common_below : FnScope (["parts", "below", "part"] : List Str) (["parts"] : List Str) (defScope s_common_below) := ⟨rfl, rfl, rfl, by decide +kernel, rfl, by decide +kernel, by decide +kernel⟩
noncomputable def lp_common_below_1 : Fs :=
  sSet (eA gLcm (lCons (eV 1) (lCons (e2 gIx (eV 2) (eC (.int 1))) (lNil)))) (g1 1)
noncomputable def dn_common_below : Fs :=
  sSeq (sSet (eC (.int 1)) (g1 1))
  (sSeq (sFor (iSeq (eV 0)) (g1 2) (lp_common_below_1))
  (sRt (eV 1)))
noncomputable def Ph_common_below := runP dn_common_below 3 1
theorem Ph_common_below_len (ds : List PyData) (z : PyData) (h : Ph_common_below ds = some z) : ds.length = 1 := runP_len ds z h
theorem ok_common_below (T : Wd P K mg) : FnOk P w K mg base CX0 1 T.a_common_below T.fd_common_below (["parts"] : List Str) (spP K 1 Ph_common_below) := by
  have key := okP (ca := T.ca) (P := P) (w := w) (mg := mg) (base := base) (k := 0) (n := 1) T.F_common_below sc_common_below rfl fun cdv A outer s H E hr => (have nd := sc_common_below.nd; dss_cons (ds_set 1 nd (de_int))
    (dss_cons (ds_for rfl (di_seq (de_v 0)) (dg_name 2 nd) (dss_one (ds_set 1 nd (de_M cr_lcm oA_lcm (by rfl) T.b_lcm (da_cons (de_v 1) (da_cons (de_ix ix_seq o2_ix (de_v 2) (de_int) (fun _ _ => rfl)) (da_nil)))))))
    (dss_one (ds_ret (de_v 1)))))
  exact key
/-! over_below -/
abbrev s_over_below : Stmt := topS 23
theorem sc_over_below : FnScope (["parts", "below", "part"] : List Str) (["parts", "below"] : List Str) (defScope s_over_below) := ⟨rfl, rfl, rfl, by decide +kernel, rfl, by decide +kernel, by decide +kernel⟩
noncomputable def ce_over_below_1 : Fe :=
  e2 gMulI (e2 gIx (eV 2) (eC (.int 0))) (e2 gFdiv (eV 1) (e2 gIx (eV 2) (eC (.int 1))))
noncomputable def dn_over_below : Fs :=
  sRt (eF (lCm (iSeq (eV 0)) (g1 2) (tYs) (ce_over_below_1) [2]))
noncomputable def Ph_over_below := runP dn_over_below 3 2
theorem Ph_over_below_len (ds : List PyData) (z : PyData) (h : Ph_over_below ds = some z) : ds.length = 2 := runP_len ds z h
theorem ok_over_below (T : Wd P K mg) : FnOk P w K mg base CX0 1 T.a_over_below T.fd_over_below (["parts", "below"] : List Str) (spP K 2 Ph_over_below) := by
  have key := okP (ca := T.ca) (P := P) (w := w) (mg := mg) (base := base) (k := 0) (n := 2) T.F_over_below sc_over_below rfl fun cdv A outer s H E hr => (have nd := sc_over_below.nd; dss_one (ds_ret (de_f (df_comp (own := [("part", 2)]) rfl nd (di_seq (de_v 0)) (blkOk_by (own := [("part", 2)]) (by kernel_rfl)) (fun _ _ _ _ _ => dg_name 2 nd) (fun _ _ _ _ _ => dts_nil) (fun _ _ _ _ _ => de_op op_mulG o2_mulI (de_ix ix_seq o2_ix (de_v 2) (de_int) (fun _ _ => rfl)) (de_op op_fdivG o2_fdiv (de_v 1) (de_ix ix_seq o2_ix (de_v 2) (de_int) (fun _ _ => rfl))))))))
  exact key
/-! row_table -/
abbrev s_row_table : Stmt := topS 29
theorem sc_row_table : FnScope (["row", "below", "shares", "rows", "k", "stage"] : List Str) (["row"] : List Str) (defScope s_row_table) := ⟨rfl, rfl, rfl, by decide +kernel, rfl, by decide +kernel, by decide +kernel⟩
noncomputable def dn_row_table : Fs :=
  sSeq (sSet (eA Ph_common_below (lCons (eV 0) (lNil))) (g1 1)) (sSeq (sSet (eA Ph_over_below (lCons (eV 0) (lCons (eV 1) (lNil)))) (g1 2)) fbRows)
noncomputable def Ph_row_table := runP dn_row_table 6 1
theorem Ph_row_table_len (ds : List PyData) (z : PyData) (h : Ph_row_table ds = some z) : ds.length = 1 := runP_len ds z h
theorem ok_row_table (T : Wd P K mg) : FnOk P w K mg base CX0 2 T.a_row_table T.fd_row_table (["row"] : List Str) (spP K 1 Ph_row_table) := by
  have key := okP (ca := fun _ => 0) (P := P) (w := w) (mg := mg) (base := base) (k := 1) (n := 1) T.F_row_table sc_row_table rfl fun cdv A outer s H E hr => (have nd := sc_row_table.nd; dss_cons (ds_set 1 nd (de_call (ok_common_below T) Ph_common_below_len (hr.mono (by decide)) (by rfl) T.m_common_below T.F_common_below.kp T.n_common_below (da_cons (de_v 0) (da_nil))))
    (dss_cons (ds_set 2 nd (de_call (ok_over_below T) Ph_over_below_len (hr.mono (by decide)) (by rfl) T.m_over_below T.F_over_below.kp T.n_over_below (da_cons (de_v 0) (da_cons (de_v 1) (da_nil)))))
    (PSs.imp (pss_cons (ps_setLc (i := 3) (own := [("stage", 5)]) rfl nd rfl rfl (sw_true rfl rfl rfl (by decide +kernel)) (pi_lt (pv 0)) (blkOk_by (own := [("stage", 5)]) (by kernel_rfl)) (fun _ _ _ _ _ => pg_name (i := 5) nd rfl (Or.inl rfl)) (fun _ _ _ _ _ => pts_nil)
        (fun _ _ _ _ _ => pe_op op_rep (pe_lst (pa_cons pe_int pa_nil)) (pe_callB call_len_seq (by rfl) T.b_len PySem.boot_len (pa_cons (pv 0) pa_nil))))
      (pss_cons (ps_for PassesOwn.never rfl (pi_range1 (by rfl) T.b_range (pa_cons (pe_callB call_len_seq (by rfl) T.b_len PySem.boot_len (pa_cons (pv 0) pa_nil)) pa_nil)) (pg_name (i := 4) nd rfl (Or.inl rfl))
          (pss_cons (ps_asg (pe_op op_sub (pv 1) (pe_ix ix_seq (pv 2) (pv 4) (fun _ _ => rfl))) (pg_sub (pe_ix ix_list (pv 3) (pv 4) (fun _ _ => rfl)) (pv 4) set_list (fun _ => rfl)))
          (pss_one (ps_if (pt_cmpR op_gt (pv 4) pe_int (nomark _)) (pss_one (ps_asg (pe_ix ix_seq (pv 2) (pe_op op_sub (pv 4) pe_int) (fun _ _ => rfl)) (pg_sub (pe_ix ix_list (pv 3) (pv 4) (fun _ _ => rfl)) (pe_op op_sub (pv 4) pe_int) set_list (fun _ => rfl)))) pss_nil))))
        (pss_one (ps_ret (pe_tup (pa_cons (pv 3) (pa_cons (pv 1) pa_nil))))))) (fun _ _ _ => read_rows))))
  exact key

/-! stepped -/
abbrev s_stepped : Stmt := topS 24
theorem sc_stepped : FnScope (["rows", "numbers", "row", "one", "other"] : List Str) (["rows", "numbers"] : List Str) (defScope s_stepped) := ⟨rfl, rfl, rfl, by decide +kernel, rfl, by decide +kernel, by decide +kernel⟩
noncomputable def ce_stepped_1 : Fe :=
  e2 gMulI (eV 3) (eV 4)
noncomputable def ce_stepped_2 : Fe :=
  eA gSum (lCons (eF (lCm (iZp (lCons (eV 2) (lCons (eV 1) (lNil)))) (g2 2 (gsC (g1 3) (gsC (g1 4) (gsN)))) (tYs) (ce_stepped_1) [3, 4])) (lNil))
noncomputable def dn_stepped : Fs :=
  sRt (eF (lCm (iSeq (eV 0)) (g1 2) (tYs) (ce_stepped_2) [2]))
noncomputable def Ph_stepped := runP dn_stepped 5 2
theorem Ph_stepped_len (ds : List PyData) (z : PyData) (h : Ph_stepped ds = some z) : ds.length = 2 := runP_len ds z h
theorem ok_stepped (T : Wd P K mg) : FnOk P w K mg base CX0 1 T.a_stepped T.fd_stepped (["rows", "numbers"] : List Str) (spP K 2 Ph_stepped) := by
  have key := okP (ca := T.ca) (P := P) (w := w) (mg := mg) (base := base) (k := 0) (n := 2) T.F_stepped sc_stepped rfl fun cdv A outer s H E hr => (have nd := sc_stepped.nd; dss_one (ds_ret (de_f (df_comp (own := [("row", 2)]) rfl nd (di_seq (de_v 0)) (blkOk_by (own := [("row", 2)]) (by kernel_rfl)) (fun _ _ _ _ _ => dg_name 2 nd) (fun _ _ _ _ _ => dts_nil) (fun _ _ _ _ _ => de_B (cr_sum rfl) oA_sum (by rfl) T.b_sum (by decide +kernel) (da_cons (de_f (df_comp (own := [("one", 3), ("other", 4)]) rfl nd (di_zip (by rfl) T.b_zip (da_cons (de_v 2) (da_cons (de_v 1) (da_nil)))) (blkOk_by (own := [("one", 3), ("other", 4)]) (by kernel_rfl)) (fun _ _ _ _ _ => dg_tup (n := 2) rfl (dgs_cons (dg_name 3 nd) (dgs_cons (dg_name 4 nd) (dgs_nil)))) (fun _ _ _ _ _ => dts_nil) (fun _ _ _ _ _ => de_op op_mulG o2_mulI (de_v 3) (de_v 4)))) (da_nil)))))))
  exact key
/-! over_years -/
abbrev s_over_years : Stmt := topS 25
theorem sc_over_years : FnScope (["rows", "below", "start", "start_below", "years", "made", "year", "numbers", "under"] : List Str) (["rows", "below", "start", "start_below", "years"] : List Str) (defScope s_over_years) := ⟨rfl, rfl, rfl, by decide +kernel, rfl, by decide +kernel, by decide +kernel⟩
noncomputable def lp_over_years_1 : Fs :=
  sSeq (sSet (eIxV 5 (e1 gNeg (eC (.int 1)))) (g2 2 (gsC (g1 7) (gsC (g1 8) (gsN)))))
  (sApp 5 (eTup (lCons (eA Ph_stepped (lCons (eV 0) (lCons (eV 7) (lNil)))) (lCons (e2 gMulI (eV 8) (eV 1)) (lNil)))))
noncomputable def dn_over_years : Fs :=
  sSeq (sOwn (lLst (lCons (eTup (lCons (eF (lOf (lCons (eV 2) (lNil)))) (lCons (eV 3) (lNil)))) (lNil))) 5)
  (sSeq (sFor (iR1 (lCons (eV 4) (lNil))) (g1 6) (lp_over_years_1))
  (sFrz 5 (sRt (eV 5))))
noncomputable def Ph_over_years := runP dn_over_years 9 5
theorem Ph_over_years_len (ds : List PyData) (z : PyData) (h : Ph_over_years ds = some z) : ds.length = 5 := runP_len ds z h
theorem ok_over_years (T : Wd P K mg) : FnOk P w K mg base CX0 2 T.a_over_years T.fd_over_years (["rows", "below", "start", "start_below", "years"] : List Str) (spP K 5 Ph_over_years) := by
  have key := okP (ca := T.ca) (P := P) (w := w) (mg := mg) (base := base) (k := 1) (n := 5) T.F_over_years sc_over_years rfl fun cdv A outer s H E hr => (have nd := sc_over_years.nd; dss_cons (ds_own 5 nd (df_lst (da_cons (de_tup (da_cons (de_f (df_listOf (by rfl) T.b_list (da_cons (de_v 2) (da_nil)))) (da_cons (de_v 3) (da_nil)))) (da_nil))))
    (dss_cons (ds_for rfl (di_r1 (by rfl) T.b_range (da_cons (de_v 4) (da_nil))) (dg_name 6 nd) (dss_cons (ds_asg (de_ixV 5 (de_un un_neg o1_neg (de_int))) (dg_tup (n := 2) rfl (dgs_cons (dg_name 7 nd) (dgs_cons (dg_name 8 nd) (dgs_nil)))))
    (dss_one (ds_app 5 (de_tup (da_cons (de_call (ok_stepped T) Ph_stepped_len (hr.mono (by decide)) (by rfl) T.m_stepped T.F_stepped.kp T.n_stepped (da_cons (de_v 0) (da_cons (de_v 7) (da_nil)))) (da_cons (de_op op_mulG o2_mulI (de_v 8) (de_v 1)) (da_nil))))))))
    (dss_one (ds_frz 5 (ds_ret (de_v 5))))))
  exact key
/-! row_series -/
abbrev s_row_series : Stmt := topS 30
theorem sc_row_series : FnScope (["row", "years", "rows", "below"] : List Str) (["row", "years"] : List Str) (defScope s_row_series) := ⟨rfl, rfl, rfl, by decide +kernel, rfl, by decide +kernel, by decide +kernel⟩
noncomputable def dn_row_series : Fs :=
  sSeq (sSet (eA Ph_row_table (lCons (eV 0) (lNil))) (g2 2 (gsC (g1 2) (gsC (g1 3) (gsN)))))
  (sRt (eA Ph_over_years (lCons (eV 2) (lCons (eV 3) (lCons (e2 gAdd (eF (lLst (lCons (eC (.int 1)) (lNil)))) (eF (lRep (lLst (lCons (eC (.int 0)) (lNil))) (e2 gSub (eA gLen (lCons (eV 0) (lNil))) (eC (.int 1)))))) (lCons (eC (.int 1)) (lCons (eV 1) (lNil))))))))
noncomputable def Ph_row_series := runP dn_row_series 4 2
theorem Ph_row_series_len (ds : List PyData) (z : PyData) (h : Ph_row_series ds = some z) : ds.length = 2 := runP_len ds z h
theorem ok_row_series (T : Wd P K mg) : FnOk P w K mg base CX0 3 T.a_row_series T.fd_row_series (["row", "years"] : List Str) (spP K 2 Ph_row_series) := by
  have key := okP (ca := T.ca) (P := P) (w := w) (mg := mg) (base := base) (k := 2) (n := 2) T.F_row_series sc_row_series rfl fun cdv A outer s H E hr => (have nd := sc_row_series.nd; dss_cons (ds_asg (de_call (ok_row_table T) Ph_row_table_len (hr.mono (by decide)) (by rfl) T.m_row_table T.F_row_table.kp T.n_row_table (da_cons (de_v 0) (da_nil))) (dg_tup (n := 2) rfl (dgs_cons (dg_name 2 nd) (dgs_cons (dg_name 3 nd) (dgs_nil)))))
    (dss_one (ds_ret (de_call (ok_over_years T) Ph_over_years_len (hr.mono (by decide)) (by rfl) T.m_over_years T.F_over_years.kp T.n_over_years (da_cons (de_v 2) (da_cons (de_v 3) (da_cons (de_op op_addG o2_add (de_f (df_lst (da_cons (de_int) (da_nil)))) (de_f (df_rep (df_lst (da_cons (de_int) (da_nil))) (de_op op_sub o2_sub (de_B call_lenG oA_len (by rfl) T.b_len PySem.boot_len (da_cons (de_v 0) (da_nil))) (de_int))))) (da_cons (de_int) (da_cons (de_v 1) (da_nil))))))))))
  exact key
/-! fraction -/
abbrev s_fraction : Stmt := topS 15
theorem sc_fraction : FnScope (["above", "below", "divisor"] : List Str) (["above", "below"] : List Str) (defScope s_fraction) := ⟨rfl, rfl, rfl, by decide +kernel, rfl, by decide +kernel, by decide +kernel⟩
noncomputable def dn_fraction : Fs :=
  sSeq (sIf (tB' (e2 gEq (eV 1) (eC (.int 0)))) (sNever) (sNx))
  (sSeq (sSet (eA gGcd (lCons (eV 0) (lCons (eV 1) (lNil)))) (g1 2))
  (sSeq (sIf (tB' (e2 gLt (eV 1) (eC (.int 0)))) (sSet (e1 gNeg (eV 2)) (g1 2)) (sNx))
  (sRt (eTup (lCons (e2 gFdiv (eV 0) (eV 2)) (lCons (e2 gFdiv (eV 1) (eV 2)) (lNil)))))))
noncomputable def Ph_fraction := runP dn_fraction 3 2
theorem Ph_fraction_len (ds : List PyData) (z : PyData) (h : Ph_fraction ds = some z) : ds.length = 2 := runP_len ds z h
theorem ok_fraction (T : Wd P K mg) : FnOk P w K mg base CX0 1 T.a_fraction T.fd_fraction (["above", "below"] : List Str) (spP K 2 Ph_fraction) := by
  have key := okP (ca := T.ca) (P := P) (w := w) (mg := mg) (base := base) (k := 0) (n := 2) T.F_fraction sc_fraction rfl fun cdv A outer s H E hr => (have nd := sc_fraction.nd; dss_cons (ds_if (dt_cmp (op_eqD (hu64 hr)) o2_eq (de_v 1) (de_int) (nomark _)) (dss_one (ds_never)) (dss_nil))
    (dss_cons (ds_set 2 nd (de_M cr_gcd oA_gcd (by rfl) T.b_gcd (da_cons (de_v 0) (da_cons (de_v 1) (da_nil)))))
    (dss_cons (ds_if (dt_cmp op_lt o2_B (de_v 1) (de_int) (nomark _)) (dss_one (ds_set 2 nd (de_un un_neg o1_neg (de_v 2)))) (dss_nil))
    (dss_one (ds_ret (de_tup (da_cons (de_op op_fdivG o2_fdiv (de_v 0) (de_v 2)) (da_cons (de_op op_fdivG o2_fdiv (de_v 1) (de_v 2)) (da_nil)))))))))
  exact key
/-! tap_total -/
abbrev s_tap_total : Stmt := topS 31
theorem sc_tap_total : FnScope (["row", "year", "numbers", "under"] : List Str) (["row", "year"] : List Str) (defScope s_tap_total) := ⟨rfl, rfl, rfl, by decide +kernel, rfl, by decide +kernel, by decide +kernel⟩
noncomputable def dn_tap_total : Fs :=
  sSeq (sEx (eA Ph_need_row (lCons (eV 0) (lNil))))
  (sSeq (sEx (eA Ph_need_from_zero (lCons (eV 1) (lNil))))
  (sSeq (sSet (e2 gIx (eA Ph_row_series (lCons (eV 0) (lCons (eV 1) (lNil)))) (e1 gNeg (eC (.int 1)))) (g2 2 (gsC (g1 2) (gsC (g1 3) (gsN)))))
  (sRt (eA Ph_fraction (lCons (e2 gSub (eV 3) (eA gSum (lCons (eV 2) (lNil)))) (lCons (eV 3) (lNil)))))))
noncomputable def Ph_tap_total := runP dn_tap_total 4 2
theorem Ph_tap_total_len (ds : List PyData) (z : PyData) (h : Ph_tap_total ds = some z) : ds.length = 2 := runP_len ds z h
theorem ok_tap_total (T : Wd P K mg) : FnOk P w K mg base CX0 6 T.a_tap_total T.fd_tap_total (["row", "year"] : List Str) (spP K 2 Ph_tap_total) := by
  have key := okP (ca := T.ca) (P := P) (w := w) (mg := mg) (base := base) (k := 5) (n := 2) T.F_tap_total sc_tap_total rfl fun cdv A outer s H E hr => (have nd := sc_tap_total.nd; dss_cons (ds_expr (de_call (ok_need_row T) Ph_need_row_len (hr.mono (by decide)) (by rfl) T.m_need_row T.F_need_row.kp T.n_need_row (da_cons (de_v 0) (da_nil))))
    (dss_cons (ds_expr (de_call (ok_need_from_zero T) Ph_need_from_zero_len (hr.mono (by decide)) (by rfl) T.m_need_from_zero T.F_need_from_zero.kp T.n_need_from_zero (da_cons (de_v 1) (da_nil))))
    (dss_cons (ds_asg (de_ix ix_seq o2_ix (de_call (ok_row_series T) Ph_row_series_len (hr.mono (by decide)) (by rfl) T.m_row_series T.F_row_series.kp T.n_row_series (da_cons (de_v 0) (da_cons (de_v 1) (da_nil)))) (de_un un_neg o1_neg (de_int)) (fun _ _ => rfl)) (dg_tup (n := 2) rfl (dgs_cons (dg_name 2 nd) (dgs_cons (dg_name 3 nd) (dgs_nil)))))
    (dss_one (ds_ret (de_call (ok_fraction T) Ph_fraction_len (hr.mono (by decide)) (by rfl) T.m_fraction T.F_fraction.kp T.n_fraction (da_cons (de_op op_sub o2_sub (de_v 3) (de_B (cr_sum rfl) oA_sum (by rfl) T.b_sum (by decide +kernel) (da_cons (de_v 2) (da_nil)))) (da_cons (de_v 3) (da_nil)))))))))
  exact key
/-! need_fraction -/
abbrev s_need_fraction : Stmt := topS 13
theorem sc_need_fraction : FnScope (["value"] : List Str) (["value"] : List Str) (defScope s_need_fraction) := ⟨rfl, rfl, rfl, by decide +kernel, rfl, by decide +kernel, by decide +kernel⟩
noncomputable def dn_need_fraction : Fs :=
  sIf (tNo (tTr (eA Ph_is_fraction (lCons (eV 0) (lNil))))) (sNever) (sNx)
noncomputable def Ph_need_fraction := runP dn_need_fraction 1 1
theorem Ph_need_fraction_len (ds : List PyData) (z : PyData) (h : Ph_need_fraction ds = some z) : ds.length = 1 := runP_len ds z h
theorem ok_need_fraction (T : Wd P K mg) : FnOk P w K mg base CX0 3 T.a_need_fraction T.fd_need_fraction (["value"] : List Str) (spP K 1 Ph_need_fraction) := by
  have key := okP (ca := T.ca) (P := P) (w := w) (mg := mg) (base := base) (k := 2) (n := 1) T.F_need_fraction sc_need_fraction rfl fun cdv A outer s H E hr => (have nd := sc_need_fraction.nd; dss_one (ds_if (dt_not (dt_tru (de_call (ok_is_fraction T) Ph_is_fraction_len (hr.mono (by decide)) (by rfl) T.m_is_fraction T.F_is_fraction.kp T.n_is_fraction (da_cons (de_v 0) (da_nil))))) (dss_one (ds_never)) (dss_nil)))
  exact key
/-! less -/
abbrev s_less : Stmt := topS 16
theorem sc_less : FnScope (["one", "other"] : List Str) (["one", "other"] : List Str) (defScope s_less) := ⟨rfl, rfl, rfl, by decide +kernel, rfl, by decide +kernel, by decide +kernel⟩
noncomputable def dn_less : Fs :=
  sSeq (sEx (eA Ph_need_fraction (lCons (eV 0) (lNil))))
  (sSeq (sEx (eA Ph_need_fraction (lCons (eV 1) (lNil))))
  (sRt (eA Ph_fraction (lCons (e2 gSub (e2 gMulI (e2 gIx (eV 0) (eC (.int 0))) (e2 gIx (eV 1) (eC (.int 1)))) (e2 gMulI (e2 gIx (eV 1) (eC (.int 0))) (e2 gIx (eV 0) (eC (.int 1))))) (lCons (e2 gMulI (e2 gIx (eV 0) (eC (.int 1))) (e2 gIx (eV 1) (eC (.int 1)))) (lNil))))))
noncomputable def Ph_less := runP dn_less 2 2
theorem Ph_less_len (ds : List PyData) (z : PyData) (h : Ph_less ds = some z) : ds.length = 2 := runP_len ds z h
theorem ok_less (T : Wd P K mg) : FnOk P w K mg base CX0 4 T.a_less T.fd_less (["one", "other"] : List Str) (spP K 2 Ph_less) := by
  have key := okP (ca := T.ca) (P := P) (w := w) (mg := mg) (base := base) (k := 3) (n := 2) T.F_less sc_less rfl fun cdv A outer s H E hr => (have nd := sc_less.nd; dss_cons (ds_expr (de_call (ok_need_fraction T) Ph_need_fraction_len (hr.mono (by decide)) (by rfl) T.m_need_fraction T.F_need_fraction.kp T.n_need_fraction (da_cons (de_v 0) (da_nil))))
    (dss_cons (ds_expr (de_call (ok_need_fraction T) Ph_need_fraction_len (hr.mono (by decide)) (by rfl) T.m_need_fraction T.F_need_fraction.kp T.n_need_fraction (da_cons (de_v 1) (da_nil))))
    (dss_one (ds_ret (de_call (ok_fraction T) Ph_fraction_len (hr.mono (by decide)) (by rfl) T.m_fraction T.F_fraction.kp T.n_fraction (da_cons (de_op op_sub o2_sub (de_op op_mulG o2_mulI (de_ix ix_seq o2_ix (de_v 0) (de_int) (fun _ _ => rfl)) (de_ix ix_seq o2_ix (de_v 1) (de_int) (fun _ _ => rfl))) (de_op op_mulG o2_mulI (de_ix ix_seq o2_ix (de_v 1) (de_int) (fun _ _ => rfl)) (de_ix ix_seq o2_ix (de_v 0) (de_int) (fun _ _ => rfl)))) (da_cons (de_op op_mulG o2_mulI (de_ix ix_seq o2_ix (de_v 0) (de_int) (fun _ _ => rfl)) (de_ix ix_seq o2_ix (de_v 1) (de_int) (fun _ _ => rfl))) (da_nil))))))))
  exact key
/-! over -/
abbrev s_over : Stmt := topS 18
theorem sc_over : FnScope (["one", "other"] : List Str) (["one", "other"] : List Str) (defScope s_over) := ⟨rfl, rfl, rfl, by decide +kernel, rfl, by decide +kernel, by decide +kernel⟩
noncomputable def dn_over : Fs :=
  sSeq (sEx (eA Ph_need_fraction (lCons (eV 0) (lNil))))
  (sSeq (sEx (eA Ph_need_fraction (lCons (eV 1) (lNil))))
  (sSeq (sIf (tB' (e2 gEq (e2 gIx (eV 1) (eC (.int 0))) (eC (.int 0)))) (sNever) (sNx))
  (sRt (eA Ph_fraction (lCons (e2 gMulI (e2 gIx (eV 0) (eC (.int 0))) (e2 gIx (eV 1) (eC (.int 1)))) (lCons (e2 gMulI (e2 gIx (eV 0) (eC (.int 1))) (e2 gIx (eV 1) (eC (.int 0)))) (lNil)))))))
noncomputable def Ph_over := runP dn_over 2 2
theorem Ph_over_len (ds : List PyData) (z : PyData) (h : Ph_over ds = some z) : ds.length = 2 := runP_len ds z h
theorem ok_over (T : Wd P K mg) : FnOk P w K mg base CX0 4 T.a_over T.fd_over (["one", "other"] : List Str) (spP K 2 Ph_over) := by
  have key := okP (ca := T.ca) (P := P) (w := w) (mg := mg) (base := base) (k := 3) (n := 2) T.F_over sc_over rfl fun cdv A outer s H E hr => (have nd := sc_over.nd; dss_cons (ds_expr (de_call (ok_need_fraction T) Ph_need_fraction_len (hr.mono (by decide)) (by rfl) T.m_need_fraction T.F_need_fraction.kp T.n_need_fraction (da_cons (de_v 0) (da_nil))))
    (dss_cons (ds_expr (de_call (ok_need_fraction T) Ph_need_fraction_len (hr.mono (by decide)) (by rfl) T.m_need_fraction T.F_need_fraction.kp T.n_need_fraction (da_cons (de_v 1) (da_nil))))
    (dss_cons (ds_if (dt_cmp (op_eqD (hu64 hr)) o2_eq (de_ix ix_seq o2_ix (de_v 1) (de_int) (fun _ _ => rfl)) (de_int) (nomark _)) (dss_one (ds_never)) (dss_nil))
    (dss_one (ds_ret (de_call (ok_fraction T) Ph_fraction_len (hr.mono (by decide)) (by rfl) T.m_fraction T.F_fraction.kp T.n_fraction (da_cons (de_op op_mulG o2_mulI (de_ix ix_seq o2_ix (de_v 0) (de_int) (fun _ _ => rfl)) (de_ix ix_seq o2_ix (de_v 1) (de_int) (fun _ _ => rfl))) (da_cons (de_op op_mulG o2_mulI (de_ix ix_seq o2_ix (de_v 0) (de_int) (fun _ _ => rfl)) (de_ix ix_seq o2_ix (de_v 1) (de_int) (fun _ _ => rfl))) (da_nil)))))))))
  exact key
/-! older_in -/
abbrev s_older_in : Stmt := topS 34
theorem sc_older_in : FnScope (["row", "age", "year", "total", "younger"] : List Str) (["row", "age", "year"] : List Str) (defScope s_older_in) := ⟨rfl, rfl, rfl, by decide +kernel, rfl, by decide +kernel, by decide +kernel⟩
noncomputable def dn_older_in : Fs :=
  sSeq (sEx (eA Ph_need_row (lCons (eV 0) (lNil))))
  (sSeq (sEx (eA Ph_need_from_zero (lCons (eV 1) (lNil))))
  (sSeq (sEx (eA Ph_need_from_zero (lCons (eV 2) (lNil))))
  (sSeq (sSet (eA Ph_tap_total (lCons (eV 0) (lCons (eV 2) (lNil)))) (g1 3))
  (sSeq (sIf (tB' (e2 gEq (e2 gIx (eV 3) (eC (.int 0))) (eC (.int 0)))) (sRt (eC .none)) (sNx))
  (sSeq (sSet (eA Ph_tap_total (lCons (eV 0) (lCons (eA gMin2 (lCons (eA gMax2 (lCons (e2 gSub (eV 1) (eC (.int 1))) (lCons (eC (.int 0)) (lNil)))) (lCons (eV 2) (lNil)))) (lNil)))) (g1 4))
  (sRt (eA Ph_less (lCons (eTup (lCons (eC (.int 1)) (lCons (eC (.int 1)) (lNil)))) (lCons (eA Ph_over (lCons (eV 4) (lCons (eV 3) (lNil)))) (lNil))))))))))
noncomputable def Ph_older_in := runP dn_older_in 5 3
theorem Ph_older_in_len (ds : List PyData) (z : PyData) (h : Ph_older_in ds = some z) : ds.length = 3 := runP_len ds z h
theorem ok_older_in (T : Wd P K mg) : FnOk P w K mg base CX0 7 T.a_older_in T.fd_older_in (["row", "age", "year"] : List Str) (spP K 3 Ph_older_in) := by
  have key := okP (ca := T.ca) (P := P) (w := w) (mg := mg) (base := base) (k := 6) (n := 3) T.F_older_in sc_older_in rfl fun cdv A outer s H E hr => (have nd := sc_older_in.nd; dss_cons (ds_expr (de_call (ok_need_row T) Ph_need_row_len (hr.mono (by decide)) (by rfl) T.m_need_row T.F_need_row.kp T.n_need_row (da_cons (de_v 0) (da_nil))))
    (dss_cons (ds_expr (de_call (ok_need_from_zero T) Ph_need_from_zero_len (hr.mono (by decide)) (by rfl) T.m_need_from_zero T.F_need_from_zero.kp T.n_need_from_zero (da_cons (de_v 1) (da_nil))))
    (dss_cons (ds_expr (de_call (ok_need_from_zero T) Ph_need_from_zero_len (hr.mono (by decide)) (by rfl) T.m_need_from_zero T.F_need_from_zero.kp T.n_need_from_zero (da_cons (de_v 2) (da_nil))))
    (dss_cons (ds_set 3 nd (de_call (ok_tap_total T) Ph_tap_total_len (hr.mono (by decide)) (by rfl) T.m_tap_total T.F_tap_total.kp T.n_tap_total (da_cons (de_v 0) (da_cons (de_v 2) (da_nil)))))
    (dss_cons (ds_if (dt_cmp (op_eqD (hu64 hr)) o2_eq (de_ix ix_seq o2_ix (de_v 3) (de_int) (fun _ _ => rfl)) (de_int) (nomark _)) (dss_one (ds_ret (de_non))) (dss_nil))
    (dss_cons (ds_set 4 nd (de_call (ok_tap_total T) Ph_tap_total_len (hr.mono (by decide)) (by rfl) T.m_tap_total T.F_tap_total.kp T.n_tap_total (da_cons (de_v 0) (da_cons (de_B (call_min2 rfl) oA_min2 (by rfl) T.b_min (by decide +kernel) (da_cons (de_B (call_max2 rfl) oA_max2 (by rfl) T.b_max (by decide +kernel) (da_cons (de_op op_sub o2_sub (de_v 1) (de_int)) (da_cons (de_int) (da_nil)))) (da_cons (de_v 2) (da_nil)))) (da_nil)))))
    (dss_one (ds_ret (de_call (ok_less T) Ph_less_len (hr.mono (by decide)) (by rfl) T.m_less T.F_less.kp T.n_less (da_cons (de_tup (da_cons (de_int) (da_cons (de_int) (da_nil)))) (da_cons (de_call (ok_over T) Ph_over_len (hr.mono (by decide)) (by rfl) T.m_over T.F_over.kp T.n_over (da_cons (de_v 4) (da_cons (de_v 3) (da_nil)))) (da_nil))))))))))))
  exact key
/-! _law_label -/
abbrev s_law_label : Stmt := topS 42
theorem sc_law_label : FnScope (["_law_keg_here", "_law_row_here", "_law_age", "_law_sort", "_law_below", "_law_told_here"] : List Str) (["_law_keg_here", "_law_row_here", "_law_age"] : List Str) (defScope s_law_label) := ⟨rfl, rfl, rfl, by decide +kernel, rfl, by decide +kernel, by decide +kernel⟩
noncomputable def dn_law_label : Fs :=
  sSeq (sSet (eM 0 Ph_law_pull (lCons (eC (.int 6)) (lNil))) (g1 3))
  (sSeq (sIf (tB' (e2 gLt (eV 3) (eC (.int 3)))) (sSeq (sSet (e2 gIx (eF (lLst (lCons (eC (.int 10)) (lCons (eC (.int 100)) (lCons (e2 gPow (eC (.int 10)) (eC (.int 9))) (lNil)))))) (eV 3)) (g1 4))
  (sRt (eA Ph_law_low (lCons (eM 0 Ph_law_pull (lCons (e2 gAdd (eV 4) (eC (.int 1))) (lNil))) (lCons (eV 4) (lNil)))))) (sNx))
  (sSeq (sSet (eA Ph_older_in (lCons (eV 1) (lCons (eV 2) (lCons (e2 gAdd (eM 0 Ph_law_pull (lCons (eC (.int 12)) (lNil))) (eV 2)) (lNil))))) (g1 5))
  (sSeq (sIf (tOrr (tB' (eIsN (eV 5))) (tB' (e2 gGe (e2 gIx (eV 5) (eC (.int 1))) (e2 gPow (eC (.int 10)) (eC (.int 40)))))) (sRt (eTup (lCons (eC (.int 1)) (lCons (eC (.int 2)) (lNil))))) (sNx))
  (sRt (eV 5)))))
noncomputable def Ph_law_label := runM dn_law_label 6 3
theorem Ph_law_label_len (ks ds : List PyData) (z : PyData × List PyData) (h : Ph_law_label ks ds = some z) : ds.length + 1 = 3 := runM_len ks ds z h
theorem ok_law_label (T : Wd P K mg) : FnOk P w K mg base CX0 8 T.a_law_label T.fd_law_label (["_law_keg_here", "_law_row_here", "_law_age"] : List Str) (spM K 3 Ph_law_label) := by
  have key := okM (ca := T.ca) (P := P) (w := w) (mg := mg) (base := base) (k := 7) (n := 3) T.F_law_label sc_law_label rfl fun cdv A outer s H E hr => (have nd := sc_law_label.nd; dss_cons (ds_set 3 nd (de_callM 0 (ok_law_pull T) Ph_law_pull_len (hr.mono (by decide)) (by rfl) T.m_law_pull T.F_law_pull.kp T.n_law_pull (da_cons (de_int) (da_nil))))
    (dss_cons (ds_if (dt_cmp op_lt o2_B (de_v 3) (de_int) (nomark _)) (dss_cons (ds_set 4 nd (de_ix ix_seq o2_ix (de_f (df_lst (da_cons (de_int) (da_cons (de_int) (da_cons (de_op op_powG o2_pow (de_int) (de_int)) (da_nil)))))) (de_v 3) (fun _ _ => rfl)))
    (dss_one (ds_ret (de_call (ok_law_low T) Ph_law_low_len (hr.mono (by decide)) (by rfl) T.m_law_low T.F_law_low.kp T.n_law_low (da_cons (de_callM 0 (ok_law_pull T) Ph_law_pull_len (hr.mono (by decide)) (by rfl) T.m_law_pull T.F_law_pull.kp T.n_law_pull (da_cons (de_op op_addG o2_add (de_v 4) (de_int)) (da_nil))) (da_cons (de_v 4) (da_nil))))))) (dss_nil))
    (dss_cons (ds_set 5 nd (de_call (ok_older_in T) Ph_older_in_len (hr.mono (by decide)) (by rfl) T.m_older_in T.F_older_in.kp T.n_older_in (da_cons (de_v 1) (da_cons (de_v 2) (da_cons (de_op op_addG o2_add (de_callM 0 (ok_law_pull T) Ph_law_pull_len (hr.mono (by decide)) (by rfl) T.m_law_pull T.F_law_pull.kp T.n_law_pull (da_cons (de_int) (da_nil))) (de_v 2)) (da_nil))))))
    (dss_cons (ds_if (PW.pt (dw_or (dt_isN (de_v 5)) (dw_or1 (dt_cmp op_ge o2_B (de_ix ix_seq o2_ix (de_v 5) (de_int) (fun _ _ => rfl)) (de_op op_powG o2_pow (de_int) (de_int)) (nomark _))))) (dss_one (ds_ret (de_tup (da_cons (de_int) (da_cons (de_int) (da_nil)))))) (dss_nil))
    (dss_one (ds_ret (de_v 5)))))))
  exact key
/-! need_share -/
abbrev s_need_share : Stmt := topS 14
theorem sc_need_share : FnScope (["value"] : List Str) (["value"] : List Str) (defScope s_need_share) := ⟨rfl, rfl, rfl, by decide +kernel, rfl, by decide +kernel, by decide +kernel⟩
noncomputable def dn_need_share : Fs :=
  sIf (tNo (tTr (eA Ph_is_share (lCons (eV 0) (lNil))))) (sNever) (sNx)
noncomputable def Ph_need_share := runP dn_need_share 1 1
theorem Ph_need_share_len (ds : List PyData) (z : PyData) (h : Ph_need_share ds = some z) : ds.length = 1 := runP_len ds z h
theorem ok_need_share (T : Wd P K mg) : FnOk P w K mg base CX0 4 T.a_need_share T.fd_need_share (["value"] : List Str) (spP K 1 Ph_need_share) := by
  have key := okP (ca := T.ca) (P := P) (w := w) (mg := mg) (base := base) (k := 3) (n := 1) T.F_need_share sc_need_share rfl fun cdv A outer s H E hr => (have nd := sc_need_share.nd; dss_one (ds_if (dt_not (dt_tru (de_call (ok_is_share T) Ph_is_share_len (hr.mono (by decide)) (by rfl) T.m_is_share T.F_is_share.kp T.n_is_share (da_cons (de_v 0) (da_nil))))) (dss_one (ds_never)) (dss_nil)))
  exact key
/-! compared -/
abbrev s_compared : Stmt := topS 19
theorem sc_compared : FnScope (["one", "other", "first", "second"] : List Str) (["one", "other"] : List Str) (defScope s_compared) := ⟨rfl, rfl, rfl, by decide +kernel, rfl, by decide +kernel, by decide +kernel⟩
noncomputable def dn_compared : Fs :=
  sSeq (sEx (eA Ph_need_fraction (lCons (eV 0) (lNil))))
  (sSeq (sEx (eA Ph_need_fraction (lCons (eV 1) (lNil))))
  (sSeq (sSet (e2 gMulI (e2 gIx (eV 0) (eC (.int 0))) (e2 gIx (eV 1) (eC (.int 1)))) (g1 2))
  (sSeq (sSet (e2 gMulI (e2 gIx (eV 1) (eC (.int 0))) (e2 gIx (eV 0) (eC (.int 1)))) (g1 3))
  (sRt (e2 gSub (eA gInt (lCons (e2 gGt (eV 2) (eV 3)) (lNil))) (eA gInt (lCons (e2 gLt (eV 2) (eV 3)) (lNil))))))))
noncomputable def Ph_compared := runP dn_compared 4 2
theorem Ph_compared_len (ds : List PyData) (z : PyData) (h : Ph_compared ds = some z) : ds.length = 2 := runP_len ds z h
theorem ok_compared (T : Wd P K mg) : FnOk P w K mg base CX0 4 T.a_compared T.fd_compared (["one", "other"] : List Str) (spP K 2 Ph_compared) := by
  have key := okP (ca := T.ca) (P := P) (w := w) (mg := mg) (base := base) (k := 3) (n := 2) T.F_compared sc_compared rfl fun cdv A outer s H E hr => (have nd := sc_compared.nd; dss_cons (ds_expr (de_call (ok_need_fraction T) Ph_need_fraction_len (hr.mono (by decide)) (by rfl) T.m_need_fraction T.F_need_fraction.kp T.n_need_fraction (da_cons (de_v 0) (da_nil))))
    (dss_cons (ds_expr (de_call (ok_need_fraction T) Ph_need_fraction_len (hr.mono (by decide)) (by rfl) T.m_need_fraction T.F_need_fraction.kp T.n_need_fraction (da_cons (de_v 1) (da_nil))))
    (dss_cons (ds_set 2 nd (de_op op_mulG o2_mulI (de_ix ix_seq o2_ix (de_v 0) (de_int) (fun _ _ => rfl)) (de_ix ix_seq o2_ix (de_v 1) (de_int) (fun _ _ => rfl))))
    (dss_cons (ds_set 3 nd (de_op op_mulG o2_mulI (de_ix ix_seq o2_ix (de_v 1) (de_int) (fun _ _ => rfl)) (de_ix ix_seq o2_ix (de_v 0) (de_int) (fun _ _ => rfl))))
    (dss_one (ds_ret (de_op op_sub o2_sub (de_T call_int1 oA_int (by rfl) T.b_int (by decide +kernel) (da_cons (de_cmp op_gt o2_B (de_v 2) (de_v 3) (nomark _)) (da_nil))) (de_T call_int1 oA_int (by rfl) T.b_int (by decide +kernel) (da_cons (de_cmp op_lt o2_B (de_v 2) (de_v 3) (nomark _)) (da_nil))))))))))
  exact key
/-! times -/
abbrev s_times : Stmt := topS 17
theorem sc_times : FnScope (["one", "other"] : List Str) (["one", "other"] : List Str) (defScope s_times) := ⟨rfl, rfl, rfl, by decide +kernel, rfl, by decide +kernel, by decide +kernel⟩
noncomputable def dn_times : Fs :=
  sSeq (sEx (eA Ph_need_fraction (lCons (eV 0) (lNil))))
  (sSeq (sEx (eA Ph_need_fraction (lCons (eV 1) (lNil))))
  (sRt (eA Ph_fraction (lCons (e2 gMulI (e2 gIx (eV 0) (eC (.int 0))) (e2 gIx (eV 1) (eC (.int 0)))) (lCons (e2 gMulI (e2 gIx (eV 0) (eC (.int 1))) (e2 gIx (eV 1) (eC (.int 1)))) (lNil))))))
noncomputable def Ph_times := runP dn_times 2 2
theorem Ph_times_len (ds : List PyData) (z : PyData) (h : Ph_times ds = some z) : ds.length = 2 := runP_len ds z h
theorem ok_times (T : Wd P K mg) : FnOk P w K mg base CX0 4 T.a_times T.fd_times (["one", "other"] : List Str) (spP K 2 Ph_times) := by
  have key := okP (ca := T.ca) (P := P) (w := w) (mg := mg) (base := base) (k := 3) (n := 2) T.F_times sc_times rfl fun cdv A outer s H E hr => (have nd := sc_times.nd; dss_cons (ds_expr (de_call (ok_need_fraction T) Ph_need_fraction_len (hr.mono (by decide)) (by rfl) T.m_need_fraction T.F_need_fraction.kp T.n_need_fraction (da_cons (de_v 0) (da_nil))))
    (dss_cons (ds_expr (de_call (ok_need_fraction T) Ph_need_fraction_len (hr.mono (by decide)) (by rfl) T.m_need_fraction T.F_need_fraction.kp T.n_need_fraction (da_cons (de_v 1) (da_nil))))
    (dss_one (ds_ret (de_call (ok_fraction T) Ph_fraction_len (hr.mono (by decide)) (by rfl) T.m_fraction T.F_fraction.kp T.n_fraction (da_cons (de_op op_mulG o2_mulI (de_ix ix_seq o2_ix (de_v 0) (de_int) (fun _ _ => rfl)) (de_ix ix_seq o2_ix (de_v 1) (de_int) (fun _ _ => rfl))) (da_cons (de_op op_mulG o2_mulI (de_ix ix_seq o2_ix (de_v 0) (de_int) (fun _ _ => rfl)) (de_ix ix_seq o2_ix (de_v 1) (de_int) (fun _ _ => rfl))) (da_nil))))))))
  exact key
/-! label_from -/
abbrev s_label_from : Stmt := topS 35
theorem sc_label_from : FnScope (["row", "age", "share", "younger", "others", "rows", "below", "numbers", "under", "year"] : List Str) (["row", "age", "share"] : List Str) (defScope s_label_from) := ⟨rfl, rfl, rfl, by decide +kernel, rfl, by decide +kernel, by decide +kernel⟩
noncomputable def lpx_label_from_1 : Fs :=
  sSeq (sIf (tB' (e2 gLe (eA Ph_compared (lCons (eV 3) (lCons (eA Ph_times (lCons (eV 4) (lCons (eA Ph_fraction (lCons (e2 gSub (eV 8) (eA gSum (lCons (eV 7) (lNil)))) (lCons (eV 8) (lNil)))) (lNil)))) (lNil)))) (eC (.int 0)))) (sRt (eV 9)) (sNx))
  (sSeq (sSet (eA Ph_stepped (lCons (eV 5) (lCons (eV 7) (lNil)))) (g1 7))
  (sSet (e2 gMulI (eV 8) (eV 6)) (g1 8)))
noncomputable def dnx_label_from : Fs :=
  sSeq (sEx (eA Ph_need_row (lCons (eV 0) (lNil))))
  (sSeq (sEx (eA Ph_need_from_zero (lCons (eV 1) (lNil))))
  (sSeq (sEx (eA Ph_need_share (lCons (eV 2) (lNil))))
  (sSeq (sIf (tOrr (tB' (e2 gEq (e2 gIx (eV 2) (eC (.int 0))) (eC (.int 0)))) (tB' (e2 gLe (eV 1) (eA gLen (lCons (eV 0) (lNil)))))) (sRt (eA gLen (lCons (eV 0) (lNil)))) (sNx))
  (sSeq (sSet (eA Ph_tap_total (lCons (eV 0) (lCons (e2 gSub (eV 1) (eC (.int 1))) (lNil)))) (g1 3))
  (sSeq (sSet (eA Ph_less (lCons (eTup (lCons (eC (.int 1)) (lCons (eC (.int 1)) (lNil)))) (lCons (eV 2) (lNil)))) (g1 4))
  (sSeq (sIf (tB' (e2 gGe (eA Ph_compared (lCons (eV 3) (lCons (eV 4) (lNil)))) (eC (.int 0)))) (sRt (eC .none)) (sNx))
  (sSeq (sSet (eA Ph_row_table (lCons (eV 0) (lNil))) (g2 2 (gsC (g1 5) (gsC (g1 6) (gsN)))))
  (sSeq (sSet (e2 gIx (eA Ph_row_series (lCons (eV 0) (lCons (eV 1) (lNil)))) (e1 gNeg (eC (.int 1)))) (g2 2 (gsC (g1 7) (gsC (g1 8) (gsN)))))
  (sSeq (sFor (iR2 (lCons (eV 1) (lCons (eC (.int 301)) (lNil)))) (g1 9) (lpx_label_from_1))
  (sRaise "TooMany" (eC (.int 300))))))))))))
noncomputable def Phx_label_from := runX dnx_label_from 10 3
theorem Phx_label_from_len (ds : List PyData) (z : Xo) (h : Phx_label_from ds = some z) : ds.length = 3 := runX_len ds z h
theorem okx_label_from (T : Wd P K mg) : FnOk P w K mg base (L2.CX P w) 7 T.a_label_from T.fd_label_from (["row", "age", "share"] : List Str) (spX K T.ca 3 Phx_label_from) := by
  have key := okX (ca := T.ca) (P := P) (w := w) (mg := mg) (base := base) (k := 6) (n := 3) T.F_label_from sc_label_from rfl fun cdv A outer s H E hr => (have nd := sc_label_from.nd; dss_cons (ds_expr (de_call (ok_need_row T) Ph_need_row_len (hr.mono (by decide)) (by rfl) T.m_need_row T.F_need_row.kp T.n_need_row (da_cons (de_v 0) (da_nil))))
    (dss_cons (ds_expr (de_call (ok_need_from_zero T) Ph_need_from_zero_len (hr.mono (by decide)) (by rfl) T.m_need_from_zero T.F_need_from_zero.kp T.n_need_from_zero (da_cons (de_v 1) (da_nil))))
    (dss_cons (ds_expr (de_call (ok_need_share T) Ph_need_share_len (hr.mono (by decide)) (by rfl) T.m_need_share T.F_need_share.kp T.n_need_share (da_cons (de_v 2) (da_nil))))
    (dss_cons (ds_if (PW.pt (dw_or (dt_cmp (op_eqD (hu64 hr)) o2_eq (de_ix ix_seq o2_ix (de_v 2) (de_int) (fun _ _ => rfl)) (de_int) (nomark _)) (dw_or1 (dt_cmp op_le o2_B (de_v 1) (de_B call_lenG oA_len (by rfl) T.b_len PySem.boot_len (da_cons (de_v 0) (da_nil))) (nomark _))))) (dss_one (ds_ret (de_B call_lenG oA_len (by rfl) T.b_len PySem.boot_len (da_cons (de_v 0) (da_nil))))) (dss_nil))
    (dss_cons (ds_set 3 nd (de_call (ok_tap_total T) Ph_tap_total_len (hr.mono (by decide)) (by rfl) T.m_tap_total T.F_tap_total.kp T.n_tap_total (da_cons (de_v 0) (da_cons (de_op op_sub o2_sub (de_v 1) (de_int)) (da_nil)))))
    (dss_cons (ds_set 4 nd (de_call (ok_less T) Ph_less_len (hr.mono (by decide)) (by rfl) T.m_less T.F_less.kp T.n_less (da_cons (de_tup (da_cons (de_int) (da_cons (de_int) (da_nil)))) (da_cons (de_v 2) (da_nil)))))
    (dss_cons (ds_if (dt_cmp op_ge o2_B (de_call (ok_compared T) Ph_compared_len (hr.mono (by decide)) (by rfl) T.m_compared T.F_compared.kp T.n_compared (da_cons (de_v 3) (da_cons (de_v 4) (da_nil)))) (de_int) (nomark _)) (dss_one (ds_ret (de_non))) (dss_nil))
    (dss_cons (ds_asg (de_call (ok_row_table T) Ph_row_table_len (hr.mono (by decide)) (by rfl) T.m_row_table T.F_row_table.kp T.n_row_table (da_cons (de_v 0) (da_nil))) (dg_tup (n := 2) rfl (dgs_cons (dg_name 5 nd) (dgs_cons (dg_name 6 nd) (dgs_nil)))))
    (dss_cons (ds_asg (de_ix ix_seq o2_ix (de_call (ok_row_series T) Ph_row_series_len (hr.mono (by decide)) (by rfl) T.m_row_series T.F_row_series.kp T.n_row_series (da_cons (de_v 0) (da_cons (de_v 1) (da_nil)))) (de_un un_neg o1_neg (de_int)) (fun _ _ => rfl)) (dg_tup (n := 2) rfl (dgs_cons (dg_name 7 nd) (dgs_cons (dg_name 8 nd) (dgs_nil)))))
    (dss_cons (ds_for rfl (di_r2 (by rfl) T.b_range (da_cons (de_v 1) (da_cons (de_int) (da_nil)))) (dg_name 9 nd) (dss_cons (ds_if (dt_cmp op_le o2_B (de_call (ok_compared T) Ph_compared_len (hr.mono (by decide)) (by rfl) T.m_compared T.F_compared.kp T.n_compared (da_cons (de_v 3) (da_cons (de_call (ok_times T) Ph_times_len (hr.mono (by decide)) (by rfl) T.m_times T.F_times.kp T.n_times (da_cons (de_v 4) (da_cons (de_call (ok_fraction T) Ph_fraction_len (hr.mono (by decide)) (by rfl) T.m_fraction T.F_fraction.kp T.n_fraction (da_cons (de_op op_sub o2_sub (de_v 8) (de_B (cr_sum rfl) oA_sum (by rfl) T.b_sum (by decide +kernel) (da_cons (de_v 7) (da_nil)))) (da_cons (de_v 8) (da_nil)))) (da_nil)))) (da_nil)))) (de_int) (nomark _)) (dss_one (ds_ret (de_v 9))) (dss_nil))
    (dss_cons (ds_set 7 nd (de_call (ok_stepped T) Ph_stepped_len (hr.mono (by decide)) (by rfl) T.m_stepped T.F_stepped.kp T.n_stepped (da_cons (de_v 5) (da_cons (de_v 7) (da_nil)))))
    (dss_one (ds_set 8 nd (de_op op_mulG o2_mulI (de_v 8) (de_v 6)))))))
    (dss_one (ds_raise rfl (takes_of rfl rfl rfl rfl) T.xt_TooMany T.xg_TooMany hr (by rfl) (de_int)))))))))))))
  exact key
/-! _law_told -/
abbrev s_law_told : Stmt := topS 44
theorem sc_law_told : FnScope (["_law_row_here", "_law_age", "_law_label_here", "_law_found", "e"] : List Str) (["_law_row_here", "_law_age", "_law_label_here"] : List Str) (defScope s_law_told) := ⟨rfl, rfl, rfl, by decide +kernel, rfl, by decide +kernel, by decide +kernel⟩
noncomputable def dn_law_told : Fs :=
  sSeq (sSet (eTup (lCons (eC (.str ("none" : PySem.Str))) (lCons (eC .none) (lNil)))) (g1 3))
  (sSeq (sTry "TooMany" 4 3 (fun d => .tuple [.str ("many" : PySem.Str), (fun d => d) d]) (sSetX (xTup (.str ("year" : PySem.Str)) (xA Phx_label_from (lCons (eV 0) (lCons (eV 1) (lCons (eV 2) (lNil)))))) 3))
  (sRt (eV 3)))
noncomputable def Ph_law_told := runP dn_law_told 5 3
theorem Ph_law_told_len (ds : List PyData) (z : PyData) (h : Ph_law_told ds = some z) : ds.length = 3 := runP_len ds z h
theorem ok_law_told (T : Wd P K mg) : FnOk P w K mg base CX0 8 T.a_law_told T.fd_law_told (["_law_row_here", "_law_age", "_law_label_here"] : List Str) (spP K 3 Ph_law_told) := by
  have key := okP (ca := T.ca) (P := P) (w := w) (mg := mg) (base := base) (k := 7) (n := 3) T.F_law_told sc_law_told rfl fun cdv A outer s H E hr => (have nd := sc_law_told.nd; dss_cons (ds_set 3 nd (de_tup (da_cons (de_str) (da_cons (de_non) (da_nil)))))
    (dss_cons (ds_try 4 3 nd ⟨by rfl, by decide, .inl T.xg_TooMany⟩ takes0 T.xf_TooMany T.xn_TooMany T.xm_TooMany (fun W pn xe tk hpo => dss_one (ds_setX 3 nd (dx_tup pe_str (fun _ => .str _) (dx_call (okx_label_from T) Phx_label_from_len (hr.mono (by decide)) tk (by rfl) T.m_label_from T.F_label_from.kp T.n_label_from (da_cons (de_v 0) (da_cons (de_v 1) (da_cons (de_v 2) (da_nil)))))))) (suite_tup (fun _ _ => pe_str) (fun _ => .str _) (suite_val)))
    (dss_one (ds_ret (de_v 3)))))
  exact key
/-! _law_same -/
abbrev s_law_same : Stmt := topS 40
theorem sc_law_same : FnScope (["_law_told_here", "_law_due", "_law_k"] : List Str) (["_law_told_here", "_law_due"] : List Str) (defScope s_law_same) := ⟨rfl, rfl, rfl, by decide +kernel, rfl, by decide +kernel, by decide +kernel⟩
noncomputable def ct_law_same_1 (rr : List PyData → Option PyData) : Ft :=
  tNo (tTr (eA rr (lCons (e2 gIx (eV 0) (eV 2)) (lCons (e2 gIx (eV 1) (eV 2)) (lNil)))))
noncomputable def ce_law_same_1 (rr : List PyData → Option PyData) : Fe :=
  eV 2
noncomputable def dn_law_same (rr : List PyData → Option PyData) : Fs :=
  sSeq (sIf (tOrr (tTr (eIs "tuple" (eV 1))) (tTr (eIs "list" (eV 1)))) (sSeq (sIf (tOrr (tB' (e2 gNe (eIs "tuple" (eV 0)) (eIs "tuple" (eV 1)))) (tB' (e2 gNe (eIs "list" (eV 0)) (eIs "list" (eV 1))))) (sRt (eC (.bool false))) (sNx))
  (sSeq (sIf (tB' (e2 gNe (eA gLen (lCons (eV 0) (lNil))) (eA gLen (lCons (eV 1) (lNil))))) (sRt (eC (.bool false))) (sNx))
  (sRt (e2 gEq (eF (lCm (iR1 (lCons (eA gLen (lCons (eV 1) (lNil))) (lNil))) (g1 2) ((ct_law_same_1 rr)) ((ce_law_same_1 rr)) [2])) (eF (lLst (lNil))))))) (sNx))
  (sSeq (sIf (tB' (eIsN (eV 1))) (sRt (eIsN (eV 0))) (sNx))
  (sSeq (sIf (tTr (eIs "bool" (eV 1))) (sRt (eAn (eIs "bool" (eV 0)) (e2 gEq (eV 0) (eV 1)))) (sNx))
  (sSeq (sIf (tTr (eIs "str" (eV 1))) (sRt (eAn (eIs "str" (eV 0)) (e2 gEq (eV 0) (eV 1)))) (sNx))
  (sRt (eAn (eIs "int" (eV 0)) (eAn (eNo (eIs "bool" (eV 0))) (e2 gEq (eV 0) (eV 1))))))))
noncomputable def Ph_law_same : Nat → List PyData → Option PyData
  | 0 => fun _ => none
  | r + 1 => runP (dn_law_same (Ph_law_same r)) 3 2
theorem Ph_law_same_len : ∀ (r : Nat) (ds : List PyData) (z : PyData), Ph_law_same r ds = some z → ds.length = 2
  | 0, _, _, h => by cases h
  | r + 1, ds, z, h => runP_len ds z h
theorem ok_law_same (T : Wd P K mg) : ∀ r : Nat, FnOk P w K mg base CX0 (1 + r) T.a_law_same T.fd_law_same (["_law_told_here", "_law_due"] : List Str) (spP K 2 (Ph_law_same r))
  | 0 => okNone (by intro vs H Q E h; obtain ⟨F, ds, d, h1, _⟩ := h; rw [h1]; rfl) fun vs H Q E h => by obtain ⟨F, ds, d, _, _, _, h4, _⟩ := h; cases h4
  | r + 1 => by
    have IH := ok_law_same T r
    have key := okP (ca := T.ca) (P := P) (w := w) (mg := mg) (base := base) (k := 1 + r) (n := 2) T.F_law_same sc_law_same rfl fun cdv A outer s H E hr => (have nd := sc_law_same.nd; dss_cons (ds_if (PW.pt (dw_or (dt_tru (de_isi isT_tuple (by rfl) T.b_isinstance (by rfl) T.b_tuple (by decide +kernel) (de_v 1))) (dw_or1 (dt_tru (de_isi isT_list (by rfl) T.b_isinstance (by rfl) T.b_list (by decide +kernel) (de_v 1)))))) (dss_cons (ds_if (PW.pt (dw_or (dt_cmp (op_neD (hu64 hr)) o2_ne (de_isi isT_tuple (by rfl) T.b_isinstance (by rfl) T.b_tuple (by decide +kernel) (de_v 0)) (de_isi isT_tuple (by rfl) T.b_isinstance (by rfl) T.b_tuple (by decide +kernel) (de_v 1)) (nomark _)) (dw_or1 (dt_cmp (op_neD (hu64 hr)) o2_ne (de_isi isT_list (by rfl) T.b_isinstance (by rfl) T.b_list (by decide +kernel) (de_v 0)) (de_isi isT_list (by rfl) T.b_isinstance (by rfl) T.b_list (by decide +kernel) (de_v 1)) (nomark _))))) (dss_one (ds_ret (de_bl))) (dss_nil))
    (dss_cons (ds_if (dt_cmp (op_neD (hu64 hr)) o2_ne (de_B call_lenG oA_len (by rfl) T.b_len PySem.boot_len (da_cons (de_v 0) (da_nil))) (de_B call_lenG oA_len (by rfl) T.b_len PySem.boot_len (da_cons (de_v 1) (da_nil))) (nomark _)) (dss_one (ds_ret (de_bl))) (dss_nil))
    (dss_one (ds_ret (de_cmp (op_eqD (hu64 hr)) o2_eq (de_f (df_comp (own := [("_law_k", 2)]) rfl nd (di_r1 (by rfl) T.b_range (da_cons (de_B call_lenG oA_len (by rfl) T.b_len PySem.boot_len (da_cons (de_v 1) (da_nil))) (da_nil))) (blkOk_by (own := [("_law_k", 2)]) (by kernel_rfl)) (fun _ _ _ _ _ => dg_name 2 nd) (fun _ _ _ _ _ => dts_one (dt_not (dt_tru (de_call IH (Ph_law_same_len r) (hr.mono (by omega)) (by rfl) T.m_law_same T.F_law_same.kp T.n_law_same (da_cons (de_ix ix_seq o2_ix (de_v 0) (de_v 2) (fun _ _ => rfl)) (da_cons (de_ix ix_seq o2_ix (de_v 1) (de_v 2) (fun _ _ => rfl)) (da_nil))))))) (fun _ _ _ _ _ => de_v 2))) (de_f (df_lst (da_nil))) (nomark _)))))) (dss_nil))
    (dss_cons (ds_if (dt_isN (de_v 1)) (dss_one (ds_ret (de_isN (de_v 0)))) (dss_nil))
    (dss_cons (ds_if (dt_tru (de_isi isT_bool (by rfl) T.b_isinstance (by rfl) T.b_bool (by decide +kernel) (de_v 1))) (dss_one (ds_ret (de_and (de_isi isT_bool (by rfl) T.b_isinstance (by rfl) T.b_bool (by decide +kernel) (de_v 0)) (de_one (de_cmp (op_eqD (hu64 hr)) o2_eq (de_v 0) (de_v 1) (nomark _)))))) (dss_nil))
    (dss_cons (ds_if (dt_tru (de_isi isT_str (by rfl) T.b_isinstance (by rfl) T.b_str (by decide +kernel) (de_v 1))) (dss_one (ds_ret (de_and (de_isi isT_str (by rfl) T.b_isinstance (by rfl) T.b_str (by decide +kernel) (de_v 0)) (de_one (de_cmp (op_eqD (hu64 hr)) o2_eq (de_v 0) (de_v 1) (nomark _)))))) (dss_nil))
    (dss_one (ds_ret (de_and (de_isi isT_int (by rfl) T.b_isinstance (by rfl) T.b_int (by decide +kernel) (de_v 0)) (de_and (de_not (de_isi isT_bool (by rfl) T.b_isinstance (by rfl) T.b_bool (by decide +kernel) (de_v 0))) (de_one (de_cmp (op_eqD (hu64 hr)) o2_eq (de_v 0) (de_v 1) (nomark _)))))))))))
    exact key
/-! _law_place -/
abbrev s_law_place : Stmt := topS 45
theorem sc_law_place : FnScope (["_law_told_here"] : List Str) (["_law_told_here"] : List Str) (defScope s_law_place) := ⟨rfl, rfl, rfl, by decide +kernel, rfl, by decide +kernel, by decide +kernel⟩
noncomputable def dn_law_place : Fs :=
  sSeq (sIf (tB' (e2 gEq (e2 gIx (eV 0) (eC (.int 0))) (eC (.str ("many" : PySem.Str))))) (sRt (eC (.int 301))) (sNx))
  (sSeq (sIf (tB' (eIsN (e2 gIx (eV 0) (eC (.int 1))))) (sRt (eC (.int 302))) (sNx))
  (sRt (e2 gIx (eV 0) (eC (.int 1)))))
noncomputable def Ph_law_place := runP dn_law_place 1 1
theorem Ph_law_place_len (ds : List PyData) (z : PyData) (h : Ph_law_place ds = some z) : ds.length = 1 := runP_len ds z h
theorem ok_law_place (T : Wd P K mg) : FnOk P w K mg base CX0 1 T.a_law_place T.fd_law_place (["_law_told_here"] : List Str) (spP K 1 Ph_law_place) := by
  have key := okP (ca := T.ca) (P := P) (w := w) (mg := mg) (base := base) (k := 0) (n := 1) T.F_law_place sc_law_place rfl fun cdv A outer s H E hr => (have nd := sc_law_place.nd; dss_cons (ds_if (dt_cmp (op_eqD (hu64 hr)) o2_eq (de_ix ix_seq o2_ix (de_v 0) (de_int) (fun _ _ => rfl)) (de_str) (nomark _)) (dss_one (ds_ret (de_int))) (dss_nil))
    (dss_cons (ds_if (dt_isN (de_ix ix_seq o2_ix (de_v 0) (de_int) (fun _ _ => rfl))) (dss_one (ds_ret (de_int))) (dss_nil))
    (dss_one (ds_ret (de_ix ix_seq o2_ix (de_v 0) (de_int) (fun _ _ => rfl))))))
  exact key
/-! _law_less -/
abbrev s_law_less : Stmt := topS 43
theorem sc_law_less : FnScope (["_law_one", "_law_other"] : List Str) (["_law_one", "_law_other"] : List Str) (defScope s_law_less) := ⟨rfl, rfl, rfl, by decide +kernel, rfl, by decide +kernel, by decide +kernel⟩
noncomputable def dn_law_less : Fs :=
  sRt (e2 gLt (e2 gMulI (e2 gIx (eV 0) (eC (.int 0))) (e2 gIx (eV 1) (eC (.int 1)))) (e2 gMulI (e2 gIx (eV 1) (eC (.int 0))) (e2 gIx (eV 0) (eC (.int 1)))))
noncomputable def Ph_law_less := runP dn_law_less 2 2
theorem Ph_law_less_len (ds : List PyData) (z : PyData) (h : Ph_law_less ds = some z) : ds.length = 2 := runP_len ds z h
theorem ok_law_less (T : Wd P K mg) : FnOk P w K mg base CX0 1 T.a_law_less T.fd_law_less (["_law_one", "_law_other"] : List Str) (spP K 2 Ph_law_less) := by
  have key := okP (ca := T.ca) (P := P) (w := w) (mg := mg) (base := base) (k := 0) (n := 2) T.F_law_less sc_law_less rfl fun cdv A outer s H E hr => (have nd := sc_law_less.nd; dss_one (ds_ret (de_cmp op_lt o2_B (de_op op_mulG o2_mulI (de_ix ix_seq o2_ix (de_v 0) (de_int) (fun _ _ => rfl)) (de_ix ix_seq o2_ix (de_v 1) (de_int) (fun _ _ => rfl))) (de_op op_mulG o2_mulI (de_ix ix_seq o2_ix (de_v 1) (de_int) (fun _ _ => rfl)) (de_ix ix_seq o2_ix (de_v 0) (de_int) (fun _ _ => rfl))) (nomark _))))
  exact key
/-! older -/
abbrev s_older : Stmt := topS 33
theorem sc_older : FnScope (["row", "age", "numbers", "under"] : List Str) (["row", "age"] : List Str) (defScope s_older) := ⟨rfl, rfl, rfl, by decide +kernel, rfl, by decide +kernel, by decide +kernel⟩
noncomputable def dn_older : Fs :=
  sSeq (sEx (eA Ph_need_row (lCons (eV 0) (lNil))))
  (sSeq (sEx (eA Ph_need_from_zero (lCons (eV 1) (lNil))))
  (sSeq (sIf (tB' (e2 gEq (eV 1) (eC (.int 0)))) (sRt (eTup (lCons (eC (.int 1)) (lCons (eC (.int 1)) (lNil))))) (sNx))
  (sSeq (sSet (e2 gIx (eA Ph_row_series (lCons (eV 0) (lCons (e2 gSub (eV 1) (eC (.int 1))) (lNil)))) (e1 gNeg (eC (.int 1)))) (g2 2 (gsC (g1 2) (gsC (g1 3) (gsN)))))
  (sRt (eA Ph_fraction (lCons (eA gSum (lCons (eV 2) (lNil))) (lCons (eV 3) (lNil))))))))
noncomputable def Ph_older := runP dn_older 4 2
theorem Ph_older_len (ds : List PyData) (z : PyData) (h : Ph_older ds = some z) : ds.length = 2 := runP_len ds z h
theorem ok_older (T : Wd P K mg) : FnOk P w K mg base CX0 6 T.a_older T.fd_older (["row", "age"] : List Str) (spP K 2 Ph_older) := by
  have key := okP (ca := T.ca) (P := P) (w := w) (mg := mg) (base := base) (k := 5) (n := 2) T.F_older sc_older rfl fun cdv A outer s H E hr => (have nd := sc_older.nd; dss_cons (ds_expr (de_call (ok_need_row T) Ph_need_row_len (hr.mono (by decide)) (by rfl) T.m_need_row T.F_need_row.kp T.n_need_row (da_cons (de_v 0) (da_nil))))
    (dss_cons (ds_expr (de_call (ok_need_from_zero T) Ph_need_from_zero_len (hr.mono (by decide)) (by rfl) T.m_need_from_zero T.F_need_from_zero.kp T.n_need_from_zero (da_cons (de_v 1) (da_nil))))
    (dss_cons (ds_if (dt_cmp (op_eqD (hu64 hr)) o2_eq (de_v 1) (de_int) (nomark _)) (dss_one (ds_ret (de_tup (da_cons (de_int) (da_cons (de_int) (da_nil)))))) (dss_nil))
    (dss_cons (ds_asg (de_ix ix_seq o2_ix (de_call (ok_row_series T) Ph_row_series_len (hr.mono (by decide)) (by rfl) T.m_row_series T.F_row_series.kp T.n_row_series (da_cons (de_v 0) (da_cons (de_op op_sub o2_sub (de_v 1) (de_int)) (da_nil)))) (de_un un_neg o1_neg (de_int)) (fun _ _ => rfl)) (dg_tup (n := 2) rfl (dgs_cons (dg_name 2 nd) (dgs_cons (dg_name 3 nd) (dgs_nil)))))
    (dss_one (ds_ret (de_call (ok_fraction T) Ph_fraction_len (hr.mono (by decide)) (by rfl) T.m_fraction T.F_fraction.kp T.n_fraction (da_cons (de_B (cr_sum rfl) oA_sum (by rfl) T.b_sum (by decide +kernel) (da_cons (de_v 2) (da_nil))) (da_cons (de_v 3) (da_nil))))))))))
  exact key
/-! _law_years_right -/
abbrev s_law_years_right : Stmt := topS 46
theorem sc_law_years_right : FnScope (["_law_row_here", "_law_age", "_law_label_here", "_law_told_here", "_law_years", "_law_place_here", "_law_year", "_law_share", "_law_holds", "_law_end"] : List Str) (["_law_row_here", "_law_age", "_law_label_here", "_law_told_here", "_law_years"] : List Str) (defScope s_law_years_right) := ⟨rfl, rfl, rfl, by decide +kernel, rfl, by decide +kernel, by decide +kernel⟩
noncomputable def lp_law_years_right_1 : Fs :=
  sSeq (sSet (eA Ph_older_in (lCons (eV 0) (lCons (eV 1) (lCons (eV 6) (lNil))))) (g1 7))
  (sSeq (sSet (eAn (eNotN (eV 7)) (eNo (eA Ph_law_less (lCons (eV 7) (lCons (eV 2) (lNil)))))) (g1 8))
  (sIf (tB' (e2 gNe (eV 8) (e2 gGe (eV 6) (eV 5)))) (sRt (eC (.bool false))) (sNx)))
noncomputable def dn_law_years_right : Fs :=
  sSeq (sSet (eA Ph_law_place (lCons (eV 3) (lNil))) (g1 5))
  (sSeq (sFor (iSeq (eV 4)) (g1 6) (lp_law_years_right_1))
  (sSeq (sSet (eA Ph_older (lCons (eV 0) (lCons (eV 1) (lNil)))) (g1 9))
  (sSeq (sIf (tAn (tB' (e2 gEq (eV 5) (eC (.int 301)))) (tNo (tTr (eA Ph_law_less (lCons (eV 2) (lCons (eV 9) (lNil))))))) (sRt (eC (.bool false))) (sNx))
  (sRt (eOr (e2 gNe (eV 5) (eC (.int 302))) (eNo (eA Ph_law_less (lCons (eV 2) (lCons (eV 9) (lNil))))))))))
noncomputable def Ph_law_years_right := runP dn_law_years_right 10 5
theorem Ph_law_years_right_len (ds : List PyData) (z : PyData) (h : Ph_law_years_right ds = some z) : ds.length = 5 := runP_len ds z h
theorem ok_law_years_right (T : Wd P K mg) : FnOk P w K mg base CX0 8 T.a_law_years_right T.fd_law_years_right (["_law_row_here", "_law_age", "_law_label_here", "_law_told_here", "_law_years"] : List Str) (spP K 5 Ph_law_years_right) := by
  have key := okP (ca := T.ca) (P := P) (w := w) (mg := mg) (base := base) (k := 7) (n := 5) T.F_law_years_right sc_law_years_right rfl fun cdv A outer s H E hr => (have nd := sc_law_years_right.nd; dss_cons (ds_set 5 nd (de_call (ok_law_place T) Ph_law_place_len (hr.mono (by decide)) (by rfl) T.m_law_place T.F_law_place.kp T.n_law_place (da_cons (de_v 3) (da_nil))))
    (dss_cons (ds_for rfl (di_seq (de_v 4)) (dg_name 6 nd) (dss_cons (ds_set 7 nd (de_call (ok_older_in T) Ph_older_in_len (hr.mono (by decide)) (by rfl) T.m_older_in T.F_older_in.kp T.n_older_in (da_cons (de_v 0) (da_cons (de_v 1) (da_cons (de_v 6) (da_nil))))))
    (dss_cons (ds_set 8 nd (de_and (de_notN (de_v 7)) (de_one (de_not (de_call (ok_law_less T) Ph_law_less_len (hr.mono (by decide)) (by rfl) T.m_law_less T.F_law_less.kp T.n_law_less (da_cons (de_v 7) (da_cons (de_v 2) (da_nil))))))))
    (dss_one (ds_if (dt_cmp (op_neD (hu64 hr)) o2_ne (de_v 8) (de_cmp op_ge o2_B (de_v 6) (de_v 5) (nomark _)) (nomark _)) (dss_one (ds_ret (de_bl))) (dss_nil))))))
    (dss_cons (ds_set 9 nd (de_call (ok_older T) Ph_older_len (hr.mono (by decide)) (by rfl) T.m_older T.F_older.kp T.n_older (da_cons (de_v 0) (da_cons (de_v 1) (da_nil)))))
    (dss_cons (ds_if (PW.pt (dw_and (dt_cmp (op_eqD (hu64 hr)) o2_eq (de_v 5) (de_int) (nomark _)) (dw_and1 (dt_not (dt_tru (de_call (ok_law_less T) Ph_law_less_len (hr.mono (by decide)) (by rfl) T.m_law_less T.F_law_less.kp T.n_law_less (da_cons (de_v 2) (da_cons (de_v 9) (da_nil))))))))) (dss_one (ds_ret (de_bl))) (dss_nil))
    (dss_one (ds_ret (de_or (de_cmp (op_neD (hu64 hr)) o2_ne (de_v 5) (de_int) (nomark _)) (de_one (de_not (de_call (ok_law_less T) Ph_law_less_len (hr.mono (by decide)) (by rfl) T.m_law_less T.F_law_less.kp T.n_law_less (da_cons (de_v 2) (da_cons (de_v 9) (da_nil)))))))))))))
  exact key
/-! _law_right -/
abbrev s_law_right : Stmt := topS 47
theorem sc_law_right : FnScope (["_law_keg_here", "_law_row_here", "_law_age", "_law_label_here", "_law_told_here", "_law_years", "_law_lower", "_law_at"] : List Str) (["_law_keg_here"] : List Str) (defScope s_law_right) := ⟨rfl, rfl, rfl, by decide +kernel, rfl, by decide +kernel, by decide +kernel⟩
noncomputable def dn_law_right : Fs :=
  sSeq (sSet (eM 0 Ph_law_row (lNil)) (g1 1))
  (sSeq (sSet (eM 0 Ph_law_pull (lCons (eC (.int 21)) (lNil))) (g1 2))
  (sSeq (sSet (eM 0 Ph_law_label (lCons (eV 1) (lCons (eV 2) (lNil)))) (g1 3))
  (sSeq (sSet (eA Ph_law_told (lCons (eV 1) (lCons (eV 2) (lCons (eV 3) (lNil))))) (g1 4))
  (sSeq (sIf (tAn (tB' (e2 gEq (e2 gIx (eV 4) (eC (.int 0))) (eC (.str ("many" : PySem.Str))))) (tNo (tTr (eA (Ph_law_same 8) (lCons (e2 gIx (eV 4) (eC (.int 1))) (lCons (eC (.int 300)) (lNil))))))) (sRt (eC (.bool false))) (sNx))
  (sSeq (sIf (tOrr (tB' (e2 gEq (e2 gIx (eV 4) (eC (.int 0))) (eC (.str ("none" : PySem.Str))))) (tAn (tB' (e2 gEq (e2 gIx (eV 4) (eC (.int 0))) (eC (.str ("year" : PySem.Str))))) (tAn (tB' (eNotN (e2 gIx (eV 4) (eC (.int 1))))) (tNinR (e2 gIx (eV 4) (eC (.int 1))) (lCons (eC (.int 301)) (lNil)))))) (sRt (eC (.bool false))) (sNx))
  (sSeq (sSet (e2 gAdd (eF (lLst (lCons (eM 0 Ph_law_pull (lCons (eC (.int 301)) (lNil))) (lCons (eC (.int 300)) (lCons (eM 0 Ph_law_pull (lCons (eC (.int 301)) (lNil))) (lNil)))))) (eF (lRg (eC (.int 31))))) (g1 5))
  (sSeq (sIf (tAn (tB' (e2 gEq (e2 gIx (eV 4) (eC (.int 0))) (eC (.str ("year" : PySem.Str))))) (tB' (eNotN (e2 gIx (eV 4) (eC (.int 1)))))) (sSet (e2 gAdd (eV 5) (eF (lLst (lCons (e2 gIx (eV 4) (eC (.int 1))) (lCons (eA gMax2 (lCons (eC (.int 0)) (lCons (e2 gSub (e2 gIx (eV 4) (eC (.int 1))) (eC (.int 1))) (lNil)))) (lCons (eA gMin2 (lCons (eC (.int 300)) (lCons (e2 gAdd (e2 gIx (eV 4) (eC (.int 1))) (eC (.int 1))) (lNil)))) (lNil))))))) (g1 5)) (sNx))
  (sSeq (sIf (tNo (tTr (eA Ph_law_years_right (lCons (eV 1) (lCons (eV 2) (lCons (eV 3) (lCons (eV 4) (lCons (eV 5) (lNil))))))))) (sRt (eC (.bool false))) (sNx))
  (sSeq (sSet (eA Ph_law_low (lCons (e2 gFdiv (e2 gIx (eV 3) (eC (.int 0))) (eC (.int 2))) (lCons (e2 gIx (eV 3) (eC (.int 1))) (lNil)))) (g1 6))
  (sSeq (sIf (tB' (e2 gGt (eA Ph_law_place (lCons (eA Ph_law_told (lCons (eV 1) (lCons (eV 2) (lCons (eV 6) (lNil))))) (lNil))) (eA Ph_law_place (lCons (eV 4) (lNil))))) (sRt (eC (.bool false))) (sNx))
  (sSeq (sIf (tB' (e2 gLt (eA Ph_law_place (lCons (eA Ph_law_told (lCons (eV 1) (lCons (e2 gAdd (e2 gAdd (eV 2) (eC (.int 1))) (eM 0 Ph_law_pull (lCons (eC (.int 5)) (lNil)))) (lCons (eV 3) (lNil))))) (lNil))) (eA Ph_law_place (lCons (eV 4) (lNil))))) (sRt (eC (.bool false))) (sNx))
  (sSeq (sSet (eM 0 Ph_law_pull (lCons (eA gLen (lCons (eV 1) (lNil))) (lNil))) (g1 7))
  (sRt (eA (Ph_law_same 8) (lCons (eA Ph_law_told (lCons (e2 gAdd (eRevT (eCut (eV 1) (oSo (eV 7)) (oNo))) (eCut (eV 1) (oNo) (oSo (eV 7)))) (lCons (eV 2) (lCons (eV 3) (lNil))))) (lCons (eV 4) (lNil)))))))))))))))))
noncomputable def Ph_law_right := runM dn_law_right 8 1
theorem Ph_law_right_len (ks ds : List PyData) (z : PyData × List PyData) (h : Ph_law_right ks ds = some z) : ds.length + 1 = 1 := runM_len ks ds z h
theorem ok_law_right (T : Wd P K mg) : FnOk P w K mg base CX0 10 T.a_law_right T.fd_law_right (["_law_keg_here"] : List Str) (spM K 1 Ph_law_right) := by
  have key := okM (ca := T.ca) (P := P) (w := w) (mg := mg) (base := base) (k := 9) (n := 1) T.F_law_right sc_law_right rfl fun cdv A outer s H E hr => (have nd := sc_law_right.nd; dss_cons (ds_set 1 nd (de_callM 0 (ok_law_row T) Ph_law_row_len (hr.mono (by decide)) (by rfl) T.m_law_row T.F_law_row.kp T.n_law_row (da_nil)))
    (dss_cons (ds_set 2 nd (de_callM 0 (ok_law_pull T) Ph_law_pull_len (hr.mono (by decide)) (by rfl) T.m_law_pull T.F_law_pull.kp T.n_law_pull (da_cons (de_int) (da_nil))))
    (dss_cons (ds_set 3 nd (de_callM 0 (ok_law_label T) Ph_law_label_len (hr.mono (by decide)) (by rfl) T.m_law_label T.F_law_label.kp T.n_law_label (da_cons (de_v 1) (da_cons (de_v 2) (da_nil)))))
    (dss_cons (ds_set 4 nd (de_call (ok_law_told T) Ph_law_told_len (hr.mono (by decide)) (by rfl) T.m_law_told T.F_law_told.kp T.n_law_told (da_cons (de_v 1) (da_cons (de_v 2) (da_cons (de_v 3) (da_nil))))))
    (dss_cons (ds_if (PW.pt (dw_and (dt_cmp (op_eqD (hu64 hr)) o2_eq (de_ix ix_seq o2_ix (de_v 4) (de_int) (fun _ _ => rfl)) (de_str) (nomark _)) (dw_and1 (dt_not (dt_tru (de_call (ok_law_same T 8) (Ph_law_same_len 8) (hr.mono (by decide)) (by rfl) T.m_law_same T.F_law_same.kp T.n_law_same (da_cons (de_ix ix_seq o2_ix (de_v 4) (de_int) (fun _ _ => rfl)) (da_cons (de_int) (da_nil))))))))) (dss_one (ds_ret (de_bl))) (dss_nil))
    (dss_cons (ds_if (PW.pt (dw_or (dt_cmp (op_eqD (hu64 hr)) o2_eq (de_ix ix_seq o2_ix (de_v 4) (de_int) (fun _ _ => rfl)) (de_str) (nomark _)) (dw_or1 (PW.pt (dw_and (dt_cmp (op_eqD (hu64 hr)) o2_eq (de_ix ix_seq o2_ix (de_v 4) (de_int) (fun _ _ => rfl)) (de_str) (nomark _)) (dw_and (dt_notN (de_ix ix_seq o2_ix (de_v 4) (de_int) (fun _ _ => rfl))) (dw_and1 (dt_ninR (de_ix ix_seq o2_ix (de_v 4) (de_int) (fun _ _ => rfl)) (by rfl) T.b_range (da_cons (de_int) (da_nil)))))))))) (dss_one (ds_ret (de_bl))) (dss_nil))
    (dss_cons (ds_set 5 nd (de_op op_addG o2_add (de_f (df_lst (da_cons (de_callM 0 (ok_law_pull T) Ph_law_pull_len (hr.mono (by decide)) (by rfl) T.m_law_pull T.F_law_pull.kp T.n_law_pull (da_cons (de_int) (da_nil))) (da_cons (de_int) (da_cons (de_callM 0 (ok_law_pull T) Ph_law_pull_len (hr.mono (by decide)) (by rfl) T.m_law_pull T.F_law_pull.kp T.n_law_pull (da_cons (de_int) (da_nil))) (da_nil)))))) (de_f (df_listRg rfl (by rfl) T.b_list (by rfl) T.b_range (de_int)))))
    (dss_cons (ds_if (PW.pt (dw_and (dt_cmp (op_eqD (hu64 hr)) o2_eq (de_ix ix_seq o2_ix (de_v 4) (de_int) (fun _ _ => rfl)) (de_str) (nomark _)) (dw_and1 (dt_notN (de_ix ix_seq o2_ix (de_v 4) (de_int) (fun _ _ => rfl)))))) (dss_one (ds_set 5 nd (de_op op_addG o2_add (de_v 5) (de_f (df_lst (da_cons (de_ix ix_seq o2_ix (de_v 4) (de_int) (fun _ _ => rfl)) (da_cons (de_B (call_max2 rfl) oA_max2 (by rfl) T.b_max (by decide +kernel) (da_cons (de_int) (da_cons (de_op op_sub o2_sub (de_ix ix_seq o2_ix (de_v 4) (de_int) (fun _ _ => rfl)) (de_int)) (da_nil)))) (da_cons (de_B (call_min2 rfl) oA_min2 (by rfl) T.b_min (by decide +kernel) (da_cons (de_int) (da_cons (de_op op_addG o2_add (de_ix ix_seq o2_ix (de_v 4) (de_int) (fun _ _ => rfl)) (de_int)) (da_nil)))) (da_nil))))))))) (dss_nil))
    (dss_cons (ds_if (dt_not (dt_tru (de_call (ok_law_years_right T) Ph_law_years_right_len (hr.mono (by decide)) (by rfl) T.m_law_years_right T.F_law_years_right.kp T.n_law_years_right (da_cons (de_v 1) (da_cons (de_v 2) (da_cons (de_v 3) (da_cons (de_v 4) (da_cons (de_v 5) (da_nil))))))))) (dss_one (ds_ret (de_bl))) (dss_nil))
    (dss_cons (ds_set 6 nd (de_call (ok_law_low T) Ph_law_low_len (hr.mono (by decide)) (by rfl) T.m_law_low T.F_law_low.kp T.n_law_low (da_cons (de_op op_fdivG o2_fdiv (de_ix ix_seq o2_ix (de_v 3) (de_int) (fun _ _ => rfl)) (de_int)) (da_cons (de_ix ix_seq o2_ix (de_v 3) (de_int) (fun _ _ => rfl)) (da_nil)))))
    (dss_cons (ds_if (dt_cmp op_gt o2_B (de_call (ok_law_place T) Ph_law_place_len (hr.mono (by decide)) (by rfl) T.m_law_place T.F_law_place.kp T.n_law_place (da_cons (de_call (ok_law_told T) Ph_law_told_len (hr.mono (by decide)) (by rfl) T.m_law_told T.F_law_told.kp T.n_law_told (da_cons (de_v 1) (da_cons (de_v 2) (da_cons (de_v 6) (da_nil))))) (da_nil))) (de_call (ok_law_place T) Ph_law_place_len (hr.mono (by decide)) (by rfl) T.m_law_place T.F_law_place.kp T.n_law_place (da_cons (de_v 4) (da_nil))) (nomark _)) (dss_one (ds_ret (de_bl))) (dss_nil))
    (dss_cons (ds_if (dt_cmp op_lt o2_B (de_call (ok_law_place T) Ph_law_place_len (hr.mono (by decide)) (by rfl) T.m_law_place T.F_law_place.kp T.n_law_place (da_cons (de_call (ok_law_told T) Ph_law_told_len (hr.mono (by decide)) (by rfl) T.m_law_told T.F_law_told.kp T.n_law_told (da_cons (de_v 1) (da_cons (de_op op_addG o2_add (de_op op_addG o2_add (de_v 2) (de_int)) (de_callM 0 (ok_law_pull T) Ph_law_pull_len (hr.mono (by decide)) (by rfl) T.m_law_pull T.F_law_pull.kp T.n_law_pull (da_cons (de_int) (da_nil)))) (da_cons (de_v 3) (da_nil))))) (da_nil))) (de_call (ok_law_place T) Ph_law_place_len (hr.mono (by decide)) (by rfl) T.m_law_place T.F_law_place.kp T.n_law_place (da_cons (de_v 4) (da_nil))) (nomark _)) (dss_one (ds_ret (de_bl))) (dss_nil))
    (dss_cons (ds_set 7 nd (de_callM 0 (ok_law_pull T) Ph_law_pull_len (hr.mono (by decide)) (by rfl) T.m_law_pull T.F_law_pull.kp T.n_law_pull (da_cons (de_B call_lenG oA_len (by rfl) T.b_len PySem.boot_len (da_cons (de_v 1) (da_nil))) (da_nil))))
    (dss_one (ds_ret (de_call (ok_law_same T 8) (Ph_law_same_len 8) (hr.mono (by decide)) (by rfl) T.m_law_same T.F_law_same.kp T.n_law_same (da_cons (de_call (ok_law_told T) Ph_law_told_len (hr.mono (by decide)) (by rfl) T.m_law_told T.F_law_told.kp T.n_law_told (da_cons (de_op op_addG o2_add (de_revT (de_cut (de_v 1) (do_so (de_v 7)) (do_no))) (de_cut (de_v 1) (do_no) (do_so (de_v 7)))) (da_cons (de_v 2) (da_cons (de_v 3) (da_nil))))) (da_cons (de_v 4) (da_nil)))))))))))))))))))
  exact key
/-! _law_keg -/
abbrev s_law_keg : Stmt := topS 37
theorem sc_law_keg : FnScope (["_law_cell", "_law_k"] : List Str) (["_law_cell", "_law_k"] : List Str) (defScope s_law_keg) := ⟨rfl, rfl, rfl, by decide +kernel, rfl, by decide +kernel, by decide +kernel⟩
noncomputable def dn_law_keg : Fs :=
  sRl (lLst (lCons (eA gMax2 (lCons (eC (.int 0)) (lCons (e2 gSub (eA gAbs (lCons (eV 0) (lNil))) (e2 gPow (eC (.int 10)) (eC (.int 18)))) (lNil)))) (lCons (e2 gMod (eA gInt (lCons (e2 gAdd (e2 gMulI (eV 0) (eC (.int 982451653))) (e2 gMulI (e2 gAdd (eV 1) (eC (.int 11))) (eC (.int 104395301)))) (lNil))) (e2 gAdd (e2 gPow (eC (.int 10)) (eC (.int 24))) (eC (.int 7)))) (lCons (eC (.int 0)) (lNil)))))
noncomputable def Ph_law_keg := runL dn_law_keg 2 2
theorem Ph_law_keg_len (ds : List PyData) (z : List PyData) (h : Ph_law_keg ds = some z) : ds.length = 2 := runL_len ds z h
theorem ok_law_keg (T : Wd P K mg) : FnOk P w K mg base CX0 1 T.a_law_keg T.fd_law_keg (["_law_cell", "_law_k"] : List Str) (spL K 2 Ph_law_keg) := by
  have key := okL (ca := T.ca) (P := P) (w := w) (mg := mg) (base := base) (k := 0) (n := 2) T.F_law_keg sc_law_keg rfl fun cdv A outer s H E hr => (have nd := sc_law_keg.nd; dss_one (ds_retL (df_lst (da_cons (de_B (call_max2 rfl) oA_max2 (by rfl) T.b_max (by decide +kernel) (da_cons (de_int) (da_cons (de_op op_sub o2_sub (de_B call_abs oA_abs (by rfl) T.b_abs (by decide +kernel) (da_cons (de_v 0) (da_nil))) (de_op op_powG o2_pow (de_int) (de_int))) (da_nil)))) (da_cons (de_op op_modN o2_mod (de_T call_int1 oA_int (by rfl) T.b_int (by decide +kernel) (da_cons (de_op op_addG o2_add (de_op op_mulG o2_mulI (de_v 0) (de_int)) (de_op op_mulG o2_mulI (de_op op_addG o2_add (de_v 1) (de_int)) (de_int))) (da_nil))) (de_op op_addG o2_add (de_op op_powG o2_pow (de_int) (de_int)) (de_int))) (da_cons (de_int) (da_nil)))))))
  exact key
/-! law -/
abbrev s_law : Stmt := topS 48
theorem sc_law : FnScope (["_law_script", "_law_cells", "_law_k"] : List Str) (["_law_script"] : List Str) (defScope s_law) := ⟨rfl, rfl, rfl, by decide +kernel, rfl, by decide +kernel, by decide +kernel⟩
noncomputable def lp_law_1 : Fs :=
  sIf (tNo (tTr (eMF Ph_law_right (lA Ph_law_keg (lCons (e2 gIx (eV 1) (eV 2)) (lCons (eV 2) (lNil))))))) (sRt (eC (.bool false))) (sNx)
noncomputable def dn_law : Fs :=
  sSeq (sSet (e2 gAdd (eCut (eV 0) (oNo) (oSo (eC (.int 8)))) (eF (lRep (lLst (lCons (eC (.int 0)) (lNil))) (eA gInt (lCons (e2 gEq (eV 0) (eF (lLst (lNil)))) (lNil)))))) (g1 1))
  (sSeq (sFor (iR1 (lCons (eA gLen (lCons (eV 1) (lNil))) (lNil))) (g1 2) (lp_law_1))
  (sRt (eC (.bool true))))
noncomputable def Ph_law := runP dn_law 3 1
theorem Ph_law_len (ds : List PyData) (z : PyData) (h : Ph_law ds = some z) : ds.length = 1 := runP_len ds z h
theorem ok_law (T : Wd P K mg) : FnOk P w K mg base CX0 11 T.a_law T.fd_law (["_law_script"] : List Str) (spP K 1 Ph_law) := by
  have key := okP (ca := T.ca) (P := P) (w := w) (mg := mg) (base := base) (k := 10) (n := 1) T.F_law sc_law rfl fun cdv A outer s H E hr => (have nd := sc_law.nd; dss_cons (ds_set 1 nd (de_op op_addG o2_add (de_cut (de_v 0) (do_no) (do_so (de_int))) (de_f (df_rep (df_lst (da_cons (de_int) (da_nil))) (de_T call_int1 oA_int (by rfl) T.b_int (by decide +kernel) (da_cons (de_cmp (op_eqD (hu64 hr)) o2_eq (de_v 0) (de_f (df_lst (da_nil))) (nomark _)) (da_nil)))))))
    (dss_cons (ds_for rfl (di_r1 (by rfl) T.b_range (da_cons (de_B call_lenG oA_len (by rfl) T.b_len PySem.boot_len (da_cons (de_v 1) (da_nil))) (da_nil))) (dg_name 2 nd) (dss_one (ds_if (dt_not (dt_tru (de_callMF (ok_law_right T) Ph_law_right_len (hr.mono (by decide)) (by rfl) T.m_law_right T.F_law_right.kp T.n_law_right (df_call (ok_law_keg T) Ph_law_keg_len (hr.mono (by decide)) (by rfl) T.m_law_keg T.F_law_keg.kp T.n_law_keg (da_cons (de_ix ix_seq o2_ix (de_v 1) (de_v 2) (fun _ _ => rfl)) (da_cons (de_v 2) (da_nil))))))) (dss_one (ds_ret (de_bl))) (dss_nil))))
    (dss_one (ds_ret (de_bl)))))
  exact key
end
end K75

set_option Elab.async false
set_option linter.all false
set_option maxRecDepth 100000
set_option maxHeartbeats 1000000
/-! values: fractions -/
namespace K75
open PySem PySem.Spec PyProof.Rows L2 Dn
theorem gcd_pos {a b : Int} (hb : 0 < b) : 0 < Nat.gcd a.natAbs b.natAbs := Nat.gcd_pos_of_pos_right _ (by omega)
theorem gcd_lt {a b : Int} {n : Nat} (hb : 0 < b) (h : b.natAbs < n) : Nat.gcd a.natAbs b.natAbs < n := Nat.lt_of_le_of_lt (Nat.gcd_le_right _ (by omega)) h
theorem v_fraction {a b : Int} (hb : 0 < b) (h : b.natAbs < 2 ^ 9000) : Ph_fraction [.int a, .int b] = some (encQ (Rat.divInt a b)) := by
  have e1 : divOk ((Nat.gcd a.natAbs b.natAbs : Nat) : Int) = true := divOk_lt (by have := @gcd_pos a b hb; omega) (by show Nat.gcd a.natAbs b.natAbs < _; exact gcd_lt hb h)
  unfold Ph_fraction
  rw [run2]
  unfold dn_fraction
  simp [show ¬ b = 0 by omega, show ¬ b < 0 by omega, e1, encQ, ← low_num hb, ← low_den hb]
theorem wh_low (a b : Int) : ∀ (k x y : Nat), y < k → ∃ n, whL wt_law_low_1 wb_law_low_1 n [.val (.int a), .val (.int b), .val (.int (x : Int)), .val (.int (y : Int))] = some (.nx, [.val (.int a), .val (.int b), .val (.int ((Nat.gcd x y : Nat) : Int)), .val (.int 0)])
  | 0, x, y, h => absurd h (by omega)
  | k + 1, x, y, h => by
    by_cases h0 : y = 0
    · subst h0
      refine ⟨1, ?_⟩
      exact (whL_stop (by simp [wt_law_low_1]; rfl)).trans (by simp)
    · obtain ⟨n, hn⟩ := wh_low a b k y (x % y) (by have := Nat.mod_lt x (show y > 0 by omega); omega)
      refine ⟨n + 1, ?_⟩
      rw [Nat.gcd_comm y, ← Nat.gcd_rec, Nat.gcd_comm y x] at hn
      have e2 : ((x : Int).fmod (y : Int)) = ((x % y : Nat) : Int) := by
        rw [Int.fmod_eq_emod_of_nonneg _ (by omega)]; rfl
      refine whL_turn (e1 := [.val (.int a), .val (.int b), .val (.int (x : Int)), .val (.int (y : Int))]) (by simp [wt_law_low_1, show 0 < y by omega]) ?_ hn
      simp [wb_law_low_1, h0]
      exact e2
theorem v_law_low {a b : Int} (hb : 0 < b) (h : b.natAbs < 2 ^ 9000) : Ph_law_low [.int a, .int b] = some (encQ (Rat.divInt a b)) := by
  have e1 : divOk ((Nat.gcd a.natAbs b.natAbs : Nat) : Int) = true := divOk_lt (by have := @gcd_pos a b hb; omega) (by show Nat.gcd a.natAbs b.natAbs < _; exact gcd_lt hb h)
  obtain ⟨n, hn⟩ := wh_low a b (b.natAbs + 1) a.natAbs b.natAbs (by omega)
  have hw := sWh_of hn
  have ea : (if a < 0 then -a else a) = (a.natAbs : Int) := by split <;> omega
  have eb : b = (b.natAbs : Int) := by omega
  unfold Ph_law_low
  rw [run2]
  unfold dn_law_low
  simp [ea]
  rw [← eb] at hw
  simp [hw, e1, encQ, ← low_num hb, ← low_den hb]
end K75

set_option Elab.async false
set_option linter.all false
set_option maxRecDepth 100000
set_option maxHeartbeats 1000000
/-! values: fractions' own words -/
namespace K75
open PySem PySem.Spec PyProof.Rows L2 Dn
theorem v_is_integer (i : Int) : Ph_is_integer [.int i] = some (.bool true) := by
  unfold Ph_is_integer
  rw [run1]
  unfold dn_is_integer
  simp
theorem v_is_fraction (q : Rat) : Ph_is_fraction [encQ q] = some (.bool true) := by
  unfold Ph_is_fraction
  rw [run1]
  unfold dn_is_fraction encQ
  simp [v_is_integer, q_coprime, show (1 : Int) ≤ q.den by have := @den_posI q; omega]
theorem v_is_share {q : Rat} (h : 0 ≤ q) (h1 : q ≤ 1) : Ph_is_share [encQ q] = some (.bool true) := by
  have h0 : 0 ≤ q.num := Rat.num_nonneg.mpr h
  have h2 : q.num ≤ q.den := num_le_den.mpr h1
  unfold Ph_is_share
  rw [run1]
  unfold dn_is_share
  simp [v_is_fraction]
  simp [encQ, h0, h2]
theorem same_cm {rr : List PyData → Option PyData} {ds : List PyData} {v : PyData} (hv : ∀ i : Int, gIx v (.int i) = atI ds i) (h1 : ds.length ≤ 1000000) (ih : ∀ d ∈ ds, rr [d, d] = some (.bool true)) :
    kCm (g1 2) (ct_law_same_1 rr) (ce_law_same_1 rr) [2] ((List.range ds.length).map fun (i : Nat) => .int (i : Int), [.val v, .val v, .no]) = some ([], [.val v, .val v, .no]) := by
  have := cm_f (t := ct_law_same_1 rr) (a := ce_law_same_1 rr) (i := 2) (e := [.val v, .val v, .no]) (s := .no) (xs := List.range ds.length) (E := fun (i : Nat) => .int (i : Int)) (D := id) (F := fun _ => .none) (p := fun _ => false) (by rw [List.length_range]; exact h1) rfl rfl fun y hy => ⟨by
    have hy' : y < ds.length := List.mem_range.mp hy
    simp [-gIx, ct_law_same_1, hv, atI_get hy', ih _ (List.getElem_mem hy')], fun h => by cases h⟩
  rw [filter_none] at this
  exact this
theorem gEq_str (s : PySem.Str) (h : PyData.strOk s = true) : gEq (.str s) (.str s) = some (.bool true) := by
  have : gEq (.str s) (.str s) = if SeqAt.shaped (.str s) && SeqAt.shaped (.str s) then some (.bool (PyData.eqv (.str s) (.str s))) else none := rfl
  rw [this]
  simp [SeqAt.shaped, PyData.depth, PyData.canLay0, PyData.eqv, h]
theorem v_law_same (r : Nat) : ∀ (d : PyData), Pl r d → Ph_law_same r [d, d] = some (.bool true) := by
  induction r with
  | zero => intro d h; exact h.elim
  | succ r ih =>
    intro d h
    unfold Ph_law_same
    rw [run2]
    unfold dn_law_same
    cases d with
    | int i => simp
    | none => simp
    | bool b => simp
    | list ds =>
      have h1 := h.list.1
      have hc := same_cm (rr := Ph_law_same r) (v := .list ds) (fun _ => rfl) h1 fun d hd => ih d (h.list.2 d hd)
      have hr := @kR1_len ds.length [.val (.list ds), .val (.list ds), .no] h1
      simp [hr, hc]
    | tuple ds =>
      have h1 := h.tuple.1
      have hc := same_cm (rr := Ph_law_same r) (v := .tuple ds) (fun _ => rfl) h1 fun d hd => ih d (h.tuple.2 d hd)
      have hr := @kR1_len ds.length [.val (.tuple ds), .val (.tuple ds), .no] h1
      simp [hr, hc]
    | str s =>
      have := gEq_str s h
      simp [-gEq, this]
    | dict s => exact h.elim
end K75

set_option Elab.async false
set_option linter.all false
set_option maxRecDepth 100000
set_option maxHeartbeats 1000000
/-! values: series -/
namespace K75
open PySem PySem.Spec PyProof.Rows L2 Dn
theorem v_stepped {M : Nat → Nat → Int} {f : Nat → Int} {m n : Nat} (hm : m ≤ 1000000) (hn : n ≤ 1000000) (hk : ∀ k, k < m → ∀ j, j < n → mulOk (M k j) (f j) = true) :
    Ph_stepped [matP m n M, vecP n f] = some (vecP m fun k => sumN (fun j => M k j * f j) n) := by
  have hc : kCm (g1 2) tYs ce_stepped_2 [2] ((List.range m).map (fun k => vecP n (M k)), [.val (matP m n M), .val (vecP n f), .no, .no, .no]) = some (((List.range m).map fun k => sumN (fun j => M k j * f j) n).map .int, [.val (matP m n M), .val (vecP n f), .no, .no, .no]) := by
    refine cm_a (by simpa using hm) rfl rfl fun k hk' => ?_
    have hc2 := cm_a2 (a := ce_stepped_1) (i := 3) (j := 4) (e := [.val (matP m n M), .val (vecP n f), .val (vecP n (M k)), .no, .no]) (xs := List.range n) (E1 := fun j => .int (M k j)) (E2 := fun j => .int (f j)) (D := .int) (F := fun j => M k j * f j) (by simpa using hn) (by decide) rfl rfl rfl fun j hj => by
      simp [ce_stepped_1, hk k (List.mem_range.mp hk') j (List.mem_range.mp hj)]
    simp [-items, -gSum, -List.map_map, ce_stepped_2, kZp_vec, hc2, vec_fold, sum_vec]
  unfold Ph_stepped
  rw [run2]
  unfold dn_stepped
  simp [-items, -List.map_map, items_mat, hc, vec_fold]
theorem v_over_years {M : Nat → Nat → Int} {f0 : Nat → Int} {m years : Nat} {B sb : Int} (hm : m ≤ 1000) (hy : years ≤ 1000) (hk : ∀ y, y < years → ∀ k, k < m → ∀ j, j < m → mulOk (M k j) (ser M m f0 y j) = true) (hb : ∀ y, y < years → mulOk (sb * B ^ y) B = true) :
    Ph_over_years [matP m m M, .int B, vecP m f0, .int sb, .int years] = some (.list (oyP M m f0 B sb years)) := by
  have hl := for_ix (tg := g1 6) (f := lp_over_years_1) (S := fun (n : Nat) (e : En) => ∃ s6 s7 s8, e = [.val (matP m m M), .val (.int B), .val (vecP m f0), .val (.int sb), .val (.int years), .own false (oyP M m f0 B sb n), s6, s7, s8])
    (E := fun (i : Nat) => .int (i : Int)) (n := years) (e := [.val (matP m m M), .val (.int B), .val (vecP m f0), .val (.int sb), .val (.int years), .own false (oyP M m f0 B sb 0), .no, .no, .no]) ⟨_, _, _, rfl⟩ fun i hi e ⟨s6, s7, s8, he⟩ => by
      subst he
      have h1 := v_stepped (m := m) (n := m) (M := M) (f := ser M m f0 i) (by omega) (by omega) (hk i hi)
      refine ⟨_, [.val (matP m m M), .val (.int B), .val (vecP m f0), .val (.int sb), .val (.int years), .own false (oyP M m f0 B sb (i + 1)), .val (.int i), .val (vecP m (ser M m f0 i)), .val (.int (sb * B ^ i))], .nx, rfl, ?_, .inl rfl, ⟨_, _, _, rfl⟩⟩
      simp [lp_over_years_1, oy_last, oyD, h1, hb i hi]
      rw [kApp2_ok (by rw [oy_len]; omega), ← oy_succ]
      simp [oyD, ser, Int.pow_succ, Int.mul_assoc]
  obtain ⟨e', h1, s6, s7, s8, rfl⟩ := hl
  unfold Ph_over_years
  rw [run5]
  unfold dn_over_years
  have e0 : oyP M m f0 B sb 0 = [.tuple [vecP m f0, .int sb]] := by simp [oyP, oyD, ser]
  rw [e0] at h1
  simp [kOf_vec, kR1_len (show years ≤ 1000000 by omega), show PyData.list ((List.range m).map fun i => .int (f0 i)) = vecP m f0 from rfl, h1]
end K75

set_option Elab.async false
set_option linter.all false
set_option maxRecDepth 100000
set_option maxHeartbeats 1000000
/-! values: rows -/
namespace K75
open PySem PySem.Spec PyProof.Rows L2 Dn
theorem v_is_row {r : List Rat} {c : Nat} (h : RowC c r) : Ph_is_row [rowP r] = some (.bool true) := by
  have hc := cm_a (a := ce_is_row_1) (i := 1) (e := [.val (rowP r), .no]) (xs := r) (E := encQ) (D := .bool) (F := fun _ => true) (by have := h.len.2; omega) rfl rfl fun q hq => by
    simp [ce_is_row_1, v_is_share (Rat.le_of_lt (h.pos q hq)) (h.le1 q hq)]
    simp [encQ, numQ_pos.mpr (h.pos q hq)]
  have hl := h.len
  unfold Ph_is_row
  rw [run1]
  unfold dn_is_row
  simp [-gAll, -items, -isT, -gLen, -List.map_map, gLen_row, items_row, hc, all_true, show (1 : Int) ≤ r.length by omega, show (r.length : Int) ≤ 6 by omega, isT_row]
theorem v_need_row {r : List Rat} {c : Nat} (h : RowC c r) : Ph_need_row [rowP r] = some .none := by
  unfold Ph_need_row
  rw [run1]
  unfold dn_need_row
  simp [v_is_row h]
theorem v_need_from_zero (n : Nat) : Ph_need_from_zero [.int (n : Int)] = some .none := by
  unfold Ph_need_from_zero
  rw [run1]
  unfold dn_need_from_zero
  simp [show ¬ (n : Int) < 0 by omega]
theorem v_common_below {v : PyData} {l : List Rat} {D : Nat} (hv : items v = some (l.map encQ)) (hD : 0 < D) (hD2 : D < 2 ^ 4000) (hd : ∀ q ∈ l, q.den ∣ D) : Ph_common_below [v] = some (.int (lcms l : Int)) := by
  have hl := for_at0 (tg := g1 2) (f := lp_common_below_1) (E := encQ) (xs := l) (S := fun (n : Nat) (e : En) => ∃ s, e = [.val v, .val (.int (lcms (l.take n) : Int)), s]) (e := [.val v, .val (.int 1), .no]) ⟨_, rfl⟩ fun i q hi e ⟨s, he⟩ => by
    subst he
    have hq := List.mem_of_getElem? hi
    have h1 : lcms (l.take i) ≤ D := Nat.le_of_dvd hD (lcms_dvd fun p hp => hd p (List.mem_of_mem_take hp))
    have h2 : q.den ≤ D := Nat.le_of_dvd hD (hd q hq)
    have e4 : (2 : Nat) ^ 4000 ≤ 2 ^ 6000 := Nat.pow_le_pow_right (by decide) (by decide)
    have h3 : lcmOk (lcms (l.take i) : Int) (q.den : Int) = true := by
      unfold lcmOk
      rw [Bool.and_eq_true]
      exact ⟨decide_eq_true (by show lcms (l.take i) < _; omega), decide_eq_true (by show q.den < _; omega)⟩
    refine ⟨_, [.val v, .val (.int (lcms (l.take (i + 1)) : Int)), .val (encQ q)], .nx, rfl, ?_, .inl rfl, ⟨_, rfl⟩⟩
    have e5 : l.take (i + 1) = l.take i ++ [q] := by rw [List.take_add_one, hi]; rfl
    rw [e5, lcms_snoc]
    simp [lp_common_below_1, encQ, h3]
  obtain ⟨e', h1, s, rfl⟩ := hl
  unfold Ph_common_below
  rw [run1]
  unfold dn_common_below
  rw [List.take_length] at h1
  simp [-items, hv, h1]
theorem v_over_below {v : PyData} {l : List Rat} {B : Nat} (hv : items v = some (l.map encQ)) (hl : l.length ≤ 1000000) (hB : B < 2 ^ 4000) (hd : ∀ q ∈ l, q.den ∣ B) (h0 : 0 < B) (hn : ∀ q ∈ l, q.num.natAbs < 2 ^ 60000) :
    Ph_over_below [v, .int (B : Int)] = some (.list ((l.map (sh B)).map .int)) := by
  have hc := cm_a (a := ce_over_below_1) (i := 2) (e := [.val v, .val (.int (B : Int)), .no]) (xs := l) (E := encQ) (D := .int) (F := sh B) hl rfl rfl fun q hq => by
    have h1 : q.den ≤ B := Nat.le_of_dvd h0 (hd q hq)
    have e4 : (2 : Nat) ^ 4000 ≤ 2 ^ 9000 := Nat.pow_le_pow_right (by decide) (by decide)
    have h2 : divOk (q.den : Int) = true := divOk_lt (by have := @den_posI q; omega) (by show q.den < _; omega)
    have h3 : mulOk q.num (((B / q.den : Nat) : Int)) = true := mulOk_lt (hn q hq) (by
      show B / q.den < _
      have := Nat.div_le_self B q.den
      have e5 : (2 : Nat) ^ 4000 ≤ 2 ^ 60000 := Nat.pow_le_pow_right (by decide) (by decide)
      omega)
    have e6 : (B : Int).fdiv (q.den : Int) = ((B / q.den : Nat) : Int) := by rw [fdiv_nn, Int.natCast_ediv]
    simp [ce_over_below_1, encQ, h2, e6, sh]
    rw [← Int.natCast_ediv, h3]
  unfold Ph_over_below
  rw [run2]
  unfold dn_over_below
  simp [-items, -List.map_map, hv, hc]
end K75

set_option Elab.async false
set_option linter.all false
set_option maxRecDepth 100000
set_option maxHeartbeats 1000000
/-! values: rows' tables and series -/
namespace K75
open PySem PySem.Spec PyProof.Rows L2 Dn
theorem v_row_table' {r : List Rat} {c : Nat} (h : RowC c r) (hB : rB r < 2 ^ 4000) (hn : ∀ q ∈ r, q.num.natAbs < 2 ^ 60000) : Ph_row_table [rowP r] = some (.tuple [matP r.length r.length (rM r), .int (rB r : Int)]) := by
  have h1 := v_common_below (v := rowP r) (l := r) (D := rB r) rfl rB_pos hB fun q hq => den_lcms hq
  have h2 := v_over_below (v := rowP r) (l := r) (B := rB r) rfl h.len6 hB (fun q hq => den_lcms hq) rB_pos hn
  have h3 : fbRows [.val (rowP r), .val (.int (rB r : Int)), .val (.list ((r.map (sh (rB r))).map .int)), .no, .no, .no] = some (.rt (.tuple [matP r.length r.length (rM r), .int (rB r : Int)]), List.replicate 6 .no) := by
    show (intsOf ((r.map (sh (rB r))).map .int)).bind _ = _
    rw [intsOf_map]
    simp only [Option.bind_some, List.length_map, true_and]
    rw [if_pos (by have := h.len.2; omega), rows_mat]
  unfold Ph_row_table
  rw [run1]
  unfold dn_row_table
  simp [-List.map_map, h1, show (lcms r) = rB r from rfl, h2, h3]
theorem v_row_table {r : List Rat} (h : RowOk r) : Ph_row_table [rowP r] = some (.tuple [matP r.length r.length (rM r), .int (rB r : Int)]) := v_row_table' h (rB_lt4 h) h.num
theorem v_row_series {r : List Rat} (h : RowOk r) {n : Nat} (hn : n ≤ 60) : Ph_row_series [rowP r, .int (n : Int)] = some (.list (rowS r n)) := by
  have h1 := v_over_years (M := rM r) (f0 := e0) (m := r.length) (years := n) (B := (rB r : Int)) (sb := 1) (by have := h.len.2; omega) (by omega) (fun y hy k hk j hj => rM_mul h (by omega) hk hj) fun y hy => rB_mul h (by omega)
  unfold Ph_row_series
  rw [run2]
  unfold dn_row_series
  have hl := h.len
  have h2 : kRep2 [.int 0] (.int ((r.length : Int) - 1), [.val (rowP r), .val (.int (n : Int)), .val (matP r.length r.length (rM r)), .val (.int (rB r : Int))]) = some (reps ((r.length : Int) - 1) [.int 0], [.val (rowP r), .val (.int (n : Int)), .val (matP r.length r.length (rM r)), .val (.int (rB r : Int))]) := kRep2_n (by omega) (by simp) (by omega)
  have h3 : okN (1 + (reps ((r.length : Int) - 1) [PyData.int 0]).length) = true := by
    unfold reps
    rw [rep_one', List.length_replicate]
    exact okN_of (by omega)
  have h4 := start_vec r.length hl.1
  simp [-gLen, v_row_table h, gLen_row, h2, h3]
  rw [show PyData.int 1 :: reps ((r.length : Int) - 1) [PyData.int 0] = [.int 1] ++ reps ((r.length : Int) - 1) [PyData.int 0] from rfl, h4, h1]
  simp [rowS]
end K75

set_option Elab.async false
set_option linter.all false
set_option maxRecDepth 100000
set_option maxHeartbeats 1000000
/-! values: longer fractions, series of 300 years -/
namespace K75
open PySem PySem.Spec PyProof.Rows L2 Dn
theorem v_need_fraction (q : Rat) : Ph_need_fraction [encQ q] = some .none := by
  unfold Ph_need_fraction
  rw [run1]
  unfold dn_need_fraction
  simp [v_is_fraction]
theorem v_need_share {q : Rat} (h : 0 ≤ q) (h1 : q ≤ 1) : Ph_need_share [encQ q] = some .none := by
  unfold Ph_need_share
  rw [run1]
  unfold dn_need_share
  simp [v_is_share h h1]
theorem v_less {x y : Rat} (hx : Sz x) (hy : Sz y) : Ph_less [encQ x, encQ y] = some (encQ (x - y)) := by
  unfold Ph_less
  rw [run2]
  unfold dn_less
  simp [v_need_fraction]
  simp [show encQ x = .tuple [.int x.num, .int x.den] from rfl, show encQ y = .tuple [.int y.num, .int y.den] from rfl, hx.nd hy, hy.nd hx, hx.dd hy, v_fraction dd_pos (hx.ddlt hy), q_sub]
/-- sizes: both numbers below 2 ^ n -/
structure Zs (n : Nat) (q : Rat) : Prop where
  den : q.den < 2 ^ n
  num : q.num.natAbs < 2 ^ n
theorem Zs.of01 {n : Nat} {q : Rat} (h : q.den < 2 ^ n) (h0 : 0 ≤ q) (h1 : q ≤ 1) : Zs n q := by
  have a1 := Rat.num_nonneg.mpr h0
  have a2 := num_le_den.mpr h1
  exact ⟨h, by omega⟩
theorem Zs.dI {n m : Nat} {q : Rat} (h : Zs n q) (hm : n ≤ m) : (q.den : Int).natAbs < 2 ^ m := lt_pow (by show q.den < _; exact h.den) hm
theorem Zs.nI {n m : Nat} {q : Rat} (h : Zs n q) (hm : n ≤ m) : q.num.natAbs < 2 ^ m := lt_pow h.num hm
def cmpQ (x y : Rat) : Int := (if y < x then 1 else 0) - (if x < y then 1 else 0)
theorem cmp_ge {x y : Rat} : (0 ≤ cmpQ x y) ↔ y ≤ x := by
  unfold cmpQ
  by_cases h : y < x
  · rw [if_pos h, if_neg (by grind)]
    exact ⟨fun _ => Rat.le_of_lt h, fun _ => by decide⟩
  · rw [if_neg h]
    by_cases h2 : x < y
    · rw [if_pos h2]
      exact ⟨fun z => absurd z (by decide), fun z => absurd h2 (by grind)⟩
    · rw [if_neg h2]
      exact ⟨fun _ => by grind, fun _ => by decide⟩
theorem cmp_le {x y : Rat} : (cmpQ x y ≤ 0) ↔ x ≤ y := by
  unfold cmpQ
  by_cases h : y < x
  · rw [if_pos h, if_neg (by grind)]
    exact ⟨fun z => absurd z (by decide), fun z => absurd h (by grind)⟩
  · rw [if_neg h]
    exact ⟨fun _ => by grind, fun _ => by split <;> decide⟩
theorem lt_nd (x y : Rat) : (x.num * (y.den : Int) < y.num * (x.den : Int)) ↔ x < y := (Rat.lt_iff x y).symm
theorem v_compared {x y : Rat} (hx : Zs 9000 x) (hy : Zs 9000 y) : Ph_compared [encQ x, encQ y] = some (.int (cmpQ x y)) := by
  have h1 : mulOk x.num (y.den : Int) = true := mulOk_lt (hx.nI (by decide)) (hy.dI (by decide))
  have h2 : mulOk y.num (x.den : Int) = true := mulOk_lt (hy.nI (by decide)) (hx.dI (by decide))
  unfold Ph_compared
  rw [run2]
  unfold dn_compared
  simp [v_need_fraction]
  simp [show encQ x = .tuple [.int x.num, .int x.den] from rfl, show encQ y = .tuple [.int y.num, .int y.den] from rfl, h1, h2, lt_nd, cmpQ]
theorem v_times {x y : Rat} (hx : Zs 200 x) (hy : Zs 8750 y) : Ph_times [encQ x, encQ y] = some (encQ (x * y)) := by
  have h1 : mulOk x.num y.num = true := mulOk_lt (hx.nI (by decide)) (hy.nI (by decide))
  have h2 : mulOk (x.den : Int) (y.den : Int) = true := mulOk_lt (hx.dI (by decide)) (hy.dI (by decide))
  have h3 : ((x.den : Int) * (y.den : Int)).natAbs < 2 ^ 9000 := by
    rw [Int.natAbs_mul]
    exact lt_pow (mul_pow (hx.dI (Nat.le_refl 200)) (hy.dI (Nat.le_refl 8750))) (by decide)
  unfold Ph_times
  rw [run2]
  unfold dn_times
  simp [v_need_fraction]
  simp [show encQ x = .tuple [.int x.num, .int x.den] from rfl, show encQ y = .tuple [.int y.num, .int y.den] from rfl, h1, h2, v_fraction dd_pos h3, q_mul]
theorem v_row_series3 {r : List Rat} (h : Row3 r) {n : Nat} (hn : n ≤ 300) : Ph_row_series [rowP r, .int (n : Int)] = some (.list (rowS r n)) := by
  have hl := h.ok.len
  have h1 := v_over_years (M := rM r) (f0 := e0) (m := r.length) (years := n) (B := (rB r : Int)) (sb := 1) (by omega) (by omega) (fun y hy k hk j hj => h.rM_mul (by omega) hk hj) fun y hy => h.rB_mul (by omega)
  unfold Ph_row_series
  rw [run2]
  unfold dn_row_series
  have h2 : kRep2 [.int 0] (.int ((r.length : Int) - 1), [.val (rowP r), .val (.int (n : Int)), .val (matP r.length r.length (rM r)), .val (.int (rB r : Int))]) = some (reps ((r.length : Int) - 1) [.int 0], [.val (rowP r), .val (.int (n : Int)), .val (matP r.length r.length (rM r)), .val (.int (rB r : Int))]) := kRep2_n (by omega) (by simp) (by omega)
  have h3 : okN (1 + (reps ((r.length : Int) - 1) [PyData.int 0]).length) = true := by
    unfold reps
    rw [rep_one', List.length_replicate]
    exact okN_of (by omega)
  have h4 := start_vec r.length hl.1
  simp [-gLen, v_row_table h.ok, gLen_row, h2, h3]
  rw [show PyData.int 1 :: reps ((r.length : Int) - 1) [PyData.int 0] = [.int 1] ++ reps ((r.length : Int) - 1) [PyData.int 0] from rfl, h4, h1]
  simp [rowS]
theorem v_frac_rest {r : List Rat} (h : Row3 r) {y : Nat} (hy : y ≤ 301) : Ph_fraction [.int ((rB r : Int) ^ y - rN r y), .int ((rB r : Int) ^ y)] = some (encQ (1 - rS r y)) := by
  rw [v_fraction (pB0 y) (lt_pow (h.aB hy) (by decide)), divInt_rest (pB0 y)]
  rfl
theorem v_tap_total {r : List Rat} (h : Row3 r) {y : Nat} (hy : y ≤ 300) : Ph_tap_total [rowP r, .int (y : Int)] = some (encQ (1 - rS r y)) := by
  unfold Ph_tap_total
  rw [run2]
  unfold dn_tap_total
  have h3 : atI (rowS r y) (-1) = some (oyD (rM r) r.length e0 (rB r : Int) 1 y) := oy_last
  have h4 := v_frac_rest h (y := y) (by omega)
  simp [-gSum, v_need_row h.ok, v_need_from_zero, v_row_series3 h hy, h3, oyD, sum_vec]
  rw [show sumN (ser (rM r) r.length e0 y) r.length = rN r y from rfl, h4]
  rfl
theorem rest_z {r : List Rat} (h : Row3 r) {y : Nat} (hy : y ≤ 301) : Zs 8750 (1 - rS r y) := by
  have h1 : (1 - rS r y).den ≤ rB r ^ y := Nat.le_of_dvd (powB_pos y) (((Pt.int (D := rB r ^ y) 1).sub (rS_pt y)).den_dvd (powB_pos y))
  have h2 := h.powB hy
  refine Zs.of01 (lt_pow (a := 8740) (by omega) (by decide)) ?_ ?_
  · have := rS_le1 h.ok y; grind
  · have := rS_nonneg h.ok y; grind
theorem Zs.up {n m : Nat} {q : Rat} (h : Zs n q) (hm : n ≤ m) : Zs m q := ⟨lt_pow h.den hm, lt_pow h.num hm⟩
end K75

set_option Elab.async false
set_option linter.all false
set_option maxRecDepth 100000
set_option maxHeartbeats 1000000
/-! label_from -/
namespace K75
open PySem PySem.Spec PyProof.Rows L2 Dn
theorem Zs.sz {q : Rat} (h : Zs 200 q) : Sz q := ⟨lt_pow h.den (by decide), lt_pow h.num (by decide)⟩
theorem Zs.rest {q : Rat} (h : Zs 200 q) (h0 : 0 ≤ q) (h1 : q ≤ 1) : Zs 200 (1 - q) := by
  have e := Rat.num_divInt_den q
  have hp : Pt q.den q := ⟨q.num, by
    rw [Rat.divInt_eq_div] at e
    have d2 : ((q.den : Int) : Rat) = (q.den : Rat) := rfl
    rw [d2] at e
    have h2 : (q.num : Rat) / (q.den : Rat) * (q.den : Rat) = q * (q.den : Rat) := by rw [e]
    have := natQ_pos (@den_pos q)
    grind⟩
  have h2 : (1 - q).den ≤ q.den := Nat.le_of_dvd den_pos (((Pt.int 1).sub hp).den_dvd den_pos)
  exact Zs.of01 (Nat.lt_of_le_of_lt h2 h.den) (by grind) (by grind)
theorem Zs.mul {x y : Rat} (hx : Zs 200 x) (hy : Zs 8750 y) (h0 : 0 ≤ x * y) (h1 : x * y ≤ 1) : Zs 9000 (x * y) := by
  refine Zs.of01 ?_ h0 h1
  have e := q_mul x y
  have h2 : (x * y).den ≤ x.den * y.den := by
    rw [← e, Rat.den_divInt, if_neg (by have := Int.mul_pos (@den_posI x) (@den_posI y); omega)]
    exact Nat.le_trans (Nat.div_le_self _ _) (by
      have : ((x.den : Int) * (y.den : Int)).natAbs = x.den * y.den := by rw [Int.natAbs_mul]; rfl
      omega)
  exact Nat.lt_of_le_of_lt h2 (lt_pow (mul_pow hx.den hy.den) (by decide))
def lbE (r : List Rat) (a : Nat) (q : Rat) (i : Nat) (s9 : Sl) : En := [.val (rowP r), .val (.int (a : Int)), .val (encQ q), .val (encQ (1 - rS r (a - 1))), .val (encQ (1 - q)), .val (matP r.length r.length (rM r)), .val (.int (rB r : Int)), .val (vecP r.length (rv r (a + i))), .val (.int ((rB r : Int) ^ (a + i))), s9]
theorem lb_turn {r : List Rat} (h : Row3 r) {a i : Nat} (ha : r.length < a) (hi : a + i ≤ 300) {q : Rat} (hq : Zs 200 q) (h0 : 0 ≤ q) (h1 : q ≤ 1) :
    (hit r a q (a + i) → lpx_label_from_1 (lbE r a q i (.val (.int ((a + i : Nat) : Int)))) = some (.rt (.int ((a + i : Nat) : Int)), lbE r a q i (.val (.int ((a + i : Nat) : Int))))) ∧
    (¬ hit r a q (a + i) → lpx_label_from_1 (lbE r a q i (.val (.int ((a + i : Nat) : Int)))) = some (.nx, lbE r a q (i + 1) (.val (.int ((a + i : Nat) : Int))))) := by
  have hm := h.ok.len
  have f1 := v_frac_rest h (y := a + i) (by omega)
  have z1 := rest_z h (y := a + i) (by omega)
  have z2 := hq.rest h0 h1
  have f2 := v_times z2 z1
  have b1 : 0 ≤ 1 - rS r (a + i) := by have := rS_le1 h.ok (a + i); grind
  have b2 : 1 - rS r (a + i) ≤ 1 := by have := rS_nonneg h.ok (a + i); grind
  have b3 : 0 ≤ 1 - q := by grind
  have z3 : Zs 9000 ((1 - q) * (1 - rS r (a + i))) := z2.mul z1 (Rat.mul_nonneg b3 b1) (by
    have := Rat.mul_le_mul_of_nonneg_right (show 1 - q ≤ 1 by grind) b1
    grind)
  have f3 := v_compared ((rest_z h (y := a - 1) (by omega)).up (show 8750 ≤ 9000 by decide)) z3
  have f4 := v_stepped (m := r.length) (n := r.length) (M := rM r) (f := rv r (a + i)) (by omega) (by omega) fun k hk j hj => h.rM_mul (show a + i ≤ 301 by omega) hk hj
  have f5 : mulOk ((rB r : Int) ^ (a + i)) (rB r : Int) = true := by have := h.rB_mul (y := a + i) (by omega); rwa [Int.one_mul] at this
  have hx := hit_iff h.ok (q := q) ha (show a ≤ a + i by omega)
  have hs : sumN (rv r (a + i)) r.length = rN r (a + i) := rfl
  unfold lbE
  refine ⟨fun z => ?_, fun z => ?_⟩
  · have c1 := cmp_le.mpr (hx.mp z)
    simp [-gSum, -Int.natCast_add, lpx_label_from_1, sum_vec, hs, f1, f2, f3, c1]
  · have c1 : ¬ cmpQ (1 - rS r (a - 1)) ((1 - q) * (1 - rS r (a + i))) ≤ 0 := fun z2 => z (hx.mpr (cmp_le.mp z2))
    simp [-gSum, -Int.natCast_add, lpx_label_from_1, sum_vec, hs, f1, f2, f3, c1, f4, f5]
    refine ⟨rfl, ?_⟩
    rw [← Nat.add_assoc, Int.pow_succ]
theorem v_label_early {r : List Rat} (h : Row3 r) {a : Nat} {q : Rat} (h0 : 0 ≤ q) (h1 : q ≤ 1) (hz : q = 0 ∨ a ≤ r.length) : Phx_label_from [rowP r, .int (a : Int), encQ q] = some (.ok (.int (r.length : Int))) := by
  have q0 : gIx (encQ q) (.int 0) = some (.int q.num) := by simp [encQ]
  unfold Phx_label_from
  rw [runX3]
  unfold dnx_label_from
  by_cases c : q.num = 0
  · simp [-gIx, -gLen, v_need_row h.ok, v_need_from_zero, v_need_share h0 h1, q0, c, gLen_row]
  · have : a ≤ r.length := hz.resolve_left fun z => c (numQ_0.mpr z)
    simp [-gIx, -gLen, v_need_row h.ok, v_need_from_zero, v_need_share h0 h1, q0, c, gLen_row, this]
theorem v_label_late {r : List Rat} (h : Row3 r) {a : Nat} (ha : a ≤ 300) {q : Rat} (hq : Zs 200 q) (h0 : 0 < q) (h1 : q ≤ 1) (hz : r.length < a) :
    Phx_label_from [rowP r, .int (a : Int), encQ q] = if q < rS r (a - 1) then endX (sSeq (sFor (iR2 (lCons (eV 1) (lCons (eC (.int 301)) (lNil)))) (g1 9) (lpx_label_from_1)) (sRaise "TooMany" (eC (.int 300))) (lbE r a q 0 .no)) else some (.ok .none) := by
  have hm := h.ok.len
  have q0 : gIx (encQ q) (.int 0) = some (.int q.num) := by simp [encQ]
  have c : ¬ q.num = 0 := fun z => by have := numQ_0.mp z; rw [this] at h0; exact absurd h0 (by decide)
  have h0' := Rat.le_of_lt h0
  have f1 := v_tap_total h (y := a - 1) (by omega)
  rw [show (((a - 1 : Nat) : Int)) = (a : Int) - 1 by omega] at f1
  have f2 := v_less Sz.one hq.sz
  rw [show encQ 1 = PyData.tuple [PyData.int 1, PyData.int 1] from rfl] at f2
  have f3 := v_compared ((rest_z h (y := a - 1) (by omega)).up (show 8750 ≤ 9000 by decide)) ((hq.rest h0' h1).up (show 200 ≤ 9000 by decide))
  have f4 : atI (rowS r a) (-1) = some (oyD (rM r) r.length e0 (rB r : Int) 1 a) := oy_last
  unfold Phx_label_from
  rw [runX3]
  unfold dnx_label_from
  by_cases z : q < rS r (a - 1)
  · have c2 : ¬ 0 ≤ cmpQ (1 - rS r (a - 1)) (1 - q) := fun z2 => by have := cmp_ge.mp z2; grind
    rw [if_pos z]
    unfold lbE
    simp [-gIx, -gLen, v_need_row h.ok, v_need_from_zero, v_need_share h0' h1, q0, c, gLen_row, show ¬ a ≤ r.length by omega, f1, f2, f3, c2, v_row_table h.ok, v_row_series3 h ha]
    simp [f4, oyD]
    rfl
  · have c2 : 0 ≤ cmpQ (1 - rS r (a - 1)) (1 - q) := cmp_ge.mpr (by grind)
    rw [if_neg z]
    simp [-gIx, -gLen, v_need_row h.ok, v_need_from_zero, v_need_share h0' h1, q0, c, gLen_row, show ¬ a ≤ r.length by omega, f1, f2, f3, c2]
theorem v_label_at {r : List Rat} (h : Row3 r) {a t : Nat} (ha : a ≤ 300) (ht : t ≤ 300) {q : Rat} (hq : Zs 200 q) (h0 : 0 ≤ q) (h1 : q ≤ 1) (hh : hit r a q t) (hn : ∀ i, i < t → ¬ hit r a q i) :
    Phx_label_from [rowP r, .int (a : Int), encQ q] = some (.ok (.int (t : Int))) := by
  by_cases hz : q = 0 ∨ a ≤ r.length
  · have h2 := hit_n h.ok h1 hz
    have h3 := hit_ge h.ok hh
    have h4 : t = r.length := by
      by_cases c : r.length < t
      · exact absurd h2 (hn _ c)
      · omega
    rw [h4]
    exact v_label_early h h0 h1 hz
  · have ha' : r.length < a := by omega
    have h0' : 0 < q := Rat.not_le.mp fun z => hz (.inl (Rat.le_antisymm z h0))
    have hge := hit_age h0' hh
    rw [v_label_late h ha hq h0' h1 ha', if_pos (hit_more h.ok h0' h1 ha' hh)]
    have hl := for_ret (tg := g1 9) (f := lpx_label_from_1) (E := fun (i : Nat) => .int ((a + i : Nat) : Int)) (n := t - a) (N := 301 - a) (r := .rt (.int (t : Int))) (Z := fun _ => True)
      (S := fun (i : Nat) (e : En) => ∃ s9, e = lbE r a q i s9) (e := lbE r a q 0 .no) (by omega) (fun _ _ => trivial) ⟨_, rfl⟩ (fun i hi e ⟨s9, he⟩ => by
        subst he
        exact ⟨_, _, .nx, rfl, (lb_turn h ha' (by omega) hq h0 h1).2 (hn _ (by omega)), .inl rfl, ⟨_, rfl⟩⟩) fun e ⟨s9, he⟩ => by
        subst he
        have h3 := (lb_turn h ha' (i := t - a) (by omega) hq h0 h1).1
        rw [show a + (t - a) = t by omega] at h3
        refine ⟨_, _, ?_, h3 hh, fun ds => rfl⟩
        show _ = _
        rw [show a + (t - a) = t by omega]
        rfl
    obtain ⟨e', h3⟩ := hl
    have hr := @kR2_len a 301 (lbE r a q 0 .no) (by omega) (by omega)
    unfold lbE at hr h3 ⊢
    simp at hr h3
    simp [hr, h3]
theorem v_label_no {r : List Rat} (h : Row3 r) {a : Nat} (ha : a ≤ 300) {q : Rat} (hq : Zs 200 q) (h0 : 0 ≤ q) (h1 : q ≤ 1) (hn : ∀ i, i < 301 → ¬ hit r a q i) :
    Phx_label_from [rowP r, .int (a : Int), encQ q] = some (if q < rS r (a - 1) then .ex "TooMany" (.int 300) else .ok .none) := by
  have hm := h.ok.len
  have hz : ¬ (q = 0 ∨ a ≤ r.length) := fun hz => hn r.length (by omega) (hit_n h.ok h1 hz)
  have ha' : r.length < a := by omega
  have h0' : 0 < q := Rat.not_le.mp fun z => hz (.inl (Rat.le_antisymm z h0))
  rw [v_label_late h ha hq h0' h1 ha']
  by_cases c : q < rS r (a - 1)
  · rw [if_pos c, if_pos c]
    have hl := for_ix (tg := g1 9) (f := lpx_label_from_1) (E := fun (i : Nat) => .int ((a + i : Nat) : Int)) (n := 301 - a)
      (S := fun (i : Nat) (e : En) => ∃ s9, e = lbE r a q i s9) (e := lbE r a q 0 .no) ⟨_, rfl⟩ fun i hi e ⟨s9, he⟩ => by
        subst he
        exact ⟨_, _, .nx, rfl, (lb_turn h ha' (by omega) hq h0 h1).2 (hn _ (by omega)), .inl rfl, ⟨_, rfl⟩⟩
    obtain ⟨e', h3, s9, rfl⟩ := hl
    have hr := @kR2_len a 301 (lbE r a q 0 .no) (by omega) (by omega)
    unfold lbE at hr h3 ⊢
    simp at hr h3
    simp [hr, h3]
  · rw [if_neg c, if_neg c]
end K75

set_option Elab.async false
set_option linter.all false
set_option maxRecDepth 100000
set_option maxHeartbeats 1000000
/-! values: long fractions, what is older -/
namespace K75
open PySem PySem.Spec PyProof.Rows L2 Dn
/-- rows of k75 -/
structure Row75 (r : List Rat) : Prop where
  r3 : Row3 r
  small : rB r ≤ 2 ^ 18
theorem Row75.powB {r : List Rat} (h : Row75 r) {y : Nat} (hy : y ≤ 300) : rB r ^ y < 2 ^ 5401 := by
  have h2 : rB r ^ y ≤ (2 ^ 18) ^ y := Nat.pow_le_pow_left h.small y
  rw [← Nat.pow_mul] at h2
  exact Nat.lt_of_le_of_lt h2 (Nat.pow_lt_pow_right (by decide) (by omega))
theorem rest_z5 {r : List Rat} (h : Row75 r) {y : Nat} (hy : y ≤ 300) : Zs 5401 (1 - rS r y) := by
  have h1 : (1 - rS r y).den ≤ rB r ^ y := Nat.le_of_dvd (powB_pos y) (((Pt.int (D := rB r ^ y) 1).sub (rS_pt y)).den_dvd (powB_pos y))
  have h2 := h.powB hy
  refine Zs.of01 (Nat.lt_of_le_of_lt h1 h2) ?_ ?_
  · have := rS_le1 h.r3.ok y; grind
  · have := rS_nonneg h.r3.ok y; grind
theorem long_ok {i g : Int} (hg : 0 < g) (hi : i.natAbs < 2 ^ 13000) : (divOk g || divNear i g) = true := by
  rw [Bool.or_eq_true]
  by_cases c : g.natAbs.log2 < 9000
  · left
    unfold divOk
    rw [decide_eq_true (show g ≠ 0 by omega), decide_eq_true c]
    rfl
  · right
    unfold divNear
    refine @decide_eq_true _ (Classical.propDecidable _) ⟨by omega, ?_⟩
    have := log_of hi (by decide)
    omega
theorem v_fractionL {a b : Int} (hb : 0 < b) (ha : a.natAbs < 2 ^ 13000) (hb2 : b.natAbs < 2 ^ 13000) : Ph_fraction [.int a, .int b] = some (encQ (Rat.divInt a b)) := by
  have hg : 0 < ((Nat.gcd a.natAbs b.natAbs : Nat) : Int) := by have := @gcd_pos a b hb; omega
  have e1 := long_ok hg ha
  have e2 := long_ok hg hb2
  unfold Ph_fraction
  rw [run2]
  unfold dn_fraction
  simp only [Bool.or_eq_true] at e1 e2
  simp [show ¬ b = 0 by omega, show ¬ b < 0 by omega, e1, e2, encQ, ← low_num hb, ← low_den hb]
theorem v_over {x y : Rat} (hx : Zs 5401 x) (hy : Zs 5401 y) (h0 : 0 < y) : Ph_over [encQ x, encQ y] = some (encQ (x / y)) := by
  have hn := numQ_pos.mpr h0
  have h1 : 0 < (x.den : Int) * y.num := Int.mul_pos den_posI hn
  have hne : y ≠ 0 := fun z => by rw [z] at h0; exact absurd h0 (by decide)
  have m1 : mulOk x.num (y.den : Int) = true := mulOk_lt (hx.nI (by decide)) (hy.dI (by decide))
  have m2 : mulOk (x.den : Int) y.num = true := mulOk_lt (hx.dI (by decide)) (hy.nI (by decide))
  have f1 : (x.num * (y.den : Int)).natAbs < 2 ^ 13000 := by
    rw [Int.natAbs_mul]; exact lt_pow (mul_pow (hx.nI (Nat.le_refl 5401)) (hy.dI (Nat.le_refl 5401))) (by decide)
  have f2 : ((x.den : Int) * y.num).natAbs < 2 ^ 13000 := by
    rw [Int.natAbs_mul]; exact lt_pow (mul_pow (hx.dI (Nat.le_refl 5401)) (hy.nI (Nat.le_refl 5401))) (by decide)
  unfold Ph_over
  rw [run2]
  unfold dn_over
  simp [v_need_fraction]
  simp [show encQ x = .tuple [.int x.num, .int x.den] from rfl, show encQ y = .tuple [.int y.num, .int y.den] from rfl, show ¬ y.num = 0 by omega, m1, m2, v_fractionL h1 f1 f2, q_div x y hne]
theorem v_less1 {y : Rat} (hy : Zs 12000 y) : Ph_less [.tuple [.int 1, .int 1], encQ y] = some (encQ (1 - y)) := by
  have e1 : PyData.tuple [.int 1, .int 1] = encQ 1 := rfl
  have hn : (1 : Rat).num = 1 := rfl
  have hd : (1 : Rat).den = 1 := rfl
  have one : (1 : Nat) < 2 ^ 60000 := Nat.one_lt_two_pow (by decide)
  have m1 : mulOk 1 (y.den : Int) = true := mulOk_lt one (hy.dI (by decide))
  have m2 : mulOk y.num 1 = true := mulOk_lt (hy.nI (by decide)) one
  have f1 : ((y.den : Int) - y.num).natAbs < 2 ^ 13000 := by
    have a1 := hy.nI (Nat.le_refl 12000)
    have a2 := hy.dI (Nat.le_refl 12000)
    refine lt_pow (a := 12001) ?_ (by decide)
    rw [Nat.pow_succ]
    omega
  have f2 : (y.den : Int).natAbs < 2 ^ 13000 := hy.dI (by decide)
  have hq := q_sub 1 y
  rw [hn, hd, show ((1 : Nat) : Int) = 1 from rfl, Int.one_mul, Int.mul_one] at hq
  have hf := v_fractionL (a := (y.den : Int) - y.num) (b := (y.den : Int)) den_posI f1 f2
  rw [hq] at hf
  have hnf := v_need_fraction 1
  rw [← e1] at hnf
  unfold Ph_less
  rw [run2]
  unfold dn_less
  simp [v_need_fraction, hnf]
  simp [show encQ y = .tuple [.int y.num, .int y.den] from rfl, m1, m2, hf]
noncomputable def oldV (r : List Rat) (a y : Nat) : Rat := 1 - (1 - rS r (min (a - 1) y)) / (1 - rS r y)
theorem old_z {r : List Rat} (h : Row75 r) {a y : Nat} (hy : y ≤ 300) (hp : 0 < 1 - rS r y) : Zs 12000 ((1 - rS r (min (a - 1) y)) / (1 - rS r y)) ∧ 0 ≤ (1 - rS r (min (a - 1) y)) / (1 - rS r y) ∧ (1 - rS r (min (a - 1) y)) / (1 - rS r y) ≤ 1 := by
  have ok := h.r3.ok
  have hmy : min (a - 1) y ≤ y := Nat.min_le_right _ _
  have hm := rS_mono ok hmy
  have e : (1 - rS r (min (a - 1) y)) / (1 - rS r y) * (1 - rS r y) = 1 - rS r (min (a - 1) y) := by grind
  have b0 : 0 ≤ (1 - rS r (min (a - 1) y)) / (1 - rS r y) := by
    refine Rat.not_lt.mp fun z => ?_
    have := Rat.mul_lt_mul_of_pos_right z hp
    have := rS_le1 ok (min (a - 1) y)
    grind
  have b1 : (1 - rS r (min (a - 1) y)) / (1 - rS r y) ≤ 1 := by
    refine Rat.not_lt.mp fun z => ?_
    have := Rat.mul_lt_mul_of_pos_right z hp
    grind
  refine ⟨Zs.of01 ?_ b0 b1, b0, b1⟩
  have hn := numQ_pos.mpr hp
  have zx := rest_z5 h (y := min (a - 1) y) (by omega)
  have zy := rest_z5 h hy
  have e2 := q_div (1 - rS r (min (a - 1) y)) (1 - rS r y) (fun z => by rw [z] at hp; exact absurd hp (by decide))
  have hb := Int.mul_pos (@den_posI (1 - rS r (min (a - 1) y))) hn
  rw [← e2, Rat.den_divInt, if_neg (by omega)]
  refine Nat.lt_of_le_of_lt (Nat.div_le_self _ _) ?_
  rw [Int.natAbs_mul]
  exact lt_pow (mul_pow (zx.dI (Nat.le_refl 5401)) (zy.nI (Nat.le_refl 5401))) (by decide)
theorem v_older_in {r : List Rat} (h : Row75 r) {a y : Nat} (hy : y ≤ 300) : Ph_older_in [rowP r, .int (a : Int), .int (y : Int)] = some (if rS r y = 1 then .none else encQ (oldV r a y)) := by
  have ok := h.r3.ok
  have hmin : (if (y : Int) < (if (0 : Int) > (a : Int) - 1 then 0 else (a : Int) - 1) then (y : Int) else (if (0 : Int) > (a : Int) - 1 then 0 else (a : Int) - 1)) = ((min (a - 1) y : Nat) : Int) := by
    have : (if (0 : Int) > (a : Int) - 1 then 0 else (a : Int) - 1) = ((a - 1 : Nat) : Int) := by split <;> omega
    rw [this]
    split <;> omega
  have hmin' : (if (y : Int) < (if (a : Int) - 1 < 0 then 0 else (a : Int) - 1) then (y : Int) else (if (a : Int) - 1 < 0 then 0 else (a : Int) - 1)) = ((min (a - 1) y : Nat) : Int) := hmin
  have hmy : min (a - 1) y ≤ y := Nat.min_le_right _ _
  have h1 := v_tap_total h.r3 hy
  have h2 := v_tap_total h.r3 (y := min (a - 1) y) (by omega)
  have hi : ∀ q : Rat, gIx (encQ q) (.int 0) = some (.int q.num) := fun q => by simp [encQ]
  have hs : ∀ S : Rat, 1 - S = 0 ↔ S = 1 := fun S => by grind
  unfold Ph_older_in
  rw [run3]
  unfold dn_older_in
  by_cases h0 : rS r y = 1
  · have hz : (1 - rS r y).num = 0 := numQ_0.mpr ((hs _).mpr h0)
    rw [if_pos h0]
    simp [-gIx, v_need_row ok, v_need_from_zero, h1, hi, hz]
  · have hp : 0 < 1 - rS r y := by
      have := rS_le1 ok y
      grind
    have hn := numQ_pos.mpr hp
    obtain ⟨z1, _, _⟩ := old_z h (a := a) hy hp
    have hl := v_less1 z1
    rw [if_neg h0]
    simp [-gIx, v_need_row ok, v_need_from_zero, h1, hi, show ¬ (1 - rS r y).num = 0 by omega]
    rw [hmin']
    simp [h2, v_over (rest_z5 h (show min (a - 1) y ≤ 300 by omega)) (rest_z5 h hy) hp, hl, oldV]
theorem v_older {r : List Rat} (h : Row75 r) {a : Nat} (ha : a ≤ 300) : Ph_older [rowP r, .int (a : Int)] = some (encQ (rS r (a - 1))) := by
  have ok := h.r3.ok
  unfold Ph_older
  rw [run2]
  unfold dn_older
  cases a with
  | zero =>
    have h1 := v_need_from_zero 0
    simp at h1
    simp [v_need_row ok, h1]
    rw [rS_0 ok]
    rfl
  | succ a =>
    have h1 := v_need_from_zero (a + 1)
    have h2 := v_row_series3 h.r3 (n := a) (by omega)
    rw [show (((a + 1 : Nat) : Int)) = (a : Int) + 1 by omega] at h1 ⊢
    have h3 : atI (rowS r a) (-1) = some (oyD (rM r) r.length e0 (rB r : Int) 1 a) := oy_last
    have h4 := v_fraction (a := rN r a) (pB0 a) (lt_pow (h.r3.aB (y := a) (by omega)) (by decide))
    have e1 : (a : Int) + 1 - 1 = a := by omega
    simp [-gSum, v_need_row ok, h1, show ¬ (a : Int) + 1 = 0 by omega, e1, h2, h3, oyD, sum_vec]
    rw [show sumN (ser (rM r) r.length e0 a) r.length = rN r a from rfl, h4]
    simp [rS]
/-- what a year holds -/
theorem holds_iff {r : List Rat} (h : Row75 r) {a y : Nat} {q : Rat} : (rS r y ≠ 1 ∧ ¬ oldV r a y < q) ↔ hit r a q y := by
  have ok := h.r3.ok
  unfold hit oldV
  by_cases h0 : rS r y = 1
  · exact ⟨fun z => absurd h0 z.1, fun z => absurd h0 z.1⟩
  · have hp : 0 < 1 - rS r y := by
      have := rS_le1 ok y
      grind
    have hne : 1 - rS r y ≠ 0 := fun z => by rw [z] at hp; exact absurd hp (by decide)
    refine ⟨fun z => ⟨h0, ?_⟩, fun z => ⟨h0, ?_⟩⟩
    · have z2 := Rat.not_lt.mp z.2
      by_cases c : y < a
      · rw [if_pos c]
        rw [show min (a - 1) y = y by omega] at z2
        have e : (1 : Rat) - (1 - rS r y) / (1 - rS r y) = 0 := by
          generalize 1 - rS r y = t at *
          grind
        rw [e] at z2; exact z2
      · rw [if_neg c]
        rw [show min (a - 1) y = a - 1 by omega] at z2
        have h3 := Rat.mul_le_mul_of_nonneg_right z2 (Rat.le_of_lt hp)
        have e : (1 - (1 - rS r (a - 1)) / (1 - rS r y)) * (1 - rS r y) = rS r (a - 1) - rS r y := by
          generalize rS r (a - 1) = s
          generalize rS r y = t at *
          grind
        rw [e] at h3; exact h3
    · have z2 := z.2
      refine Rat.not_lt.mpr ?_
      by_cases c : y < a
      · rw [if_pos c] at z2
        rw [show min (a - 1) y = y by omega]
        have e : (1 : Rat) - (1 - rS r y) / (1 - rS r y) = 0 := by
          generalize 1 - rS r y = t at *
          grind
        rw [e]; exact z2
      · rw [if_neg c] at z2
        rw [show min (a - 1) y = a - 1 by omega]
        refine Rat.not_lt.mp fun w => ?_
        have h3 := Rat.mul_lt_mul_of_pos_right w hp
        have e : (1 - (1 - rS r (a - 1)) / (1 - rS r y)) * (1 - rS r y) = rS r (a - 1) - rS r y := by
          generalize rS r (a - 1) = s
          generalize rS r y = t at *
          grind
        rw [e] at h3
        exact absurd z2 (Rat.not_le.mpr h3)
end K75

set_option Elab.async false
set_option linter.all false
set_option maxRecDepth 100000
set_option maxHeartbeats 1000000
/-! what is told, where it stands, the years -/
namespace K75
open PySem PySem.Spec PyProof.Rows L2 Dn
theorem gEq_strs {s t : PySem.Str} (hs : PyData.strOk s = true) (ht : PyData.strOk t = true) : gEq (.str s) (.str t) = some (.bool (PyData.eqv (.str s) (.str t))) := by
  have : gEq (.str s) (.str t) = if SeqAt.shaped (.str s) && SeqAt.shaped (.str t) then some (.bool (PyData.eqv (.str s) (.str t))) else none := rfl
  rw [this]
  simp [SeqAt.shaped, PyData.depth, PyData.canLay0, hs, ht]
theorem okY : PyData.strOk ("year" : PySem.Str) = true := by decide +kernel
theorem okM' : PyData.strOk ("many" : PySem.Str) = true := by decide +kernel
theorem okN' : PyData.strOk ("none" : PySem.Str) = true := by decide +kernel
theorem yy : gEq (.str ("year" : PySem.Str)) (.str ("year" : PySem.Str)) = some (.bool true) := by rw [gEq_strs okY okY]; rw [show PyData.eqv (.str ("year" : PySem.Str)) (.str ("year" : PySem.Str)) = true by decide +kernel]
theorem ym : gEq (.str ("year" : PySem.Str)) (.str ("many" : PySem.Str)) = some (.bool false) := by rw [gEq_strs okY okM']; rw [show PyData.eqv (.str ("year" : PySem.Str)) (.str ("many" : PySem.Str)) = false by decide +kernel]
theorem yn : gEq (.str ("year" : PySem.Str)) (.str ("none" : PySem.Str)) = some (.bool false) := by rw [gEq_strs okY okN']; rw [show PyData.eqv (.str ("year" : PySem.Str)) (.str ("none" : PySem.Str)) = false by decide +kernel]
theorem my : gEq (.str ("many" : PySem.Str)) (.str ("year" : PySem.Str)) = some (.bool false) := by rw [gEq_strs okM' okY]; rw [show PyData.eqv (.str ("many" : PySem.Str)) (.str ("year" : PySem.Str)) = false by decide +kernel]
theorem mm : gEq (.str ("many" : PySem.Str)) (.str ("many" : PySem.Str)) = some (.bool true) := by rw [gEq_strs okM' okM']; rw [show PyData.eqv (.str ("many" : PySem.Str)) (.str ("many" : PySem.Str)) = true by decide +kernel]
theorem mn : gEq (.str ("many" : PySem.Str)) (.str ("none" : PySem.Str)) = some (.bool false) := by rw [gEq_strs okM' okN']; rw [show PyData.eqv (.str ("many" : PySem.Str)) (.str ("none" : PySem.Str)) = false by decide +kernel]
def plS (o : Option (Option Nat)) : PySem.Str := match o with
  | none => "many"
  | _ => "year"
def plV (o : Option (Option Nat)) : PyData := match o with
  | some (some t) => .int (t : Int)
  | some none => .none
  | none => .int 300
def plD (o : Option (Option Nat)) : PyData := .tuple [.str (plS o), plV o]
theorem pl_ok (o : Option (Option Nat)) : Pl 8 (plD o) := by
  refine Pl.mkT ⟨by simp, fun d hd => ?_⟩
  simp at hd
  match o, hd with
  | some (some t), hd =>
    rcases hd with rfl | rfl
    · exact okY
    · trivial
  | some none, hd =>
    rcases hd with rfl | rfl
    · exact okY
    · trivial
  | none, hd =>
    rcases hd with rfl | rfl
    · exact okM'
    · trivial
theorem place_some {r : List Rat} (a : Nat) (q : Rat) : ∃ o, Place r a q o := by
  by_cases hx : ∃ t, t ≤ 300 ∧ hit r a q t
  · obtain ⟨t0, h0, h1⟩ := hx
    have key : ∀ n, hit r a q n → ∃ t, t ≤ n ∧ hit r a q t ∧ ∀ i, i < t → ¬ hit r a q i := by
      intro n
      induction n using Nat.strongRecOn with
      | ind n ih =>
        intro h
        by_cases hx : ∃ m, m < n ∧ hit r a q m
        · obtain ⟨m, hm, hp⟩ := hx
          obtain ⟨t, h1, h2, h3⟩ := ih m hm hp
          exact ⟨t, by omega, h2, h3⟩
        · exact ⟨n, Nat.le_refl n, h, fun i hi hp => hx ⟨i, hi, hp⟩⟩
    obtain ⟨t, h2, h3, h4⟩ := key t0 h1
    exact ⟨some (some t), by omega, h3, h4⟩
  · have hn : ∀ i, i < 301 → ¬ hit r a q i := fun i hi z => hx ⟨i, by omega, z⟩
    by_cases c : q < rS r (a - 1)
    · exact ⟨none, hn, c⟩
    · exact ⟨some none, hn, c⟩
theorem v_law_told {r : List Rat} (h : Row3 r) {a : Nat} (ha : a ≤ 300) {q : Rat} (hq : Zs 200 q) (h0 : 0 ≤ q) (h1 : q ≤ 1) {o : Option (Option Nat)} (ho : Place r a q o) :
    Ph_law_told [rowP r, .int (a : Int), encQ q] = some (plD o) := by
  unfold Ph_law_told
  rw [run3]
  unfold dn_law_told
  match o, ho with
  | some (some t), ⟨a1, a2, a3⟩ =>
    have hl := v_label_at h ha a1 hq h0 h1 a2 a3
    simp [hl, plD, plS, plV]
  | some none, ⟨a1, a2⟩ =>
    have hl := v_label_no h ha hq h0 h1 a1
    rw [if_neg a2] at hl
    simp [hl, plD, plS, plV]
  | none, ⟨a1, a2⟩ =>
    have hl := v_label_no h ha hq h0 h1 a1
    rw [if_pos a2] at hl
    simp [hl, plD, plS, plV, kTry_ex]
theorem v_law_place (o : Option (Option Nat)) : Ph_law_place [plD o] = some (.int (plN o : Int)) := by
  unfold Ph_law_place
  rw [run1]
  unfold dn_law_place
  match o with
  | some (some t) => simp [-gEq, plD, plS, plV, plN, ym]
  | some none => simp [-gEq, plD, plS, plV, plN, ym]
  | none => simp [-gEq, plD, plS, plV, plN, mm]
theorem v_law_less {x y : Rat} (hx : Zs 13000 x) (hy : Zs 13000 y) : Ph_law_less [encQ x, encQ y] = some (.bool (decide (x < y))) := by
  have h1 : mulOk x.num (y.den : Int) = true := mulOk_lt (hx.nI (by decide)) (hy.dI (by decide))
  have h2 : mulOk y.num (x.den : Int) = true := mulOk_lt (hy.nI (by decide)) (hx.dI (by decide))
  unfold Ph_law_less
  rw [run2]
  unfold dn_law_less
  simp [show encQ x = .tuple [.int x.num, .int x.den] from rfl, show encQ y = .tuple [.int y.num, .int y.den] from rfl, h1, h2, lt_nd]
theorem rest13 {y : Rat} (hy : Zs 12000 y) (h0 : 0 ≤ y) (h1 : y ≤ 1) : Zs 13000 (1 - y) := by
  have e := Rat.num_divInt_den y
  have hp : Pt y.den y := ⟨y.num, by
    rw [Rat.divInt_eq_div] at e
    have d2 : ((y.den : Int) : Rat) = (y.den : Rat) := rfl
    rw [d2] at e
    have h2 : (y.num : Rat) / (y.den : Rat) * (y.den : Rat) = y * (y.den : Rat) := by rw [e]
    have := natQ_pos (@den_pos y)
    grind⟩
  have h2 : (1 - y).den ≤ y.den := Nat.le_of_dvd den_pos (((Pt.int 1).sub hp).den_dvd den_pos)
  exact Zs.of01 (lt_pow (a := 12000) (Nat.lt_of_le_of_lt h2 hy.den) (by decide)) (by grind) (by grind)
theorem rS_z {r : List Rat} (h : Row75 r) {y : Nat} (hy : y ≤ 300) : Zs 13000 (rS r y) := by
  have h1 := rS_den h.r3.ok y
  have h2 := h.powB hy
  exact Zs.of01 (lt_pow (a := 5401) (by omega) (by decide)) (rS_nonneg h.r3.ok y) (rS_le1 h.r3.ok y)
theorem ne_bb (b : Bool) : gNe (.bool b) (.bool b) = some (.bool false) := by cases b <;> simp
theorem years_turn {r : List Rat} (h : Row75 r) {a y : Nat} (hy : y ≤ 300) {q : Rat} (hq : Zs 200 q) (h0 : 0 ≤ q) (h1 : q ≤ 1) {o : Option (Option Nat)} (ho : Place r a q o) {v3 v4 s7 s8 s9 : Sl} :
    ∃ t7 t8, lp_law_years_right_1 [.val (rowP r), .val (.int (a : Int)), .val (encQ q), v3, v4, .val (.int (plN o : Int)), .val (.int (y : Int)), s7, s8, s9] = some (.nx, [.val (rowP r), .val (.int (a : Int)), .val (encQ q), v3, v4, .val (.int (plN o : Int)), .val (.int (y : Int)), t7, t8, s9]) := by
  have ho1 := v_older_in h (a := a) hy
  have hi := place_iff h.r3.ok h0 h1 ho hy
  rw [← holds_iff h] at hi
  have hb : (decide (plN o ≤ y)) = (decide (rS r y ≠ 1) && !decide (oldV r a y < q)) := by
    rw [Bool.eq_iff_iff]
    simp only [decide_eq_true_eq, Bool.and_eq_true, Bool.not_eq_true', decide_eq_false_iff_not]
    exact hi.symm
  by_cases c : rS r y = 1
  · rw [if_pos c] at ho1
    have hf : ¬ plN o ≤ y := fun z => (hi.mpr z).1 c
    have nb := ne_bb false
    refine ⟨.val .none, .val (.bool false), ?_⟩
    simp [-gNe, lp_law_years_right_1, ho1, hf, nb]
  · rw [if_neg c] at ho1
    have hp : 0 < 1 - rS r y := by
      have := rS_le1 h.r3.ok y
      grind
    obtain ⟨z1, z2, z3⟩ := old_z h (a := a) hy hp
    have hl := v_law_less (x := oldV r a y) (y := q) (rest13 z1 z2 z3) (hq.up (by decide))
    obtain ⟨N, D, hX⟩ : ∃ N D : Int, encQ (oldV r a y) = .tuple [.int N, .int D] := ⟨_, _, rfl⟩
    rw [hX] at ho1 hl
    by_cases c2 : oldV r a y < q
    · have hf : ¬ plN o ≤ y := fun z => (hi.mpr z).2 c2
      rw [decide_eq_true c2] at hl
      have nb := ne_bb false
      refine ⟨.val (.tuple [.int N, .int D]), .val (.bool false), ?_⟩
      simp [-gNe, lp_law_years_right_1, ho1, hl, hf, nb]
    · have hf : plN o ≤ y := hi.mp ⟨c, c2⟩
      rw [decide_eq_false c2] at hl
      have nb := ne_bb true
      refine ⟨.val (.tuple [.int N, .int D]), .val (.bool true), ?_⟩
      simp [-gNe, lp_law_years_right_1, ho1, hl, hf, nb]
theorem v_law_years_right {r : List Rat} (h : Row75 r) {a : Nat} (ha : a ≤ 300) {q : Rat} (hq : Zs 200 q) (h0 : 0 ≤ q) (h1 : q ≤ 1) {o : Option (Option Nat)} (ho : Place r a q o) {ys : List Nat} (hys : ∀ y ∈ ys, y ≤ 300) :
    Ph_law_years_right [rowP r, .int (a : Int), encQ q, plD o, .list (ys.map fun (y : Nat) => .int (y : Int))] = some (.bool true) := by
  have hl := for_at0 (tg := g1 6) (f := lp_law_years_right_1) (E := fun (y : Nat) => .int (y : Int)) (xs := ys)
    (S := fun (_ : Nat) (e : En) => ∃ s6 s7 s8, e = [.val (rowP r), .val (.int (a : Int)), .val (encQ q), .val (plD o), .val (.list (ys.map fun (y : Nat) => .int (y : Int))), .val (.int (plN o : Int)), s6, s7, s8, .no])
    (e := [.val (rowP r), .val (.int (a : Int)), .val (encQ q), .val (plD o), .val (.list (ys.map fun (y : Nat) => .int (y : Int))), .val (.int (plN o : Int)), .no, .no, .no, .no]) ⟨_, _, _, rfl⟩ fun i y hi e ⟨s6, s7, s8, he⟩ => by
      subst he
      obtain ⟨t7, t8, h2⟩ := years_turn h (hys y (List.mem_of_getElem? hi)) hq h0 h1 ho (v3 := .val (plD o)) (v4 := .val (.list (ys.map fun (y : Nat) => .int (y : Int)))) (s7 := s7) (s8 := s8) (s9 := .no)
      exact ⟨_, _, .nx, rfl, h2, .inl rfl, ⟨_, _, _, rfl⟩⟩
  obtain ⟨e', h2, s6, s7, s8, rfl⟩ := hl
  have hold := v_older h ha
  have hless := v_law_less (x := q) (y := rS r (a - 1)) (hq.up (by decide)) (rS_z h (show a - 1 ≤ 300 by omega))
  have hp := v_law_place o
  unfold Ph_law_years_right
  rw [run5]
  unfold dn_law_years_right
  match o, ho with
  | some (some t), ⟨a1, a2, a3⟩ =>
    have n1 : ¬ t = 301 := by omega
    have n2 : ¬ t = 302 := by omega
    simp [plN] at hp h2
    simp [-List.map_map, hp, h2, hold, n1, n2, show ¬ (t : Int) = 301 by omega, show ¬ (t : Int) = 302 by omega]
  | some none, ⟨a1, a2⟩ =>
    rw [decide_eq_false a2] at hless
    simp [plN] at hp h2
    simp [-List.map_map, hp, h2, hold, hless]
  | none, ⟨a1, a2⟩ =>
    rw [decide_eq_true a2] at hless
    simp [plN] at hp h2
    simp [-List.map_map, hp, h2, hold, hless]
end K75

set_option Elab.async false
set_option linter.all false
set_option maxRecDepth 100000
set_option maxHeartbeats 1000000
/-! a drawn row -/
namespace K75
open PySem PySem.Spec PyProof.Rows L2 Dn
theorem v_law_pull {n : Nat} {ks : List PyData} {m : Int} (h : KegOk (n + 1) ks) (h0 : 0 < m) (hm : m ≤ 10000000000) : ∃ x ks', Ph_law_pull ks [.int m] = some (.int x, ks') ∧ 0 ≤ x ∧ x < m ∧ KegOk n ks' := by
  obtain ⟨a, b, c, rfl, h1, h2, h3, h4, h5⟩ := h
  have hdm : divOk m = true := divOk_lt (by omega) (lt_pow (a := 40) (by omega) (by decide))
  unfold Ph_law_pull
  rw [runM2]
  unfold dn_law_pull
  by_cases ha : 0 < a
  · refine ⟨a.fmod m, [.int (a.fdiv m), .int b, .int c], ?_, (fmod_lt h0).1, (fmod_lt h0).2, ⟨_, b, c, rfl, fdiv_nonneg h0 h1, h2, h3, h4, by omega⟩⟩
    have hp : ∀ (d : PyData) (e : En), kPut3 0 d (.int 0) e (some (.own true [.int a, .int b, .int c])) = some (.nx, e.set 0 (.own true [d, .int b, .int c])) := fun d e => kPut3_ok (k := 0) (by simp)
    simp [ha, show ¬ m = 0 by omega, hdm, hp]
  · have hc : mulOk (c + 1) 179424673 = true := mulOk_lt (lt_pow (a := 30) (by omega) (by decide)) (lt_pow (a := 30) (by decide) (by decide))
    obtain ⟨P, hP, p28⟩ : ∃ P : Int, P = 10000000000000000000000000000 ∧ gPow (.int 10) (.int 28) = some (.int P) := by
      have : powOk 10 28 = true := by decide +kernel
      exact ⟨_, rfl, by simp [gPow, this]⟩
    obtain ⟨P', hP', p25⟩ : ∃ P : Int, P = 10000000000000000000000000 ∧ gPow (.int 10) (.int 25) = some (.int P) := by
      have : powOk 10 25 = true := by decide +kernel
      exact ⟨_, rfl, by simp [gPow, this]⟩
    have p3 : gPow (.int (b + (c + 1) * 179424673)) (.int 3) = some (.int ((b + (c + 1) * 179424673) ^ 3)) := by
      have : powOk (b + (c + 1) * 179424673) 3 = true := powOk_lt (lt_pow (a := 101) (by
        have : (2 : Nat) ^ 101 = 2535301200456458802993406410752 := by decide
        have : (2 : Int) ^ 100 = 1267650600228229401496703205376 := by decide
        omega) (by decide))
      simp [gPow, this]
    let st := ((b + (c + 1) * 179424673) ^ 3).fmod (P + 331)
    have hst : 0 ≤ st ∧ st < P + 331 := fmod_lt (by omega)
    have m2 : mulOk st st = true := mulOk_lt (lt_pow (a := 100) (by
        have : (2 : Nat) ^ 100 = 1267650600228229401496703205376 := by decide
        omega) (by decide)) (lt_pow (a := 100) (by
        have : (2 : Nat) ^ 100 = 1267650600228229401496703205376 := by decide
        omega) (by decide))
    have d1 : divOk 7717 = true := by decide +kernel
    have d2 : divOk 8887 = true := by decide +kernel
    let r := ((((st * st + st.fdiv 7717).fmod (P' + 13)).fdiv 8887).fmod m)
    refine ⟨r, [.int a, .int b, .int (c + 1)], ?_, (fmod_lt h0).1, (fmod_lt h0).2, ⟨a, b, c + 1, rfl, h1, h2, h3, by omega, by omega⟩⟩
    have hp : ∀ (d : PyData) (e : En), kPut3 0 d (.int 2) e (some (.own true [.int a, .int b, .int c])) = some (.nx, e.set 0 (.own true [.int a, .int b, d])) := fun d e => kPut3_ok (k := 2) (by simp)
    have m2' : mulOk (((b + (c + 1) * 179424673) ^ 3).fmod (P + 331)) (((b + (c + 1) * 179424673) ^ 3).fmod (P + 331)) = true := m2
    simp [-gPow, ha, hp, hc, p28, p25, p3, m2', d1, d2, show ¬ m = 0 by omega, show ¬ P + 331 = 0 by omega, show ¬ P' + 13 = 0 by omega, r, st]
theorem v_law_keg {z k : Int} (hz : z.natAbs.log2 ≤ 1048576) (hk : 0 ≤ k ∧ k ≤ 1000) : ∃ ks, Ph_law_keg [.int z, .int k] = some ks ∧ KegOk 1000000 ks := by
  obtain ⟨P, hP, p18⟩ : ∃ P : Int, P = 1000000000000000000 ∧ gPow (.int 10) (.int 18) = some (.int P) := by
    have : powOk 10 18 = true := by decide +kernel
    exact ⟨_, rfl, by simp [gPow, this]⟩
  obtain ⟨P', hP', p24⟩ : ∃ P : Int, P = 1000000000000000000000000 ∧ gPow (.int 10) (.int 24) = some (.int P) := by
    have : powOk 10 24 = true := by decide +kernel
    exact ⟨_, rfl, by simp [gPow, this]⟩
  have m1 : mulOk z 982451653 = true := by
    unfold mulOk
    refine decide_eq_true ?_
    have : (982451653 : Int).natAbs.log2 < 30 := log_of (by decide) (by decide)
    omega
  have m2 : mulOk (k + 11) 104395301 = true := mulOk_lt (lt_pow (a := 30) (by omega) (by decide)) (lt_pow (a := 30) (by decide) (by decide))
  let a : Int := if (if z < 0 then -z else z) - P > 0 then (if z < 0 then -z else z) - P else 0
  let b : Int := (z * 982451653 + (k + 11) * 104395301).fmod (P' + 7)
  have hb := fmod_lt (a := z * 982451653 + (k + 11) * 104395301) (b := P' + 7) (by omega)
  refine ⟨[.int a, .int b, .int 0], ?_, a, b, 0, rfl, ?_, hb.1, ?_, Int.le_refl _, by omega⟩
  · unfold Ph_law_keg
    rw [runL2]
    unfold dn_law_keg
    simp [-gPow, p18, p24, m1, m2, show ¬ P' + 7 = 0 by omega, a, b]
  · show 0 ≤ (if (if z < 0 then -z else z) - P > 0 then (if z < 0 then -z else z) - P else 0)
    split <;> omega
  · have : (2 : Int) ^ 100 = 1267650600228229401496703205376 := by decide
    have := hb.2
    show (z * 982451653 + (k + 11) * 104395301).fmod (P' + 7) ≤ _
    omega
structure Sh (c : Nat) (q : Rat) : Prop where
  pos : 0 < q
  le1 : q ≤ 1
  den : q.den ≤ c
theorem sh_ok {c : Nat} {a b : Int} (ha : 0 < a) (hab : a ≤ b) (hb : b ≤ c) : Sh c (Rat.divInt a b) := by
  have hb0 : 0 < b := by omega
  have e : Rat.divInt a b * (b : Rat) = (a : Rat) := by
    have : (b : Rat) ≠ 0 := fun h => by
      have : b = 0 := Rat.intCast_inj.mp (by rw [h]; rfl)
      omega
    rw [Rat.divInt_eq_div]
    grind
  have hbq : (0 : Rat) < (b : Rat) := Rat.intCast_lt_intCast.mpr hb0
  refine ⟨(divInt_pos hb0).mpr ha, ?_, ?_⟩
  · refine Rat.not_lt.mp fun z => ?_
    have h1 := Rat.mul_lt_mul_of_pos_right z hbq
    have h2 : (a : Rat) ≤ (b : Rat) := Rat.intCast_le_intCast.mpr hab
    grind
  · rw [Rat.den_divInt, if_neg (by omega)]
    exact Nat.le_trans (Nat.div_le_self _ _) (by omega)
theorem enc_one {s : Int} (h : 0 < s) : PyData.tuple [.int 1, .int s] = encQ (Rat.divInt 1 s) := by
  unfold encQ
  rw [← low_num h, ← low_den h]
  have e1 : Nat.gcd (1 : Int).natAbs s.natAbs = 1 := Nat.gcd_one_left _
  rw [e1]
  simp [Int.fdiv_one]
theorem row3_of {l : List Rat} (hl : 1 ≤ l.length ∧ l.length ≤ 6) (h : ∀ q ∈ l, Sh 300 q) (hp : dprod l ≤ 2 ^ 29) : Row3 l :=
  ⟨⟨hl, fun q hq => (h q hq).pos, fun q hq => (h q hq).le1, fun q hq => by have := (h q hq).den; omega⟩, hp⟩
theorem small_of {l : List Rat} {s : Nat} (hs : 1 ≤ s) (hs2 : s ≤ 60) (h : ∀ q ∈ l, q.den ≤ 10 ∨ q.den = s) : rB l ≤ 2 ^ 18 := by
  have hd : rB l ∣ 2520 * s := lcms_dvd fun q hq => by
    rcases h q hq with h1 | h1
    · have h0 := @den_pos q
      have : q.den ∣ 2520 := by
        generalize q.den = d at h0 h1
        have : d = 1 ∨ d = 2 ∨ d = 3 ∨ d = 4 ∨ d = 5 ∨ d = 6 ∨ d = 7 ∨ d = 8 ∨ d = 9 ∨ d = 10 := by omega
        rcases this with rfl | rfl | rfl | rfl | rfl | rfl | rfl | rfl | rfl | rfl <;> decide
      exact Nat.dvd_trans this (Nat.dvd_mul_right _ _)
    · rw [h1]; exact Nat.dvd_mul_left _ _
  have := Nat.le_of_dvd (by omega) hd
  have e : (2 : Nat) ^ 18 = 262144 := by decide
  omega
theorem row_turn {n i : Nat} {ks : List PyData} {rr : List Rat} {s3 s4 : Sl} (hk : KegOk (n + 2) ks) (hr : rr.length ≤ 1000) :
    ∃ q ks' b, Sh 10 q ∧ KegOk n ks' ∧ lp_law_row_1 [.own true ks, .own false (rr.map encQ), .val (.int (i : Int)), s3, s4] = some (.nx, [.own true ks', .own false ((rr ++ [q]).map encQ), .val (.int (i : Int)), .val (.int b), s4]) := by
  obtain ⟨x1, k1, h1, a1, b1, g1⟩ := v_law_pull (n := n + 1) (m := 10) hk (by omega) (by omega)
  obtain ⟨x2, k2, h2, a2, b2, g2⟩ := v_law_pull (n := n) (m := 1 + x1) g1 (by omega) (by omega)
  have h3 := v_law_low (a := 1 + x2) (b := 1 + x1) (by omega) (lt_pow (a := 10) (by omega) (by decide))
  refine ⟨Rat.divInt (1 + x2) (1 + x1), k2, 1 + x1, sh_ok (by omega) (by omega) (by omega), g2, ?_⟩
  simp [lp_law_row_1, h1, h2, h3]
  rw [kApp2_ok (by simp; omega)]
  simp
theorem v_law_row {n : Nat} {ks : List PyData} (hk : KegOk (n + 16) ks) : ∃ r ks', Ph_law_row ks [] = some (rowP r, ks') ∧ Row75 r ∧ KegOk n ks' := by
  obtain ⟨x, k1, h1, a1, b1, u1⟩ := v_law_pull (n := n + 15) (m := 6) hk (by omega) (by omega)
  obtain ⟨m, hm⟩ : ∃ m : Nat, 1 + x = (m : Int) := ⟨(1 + x).toNat, by omega⟩
  have hl := for_ix (tg := g1 2) (f := lp_law_row_1) (E := fun (i : Nat) => .int (i : Int)) (n := m)
    (S := fun (i : Nat) (e : En) => ∃ ks rr s2 s3, e = [.own true ks, .own false (rr.map encQ), s2, s3, .no] ∧ KegOk (n + 3 + 2 * (6 - i)) ks ∧ rr.length = i ∧ ∀ q ∈ rr, Sh 10 q)
    (e := [.own true k1, .own false [], .no, .no, .no]) ⟨k1, [], _, _, rfl, u1.mono (by omega), rfl, fun _ h => nomatch h⟩ fun i hi e ⟨ks, rr, s2, s3, he, hk, hr, hq⟩ => by
      subst he
      obtain ⟨q, ks', b, c1, c2, c3⟩ := row_turn (n := n + 3 + 2 * (6 - (i + 1))) (i := i) (ks := ks) (rr := rr) (s3 := s3) (s4 := .no) (by rw [show n + 3 + 2 * (6 - (i + 1)) + 2 = n + 3 + 2 * (6 - i) by omega]; exact hk) (by omega)
      refine ⟨_, _, .nx, rfl, c3, .inl rfl, ⟨ks', rr ++ [q], _, _, rfl, c2, by simp [hr], fun p hp => ?_⟩⟩
      rcases List.mem_append.mp hp with hp | hp
      · exact hq p hp
      · rw [List.mem_singleton.mp hp]; exact c1
  obtain ⟨e', h2, k2, l, s2, s3, rfl, u2, hlen, hl⟩ := hl
  have hr := @kR1_len m [.own true k1, .own false [], .no, .no, .no] (by omega)
  have hA : ∃ (l1 : List Rat) (k4 : List PyData) (s4 : Sl), KegOk n k4 ∧ l1.length = m ∧ (∀ q ∈ l1, Sh 300 q) ∧ dprod l1 ≤ 2 ^ 29 ∧ rB l1 ≤ 2 ^ 18 ∧
      (sIf (tB' (e2 gEq (eM 0 Ph_law_pull (lCons (eC (.int 4)) (lNil))) (eC (.int 2)))) (sSeq (sSet (e2 gAdd (eC (.int 2)) (eM 0 Ph_law_pull (lCons (eC (.int 59)) (lNil)))) (g1 4))
  (sPut 1 (eM 0 Ph_law_pull (lCons (eLenV 1) (lNil))) (eTup (lCons (eC (.int 1)) (lCons (eV 4) (lNil)))))) (sNx)) [.own true k2, .own false (l.map encQ), s2, s3, .no] = some (.nx, [.own true k4, .own false (l1.map encQ), s2, s3, s4]) := by
    obtain ⟨x3, k3, p3, a3, b3, u3⟩ := v_law_pull (n := n + 2) (m := 4) (u2.mono (by omega)) (by omega) (by omega)
    by_cases c : x3 = 2
    · obtain ⟨x4, k4, p4, a4, b4, u4⟩ := v_law_pull (n := n + 1) (m := 59) u3 (by omega) (by omega)
      obtain ⟨x5, k5, p5, a5, b5, u5⟩ := v_law_pull (n := n) (m := (m : Int)) u4 (by omega) (by omega)
      obtain ⟨j, rfl⟩ : ∃ j : Nat, x5 = (j : Int) := ⟨x5.toNat, by omega⟩
      have hs := sh_ok (c := 60) (a := 1) (b := 2 + x4) (by omega) (by omega) (by omega)
      have hsd := @den_pos (Rat.divInt 1 (2 + x4))
      refine ⟨l.set j (Rat.divInt 1 (2 + x4)), k5, .val (.int (2 + x4)), u5, by simp [hlen], fun q hq => ?_, ?_, ?_, ?_⟩
      · rcases List.mem_or_eq_of_mem_set hq with hq | rfl
        · have := hl q hq
          exact ⟨this.pos, this.le1, by have := this.den; omega⟩
        · exact ⟨hs.pos, hs.le1, by have := hs.den; omega⟩
      · refine Nat.le_trans (dprod_set (c := 10) (by decide) j fun p hp => (hl p hp).den) ?_
        have e1 : 10 ^ l.length ≤ 10 ^ 6 := Nat.pow_le_pow_right (by decide) (by omega)
        exact Nat.le_trans (Nat.mul_le_mul e1 hs.den) (by decide)
      · refine small_of (s := (Rat.divInt 1 (2 + x4)).den) hsd hs.den fun q hq => ?_
        rcases List.mem_or_eq_of_mem_set hq with hq | rfl
        · exact .inl (hl q hq).den
        · exact .inr rfl
      · simp [p3, c, p4, hlen, p5]
        rw [kPut3_ok (by simp; omega), enc_one (by omega)]
        simp [List.map_set]
    · refine ⟨l, k3, .no, u3.mono (by omega), hlen, fun q hq => ⟨(hl q hq).pos, (hl q hq).le1, by have := (hl q hq).den; omega⟩, ?_, small_of (s := 1) (by decide) (by decide) fun q hq => .inl (hl q hq).den, ?_⟩
      · refine Nat.le_trans (dprod_le fun p hp => (hl p hp).den) ?_
        have e1 : 10 ^ l.length ≤ 10 ^ 6 := Nat.pow_le_pow_right (by decide) (by omega)
        exact Nat.le_trans e1 (by decide)
      · simp [p3, c]
  obtain ⟨l1, k4, s4, u4, hlen1, hl1, hp1, hb1, hA⟩ := hA
  refine ⟨l1, k4, ?_, ⟨row3_of (by omega) hl1 hp1, hb1⟩, u4⟩
  unfold Ph_law_row
  rw [runM1]
  unfold dn_law_row
  simp [-List.map_map, h1, hm, hr, h2, hA]
  rfl
end K75

set_option Elab.async false
set_option linter.all false
set_option maxRecDepth 100000
set_option maxHeartbeats 1000000
/-! a drawn label -/
namespace K75
open PySem PySem.Spec PyProof.Rows L2 Dn
structure Lab (q : Rat) : Prop where
  zs : Zs 200 q
  ge0 : 0 ≤ q
  le1 : q ≤ 1
theorem lab_of {a b : Int} (ha : 0 ≤ a) (hab : a ≤ b) (hb0 : 0 < b) (hb : b.natAbs < 2 ^ 200) : Lab (Rat.divInt a b) := by
  have e : Rat.divInt a b * (b : Rat) = (a : Rat) := by
    have : (b : Rat) ≠ 0 := fun h => by
      have : b = 0 := Rat.intCast_inj.mp (by rw [h]; rfl)
      omega
    rw [Rat.divInt_eq_div]
    grind
  have hbq : (0 : Rat) < (b : Rat) := Rat.intCast_lt_intCast.mpr hb0
  have h0 : 0 ≤ Rat.divInt a b := by
    refine Rat.not_lt.mp fun z => ?_
    have h1 := Rat.mul_lt_mul_of_pos_right z hbq
    have h2 : ((0 : Int) : Rat) ≤ (a : Rat) := Rat.intCast_le_intCast.mpr ha
    have h3 : ((0 : Int) : Rat) = 0 := rfl
    grind
  have h1 : Rat.divInt a b ≤ 1 := by
    refine Rat.not_lt.mp fun z => ?_
    have h1 := Rat.mul_lt_mul_of_pos_right z hbq
    have h2 : (a : Rat) ≤ (b : Rat) := Rat.intCast_le_intCast.mpr hab
    grind
  refine ⟨Zs.of01 ?_ h0 h1, h0, h1⟩
  rw [Rat.den_divInt, if_neg (by omega)]
  exact Nat.lt_of_le_of_lt (Nat.div_le_self _ _) hb
theorem seq_nx {f g : Fs} {x : Sl} {e e' : En} (h : f (x :: e) = some (.nx, e')) : sSeq f g (x :: e) = g e' := by
  rw [ev_Seq, h]; rfl
theorem seq_rt {f g : Fs} {x : Sl} {e e' : En} {d : PyData} (h : f (x :: e) = some (.rt d, e')) : sSeq f g (x :: e) = some (.rt d, e') := by
  rw [ev_Seq, h]; rfl
noncomputable def lbIf : Fs := sIf (tOrr (tB' (eIsN (eV 5))) (tB' (e2 gGe (e2 gIx (eV 5) (eC (.int 1))) (e2 gPow (eC (.int 10)) (eC (.int 40)))))) (sRt (eTup (lCons (eC (.int 1)) (lCons (eC (.int 2)) (lNil))))) (sNx)
noncomputable def lbEnd : Fs := sSeq lbIf (sRt (eV 5))
theorem dn_label : dn_law_label = sSeq (sSet (eM 0 Ph_law_pull (lCons (eC (.int 6)) (lNil))) (g1 3))
  (sSeq (sIf (tB' (e2 gLt (eV 3) (eC (.int 3)))) (sSeq (sSet (e2 gIx (eF (lLst (lCons (eC (.int 10)) (lCons (eC (.int 100)) (lCons (e2 gPow (eC (.int 10)) (eC (.int 9))) (lNil)))))) (eV 3)) (g1 4))
  (sRt (eA Ph_law_low (lCons (eM 0 Ph_law_pull (lCons (e2 gAdd (eV 4) (eC (.int 1))) (lNil))) (lCons (eV 4) (lNil)))))) (sNx))
  (sSeq (sSet (eA Ph_older_in (lCons (eV 1) (lCons (eV 2) (lCons (e2 gAdd (eM 0 Ph_law_pull (lCons (eC (.int 12)) (lNil))) (eV 2)) (lNil))))) (g1 5))
  lbEnd)) := rfl
theorem end_none {s0 s1 s2 s3 s4 : Sl} : lbEnd [s0, s1, s2, s3, s4, .val .none] = some (.rt (.tuple [.int 1, .int 2]), [s0, s1, s2, s3, s4, .val .none]) := by
  refine seq_rt ?_
  unfold lbIf
  simp
theorem if_big {P N D : Int} {s0 s1 s2 s3 s4 : Sl} (p40 : gPow (.int 10) (.int 40) = some (.int P)) (c : P ≤ D) : lbIf [s0, s1, s2, s3, s4, .val (.tuple [.int N, .int D])] = some (.rt (.tuple [.int 1, .int 2]), [s0, s1, s2, s3, s4, .val (.tuple [.int N, .int D])]) := by
  have hg : gIx (.tuple [.int N, .int D]) (.int 1) = some (.int D) := by simp
  unfold lbIf
  simp [-gIx, -gPow, hg, p40, c]
theorem if_small {P N D : Int} {s0 s1 s2 s3 s4 : Sl} (p40 : gPow (.int 10) (.int 40) = some (.int P)) (c : ¬ P ≤ D) : lbIf [s0, s1, s2, s3, s4, .val (.tuple [.int N, .int D])] = some (.nx, [s0, s1, s2, s3, s4, .val (.tuple [.int N, .int D])]) := by
  have hg : gIx (.tuple [.int N, .int D]) (.int 1) = some (.int D) := by simp
  unfold lbIf
  simp [-gIx, -gPow, hg, p40, c]
theorem ret5 {s0 s1 s2 s3 s4 : Sl} {d : PyData} : sRt (eV 5) [s0, s1, s2, s3, s4, .val d] = some (.rt d, [s0, s1, s2, s3, s4, .val d]) := by simp
theorem half_enc : PyData.tuple [.int 1, .int 2] = encQ (Rat.divInt 1 2) := enc_one (s := 2) (by decide)
theorem half_lab : Lab (Rat.divInt 1 2) := by
  have e4 : (4 : Nat) < 2 ^ 200 := Nat.lt_of_lt_of_le (show 4 < 2 ^ 3 by decide) (Nat.pow_le_pow_right (by decide) (by decide))
  exact lab_of (by decide) (by decide) (by decide) (by show 2 < _; omega)
theorem v_end {r : List Rat} (h : Row75 r) {a y : Nat} (hy : y ≤ 300) {s0 s1 s2 s3 s4 : Sl} : ∃ q s5, lbEnd [s0, s1, s2, s3, s4, .val (if rS r y = 1 then .none else encQ (oldV r a y))] = some (.rt (encQ q), [s0, s1, s2, s3, s4, s5]) ∧ Lab q := by
  obtain ⟨P, hP, p40⟩ : ∃ P : Int, P = 10000000000000000000000000000000000000000 ∧ gPow (.int 10) (.int 40) = some (.int P) := by
    have : powOk 10 40 = true := by decide +kernel
    exact ⟨_, rfl, by simp [gPow, this]⟩
  have e140 : (2 : Nat) ^ 140 = 1393796574908163946345982392040522594123776 := by decide
  by_cases c : rS r y = 1
  · rw [if_pos c]
    exact ⟨_, _, end_none.trans (by rw [half_enc]), half_lab⟩
  · rw [if_neg c]
    have hp : 0 < 1 - rS r y := by
      have := rS_le1 h.r3.ok y
      grind
    obtain ⟨z1, z2, z3⟩ := old_z h (a := a) hy hp
    by_cases c2 : P ≤ ((oldV r a y).den : Int)
    · exact ⟨_, _, (seq_rt (if_big (N := (oldV r a y).num) p40 c2)).trans (by rw [half_enc]), half_lab⟩
    · refine ⟨oldV r a y, .val (encQ (oldV r a y)), (seq_nx (if_small (N := (oldV r a y).num) p40 c2)).trans ret5, ?_⟩
      have b0 : 0 ≤ oldV r a y := by unfold oldV; grind
      have b1 : oldV r a y ≤ 1 := by unfold oldV; grind
      exact ⟨Zs.of01 (lt_pow (a := 140) (by omega) (by decide)) b0 b1, b0, b1⟩
theorem v_law_label {r : List Rat} (h : Row75 r) {a N : Nat} (ha : a ≤ 100) {ks : List PyData} (hk : KegOk (N + 2) ks) :
    ∃ q k', Ph_law_label ks [rowP r, .int (a : Int)] = some (encQ q, k') ∧ Lab q ∧ KegOk N k' := by
  obtain ⟨P9, hP9, p9⟩ : ∃ P : Int, P = 1000000000 ∧ gPow (.int 10) (.int 9) = some (.int P) := by
    have : powOk 10 9 = true := by decide +kernel
    exact ⟨_, rfl, by simp [gPow, this]⟩
  obtain ⟨x, k1, p1, a1, b1, u1⟩ := v_law_pull (n := N + 1) (m := 6) hk (by omega) (by omega)
  unfold Ph_law_label
  rw [runM3, dn_label]
  by_cases c : x < 3
  · obtain ⟨B, hB, hB1, hB2⟩ : ∃ B : Int, atI [.int 10, .int 100, .int P9] x = some (PyData.int B) ∧ 10 ≤ B ∧ B ≤ 1000000000 := by
      have : x = 0 ∨ x = 1 ∨ x = 2 := by omega
      rcases this with rfl | rfl | rfl
      · exact ⟨10, by simp, by omega, by omega⟩
      · exact ⟨100, by simp, by omega, by omega⟩
      · exact ⟨P9, Dn.atI_get (i := 2) (by simp), by omega, by omega⟩
    obtain ⟨x2, k2, p2, a2, b2, u2⟩ := v_law_pull (n := N) (m := B + 1) u1 (by omega) (by omega)
    have h4 := v_law_low (a := x2) (b := B) (by omega) (lt_pow (a := 40) (by omega) (by decide))
    refine ⟨Rat.divInt x2 B, k2, ?_, lab_of a2 (by omega) (by omega) (lt_pow (a := 40) (by omega) (by decide)), u2⟩
    simp [-gPow, p1, c, p9, hB, p2, h4]
  · obtain ⟨x2, k2, p2, a2, b2, u2⟩ := v_law_pull (n := N) (m := 12) u1 (by omega) (by omega)
    obtain ⟨y, hy⟩ : ∃ y : Nat, x2 + (a : Int) = (y : Int) := ⟨(x2 + (a : Int)).toNat, by omega⟩
    have ho := v_older_in h (a := a) (y := y) (by omega)
    obtain ⟨q, s5, h5, lq⟩ := v_end h (a := a) (y := y) (by omega) (s0 := .own true k2) (s1 := .val (rowP r)) (s2 := .val (.int (a : Int))) (s3 := .val (.int x)) (s4 := .no)
    refine ⟨q, k2, ?_, lq, u2⟩
    simp [p1, c, p2, hy, ho, h5]
end K75

set_option Elab.async false
set_option linter.all false
set_option maxRecDepth 100000
set_option maxHeartbeats 1000000
/-! the whole law: its checks of what is told -/
namespace K75
open PySem PySem.Spec PyProof.Rows L2 Dn
theorem same_300 : Ph_law_same 8 [.int 300, .int 300] = some (.bool true) := v_law_same 8 _ trivial
theorem chk1 {r : List Rat} {a : Nat} {q : Rat} {o : Option (Option Nat)} (ho : Place r a q o) {s0 s1 s2 s3 s5 s6 s7 : Sl} :
    (sIf (tAn (tB' (e2 gEq (e2 gIx (eV 4) (eC (.int 0))) (eC (.str ("many" : PySem.Str))))) (tNo (tTr (eA (Ph_law_same 8) (lCons (e2 gIx (eV 4) (eC (.int 1))) (lCons (eC (.int 300)) (lNil))))))) (sRt (eC (.bool false))) (sNx)) [s0, s1, s2, s3, .val (plD o), s5, s6, s7] = some (.nx, [s0, s1, s2, s3, .val (plD o), s5, s6, s7]) := by
  match o with
  | some (some t) => simp [-gEq, plD, plS, plV, ym]
  | some none => simp [-gEq, plD, plS, plV, ym]
  | none => simp [-gEq, plD, plS, plV, mm, same_300]
theorem chk2 {r : List Rat} {a : Nat} {q : Rat} {o : Option (Option Nat)} (ho : Place r a q o) {s0 s1 s2 s3 s5 s6 s7 : Sl} :
    (sIf (tOrr (tB' (e2 gEq (e2 gIx (eV 4) (eC (.int 0))) (eC (.str ("none" : PySem.Str))))) (tAn (tB' (e2 gEq (e2 gIx (eV 4) (eC (.int 0))) (eC (.str ("year" : PySem.Str))))) (tAn (tB' (eNotN (e2 gIx (eV 4) (eC (.int 1))))) (tNinR (e2 gIx (eV 4) (eC (.int 1))) (lCons (eC (.int 301)) (lNil)))))) (sRt (eC (.bool false))) (sNx)) [s0, s1, s2, s3, .val (plD o), s5, s6, s7] = some (.nx, [s0, s1, s2, s3, .val (plD o), s5, s6, s7]) := by
  match o, ho with
  | some (some t), ⟨a1, _, _⟩ =>
    have hk := fun e => @kNin2_yes e (t : Int) 301 ⟨by omega, by omega⟩
    simp [-gEq, plD, plS, plV, yn, yy, hk]
  | some none, _ => simp [-gEq, plD, plS, plV, yn, yy]
  | none, _ => simp [-gEq, plD, plS, plV, mn, my]
/-- the years that are looked at -/
def yrs (y1 y2 : Nat) : List Nat := [y1, 300, y2] ++ List.range 31
def yrsO (o : Option (Option Nat)) (y1 y2 : Nat) : List Nat := match o with
  | some (some t) => yrs y1 y2 ++ [t, t - 1, min 300 (t + 1)]
  | _ => yrs y1 y2
def yL (l : List Nat) : PyData := .list (l.map fun (y : Nat) => .int (y : Int))
theorem yrs_len (y1 y2 : Nat) : (yrs y1 y2).length = 34 := by simp [yrs]
theorem yrs_le {o : Option (Option Nat)} {r : List Rat} {a : Nat} {q : Rat} (ho : Place r a q o) {y1 y2 : Nat} (h1 : y1 ≤ 300) (h2 : y2 ≤ 300) : ∀ y ∈ yrsO o y1 y2, y ≤ 300 := by
  have hb : ∀ y ∈ yrs y1 y2, y ≤ 300 := by
    intro y hy
    unfold yrs at hy
    rcases List.mem_append.mp hy with hy | hy
    · simp at hy; omega
    · have := List.mem_range.mp hy; omega
  match o, ho with
  | some (some t), ⟨a1, _, _⟩ =>
    intro y hy
    rcases List.mem_append.mp hy with hy | hy
    · exact hb y hy
    · simp at hy; omega
  | some none, _ => exact hb
  | none, _ => exact hb
theorem gAdd_yL {l m : List Nat} (h : l.length + m.length ≤ 1000000) : gAdd (yL l) (yL m) = some (yL (l ++ m)) := by
  unfold yL
  rw [List.map_append]
  show (if okN _ then _ else _) = _
  rw [if_pos (okN_of (by simpa using h))]
theorem kRg_31 (e : En) : kRg (.int 31, e) = some ((List.range 31).map (fun (y : Nat) => .int (y : Int)), e) := by
  have h1 : smallI 31 = true := @decide_eq_true _ (Classical.propDecidable _) ⟨by decide, by decide⟩
  have h2 : okN (31 : Int).toNat = true := okN_of (by decide)
  show (if smallI 31 && okN (31 : Int).toNat then some (rng 0 31, e) else none) = _
  rw [h1, h2]
  rw [show rng 0 31 = rng 0 ((31 : Nat) : Int) from rfl, rng_nat]
  rfl
theorem chk3 {r : List Rat} {a : Nat} {q : Rat} {o : Option (Option Nat)} (ho : Place r a q o) {y1 y2 : Nat} {s0 s1 s2 s3 s6 s7 : Sl} :
    (sIf (tAn (tB' (e2 gEq (e2 gIx (eV 4) (eC (.int 0))) (eC (.str ("year" : PySem.Str))))) (tB' (eNotN (e2 gIx (eV 4) (eC (.int 1)))))) (sSet (e2 gAdd (eV 5) (eF (lLst (lCons (e2 gIx (eV 4) (eC (.int 1))) (lCons (eA gMax2 (lCons (eC (.int 0)) (lCons (e2 gSub (e2 gIx (eV 4) (eC (.int 1))) (eC (.int 1))) (lNil)))) (lCons (eA gMin2 (lCons (eC (.int 300)) (lCons (e2 gAdd (e2 gIx (eV 4) (eC (.int 1))) (eC (.int 1))) (lNil)))) (lNil))))))) (g1 5)) (sNx)) [s0, s1, s2, s3, .val (plD o), .val (yL (yrs y1 y2)), s6, s7] = some (.nx, [s0, s1, s2, s3, .val (plD o), .val (yL (yrsO o y1 y2)), s6, s7]) := by
  match o, ho with
  | some (some t), ⟨a1, _, _⟩ =>
    have e1 : (if (1 : Int) < (t : Int) then (t : Int) - 1 else 0) = ((t - 1 : Nat) : Int) := by split <;> omega
    have e2 : (if (t : Int) + 1 < 300 then (t : Int) + 1 else 300) = ((min 300 (t + 1) : Nat) : Int) := by split <;> omega
    have ga : gAdd (.int (t : Int)) (.int 1) = some (.int ((t : Int) + 1)) := by simp
    have hadd := gAdd_yL (l := yrs y1 y2) (m := [t, t - 1, min 300 (t + 1)]) (by rw [yrs_len]; simp)
    have hL : yL [t, t - 1, min 300 (t + 1)] = .list [.int (t : Int), .int ((t - 1 : Nat) : Int), .int ((min 300 (t + 1) : Nat) : Int)] := rfl
    rw [hL] at hadd
    simp [-gEq, -gAdd, plD, plS, plV, yy, ga, e1, e2, yrsO]
    rw [hadd]
    rfl
  | some none, _ => simp [-gEq, plD, plS, plV, yy, yrsO]
  | none, _ => simp [-gEq, plD, plS, plV, my, yrsO]
/-! the row in another sequence -/
def turned (r : List Rat) (k : Nat) : List Rat := (r.drop k).reverse ++ r.take k
theorem turned_perm (r : List Rat) (k : Nat) : r.Perm (turned r k) := by
  have h1 : (r.take k ++ r.drop k).Perm (r.drop k ++ r.take k) := List.perm_append_comm
  rw [List.take_append_drop] at h1
  exact h1.trans ((List.reverse_perm (r.drop k)).symm.append_right _)
theorem dprod_perm {l m : List Rat} (h : l.Perm m) : dprod l = dprod m := by
  induction h with
  | nil => rfl
  | cons x h ih => exact congrArg (x.den * ·) ih
  | swap x y l => show y.den * (x.den * dprod l) = x.den * (y.den * dprod l); rw [Nat.mul_left_comm]
  | trans h1 h2 ih1 ih2 => rw [ih1, ih2]
theorem turned_ok {r : List Rat} (h : Row75 r) (k : Nat) : Row75 (turned r k) := by
  have hp := turned_perm r k
  have hm : ∀ q ∈ turned r k, q ∈ r := fun q hq => hp.mem_iff.mpr hq
  have hl : (turned r k).length = r.length := hp.length_eq.symm
  refine ⟨⟨⟨by rw [hl]; exact h.r3.ok.len, fun q hq => h.r3.ok.pos q (hm q hq), fun q hq => h.r3.ok.le1 q (hm q hq), fun q hq => h.r3.ok.den q (hm q hq)⟩, by rw [← dprod_perm hp]; exact h.r3.prod⟩, ?_⟩
  have hd : rB (turned r k) ∣ rB r := lcms_dvd fun q hq => den_lcms (hm q hq)
  exact Nat.le_trans (Nat.le_of_dvd rB_pos hd) h.small
theorem turned_S {r : List Rat} (h : Row75 r) (k y : Nat) : rS r y = rS (turned r k) y := rS_perm h.r3.ok (turned_ok h k).r3.ok (turned_perm r k) y
theorem turned_row {r : List Rat} {k : Nat} (hl : r.length ≤ 6) : gAdd (.tuple ((r.map encQ).drop k).reverse) (.tuple ((r.map encQ).take k)) = some (rowP (turned r k)) := by
  have e : ((r.map encQ).drop k).reverse ++ (r.map encQ).take k = (turned r k).map encQ := by
    unfold turned
    rw [List.map_append, List.map_reverse, List.map_drop, List.map_take]
  show (if okN _ then _ else _) = _
  rw [if_pos (okN_of (by simp; omega)), e]
  rfl
end K75

set_option Elab.async false
set_option linter.all false
set_option maxRecDepth 100000
set_option maxHeartbeats 1000000
/-! the whole law, from a keg -/
namespace K75
open PySem PySem.Spec PyProof.Rows L2 Dn
theorem v_lower {q : Rat} (h : Lab q) : ∃ p, Ph_law_low [.int (q.num.fdiv 2), .int (q.den : Int)] = some (encQ p) ∧ Lab p ∧ p ≤ q := by
  have hn := Rat.num_nonneg.mpr h.ge0
  have hd := num_le_den.mpr h.le1
  have hf : q.num.fdiv 2 = q.num / 2 := Int.fdiv_eq_ediv_of_nonneg _ (by decide)
  have b0 : 0 ≤ q.num.fdiv 2 := by rw [hf]; omega
  have b1 : q.num.fdiv 2 ≤ q.num := by rw [hf]; omega
  have hl := v_law_low (a := q.num.fdiv 2) (b := (q.den : Int)) den_posI (lt_pow (h.zs.dI (Nat.le_refl 200)) (by decide))
  refine ⟨_, hl, lab_of b0 (by omega) den_posI (h.zs.dI (Nat.le_refl 200)), ?_⟩
  have p3 := natQ_pos (@den_pos q)
  have e1 : Rat.divInt (q.num.fdiv 2) (q.den : Int) * (q.den : Rat) = ((q.num.fdiv 2 : Int) : Rat) := by
    rw [Rat.divInt_eq_div]
    have d2 : ((q.den : Int) : Rat) = (q.den : Rat) := rfl
    rw [d2]
    grind
  have e2 : q * (q.den : Rat) = ((q.num : Int) : Rat) := by
    have e := Rat.num_divInt_den q
    rw [Rat.divInt_eq_div] at e
    have d2 : ((q.den : Int) : Rat) = (q.den : Rat) := rfl
    rw [d2] at e
    have h2 : (q.num : Rat) / (q.den : Rat) * (q.den : Rat) = q * (q.den : Rat) := by rw [e]
    grind
  have h5 : ((q.num.fdiv 2 : Int) : Rat) ≤ ((q.num : Int) : Rat) := Rat.intCast_le_intCast.mpr b1
  rw [← e1, ← e2] at h5
  refine Rat.not_lt.mp fun z => ?_
  have := Rat.mul_lt_mul_of_pos_right z p3
  grind
noncomputable def rw1 : Fs :=
  sSet (eM 0 Ph_law_row (lNil)) (g1 1)
noncomputable def rw2 : Fs :=
  sSet (eM 0 Ph_law_pull (lCons (eC (.int 21)) (lNil))) (g1 2)
noncomputable def rw3 : Fs :=
  sSet (eM 0 Ph_law_label (lCons (eV 1) (lCons (eV 2) (lNil)))) (g1 3)
noncomputable def rw4 : Fs :=
  sSet (eA Ph_law_told (lCons (eV 1) (lCons (eV 2) (lCons (eV 3) (lNil))))) (g1 4)
noncomputable def rw5 : Fs :=
  sIf (tAn (tB' (e2 gEq (e2 gIx (eV 4) (eC (.int 0))) (eC (.str ("many" : PySem.Str))))) (tNo (tTr (eA (Ph_law_same 8) (lCons (e2 gIx (eV 4) (eC (.int 1))) (lCons (eC (.int 300)) (lNil))))))) (sRt (eC (.bool false))) (sNx)
noncomputable def rw6 : Fs :=
  sIf (tOrr (tB' (e2 gEq (e2 gIx (eV 4) (eC (.int 0))) (eC (.str ("none" : PySem.Str))))) (tAn (tB' (e2 gEq (e2 gIx (eV 4) (eC (.int 0))) (eC (.str ("year" : PySem.Str))))) (tAn (tB' (eNotN (e2 gIx (eV 4) (eC (.int 1))))) (tNinR (e2 gIx (eV 4) (eC (.int 1))) (lCons (eC (.int 301)) (lNil)))))) (sRt (eC (.bool false))) (sNx)
noncomputable def rw7 : Fs :=
  sSet (e2 gAdd (eF (lLst (lCons (eM 0 Ph_law_pull (lCons (eC (.int 301)) (lNil))) (lCons (eC (.int 300)) (lCons (eM 0 Ph_law_pull (lCons (eC (.int 301)) (lNil))) (lNil)))))) (eF (lRg (eC (.int 31))))) (g1 5)
noncomputable def rw8 : Fs :=
  sIf (tAn (tB' (e2 gEq (e2 gIx (eV 4) (eC (.int 0))) (eC (.str ("year" : PySem.Str))))) (tB' (eNotN (e2 gIx (eV 4) (eC (.int 1)))))) (sSet (e2 gAdd (eV 5) (eF (lLst (lCons (e2 gIx (eV 4) (eC (.int 1))) (lCons (eA gMax2 (lCons (eC (.int 0)) (lCons (e2 gSub (e2 gIx (eV 4) (eC (.int 1))) (eC (.int 1))) (lNil)))) (lCons (eA gMin2 (lCons (eC (.int 300)) (lCons (e2 gAdd (e2 gIx (eV 4) (eC (.int 1))) (eC (.int 1))) (lNil)))) (lNil))))))) (g1 5)) (sNx)
noncomputable def rw9 : Fs :=
  sIf (tNo (tTr (eA Ph_law_years_right (lCons (eV 1) (lCons (eV 2) (lCons (eV 3) (lCons (eV 4) (lCons (eV 5) (lNil))))))))) (sRt (eC (.bool false))) (sNx)
noncomputable def rw10 : Fs :=
  sSet (eA Ph_law_low (lCons (e2 gFdiv (e2 gIx (eV 3) (eC (.int 0))) (eC (.int 2))) (lCons (e2 gIx (eV 3) (eC (.int 1))) (lNil)))) (g1 6)
noncomputable def rw11 : Fs :=
  sIf (tB' (e2 gGt (eA Ph_law_place (lCons (eA Ph_law_told (lCons (eV 1) (lCons (eV 2) (lCons (eV 6) (lNil))))) (lNil))) (eA Ph_law_place (lCons (eV 4) (lNil))))) (sRt (eC (.bool false))) (sNx)
noncomputable def rw12 : Fs :=
  sIf (tB' (e2 gLt (eA Ph_law_place (lCons (eA Ph_law_told (lCons (eV 1) (lCons (e2 gAdd (e2 gAdd (eV 2) (eC (.int 1))) (eM 0 Ph_law_pull (lCons (eC (.int 5)) (lNil)))) (lCons (eV 3) (lNil))))) (lNil))) (eA Ph_law_place (lCons (eV 4) (lNil))))) (sRt (eC (.bool false))) (sNx)
noncomputable def rw13 : Fs :=
  sSet (eM 0 Ph_law_pull (lCons (eA gLen (lCons (eV 1) (lNil))) (lNil))) (g1 7)
noncomputable def rw14 : Fs :=
  sRt (eA (Ph_law_same 8) (lCons (eA Ph_law_told (lCons (e2 gAdd (eRevT (eCut (eV 1) (oSo (eV 7)) (oNo))) (eCut (eV 1) (oNo) (oSo (eV 7)))) (lCons (eV 2) (lCons (eV 3) (lNil))))) (lCons (eV 4) (lNil))))
theorem rw_chain : dn_law_right = sSeq rw1 (sSeq rw2 (sSeq rw3 (sSeq rw4 (sSeq rw5 (sSeq rw6 (sSeq rw7 (sSeq rw8 (sSeq rw9 (sSeq rw10 (sSeq rw11 (sSeq rw12 (sSeq rw13 rw14)))))))))))) := rfl
theorem v_law_right {N : Nat} {ks : List PyData} (hk : KegOk (N + 100) ks) : ∃ ks', Ph_law_right ks [] = some (.bool true, ks') := by
  obtain ⟨r, k1, h1, hr, u1⟩ := v_law_row (n := N + 84) hk
  have hm := hr.r3.ok.len
  obtain ⟨x2, k2, p2, a2, b2, u2⟩ := v_law_pull (n := N + 83) (m := 21) u1 (by omega) (by omega)
  obtain ⟨a, rfl⟩ : ∃ n : Nat, x2 = (n : Int) := ⟨x2.toNat, by omega⟩
  obtain ⟨q, k3, p3, lq, u3⟩ := v_law_label hr (a := a) (N := N + 81) (by omega) u2
  obtain ⟨o, ho⟩ := place_some (r := r) a q
  have t1 := v_law_told hr.r3 (by omega) lq.zs lq.ge0 lq.le1 ho
  have c1 := fun s0 s1 s2 s3 s5 s6 s7 => @chk1 r a q o ho s0 s1 s2 s3 s5 s6 s7
  have c2 := fun s0 s1 s2 s3 s5 s6 s7 => @chk2 r a q o ho s0 s1 s2 s3 s5 s6 s7
  obtain ⟨x4, k4, p4, a4, b4, u4⟩ := v_law_pull (n := N + 80) (m := 301) u3 (by omega) (by omega)
  obtain ⟨y1, rfl⟩ : ∃ n : Nat, x4 = (n : Int) := ⟨x4.toNat, by omega⟩
  obtain ⟨x5, k5, p5, a5, b5, u5⟩ := v_law_pull (n := N + 79) (m := 301) u4 (by omega) (by omega)
  obtain ⟨y2, rfl⟩ : ∃ n : Nat, x5 = (n : Int) := ⟨x5.toNat, by omega⟩
  have c3 := fun s0 s1 s2 s3 s6 s7 => @chk3 r a q o ho y1 y2 s0 s1 s2 s3 s6 s7
  have hy := v_law_years_right hr (by omega) lq.zs lq.ge0 lq.le1 ho (ys := yrsO o y1 y2) (yrs_le ho (by omega) (by omega))
  rw [show PyData.list ((yrsO o y1 y2).map fun (y : Nat) => .int (y : Int)) = yL (yrsO o y1 y2) from rfl] at hy
  obtain ⟨p, hp, lp, hpq⟩ := v_lower lq
  obtain ⟨o2, ho2⟩ := place_some (r := r) a p
  have t2 := v_law_told hr.r3 (by omega) lp.zs lp.ge0 lp.le1 ho2
  have n2 := place_lower hr.r3.ok hpq ho ho2
  obtain ⟨x6, k6, p6, a6, b6, u6⟩ := v_law_pull (n := N + 78) (m := 5) u5 (by omega) (by omega)
  obtain ⟨z, rfl⟩ : ∃ n : Nat, x6 = (n : Int) := ⟨x6.toNat, by omega⟩
  obtain ⟨o3, ho3⟩ := place_some (r := r) (a + 1 + z) q
  have t3 := v_law_told hr.r3 (a := a + 1 + z) (by omega) lq.zs lq.ge0 lq.le1 ho3
  rw [show (((a + 1 + z : Nat) : Int)) = (a : Int) + 1 + (z : Int) by omega] at t3
  have n3 := place_older hr.r3.ok (show a ≤ a + 1 + z by omega) ho ho3
  obtain ⟨x7, k7, p7, a7, b7, u7⟩ := v_law_pull (n := N + 77) (m := (r.length : Int)) u6 (by omega) (by omega)
  obtain ⟨k, rfl⟩ : ∃ n : Nat, x7 = (n : Int) := ⟨x7.toNat, by omega⟩
  have hr' := turned_ok hr k
  obtain ⟨o4, ho4⟩ := place_some (r := turned r k) a q
  have t4 := v_law_told hr'.r3 (by omega) lq.zs lq.ge0 lq.le1 ho4
  have e4 : o = o4 := place_same (turned_S hr k) ho ho4
  subst e4
  have hs := v_law_same 8 (plD o) (pl_ok o)
  have hrow := turned_row (r := r) (k := k) (by omega)
  have pl := v_law_place o
  have pl2 := v_law_place o2
  have pl3 := v_law_place o3
  have f2 : ¬ (plN o : Int) < (plN o2 : Int) := by omega
  have f3 : ¬ (plN o3 : Int) < (plN o : Int) := by omega
  have q0 : gIx (encQ q) (.int 0) = some (.int q.num) := by simp [encQ]
  have q1 : gIx (encQ q) (.int 1) = some (.int (q.den : Int)) := by simp [encQ]
  have d2 : divOk 2 = true := by decide +kernel
  have hlr : gLen [rowP r] = some (.int (r.length : Int)) := gLen_row
  have hadd : gAdd (.list [.int (y1 : Int), .int 300, .int (y2 : Int)]) (.list ((List.range 31).map fun (y : Nat) => .int (y : Int))) = some (yL (yrs y1 y2)) := by
    have := gAdd_yL (l := [y1, 300, y2]) (m := List.range 31) (by simp)
    exact this
  have ga : ∀ i j : Int, gAdd (.int i) (.int j) = some (.int (i + j)) := fun i j => rfl
  have hcut1 : gCut (rowP r) (some (k : Int)) none = some (.tuple ((r.map encQ).drop k)) := by
    show some (PyData.tuple (cutD _ _ _)) = _
    rw [cut_from]
  have hcut2 : gCut (rowP r) none (some (k : Int)) = some (.tuple ((r.map encQ).take k)) := by
    show some (PyData.tuple (cutD _ _ _)) = _
    rw [cut_to]
  have w1 : rw1 [.own true ks, .no, .no, .no, .no, .no, .no, .no] = some (.nx, [.own true k1, .val (rowP r), .no, .no, .no, .no, .no, .no]) := by
    unfold rw1
    simp [h1]
  have w2 : rw2 [.own true k1, .val (rowP r), .no, .no, .no, .no, .no, .no] = some (.nx, [.own true k2, .val (rowP r), .val (.int (a : Int)), .no, .no, .no, .no, .no]) := by
    unfold rw2
    simp [p2]
  have w3 : rw3 [.own true k2, .val (rowP r), .val (.int (a : Int)), .no, .no, .no, .no, .no] = some (.nx, [.own true k3, .val (rowP r), .val (.int (a : Int)), .val (encQ q), .no, .no, .no, .no]) := by
    unfold rw3
    simp [p3]
  have w4 : rw4 [.own true k3, .val (rowP r), .val (.int (a : Int)), .val (encQ q), .no, .no, .no, .no] = some (.nx, [.own true k3, .val (rowP r), .val (.int (a : Int)), .val (encQ q), .val (plD o), .no, .no, .no]) := by
    unfold rw4
    simp [t1]
  have w5 : rw5 [.own true k3, .val (rowP r), .val (.int (a : Int)), .val (encQ q), .val (plD o), .no, .no, .no] = some (.nx, [.own true k3, .val (rowP r), .val (.int (a : Int)), .val (encQ q), .val (plD o), .no, .no, .no]) := chk1 ho
  have w6 : rw6 [.own true k3, .val (rowP r), .val (.int (a : Int)), .val (encQ q), .val (plD o), .no, .no, .no] = some (.nx, [.own true k3, .val (rowP r), .val (.int (a : Int)), .val (encQ q), .val (plD o), .no, .no, .no]) := chk2 ho
  have w7 : rw7 [.own true k3, .val (rowP r), .val (.int (a : Int)), .val (encQ q), .val (plD o), .no, .no, .no] = some (.nx, [.own true k5, .val (rowP r), .val (.int (a : Int)), .val (encQ q), .val (plD o), .val (yL (yrs y1 y2)), .no, .no]) := by
    unfold rw7
    simp [-gAdd, -List.map_map, p4, p5, kRg_31, hadd]
  have w8 : rw8 [.own true k5, .val (rowP r), .val (.int (a : Int)), .val (encQ q), .val (plD o), .val (yL (yrs y1 y2)), .no, .no] = some (.nx, [.own true k5, .val (rowP r), .val (.int (a : Int)), .val (encQ q), .val (plD o), .val (yL (yrsO o y1 y2)), .no, .no]) := chk3 ho
  have w9 : rw9 [.own true k5, .val (rowP r), .val (.int (a : Int)), .val (encQ q), .val (plD o), .val (yL (yrsO o y1 y2)), .no, .no] = some (.nx, [.own true k5, .val (rowP r), .val (.int (a : Int)), .val (encQ q), .val (plD o), .val (yL (yrsO o y1 y2)), .no, .no]) := by
    unfold rw9
    simp [hy]
  have w10 : rw10 [.own true k5, .val (rowP r), .val (.int (a : Int)), .val (encQ q), .val (plD o), .val (yL (yrsO o y1 y2)), .no, .no] = some (.nx, [.own true k5, .val (rowP r), .val (.int (a : Int)), .val (encQ q), .val (plD o), .val (yL (yrsO o y1 y2)), .val (encQ p), .no]) := by
    unfold rw10
    simp [-gIx, q0, q1, d2, hp]
  have w11 : rw11 [.own true k5, .val (rowP r), .val (.int (a : Int)), .val (encQ q), .val (plD o), .val (yL (yrsO o y1 y2)), .val (encQ p), .no] = some (.nx, [.own true k5, .val (rowP r), .val (.int (a : Int)), .val (encQ q), .val (plD o), .val (yL (yrsO o y1 y2)), .val (encQ p), .no]) := by
    have g2 : ¬ plN o < plN o2 := by omega
    unfold rw11
    simp [t2, pl2, pl, g2]
  have w12 : rw12 [.own true k5, .val (rowP r), .val (.int (a : Int)), .val (encQ q), .val (plD o), .val (yL (yrsO o y1 y2)), .val (encQ p), .no] = some (.nx, [.own true k6, .val (rowP r), .val (.int (a : Int)), .val (encQ q), .val (plD o), .val (yL (yrsO o y1 y2)), .val (encQ p), .no]) := by
    have g3 : ¬ plN o3 < plN o := by omega
    unfold rw12
    simp [p6, t3, pl3, pl, g3]
  have w13 : rw13 [.own true k6, .val (rowP r), .val (.int (a : Int)), .val (encQ q), .val (plD o), .val (yL (yrsO o y1 y2)), .val (encQ p), .no] = some (.nx, [.own true k7, .val (rowP r), .val (.int (a : Int)), .val (encQ q), .val (plD o), .val (yL (yrsO o y1 y2)), .val (encQ p), .val (.int (k : Int))]) := by
    unfold rw13
    simp [-gLen, hlr, p7]
  have w14 : rw14 [.own true k7, .val (rowP r), .val (.int (a : Int)), .val (encQ q), .val (plD o), .val (yL (yrsO o y1 y2)), .val (encQ p), .val (.int (k : Int))] = some (.rt (.bool true), [.own true k7, .val (rowP r), .val (.int (a : Int)), .val (encQ q), .val (plD o), .val (yL (yrsO o y1 y2)), .val (encQ p), .val (.int (k : Int))]) := by
    unfold rw14
    simp [-gAdd, -gCut, -List.map_drop, -List.map_take, hcut1, hcut2, hrow, t4, hs]
  have whole := (seq_nx (g := sSeq rw2 (sSeq rw3 (sSeq rw4 (sSeq rw5 (sSeq rw6 (sSeq rw7 (sSeq rw8 (sSeq rw9 (sSeq rw10 (sSeq rw11 (sSeq rw12 (sSeq rw13 rw14)))))))))))) w1).trans ((seq_nx w2).trans ((seq_nx w3).trans ((seq_nx w4).trans ((seq_nx w5).trans ((seq_nx w6).trans ((seq_nx w7).trans ((seq_nx w8).trans ((seq_nx w9).trans ((seq_nx w10).trans ((seq_nx w11).trans ((seq_nx w12).trans ((seq_nx w13).trans w14))))))))))))
  rw [← rw_chain] at whole
  refine ⟨k7, ?_⟩
  unfold Ph_law_right
  rw [runM1]
  exact (congrArg endM whole).trans rfl
end K75

set_option Elab.async false
set_option linter.all false
set_option maxRecDepth 100000
set_option maxHeartbeats 1000000
/-! the law is true of each script -/
namespace K75
open PySem PySem.Spec PyProof.Rows L2 Dn
theorem log_bits {z : Int} (h : Builtin.Int.intBits z ≤ 1048576) : z.natAbs.log2 ≤ 1048576 := by
  unfold Builtin.Int.intBits at h
  split at h
  · rename_i h0
    have : z = 0 := by simpa using h0
    subst this
    decide
  · omega
theorem depth_ints : ∀ ns : List Int, PyData.depthAll (ns.map .int) = 0 ∧ PyData.canLayAll0 (ns.map .int) = true
  | [] => ⟨rfl, rfl⟩
  | n :: ns => by
    obtain ⟨h1, h2⟩ := depth_ints ns
    rw [List.map_cons]
    simp only [PyData.depthAll, PyData.depth, PyData.canLayAll0, PyData.canLay0, h1, h2]
    exact ⟨rfl, rfl⟩
theorem shaped_ints (ns : List Int) : SeqAt.shaped (.list (ns.map .int)) = true := by
  obtain ⟨h1, h2⟩ := depth_ints ns
  unfold SeqAt.shaped
  simp only [PyData.canLay0, PyData.depth, h1, h2]
  decide
theorem eq_nil (ns : List Int) : gEq (.list (ns.map .int)) (.list []) = some (.bool ns.isEmpty) := by
  have : gEq (.list (ns.map .int)) (.list []) = if SeqAt.shaped (.list (ns.map .int)) && SeqAt.shaped (.list []) then some (.bool (PyData.eqv (.list (ns.map .int)) (.list []))) else none := rfl
  rw [this, shaped_ints, shaped_nil]
  cases ns with
  | nil => simp
  | cons n ns => simp [PyData.eqv, PyData.eqvAll]
/-- the cells that a law takes of a script -/
def cellsOf (m : Nat) (ns : List Int) : List Int := ns.take m ++ if ns.isEmpty then [0] else []
theorem cellsOf_len {m : Nat} {ns : List Int} (hm : 1 ≤ m) : (cellsOf m ns).length ≤ m := by
  unfold cellsOf
  cases ns with
  | nil => simp; omega
  | cons n ns => simp; omega
theorem cellsOf_bits {m : Nat} {ns : List Int} (hb : ∀ z ∈ ns, Builtin.Int.intBits z ≤ 1048576) : ∀ z ∈ cellsOf m ns, z.natAbs.log2 ≤ 1048576 := by
  intro z hz
  unfold cellsOf at hz
  rcases List.mem_append.mp hz with h | h
  · exact log_bits (hb z (List.mem_of_mem_take h))
  · split at h
    · rw [List.mem_singleton.mp h]; decide
    · cases h
theorem cells_den {m : Nat} {ns : List Int} : PyData.list (cutD (ns.map .int) none (some (m : Int)) ++ reps (if ns.isEmpty = true then 1 else 0) [.int 0]) = .list ((cellsOf m ns).map .int) := by
  rw [cut_to]
  unfold cellsOf
  rw [List.map_append, List.map_take]
  cases ns with
  | nil => simp [reps]
  | cons n ns => simp [reps]
theorem law_true (ns : List Int) (hl : ns.length ≤ 63) (hb : ∀ z ∈ ns, Builtin.Int.intBits z ≤ 1048576) : Ph_law [.list (ns.map .int)] = some (.bool true) := by
  have hlen := cellsOf_len (m := 8) (ns := ns) (by decide)
  have hbits := cellsOf_bits (m := 8) hb
  have hlp := for_ix (tg := g1 2) (f := lp_law_1) (E := fun (i : Nat) => .int (i : Int)) (n := (cellsOf 8 ns).length)
    (S := fun (_ : Nat) (e : En) => ∃ s2, e = [.val (.list (ns.map .int)), .val (.list ((cellsOf 8 ns).map .int)), s2])
    (e := [.val (.list (ns.map .int)), .val (.list ((cellsOf 8 ns).map .int)), .no]) ⟨_, rfl⟩ fun i hi e ⟨s2, he⟩ => by
      subst he
      refine ⟨_, [.val (.list (ns.map .int)), .val (.list ((cellsOf 8 ns).map .int)), .val (.int (i : Int))], .nx, rfl, ?_, .inl rfl, ⟨_, rfl⟩⟩
      have hz := hbits (cellsOf 8 ns)[i] (List.getElem_mem hi)
      obtain ⟨ks, h1, h2⟩ := v_law_keg (z := (cellsOf 8 ns)[i]) (k := (i : Int)) hz ⟨by omega, by omega⟩
      obtain ⟨ks', h3⟩ := v_law_right (N := 100) (ks := ks) (h2.mono (by omega))
      have h4 : gIx (.list ((cellsOf 8 ns).map .int)) (.int (i : Int)) = some (.int (cellsOf 8 ns)[i]) := by
        show atI _ _ = _
        rw [atI_get (by simpa using hi)]
        simp
      simp [-gIx, lp_law_1, h4, h1, h3]
  obtain ⟨e', h5, s2, rfl⟩ := hlp
  have hr := @kR1_len (cellsOf 8 ns).length [.val (.list (ns.map .int)), .val (.list ((cellsOf 8 ns).map .int)), .no] (by omega)
  have hrep : ∀ (b : Bool) e, kRep2 [.int 0] (.int (if b = true then 1 else 0), e) = some (reps (if b = true then 1 else 0) [.int 0], e) := fun b e => kRep2_n (by cases b <;> decide) (by simp) (by cases b <;> decide)
  have hc := cells_den (m := 8) (ns := ns)
  have hok : okN ((cutD (ns.map .int) none (some (8 : Int))).length + (reps (if ns.isEmpty = true then 1 else 0) [PyData.int 0]).length) = true := by
    have := congrArg (fun d : PyData => match d with | .list xs => xs.length | _ => 0) hc
    simp only [List.length_append, List.length_map] at this
    exact okN_of (by
      have h6 : (((8 : Nat) : Int)) = 8 := rfl
      rw [h6] at this
      omega)
  unfold Ph_law
  rw [run1]
  unfold dn_law
  simp [-gEq, -gAdd, -gLen, -List.isEmpty_iff, gCut, eq_nil, hrep]
  rw [show gAdd (.list (cutD (ns.map .int) none (some 8))) (.list (reps (if ns.isEmpty = true then 1 else 0) [.int 0])) = some (.list ((cellsOf 8 ns).map .int)) by
    show (if okN _ then _ else _) = _
    rw [hok]
    exact congrArg some hc]
  simp [hr, h5]
end K75



set_option Elab.async false
set_option linter.all false
set_option maxRecDepth 100000
set_option maxHeartbeats 4000000
namespace K75
open PySem PySem.Spec PyProof.Rows L2 Dn
noncomputable def wd_mk {P : Program} {K : PySem.W.Frag} {h : Heap} {mg : Str → Option Value} (X : K.In h) (G : h.Ns mainGlobals mg)
    {f0 : Addr} {od0 an0 : Option Addr} {sl0 : Array (Option Value)} {oc0 kV0 dc0 pm0 cd0 ct0 : Value}
    (a0 : PySem.W.nsIn K mainGlobals "_law_pull" = some (some (.ref f0))) (l0 : K.lookup f0 = some ⟨oc0, od0, .func (PySem.W.fnOf "_law_pull" "_law_pull" (defArgs (topS 38)) (defBody (topS 38)) (defScope (topS 38)) .none kV0 dc0 pm0 an0 cd0 ct0), sl0⟩) (c0 : PySem.W.codeIn K cd0 "_law_pull" = true) (k0 : PySem.W.keepIn K (.ref f0) = true)
    {f1 : Addr} {od1 an1 : Option Addr} {sl1 : Array (Option Value)} {oc1 kV1 dc1 pm1 cd1 ct1 : Value}
    (a1 : PySem.W.nsIn K mainGlobals "_law_low" = some (some (.ref f1))) (l1 : K.lookup f1 = some ⟨oc1, od1, .func (PySem.W.fnOf "_law_low" "_law_low" (defArgs (topS 39)) (defBody (topS 39)) (defScope (topS 39)) .none kV1 dc1 pm1 an1 cd1 ct1), sl1⟩) (c1 : PySem.W.codeIn K cd1 "_law_low" = true) (k1 : PySem.W.keepIn K (.ref f1) = true)
    {f2 : Addr} {od2 an2 : Option Addr} {sl2 : Array (Option Value)} {oc2 kV2 dc2 pm2 cd2 ct2 : Value}
    (a2 : PySem.W.nsIn K mainGlobals "_law_row" = some (some (.ref f2))) (l2 : K.lookup f2 = some ⟨oc2, od2, .func (PySem.W.fnOf "_law_row" "_law_row" (defArgs (topS 41)) (defBody (topS 41)) (defScope (topS 41)) .none kV2 dc2 pm2 an2 cd2 ct2), sl2⟩) (c2 : PySem.W.codeIn K cd2 "_law_row" = true) (k2 : PySem.W.keepIn K (.ref f2) = true)
    {f3 : Addr} {od3 an3 : Option Addr} {sl3 : Array (Option Value)} {oc3 kV3 dc3 pm3 cd3 ct3 : Value}
    (a3 : PySem.W.nsIn K mainGlobals "is_integer" = some (some (.ref f3))) (l3 : K.lookup f3 = some ⟨oc3, od3, .func (PySem.W.fnOf "is_integer" "is_integer" (defArgs (topS 9)) (defBody (topS 9)) (defScope (topS 9)) .none kV3 dc3 pm3 an3 cd3 ct3), sl3⟩) (c3 : PySem.W.codeIn K cd3 "is_integer" = true) (k3 : PySem.W.keepIn K (.ref f3) = true)
    {f4 : Addr} {od4 an4 : Option Addr} {sl4 : Array (Option Value)} {oc4 kV4 dc4 pm4 cd4 ct4 : Value}
    (a4 : PySem.W.nsIn K mainGlobals "is_fraction" = some (some (.ref f4))) (l4 : K.lookup f4 = some ⟨oc4, od4, .func (PySem.W.fnOf "is_fraction" "is_fraction" (defArgs (topS 11)) (defBody (topS 11)) (defScope (topS 11)) .none kV4 dc4 pm4 an4 cd4 ct4), sl4⟩) (c4 : PySem.W.codeIn K cd4 "is_fraction" = true) (k4 : PySem.W.keepIn K (.ref f4) = true)
    {f5 : Addr} {od5 an5 : Option Addr} {sl5 : Array (Option Value)} {oc5 kV5 dc5 pm5 cd5 ct5 : Value}
    (a5 : PySem.W.nsIn K mainGlobals "is_share" = some (some (.ref f5))) (l5 : K.lookup f5 = some ⟨oc5, od5, .func (PySem.W.fnOf "is_share" "is_share" (defArgs (topS 12)) (defBody (topS 12)) (defScope (topS 12)) .none kV5 dc5 pm5 an5 cd5 ct5), sl5⟩) (c5 : PySem.W.codeIn K cd5 "is_share" = true) (k5 : PySem.W.keepIn K (.ref f5) = true)
    {f6 : Addr} {od6 an6 : Option Addr} {sl6 : Array (Option Value)} {oc6 kV6 dc6 pm6 cd6 ct6 : Value}
    (a6 : PySem.W.nsIn K mainGlobals "is_row" = some (some (.ref f6))) (l6 : K.lookup f6 = some ⟨oc6, od6, .func (PySem.W.fnOf "is_row" "is_row" (defArgs (topS 27)) (defBody (topS 27)) (defScope (topS 27)) .none kV6 dc6 pm6 an6 cd6 ct6), sl6⟩) (c6 : PySem.W.codeIn K cd6 "is_row" = true) (k6 : PySem.W.keepIn K (.ref f6) = true)
    {f7 : Addr} {od7 an7 : Option Addr} {sl7 : Array (Option Value)} {oc7 kV7 dc7 pm7 cd7 ct7 : Value}
    (a7 : PySem.W.nsIn K mainGlobals "need_row" = some (some (.ref f7))) (l7 : K.lookup f7 = some ⟨oc7, od7, .func (PySem.W.fnOf "need_row" "need_row" (defArgs (topS 28)) (defBody (topS 28)) (defScope (topS 28)) .none kV7 dc7 pm7 an7 cd7 ct7), sl7⟩) (c7 : PySem.W.codeIn K cd7 "need_row" = true) (k7 : PySem.W.keepIn K (.ref f7) = true)
    {f8 : Addr} {od8 an8 : Option Addr} {sl8 : Array (Option Value)} {oc8 kV8 dc8 pm8 cd8 ct8 : Value}
    (a8 : PySem.W.nsIn K mainGlobals "need_from_zero" = some (some (.ref f8))) (l8 : K.lookup f8 = some ⟨oc8, od8, .func (PySem.W.fnOf "need_from_zero" "need_from_zero" (defArgs (topS 21)) (defBody (topS 21)) (defScope (topS 21)) .none kV8 dc8 pm8 an8 cd8 ct8), sl8⟩) (c8 : PySem.W.codeIn K cd8 "need_from_zero" = true) (k8 : PySem.W.keepIn K (.ref f8) = true)
    {f9 : Addr} {od9 an9 : Option Addr} {sl9 : Array (Option Value)} {oc9 kV9 dc9 pm9 cd9 ct9 : Value}
    (a9 : PySem.W.nsIn K mainGlobals "common_below" = some (some (.ref f9))) (l9 : K.lookup f9 = some ⟨oc9, od9, .func (PySem.W.fnOf "common_below" "common_below" (defArgs (topS 22)) (defBody (topS 22)) (defScope (topS 22)) .none kV9 dc9 pm9 an9 cd9 ct9), sl9⟩) (c9 : PySem.W.codeIn K cd9 "common_below" = true) (k9 : PySem.W.keepIn K (.ref f9) = true)
    {f10 : Addr} {od10 an10 : Option Addr} {sl10 : Array (Option Value)} {oc10 kV10 dc10 pm10 cd10 ct10 : Value}
    (a10 : PySem.W.nsIn K mainGlobals "over_below" = some (some (.ref f10))) (l10 : K.lookup f10 = some ⟨oc10, od10, .func (PySem.W.fnOf "over_below" "over_below" (defArgs (topS 23)) (defBody (topS 23)) (defScope (topS 23)) .none kV10 dc10 pm10 an10 cd10 ct10), sl10⟩) (c10 : PySem.W.codeIn K cd10 "over_below" = true) (k10 : PySem.W.keepIn K (.ref f10) = true)
    {f11 : Addr} {od11 an11 : Option Addr} {sl11 : Array (Option Value)} {oc11 kV11 dc11 pm11 cd11 ct11 : Value}
    (a11 : PySem.W.nsIn K mainGlobals "row_table" = some (some (.ref f11))) (l11 : K.lookup f11 = some ⟨oc11, od11, .func (PySem.W.fnOf "row_table" "row_table" (defArgs (topS 29)) (defBody (topS 29)) (defScope (topS 29)) .none kV11 dc11 pm11 an11 cd11 ct11), sl11⟩) (c11 : PySem.W.codeIn K cd11 "row_table" = true) (k11 : PySem.W.keepIn K (.ref f11) = true)
    {f12 : Addr} {od12 an12 : Option Addr} {sl12 : Array (Option Value)} {oc12 kV12 dc12 pm12 cd12 ct12 : Value}
    (a12 : PySem.W.nsIn K mainGlobals "stepped" = some (some (.ref f12))) (l12 : K.lookup f12 = some ⟨oc12, od12, .func (PySem.W.fnOf "stepped" "stepped" (defArgs (topS 24)) (defBody (topS 24)) (defScope (topS 24)) .none kV12 dc12 pm12 an12 cd12 ct12), sl12⟩) (c12 : PySem.W.codeIn K cd12 "stepped" = true) (k12 : PySem.W.keepIn K (.ref f12) = true)
    {f13 : Addr} {od13 an13 : Option Addr} {sl13 : Array (Option Value)} {oc13 kV13 dc13 pm13 cd13 ct13 : Value}
    (a13 : PySem.W.nsIn K mainGlobals "over_years" = some (some (.ref f13))) (l13 : K.lookup f13 = some ⟨oc13, od13, .func (PySem.W.fnOf "over_years" "over_years" (defArgs (topS 25)) (defBody (topS 25)) (defScope (topS 25)) .none kV13 dc13 pm13 an13 cd13 ct13), sl13⟩) (c13 : PySem.W.codeIn K cd13 "over_years" = true) (k13 : PySem.W.keepIn K (.ref f13) = true)
    {f14 : Addr} {od14 an14 : Option Addr} {sl14 : Array (Option Value)} {oc14 kV14 dc14 pm14 cd14 ct14 : Value}
    (a14 : PySem.W.nsIn K mainGlobals "row_series" = some (some (.ref f14))) (l14 : K.lookup f14 = some ⟨oc14, od14, .func (PySem.W.fnOf "row_series" "row_series" (defArgs (topS 30)) (defBody (topS 30)) (defScope (topS 30)) .none kV14 dc14 pm14 an14 cd14 ct14), sl14⟩) (c14 : PySem.W.codeIn K cd14 "row_series" = true) (k14 : PySem.W.keepIn K (.ref f14) = true)
    {f15 : Addr} {od15 an15 : Option Addr} {sl15 : Array (Option Value)} {oc15 kV15 dc15 pm15 cd15 ct15 : Value}
    (a15 : PySem.W.nsIn K mainGlobals "fraction" = some (some (.ref f15))) (l15 : K.lookup f15 = some ⟨oc15, od15, .func (PySem.W.fnOf "fraction" "fraction" (defArgs (topS 15)) (defBody (topS 15)) (defScope (topS 15)) .none kV15 dc15 pm15 an15 cd15 ct15), sl15⟩) (c15 : PySem.W.codeIn K cd15 "fraction" = true) (k15 : PySem.W.keepIn K (.ref f15) = true)
    {f16 : Addr} {od16 an16 : Option Addr} {sl16 : Array (Option Value)} {oc16 kV16 dc16 pm16 cd16 ct16 : Value}
    (a16 : PySem.W.nsIn K mainGlobals "tap_total" = some (some (.ref f16))) (l16 : K.lookup f16 = some ⟨oc16, od16, .func (PySem.W.fnOf "tap_total" "tap_total" (defArgs (topS 31)) (defBody (topS 31)) (defScope (topS 31)) .none kV16 dc16 pm16 an16 cd16 ct16), sl16⟩) (c16 : PySem.W.codeIn K cd16 "tap_total" = true) (k16 : PySem.W.keepIn K (.ref f16) = true)
    {f17 : Addr} {od17 an17 : Option Addr} {sl17 : Array (Option Value)} {oc17 kV17 dc17 pm17 cd17 ct17 : Value}
    (a17 : PySem.W.nsIn K mainGlobals "need_fraction" = some (some (.ref f17))) (l17 : K.lookup f17 = some ⟨oc17, od17, .func (PySem.W.fnOf "need_fraction" "need_fraction" (defArgs (topS 13)) (defBody (topS 13)) (defScope (topS 13)) .none kV17 dc17 pm17 an17 cd17 ct17), sl17⟩) (c17 : PySem.W.codeIn K cd17 "need_fraction" = true) (k17 : PySem.W.keepIn K (.ref f17) = true)
    {f18 : Addr} {od18 an18 : Option Addr} {sl18 : Array (Option Value)} {oc18 kV18 dc18 pm18 cd18 ct18 : Value}
    (a18 : PySem.W.nsIn K mainGlobals "less" = some (some (.ref f18))) (l18 : K.lookup f18 = some ⟨oc18, od18, .func (PySem.W.fnOf "less" "less" (defArgs (topS 16)) (defBody (topS 16)) (defScope (topS 16)) .none kV18 dc18 pm18 an18 cd18 ct18), sl18⟩) (c18 : PySem.W.codeIn K cd18 "less" = true) (k18 : PySem.W.keepIn K (.ref f18) = true)
    {f19 : Addr} {od19 an19 : Option Addr} {sl19 : Array (Option Value)} {oc19 kV19 dc19 pm19 cd19 ct19 : Value}
    (a19 : PySem.W.nsIn K mainGlobals "over" = some (some (.ref f19))) (l19 : K.lookup f19 = some ⟨oc19, od19, .func (PySem.W.fnOf "over" "over" (defArgs (topS 18)) (defBody (topS 18)) (defScope (topS 18)) .none kV19 dc19 pm19 an19 cd19 ct19), sl19⟩) (c19 : PySem.W.codeIn K cd19 "over" = true) (k19 : PySem.W.keepIn K (.ref f19) = true)
    {f20 : Addr} {od20 an20 : Option Addr} {sl20 : Array (Option Value)} {oc20 kV20 dc20 pm20 cd20 ct20 : Value}
    (a20 : PySem.W.nsIn K mainGlobals "older_in" = some (some (.ref f20))) (l20 : K.lookup f20 = some ⟨oc20, od20, .func (PySem.W.fnOf "older_in" "older_in" (defArgs (topS 34)) (defBody (topS 34)) (defScope (topS 34)) .none kV20 dc20 pm20 an20 cd20 ct20), sl20⟩) (c20 : PySem.W.codeIn K cd20 "older_in" = true) (k20 : PySem.W.keepIn K (.ref f20) = true)
    {f21 : Addr} {od21 an21 : Option Addr} {sl21 : Array (Option Value)} {oc21 kV21 dc21 pm21 cd21 ct21 : Value}
    (a21 : PySem.W.nsIn K mainGlobals "_law_label" = some (some (.ref f21))) (l21 : K.lookup f21 = some ⟨oc21, od21, .func (PySem.W.fnOf "_law_label" "_law_label" (defArgs (topS 42)) (defBody (topS 42)) (defScope (topS 42)) .none kV21 dc21 pm21 an21 cd21 ct21), sl21⟩) (c21 : PySem.W.codeIn K cd21 "_law_label" = true) (k21 : PySem.W.keepIn K (.ref f21) = true)
    {f22 : Addr} {od22 an22 : Option Addr} {sl22 : Array (Option Value)} {oc22 kV22 dc22 pm22 cd22 ct22 : Value}
    (a22 : PySem.W.nsIn K mainGlobals "need_share" = some (some (.ref f22))) (l22 : K.lookup f22 = some ⟨oc22, od22, .func (PySem.W.fnOf "need_share" "need_share" (defArgs (topS 14)) (defBody (topS 14)) (defScope (topS 14)) .none kV22 dc22 pm22 an22 cd22 ct22), sl22⟩) (c22 : PySem.W.codeIn K cd22 "need_share" = true) (k22 : PySem.W.keepIn K (.ref f22) = true)
    {f23 : Addr} {od23 an23 : Option Addr} {sl23 : Array (Option Value)} {oc23 kV23 dc23 pm23 cd23 ct23 : Value}
    (a23 : PySem.W.nsIn K mainGlobals "compared" = some (some (.ref f23))) (l23 : K.lookup f23 = some ⟨oc23, od23, .func (PySem.W.fnOf "compared" "compared" (defArgs (topS 19)) (defBody (topS 19)) (defScope (topS 19)) .none kV23 dc23 pm23 an23 cd23 ct23), sl23⟩) (c23 : PySem.W.codeIn K cd23 "compared" = true) (k23 : PySem.W.keepIn K (.ref f23) = true)
    {f24 : Addr} {od24 an24 : Option Addr} {sl24 : Array (Option Value)} {oc24 kV24 dc24 pm24 cd24 ct24 : Value}
    (a24 : PySem.W.nsIn K mainGlobals "times" = some (some (.ref f24))) (l24 : K.lookup f24 = some ⟨oc24, od24, .func (PySem.W.fnOf "times" "times" (defArgs (topS 17)) (defBody (topS 17)) (defScope (topS 17)) .none kV24 dc24 pm24 an24 cd24 ct24), sl24⟩) (c24 : PySem.W.codeIn K cd24 "times" = true) (k24 : PySem.W.keepIn K (.ref f24) = true)
    {f25 : Addr} {od25 an25 : Option Addr} {sl25 : Array (Option Value)} {oc25 kV25 dc25 pm25 cd25 ct25 : Value}
    (a25 : PySem.W.nsIn K mainGlobals "label_from" = some (some (.ref f25))) (l25 : K.lookup f25 = some ⟨oc25, od25, .func (PySem.W.fnOf "label_from" "label_from" (defArgs (topS 35)) (defBody (topS 35)) (defScope (topS 35)) .none kV25 dc25 pm25 an25 cd25 ct25), sl25⟩) (c25 : PySem.W.codeIn K cd25 "label_from" = true) (k25 : PySem.W.keepIn K (.ref f25) = true)
    {f26 : Addr} {od26 an26 : Option Addr} {sl26 : Array (Option Value)} {oc26 kV26 dc26 pm26 cd26 ct26 : Value}
    (a26 : PySem.W.nsIn K mainGlobals "_law_told" = some (some (.ref f26))) (l26 : K.lookup f26 = some ⟨oc26, od26, .func (PySem.W.fnOf "_law_told" "_law_told" (defArgs (topS 44)) (defBody (topS 44)) (defScope (topS 44)) .none kV26 dc26 pm26 an26 cd26 ct26), sl26⟩) (c26 : PySem.W.codeIn K cd26 "_law_told" = true) (k26 : PySem.W.keepIn K (.ref f26) = true)
    {f27 : Addr} {od27 an27 : Option Addr} {sl27 : Array (Option Value)} {oc27 kV27 dc27 pm27 cd27 ct27 : Value}
    (a27 : PySem.W.nsIn K mainGlobals "_law_same" = some (some (.ref f27))) (l27 : K.lookup f27 = some ⟨oc27, od27, .func (PySem.W.fnOf "_law_same" "_law_same" (defArgs (topS 40)) (defBody (topS 40)) (defScope (topS 40)) .none kV27 dc27 pm27 an27 cd27 ct27), sl27⟩) (c27 : PySem.W.codeIn K cd27 "_law_same" = true) (k27 : PySem.W.keepIn K (.ref f27) = true)
    {f28 : Addr} {od28 an28 : Option Addr} {sl28 : Array (Option Value)} {oc28 kV28 dc28 pm28 cd28 ct28 : Value}
    (a28 : PySem.W.nsIn K mainGlobals "_law_place" = some (some (.ref f28))) (l28 : K.lookup f28 = some ⟨oc28, od28, .func (PySem.W.fnOf "_law_place" "_law_place" (defArgs (topS 45)) (defBody (topS 45)) (defScope (topS 45)) .none kV28 dc28 pm28 an28 cd28 ct28), sl28⟩) (c28 : PySem.W.codeIn K cd28 "_law_place" = true) (k28 : PySem.W.keepIn K (.ref f28) = true)
    {f29 : Addr} {od29 an29 : Option Addr} {sl29 : Array (Option Value)} {oc29 kV29 dc29 pm29 cd29 ct29 : Value}
    (a29 : PySem.W.nsIn K mainGlobals "_law_less" = some (some (.ref f29))) (l29 : K.lookup f29 = some ⟨oc29, od29, .func (PySem.W.fnOf "_law_less" "_law_less" (defArgs (topS 43)) (defBody (topS 43)) (defScope (topS 43)) .none kV29 dc29 pm29 an29 cd29 ct29), sl29⟩) (c29 : PySem.W.codeIn K cd29 "_law_less" = true) (k29 : PySem.W.keepIn K (.ref f29) = true)
    {f30 : Addr} {od30 an30 : Option Addr} {sl30 : Array (Option Value)} {oc30 kV30 dc30 pm30 cd30 ct30 : Value}
    (a30 : PySem.W.nsIn K mainGlobals "older" = some (some (.ref f30))) (l30 : K.lookup f30 = some ⟨oc30, od30, .func (PySem.W.fnOf "older" "older" (defArgs (topS 33)) (defBody (topS 33)) (defScope (topS 33)) .none kV30 dc30 pm30 an30 cd30 ct30), sl30⟩) (c30 : PySem.W.codeIn K cd30 "older" = true) (k30 : PySem.W.keepIn K (.ref f30) = true)
    {f31 : Addr} {od31 an31 : Option Addr} {sl31 : Array (Option Value)} {oc31 kV31 dc31 pm31 cd31 ct31 : Value}
    (a31 : PySem.W.nsIn K mainGlobals "_law_years_right" = some (some (.ref f31))) (l31 : K.lookup f31 = some ⟨oc31, od31, .func (PySem.W.fnOf "_law_years_right" "_law_years_right" (defArgs (topS 46)) (defBody (topS 46)) (defScope (topS 46)) .none kV31 dc31 pm31 an31 cd31 ct31), sl31⟩) (c31 : PySem.W.codeIn K cd31 "_law_years_right" = true) (k31 : PySem.W.keepIn K (.ref f31) = true)
    {f32 : Addr} {od32 an32 : Option Addr} {sl32 : Array (Option Value)} {oc32 kV32 dc32 pm32 cd32 ct32 : Value}
    (a32 : PySem.W.nsIn K mainGlobals "_law_right" = some (some (.ref f32))) (l32 : K.lookup f32 = some ⟨oc32, od32, .func (PySem.W.fnOf "_law_right" "_law_right" (defArgs (topS 47)) (defBody (topS 47)) (defScope (topS 47)) .none kV32 dc32 pm32 an32 cd32 ct32), sl32⟩) (c32 : PySem.W.codeIn K cd32 "_law_right" = true) (k32 : PySem.W.keepIn K (.ref f32) = true)
    {f33 : Addr} {od33 an33 : Option Addr} {sl33 : Array (Option Value)} {oc33 kV33 dc33 pm33 cd33 ct33 : Value}
    (a33 : PySem.W.nsIn K mainGlobals "_law_keg" = some (some (.ref f33))) (l33 : K.lookup f33 = some ⟨oc33, od33, .func (PySem.W.fnOf "_law_keg" "_law_keg" (defArgs (topS 37)) (defBody (topS 37)) (defScope (topS 37)) .none kV33 dc33 pm33 an33 cd33 ct33), sl33⟩) (c33 : PySem.W.codeIn K cd33 "_law_keg" = true) (k33 : PySem.W.keepIn K (.ref f33) = true)
    {f34 : Addr} {od34 an34 : Option Addr} {sl34 : Array (Option Value)} {oc34 kV34 dc34 pm34 cd34 ct34 : Value}
    (a34 : PySem.W.nsIn K mainGlobals "law" = some (some (.ref f34))) (l34 : K.lookup f34 = some ⟨oc34, od34, .func (PySem.W.fnOf "law" "law" (defArgs (topS 48)) (defBody (topS 48)) (defScope (topS 48)) .none kV34 dc34 pm34 an34 cd34 ct34), sl34⟩) (c34 : PySem.W.codeIn K cd34 "law" = true) (k34 : PySem.W.keepIn K (.ref f34) = true)
    (z0 : PySem.W.nsIn K mainGlobals "int" = some none)
    (z1 : PySem.W.nsIn K mainGlobals "abs" = some none)
    (z2 : PySem.W.nsIn K mainGlobals "range" = some none)
    (z3 : PySem.W.nsIn K mainGlobals "len" = some none)
    (z4 : PySem.W.nsIn K mainGlobals "tuple" = some none)
    (z5 : PySem.W.nsIn K mainGlobals "isinstance" = some none)
    (z6 : PySem.W.nsIn K mainGlobals "bool" = some none)
    (z7 : PySem.W.nsIn K mainGlobals "all" = some none)
    (z8 : PySem.W.nsIn K mainGlobals "sum" = some none)
    (z9 : PySem.W.nsIn K mainGlobals "zip" = some none)
    (z10 : PySem.W.nsIn K mainGlobals "list" = some none)
    (z11 : PySem.W.nsIn K mainGlobals "min" = some none)
    (z12 : PySem.W.nsIn K mainGlobals "max" = some none)
    (z13 : PySem.W.nsIn K mainGlobals "str" = some none)
    (y0 : PySem.W.nsIn K mainGlobals "gcd" = some (some (.builtin "math.gcd")))
    (y1 : PySem.W.nsIn K mainGlobals "lcm" = some (some (.builtin "math.lcm")))
    {xD xI cda cc : Addr} {xoc xdoc xpm xct xccl xcl : Value} {xod xan xcdd xcld : Option Addr} {xosl xccs xcsl : Array (Option Value)} {xvs : Array Value} {xfile : Str} {xtf : Tok} {cdD : ClassData}
    (xaD : PySem.W.nsIn K mainGlobals "CaskError" = some (some (.ref xD))) (xsup : PySem.W.nsIn K mainGlobals "super" = some none) (xopq : PySem.W.nsIn K cStatics "thirdparty.any" = some none) (xd1 : PySem.W.clsIn K xD = some cdD)
    {C0 N0 : Addr} {nm0 q0 : Str} {bs0 sub0 : List Value} {sn0 : List Str} {ab0 : Bool} {col0 : Option Bool} {dd0 : Option Addr} {mA0 mB0 mC0 mD0 mE0 : Option Value}
    (eG0 : PySem.W.nsIn K mainGlobals "TooMany" = some (some (.ref C0))) (eX0 : K.lookup C0 = some (excClassObj nm0 q0 C0 N0 bs0 [.ref xD, .type "ValueError", .type "Exception", .type "BaseException", .type "object"] true sn0 sub0 ab0 col0 dd0 mA0 mB0 mC0 mD0 mE0 "ValueError.__new__")) (eSa0 : PySem.W.findIn K (.ref C0) "__setattr__" = some (some (.builtin "object.__setattr__"))) (eGa0 : PySem.W.findIn K (.ref C0) "__getattribute__" = some (some (.builtin "BaseException.__getattribute__"))) (eGg0 : PySem.W.findIn K (.ref C0) "__getattr__" = some none) (eNb0 : PySem.W.findIn K (.ref C0) "value" = some none) (eI0 : PySem.W.findIn K (.ref C0) "__init__" = some (some (.ref xI))) (eTi0 : PySem.W.typeIn K (.ref xI) = some (.type "function")) (eK0 : PySem.W.keepIn K (.ref C0) = true) (eE0 : PySem.W.subIn K (.ref C0) (.type "BaseException") = some true) (eT0 : PySem.W.typeIn K (.ref C0) = some (.type "type")) (eH0 : PySem.W.hasDictIn K C0 = true) (eIc0 : PySem.W.isClsIn K C0 = true) (eSs0 : PySem.W.subIn K (.ref C0) (.ref C0) = some true) (eV0 : PySem.W.subIn K (.ref C0) (.type "ValueError") = some true) (eSu0 : PySem.W.ks_superIn K C0 xD "__init__" = some (some (.builtin "ValueError.__init__"))) (eM0 : PySem.W.mroIn K C0 (.ref xD) = some true)
    (xl : K.lookup xI = some ⟨xoc, xod, .func (PySem.W.ksFn "__init__" "CaskError.__init__" (PySem.CaskX.iA ⟨5, 17, 5, 21⟩ ⟨5, 23, 5, 28⟩) (PySem.CaskX.iB "caskyears" ⟨6, 8, 6, 13⟩ ⟨6, 8, 6, 15⟩ ⟨6, 8, 6, 24⟩ ⟨6, 25, 6, 36⟩ ⟨6, 8, 6, 37⟩ ⟨6, 8, 6, 37⟩ ⟨7, 8, 7, 12⟩ ⟨7, 8, 7, 18⟩ ⟨7, 21, 7, 26⟩ ⟨7, 8, 7, 26⟩) PySem.CaskX.iS .none .none xdoc xpm xan (.ref cda) xct cc), xosl⟩) (xc1 : PySem.W.codeIn K (.ref cda) "CaskError.__init__" = true) (xcd : K.lookup cda = some ⟨xccl, xcdd, .fields xvs, xccs⟩) (xv2 : xvs[2]? = some (.str xfile xtf)) (xfl : ((P.main.file : Str) == xfile) = true) (xcc : K.lookup cc = some ⟨xcl, xcld, .cell (some (.ref xD)), xcsl⟩) (xtp : (P.main.scope.names.lookup ("super" : Str)).isSome = false) : Wd P K mg where
  a_law_pull := f0
  fd_law_pull := PySem.W.fnOf "_law_pull" "_law_pull" (defArgs (topS 38)) (defBody (topS 38)) (defScope (topS 38)) .none kV0 dc0 pm0 an0 cd0 ct0
  F_law_pull := fun_mk l0 c0 k0
  m_law_pull := PySem.W.mg_of X G a0
  n_law_pull := (fun_mk (st := (topS 38)) l0 c0 k0).binds (ps := ["_law_keg_here", "_law_many"]) fun _ _ _ _ _ _ us hl => match us, hl with | [_, _], _ => rfl
  a_law_low := f1
  fd_law_low := PySem.W.fnOf "_law_low" "_law_low" (defArgs (topS 39)) (defBody (topS 39)) (defScope (topS 39)) .none kV1 dc1 pm1 an1 cd1 ct1
  F_law_low := fun_mk l1 c1 k1
  m_law_low := PySem.W.mg_of X G a1
  n_law_low := (fun_mk (st := (topS 39)) l1 c1 k1).binds (ps := ["_law_above", "_law_below"]) fun _ _ _ _ _ _ us hl => match us, hl with | [_, _], _ => rfl
  a_law_row := f2
  fd_law_row := PySem.W.fnOf "_law_row" "_law_row" (defArgs (topS 41)) (defBody (topS 41)) (defScope (topS 41)) .none kV2 dc2 pm2 an2 cd2 ct2
  F_law_row := fun_mk l2 c2 k2
  m_law_row := PySem.W.mg_of X G a2
  n_law_row := (fun_mk (st := (topS 41)) l2 c2 k2).binds (ps := ["_law_keg_here"]) fun _ _ _ _ _ _ us hl => match us, hl with | [_], _ => rfl
  a_is_integer := f3
  fd_is_integer := PySem.W.fnOf "is_integer" "is_integer" (defArgs (topS 9)) (defBody (topS 9)) (defScope (topS 9)) .none kV3 dc3 pm3 an3 cd3 ct3
  F_is_integer := fun_mk l3 c3 k3
  m_is_integer := PySem.W.mg_of X G a3
  n_is_integer := (fun_mk (st := (topS 9)) l3 c3 k3).binds (ps := ["value"]) fun _ _ _ _ _ _ us hl => match us, hl with | [_], _ => rfl
  a_is_fraction := f4
  fd_is_fraction := PySem.W.fnOf "is_fraction" "is_fraction" (defArgs (topS 11)) (defBody (topS 11)) (defScope (topS 11)) .none kV4 dc4 pm4 an4 cd4 ct4
  F_is_fraction := fun_mk l4 c4 k4
  m_is_fraction := PySem.W.mg_of X G a4
  n_is_fraction := (fun_mk (st := (topS 11)) l4 c4 k4).binds (ps := ["value"]) fun _ _ _ _ _ _ us hl => match us, hl with | [_], _ => rfl
  a_is_share := f5
  fd_is_share := PySem.W.fnOf "is_share" "is_share" (defArgs (topS 12)) (defBody (topS 12)) (defScope (topS 12)) .none kV5 dc5 pm5 an5 cd5 ct5
  F_is_share := fun_mk l5 c5 k5
  m_is_share := PySem.W.mg_of X G a5
  n_is_share := (fun_mk (st := (topS 12)) l5 c5 k5).binds (ps := ["value"]) fun _ _ _ _ _ _ us hl => match us, hl with | [_], _ => rfl
  a_is_row := f6
  fd_is_row := PySem.W.fnOf "is_row" "is_row" (defArgs (topS 27)) (defBody (topS 27)) (defScope (topS 27)) .none kV6 dc6 pm6 an6 cd6 ct6
  F_is_row := fun_mk l6 c6 k6
  m_is_row := PySem.W.mg_of X G a6
  n_is_row := (fun_mk (st := (topS 27)) l6 c6 k6).binds (ps := ["value"]) fun _ _ _ _ _ _ us hl => match us, hl with | [_], _ => rfl
  a_need_row := f7
  fd_need_row := PySem.W.fnOf "need_row" "need_row" (defArgs (topS 28)) (defBody (topS 28)) (defScope (topS 28)) .none kV7 dc7 pm7 an7 cd7 ct7
  F_need_row := fun_mk l7 c7 k7
  m_need_row := PySem.W.mg_of X G a7
  n_need_row := (fun_mk (st := (topS 28)) l7 c7 k7).binds (ps := ["row"]) fun _ _ _ _ _ _ us hl => match us, hl with | [_], _ => rfl
  a_need_from_zero := f8
  fd_need_from_zero := PySem.W.fnOf "need_from_zero" "need_from_zero" (defArgs (topS 21)) (defBody (topS 21)) (defScope (topS 21)) .none kV8 dc8 pm8 an8 cd8 ct8
  F_need_from_zero := fun_mk l8 c8 k8
  m_need_from_zero := PySem.W.mg_of X G a8
  n_need_from_zero := (fun_mk (st := (topS 21)) l8 c8 k8).binds (ps := ["number"]) fun _ _ _ _ _ _ us hl => match us, hl with | [_], _ => rfl
  a_common_below := f9
  fd_common_below := PySem.W.fnOf "common_below" "common_below" (defArgs (topS 22)) (defBody (topS 22)) (defScope (topS 22)) .none kV9 dc9 pm9 an9 cd9 ct9
  F_common_below := fun_mk l9 c9 k9
  m_common_below := PySem.W.mg_of X G a9
  n_common_below := (fun_mk (st := (topS 22)) l9 c9 k9).binds (ps := ["parts"]) fun _ _ _ _ _ _ us hl => match us, hl with | [_], _ => rfl
  a_over_below := f10
  fd_over_below := PySem.W.fnOf "over_below" "over_below" (defArgs (topS 23)) (defBody (topS 23)) (defScope (topS 23)) .none kV10 dc10 pm10 an10 cd10 ct10
  F_over_below := fun_mk l10 c10 k10
  m_over_below := PySem.W.mg_of X G a10
  n_over_below := (fun_mk (st := (topS 23)) l10 c10 k10).binds (ps := ["parts", "below"]) fun _ _ _ _ _ _ us hl => match us, hl with | [_, _], _ => rfl
  a_row_table := f11
  fd_row_table := PySem.W.fnOf "row_table" "row_table" (defArgs (topS 29)) (defBody (topS 29)) (defScope (topS 29)) .none kV11 dc11 pm11 an11 cd11 ct11
  F_row_table := fun_mk l11 c11 k11
  m_row_table := PySem.W.mg_of X G a11
  n_row_table := (fun_mk (st := (topS 29)) l11 c11 k11).binds (ps := ["row"]) fun _ _ _ _ _ _ us hl => match us, hl with | [_], _ => rfl
  a_stepped := f12
  fd_stepped := PySem.W.fnOf "stepped" "stepped" (defArgs (topS 24)) (defBody (topS 24)) (defScope (topS 24)) .none kV12 dc12 pm12 an12 cd12 ct12
  F_stepped := fun_mk l12 c12 k12
  m_stepped := PySem.W.mg_of X G a12
  n_stepped := (fun_mk (st := (topS 24)) l12 c12 k12).binds (ps := ["rows", "numbers"]) fun _ _ _ _ _ _ us hl => match us, hl with | [_, _], _ => rfl
  a_over_years := f13
  fd_over_years := PySem.W.fnOf "over_years" "over_years" (defArgs (topS 25)) (defBody (topS 25)) (defScope (topS 25)) .none kV13 dc13 pm13 an13 cd13 ct13
  F_over_years := fun_mk l13 c13 k13
  m_over_years := PySem.W.mg_of X G a13
  n_over_years := (fun_mk (st := (topS 25)) l13 c13 k13).binds (ps := ["rows", "below", "start", "start_below", "years"]) fun _ _ _ _ _ _ us hl => match us, hl with | [_, _, _, _, _], _ => rfl
  a_row_series := f14
  fd_row_series := PySem.W.fnOf "row_series" "row_series" (defArgs (topS 30)) (defBody (topS 30)) (defScope (topS 30)) .none kV14 dc14 pm14 an14 cd14 ct14
  F_row_series := fun_mk l14 c14 k14
  m_row_series := PySem.W.mg_of X G a14
  n_row_series := (fun_mk (st := (topS 30)) l14 c14 k14).binds (ps := ["row", "years"]) fun _ _ _ _ _ _ us hl => match us, hl with | [_, _], _ => rfl
  a_fraction := f15
  fd_fraction := PySem.W.fnOf "fraction" "fraction" (defArgs (topS 15)) (defBody (topS 15)) (defScope (topS 15)) .none kV15 dc15 pm15 an15 cd15 ct15
  F_fraction := fun_mk l15 c15 k15
  m_fraction := PySem.W.mg_of X G a15
  n_fraction := (fun_mk (st := (topS 15)) l15 c15 k15).binds (ps := ["above", "below"]) fun _ _ _ _ _ _ us hl => match us, hl with | [_, _], _ => rfl
  a_tap_total := f16
  fd_tap_total := PySem.W.fnOf "tap_total" "tap_total" (defArgs (topS 31)) (defBody (topS 31)) (defScope (topS 31)) .none kV16 dc16 pm16 an16 cd16 ct16
  F_tap_total := fun_mk l16 c16 k16
  m_tap_total := PySem.W.mg_of X G a16
  n_tap_total := (fun_mk (st := (topS 31)) l16 c16 k16).binds (ps := ["row", "year"]) fun _ _ _ _ _ _ us hl => match us, hl with | [_, _], _ => rfl
  a_need_fraction := f17
  fd_need_fraction := PySem.W.fnOf "need_fraction" "need_fraction" (defArgs (topS 13)) (defBody (topS 13)) (defScope (topS 13)) .none kV17 dc17 pm17 an17 cd17 ct17
  F_need_fraction := fun_mk l17 c17 k17
  m_need_fraction := PySem.W.mg_of X G a17
  n_need_fraction := (fun_mk (st := (topS 13)) l17 c17 k17).binds (ps := ["value"]) fun _ _ _ _ _ _ us hl => match us, hl with | [_], _ => rfl
  a_less := f18
  fd_less := PySem.W.fnOf "less" "less" (defArgs (topS 16)) (defBody (topS 16)) (defScope (topS 16)) .none kV18 dc18 pm18 an18 cd18 ct18
  F_less := fun_mk l18 c18 k18
  m_less := PySem.W.mg_of X G a18
  n_less := (fun_mk (st := (topS 16)) l18 c18 k18).binds (ps := ["one", "other"]) fun _ _ _ _ _ _ us hl => match us, hl with | [_, _], _ => rfl
  a_over := f19
  fd_over := PySem.W.fnOf "over" "over" (defArgs (topS 18)) (defBody (topS 18)) (defScope (topS 18)) .none kV19 dc19 pm19 an19 cd19 ct19
  F_over := fun_mk l19 c19 k19
  m_over := PySem.W.mg_of X G a19
  n_over := (fun_mk (st := (topS 18)) l19 c19 k19).binds (ps := ["one", "other"]) fun _ _ _ _ _ _ us hl => match us, hl with | [_, _], _ => rfl
  a_older_in := f20
  fd_older_in := PySem.W.fnOf "older_in" "older_in" (defArgs (topS 34)) (defBody (topS 34)) (defScope (topS 34)) .none kV20 dc20 pm20 an20 cd20 ct20
  F_older_in := fun_mk l20 c20 k20
  m_older_in := PySem.W.mg_of X G a20
  n_older_in := (fun_mk (st := (topS 34)) l20 c20 k20).binds (ps := ["row", "age", "year"]) fun _ _ _ _ _ _ us hl => match us, hl with | [_, _, _], _ => rfl
  a_law_label := f21
  fd_law_label := PySem.W.fnOf "_law_label" "_law_label" (defArgs (topS 42)) (defBody (topS 42)) (defScope (topS 42)) .none kV21 dc21 pm21 an21 cd21 ct21
  F_law_label := fun_mk l21 c21 k21
  m_law_label := PySem.W.mg_of X G a21
  n_law_label := (fun_mk (st := (topS 42)) l21 c21 k21).binds (ps := ["_law_keg_here", "_law_row_here", "_law_age"]) fun _ _ _ _ _ _ us hl => match us, hl with | [_, _, _], _ => rfl
  a_need_share := f22
  fd_need_share := PySem.W.fnOf "need_share" "need_share" (defArgs (topS 14)) (defBody (topS 14)) (defScope (topS 14)) .none kV22 dc22 pm22 an22 cd22 ct22
  F_need_share := fun_mk l22 c22 k22
  m_need_share := PySem.W.mg_of X G a22
  n_need_share := (fun_mk (st := (topS 14)) l22 c22 k22).binds (ps := ["value"]) fun _ _ _ _ _ _ us hl => match us, hl with | [_], _ => rfl
  a_compared := f23
  fd_compared := PySem.W.fnOf "compared" "compared" (defArgs (topS 19)) (defBody (topS 19)) (defScope (topS 19)) .none kV23 dc23 pm23 an23 cd23 ct23
  F_compared := fun_mk l23 c23 k23
  m_compared := PySem.W.mg_of X G a23
  n_compared := (fun_mk (st := (topS 19)) l23 c23 k23).binds (ps := ["one", "other"]) fun _ _ _ _ _ _ us hl => match us, hl with | [_, _], _ => rfl
  a_times := f24
  fd_times := PySem.W.fnOf "times" "times" (defArgs (topS 17)) (defBody (topS 17)) (defScope (topS 17)) .none kV24 dc24 pm24 an24 cd24 ct24
  F_times := fun_mk l24 c24 k24
  m_times := PySem.W.mg_of X G a24
  n_times := (fun_mk (st := (topS 17)) l24 c24 k24).binds (ps := ["one", "other"]) fun _ _ _ _ _ _ us hl => match us, hl with | [_, _], _ => rfl
  a_label_from := f25
  fd_label_from := PySem.W.fnOf "label_from" "label_from" (defArgs (topS 35)) (defBody (topS 35)) (defScope (topS 35)) .none kV25 dc25 pm25 an25 cd25 ct25
  F_label_from := fun_mk l25 c25 k25
  m_label_from := PySem.W.mg_of X G a25
  n_label_from := (fun_mk (st := (topS 35)) l25 c25 k25).binds (ps := ["row", "age", "share"]) fun _ _ _ _ _ _ us hl => match us, hl with | [_, _, _], _ => rfl
  a_law_told := f26
  fd_law_told := PySem.W.fnOf "_law_told" "_law_told" (defArgs (topS 44)) (defBody (topS 44)) (defScope (topS 44)) .none kV26 dc26 pm26 an26 cd26 ct26
  F_law_told := fun_mk l26 c26 k26
  m_law_told := PySem.W.mg_of X G a26
  n_law_told := (fun_mk (st := (topS 44)) l26 c26 k26).binds (ps := ["_law_row_here", "_law_age", "_law_label_here"]) fun _ _ _ _ _ _ us hl => match us, hl with | [_, _, _], _ => rfl
  a_law_same := f27
  fd_law_same := PySem.W.fnOf "_law_same" "_law_same" (defArgs (topS 40)) (defBody (topS 40)) (defScope (topS 40)) .none kV27 dc27 pm27 an27 cd27 ct27
  F_law_same := fun_mk l27 c27 k27
  m_law_same := PySem.W.mg_of X G a27
  n_law_same := (fun_mk (st := (topS 40)) l27 c27 k27).binds (ps := ["_law_told_here", "_law_due"]) fun _ _ _ _ _ _ us hl => match us, hl with | [_, _], _ => rfl
  a_law_place := f28
  fd_law_place := PySem.W.fnOf "_law_place" "_law_place" (defArgs (topS 45)) (defBody (topS 45)) (defScope (topS 45)) .none kV28 dc28 pm28 an28 cd28 ct28
  F_law_place := fun_mk l28 c28 k28
  m_law_place := PySem.W.mg_of X G a28
  n_law_place := (fun_mk (st := (topS 45)) l28 c28 k28).binds (ps := ["_law_told_here"]) fun _ _ _ _ _ _ us hl => match us, hl with | [_], _ => rfl
  a_law_less := f29
  fd_law_less := PySem.W.fnOf "_law_less" "_law_less" (defArgs (topS 43)) (defBody (topS 43)) (defScope (topS 43)) .none kV29 dc29 pm29 an29 cd29 ct29
  F_law_less := fun_mk l29 c29 k29
  m_law_less := PySem.W.mg_of X G a29
  n_law_less := (fun_mk (st := (topS 43)) l29 c29 k29).binds (ps := ["_law_one", "_law_other"]) fun _ _ _ _ _ _ us hl => match us, hl with | [_, _], _ => rfl
  a_older := f30
  fd_older := PySem.W.fnOf "older" "older" (defArgs (topS 33)) (defBody (topS 33)) (defScope (topS 33)) .none kV30 dc30 pm30 an30 cd30 ct30
  F_older := fun_mk l30 c30 k30
  m_older := PySem.W.mg_of X G a30
  n_older := (fun_mk (st := (topS 33)) l30 c30 k30).binds (ps := ["row", "age"]) fun _ _ _ _ _ _ us hl => match us, hl with | [_, _], _ => rfl
  a_law_years_right := f31
  fd_law_years_right := PySem.W.fnOf "_law_years_right" "_law_years_right" (defArgs (topS 46)) (defBody (topS 46)) (defScope (topS 46)) .none kV31 dc31 pm31 an31 cd31 ct31
  F_law_years_right := fun_mk l31 c31 k31
  m_law_years_right := PySem.W.mg_of X G a31
  n_law_years_right := (fun_mk (st := (topS 46)) l31 c31 k31).binds (ps := ["_law_row_here", "_law_age", "_law_label_here", "_law_told_here", "_law_years"]) fun _ _ _ _ _ _ us hl => match us, hl with | [_, _, _, _, _], _ => rfl
  a_law_right := f32
  fd_law_right := PySem.W.fnOf "_law_right" "_law_right" (defArgs (topS 47)) (defBody (topS 47)) (defScope (topS 47)) .none kV32 dc32 pm32 an32 cd32 ct32
  F_law_right := fun_mk l32 c32 k32
  m_law_right := PySem.W.mg_of X G a32
  n_law_right := (fun_mk (st := (topS 47)) l32 c32 k32).binds (ps := ["_law_keg_here"]) fun _ _ _ _ _ _ us hl => match us, hl with | [_], _ => rfl
  a_law_keg := f33
  fd_law_keg := PySem.W.fnOf "_law_keg" "_law_keg" (defArgs (topS 37)) (defBody (topS 37)) (defScope (topS 37)) .none kV33 dc33 pm33 an33 cd33 ct33
  F_law_keg := fun_mk l33 c33 k33
  m_law_keg := PySem.W.mg_of X G a33
  n_law_keg := (fun_mk (st := (topS 37)) l33 c33 k33).binds (ps := ["_law_cell", "_law_k"]) fun _ _ _ _ _ _ us hl => match us, hl with | [_, _], _ => rfl
  a_law := f34
  fd_law := PySem.W.fnOf "law" "law" (defArgs (topS 48)) (defBody (topS 48)) (defScope (topS 48)) .none kV34 dc34 pm34 an34 cd34 ct34
  F_law := fun_mk l34 c34 k34
  m_law := PySem.W.mg_of X G a34
  n_law := (fun_mk (st := (topS 48)) l34 c34 k34).binds (ps := ["_law_script"]) fun _ _ _ _ _ _ us hl => match us, hl with | [_], _ => rfl
  b_int := PySem.W.mg_none_of X G z0
  b_abs := PySem.W.mg_none_of X G z1
  b_range := PySem.W.mg_none_of X G z2
  b_len := PySem.W.mg_none_of X G z3
  b_tuple := PySem.W.mg_none_of X G z4
  b_isinstance := PySem.W.mg_none_of X G z5
  b_bool := PySem.W.mg_none_of X G z6
  b_all := PySem.W.mg_none_of X G z7
  b_sum := PySem.W.mg_none_of X G z8
  b_zip := PySem.W.mg_none_of X G z9
  b_list := PySem.W.mg_none_of X G z10
  b_min := PySem.W.mg_none_of X G z11
  b_max := PySem.W.mg_none_of X G z12
  b_str := PySem.W.mg_none_of X G z13
  b_gcd := PySem.W.mg_of X G y0
  b_lcm := PySem.W.mg_of X G y1
  ca := fun x => C0
  xD := xD
  xI := xI
  xt_TooMany := { cls := ⟨nm0, q0, N0, bs0, _, sn0, sub0, ab0, col0, dd0, mA0, mB0, mC0, mD0, mE0, eX0, rfl⟩, sa := eSa0, ga := eGa0, gg := eGg0, noN := eNb0, iC := eI0, tC := eTi0, kC := eK0, exC := eE0, tyC := eT0, hdC := eH0, opq := xopq, veC := eV0, sup := eSu0, dC := eM0, dcl := ⟨_, xd1⟩, nosup := PySem.W.mg_none_of X G xsup, top := xtp, fn := ⟨_, _, _, _, _, _, _, _, _, _, _, _, _, _, _, _, _, _, _, _, _, _, _, _, _, _, _, _, _, _, _, xl, xc1, xcd, xv2, xfl, xcc, _, fun env => rfl⟩ }
  xg_TooMany := PySem.W.mg_of X G eG0
  xf_TooMany := ⟨eGa0, eGg0, eE0, eH0⟩
  xn_TooMany := eNb0
  xm_TooMany := Dn.exm_self eE0 eIc0 eT0 eSs0
theorem all_mk {l : PySem.W.OpenLaw} {w : World} {K : PySem.W.Frag} {h : Heap} {mg : Str → Option Value} {fa : Addr} (hfa : mg "law" = some (.ref fa)) (X : K.In h) (G : h.Ns mainGlobals mg)
    {f0 : Addr} {od0 an0 : Option Addr} {sl0 : Array (Option Value)} {oc0 kV0 dc0 pm0 cd0 ct0 : Value}
    (a0 : PySem.W.nsIn K mainGlobals "_law_pull" = some (some (.ref f0))) (l0 : K.lookup f0 = some ⟨oc0, od0, .func (PySem.W.fnOf "_law_pull" "_law_pull" (defArgs (topS 38)) (defBody (topS 38)) (defScope (topS 38)) .none kV0 dc0 pm0 an0 cd0 ct0), sl0⟩) (c0 : PySem.W.codeIn K cd0 "_law_pull" = true) (k0 : PySem.W.keepIn K (.ref f0) = true)
    {f1 : Addr} {od1 an1 : Option Addr} {sl1 : Array (Option Value)} {oc1 kV1 dc1 pm1 cd1 ct1 : Value}
    (a1 : PySem.W.nsIn K mainGlobals "_law_low" = some (some (.ref f1))) (l1 : K.lookup f1 = some ⟨oc1, od1, .func (PySem.W.fnOf "_law_low" "_law_low" (defArgs (topS 39)) (defBody (topS 39)) (defScope (topS 39)) .none kV1 dc1 pm1 an1 cd1 ct1), sl1⟩) (c1 : PySem.W.codeIn K cd1 "_law_low" = true) (k1 : PySem.W.keepIn K (.ref f1) = true)
    {f2 : Addr} {od2 an2 : Option Addr} {sl2 : Array (Option Value)} {oc2 kV2 dc2 pm2 cd2 ct2 : Value}
    (a2 : PySem.W.nsIn K mainGlobals "_law_row" = some (some (.ref f2))) (l2 : K.lookup f2 = some ⟨oc2, od2, .func (PySem.W.fnOf "_law_row" "_law_row" (defArgs (topS 41)) (defBody (topS 41)) (defScope (topS 41)) .none kV2 dc2 pm2 an2 cd2 ct2), sl2⟩) (c2 : PySem.W.codeIn K cd2 "_law_row" = true) (k2 : PySem.W.keepIn K (.ref f2) = true)
    {f3 : Addr} {od3 an3 : Option Addr} {sl3 : Array (Option Value)} {oc3 kV3 dc3 pm3 cd3 ct3 : Value}
    (a3 : PySem.W.nsIn K mainGlobals "is_integer" = some (some (.ref f3))) (l3 : K.lookup f3 = some ⟨oc3, od3, .func (PySem.W.fnOf "is_integer" "is_integer" (defArgs (topS 9)) (defBody (topS 9)) (defScope (topS 9)) .none kV3 dc3 pm3 an3 cd3 ct3), sl3⟩) (c3 : PySem.W.codeIn K cd3 "is_integer" = true) (k3 : PySem.W.keepIn K (.ref f3) = true)
    {f4 : Addr} {od4 an4 : Option Addr} {sl4 : Array (Option Value)} {oc4 kV4 dc4 pm4 cd4 ct4 : Value}
    (a4 : PySem.W.nsIn K mainGlobals "is_fraction" = some (some (.ref f4))) (l4 : K.lookup f4 = some ⟨oc4, od4, .func (PySem.W.fnOf "is_fraction" "is_fraction" (defArgs (topS 11)) (defBody (topS 11)) (defScope (topS 11)) .none kV4 dc4 pm4 an4 cd4 ct4), sl4⟩) (c4 : PySem.W.codeIn K cd4 "is_fraction" = true) (k4 : PySem.W.keepIn K (.ref f4) = true)
    {f5 : Addr} {od5 an5 : Option Addr} {sl5 : Array (Option Value)} {oc5 kV5 dc5 pm5 cd5 ct5 : Value}
    (a5 : PySem.W.nsIn K mainGlobals "is_share" = some (some (.ref f5))) (l5 : K.lookup f5 = some ⟨oc5, od5, .func (PySem.W.fnOf "is_share" "is_share" (defArgs (topS 12)) (defBody (topS 12)) (defScope (topS 12)) .none kV5 dc5 pm5 an5 cd5 ct5), sl5⟩) (c5 : PySem.W.codeIn K cd5 "is_share" = true) (k5 : PySem.W.keepIn K (.ref f5) = true)
    {f6 : Addr} {od6 an6 : Option Addr} {sl6 : Array (Option Value)} {oc6 kV6 dc6 pm6 cd6 ct6 : Value}
    (a6 : PySem.W.nsIn K mainGlobals "is_row" = some (some (.ref f6))) (l6 : K.lookup f6 = some ⟨oc6, od6, .func (PySem.W.fnOf "is_row" "is_row" (defArgs (topS 27)) (defBody (topS 27)) (defScope (topS 27)) .none kV6 dc6 pm6 an6 cd6 ct6), sl6⟩) (c6 : PySem.W.codeIn K cd6 "is_row" = true) (k6 : PySem.W.keepIn K (.ref f6) = true)
    {f7 : Addr} {od7 an7 : Option Addr} {sl7 : Array (Option Value)} {oc7 kV7 dc7 pm7 cd7 ct7 : Value}
    (a7 : PySem.W.nsIn K mainGlobals "need_row" = some (some (.ref f7))) (l7 : K.lookup f7 = some ⟨oc7, od7, .func (PySem.W.fnOf "need_row" "need_row" (defArgs (topS 28)) (defBody (topS 28)) (defScope (topS 28)) .none kV7 dc7 pm7 an7 cd7 ct7), sl7⟩) (c7 : PySem.W.codeIn K cd7 "need_row" = true) (k7 : PySem.W.keepIn K (.ref f7) = true)
    {f8 : Addr} {od8 an8 : Option Addr} {sl8 : Array (Option Value)} {oc8 kV8 dc8 pm8 cd8 ct8 : Value}
    (a8 : PySem.W.nsIn K mainGlobals "need_from_zero" = some (some (.ref f8))) (l8 : K.lookup f8 = some ⟨oc8, od8, .func (PySem.W.fnOf "need_from_zero" "need_from_zero" (defArgs (topS 21)) (defBody (topS 21)) (defScope (topS 21)) .none kV8 dc8 pm8 an8 cd8 ct8), sl8⟩) (c8 : PySem.W.codeIn K cd8 "need_from_zero" = true) (k8 : PySem.W.keepIn K (.ref f8) = true)
    {f9 : Addr} {od9 an9 : Option Addr} {sl9 : Array (Option Value)} {oc9 kV9 dc9 pm9 cd9 ct9 : Value}
    (a9 : PySem.W.nsIn K mainGlobals "common_below" = some (some (.ref f9))) (l9 : K.lookup f9 = some ⟨oc9, od9, .func (PySem.W.fnOf "common_below" "common_below" (defArgs (topS 22)) (defBody (topS 22)) (defScope (topS 22)) .none kV9 dc9 pm9 an9 cd9 ct9), sl9⟩) (c9 : PySem.W.codeIn K cd9 "common_below" = true) (k9 : PySem.W.keepIn K (.ref f9) = true)
    {f10 : Addr} {od10 an10 : Option Addr} {sl10 : Array (Option Value)} {oc10 kV10 dc10 pm10 cd10 ct10 : Value}
    (a10 : PySem.W.nsIn K mainGlobals "over_below" = some (some (.ref f10))) (l10 : K.lookup f10 = some ⟨oc10, od10, .func (PySem.W.fnOf "over_below" "over_below" (defArgs (topS 23)) (defBody (topS 23)) (defScope (topS 23)) .none kV10 dc10 pm10 an10 cd10 ct10), sl10⟩) (c10 : PySem.W.codeIn K cd10 "over_below" = true) (k10 : PySem.W.keepIn K (.ref f10) = true)
    {f11 : Addr} {od11 an11 : Option Addr} {sl11 : Array (Option Value)} {oc11 kV11 dc11 pm11 cd11 ct11 : Value}
    (a11 : PySem.W.nsIn K mainGlobals "row_table" = some (some (.ref f11))) (l11 : K.lookup f11 = some ⟨oc11, od11, .func (PySem.W.fnOf "row_table" "row_table" (defArgs (topS 29)) (defBody (topS 29)) (defScope (topS 29)) .none kV11 dc11 pm11 an11 cd11 ct11), sl11⟩) (c11 : PySem.W.codeIn K cd11 "row_table" = true) (k11 : PySem.W.keepIn K (.ref f11) = true)
    {f12 : Addr} {od12 an12 : Option Addr} {sl12 : Array (Option Value)} {oc12 kV12 dc12 pm12 cd12 ct12 : Value}
    (a12 : PySem.W.nsIn K mainGlobals "stepped" = some (some (.ref f12))) (l12 : K.lookup f12 = some ⟨oc12, od12, .func (PySem.W.fnOf "stepped" "stepped" (defArgs (topS 24)) (defBody (topS 24)) (defScope (topS 24)) .none kV12 dc12 pm12 an12 cd12 ct12), sl12⟩) (c12 : PySem.W.codeIn K cd12 "stepped" = true) (k12 : PySem.W.keepIn K (.ref f12) = true)
    {f13 : Addr} {od13 an13 : Option Addr} {sl13 : Array (Option Value)} {oc13 kV13 dc13 pm13 cd13 ct13 : Value}
    (a13 : PySem.W.nsIn K mainGlobals "over_years" = some (some (.ref f13))) (l13 : K.lookup f13 = some ⟨oc13, od13, .func (PySem.W.fnOf "over_years" "over_years" (defArgs (topS 25)) (defBody (topS 25)) (defScope (topS 25)) .none kV13 dc13 pm13 an13 cd13 ct13), sl13⟩) (c13 : PySem.W.codeIn K cd13 "over_years" = true) (k13 : PySem.W.keepIn K (.ref f13) = true)
    {f14 : Addr} {od14 an14 : Option Addr} {sl14 : Array (Option Value)} {oc14 kV14 dc14 pm14 cd14 ct14 : Value}
    (a14 : PySem.W.nsIn K mainGlobals "row_series" = some (some (.ref f14))) (l14 : K.lookup f14 = some ⟨oc14, od14, .func (PySem.W.fnOf "row_series" "row_series" (defArgs (topS 30)) (defBody (topS 30)) (defScope (topS 30)) .none kV14 dc14 pm14 an14 cd14 ct14), sl14⟩) (c14 : PySem.W.codeIn K cd14 "row_series" = true) (k14 : PySem.W.keepIn K (.ref f14) = true)
    {f15 : Addr} {od15 an15 : Option Addr} {sl15 : Array (Option Value)} {oc15 kV15 dc15 pm15 cd15 ct15 : Value}
    (a15 : PySem.W.nsIn K mainGlobals "fraction" = some (some (.ref f15))) (l15 : K.lookup f15 = some ⟨oc15, od15, .func (PySem.W.fnOf "fraction" "fraction" (defArgs (topS 15)) (defBody (topS 15)) (defScope (topS 15)) .none kV15 dc15 pm15 an15 cd15 ct15), sl15⟩) (c15 : PySem.W.codeIn K cd15 "fraction" = true) (k15 : PySem.W.keepIn K (.ref f15) = true)
    {f16 : Addr} {od16 an16 : Option Addr} {sl16 : Array (Option Value)} {oc16 kV16 dc16 pm16 cd16 ct16 : Value}
    (a16 : PySem.W.nsIn K mainGlobals "tap_total" = some (some (.ref f16))) (l16 : K.lookup f16 = some ⟨oc16, od16, .func (PySem.W.fnOf "tap_total" "tap_total" (defArgs (topS 31)) (defBody (topS 31)) (defScope (topS 31)) .none kV16 dc16 pm16 an16 cd16 ct16), sl16⟩) (c16 : PySem.W.codeIn K cd16 "tap_total" = true) (k16 : PySem.W.keepIn K (.ref f16) = true)
    {f17 : Addr} {od17 an17 : Option Addr} {sl17 : Array (Option Value)} {oc17 kV17 dc17 pm17 cd17 ct17 : Value}
    (a17 : PySem.W.nsIn K mainGlobals "need_fraction" = some (some (.ref f17))) (l17 : K.lookup f17 = some ⟨oc17, od17, .func (PySem.W.fnOf "need_fraction" "need_fraction" (defArgs (topS 13)) (defBody (topS 13)) (defScope (topS 13)) .none kV17 dc17 pm17 an17 cd17 ct17), sl17⟩) (c17 : PySem.W.codeIn K cd17 "need_fraction" = true) (k17 : PySem.W.keepIn K (.ref f17) = true)
    {f18 : Addr} {od18 an18 : Option Addr} {sl18 : Array (Option Value)} {oc18 kV18 dc18 pm18 cd18 ct18 : Value}
    (a18 : PySem.W.nsIn K mainGlobals "less" = some (some (.ref f18))) (l18 : K.lookup f18 = some ⟨oc18, od18, .func (PySem.W.fnOf "less" "less" (defArgs (topS 16)) (defBody (topS 16)) (defScope (topS 16)) .none kV18 dc18 pm18 an18 cd18 ct18), sl18⟩) (c18 : PySem.W.codeIn K cd18 "less" = true) (k18 : PySem.W.keepIn K (.ref f18) = true)
    {f19 : Addr} {od19 an19 : Option Addr} {sl19 : Array (Option Value)} {oc19 kV19 dc19 pm19 cd19 ct19 : Value}
    (a19 : PySem.W.nsIn K mainGlobals "over" = some (some (.ref f19))) (l19 : K.lookup f19 = some ⟨oc19, od19, .func (PySem.W.fnOf "over" "over" (defArgs (topS 18)) (defBody (topS 18)) (defScope (topS 18)) .none kV19 dc19 pm19 an19 cd19 ct19), sl19⟩) (c19 : PySem.W.codeIn K cd19 "over" = true) (k19 : PySem.W.keepIn K (.ref f19) = true)
    {f20 : Addr} {od20 an20 : Option Addr} {sl20 : Array (Option Value)} {oc20 kV20 dc20 pm20 cd20 ct20 : Value}
    (a20 : PySem.W.nsIn K mainGlobals "older_in" = some (some (.ref f20))) (l20 : K.lookup f20 = some ⟨oc20, od20, .func (PySem.W.fnOf "older_in" "older_in" (defArgs (topS 34)) (defBody (topS 34)) (defScope (topS 34)) .none kV20 dc20 pm20 an20 cd20 ct20), sl20⟩) (c20 : PySem.W.codeIn K cd20 "older_in" = true) (k20 : PySem.W.keepIn K (.ref f20) = true)
    {f21 : Addr} {od21 an21 : Option Addr} {sl21 : Array (Option Value)} {oc21 kV21 dc21 pm21 cd21 ct21 : Value}
    (a21 : PySem.W.nsIn K mainGlobals "_law_label" = some (some (.ref f21))) (l21 : K.lookup f21 = some ⟨oc21, od21, .func (PySem.W.fnOf "_law_label" "_law_label" (defArgs (topS 42)) (defBody (topS 42)) (defScope (topS 42)) .none kV21 dc21 pm21 an21 cd21 ct21), sl21⟩) (c21 : PySem.W.codeIn K cd21 "_law_label" = true) (k21 : PySem.W.keepIn K (.ref f21) = true)
    {f22 : Addr} {od22 an22 : Option Addr} {sl22 : Array (Option Value)} {oc22 kV22 dc22 pm22 cd22 ct22 : Value}
    (a22 : PySem.W.nsIn K mainGlobals "need_share" = some (some (.ref f22))) (l22 : K.lookup f22 = some ⟨oc22, od22, .func (PySem.W.fnOf "need_share" "need_share" (defArgs (topS 14)) (defBody (topS 14)) (defScope (topS 14)) .none kV22 dc22 pm22 an22 cd22 ct22), sl22⟩) (c22 : PySem.W.codeIn K cd22 "need_share" = true) (k22 : PySem.W.keepIn K (.ref f22) = true)
    {f23 : Addr} {od23 an23 : Option Addr} {sl23 : Array (Option Value)} {oc23 kV23 dc23 pm23 cd23 ct23 : Value}
    (a23 : PySem.W.nsIn K mainGlobals "compared" = some (some (.ref f23))) (l23 : K.lookup f23 = some ⟨oc23, od23, .func (PySem.W.fnOf "compared" "compared" (defArgs (topS 19)) (defBody (topS 19)) (defScope (topS 19)) .none kV23 dc23 pm23 an23 cd23 ct23), sl23⟩) (c23 : PySem.W.codeIn K cd23 "compared" = true) (k23 : PySem.W.keepIn K (.ref f23) = true)
    {f24 : Addr} {od24 an24 : Option Addr} {sl24 : Array (Option Value)} {oc24 kV24 dc24 pm24 cd24 ct24 : Value}
    (a24 : PySem.W.nsIn K mainGlobals "times" = some (some (.ref f24))) (l24 : K.lookup f24 = some ⟨oc24, od24, .func (PySem.W.fnOf "times" "times" (defArgs (topS 17)) (defBody (topS 17)) (defScope (topS 17)) .none kV24 dc24 pm24 an24 cd24 ct24), sl24⟩) (c24 : PySem.W.codeIn K cd24 "times" = true) (k24 : PySem.W.keepIn K (.ref f24) = true)
    {f25 : Addr} {od25 an25 : Option Addr} {sl25 : Array (Option Value)} {oc25 kV25 dc25 pm25 cd25 ct25 : Value}
    (a25 : PySem.W.nsIn K mainGlobals "label_from" = some (some (.ref f25))) (l25 : K.lookup f25 = some ⟨oc25, od25, .func (PySem.W.fnOf "label_from" "label_from" (defArgs (topS 35)) (defBody (topS 35)) (defScope (topS 35)) .none kV25 dc25 pm25 an25 cd25 ct25), sl25⟩) (c25 : PySem.W.codeIn K cd25 "label_from" = true) (k25 : PySem.W.keepIn K (.ref f25) = true)
    {f26 : Addr} {od26 an26 : Option Addr} {sl26 : Array (Option Value)} {oc26 kV26 dc26 pm26 cd26 ct26 : Value}
    (a26 : PySem.W.nsIn K mainGlobals "_law_told" = some (some (.ref f26))) (l26 : K.lookup f26 = some ⟨oc26, od26, .func (PySem.W.fnOf "_law_told" "_law_told" (defArgs (topS 44)) (defBody (topS 44)) (defScope (topS 44)) .none kV26 dc26 pm26 an26 cd26 ct26), sl26⟩) (c26 : PySem.W.codeIn K cd26 "_law_told" = true) (k26 : PySem.W.keepIn K (.ref f26) = true)
    {f27 : Addr} {od27 an27 : Option Addr} {sl27 : Array (Option Value)} {oc27 kV27 dc27 pm27 cd27 ct27 : Value}
    (a27 : PySem.W.nsIn K mainGlobals "_law_same" = some (some (.ref f27))) (l27 : K.lookup f27 = some ⟨oc27, od27, .func (PySem.W.fnOf "_law_same" "_law_same" (defArgs (topS 40)) (defBody (topS 40)) (defScope (topS 40)) .none kV27 dc27 pm27 an27 cd27 ct27), sl27⟩) (c27 : PySem.W.codeIn K cd27 "_law_same" = true) (k27 : PySem.W.keepIn K (.ref f27) = true)
    {f28 : Addr} {od28 an28 : Option Addr} {sl28 : Array (Option Value)} {oc28 kV28 dc28 pm28 cd28 ct28 : Value}
    (a28 : PySem.W.nsIn K mainGlobals "_law_place" = some (some (.ref f28))) (l28 : K.lookup f28 = some ⟨oc28, od28, .func (PySem.W.fnOf "_law_place" "_law_place" (defArgs (topS 45)) (defBody (topS 45)) (defScope (topS 45)) .none kV28 dc28 pm28 an28 cd28 ct28), sl28⟩) (c28 : PySem.W.codeIn K cd28 "_law_place" = true) (k28 : PySem.W.keepIn K (.ref f28) = true)
    {f29 : Addr} {od29 an29 : Option Addr} {sl29 : Array (Option Value)} {oc29 kV29 dc29 pm29 cd29 ct29 : Value}
    (a29 : PySem.W.nsIn K mainGlobals "_law_less" = some (some (.ref f29))) (l29 : K.lookup f29 = some ⟨oc29, od29, .func (PySem.W.fnOf "_law_less" "_law_less" (defArgs (topS 43)) (defBody (topS 43)) (defScope (topS 43)) .none kV29 dc29 pm29 an29 cd29 ct29), sl29⟩) (c29 : PySem.W.codeIn K cd29 "_law_less" = true) (k29 : PySem.W.keepIn K (.ref f29) = true)
    {f30 : Addr} {od30 an30 : Option Addr} {sl30 : Array (Option Value)} {oc30 kV30 dc30 pm30 cd30 ct30 : Value}
    (a30 : PySem.W.nsIn K mainGlobals "older" = some (some (.ref f30))) (l30 : K.lookup f30 = some ⟨oc30, od30, .func (PySem.W.fnOf "older" "older" (defArgs (topS 33)) (defBody (topS 33)) (defScope (topS 33)) .none kV30 dc30 pm30 an30 cd30 ct30), sl30⟩) (c30 : PySem.W.codeIn K cd30 "older" = true) (k30 : PySem.W.keepIn K (.ref f30) = true)
    {f31 : Addr} {od31 an31 : Option Addr} {sl31 : Array (Option Value)} {oc31 kV31 dc31 pm31 cd31 ct31 : Value}
    (a31 : PySem.W.nsIn K mainGlobals "_law_years_right" = some (some (.ref f31))) (l31 : K.lookup f31 = some ⟨oc31, od31, .func (PySem.W.fnOf "_law_years_right" "_law_years_right" (defArgs (topS 46)) (defBody (topS 46)) (defScope (topS 46)) .none kV31 dc31 pm31 an31 cd31 ct31), sl31⟩) (c31 : PySem.W.codeIn K cd31 "_law_years_right" = true) (k31 : PySem.W.keepIn K (.ref f31) = true)
    {f32 : Addr} {od32 an32 : Option Addr} {sl32 : Array (Option Value)} {oc32 kV32 dc32 pm32 cd32 ct32 : Value}
    (a32 : PySem.W.nsIn K mainGlobals "_law_right" = some (some (.ref f32))) (l32 : K.lookup f32 = some ⟨oc32, od32, .func (PySem.W.fnOf "_law_right" "_law_right" (defArgs (topS 47)) (defBody (topS 47)) (defScope (topS 47)) .none kV32 dc32 pm32 an32 cd32 ct32), sl32⟩) (c32 : PySem.W.codeIn K cd32 "_law_right" = true) (k32 : PySem.W.keepIn K (.ref f32) = true)
    {f33 : Addr} {od33 an33 : Option Addr} {sl33 : Array (Option Value)} {oc33 kV33 dc33 pm33 cd33 ct33 : Value}
    (a33 : PySem.W.nsIn K mainGlobals "_law_keg" = some (some (.ref f33))) (l33 : K.lookup f33 = some ⟨oc33, od33, .func (PySem.W.fnOf "_law_keg" "_law_keg" (defArgs (topS 37)) (defBody (topS 37)) (defScope (topS 37)) .none kV33 dc33 pm33 an33 cd33 ct33), sl33⟩) (c33 : PySem.W.codeIn K cd33 "_law_keg" = true) (k33 : PySem.W.keepIn K (.ref f33) = true)
    {f34 : Addr} {od34 an34 : Option Addr} {sl34 : Array (Option Value)} {oc34 kV34 dc34 pm34 cd34 ct34 : Value}
    (a34 : PySem.W.nsIn K mainGlobals "law" = some (some (.ref f34))) (l34 : K.lookup f34 = some ⟨oc34, od34, .func (PySem.W.fnOf "law" "law" (defArgs (topS 48)) (defBody (topS 48)) (defScope (topS 48)) .none kV34 dc34 pm34 an34 cd34 ct34), sl34⟩) (c34 : PySem.W.codeIn K cd34 "law" = true) (k34 : PySem.W.keepIn K (.ref f34) = true)
    (z0 : PySem.W.nsIn K mainGlobals "int" = some none)
    (z1 : PySem.W.nsIn K mainGlobals "abs" = some none)
    (z2 : PySem.W.nsIn K mainGlobals "range" = some none)
    (z3 : PySem.W.nsIn K mainGlobals "len" = some none)
    (z4 : PySem.W.nsIn K mainGlobals "tuple" = some none)
    (z5 : PySem.W.nsIn K mainGlobals "isinstance" = some none)
    (z6 : PySem.W.nsIn K mainGlobals "bool" = some none)
    (z7 : PySem.W.nsIn K mainGlobals "all" = some none)
    (z8 : PySem.W.nsIn K mainGlobals "sum" = some none)
    (z9 : PySem.W.nsIn K mainGlobals "zip" = some none)
    (z10 : PySem.W.nsIn K mainGlobals "list" = some none)
    (z11 : PySem.W.nsIn K mainGlobals "min" = some none)
    (z12 : PySem.W.nsIn K mainGlobals "max" = some none)
    (z13 : PySem.W.nsIn K mainGlobals "str" = some none)
    (y0 : PySem.W.nsIn K mainGlobals "gcd" = some (some (.builtin "math.gcd")))
    (y1 : PySem.W.nsIn K mainGlobals "lcm" = some (some (.builtin "math.lcm")))
    {xD xI cda cc : Addr} {xoc xdoc xpm xct xccl xcl : Value} {xod xan xcdd xcld : Option Addr} {xosl xccs xcsl : Array (Option Value)} {xvs : Array Value} {xfile : Str} {xtf : Tok} {cdD : ClassData}
    (xaD : PySem.W.nsIn K mainGlobals "CaskError" = some (some (.ref xD))) (xsup : PySem.W.nsIn K mainGlobals "super" = some none) (xopq : PySem.W.nsIn K cStatics "thirdparty.any" = some none) (xd1 : PySem.W.clsIn K xD = some cdD)
    {C0 N0 : Addr} {nm0 q0 : Str} {bs0 sub0 : List Value} {sn0 : List Str} {ab0 : Bool} {col0 : Option Bool} {dd0 : Option Addr} {mA0 mB0 mC0 mD0 mE0 : Option Value}
    (eG0 : PySem.W.nsIn K mainGlobals "TooMany" = some (some (.ref C0))) (eX0 : K.lookup C0 = some (excClassObj nm0 q0 C0 N0 bs0 [.ref xD, .type "ValueError", .type "Exception", .type "BaseException", .type "object"] true sn0 sub0 ab0 col0 dd0 mA0 mB0 mC0 mD0 mE0 "ValueError.__new__")) (eSa0 : PySem.W.findIn K (.ref C0) "__setattr__" = some (some (.builtin "object.__setattr__"))) (eGa0 : PySem.W.findIn K (.ref C0) "__getattribute__" = some (some (.builtin "BaseException.__getattribute__"))) (eGg0 : PySem.W.findIn K (.ref C0) "__getattr__" = some none) (eNb0 : PySem.W.findIn K (.ref C0) "value" = some none) (eI0 : PySem.W.findIn K (.ref C0) "__init__" = some (some (.ref xI))) (eTi0 : PySem.W.typeIn K (.ref xI) = some (.type "function")) (eK0 : PySem.W.keepIn K (.ref C0) = true) (eE0 : PySem.W.subIn K (.ref C0) (.type "BaseException") = some true) (eT0 : PySem.W.typeIn K (.ref C0) = some (.type "type")) (eH0 : PySem.W.hasDictIn K C0 = true) (eIc0 : PySem.W.isClsIn K C0 = true) (eSs0 : PySem.W.subIn K (.ref C0) (.ref C0) = some true) (eV0 : PySem.W.subIn K (.ref C0) (.type "ValueError") = some true) (eSu0 : PySem.W.ks_superIn K C0 xD "__init__" = some (some (.builtin "ValueError.__init__"))) (eM0 : PySem.W.mroIn K C0 (.ref xD) = some true)
    (xl : K.lookup xI = some ⟨xoc, xod, .func (PySem.W.ksFn "__init__" "CaskError.__init__" (PySem.CaskX.iA ⟨5, 17, 5, 21⟩ ⟨5, 23, 5, 28⟩) (PySem.CaskX.iB "caskyears" ⟨6, 8, 6, 13⟩ ⟨6, 8, 6, 15⟩ ⟨6, 8, 6, 24⟩ ⟨6, 25, 6, 36⟩ ⟨6, 8, 6, 37⟩ ⟨6, 8, 6, 37⟩ ⟨7, 8, 7, 12⟩ ⟨7, 8, 7, 18⟩ ⟨7, 21, 7, 26⟩ ⟨7, 8, 7, 26⟩) PySem.CaskX.iS .none .none xdoc xpm xan (.ref cda) xct cc), xosl⟩) (xc1 : PySem.W.codeIn K (.ref cda) "CaskError.__init__" = true) (xcd : K.lookup cda = some ⟨xccl, xcdd, .fields xvs, xccs⟩) (xv2 : xvs[2]? = some (.str xfile xtf)) (xfl : ((l.prog.main.file : Str) == xfile) = true) (xcc : K.lookup cc = some ⟨xcl, xcld, .cell (some (.ref xD)), xcsl⟩) (xtp : (l.prog.main.scope.names.lookup ("super" : Str)).isSome = false) :
    ∃ fd : FuncData, (∀ (s : Shared) (v : Value), BindsTo s fd ⟨[v], []⟩ [("_law_script", v)]) ∧ ∀ base : Heap, K.In base → base.Ns mainGlobals mg → FnOk l.prog w K mg base CX0 11 fa fd ["_law_script"] (spP K 1 Ph_law) := by
  have e := hfa.symm.trans (PySem.W.mg_of X G a34)
  cases e
  exact ⟨_, fun s v => .of_eq rfl, fun base _ _ => ok_law (wd_mk X G a0 l0 c0 k0 a1 l1 c1 k1 a2 l2 c2 k2 a3 l3 c3 k3 a4 l4 c4 k4 a5 l5 c5 k5 a6 l6 c6 k6 a7 l7 c7 k7 a8 l8 c8 k8 a9 l9 c9 k9 a10 l10 c10 k10 a11 l11 c11 k11 a12 l12 c12 k12 a13 l13 c13 k13 a14 l14 c14 k14 a15 l15 c15 k15 a16 l16 c16 k16 a17 l17 c17 k17 a18 l18 c18 k18 a19 l19 c19 k19 a20 l20 c20 k20 a21 l21 c21 k21 a22 l22 c22 k22 a23 l23 c23 k23 a24 l24 c24 k24 a25 l25 c25 k25 a26 l26 c26 k26 a27 l27 c27 k27 a28 l28 c28 k28 a29 l29 c29 k29 a30 l30 c30 k30 a31 l31 c31 k31 a32 l32 c32 k32 a33 l33 c33 k33 a34 l34 c34 k34 z0 z1 z2 z3 z4 z5 z6 z7 z8 z9 z10 z11 z12 z13 y0 y1 xaD xsup xopq xd1 eG0 eX0 eSa0 eGa0 eGg0 eNb0 eI0 eTi0 eK0 eE0 eT0 eH0 eIc0 eSs0 eV0 eSu0 eM0 xl xc1 xcd xv2 xfl xcc xtp)⟩
end K75
open PySem PySem.W PyProof.Rows
set_option maxHeartbeats 0 in
theorem PySem.Challenge.cw_caskyears_k75_whole_labels_hold_for_ever_holds : PySem.Challenge.rw_caskyears_k75_whole_labels_hold_for_ever.Holds := by
  w_on; o_law; k_head; (case hw => w_witness2)
  k_fill
  refine L2.walk_ofB (l := PySem.Challenge.rw_caskyears_k75_whole_labels_hold_for_ever) (n := 63) (k := 11) (x := "_law_script") (CX := fun _ => L2.CX0) (sp := fun w => Dn.spP _ 1 K75.Ph_law) rfl (by decide) rfl ⟨rfl, by decide, by decide⟩ (fun w h Y => PySem.W.kIn_of Y) ?F (fun _ _ a ns hl hb _ hS => Dn.spP_script hS (K75.law_true ns hl hb)) (fun _ _ _ _ _ h => h)
  case F =>
    intro w mg fa h KX G hmg
    refine' K75.all_mk hmg KX G ?a0 ?l0 ?c0 ?k0 ?a1 ?l1 ?c1 ?k1 ?a2 ?l2 ?c2 ?k2 ?a3 ?l3 ?c3 ?k3 ?a4 ?l4 ?c4 ?k4 ?a5 ?l5 ?c5 ?k5 ?a6 ?l6 ?c6 ?k6 ?a7 ?l7 ?c7 ?k7 ?a8 ?l8 ?c8 ?k8 ?a9 ?l9 ?c9 ?k9 ?a10 ?l10 ?c10 ?k10 ?a11 ?l11 ?c11 ?k11 ?a12 ?l12 ?c12 ?k12 ?a13 ?l13 ?c13 ?k13 ?a14 ?l14 ?c14 ?k14 ?a15 ?l15 ?c15 ?k15 ?a16 ?l16 ?c16 ?k16 ?a17 ?l17 ?c17 ?k17 ?a18 ?l18 ?c18 ?k18 ?a19 ?l19 ?c19 ?k19 ?a20 ?l20 ?c20 ?k20 ?a21 ?l21 ?c21 ?k21 ?a22 ?l22 ?c22 ?k22 ?a23 ?l23 ?c23 ?k23 ?a24 ?l24 ?c24 ?k24 ?a25 ?l25 ?c25 ?k25 ?a26 ?l26 ?c26 ?k26 ?a27 ?l27 ?c27 ?k27 ?a28 ?l28 ?c28 ?k28 ?a29 ?l29 ?c29 ?k29 ?a30 ?l30 ?c30 ?k30 ?a31 ?l31 ?c31 ?k31 ?a32 ?l32 ?c32 ?k32 ?a33 ?l33 ?c33 ?k33 ?a34 ?l34 ?c34 ?k34 ?z0 ?z1 ?z2 ?z3 ?z4 ?z5 ?z6 ?z7 ?z8 ?z9 ?z10 ?z11 ?z12 ?z13 ?y0 ?y1 ?xaD ?xsup ?xopq ?xd1 ?eG0 ?eX0 ?eSa0 ?eGa0 ?eGg0 ?eNb0 ?eI0 ?eTi0 ?eK0 ?eE0 ?eT0 ?eH0 ?eIc0 ?eSs0 ?eV0 ?eSu0 ?eM0 ?xl ?xc1 ?xcd ?xv2 ?xfl ?xcc ?xtp
    (case a0 => k_is); (case l0 => k_is); (case c0 => k_is); (case k0 => k_is); (case a1 => k_is); (case l1 => k_is); (case c1 => k_is); (case k1 => k_is); (case a2 => k_is); (case l2 => k_is); (case c2 => k_is); (case k2 => k_is); (case a3 => k_is); (case l3 => k_is); (case c3 => k_is); (case k3 => k_is); (case a4 => k_is); (case l4 => k_is); (case c4 => k_is); (case k4 => k_is); (case a5 => k_is); (case l5 => k_is); (case c5 => k_is); (case k5 => k_is); (case a6 => k_is); (case l6 => k_is); (case c6 => k_is); (case k6 => k_is); (case a7 => k_is); (case l7 => k_is); (case c7 => k_is); (case k7 => k_is); (case a8 => k_is); (case l8 => k_is); (case c8 => k_is); (case k8 => k_is); (case a9 => k_is); (case l9 => k_is); (case c9 => k_is); (case k9 => k_is); (case a10 => k_is); (case l10 => k_is); (case c10 => k_is); (case k10 => k_is); (case a11 => k_is); (case l11 => k_is); (case c11 => k_is); (case k11 => k_is); (case a12 => k_is); (case l12 => k_is); (case c12 => k_is); (case k12 => k_is); (case a13 => k_is); (case l13 => k_is); (case c13 => k_is); (case k13 => k_is); (case a14 => k_is); (case l14 => k_is); (case c14 => k_is); (case k14 => k_is); (case a15 => k_is); (case l15 => k_is); (case c15 => k_is); (case k15 => k_is); (case a16 => k_is); (case l16 => k_is); (case c16 => k_is); (case k16 => k_is); (case a17 => k_is); (case l17 => k_is); (case c17 => k_is); (case k17 => k_is); (case a18 => k_is); (case l18 => k_is); (case c18 => k_is); (case k18 => k_is); (case a19 => k_is); (case l19 => k_is); (case c19 => k_is); (case k19 => k_is); (case a20 => k_is); (case l20 => k_is); (case c20 => k_is); (case k20 => k_is); (case a21 => k_is); (case l21 => k_is); (case c21 => k_is); (case k21 => k_is); (case a22 => k_is); (case l22 => k_is); (case c22 => k_is); (case k22 => k_is); (case a23 => k_is); (case l23 => k_is); (case c23 => k_is); (case k23 => k_is); (case a24 => k_is); (case l24 => k_is); (case c24 => k_is); (case k24 => k_is); (case a25 => k_is); (case l25 => k_is); (case c25 => k_is); (case k25 => k_is); (case a26 => k_is); (case l26 => k_is); (case c26 => k_is); (case k26 => k_is); (case a27 => k_is); (case l27 => k_is); (case c27 => k_is); (case k27 => k_is); (case a28 => k_is); (case l28 => k_is); (case c28 => k_is); (case k28 => k_is); (case a29 => k_is); (case l29 => k_is); (case c29 => k_is); (case k29 => k_is); (case a30 => k_is); (case l30 => k_is); (case c30 => k_is); (case k30 => k_is); (case a31 => k_is); (case l31 => k_is); (case c31 => k_is); (case k31 => k_is); (case a32 => k_is); (case l32 => k_is); (case c32 => k_is); (case k32 => k_is); (case a33 => k_is); (case l33 => k_is); (case c33 => k_is); (case k33 => k_is); (case a34 => k_is); (case l34 => k_is); (case c34 => k_is); (case k34 => k_is); (case z0 => k_is); (case z1 => k_is); (case z2 => k_is); (case z3 => k_is); (case z4 => k_is); (case z5 => k_is); (case z6 => k_is); (case z7 => k_is); (case z8 => k_is); (case z9 => k_is); (case z10 => k_is); (case z11 => k_is); (case z12 => k_is); (case z13 => k_is); (case y0 => k_is); (case y1 => k_is); (case xaD => k_is); (case xsup => k_is); (case xopq => k_is); (case xd1 => k_is); (case eG0 => k_is); (case eX0 => k_is); (case eSa0 => k_is); (case eGa0 => k_is); (case eGg0 => k_is); (case eNb0 => k_is); (case eI0 => k_is); (case eTi0 => k_is); (case eK0 => k_is); (case eE0 => k_is); (case eT0 => k_is); (case eH0 => k_is); (case eIc0 => k_is); (case eSs0 => first | rfl | k_is); (case eV0 => k_is); (case eSu0 => ks_is); (case eM0 => k_is); (case xl => k_is); (case xc1 => k_is); (case xcd => k_is); (case xv2 => rfl); (case xfl => first | rfl | decide +kernel); (case xcc => k_is); (case xtp => decide +kernel)
