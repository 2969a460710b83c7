import PyProof.Rows.All
import HandS.ForMost
import HandS.ForExc
import HandS.SortKw
import HandS.TryOnly
import HandS.EndTab
import HandS.EndBits
import HandS.Wide
import HandS.Gcd
import HandS.IsInst
import HandS.Evl
import HandS.Lambda
import HandS.TupAny
import HandS.TupMul
import KE.KMathG
import KE.KMathGC
import HandS.ExcSuper
import HandS.ExcField
import HandS.ExcInit
import KE.KExcSuper
import HandS.Zip
import KE.KExcIs
import HandS.ExcIs
import PyProof.ReprRoads
import HandS.WideBits
import HandS.Style
import HandS.Sort
import HandS.Conv
import KE.KxIndex
import HandS.Text
import PyProof.Rows.StrOr
import KE.SortKeyHeap
import KE.DataFind
import HandS.Deep
import HandS.Dict
import HandS.More
import PyProof.Rows.SortShellSt
import PyProof.NoPylong
import HandS.Iter
import KE.KDictZip
import HandS.Codes
import PyProof.ListIndex
import PySem.Challenge.RW_caskyears_k64_whole_meets_and_joins
set_option Elab.async false
set_option linter.all false
set_option maxRecDepth 100000
set_option maxHeartbeats 1000000
namespace Dn
open PySem PySem.Spec PyProof.Rows L2
/-- room, and no repr around -/
structure Room (k : Nat) (A : Around) : Prop extends L2.Room k A where
  gd : A.guards = some []
theorem Room.mono {j k : Nat} {A : Around} (r : Room k A) (h : j ≤ k) : Room j A := ⟨r.toRoom.mono h, r.gd⟩
theorem Room.deeper {k : Nat} {A : Around} (r : Room (k + 1) A) (env : Env) : Room k (A.deeper env) := ⟨r.toRoom.deeper env, r.gd⟩
structure FnOk (P : Program) (w : World) (K : PySem.W.Frag) (mg : Str → Option Value) (base : Heap) (CX : CXT) (k : Nat) (f : Addr) (fd : FuncData) (ps : List Str) (sp : Sp) : Prop where
  len : ∀ vs H Q E, sp vs H Q E → vs.length = ps.length
  run : ∀ {A : Around} {outer : List Env} {s : Shared} {H : Hp} {args : Args} {us : List Value} {vs : List V} {Q : VK} {E : XK}, Room k A → Env0 P w K mg base A outer s H → BindsTo s fd args (ps.zip us) → Vals vs us → sp vs H Q E →
    codeAny (model P w) A (.call (.ref f) args) (CR CX outer P w H s Q E) s
section
variable {P : Program} {w : World} {K K2 : PySem.W.Frag} {mg : Str → Option Value} {base : Heap} {CX : CXT} {k : Nat} {f : Addr} {fd : FuncData} {N ps : List Str} {sp : Sp} {x qual : Str} {st : Stmt}
theorem FnOk.wide (F : FnOk P w K mg base CX k f fd ps sp) (hK : K.In base) : FnOk P w K2 mg base CX k f fd ps sp :=
  ⟨F.len, fun hr e hb hv hs => F.run hr ⟨e.frames, ⟨hK, e.mod.glob, e.mod.blt, e.mod.nolimit⟩, e.bs, e.bsz, e.funs, e.frf, e.hok, e.bare⟩ hb hv hs⟩
/-- a body that does what it should keeps the def's promise -/
theorem fn_body (Fn : Fun K x qual st f fd) (S : FnScope N ps (defScope st)) (len : ∀ vs H Q E, sp vs H Q E → vs.length = ps.length)
    (body : ∀ (cdv : Value) (A : Around) (outer : List Env) (s : Shared) (H : Hp) (vs : List V) (Q : VK) (E : XK), fd.code = cdv → Room k (A.deeper (envOfC qual (defScope st) s.heap.objs.size f cdv)) → sp vs H Q E →
      ∃ t, PSs (cxOf CX P w K mg base N qual (defScope st) f cdv A outer s H E) (defBody st) t ∧ t { nx := fun _ H' => Q .non H', rt := Q } (start N vs) H) : FnOk P w K mg base CX (k + 1) f fd ps sp := by
  obtain ⟨oc, od, kV, doc, pm, an, cdv, ct, osl, rfl, there, code⟩ := Fn.ex
  refine ⟨len, fun {A outer s H args us vs Q E} room e0 binds vals want => ?_⟩
  have many := len _ _ _ _ want
  have old : ∀ b o, base.get? b = some o → s.heap.get? b = some o := fun b o e => (e0.bs b o e).1
  have inK : K.In s.heap := e0.mod.kin.keeps old
  have sort : ∀ y ∈ ps.zip us, (defScope st).names.lookup y.1 = some .local ∨ ((defScope st).names.lookup y.1 = some .cell ∧ ((cellsFrom (s.heap.objs.size + 1) (defScope st).names []).lookup y.1).isSome = true) := by
    rintro ⟨n, v⟩ hy
    have := S.par n (List.of_mem_zip hy).1
    exact this.imp id fun q => ⟨q, PySem.W.cellsFrom_some _ _ _ (.inl q)⟩
  refine codeAny_call_function room.depth (inK _ _ there) rfl S.co S.gen rfl (PySem.W.codeRec_of inK code) (binds _ _ _ _ (wpAny_newFunctionEnv_cells S.kind sort ?_))
  rintro env rfl s1 x1
  refine ⟨(e0.mod.nolimit.keeps old).keeps x1.toInCall.keep, codeAny_func ?_⟩
  obtain ⟨t, ht, hq⟩ := body cdv A outer s H vs Q E rfl (room.deeper _) want
  refine wpAny_mono (ht.run [] s1 (start N vs) H _ (inv_start S room.hd e0 many vals x1) hq) (fun fl s' done => ?_) fun _ _ z => z
  match fl, done with
  | .ret u, ⟨v, _, H', J, rv, q⟩ => exact ⟨v, H', J.os, J.bare, J.base, J.hok, rv, q⟩
  | .next, ⟨_, H', J, q⟩ => exact ⟨.non, H', J.os, J.bare, J.base, J.hok, rfl, q⟩
  | .brk, ⟨_, _, _, q⟩ => exact q.elim
  | .cont, ⟨_, _, _, q⟩ => exact q.elim
end
end Dn
namespace L2
open PySem PySem.Spec PyProof.Rows Dn
variable {P : Program} {w : World} {K : PySem.W.Frag} {mg : Str → Option Value} {base : Heap} {x qual : Str} {st : Stmt} {f : Addr} {fd : FuncData} {N ps : List Str} {k : Nat} {sp : Sp}
theorem Fun.okG (F : Fun K x qual st f fd) (S : FnScope N ps (defScope st)) (len : ∀ vs H Q E, sp vs H Q E → vs.length = ps.length)
    (body : ∀ (cdv : Value) (A : Around) (outer : List Env) (s : Shared) (H : Hp) (vs : List V) (Q : VK) (E : XK), Dn.Room k (A.deeper (envOfC qual (defScope st) s.heap.objs.size f cdv)) → sp vs H Q E →
      ∃ t, PSs (cxOf CX0 P w K mg base N qual (defScope st) f cdv A outer s H E).nox (defBody st) t ∧ t { nx := fun _ H' => Q .non H', rt := Q } (start N vs) H) : Dn.FnOk P w K mg base CX0 (k + 1) f fd ps sp :=
  fn_body F S len fun cdv A outer s H vs Q E _ hr want => let ⟨t, h, q⟩ := body cdv A outer s H vs Q E hr want; ⟨t, h.nox, q⟩
end L2
namespace Dn
open PySem PySem.Spec PyProof.Rows L2
section
variable {X : Cx} {CX : CXT} {k : Nat} {f : Addr} {fd : FuncData} {ps ks : List Str} {sp : Sp} {dvs : List V} {ds : List Value} {E : XK} {Es : L2.St → XK} {x : Str} {p pos : Pos} {e : Expr} {es : List Expr} {kws : List Keyword} {t tk : TA} {g : List Value → List Value → List Value} {gV : List V → List V → List V}
/-- behind the callee's code -/
theorem ran {pins : List (Addr × Obj)} {σ : L2.St} {H : Hp} {s : Shared} {Q : VK} {E : XK} {args : List Value} {kw : List (Str × Value)} (I : Inv X pins σ H s) (out : ∀ e s', CX X.stack H s E e s' → X.xe e s')
    (C : codeAny (model X.prog X.w) X.A (.call (.ref f) ⟨args, kw⟩) (CR CX X.stack X.prog X.w H s Q E) s) : wpAny (model X.prog X.w) X.A (call (.ref f) args kw) (EP X pins σ Q) X.xe s :=
  wpAny_call (codeAny_mono C fun r s' q => match r, q with
    | .error e, q => out e s' q
    | .ok (.ret _), q => I.after q
    | .ok .next, q => False.elim q
    | .ok .brk, q => False.elim q
    | .ok .cont, q => False.elim q)
theorem run_plain {pins : List (Addr × Obj)} {σ : L2.St} {H : Hp} {s : Shared} {Q : VK} {us : List Value} {vs : List V} (F : FnOk X.prog X.w X.K X.mg X.base CX k f fd ps sp) (hr : Room k X.A) (hb : Binds X.K fd ps ds) (hd : Vals dvs ds) (I : Inv X pins σ H s) (out : ∀ e s', CX X.stack H s E e s' → X.xe e s')
    (r : Vals vs us) (h : sp (vs ++ dvs) H Q E) : wpAny (model X.prog X.w) X.A (call (.ref f) us) (EP X pins σ Q) X.xe s := by
  have both : Vals (vs ++ dvs) (us ++ ds) := r.append hd
  exact ran I out (F.run hr I.env0 (hb s us I.kIn (by rw [← both.length]; exact F.len _ _ _ _ h)) both h)
theorem pe_call (F : FnOk X.prog X.w X.K X.mg X.base CX k f fd ps sp) (hr : Room k X.A) (hg : Gl X x) (hm : X.mg x = some (.ref f)) (hk : PySem.W.keepIn X.K (.ref f) = true) (hb : Binds X.K fd ps ds) (hd : Vals dvs ds) (hx : Passes CX X E)
    (ha : PA X (e :: es) t) (hdb : (x == ("__debug__" : Str)) = false := by decide) (he : starEach (e :: es) X.env = (false, eval e X.env) :: starEach es X.env := by rfl) (hpl : (backTo pos (starEach es X.env)).any (·.1) = false := by rfl) :
    PE X (.Call (.Name x p) (e :: es) [] pos) (tCall sp dvs E t) := ⟨fun pins s σ H Q I h => wpAny_Call_Name_kw (ld_glob I hg hm
  (PySem.W.callWith_K (h₀ := X.base) I.ok.mod.kin hk (thn (ha.run pos pins s σ H _ I h) fun _ s1 ⟨_, _, I1, r, q⟩ => ⟨I1.kIn, run_plain F hr hb hd I1 (fun e s' c => hx pins σ _ s1 e s' I1 c) r q⟩) he hpl) hdb)⟩
end
end Dn
set_option Elab.async false
set_option linter.all false
set_option maxRecDepth 100000
namespace Dn
open PySem PySem.Spec PyProof.Rows L2
open PySem.W (Frag)
theorem sqT_mono {K : Frag} {H H' : Hp} {a : Addr} {xs : List V} (e : Same H H') (h : SqT K H a xs) : SqT K H' a xs := by
  rcases h with (h | ⟨o, h⟩) | h
  · exact .inl (.inl (e _ _ h))
  · exact .inl (.inr ⟨o, e _ _ h⟩)
  · exact .inr h
/-- tables of code objects that a def writes when it makes a lambda; where the error classes stand -/
class Tb where
  T : List (Addr × Str)
  ca : Str → Addr := fun _ => 0
/-- the object of a caught error at a -/
def excO (a C dd : Addr) : HO := .ext fun h => ∃ o vs, h.get? a = some o ∧ o.cls = .ref C ∧ o.dict = some dd ∧ o.data = .fields vs
/-- a caught error as data: no dict has the key None twice -/
abbrev encE (cl : Str) (d : PyData) : PyData := .dict [(.none, .str cl), (.none, d)]
/-- keys as data -/
def kD : Key → PyData
  | .inl i => .int i
  | .inr s => .str s
mutual
inductive Dp [Tb] (K : Frag) (H : Hp) : V → PyData → Prop
  | non : Dp K H .non .none
  | bl (b : Bool) : Dp K H (.bl b) (.bool b)
  | int (i : Int) : Dp K H (.int i) (.int i)
  | str (x : Str) : Dp K H (.str x) (.str x)
  | lst {a : Addr} {xs : List V} {ds : List PyData} : SqL K H a xs → DpAll K H xs ds → Dp K H (.ref a) (.list ds)
  | tup {a : Addr} {xs : List V} {ds : List PyData} : SqT K H a xs → DpAll K H xs ds → Dp K H (.ref a) (.tuple ds)
  | dct {a : Addr} {o : Obj} {ks : List (Key × V)} {kvs : List (PyData × PyData)} : H a = some (.frz o (.dK ks)) → DpKv K H ks kvs → Dp K H (.ref a) (.dict kvs)
  | exc {a dd : Addr} {v : V} {d : PyData} {cl : Str} : H a = some (excO a (Tb.ca cl) dd) → H dd = some (.xd [("value", v)]) → Dp K H v d → Dp K H (.ref a) (.dict [(.none, .str cl), (.none, d)])
  | rng {a : Addr} {lo hi : Int} : H a = some (.rng lo hi) → Dp K H (.ref a) (.dict [(.none, .int lo), (.none, .int hi)])
inductive DpAll [Tb] (K : Frag) (H : Hp) : List V → List PyData → Prop
  | nil : DpAll K H [] []
  | cons {v : V} {vs : List V} {d : PyData} {ds : List PyData} : Dp K H v d → DpAll K H vs ds → DpAll K H (v :: vs) (d :: ds)
inductive DpKv [Tb] (K : Frag) (H : Hp) : List (Key × V) → List (PyData × PyData) → Prop
  | nil : DpKv K H [] []
  | cons {k : Key} {v : V} {ks : List (Key × V)} {d : PyData} {kvs : List (PyData × PyData)} : Dp K H v d → DpKv K H ks kvs → DpKv K H ((k, v) :: ks) ((kD k, d) :: kvs)
end
section
variable [Tb]
mutual
theorem dpMono {K : Frag} {H H' : Hp} (e : Same H H') : ∀ {v : V} {d : PyData}, Dp K H v d → Dp K H' v d
  | _, _, .non => .non
  | _, _, .bl b => .bl b
  | _, _, .int i => .int i
  | _, _, .str x => .str x
  | _, _, .lst hs ha => .lst (e.seq hs) (dpMonoAll e ha)
  | _, _, .tup hs ha => .tup (sqT_mono e hs) (dpMonoAll e ha)
  | _, _, .dct hs ha => .dct (e _ _ hs) (dpMonoKv e ha)
  | _, _, .exc h1 h2 h3 => .exc (e _ _ h1) (e _ _ h2) (dpMono e h3)
  | _, _, .rng h => .rng (e _ _ h)
theorem dpMonoAll {K : Frag} {H H' : Hp} (e : Same H H') : ∀ {vs : List V} {ds : List PyData}, DpAll K H vs ds → DpAll K H' vs ds
  | _, _, .nil => .nil
  | _, _, .cons h1 h2 => .cons (dpMono e h1) (dpMonoAll e h2)
theorem dpMonoKv {K : Frag} {H H' : Hp} (e : Same H H') : ∀ {vs : List (Key × V)} {ds : List (PyData × PyData)}, DpKv K H vs ds → DpKv K H' vs ds
  | _, _, .nil => .nil
  | _, _, .cons h1 h2 => .cons (dpMono e h1) (dpMonoKv e h2)
end
mutual
/-- data without dicts and errors is the kit's data -/
theorem Dp.l2 {K : Frag} {H : Hp} : ∀ (d : PyData) {v : V}, d.canLay0 = true → Dp K H v d → L2.Dp K H v d
  | .none, _, _, h => by cases h; exact .non
  | .bool b, _, _, h => by cases h; exact .bl b
  | .int i, _, _, h => by cases h; exact .int i
  | .str x, _, _, h => by cases h; exact .str x
  | .list ds, _, hc, h => by
    cases h with
    | lst hs ha => exact .lst hs (DpAll.l2 ds (by simpa [PyData.canLay0] using hc) ha)
  | .tuple ds, _, hc, h => by
    cases h with
    | tup hs ha => exact .tup hs (DpAll.l2 ds (by simpa [PyData.canLay0] using hc) ha)
  | .dict _, _, hc, h => by simp [PyData.canLay0] at hc
theorem DpAll.l2 {K : Frag} {H : Hp} : ∀ (ds : List PyData) {vs : List V}, PyData.canLayAll0 ds = true → DpAll K H vs ds → L2.DpAll K H vs ds
  | [], _, _, h => by cases h; exact .nil
  | d :: ds, _, hc, h => by
    have hc' : d.canLay0 = true ∧ PyData.canLayAll0 ds = true := by simpa [PyData.canLayAll0] using hc
    cases h with
    | cons h1 h2 => exact .cons (Dp.l2 d hc'.1 h1) (DpAll.l2 ds hc'.2 h2)
end
theorem Dp.sh {K : Frag} {H : Hp} {d : PyData} {v : V} (h : Dp K H v d) (hs : SeqAt.shaped d = true) : L2.Dp K H v d := h.l2 d (SeqAt.canLay_of_shaped hs)
theorem Dp.up {K : Frag} {H H' : Hp} {v : V} {d : PyData} (h : Dp K H v d) (e : Same H H') : Dp K H' v d := dpMono e h
theorem DpAll.up {K : Frag} {H H' : Hp} {vs : List V} {ds : List PyData} (h : DpAll K H vs ds) (e : Same H H') : DpAll K H' vs ds := dpMonoAll e h
theorem DpAll.len {K : Frag} {H : Hp} : ∀ {vs : List V} {ds : List PyData}, DpAll K H vs ds → vs.length = ds.length
  | [], ds, h => by cases h; rfl
  | v :: vs, ds, h => by
    cases h with
    | cons _ h2 => simp only [List.length_cons, DpAll.len h2]
theorem DpAll.at {K : Frag} {H : Hp} : ∀ {vs : List V} {ds : List PyData} {i : Nat} {d : PyData}, DpAll K H vs ds → ds[i]? = some d → ∃ v, vs[i]? = some v ∧ Dp K H v d
  | [], ds, i, d, h, e => by cases h; simp at e
  | v :: vs, ds, 0, d, h, e => by
    cases h with
    | cons h1 h2 => simp at e; subst e; exact ⟨v, rfl, h1⟩
  | v :: vs, ds, i + 1, d, h, e => by
    cases h with
    | cons h1 h2 =>
      simp at e
      obtain ⟨u, h3, h4⟩ := DpAll.at h2 e
      exact ⟨u, by simpa using h3, h4⟩
theorem DpAll.at' {K : Frag} {H : Hp} {vs : List V} {ds : List PyData} {i : Nat} {v : V} (h : DpAll K H vs ds) (e : vs[i]? = some v) : ∃ d, ds[i]? = some d ∧ Dp K H v d := by
  have hl := h.len
  have hi : i < vs.length := (List.getElem?_eq_some_iff.mp e).1
  have hd : ds[i]? = some (ds[i]'(by omega)) := List.getElem?_eq_getElem _
  obtain ⟨u, h1, h2⟩ := h.at hd
  rw [e] at h1
  cases h1
  exact ⟨_, hd, h2⟩
theorem DpAll.app {K : Frag} {H : Hp} : ∀ {vs ws : List V} {ds es : List PyData}, DpAll K H vs ds → DpAll K H ws es → DpAll K H (vs ++ ws) (ds ++ es)
  | [], ws, ds, es, h, h' => by cases h; exact h'
  | v :: vs, ws, ds, es, h, h' => by
    cases h with
    | cons h1 h2 => exact .cons h1 (DpAll.app h2 h')
theorem DpAll.set {K : Frag} {H : Hp} {v : V} {d : PyData} (hv : Dp K H v d) : ∀ {vs : List V} {ds : List PyData} (i : Nat), DpAll K H vs ds → DpAll K H (vs.set i v) (ds.set i d)
  | [], ds, i, h => by cases h; exact .nil
  | u :: vs, ds, 0, h => by
    cases h with
    | cons h1 h2 => exact .cons hv h2
  | u :: vs, ds, i + 1, h => by
    cases h with
    | cons h1 h2 => exact .cons h1 (DpAll.set hv i h2)
theorem DpAll.take {K : Frag} {H : Hp} : ∀ {vs : List V} {ds : List PyData} (n : Nat), DpAll K H vs ds → DpAll K H (vs.take n) (ds.take n)
  | [], ds, n, h => by cases h; simp; exact .nil
  | u :: vs, ds, 0, h => by simp; exact .nil
  | u :: vs, ds, n + 1, h => by
    cases h with
    | cons h1 h2 => exact .cons h1 (DpAll.take n h2)
theorem DpAll.drop {K : Frag} {H : Hp} : ∀ {vs : List V} {ds : List PyData} (n : Nat), DpAll K H vs ds → DpAll K H (vs.drop n) (ds.drop n)
  | vs, ds, 0, h => by simpa using h
  | [], ds, n + 1, h => by cases h; simp; exact .nil
  | u :: vs, ds, n + 1, h => by
    cases h with
    | cons h1 h2 => simpa using DpAll.drop n h2
theorem DpAll.ints {K : Frag} {H : Hp} : ∀ {vs : List V} {ns : List Int}, DpAll K H vs (ns.map .int) → vs = ns.map V.int
  | [], [], h => rfl
  | [], n :: ns, h => by cases h
  | v :: vs, [], h => by cases h
  | v :: vs, n :: ns, h => by
    cases h with
    | cons h1 h2 =>
      cases h1
      rw [DpAll.ints h2]
      rfl
theorem DpAll.of_ints {K : Frag} {H : Hp} : ∀ (ns : List Int), DpAll K H (ns.map V.int) (ns.map .int)
  | [] => .nil
  | n :: ns => .cons (.int n) (DpAll.of_ints ns)
end
inductive Sl where
  | no
  | val (d : PyData)
  | own (p : Bool) (ds : List PyData)
abbrev En := List Sl
/-- fixed through a def's body: the heap at its entry, what its data may lean on there, what must stay, the parameters' values -/
structure C3 where
  H0 : Hp
  F0 : Hp
  G : Hp
  pv : List V
def Hold (c : C3) (i : Nat) (p : Bool) (a : Addr) : Prop := if p = true then c.pv[i]? = some (.ref a) else c.H0 a = none
def NT (o : HO) : Prop := ∀ ps, o ≠ .tbl ps
def NoT (F : Hp) : Prop := ∀ b ps, F b ≠ some (.tbl ps)
theorem NT.lst {xs : List V} : NT (.lst xs) := fun _ h => by cases h
theorem NT.tup {xs : List V} : NT (.tup xs) := fun _ h => by cases h
theorem NoT.upd {F : Hp} {p : Addr} {o : HO} (h : NoT F) (ho : NT o) : NoT (upd F p o) := fun b ps e => by
  by_cases hb : b = p
  · subst hb
    rw [upd_same] at e
    exact ho ps (Option.some.inj e)
  · rw [upd_ne hb] at e
    exact h b ps e
theorem tabs_grow {T : List (Addr × Str)} {H : Hp} {p : Addr} {o : HO} (h : LamX.Tabs T H) (hp : H p = none) : LamX.Tabs T (upd H p o) := h.ext fun b u e => by rw [upd_ne (ne_of_none e hp)]; exact e
theorem tabs_but {T : List (Addr × Str)} {H H' : Hp} {a : Addr} {xs : List V} (h : LamX.Tabs T H) (ha : H a = some (.lst xs)) (k : ∀ b, b ≠ a → H' b = H b) : LamX.Tabs T H' := fun p hp => by
  obtain ⟨ps, h1, h2, h3⟩ := h p hp
  have ne : ∀ {b : Addr} {o : HO}, H b = some o → (∀ xs, o ≠ .lst xs) → H' b = some o := fun {b o} e n => by
    rw [k b (fun z => by subst z; rw [ha] at e; cases e; exact n _ rfl)]
    exact e
  refine ⟨ps, ne h1 (fun _ z => by cases z), h2, fun pos cv hc => ?_⟩
  obtain ⟨c, e1, e2⟩ := h3 pos cv hc
  exact ⟨c, e1, ne e2 fun _ z => by unfold LamX.CodeO at z; cases z⟩
theorem tabs_wr {T : List (Addr × Str)} {H : Hp} {a : Addr} {xs : List V} {o : HO} (h : LamX.Tabs T H) (ha : H a = some (.lst xs)) : LamX.Tabs T (upd H a o) := tabs_but h ha fun _ hb => upd_ne hb
/-- a heap without its tables -/
def noT (H : Hp) : Hp := fun b => match H b with
  | some (.tbl _) => none
  | o => o
theorem noT_of {H : Hp} {b : Addr} {o : HO} (e : H b = some o) (n : NT o) : noT H b = some o := by
  unfold noT
  rw [e]
  cases o with
  | tbl ps => exact absurd rfl (n ps)
  | _ => rfl
theorem noT_get {H : Hp} {b : Addr} {o : HO} (e : noT H b = some o) : H b = some o ∧ NT o := by
  unfold noT at e
  split at e
  · cases e
  · rename_i x
    refine ⟨e, fun ps z => ?_⟩
    subst z
    exact x _ e
theorem noT_sub {H : Hp} : Same (noT H) H := fun _ _ e => (noT_get e).1
theorem noT_no {H : Hp} : NoT (noT H) := fun _ ps e => (noT_get e).2 ps rfl
structure Bs [Tb] (F H : Hp) : Prop where
  sub : Same F H
  nf : NoT F
  tab : LamX.Tabs Tb.T H
structure Kp (H H' : Hp) : Prop where
  keep : ∀ b o, NT o → H b = some o → H' b = some o
  dom : ∀ b, H b ≠ none → H' b ≠ none
structure KpM (a : Addr) (H H' : Hp) : Prop where
  keep : ∀ b o, NT o → b ≠ a → H b = some o → H' b = some o
  dom : ∀ b, H b ≠ none → H' b ≠ none
theorem Kp.of {H H' : Hp} (h : Same H H') : Kp H H' := ⟨fun b o _ e => h b o e, fun b hb => by
  cases e : H b with
  | none => exact absurd e hb
  | some o => rw [h b o e]; simp⟩
theorem Kp.trans {H H1 H2 : Hp} (a : Kp H H1) (b : Kp H1 H2) : Kp H H2 := ⟨fun x o n e => b.keep x o n (a.keep x o n e), fun x h => b.dom x (a.dom x h)⟩
variable [Tb]
structure Rl (K : Frag) (c : C3) (F : Hp) (σ : L2.St) (H : Hp) (env : En) : Prop where
  sub : Same F H
  f0 : Same c.F0 F
  gd : Same c.G H
  g0 : Same c.G c.H0
  new : ∀ a, F a ≠ none → c.F0 a ≠ none ∨ c.H0 a = none
  dom : ∀ a, c.H0 a ≠ none → H a ≠ none
  len : env.length = σ.length
  val : ∀ (i : Nat) (d : PyData), env[i]? = some (.val d) → ∃ v, σ[i]? = some (some v) ∧ Dp K F v d
  own : ∀ (i : Nat) (p : Bool) (ds : List PyData), env[i]? = some (.own p ds) → ∃ (a : Addr) (xs : List V), σ[i]? = some (some (.ref a)) ∧ F a = none ∧ H a = some (.lst xs) ∧ DpAll K F xs ds ∧ c.G a = none ∧ Hold c i p a ∧
    ∀ (j : Nat) (q : Bool) (es : List PyData), j ≠ i → env[j]? = some (.own q es) → σ[j]? ≠ some (some (.ref a))
  tab : LamX.Tabs Tb.T H
  nf : NoT F
  ng : NoT c.G
theorem Rl.base {K : Frag} {c : C3} {F H : Hp} {σ : L2.St} {env : En} (R : Rl K c F σ H env) : Bs F H := ⟨R.sub, R.nf, R.tab⟩
section
variable {K : Frag} {c : C3} {F F' H H' : Hp} {σ : L2.St} {env env' : En}
/-- the heap grows by one new object, which data may lean on -/
theorem Rl.laid {p : Addr} {o : HO} (R : Rl K c F σ H env) (hp : H p = none) (ho : NT o := by intro _ h; cases h) : Same F (upd F p o) ∧ Rl K c (upd F p o) σ (upd H p o) env := by
  have hF : F p = none := R.sub.free hp
  have hH0 : c.H0 p = none := by
    cases e : c.H0 p with
    | none => rfl
    | some u => exact absurd hp (R.dom p (by rw [e]; simp))
  have sF : Same F (upd F p o) := fun b u e => by rw [upd_ne (ne_of_none e hF)]; exact e
  refine ⟨sF, ⟨fun b u e => ?_, R.f0.trans sF, fun b u e => ?_, R.g0, fun a h => ?_, fun a h => ?_, R.len, fun i d h => ?_, fun i q ds h => ?_, tabs_grow R.tab hp, R.nf.upd ho, R.ng⟩⟩
  · by_cases hb : b = p
    · subst hb; rw [upd_same] at e ⊢; exact e
    · rw [upd_ne hb] at e ⊢; exact R.sub b u e
  · have := R.gd b u e
    rw [upd_ne (ne_of_none this hp)]; exact this
  · by_cases hb : a = p
    · subst hb; exact .inr hH0
    · rw [upd_ne hb] at h; exact R.new a h
  · by_cases hb : a = p
    · subst hb; rw [upd_same]; simp
    · rw [upd_ne hb]; exact R.dom a h
  · obtain ⟨v, e1, e2⟩ := R.val i d h
    exact ⟨v, e1, e2.up sF⟩
  · obtain ⟨a, xs, e1, e2, e3, e4, e5, e6, e7⟩ := R.own i q ds h
    have ne : a ≠ p := ne_of_none e3 hp
    exact ⟨a, xs, e1, by rw [upd_ne ne]; exact e2, by rw [upd_ne ne]; exact e3, e4.up sF, e5, e6, e7⟩
/-- the heap grows by one new object that nothing leans on yet -/
theorem Rl.grow {p : Addr} {o : HO} (R : Rl K c F σ H env) (hp : H p = none) : Rl K c F σ (upd H p o) env := by
  refine ⟨fun b u e => ?_, R.f0, fun b u e => ?_, R.g0, R.new, fun a h => ?_, R.len, R.val, fun i q ds h => ?_, tabs_grow R.tab hp, R.nf, R.ng⟩
  · have := R.sub b u e
    rw [upd_ne (ne_of_none this hp)]; exact this
  · have := R.gd b u e
    rw [upd_ne (ne_of_none this hp)]; exact this
  · by_cases hb : a = p
    · subst hb; rw [upd_same]; simp
    · rw [upd_ne hb]; exact R.dom a h
  · obtain ⟨a, xs, e1, e2, e3, e4, e5, e6, e7⟩ := R.own i q ds h
    have ne : a ≠ p := ne_of_none e3 hp
    exact ⟨a, xs, e1, e2, by rw [upd_ne ne]; exact e3, e4, e5, e6, e7⟩
theorem Rl.h0 {p : Addr} (R : Rl K c F σ H env) (hp : H p = none) : c.H0 p = none := by
  cases e : c.H0 p with
  | none => rfl
  | some u => exact absurd hp (R.dom p (by rw [e]; simp))
theorem Rl.gn {p : Addr} (R : Rl K c F σ H env) (hp : H p = none) : c.G p = none := R.gd.free hp
end
abbrev Fe := En → Option (PyData × En)
abbrev Ft := En → Option (Bool × En)
abbrev Fl := En → Option (List PyData × En)
def Ge (K : Frag) (f : Fe) : TE := fun σ H Q => ∃ c F env d env', Rl K c F σ H env ∧ f env = some (d, env') ∧ ∀ v F' H', Same F F' → Rl K c F' σ H' env' → Dp K F' v d → Q v H'
def Gt (K : Frag) (f : Ft) : TT := fun σ H Q => ∃ c F env b env', Rl K c F σ H env ∧ f env = some (b, env') ∧ ∀ F' H', Same F F' → Rl K c F' σ H' env' → Q b H'
/-- a list that is new, and that nothing leans on -/
def Gf (K : Frag) (f : Fl) : TE := fun σ H Q => ∃ c F env ds env', Rl K c F σ H env ∧ f env = some (ds, env') ∧ ∀ p xs F' H', Same F F' → H' p = none → Rl K c F' σ H' env' → DpAll K F' xs ds → Q (.ref p) (upd H' p (.lst xs))
/-- arguments, from the left -/
def Ga (K : Frag) (f : Fl) : TA := fun σ H Q => ∃ c F env ds env', Rl K c F σ H env ∧ f env = some (ds, env') ∧ ∀ vs F' H', Same F F' → Rl K c F' σ H' env' → DpAll K F' vs ds → Q vs H'
theorem _root_.L2.PE.imp {X : Cx} {e : Expr} {t u : TE} (h : PE X e t) (w : ∀ σ H Q, u σ H Q → t σ H Q) : PE X e u := ⟨fun pins s σ H Q I q => h.run pins s σ H Q I (w σ H Q q)⟩
theorem _root_.L2.PT.imp {X : Cx} {e : Expr} {t u : TT} (h : PT X e t) (w : ∀ σ H Q, u σ H Q → t σ H Q) : PT X e u := ⟨fun pins s σ H Q I q => h.run pins s σ H Q I (w σ H Q q)⟩
theorem _root_.L2.PW.imp {X : Cx} {e : Expr} {t u : TT} (h : PW X e t) (w : ∀ σ H Q, u σ H Q → t σ H Q) : PW X e u := ⟨fun wh pins s σ H Q I q => h.run wh pins s σ H Q I (w σ H Q q)⟩
theorem _root_.L2.PA.imp {X : Cx} {es : List Expr} {t u : TA} (h : PA X es t) (w : ∀ σ H Q, u σ H Q → t σ H Q) : PA X es u := ⟨fun pos pins s σ H Q I q => h.run pos pins s σ H Q I (w σ H Q q)⟩
theorem _root_.L2.PS.imp {X : Cx} {e : Stmt} {t u : TS} (h : PS X e t) (w : ∀ D σ H, u D σ H → t D σ H) : PS X e u := ⟨fun pins s σ H D I q => h.run pins s σ H D I (w D σ H q)⟩
theorem _root_.L2.PSs.imp {X : Cx} {e : List Stmt} {t u : TS} (h : PSs X e t) (w : ∀ D σ H, u D σ H → t D σ H) : PSs X e u := ⟨fun pins s σ H D I q => h.run pins s σ H D I (w D σ H q)⟩
theorem _root_.L2.PI.imp {X : Cx} {tg it : Expr} {t u : TI} (h : PI X tg it t) (w : ∀ σ H R, u σ H R → t σ H R) : PI X tg it u := ⟨fun pins s σ H R I q => h.run pins s σ H R I (w σ H R q)⟩
theorem _root_.L2.PG.imp {X : Cx} {tg : Expr} {t u : TG} (h : PG X tg t) (w : ∀ v σ H Q, u v σ H Q → t v σ H Q) : PG X tg u := ⟨fun pins s σ H v v' Q I r q => h.run pins s σ H v v' Q I r (w v σ H Q q)⟩
theorem _root_.L2.PTs.imp {X : Cx} {es : List Expr} {t u : TT} (h : PTs X es t) (w : ∀ σ H Q, u σ H Q → t σ H Q) : PTs X es u := ⟨fun pins s σ H Q I q => h.run pins s σ H Q I (w σ H Q q)⟩
/-- run one, then go on -/
theorem Ge.go {K : Frag} {f : Fe} {σ : L2.St} {H : Hp} {Q : VK} {c : C3} {F : Hp} {env env' : En} {d : PyData} (R : Rl K c F σ H env) (e : f env = some (d, env')) (k : ∀ v F' H', Same F F' → Rl K c F' σ H' env' → Dp K F' v d → Q v H') : Ge K f σ H Q := ⟨c, F, env, d, env', R, e, k⟩
def eC (d : PyData) : Fe := fun env => some (d, env)
def eV (i : Nat) : Fe := fun env => match env[i]? with
  | some (.val d) => some (d, env)
  | _ => none
/-- the contents of a list that this def owns, as data: read at once -/
def e1 (g : PyData → Option PyData) (a : Fe) : Fe := fun env => (a env).bind fun p => (g p.1).map fun z => (z, p.2)
def e2 (g : PyData → PyData → Option PyData) (a b : Fe) : Fe := fun env => (a env).bind fun p => (b p.2).bind fun q => (g p.1 q.1).map fun z => (z, q.2)
def eA (g : List PyData → Option PyData) (a : Fl) : Fe := fun env => (a env).bind fun p => (g p.1).map fun z => (z, p.2)
def lNil : Fl := fun env => some ([], env)
def lCons (a : Fe) (b : Fl) : Fl := fun env => (a env).bind fun p => (b p.2).map fun q => (p.1 :: q.1, q.2)
section
variable {X : Cx} {a b e : Expr} {es : List Expr} {fa fb f : Fe} {pos : Pos}
theorem de_c {d : PyData} {v : V} (h : PE X e (tC v)) (hv : ∀ F, Dp X.K F v d) : PE X e (Ge X.K (eC d)) := h.imp fun σ H Q ⟨c, F, env, d', env', R, e, k⟩ => by
  cases e
  exact k v F H (Same.refl F) R (hv F)
theorem de_int {i j} : PE X (.Constant (.int i) j pos) (Ge X.K (eC (.int i))) := de_c pe_int fun _ => .int i
theorem de_bl {b j} : PE X (.Constant (.bool b) j pos) (Ge X.K (eC (.bool b))) := de_c pe_bl fun _ => .bl b
theorem de_non {j} : PE X (.Constant .none j pos) (Ge X.K (eC .none)) := de_c pe_non fun _ => .non
theorem de_v (i : Nat) {x : Str} (hN : X.N[i]? = some x := by rfl) (hv : Vis X.env.scope x := by first | exact Or.inl rfl | exact Or.inr (Or.inl rfl) | exact Or.inr (Or.inr rfl)) (hd : (x == ("__debug__" : Str)) = false := by decide)
    (hcd : (x == ("__classdict__" : Str)) = false := by decide) : PE X (.Name x pos) (Ge X.K (eV i)) := (pe_var hN hv hd hcd).imp fun σ H Q ⟨c, F, env, d, env', R, e, k⟩ => by
  unfold eV at e
  split at e
  · rename_i d' h
    cases e
    obtain ⟨v, e1, e2⟩ := R.val i _ h
    exact ⟨v, e1, k v F H (Same.refl F) R e2⟩
  · cases e
/-- an operation by values: it leaves the heap, or lays one new object -/
def Op1 (K : Frag) (r : V → Hp → VK → Prop) (g : PyData → Option PyData) : Prop := ∀ c F σ H env x d z (Q : VK), Rl K c F σ H env → Dp K F x d → g d = some z → (∀ v F' H', Same F F' → Rl K c F' σ H' env → Dp K F' v z → Q v H') → r x H Q
def Op2 (K : Frag) (r : R2) (g : PyData → PyData → Option PyData) : Prop := ∀ c F σ H env x y d e z (Q : VK), Rl K c F σ H env → Dp K F x d → Dp K F y e → g d e = some z → (∀ v F' H', Same F F' → Rl K c F' σ H' env → Dp K F' v z → Q v H') → r x y H Q
def OpA (K : Frag) (r : List V → Hp → VK → Prop) (g : List PyData → Option PyData) : Prop := ∀ c F σ H env xs ds z (Q : VK), Rl K c F σ H env → DpAll K F xs ds → g ds = some z → (∀ v F' H', Same F F' → Rl K c F' σ H' env → Dp K F' v z → Q v H') → r xs H Q
theorem go2 {K : Frag} {r : R2} {g : PyData → PyData → Option PyData} (o : Op2 K r g) {σ : L2.St} {H : Hp} {Q : VK} (h : Ge K (e2 g fa fb) σ H Q) : tOp r (Ge K fa) (Ge K fb) σ H Q := by
  obtain ⟨c, F, env, d, env', R, e, k⟩ := h
  unfold e2 at e
  simp only [Option.bind_eq_some_iff, Option.map_eq_some_iff] at e
  obtain ⟨⟨d1, n1⟩, h1, ⟨d2, n2⟩, h2, z, h3, h4⟩ := e
  obtain ⟨rfl, rfl⟩ := Prod.mk.inj h4
  refine ⟨c, F, env, d1, n1, R, h1, fun v1 F1 H1 s1 R1 p1 => ⟨c, F1, n1, d2, n2, R1, h2, fun v2 F2 H2 s2 R2 p2 => ?_⟩⟩
  exact o c F2 σ H2 n2 v1 v2 d1 d2 z Q R2 (p1.up s2) p2 h3 fun v F3 H3 s3 R3 p3 => k v F3 H3 ((s1.trans s2).trans s3) R3 p3
theorem go1 {K : Frag} {r : V → Hp → VK → Prop} {g : PyData → Option PyData} (o : Op1 K r g) {σ : L2.St} {H : Hp} {Q : VK} (h : Ge K (e1 g fa) σ H Q) : tUn r (Ge K fa) σ H Q := by
  obtain ⟨c, F, env, d, env', R, e, k⟩ := h
  unfold e1 at e
  simp only [Option.bind_eq_some_iff, Option.map_eq_some_iff] at e
  obtain ⟨⟨d1, n1⟩, h1, z, h3, h4⟩ := e
  obtain ⟨rfl, rfl⟩ := Prod.mk.inj h4
  refine ⟨c, F, env, d1, n1, R, h1, fun v1 F1 H1 s1 R1 p1 => ?_⟩
  exact o c F1 σ H1 n1 v1 d1 z Q R1 p1 h3 fun v F3 H3 s3 R3 p3 => k v F3 H3 (s1.trans s3) R3 p3
theorem goA {K : Frag} {r : List V → Hp → VK → Prop} {g : List PyData → Option PyData} {fl : Fl} (o : OpA K r g) {σ : L2.St} {H : Hp} {Q : VK} (h : Ge K (eA g fl) σ H Q) : tCB r (Ga K fl) σ H Q := by
  obtain ⟨c, F, env, d, env', R, e, k⟩ := h
  unfold eA at e
  simp only [Option.bind_eq_some_iff, Option.map_eq_some_iff] at e
  obtain ⟨⟨d1, n1⟩, h1, z, h3, h4⟩ := e
  obtain ⟨rfl, rfl⟩ := Prod.mk.inj h4
  refine ⟨c, F, env, d1, n1, R, h1, fun v1 F1 H1 s1 R1 p1 => ?_⟩
  exact o c F1 σ H1 n1 v1 d1 z Q R1 p1 h3 fun v F3 H3 s3 R3 p3 => k v F3 H3 (s1.trans s3) R3 p3
theorem da_nil : PA X [] (Ga X.K lNil) := pa_nil.imp fun σ H Q ⟨c, F, env, d, env', R, e, k⟩ => by
  cases e
  exact k [] F H (Same.refl F) R .nil
theorem da_cons {fl : Fl} (ha : PE X e (Ge X.K f)) (hr : PA X es (Ga X.K fl)) (hs : starEach (e :: es) X.env = (false, eval e X.env) :: starEach es X.env := by rfl) : PA X (e :: es) (Ga X.K (lCons f fl)) := (pa_cons ha hr hs).imp fun σ H Q h => by
  obtain ⟨c, F, env, d, env', R, e, k⟩ := h
  unfold lCons at e
  simp only [Option.bind_eq_some_iff, Option.map_eq_some_iff] at e
  obtain ⟨⟨d1, n1⟩, h1, ⟨d2, n2⟩, h2, h4⟩ := e
  obtain ⟨rfl, rfl⟩ := Prod.mk.inj h4
  refine ⟨c, F, env, d1, n1, R, h1, fun v1 F1 H1 s1 R1 p1 => ⟨c, F1, n1, d2, n2, R1, h2, fun v2 F2 H2 s2 R2 p2 => ?_⟩⟩
  exact k (v1 :: v2) F2 H2 (s1.trans s2) R2 (.cons (p1.up s2) p2)
theorem de_op {op : Operator} {r : R2} {g : PyData → PyData → Option PyData} (ho : OpR X (binaryOp op) r) (o : Op2 X.K r g) (ha : PE X a (Ge X.K fa)) (hb : PE X b (Ge X.K fb)) : PE X (.BinOp a op b pos) (Ge X.K (e2 g fa fb)) := (pe_op ho ha hb).imp fun _ _ _ h => go2 o h
theorem de_un {op : UnaryOp} {r : V → Hp → VK → Prop} {g : PyData → Option PyData} (ho : UnR X (unaryOp op) r) (o : Op1 X.K r g) (ha : PE X a (Ge X.K fa)) : PE X (.UnaryOp op a pos) (Ge X.K (e1 g fa)) := (pe_un ho ha).imp fun _ _ _ h => go1 o h
theorem de_cmp {op : CmpOp} {r : R2} {g : PyData → PyData → Option PyData} (ho : OpR X (compareOp op) r) (o : Op2 X.K r g) (ha : PE X a (Ge X.K fa)) (hb : PE X b (Ge X.K fb)) (hm : behindInMarks op b = false) : PE X (.Compare a [op] [b] pos) (Ge X.K (e2 g fa fb)) :=
  (pe_cmpR ho ha hb hm).imp fun _ _ _ h => go2 o h
theorem de_ix {r : R2} {g : PyData → PyData → Option PyData} (hr : IxR X r) (o : Op2 X.K r g) (ha : PE X a (Ge X.K fa)) (hb : PE X b (Ge X.K fb)) (hs : PlainIx b) : PE X (.Subscript a b pos) (Ge X.K (e2 g fa fb)) := (pe_ix hr ha hb hs).imp fun _ _ _ h => go2 o h
end
section
variable {K : Frag}
@[simp] def gI (f : Int → Int → PyData) (C : Int → Int → Bool) : PyData → PyData → Option PyData
  | .int i, .int j => if C i j then some (f i j) else none
  | _, _ => none
end
end Dn
set_option Elab.async false
set_option linter.all false
set_option maxRecDepth 100000
namespace Dn
open PySem PySem.Spec PyProof.Rows L2
open PySem.W (Frag)
variable [Tb]
/-- a rule of either of two -/
theorem OpR.or {X : Cx} {f : Value → Value → Sem Value} {r r' : R2} (h : OpR X f r) (h' : OpR X f r') : OpR X f (fun x y H Q => r x y H Q ∨ r' x y H Q) := by
  intro pins s σ H x y v u Q I rx ry q
  rcases q with q | q
  · exact h pins s σ H x y v u Q I rx ry q
  · exact h' pins s σ H x y v u Q I rx ry q
theorem CallR.or {X : Cx} {f : Value} {r r' : List V → Hp → VK → Prop} (h : CallR X f r) (h' : CallR X f r') : CallR X f (fun x H Q => r x H Q ∨ r' x H Q) := by
  intro pins s σ H x u Q I rx q
  rcases q with q | q
  · exact h pins s σ H x u Q I rx q
  · exact h' pins s σ H x u Q I rx q
/-- sizes of lists that a denotation lets by -/
def okN (n : Nat) : Bool := decide (n ≤ 1000000)
theorem okN_line {n : Nat} (h : okN n = true) : n ≤ sizeLine := Nat.le_trans (of_decide_eq_true h) (by decide)
theorem okN_lt {n : Nat} (h : okN n = true) : n < sizeLine := Nat.lt_of_le_of_lt (of_decide_eq_true h) (by decide)
theorem okN_of {n : Nat} (h : n ≤ 1000000) : okN n = true := decide_eq_true h
section
variable {X : Cx} {K : Frag}
def rCatG (K : Frag) : R2 := fun x y H Q => ∃ l b xs zs, x = .ref l ∧ y = .ref b ∧ SqL K H l xs ∧ SqL K H b zs ∧ xs.length + zs.length ≤ sizeLine ∧ ∀ p, H p = none → Q (.ref p) (upd H p (.lst (xs ++ zs)))
theorem op_catG : OpR X (binaryOp .Add) (rCatG X.K) := by
  intro pins s σ H x y v u Q I rx ry h
  obtain ⟨l, b, xs, zs, rfl, rfl, hH, hB, hz, q⟩ := h
  cases rx
  cases ry
  obtain ⟨its, r, ⟨⟨cls, dd, data, sl⟩, n, ho, hc, _, hd⟩, z1⟩ := I.list hH
  obtain ⟨its2, r2, ⟨⟨cls2, dd2, data2, sl2⟩, n2, ho2, hc2, _, hd2⟩, z2⟩ := I.list hB
  simp only at hc hd hc2 hd2
  subst hc hd hc2 hd2
  have l1 := r.length
  have l2 := r2.length
  have e : its.toArray ++ its2.toArray = (its ++ its2).toArray := by simp
  refine PySem.concat_meets ⟨_, ho, rfl⟩ ⟨_, ho2, rfl⟩ noFill_list_add seq_list_add PySem.F.slot_list_add PySem.F.entry_list_add (PySem.F.args_list_add_2 _ _) (list_addW l b its.toArray its2.toArray n n2 dd dd2 sl sl2 (by rw [List.size_toArray, List.size_toArray]; omega)) ⟨ho, ho2, ?_⟩
  rw [e]
  exact ⟨.ref _, _, I.lnew (t' := s.toks) (r.append r2) (by rw [List.length_append]; omega), rfl, q _ I.fresh⟩
def mulOk (i j : Int) : Bool := decide (i.natAbs.log2 + j.natAbs.log2 < 134000000)
theorem mulOk_ok {i j : Int} (h : mulOk i j = true) : IntMulOk i j := by
  have b : ∀ x : Int, Builtin.Int.intBits x ≤ x.natAbs.log2 + 1 := fun x => by
    unfold Builtin.Int.intBits
    split <;> omega
  have h1 := b i
  have h2 := b j
  have h3 : i.natAbs.log2 + j.natAbs.log2 < 134000000 := of_decide_eq_true h
  have e : bitsLine = 134217728 := by decide
  unfold IntMulOk
  intro z
  rw [Bool.and_eq_true] at z
  have z2 := z.2
  unfold Builtin.Int.intTooBig at z2
  have z3 := of_decide_eq_true z2
  rw [e] at z3
  omega
theorem op_mulG : OpR X (binaryOp .Mult) (rI (fun i j => mulOk i j = true) fun i j => .int (i * j)) := opI fun _ _ _ _ _ _ _ hc q => mul_int q (mulOk_ok hc)
def divOk (j : Int) : Bool := decide (j ≠ 0) && decide (j.natAbs.log2 < 9000)
/-- not far longer than the divisor (classical: never computed) -/
noncomputable def divNear (i j : Int) : Bool := @decide (j ≠ 0 ∧ i.natAbs.log2 < j.natAbs.log2 + 4400) (Classical.propDecidable _)
theorem noPy_near {x y : Int} (h0 : y ≠ 0) (h : x.natAbs.log2 < y.natAbs.log2 + 4400) : Builtin.divisionGoesByPylong x y = false := by
  have key : (if x == 0 then 0 else x.natAbs.log2 / 30 + 1) ≤ (if y == 0 then 0 else y.natAbs.log2 / 30 + 1) + 150 := by
    have e1 : (y == 0) = false := by simpa using h0
    rw [e1]
    by_cases hx : (x == 0) = true
    · rw [if_pos hx]; omega
    · rw [if_neg hx]
      show _ ≤ y.natAbs.log2 / 30 + 1 + 150
      omega
  show (_ && decide ((if x == 0 then 0 else x.natAbs.log2 / 30 + 1) > (if y == 0 then 0 else y.natAbs.log2 / 30 + 1) + 150)) = false
  rw [decide_eq_false (Nat.not_lt.mpr key), Bool.and_false]
theorem op_fdivG : OpR X (binaryOp .FloorDiv) (rI (fun i j => (divOk j || divNear i j) = true) fun i j => .int (i.fdiv j)) := opI fun i j _ _ _ _ _ hc q => by
  rw [Bool.or_eq_true] at hc
  rcases hc with hc | hc
  · unfold divOk at hc
    rw [Bool.and_eq_true] at hc
    exact floordiv_int (of_decide_eq_true hc.1) q (.inl (PyProof.noPylong_of_log2 (of_decide_eq_true hc.2)))
  · have hc' := @of_decide_eq_true _ (Classical.propDecidable _) hc
    exact floordiv_int hc'.1 q (.inl (noPy_near hc'.1 hc'.2))
/-- (in Nat: the kernel must not take a large literal apart) -/
def powOk (i n : Int) : Bool := decide (0 ≤ n) && decide ((i.natAbs.log2 + 1) * n.toNat ≤ 100000000)
theorem op_powG : OpR X (binaryOp .Pow) (rI (fun i n => powOk i n = true) fun i n => .int (i ^ n.toNat)) := opI fun i n _ _ _ _ _ hc q => by
  unfold powOk at hc
  rw [Bool.and_eq_true] at hc
  have h0 : 0 ≤ n := of_decide_eq_true hc.1
  have h1 : ((i.natAbs.log2 : Int) + 1) * n ≤ 100000000 := by
    have h2 : (i.natAbs.log2 + 1) * n.toNat ≤ 100000000 := of_decide_eq_true hc.2
    have h3 : (((i.natAbs.log2 + 1) * n.toNat : Nat) : Int) ≤ 100000000 := by omega
    rw [Int.natCast_mul, Int.toNat_of_nonneg h0] at h3
    exact h3
  have b : (Builtin.Int.intBits i : Int) ≤ (i.natAbs.log2 : Int) + 1 := by
    unfold Builtin.Int.intBits
    split <;> omega
  refine pow_int h0 ?_ q
  have h2 := Int.mul_le_mul_of_nonneg_right b h0
  have : (2 ^ 27 : Int) = 134217728 := by decide
  omega
@[simp] def gAdd : PyData → PyData → Option PyData
  | .int i, .int j => some (.int (i + j))
  | .list a, .list b => if okN (a.length + b.length) then some (.list (a ++ b)) else none
  | .tuple a, .tuple b => if okN (a.length + b.length) then some (.tuple (a ++ b)) else none
  | .str a, .str b => if okN (a.length + b.length) then some (.str (a ++ b)) else none
  | _, _ => none
def rAddG (K : Frag) : R2 := fun x y H Q => rI0 (fun i j => .int (i + j)) x y H Q ∨ rCatG K x y H Q ∨ rCatA K x y H Q ∨ (∃ i j, x = .str i ∧ y = .str j ∧ i.length + j.length ≤ sizeLine ∧ Q (.str (i ++ j)) H)
theorem op_addG : OpR X (binaryOp .Add) (rAddG X.K) := OpR.or op_add (OpR.or op_catG (OpR.or op_catA op_add_str))
theorem o2_add : Op2 K (rAddG K) gAdd := by
  intro c F σ H env x y d e z Q R hx hy h k
  unfold gAdd at h
  split at h
  · cases h; cases hx; cases hy
    exact .inl ⟨_, _, rfl, rfl, k _ F H (Same.refl F) R (.int _)⟩
  · rename_i a b
    split at h
    · rename_i hz
      cases h
      cases hx with
      | @lst a1 xs _ hs ha =>
        cases hy with
        | @lst a2 ys _ hs2 ha2 =>
          refine .inr (.inl ⟨a1, a2, xs, ys, rfl, rfl, R.sub.seq hs, R.sub.seq hs2, ?_, fun p hp => ?_⟩)
          · rw [ha.len, ha2.len]; exact okN_line hz
          · obtain ⟨sF, R'⟩ := R.laid (o := .lst (xs ++ ys)) hp
            exact k _ _ _ sF R' (.lst (SqL.of upd_same) ((ha.app ha2).up sF))
    · cases h
  · rename_i a b
    split at h
    · rename_i hz
      cases h
      cases hx with
      | @tup a1 xs _ hs ha =>
        cases hy with
        | @tup a2 ys _ hs2 ha2 =>
          refine .inr (.inr (.inl ⟨a1, a2, xs, ys, rfl, rfl, sqT_mono R.sub hs, sqT_mono R.sub hs2, ?_, fun e => ?_, fun e e' => ?_, fun _ _ p hp => ?_⟩))
          · rw [ha.len, ha2.len]; exact okN_line hz
          · subst e
            cases ha
            exact k _ F H (Same.refl F) R (.tup hs2 ha2)
          · subst e'
            cases ha2
            exact k _ F H (Same.refl F) R (.tup hs (by rw [List.append_nil]; exact ha))
          · obtain ⟨sF, R'⟩ := R.laid (o := .tup (xs ++ ys)) hp
            exact k _ _ _ sF R' (.tup (SqT.of upd_same) ((ha.app ha2).up sF))
    · cases h
  · rename_i a b
    split at h
    · rename_i hz
      cases h; cases hx; cases hy
      exact .inr (.inr (.inr ⟨a, b, rfl, rfl, okN_line hz, k _ F H (Same.refl F) R (.str _)⟩))
    · cases h
  · cases h
@[simp] def gSub : PyData → PyData → Option PyData
  | .int i, .int j => some (.int (i - j))
  | _, _ => none
theorem o2_sub : Op2 K (rI0 fun i j => .int (i - j)) gSub := by
  intro c F σ H env x y d e z Q R hx hy h k
  unfold gSub at h
  split at h
  · cases h; cases hx; cases hy
    exact ⟨_, _, rfl, rfl, k _ F H (Same.refl F) R (.int _)⟩
  · cases h
@[simp] def gMulI : PyData → PyData → Option PyData
  | .int i, .int j => if mulOk i j then some (.int (i * j)) else none
  | _, _ => none
theorem o2_mulI : Op2 K (rI (fun i j => mulOk i j = true) fun i j => .int (i * j)) gMulI := by
  intro c F σ H env x y d e z Q R hx hy h k
  unfold gMulI at h
  split at h
  · split at h
    · cases h; cases hx; cases hy
      exact ⟨_, _, rfl, rfl, by assumption, k _ F H (Same.refl F) R (.int _)⟩
    · cases h
  · cases h
@[simp] noncomputable def gFdiv : PyData → PyData → Option PyData
  | .int i, .int j => if divOk j || divNear i j then some (.int (i.fdiv j)) else none
  | _, _ => none
theorem o2_fdiv : Op2 K (rI (fun i j => (divOk j || divNear i j) = true) fun i j => .int (i.fdiv j)) gFdiv := by
  intro c F σ H env x y d e z Q R hx hy h k
  unfold gFdiv at h
  split at h
  · split at h
    · cases h; cases hx; cases hy
      exact ⟨_, _, rfl, rfl, by assumption, k _ F H (Same.refl F) R (.int _)⟩
    · cases h
  · cases h
@[simp] def gMod : PyData → PyData → Option PyData
  | .int i, .int j => if j ≠ 0 then some (.int (i.fmod j)) else none
  | _, _ => none
theorem o2_mod : Op2 K (rI (fun _ j => j ≠ 0) fun i j => .int (i.fmod j)) gMod := by
  intro c F σ H env x y d e z Q R hx hy h k
  unfold gMod at h
  split at h
  · split at h
    · cases h; cases hx; cases hy
      exact ⟨_, _, rfl, rfl, by assumption, k _ F H (Same.refl F) R (.int _)⟩
    · cases h
  · cases h
@[simp] def gPow : PyData → PyData → Option PyData
  | .int i, .int j => if powOk i j then some (.int (i ^ j.toNat)) else none
  | _, _ => none
theorem o2_pow : Op2 K (rI (fun i n => powOk i n = true) fun i n => .int (i ^ n.toNat)) gPow := by
  intro c F σ H env x y d e z Q R hx hy h k
  unfold gPow at h
  split at h
  · split at h
    · cases h; cases hx; cases hy
      exact ⟨_, _, rfl, rfl, by assumption, k _ F H (Same.refl F) R (.int _)⟩
    · cases h
  · cases h
@[simp] def gNeg : PyData → Option PyData
  | .int i => some (.int (-i))
  | _ => none
theorem o1_neg : Op1 K (rU fun i => .int (-i)) gNeg := by
  intro c F σ H env x d z Q R hx h k
  unfold gNeg at h
  split at h
  · cases h; cases hx
    exact ⟨_, rfl, k _ F H (Same.refl F) R (.int _)⟩
  · cases h
@[simp] def gEq : PyData → PyData → Option PyData
  | .int i, .int j => some (.bool (decide (i = j)))
  | d, e => if SeqAt.shaped d && SeqAt.shaped e then some (.bool (PyData.eqv d e)) else none
@[simp] def gNe : PyData → PyData → Option PyData
  | .int i, .int j => some (.bool (!decide (i = j)))
  | d, e => if SeqAt.shaped d && SeqAt.shaped e then some (.bool (!PyData.eqv d e)) else none
theorem eqv_int (i j : Int) : PyData.eqv (.int i) (.int j) = decide (i = j) := by
  simp only [PyData.eqv, Bool.beq_eq_decide_eq]
theorem shaped_int (i : Int) : SeqAt.shaped (.int i) = true := by
  simp [SeqAt.shaped, PyData.canLay0, PyData.depth]
theorem o2_eq : Op2 K (rEqD K) gEq := by
  intro c F σ H env x y d e z Q R hx hy h k
  unfold gEq at h
  split at h
  · cases h
    exact ⟨_, _, (hx.up R.sub).sh (shaped_int _), (hy.up R.sub).sh (shaped_int _), shaped_int _, shaped_int _, by rw [eqv_int]; exact k _ F H (Same.refl F) R (.bl _)⟩
  · split at h
    · rename_i hs
      cases h
      rw [Bool.and_eq_true] at hs
      exact ⟨_, _, (hx.up R.sub).sh hs.1, (hy.up R.sub).sh hs.2, hs.1, hs.2, k _ F H (Same.refl F) R (.bl _)⟩
    · cases h
theorem o2_ne : Op2 K (rNeD K) gNe := by
  intro c F σ H env x y d e z Q R hx hy h k
  unfold gNe at h
  split at h
  · cases h
    exact ⟨_, _, (hx.up R.sub).sh (shaped_int _), (hy.up R.sub).sh (shaped_int _), shaped_int _, shaped_int _, by rw [eqv_int]; exact k _ F H (Same.refl F) R (.bl _)⟩
  · split at h
    · rename_i hs
      cases h
      rw [Bool.and_eq_true] at hs
      exact ⟨_, _, (hx.up R.sub).sh hs.1, (hy.up R.sub).sh hs.2, hs.1, hs.2, k _ F H (Same.refl F) R (.bl _)⟩
    · cases h
@[simp] def gB (f : Int → Int → Bool) : PyData → PyData → Option PyData
  | .int i, .int j => some (.bool (f i j))
  | _, _ => none
theorem o2_B {f : Int → Int → Bool} : Op2 K (rI0 fun i j => .bl (f i j)) (gB f) := by
  intro c F σ H env x y d e z Q R hx hy h k
  unfold gB at h
  split at h
  · cases h; cases hx; cases hy
    exact ⟨_, _, rfl, rfl, k _ F H (Same.refl F) R (.bl _)⟩
  · cases h
abbrev gLt := gB fun i j => decide (i < j)
abbrev gLe := gB fun i j => decide (i ≤ j)
abbrev gGt := gB fun i j => decide (j < i)
abbrev gGe := gB fun i j => decide (j ≤ i)
/-- x is None: the right side is written -/
@[simp] def isNone : PyData → Bool
  | .none => true
  | _ => false
@[simp] def gIsN (d _e : PyData) : Option PyData := some (.bool (isNone d))
@[simp] def gNotN (d _e : PyData) : Option PyData := some (.bool (!isNone d))
theorem isNone_v {F : Hp} {v : V} {d : PyData} (h : Dp K F v d) : decide (v = .non) = isNone d := by
  cases h <;> simp
@[simp] def gIx : PyData → PyData → Option PyData
  | .list ds, .int i => atI ds i
  | .tuple ds, .int i => atI ds i
  | _, _ => none
theorem atI_dp {F : Hp} {vs : List V} {ds : List PyData} {i : Int} {d : PyData} (h : DpAll K F vs ds) (e : atI ds i = some d) : ∃ v, atI vs i = some v ∧ Dp K F v d := by
  unfold atI at e ⊢
  rw [h.len]
  cases hj : ixN ds.length i with
  | none => rw [hj] at e; cases e
  | some j =>
    rw [hj] at e
    exact h.at e
theorem o2_ix : Op2 K (rIx K) gIx := by
  intro c F σ H env x y d e z Q R hx hy h k
  unfold gIx at h
  split at h
  · cases hy
    cases hx with
    | lst hs ha =>
      obtain ⟨v, h1, h2⟩ := atI_dp ha h
      exact .inl ⟨_, _, _, v, rfl, rfl, R.sub.seq hs, h1, k _ F H (Same.refl F) R h2⟩
  · cases hy
    cases hx with
    | tup hs ha =>
      obtain ⟨v, h1, h2⟩ := atI_dp ha h
      exact .inr (.inl ⟨_, _, _, v, rfl, rfl, sqT_mono R.sub hs, h1, k _ F H (Same.refl F) R h2⟩)
  · cases h
@[simp] def gLen : List PyData → Option PyData
  | [.list ds] => some (.int ds.length)
  | [.tuple ds] => some (.int ds.length)
  | [.str z] => if okN z.length then some (.int z.length) else none
  | _ => none
def rLenG (K : Frag) : List V → Hp → VK → Prop := fun xs H Q => (∃ p ys, xs = [.ref p] ∧ (SqL K H p ys ∨ SqT K H p ys) ∧ Q (.int ys.length) H) ∨ (∃ z, xs = [.str z] ∧ z.length ≤ sizeLine ∧ Q (.int z.length) H)
theorem call_lenG : CallR X (.builtin "len") (rLenG X.K) := CallR.or call_len_seq call_len_str
theorem oA_len : OpA K (rLenG K) gLen := by
  intro c F σ H env xs ds z Q R hx h k
  unfold gLen at h
  split at h
  · cases h
    cases hx with
    | cons h1 h2 =>
      cases h2
      cases h1 with
      | lst hs ha =>
        refine .inl ⟨_, _, rfl, .inl (R.sub.seq hs), ?_⟩
        rw [ha.len]
        exact k _ F H (Same.refl F) R (.int _)
  · cases h
    cases hx with
    | cons h1 h2 =>
      cases h2
      cases h1 with
      | tup hs ha =>
        refine .inl ⟨_, _, rfl, .inr (sqT_mono R.sub hs), ?_⟩
        rw [ha.len]
        exact k _ F H (Same.refl F) R (.int _)
  · split at h
    · rename_i hz
      cases h
      cases hx with
      | cons h1 h2 =>
        cases h2
        cases h1
        exact .inr ⟨_, rfl, okN_line hz, k _ F H (Same.refl F) R (.int _)⟩
    · cases h
  · cases h
@[simp] def gAbs : List PyData → Option PyData
  | [.int i] => some (.int (if i < 0 then -i else i))
  | _ => none
@[simp] def gMax2 : List PyData → Option PyData
  | [.int i, .int j] => some (.int (if j > i then j else i))
  | _ => none
@[simp] def gMin2 : List PyData → Option PyData
  | [.int i, .int j] => some (.int (if j < i then j else i))
  | _ => none
theorem oA_max2 : OpA K (fun xs H Q => ∃ i j, xs = [.int i, .int j] ∧ Q (.int (if j > i then j else i)) H) gMax2 := by
  intro c F σ H env xs ds z Q R hx h k
  unfold gMax2 at h
  split at h
  · cases h
    cases hx with
    | cons h1 h2 =>
      cases h2 with
      | cons h2 h3 =>
        cases h3; cases h1; cases h2
        exact ⟨_, _, rfl, k _ F H (Same.refl F) R (.int _)⟩
  · cases h
theorem oA_min2 : OpA K (fun xs H Q => ∃ i j, xs = [.int i, .int j] ∧ Q (.int (if j < i then j else i)) H) gMin2 := by
  intro c F σ H env xs ds z Q R hx h k
  unfold gMin2 at h
  split at h
  · cases h
    cases hx with
    | cons h1 h2 =>
      cases h2 with
      | cons h2 h3 =>
        cases h3; cases h1; cases h2
        exact ⟨_, _, rfl, k _ F H (Same.refl F) R (.int _)⟩
  · cases h
@[simp] def gInt : List PyData → Option PyData
  | [.int i] => some (.int i)
  | [.bool b] => some (.int (if b then 1 else 0))
  | _ => none
theorem oA_int : OpA K (fun xs H Q => (∃ i, xs = [.int i] ∧ Q (.int i) H) ∨ ∃ k, xs = [.bl k] ∧ Q (.int (if k then 1 else 0)) H) gInt := by
  intro c F σ H env xs ds z Q R hx h k
  unfold gInt at h
  split at h
  · cases h
    cases hx with
    | cons h1 h2 =>
      cases h2; cases h1
      exact .inl ⟨_, rfl, k _ F H (Same.refl F) R (.int _)⟩
  · cases h
    cases hx with
    | cons h1 h2 =>
      cases h2; cases h1
      exact .inr ⟨_, rfl, k _ F H (Same.refl F) R (.int _)⟩
  · cases h
@[simp] def gStrI : List PyData → Option PyData
  | [.int i] => if decide (i.natAbs.log2 < 1920) then some (.str (toString i : String)) else none
  | _ => none
@[simp] def gGcd : List PyData → Option PyData
  | [.int i, .int j] => some (.int ((Nat.gcd i.natAbs j.natAbs : Nat) : Int))
  | _ => none
theorem oA_gcd : OpA K rGcd gGcd := by
  intro c F σ H env xs ds z Q R hx h k
  unfold gGcd at h
  split at h
  · cases h
    cases hx with
    | cons h1 h2 =>
      cases h2 with
      | cons h2 h3 =>
        cases h3; cases h1; cases h2
        exact ⟨_, _, rfl, k _ F H (Same.refl F) R (.int _)⟩
  · cases h
def lcmOk (i j : Int) : Bool := decide (i.natAbs < 2 ^ 6000) && decide (j.natAbs < 2 ^ 6000)
def rLcm : List V → Hp → VK → Prop := fun vs H Q => ∃ a b : Int, vs = [.int a, .int b] ∧ lcmOk a b = true ∧ Q (.int ((Nat.lcm a.natAbs b.natAbs : Nat) : Int)) H
theorem log_lt {n k : Nat} (h : n < 2 ^ (k + 1)) : n.log2 ≤ k := PySem.W.mg_log h
theorem cr_lcm : CallR X (.builtin "math.lcm") rLcm := by
  intro pins s σ H vs us Q I r h
  obtain ⟨a, b, rfl, hok, q⟩ := h
  obtain ⟨t, u, rfl⟩ := Vals.int2 r
  unfold lcmOk at hok
  rw [Bool.and_eq_true] at hok
  have ha : a.natAbs < 2 ^ 6000 := of_decide_eq_true hok.1
  have hb : b.natAbs < 2 ^ 6000 := of_decide_eq_true hok.2
  have p1 : (1 : Nat) < 2 ^ 6000 := Nat.one_lt_two_pow (by decide)
  have h1 : (max 1 a.natAbs).log2 ≤ 5999 := log_lt (by show max 1 a.natAbs < 2 ^ 6000; omega)
  have h2 : (max a.natAbs b.natAbs).log2 ≤ 5999 := log_lt (by show max a.natAbs b.natAbs < 2 ^ 6000; omega)
  have hl : a.natAbs.lcm b.natAbs < 2 ^ 12001 := by
    have e1 : a.natAbs.lcm b.natAbs ≤ a.natAbs * b.natAbs := Nat.div_le_self _ _
    have e2 : a.natAbs * b.natAbs ≤ 2 ^ 6000 * 2 ^ 6000 := Nat.mul_le_mul (Nat.le_of_lt ha) (Nat.le_of_lt hb)
    rw [← Nat.pow_add] at e2
    have e3 : (2 : Nat) ^ (6000 + 6000) < 2 ^ 12001 := Nat.pow_lt_pow_right (by decide) (by decide)
    omega
  have h3 : (a.natAbs.lcm b.natAbs).log2 ≤ 12000 := log_lt hl
  have e : bitsLine = 134217728 := by decide
  refine PySem.call_function_meets PySem.W.MGF.kind_lcm PySem.W.MGF.plain_lcm PySem.W.MGF.entry_lcm (PySem.W.MGF.args_lcm _ _) (PySem.W.mg_run_lcm a t b u (by omega) (by omega) ?_).meets ?_
  · rw [PySem.W.mc_lcm_one, e]
    show (a.natAbs.lcm b.natAbs).log2 < _
    omega
  · rw [PySem.W.mc_lcm_one]
    exact ⟨.int _, H, I.tok _, ⟨_, rfl⟩, q⟩
@[simp] def gLcm : List PyData → Option PyData
  | [.int i, .int j] => if lcmOk i j then some (.int ((Nat.lcm i.natAbs j.natAbs : Nat) : Int)) else none
  | _ => none
theorem oA_lcm : OpA K rLcm gLcm := by
  intro c F σ H env xs ds z Q R hx h k
  unfold gLcm at h
  split at h
  · split at h
    · cases h
      cases hx with
      | cons h1 h2 =>
        cases h2 with
        | cons h2 h3 =>
          cases h3; cases h1; cases h2
          exact ⟨_, _, rfl, by assumption, k _ F H (Same.refl F) R (.int _)⟩
    · cases h
  · cases h
/-- all ints of a list, if all are -/
def intsOf : List PyData → Option (List Int)
  | [] => some []
  | .int i :: ds => (intsOf ds).map (i :: ·)
  | _ :: _ => none
theorem intsOf_map : ∀ ns : List Int, intsOf (ns.map .int) = some ns
  | [] => rfl
  | n :: ns => by simp [intsOf, intsOf_map ns]
theorem intsOf_inv : ∀ {ds : List PyData} {ns : List Int}, intsOf ds = some ns → ds = ns.map .int
  | [], ns, h => by simp [intsOf] at h; subst h; rfl
  | d :: ds, ns, h => by
    cases d <;> simp [intsOf] at h
    obtain ⟨m, h1, h2⟩ := h
    subst h2
    rw [intsOf_inv h1]
    rfl
def boolsOf : List PyData → Option (List Bool)
  | [] => some []
  | .bool i :: ds => (boolsOf ds).map (i :: ·)
  | _ :: _ => none
@[simp] def gSum : List PyData → Option PyData
  | [.list ds] => (intsOf ds).map fun ns => .int ns.sum
  | _ => none
theorem oA_sum : OpA K (rSum K) gSum := by
  intro c F σ H env xs ds z Q R hx h k
  unfold gSum at h
  split at h
  · simp only [Option.map_eq_some_iff] at h
    obtain ⟨ns, h1, rfl⟩ := h
    cases hx with
    | cons h2 h3 =>
      cases h3
      cases h2 with
      | lst hs ha =>
        rw [intsOf_inv h1] at ha
        have e := ha.ints
        subst e
        exact ⟨_, ns, rfl, R.sub.seq hs, k _ F H (Same.refl F) R (.int _)⟩
  · cases h
@[simp] def gAll : List PyData → Option PyData
  | [.list ds] => (boolsOf ds).map fun bs => .bool (bs.all id)
  | _ => none
@[simp] def gAny : List PyData → Option PyData
  | [.list ds] => (boolsOf ds).map fun bs => .bool (bs.any id)
  | _ => none
@[simp] def gTup : List PyData → Option PyData
  | [.list ds] => some (.tuple ds)
  | [.tuple ds] => some (.tuple ds)
  | _ => none
theorem oA_tup : OpA K (fun xs H Q => ∃ p ys, xs = [.ref p] ∧ ((SqL K H p ys ∧ ∀ l, H l = none → Q (.ref l) (upd H l (.tup ys))) ∨ (SqT K H p ys ∧ Q (.ref p) H))) gTup := by
  intro c F σ H env xs ds z Q R hx h k
  unfold gTup at h
  split at h
  · cases h
    cases hx with
    | cons h1 h2 =>
      cases h2
      cases h1 with
      | @lst a ys _ hs ha =>
        refine ⟨a, ys, rfl, .inl ⟨R.sub.seq hs, fun l hl => ?_⟩⟩
        obtain ⟨sF, R'⟩ := R.laid (o := .tup ys) hl
        exact k _ _ _ sF R' (.tup (SqT.of upd_same) (ha.up sF))
  · cases h
    cases hx with
    | cons h1 h2 =>
      cases h2
      cases h1 with
      | @tup a ys _ hs ha => exact ⟨a, ys, rfl, .inr ⟨sqT_mono R.sub hs, k _ F H (Same.refl F) R (.tup hs ha)⟩⟩
  · cases h
/-- isinstance(x, T) of data, T a built-in type -/
@[simp] def isT (T : String) : PyData → Bool
  | .none => T == "NoneType" || T == "object"
  | .bool _ => T == "bool" || T == "int" || T == "object"
  | .int _ => T == "int" || T == "object"
  | .str _ => T == "str" || T == "object"
  | .list _ => T == "list" || T == "object"
  | .tuple _ => T == "tuple" || T == "object"
  | .dict _ => T == "dict" || T == "object"
def tyN : PyData → String
  | .none => "NoneType"
  | .bool _ => "bool"
  | .int _ => "int"
  | .str _ => "str"
  | .list _ => "list"
  | .tuple _ => "tuple"
  | .dict _ => "dict"
/-- what is no caught error -/
@[simp] def tyOk : PyData → Bool
  | .dict ((.none, _) :: _) => false
  | _ => true
@[simp] theorem tyOk_tuple {d : PyData} (h : isT "tuple" d = true) : tyOk d = true := by
  cases d <;> first | rfl | (exfalso; revert h; simp only [isT]; decide)
@[simp] theorem tyOk_list {d : PyData} (h : isT "list" d = true) : tyOk d = true := by
  cases d <;> first | rfl | (exfalso; revert h; simp only [isT]; decide)
theorem tyX_of {F H : Hp} (e : Same F H) {v : V} {d : PyData} (h : Dp K F v d) (hk : tyOk d = true) : TyX K H v (.type (tyN d)) := by
  cases h with
  | dct hs _ => exact .fDict (e _ _ hs)
  | exc _ _ _ => cases hk
  | rng _ => cases hk
  | non => exact .base .non
  | bl b => exact .base (.bl b)
  | int i => exact .base (.int i)
  | str x => exact .base (.str x)
  | lst hs ha =>
    rcases e.seq hs with (h | ⟨o, h⟩) | ⟨o, its, n, h1, h2, _⟩
    · exact .base (.lst h)
    · exact .base (.frz h)
    · exact .kList h1 h2
  | tup hs ha =>
    rcases sqT_mono e hs with (h | ⟨o, h⟩) | ⟨o, its, n, h1, h2, _⟩
    · exact .base (.tup h)
    · exact .fTuple h
    · exact .kTuple h1 h2
/-- T's answers, by the library's own table -/
def IsTOk (T : String) : Prop := ∀ d : PyData, kitB (tyN d) T = some (isT T d)
theorem isT_int : IsTOk "int" := fun d => by cases d <;> (simp only [tyN, isT]; decide +kernel)
theorem isT_bool : IsTOk "bool" := fun d => by cases d <;> (simp only [tyN, isT]; decide +kernel)
theorem isT_tuple : IsTOk "tuple" := fun d => by cases d <;> (simp only [tyN, isT]; decide +kernel)
end
end Dn
set_option Elab.async false
set_option linter.all false
set_option maxRecDepth 100000
namespace Dn
open PySem PySem.Spec PyProof.Rows L2
open PySem.W (Frag)
variable [Tb]
section
variable {K : Frag} {c : C3} {F F' H H' : Hp} {σ : L2.St} {env env' : En}
theorem get_set_ne {α : Type} {l : List α} {i j : Nat} {a : α} (h : i ≠ j) : (l.set i a)[j]? = l[j]? := List.getElem?_set_ne h
theorem get_set_self {α : Type} {l : List α} {i : Nat} {a b : α} (h : (l.set i a)[i]? = some b) : b = a := by
  rw [List.getElem?_set] at h
  rw [if_pos rfl] at h
  split at h
  · exact (Option.some.inj h).symm
  · cases h
theorem lt_of_set {α : Type} {l : List α} {i : Nat} {a b : α} (h : (l.set i a)[i]? = some b) : i < l.length := by
  have := (List.getElem?_eq_some_iff.mp h).1
  simpa using this
/-- a slot takes data -/
theorem Rl.put {v : V} {d : PyData} (R : Rl K c F σ H env) (h : Dp K F v d) (i : Nat) : Rl K c F (σ.set i (some v)) H (env.set i (.val d)) := by
  refine ⟨R.sub, R.f0, R.gd, R.g0, R.new, R.dom, by simp [R.len], fun j e hj => ?_, fun j p ds hj => ?_, R.tab, R.nf, R.ng⟩
  · by_cases hij : i = j
    · subst hij
      have := get_set_self hj
      cases this
      have hi := lt_of_set hj
      exact ⟨v, by rw [List.getElem?_set_self (by rw [← R.len]; exact hi)], h⟩
    · rw [get_set_ne hij] at hj
      obtain ⟨u, h1, h2⟩ := R.val j e hj
      exact ⟨u, by rw [get_set_ne hij]; exact h1, h2⟩
  · by_cases hij : i = j
    · subst hij
      cases get_set_self hj
    · rw [get_set_ne hij] at hj
      obtain ⟨a, xs, e1, e2, e3, e4, e5, e6, e7⟩ := R.own j p ds hj
      refine ⟨a, xs, by rw [get_set_ne hij]; exact e1, e2, e3, e4, e5, e6, fun k q es hk hq => ?_⟩
      by_cases hik : i = k
      · subst hik
        cases get_set_self hq
      · rw [get_set_ne hik] at hq ⊢
        exact e7 k q es hk hq
/-- a slot takes a list that is new, and owns it -/
theorem Rl.putOwn {p : Addr} {xs : List V} {ds : List PyData} (R : Rl K c F σ H env) (hp : H p = none) (h : DpAll K F xs ds) (i : Nat) : Rl K c F (σ.set i (some (.ref p))) (upd H p (.lst xs)) (env.set i (.own false ds)) := by
  have R1 := R.grow (o := .lst xs) hp
  have hF : F p = none := R.sub.free hp
  refine ⟨R1.sub, R1.f0, R1.gd, R1.g0, R1.new, R1.dom, by simp [R.len], fun j e hj => ?_, fun j q es hj => ?_, R1.tab, R1.nf, R1.ng⟩
  · by_cases hij : i = j
    · subst hij
      cases get_set_self hj
    · rw [get_set_ne hij] at hj
      obtain ⟨u, h1, h2⟩ := R.val j e hj
      exact ⟨u, by rw [get_set_ne hij]; exact h1, h2⟩
  · have other : ∀ (k : Nat) (q : Bool) (es : List PyData) (a : Addr), env[k]? = some (.own q es) → σ[k]? = some (some (.ref a)) → a ≠ p := fun k q es a h1 h2 => by
      obtain ⟨a', ys, e1, e2, e3, _⟩ := R.own k q es h1
      rw [h2] at e1
      cases e1
      exact ne_of_none e3 hp
    by_cases hij : i = j
    · subst hij
      have := get_set_self hj
      cases this
      have hi := lt_of_set hj
      refine ⟨p, xs, by rw [List.getElem?_set_self (by rw [← R.len]; exact hi)], hF, upd_same, h, R.gn hp, ?_, fun k q es hk hq => ?_⟩
      · exact R.h0 hp
      · have hik : i ≠ k := fun z => hk z.symm
        rw [get_set_ne hik] at hq ⊢
        intro z
        exact other k q es p hq z rfl
    · rw [get_set_ne hij] at hj
      obtain ⟨a, ys, e1, e2, e3, e4, e5, e6, e7⟩ := R1.own j q es hj
      have ap := other j q es a hj e1
      refine ⟨a, ys, by rw [get_set_ne hij]; exact e1, e2, e3, e4, e5, e6, fun k q es hk hq => ?_⟩
      by_cases hik : i = k
      · subst hik
        have := get_set_self hq
        cases this
        have hi := lt_of_set hq
        rw [List.getElem?_set_self (by rw [← R.len]; exact hi)]
        intro z
        cases z
        exact ap rfl
      · rw [get_set_ne hik] at hq ⊢
        exact e7 k q es hk hq
/-- the contents of an owned list change -/
theorem Rl.write {p : Bool} {ds es : List PyData} {i : Nat} {a : Addr} {ys : List V} (R : Rl K c F σ H env) (hi : env[i]? = some (.own p ds)) (ha : σ[i]? = some (some (.ref a))) (h : DpAll K F ys es) : Rl K c F σ (upd H a (.lst ys)) (env.set i (.own p es)) := by
  obtain ⟨a', xs, e1, e2, e3, e4, e5, e6, e7⟩ := R.own i p ds hi
  rw [ha] at e1
  cases e1
  refine ⟨fun b u e => ?_, R.f0, fun b u e => ?_, R.g0, R.new, fun b hb => ?_, by simp [R.len], fun j e hj => ?_, fun j q fs hj => ?_, tabs_wr R.tab e3, R.nf, R.ng⟩
  · rw [upd_ne (ne_of_none e e2)]; exact R.sub b u e
  · rw [upd_ne (ne_of_none e e5)]; exact R.gd b u e
  · by_cases hba : b = a
    · subst hba; rw [upd_same]; simp
    · rw [upd_ne hba]; exact R.dom b hb
  · by_cases hij : i = j
    · subst hij
      cases get_set_self hj
    · rw [get_set_ne hij] at hj
      exact R.val j e hj
  · by_cases hij : i = j
    · subst hij
      have := get_set_self hj
      cases this
      refine ⟨a, ys, ha, e2, upd_same, h, e5, e6, fun k q es hk hq => ?_⟩
      have hik : i ≠ k := fun z => hk z.symm
      rw [get_set_ne hik] at hq
      exact e7 k q es hk hq
    · rw [get_set_ne hij] at hj
      obtain ⟨b, zs, f1, f2, f3, f4, f5, f6, f7⟩ := R.own j q fs hj
      have hne : b ≠ a := fun z => by
        subst z
        exact e7 j q fs (fun z => hij z.symm) hj f1
      refine ⟨b, zs, f1, f2, by rw [upd_ne hne]; exact f3, f4, f5, f6, fun k q es hk hq => ?_⟩
      by_cases hik : i = k
      · subst hik
        rw [ha]
        intro z
        cases z
        exact hne rfl
      · rw [get_set_ne hik] at hq
        exact f7 k q es hk hq
/-- an owned list of this def's own becomes data for good -/
theorem Rl.freeze {ds : List PyData} {i : Nat} (R : Rl K c F σ H env) (hi : env[i]? = some (.own false ds)) : ∃ F', Same F F' ∧ Rl K c F' σ H (env.set i (.val (.list ds))) := by
  obtain ⟨a, xs, e1, e2, e3, e4, e5, e6, e7⟩ := R.own i false ds hi
  have e6' : c.H0 a = none := e6
  have sF : Same F (upd F a (.lst xs)) := fun b u e => by rw [upd_ne (ne_of_none e e2)]; exact e
  refine ⟨upd F a (.lst xs), sF, ⟨fun b u e => ?_, R.f0.trans sF, R.gd, R.g0, fun b hb => ?_, R.dom, by simp [R.len], fun j e hj => ?_, fun j q fs hj => ?_, R.tab, R.nf.upd NT.lst, R.ng⟩⟩
  · by_cases hba : b = a
    · subst hba; rw [upd_same] at e; cases e; exact e3
    · rw [upd_ne hba] at e; exact R.sub b u e
  · by_cases hba : b = a
    · subst hba; exact .inr e6'
    · rw [upd_ne hba] at hb; exact R.new b hb
  · by_cases hij : i = j
    · subst hij
      have := get_set_self hj
      cases this
      exact ⟨.ref a, e1, .lst (SqL.of upd_same) (e4.up sF)⟩
    · rw [get_set_ne hij] at hj
      obtain ⟨u, h1, h2⟩ := R.val j e hj
      exact ⟨u, h1, h2.up sF⟩
  · by_cases hij : i = j
    · subst hij
      cases get_set_self hj
    · rw [get_set_ne hij] at hj
      obtain ⟨b, zs, f1, f2, f3, f4, f5, f6, f7⟩ := R.own j q fs hj
      have hne : b ≠ a := fun z => by
        subst z
        exact e7 j q fs (fun z => hij z.symm) hj f1
      refine ⟨b, zs, f1, by rw [upd_ne hne]; exact f2, f3, f4.up sF, f5, f6, fun k q es hk hq => ?_⟩
      by_cases hik : i = k
      · subst hik
        cases get_set_self hq
      · rw [get_set_ne hik] at hq
        exact f7 k q es hk hq
/-- an object that nothing knows is watched: it stays while other things run -/
def wat (c : C3) (p : Addr) (o : HO) : C3 := { c with H0 := upd c.H0 p o, G := upd c.G p o }
theorem Rl.watch' {p : Addr} {o : HO} (R : Rl K c F σ H env) (hp : H p = none) (ho : NT o := by intro _ h; cases h) : Rl K (wat c p o) F σ (upd H p o) env := by
  have R1 := R.grow (o := o) hp
  have hF : F p = none := R.sub.free hp
  refine ⟨R1.sub, R1.f0, fun b u e => ?_, fun b u e => ?_, fun b hb => ?_, fun b hb => ?_, R1.len, R1.val, fun i q ds h => ?_, R1.tab, R1.nf, R.ng.upd ho⟩
  · by_cases hbp : b = p
    · subst hbp
      rw [upd_same]
      exact (show upd c.G b o b = some u from e) ▸ upd_same.symm
    · have e' : c.G b = some u := by
        rw [← upd_ne (H := c.G) (o := o) hbp]; exact e
      rw [upd_ne hbp]
      exact R.gd b u e'
  · by_cases hbp : b = p
    · subst hbp
      have e' : upd c.G b o b = some u := e
      rw [upd_same] at e'
      show upd c.H0 b o b = some u
      rw [upd_same]; exact e'
    · have e' : upd c.G p o b = some u := e
      rw [upd_ne hbp] at e'
      show upd c.H0 p o b = some u
      rw [upd_ne hbp]; exact R.g0 b u e'
  · have hbp : b ≠ p := fun z => by subst z; exact hb hF
    rcases R.new b hb with z | z
    · exact .inl z
    · refine .inr ?_
      show upd c.H0 p o b = none
      rw [upd_ne hbp]; exact z
  · by_cases hbp : b = p
    · subst hbp; rw [upd_same]; simp
    · rw [upd_ne hbp]
      refine R.dom b fun z => hb ?_
      show upd c.H0 p o b = none
      rw [upd_ne hbp]; exact z
  · obtain ⟨a, xs, e1, e2, e3, e4, e5, e6, e7⟩ := R.own i q ds h
    have ne : a ≠ p := ne_of_none e3 hp
    refine ⟨a, xs, e1, e2, by rw [upd_ne ne]; exact e3, e4, ?_, ?_, e7⟩
    · show upd c.G p o a = none
      rw [upd_ne ne]; exact e5
    · cases q with
      | true => exact e6
      | false =>
        show upd c.H0 p o a = none
        rw [upd_ne ne]; exact e6
theorem Rl.watched {p : Addr} {o : HO} (R : Rl K (wat c p o) F σ H env) : H p = some o := R.gd p o (show upd c.G p o p = some o from upd_same)
/-- .. and changed, and forgotten -/
theorem Rl.unwatch {p : Addr} {o o' : HO} (R : Rl K (wat c p o) F σ H env) (hG : c.G p = none) (hF0 : c.F0 p = none) (hH0 : c.H0 p = none) (hng : NoT c.G) (hl : ∃ xs, o = .lst xs := by exact ⟨_, rfl⟩) : F p = none ∧ Rl K c F σ (upd H p o') env := by
  have hF : F p = none := by
    cases e : F p with
    | none => rfl
    | some u =>
      rcases R.new p (by rw [e]; simp) with z | z
      · exact absurd hF0 z
      · have z' : upd c.H0 p o p = none := z
        rw [upd_same] at z'; cases z'
  refine ⟨hF, ⟨fun b u e => ?_, R.f0, fun b u e => ?_, fun b u e => ?_, fun b hb => ?_, fun b hb => ?_, R.len, R.val, fun i q ds h => ?_, (by obtain ⟨xs, rfl⟩ := hl; exact tabs_wr R.tab R.watched), R.nf, hng⟩⟩
  · rw [upd_ne (ne_of_none e hF)]; exact R.sub b u e
  · have hbp : b ≠ p := ne_of_none e hG
    rw [upd_ne hbp]
    refine R.gd b u ?_
    show upd c.G p o b = some u
    rw [upd_ne hbp]; exact e
  · have hbp : b ≠ p := ne_of_none e hG
    have := R.g0 b u (by show upd c.G p o b = some u; rw [upd_ne hbp]; exact e)
    have t : upd c.H0 p o b = some u := this
    rw [upd_ne hbp] at t; exact t
  · have hbp : b ≠ p := fun z => by subst z; exact hb hF
    rcases R.new b hb with z | z
    · exact .inl z
    · have z' : upd c.H0 p o b = none := z
      rw [upd_ne hbp] at z'; exact .inr z'
  · by_cases hbp : b = p
    · subst hbp; exact absurd hH0 hb
    · rw [upd_ne hbp]
      refine R.dom b fun z => hb ?_
      have z' : upd c.H0 p o b = none := z
      rw [upd_ne hbp] at z'; exact z'
  · obtain ⟨a, xs, e1, e2, e3, e4, e5, e6, e7⟩ := R.own i q ds h
    have ne : a ≠ p := fun z => by
      subst z
      have z' : upd c.G a o a = none := e5
      rw [upd_same] at z'; cases z'
    refine ⟨a, xs, e1, e2, by rw [upd_ne ne]; exact e3, e4, ?_, ?_, e7⟩
    · have z' : upd c.G p o a = none := e5
      rw [upd_ne ne] at z'; exact z'
    · cases q with
      | true => exact e6
      | false =>
        have z' : upd c.H0 p o a = none := e6
        rw [upd_ne ne] at z'; exact z'
end
def eF (f : Fl) : Fe := fun env => (f env).map fun p => (.list p.1, p.2)
section
variable {X : Cx} {a b e : Expr} {es : List Expr} {fa fb f : Fe} {fl fm : Fl} {pos : Pos}
theorem gf_ge {K : Frag} {σ : L2.St} {H : Hp} {Q : VK} (h : Ge K (eF fl) σ H Q) : Gf K fl σ H Q := by
  obtain ⟨c, F, env, d, env', R, e, k⟩ := h
  unfold eF at e
  simp only [Option.map_eq_some_iff] at e
  obtain ⟨⟨ds, n⟩, h1, h2⟩ := e
  obtain ⟨rfl, rfl⟩ := Prod.mk.inj h2
  refine ⟨c, F, env, ds, n, R, h1, fun p xs F' H' s hp R' hx => ?_⟩
  obtain ⟨sF, R2⟩ := R'.laid (o := .lst xs) hp
  exact k _ _ _ (s.trans sF) R2 (.lst (SqL.of upd_same) (hx.up sF))
theorem de_f (h : PE X e (Gf X.K fl)) : PE X e (Ge X.K (eF fl)) := h.imp fun _ _ _ => gf_ge
/-- a list display -/
def lLst (f : Fl) : Fl := fun env => (f env).bind fun p => if okN p.1.length then some p else none
theorem df_lst (ha : PA X es (Ga X.K fl)) : PE X (.List es pos) (Gf X.K (lLst fl)) := (pe_lst ha).imp fun σ H Q h => by
  obtain ⟨c, F, env, ds, env', R, e, k⟩ := h
  unfold lLst at e
  simp only [Option.bind_eq_some_iff] at e
  obtain ⟨⟨d1, n1⟩, h1, h2⟩ := e
  split at h2
  · rename_i hz
    cases h2
    exact ⟨c, F, env, _, _, R, h1, fun vs F' H' s R' hd => ⟨by rw [hd.len]; exact okN_line hz, fun p hp => k p vs F' H' s hp R' hd⟩⟩
  · cases h2
def eTup (f : Fl) : Fe := fun env => (f env).bind fun p => if okN p.1.length then some (.tuple p.1, p.2) else none
theorem de_tup {x1} (ha : PA X es (Ga X.K fl)) : PE X (.Tuple es x1 pos) (Ge X.K (eTup fl)) := (pe_tup ha).imp fun σ H Q h => by
  obtain ⟨c, F, env, ds, env', R, e, k⟩ := h
  unfold eTup at e
  simp only [Option.bind_eq_some_iff] at e
  obtain ⟨⟨d1, n1⟩, h1, h2⟩ := e
  split at h2
  · rename_i hz
    cases h2
    refine ⟨c, F, env, d1, n1, R, h1, fun vs F' H' s R' hd => ⟨by rw [hd.len]; exact okN_line hz, fun p hp => ?_⟩⟩
    obtain ⟨sF, R2⟩ := R'.laid (o := .tup vs) hp
    exact k _ _ _ (s.trans sF) R2 (.tup (SqT.of upd_same) (hd.up sF))
  · cases h2
/-- [..] * n -/
def reps (n : Int) (ds : List PyData) : List PyData := (List.replicate n.toNat ds).flatten
/-- (decided by no reckoning: the kernel must not try) -/
noncomputable def smallI (i : Int) : Bool := @decide (-(2 ^ 62) ≤ i ∧ i < 2 ^ 62) (Classical.propDecidable _)
theorem smallI_b {n : Int} (h : smallI n = true) : -(2 ^ 62) ≤ n ∧ n < 2 ^ 62 := by
  unfold smallI at h
  exact @of_decide_eq_true _ (Classical.propDecidable _) h
noncomputable def lRep (fl : Fl) (fb : Fe) : Fl := fun env => (fl env).bind fun p => (fb p.2).bind fun q => match q.1 with
  | .int n => if smallI n && okN (p.1.length * n.toNat) then some (reps n p.1, q.2) else none
  | _ => none
theorem dp_reps {K : Frag} {F : Hp} {xs : List V} {ds : List PyData} (h : DpAll K F xs ds) : ∀ n : Nat, DpAll K F (List.replicate n xs).flatten (List.replicate n ds).flatten
  | 0 => .nil
  | n + 1 => by
    rw [List.replicate_succ, List.replicate_succ, List.flatten_cons, List.flatten_cons]
    exact h.app (dp_reps h n)
theorem df_rep (ha : PE X a (Gf X.K fl)) (hb : PE X b (Ge X.K fb)) : PE X (.BinOp a .Mult b pos) (Gf X.K (lRep fl fb)) := (pe_op op_rep ha hb).imp fun σ H Q h => by
  obtain ⟨c, F, env, ds, env', R, e, k⟩ := h
  unfold lRep at e
  simp only [Option.bind_eq_some_iff] at e
  obtain ⟨⟨d1, n1⟩, h1, ⟨d2, n2⟩, h2, h3⟩ := e
  simp only at h3
  split at h3
  · rename_i n
    split at h3
    · rename_i hz
      rw [Bool.and_eq_true] at hz
      obtain ⟨b1, b2⟩ := smallI_b hz.1
      cases h3
      refine ⟨c, F, env, d1, n1, R, h1, fun p xs F1 H1 s1 hp R1 hx => ?_⟩
      obtain ⟨sF, R2⟩ := R1.laid (o := .lst xs) hp
      refine ⟨c, _, n1, .int n, env', R2, h2, fun v F2 H2 s2 R3 hv => ?_⟩
      cases hv
      refine ⟨p, n, xs, rfl, rfl, R3.sub p _ (s2 p _ upd_same), by omega, by omega, ?_, fun q hq => ?_⟩
      · rw [hx.len]; exact okN_line hz.2
      · exact k q _ F2 H2 ((s1.trans sF).trans s2) hq R3 (dp_reps (hx.up (sF.trans s2)) n.toNat)
    · cases h3
  · cases h3
abbrev Fo := En → Option (Option Int × En)
def Go (K : Frag) (f : Fo) : TO := fun σ H Q => ∃ c F env o env', Rl K c F σ H env ∧ f env = some (o, env') ∧ ∀ F' H', Same F F' → Rl K c F' σ H' env' → Q o H'
def oNo : Fo := fun env => some (none, env)
def oSo (f : Fe) : Fo := fun env => (f env).bind fun p => match p.1 with
  | .int i => some (some i, p.2)
  | _ => none
theorem PO.imp {X : Cx} {e : Option Expr} {t u : TO} (h : PO X e t) (w : ∀ σ H Q, u σ H Q → t σ H Q) : PO X e u := ⟨fun pins s σ H Q I q => h.run pins s σ H Q I (w σ H Q q)⟩
theorem do_no : PO X none (Go X.K oNo) := PO.imp po_none fun σ H Q ⟨c, F, env, o, env', R, e, k⟩ => by
  cases e
  exact k F H (Same.refl F) R
theorem do_so (h : PE X e (Ge X.K f)) : PO X (some e) (Go X.K (oSo f)) := PO.imp (po_some h) fun σ H Q ⟨c, F, env, o, env', R, e, k⟩ => by
  unfold oSo at e
  simp only [Option.bind_eq_some_iff] at e
  obtain ⟨⟨d1, n1⟩, h1, h2⟩ := e
  simp only at h2
  split at h2
  · cases h2
    refine ⟨c, F, env, _, _, R, h1, fun v F' H' s R' hv => ?_⟩
    cases hv
    exact ⟨_, rfl, k F' H' s R'⟩
  · cases h2
def cutD (xs : List PyData) (lo hi : Option Int) : List PyData := (xs.drop (HT.sIx xs.length 0 lo)).take (HT.sIx xs.length xs.length hi - HT.sIx xs.length 0 lo)
theorem cut_dp {K : Frag} {F : Hp} {xs : List V} {ds : List PyData} (h : DpAll K F xs ds) (lo hi : Option Int) : DpAll K F (cutV xs lo hi) (cutD ds lo hi) := by
  unfold cutV cutD
  rw [h.len]
  exact (h.drop _).take _
@[simp] def gCut : PyData → Option Int → Option Int → Option PyData
  | .list ds, lo, hi => some (.list (cutD ds lo hi))
  | .tuple ds, lo, hi => some (.tuple (cutD ds lo hi))
  | _, _, _ => none
def eCut (fa : Fe) (lo hi : Fo) : Fe := fun env => (fa env).bind fun p => (lo p.2).bind fun q => (hi q.2).bind fun r => (gCut p.1 q.1 r.1).map fun z => (z, r.2)
theorem cutD_whole {ds : List PyData} {lo hi : Option Int} (h : HT.sIx ds.length 0 lo = 0 ∧ HT.sIx ds.length ds.length hi = ds.length) : cutD ds lo hi = ds := by
  unfold cutD
  rw [h.1, h.2]
  simp
theorem de_cut {lo hi : Option Expr} {fo fh : Fo} {p2} (ha : PE X a (Ge X.K fa)) (hl : PO X lo (Go X.K fo)) (hh : PO X hi (Go X.K fh)) : PE X (.Subscript a (.Slice lo hi none p2) pos) (Ge X.K (eCut fa fo fh)) :=
  (pe_slice (SlR.or sl_list sl_tupA) ha hl hh).imp fun σ H Q h => by
  obtain ⟨c, F, env, d, env', R, e, k⟩ := h
  unfold eCut at e
  simp only [Option.bind_eq_some_iff, Option.map_eq_some_iff] at e
  obtain ⟨⟨d1, n1⟩, h1, ⟨d2, n2⟩, h2, ⟨d3, n3⟩, h3, z, h4, h5⟩ := e
  obtain ⟨rfl, rfl⟩ := Prod.mk.inj h5
  refine ⟨c, F, env, d1, n1, R, h1, fun v1 F1 H1 s1 R1 p1 => ⟨c, F1, n1, d2, n2, R1, h2, fun F2 H2 s2 R2 => ⟨c, F2, n2, d3, _, R2, h3, fun F3 H3 s3 R3 => ?_⟩⟩⟩
  have p3 := p1.up (s2.trans s3)
  have s13 := (s1.trans s2).trans s3
  dsimp only at h4 k
  unfold gCut at h4
  split at h4
  · cases h4
    cases p3 with
    | @lst a1 xs _ hs ha =>
      refine .inl ⟨a1, xs, rfl, R3.sub.seq hs, fun q hq => ?_⟩
      obtain ⟨sF, R4⟩ := R3.laid (o := .lst (cutV xs d2 d3)) hq
      exact k _ _ _ (s13.trans sF) R4 (.lst (SqL.of upd_same) ((cut_dp ha d2 d3).up sF))
  · cases h4
    cases p3 with
    | @tup a1 xs _ hs ha =>
      refine .inr ⟨a1, xs, rfl, sqT_mono R3.sub hs, fun hw => ?_, fun _ q hq => ?_⟩
      · rw [ha.len] at hw
        rw [cutD_whole hw] at k
        exact k _ F3 H3 s13 R3 (.tup hs ha)
      · obtain ⟨sF, R4⟩ := R3.laid (o := .tup (cutV xs d2 d3)) hq
        exact k _ _ _ (s13.trans sF) R4 (.tup (SqT.of upd_same) ((cut_dp ha d2 d3).up sF))
  · cases h4
end
def tB' (f : Fe) : Ft := fun env => (f env).bind fun p => match p.1 with
  | .bool b => some (b, p.2)
  | _ => none
def tNo (f : Ft) : Ft := fun env => (f env).map fun p => (!p.1, p.2)
def tAn (f g : Ft) : Ft := fun env => (f env).bind fun p => if p.1 then g p.2 else some (false, p.2)
def tOrr (f g : Ft) : Ft := fun env => (f env).bind fun p => if p.1 then some (true, p.2) else g p.2
@[simp] def truth : PyData → Option Bool
  | .none => some false
  | .bool b => some b
  | .int i => some (i != 0)
  | .str x => if okN x.length then some ((x.length : Int) != 0) else none
  | .list ds => some (!ds.isEmpty)
  | .tuple ds => some (!ds.isEmpty)
  | .dict _ => none
def tTr (f : Fe) : Ft := fun env => (f env).bind fun p => (truth p.1).map fun b => (b, p.2)
section
variable {X : Cx} {a b e : Expr} {rest : List Expr} {fa fb f : Fe} {ta tb : Ft} {pos : Pos}
theorem bool_of {K : Frag} {σ : L2.St} {H : Hp} {Q : Bool → Hp → Prop} (h : Gt K (tB' f) σ H Q) : Ge K f σ H fun x H1 => ∃ k, x = .bl k ∧ Q k H1 := by
  obtain ⟨c, F, env, d, env', R, e, k⟩ := h
  unfold tB' at e
  simp only [Option.bind_eq_some_iff] at e
  obtain ⟨⟨d1, n1⟩, h1, h2⟩ := e
  simp only at h2
  split at h2
  · cases h2
    refine ⟨c, F, env, _, _, R, h1, fun v F' H' s R' hv => ?_⟩
    cases hv
    exact ⟨_, rfl, k F' H' s R'⟩
  · cases h2
theorem dt_cmp {op : CmpOp} {r : R2} {g : PyData → PyData → Option PyData} (ho : OpR X (compareOp op) r) (o : Op2 X.K r g) (ha : PE X a (Ge X.K fa)) (hb : PE X b (Ge X.K fb)) (hm : behindInMarks op b = false) : PT X (.Compare a [op] [b] pos) (Gt X.K (tB' (e2 g fa fb))) :=
  (pt_cmpR ho ha hb hm).imp fun σ H Q h => go2 o (bool_of h)
theorem dt_not (h : PT X a (Gt X.K ta)) : PT X (.UnaryOp .Not a pos) (Gt X.K (tNo ta)) := (pt_not h).imp fun σ H Q h => by
  obtain ⟨c, F, env, d, env', R, e, k⟩ := h
  unfold tNo at e
  simp only [Option.map_eq_some_iff] at e
  obtain ⟨⟨d1, n1⟩, h1, h2⟩ := e
  obtain ⟨rfl, rfl⟩ := Prod.mk.inj h2
  exact ⟨c, F, env, d1, n1, R, h1, k⟩
theorem dw_and1 (h : PT X a (Gt X.K ta)) : PW X (.BoolOp .And [a] pos) (Gt X.K ta) := pw_and1 h
theorem dw_or1 (h : PT X a (Gt X.K ta)) : PW X (.BoolOp .Or [a] pos) (Gt X.K ta) := pw_or1 h
theorem dw_and (h : PT X a (Gt X.K ta)) (h2 : PW X (.BoolOp .And (b :: rest) pos) (Gt X.K tb)) : PW X (.BoolOp .And (a :: b :: rest) pos) (Gt X.K (tAn ta tb)) := (pw_and h h2).imp fun σ H Q h => by
  obtain ⟨c, F, env, d, env', R, e, k⟩ := h
  unfold tAn at e
  simp only [Option.bind_eq_some_iff] at e
  obtain ⟨⟨d1, n1⟩, h1, h2⟩ := e
  refine ⟨c, F, env, d1, n1, R, h1, fun F1 H1 s1 R1 => ?_⟩
  cases d1 with
  | true => exact iteT ⟨c, F1, n1, d, env', R1, h2, fun F2 H2 s2 R2 => k F2 H2 (s1.trans s2) R2⟩
  | false =>
    cases h2
    exact iteF (k F1 H1 s1 R1)
theorem dw_or (h : PT X a (Gt X.K ta)) (h2 : PW X (.BoolOp .Or (b :: rest) pos) (Gt X.K tb)) : PW X (.BoolOp .Or (a :: b :: rest) pos) (Gt X.K (tOrr ta tb)) := (pw_or h h2).imp fun σ H Q h => by
  obtain ⟨c, F, env, d, env', R, e, k⟩ := h
  unfold tOrr at e
  simp only [Option.bind_eq_some_iff] at e
  obtain ⟨⟨d1, n1⟩, h1, h2⟩ := e
  refine ⟨c, F, env, d1, n1, R, h1, fun F1 H1 s1 R1 => ?_⟩
  cases d1 with
  | false => exact iteF ⟨c, F1, n1, d, env', R1, h2, fun F2 H2 s2 R2 => k F2 H2 (s1.trans s2) R2⟩
  | true =>
    cases h2
    exact iteT (k F1 H1 s1 R1)
/-- a value's truth -/
theorem dt_tru (h : PE X e (Ge X.K f)) (he : ∀ whole, isTrue e X.env whole = (do let v ← whole; standAt e.pos; holding [v] (truthy v)) := by intro _; rfl) : PT X e (Gt X.K (tTr f)) := (pt_truth h he).imp fun σ H Q h => by
  obtain ⟨c, F, env, d, env', R, e, k⟩ := h
  unfold tTr at e
  simp only [Option.bind_eq_some_iff, Option.map_eq_some_iff] at e
  obtain ⟨⟨d1, n1⟩, h1, b, h2, h3⟩ := e
  obtain ⟨rfl, rfl⟩ := Prod.mk.inj h3
  refine ⟨c, F, env, d1, n1, R, h1, fun v F' H' s R' hv => ⟨b, ?_, k F' H' s R'⟩⟩
  cases hv with
  | non => simp [truth] at h2; simp [TruV, h2]
  | bl x => simp [truth] at h2; simp [TruV, h2]
  | int i => simp [truth] at h2; simp [TruV, h2]
  | str x =>
    simp only [truth] at h2
    by_cases hz : okN x.length = true
    · rw [if_pos hz] at h2
      exact ⟨okN_line hz, (Option.some.inj h2).symm⟩
    · rw [if_neg hz] at h2
      cases h2
  | @lst _ _ _ds hs ha =>
    have h2' : (!_ds.isEmpty) = b := Option.some.inj h2
    subst h2'
    refine .inl ⟨_, R'.sub.seq hs, ?_⟩
    have := ha.len
    cases ha <;> rfl
  | @tup _ _ _ds hs ha =>
    have h2' : (!_ds.isEmpty) = b := Option.some.inj h2
    subst h2'
    refine .inr (.inl ⟨_, sqT_mono R'.sub hs, ?_⟩)
    cases ha <;> rfl
  | dct _ _ => cases h2
  | exc _ _ _ => cases h2
  | rng _ => cases h2
/-- and, or, not as values -/
def eAn (f g : Fe) : Fe := fun env => (f env).bind fun p => match p.1 with
  | .bool true => g p.2
  | .bool false => some (.bool false, p.2)
  | _ => none
def eNo (f : Fe) : Fe := fun env => (f env).bind fun p => match p.1 with
  | .bool b => some (.bool (!b), p.2)
  | _ => none
theorem de_one {op} (h : PE X a (Ge X.K fa)) : PE X (.BoolOp op [a] pos) (Ge X.K fa) := pe_one h
theorem de_and (h : PE X a (Ge X.K fa)) (h2 : PE X (.BoolOp .And (b :: rest) pos) (Ge X.K fb)) : PE X (.BoolOp .And (a :: b :: rest) pos) (Ge X.K (eAn fa fb)) := (pe_and h h2).imp fun σ H Q h => by
  obtain ⟨c, F, env, d, env', R, e, k⟩ := h
  unfold eAn at e
  simp only [Option.bind_eq_some_iff] at e
  obtain ⟨⟨d1, n1⟩, h1, h2⟩ := e
  refine ⟨c, F, env, d1, n1, R, h1, fun v F1 H1 s1 R1 hv => ?_⟩
  simp only at h2
  split at h2
  · cases hv
    exact ⟨true, rfl, iteT ⟨c, F1, n1, d, env', R1, h2, fun v F2 H2 s2 R2 => k v F2 H2 (s1.trans s2) R2⟩⟩
  · cases hv
    cases h2
    exact ⟨false, rfl, iteF (k _ F1 H1 s1 R1 (.bl _))⟩
  · cases h2
theorem de_not (h : PE X a (Ge X.K fa)) : PE X (.UnaryOp .Not a pos) (Ge X.K (eNo fa)) := (pe_not h).imp fun σ H Q h => by
  obtain ⟨c, F, env, d, env', R, e, k⟩ := h
  unfold eNo at e
  simp only [Option.bind_eq_some_iff] at e
  obtain ⟨⟨d1, n1⟩, h1, h2⟩ := e
  refine ⟨c, F, env, d1, n1, R, h1, fun v F1 H1 s1 R1 hv => ?_⟩
  simp only at h2
  split at h2
  · cases hv
    cases h2
    exact ⟨_, rfl, k _ F1 H1 s1 R1 (.bl _)⟩
  · cases h2
/-- a < b < c -/
def eCh (g g' : PyData → PyData → Option PyData) (fa fb fc : Fe) : Fe := fun env => (fa env).bind fun p => (fb p.2).bind fun q => (g p.1 q.1).bind fun z => match z with
  | .bool true => (fc q.2).bind fun r => (g' q.1 r.1).map fun y => (y, r.2)
  | .bool false => some (.bool false, q.2)
  | _ => none
theorem goCh {K : Frag} {r r' : R2} {g g' : PyData → PyData → Option PyData} (o : Op2 K r g) (o' : Op2 K r' g') {fc : Fe} {σ : L2.St} {H : Hp} {Q : VK} (h : Ge K (eCh g g' fa fb fc) σ H Q) : tChain r r' (Ge K fa) (Ge K fb) (Ge K fc) σ H Q := by
  obtain ⟨c, F, env, d, env', R, e, k⟩ := h
  unfold eCh at e
  simp only [Option.bind_eq_some_iff] at e
  obtain ⟨⟨d1, n1⟩, h1, ⟨d2, n2⟩, h2, z, h3, h4⟩ := e
  refine ⟨c, F, env, d1, n1, R, h1, fun v1 F1 H1 s1 R1 p1 => ⟨c, F1, n1, d2, n2, R1, h2, fun v2 F2 H2 s2 R2 p2 => ?_⟩⟩
  refine o c F2 σ H2 n2 v1 v2 d1 d2 z _ R2 (p1.up s2) p2 h3 fun v F3 H3 s3 R3 p3 => ?_
  simp only at h4
  split at h4
  · cases p3
    simp only [Option.bind_eq_some_iff, Option.map_eq_some_iff] at h4
    obtain ⟨⟨d4, n4⟩, h5, y, h6, h7⟩ := h4
    obtain ⟨rfl, rfl⟩ := Prod.mk.inj h7
    refine ⟨true, rfl, iteT ⟨c, F3, n2, d4, _, R3, h5, fun v4 F4 H4 s4 R4 p4 => ?_⟩⟩
    exact o' c F4 σ H4 _ v2 v4 d2 d4 y Q R4 (p2.up (s3.trans s4)) p4 h6 fun v5 F5 H5 s5 R5 p5 => k v5 F5 H5 ((((s1.trans s2).trans s3).trans s4).trans s5) R5 p5
  · cases p3
    cases h4
    exact ⟨false, rfl, iteF (k _ F3 H3 ((s1.trans s2).trans s3) R3 (.bl _))⟩
  · cases h4
theorem dt_chain {op op' : CmpOp} {r r' : R2} {g g' : PyData → PyData → Option PyData} {c' : Expr} {fc : Fe} (ho : OpR X (compareOp op) r) (o : Op2 X.K r g) (ho' : OpR X (compareOp op') r') (o' : Op2 X.K r' g') (ha : PE X a (Ge X.K fa)) (hb : PE X b (Ge X.K fb)) (hc : PE X c' (Ge X.K fc))
    (hm : lastMarks [op, op'] [b, c'] = false := by with_unfolding_all rfl) : PT X (.Compare a [op, op'] [b, c'] pos) (Gt X.K (tB' (eCh g g' fa fb fc))) := (pt_chain ho ho' ha hb hc hm).imp fun _ _ _ h => goCh o o' (bool_of h)
/-- is None -/
def eIsN (f : Fe) : Fe := fun env => (f env).map fun p => (.bool (isNone p.1), p.2)
def eNotN (f : Fe) : Fe := fun env => (f env).map fun p => (.bool (!isNone p.1), p.2)
theorem goIsN {K : Frag} {σ : L2.St} {H : Hp} {Q : VK} (h : Ge K (eIsN f) σ H Q) : tIsN (Ge K f) σ H Q := by
  obtain ⟨c, F, env, d, env', R, e, k⟩ := h
  unfold eIsN at e
  simp only [Option.map_eq_some_iff] at e
  obtain ⟨⟨d1, n1⟩, h1, h2⟩ := e
  obtain ⟨rfl, rfl⟩ := Prod.mk.inj h2
  refine ⟨c, F, env, d1, n1, R, h1, fun v F1 H1 s1 R1 hv => ?_⟩
  show Q (.bl (decide (v = .non))) H1
  rw [isNone_v hv]
  exact k _ F1 H1 s1 R1 (.bl _)
theorem de_isN {j pos'} (ha : PE X a (Ge X.K fa)) : PE X (.Compare a [.Is] [.Constant .none j pos'] pos) (Ge X.K (eIsN fa)) := (pe_cmp (pc_isN ha)).imp fun _ _ _ h => goIsN h
variable {es : List Expr} {fl : Fl} {x : Str} {p : Pos} {id T : String} {r : List V → Hp → VK → Prop} {g : List PyData → Option PyData}
theorem de_B (hc : CallR X (.builtin id) r) (o : OpA X.K r g) (hg : Gl X x) (hm : X.mg x = none) (hv : bootBuiltins x = some (.builtin id)) (ha : PA X (e :: es) (Ga X.K fl)) (hn : x ≠ "__name__" := by decide) (hdb : (x == ("__debug__" : Str)) = false := by decide)
    (he : starEach (e :: es) X.env = (false, eval e X.env) :: starEach es X.env := by rfl) (hpl : (backTo pos (starEach es X.env)).any (·.1) = false := by rfl) : PE X (.Call (.Name x p) (e :: es) [] pos) (Ge X.K (eA g fl)) := (pe_callB hc hg hm hv ha hn hdb he hpl).imp fun _ _ _ h => goA o h
theorem de_T (hc : CallR X (.type T) r) (o : OpA X.K r g) (hg : Gl X x) (hm : X.mg x = none) (hv : bootBuiltins x = some (.type T)) (ha : PA X (e :: es) (Ga X.K fl)) (hn : x ≠ "__name__" := by decide) (hdb : (x == ("__debug__" : Str)) = false := by decide)
    (he : starEach (e :: es) X.env = (false, eval e X.env) :: starEach es X.env := by rfl) (hpl : (backTo pos (starEach es X.env)).any (·.1) = false := by rfl) : PE X (.Call (.Name x p) (e :: es) [] pos) (Ge X.K (eA g fl)) := (pe_callTy hc hg hm hv ha hn hdb he hpl).imp fun _ _ _ h => goA o h
theorem de_M (hc : CallR X (.builtin id) r) (o : OpA X.K r g) (hg : Gl X x) (hm : X.mg x = some (.builtin id)) (ha : PA X (e :: es) (Ga X.K fl)) (hdb : (x == ("__debug__" : Str)) = false := by decide)
    (he : starEach (e :: es) X.env = (false, eval e X.env) :: starEach es X.env := by rfl) (hpl : (backTo pos (starEach es X.env)).any (·.1) = false := by rfl) : PE X (.Call (.Name x p) (e :: es) [] pos) (Ge X.K (eA g fl)) := (pe_callBfun hc hg hm ha hdb he hpl).imp fun _ _ _ h => goA o h
/-- isinstance(e, T) -/
def eIs (T : String) (f : Fe) : Fe := fun env => (f env).bind fun p => if tyOk p.1 then some (.bool (isT T p.1), p.2) else none
theorem de_isi {y : Str} {q : Pos} (hT : IsTOk T) (hg : Gl X "isinstance") (hm : X.mg "isinstance" = none) (hgy : Gl X y) (hmy : X.mg y = none) (hvy : bootBuiltins y = some (.type T)) (ha : PE X e (Ge X.K f)) (hny : y ≠ "__name__" := by decide) (hdy : (y == ("__debug__" : Str)) = false := by decide)
    (he0 : starEach (Expr.Name y q :: []) X.env = (false, eval (Expr.Name y q) X.env) :: starEach [] X.env := by rfl)
    (he : starEach (e :: Expr.Name y q :: []) X.env = (false, eval e X.env) :: starEach [Expr.Name y q] X.env := by rfl) (hpl : (backTo pos (starEach [Expr.Name y q] X.env)).any (·.1) = false := by rfl) :
    PE X (.Call (.Name "isinstance" p) [e, .Name y q] [] pos) (Ge X.K (eIs T f)) := (pe_callB call_isi hg hm (by decide +kernel) (pa_cons ha (pa_cons (pe_bltn (v := .ty T) hgy hmy hvy rfl hny hdy) pa_nil he0) he) (by decide) (by decide) he hpl).imp fun σ H Q h => by
  obtain ⟨c, F, env, d, env', R, e, k⟩ := h
  unfold eIs at e
  simp only [Option.bind_eq_some_iff] at e
  obtain ⟨⟨d1, n1⟩, h1, h2⟩ := e
  dsimp only at h2
  split at h2
  · rename_i hk
    obtain ⟨rfl, rfl⟩ := Prod.mk.inj (Option.some.inj h2)
    refine ⟨c, F, env, d1, n1, R, h1, fun v F1 H1 s1 R1 hv => ?_⟩
    exact ⟨v, .ty T, .type (tyN d1), .type T, isT T d1, rfl, .ty T, tyX_of R1.sub hv hk, kit_ty (hT d1), k _ F1 H1 s1 R1 (.bl _)⟩
  · cases h2
end
end Dn
set_option Elab.async false
set_option linter.all false
set_option maxRecDepth 100000
set_option maxHeartbeats 2000000
namespace PySem
end PySem
namespace L2
open PySem PySem.Spec PyProof.Rows
end L2
set_option Elab.async false
set_option linter.all false
set_option maxRecDepth 100000
namespace Dn
open PySem PySem.Spec PyProof.Rows L2
open PySem.W (Frag)
variable [Tb]
def wipeE (env : En) : List Nat → En
  | [] => env
  | v :: vs => (wipeE env vs).set v .no
def restE (e1 e2 : En) : List Nat → En
  | [] => e2
  | v :: vs => match e1[v]? with
    | some s => (restE e1 e2 vs).set v s
    | none => restE e1 e2 vs
def noOwn (env : En) (vs : List Nat) : Bool := vs.all fun i => match env[i]? with
  | some (.own _ _) => false
  | _ => true
theorem wipe_get {σ : L2.St} {j : Nat} : ∀ {vs : List Nat}, (wipe σ vs)[j]? = if j ∈ vs then σ[j]?.map (fun _ => none) else σ[j]?
  | [] => by simp [wipe]
  | v :: vs => by
    unfold wipe
    by_cases h : v = j
    · subst h
      rw [List.getElem?_set, if_pos rfl, if_pos List.mem_cons_self, wipe_length]
      by_cases hl : v < σ.length
      · rw [if_pos hl, List.getElem?_eq_getElem hl]; rfl
      · rw [if_neg hl, List.getElem?_eq_none (by omega)]; rfl
    · rw [List.getElem?_set_ne h, wipe_get (vs := vs)]
      by_cases hm : j ∈ vs
      · rw [if_pos hm, if_pos (List.mem_cons_of_mem _ hm)]
      · rw [if_neg hm, if_neg (by simp only [List.mem_cons, not_or]; exact ⟨fun z => h z.symm, hm⟩)]
theorem wipe_set {σ : L2.St} {i : Nat} {x : Option V} {vs : List Nat} (h : i ∈ vs) : wipe (σ.set i x) vs = wipe σ vs := by
  apply List.ext_getElem?
  intro j
  rw [wipe_get, wipe_get]
  by_cases hj : j ∈ vs
  · rw [if_pos hj, if_pos hj, List.getElem?_set]
    by_cases hij : i = j
    · subst hij
      rw [if_pos rfl]
      by_cases hl : i < σ.length
      · rw [if_pos hl, List.getElem?_eq_getElem hl]; rfl
      · rw [if_neg hl, List.getElem?_eq_none (by omega)]
    · rw [if_neg hij]
  · rw [if_neg hj, if_neg hj, List.getElem?_set_ne]
    intro z; subst z; exact hj h
theorem wipe_wipe {σ : L2.St} {vs ws : List Nat} (h : ∀ i ∈ ws, i ∈ vs) : wipe (wipe σ ws) vs = wipe σ vs := by
  apply List.ext_getElem?
  intro j
  rw [wipe_get, wipe_get, wipe_get]
  by_cases hj : j ∈ vs
  · rw [if_pos hj, if_pos hj]
    by_cases hw : j ∈ ws
    · rw [if_pos hw, Option.map_map]; rfl
    · rw [if_neg hw]
  · rw [if_neg hj, if_neg hj, if_neg fun z => hj (h j z)]
theorem restE_len {e1 e2 : En} : ∀ vs : List Nat, (restE e1 e2 vs).length = e2.length
  | [] => rfl
  | v :: vs => by
    unfold restE
    cases h : e1[v]? with
    | none => exact restE_len vs
    | some s => simp [restE_len vs]
theorem restE_get {e1 e2 : En} (hl : e1.length = e2.length) {j : Nat} : ∀ {vs : List Nat}, (restE e1 e2 vs)[j]? = if j ∈ vs then e1[j]? else e2[j]?
  | [] => by simp [restE]
  | v :: vs => by
    unfold restE
    by_cases h : v = j
    · subst h
      rw [if_pos List.mem_cons_self]
      cases hv : e1[v]? with
      | none =>
        dsimp only
        rw [restE_get hl]
        by_cases hm : v ∈ vs
        · rw [if_pos hm, hv]
        · rw [if_neg hm]
          have := List.getElem?_eq_none_iff.mp hv
          exact List.getElem?_eq_none (by omega)
      | some s =>
        dsimp only
        have := (List.getElem?_eq_some_iff.mp hv).1
        rw [List.getElem?_set_self (by rw [restE_len]; omega)]
    · have hne : (if j ∈ v :: vs then e1[j]? else e2[j]?) = if j ∈ vs then e1[j]? else e2[j]? := by
        by_cases hm : j ∈ vs
        · rw [if_pos hm, if_pos (List.mem_cons_of_mem _ hm)]
        · rw [if_neg hm, if_neg (by simp only [List.mem_cons, not_or]; exact ⟨fun z => h z.symm, hm⟩)]
      rw [hne]
      cases hv : e1[v]? with
      | none => exact restE_get hl
      | some s =>
        dsimp only
        rw [List.getElem?_set_ne h]
        exact restE_get hl
section
variable {K : Frag} {c : C3} {F F' F1 F2 H H' H1 H2 : Hp} {σ : L2.St} {env env' e1 e2 : En}
theorem Rl.forget (R : Rl K c F σ H env) (i : Nat) : Rl K c F (σ.set i none) H (env.set i .no) := by
  refine ⟨R.sub, R.f0, R.gd, R.g0, R.new, R.dom, by simp [R.len], fun j e hj => ?_, fun j p ds hj => ?_, R.tab, R.nf, R.ng⟩
  · by_cases hij : i = j
    · subst hij
      cases get_set_self hj
    · rw [get_set_ne hij] at hj
      obtain ⟨u, h1, h2⟩ := R.val j e hj
      exact ⟨u, by rw [get_set_ne hij]; exact h1, h2⟩
  · by_cases hij : i = j
    · subst hij
      cases get_set_self hj
    · rw [get_set_ne hij] at hj
      obtain ⟨a, xs, e1, e2, e3, e4, e5, e6, e7⟩ := R.own j p ds hj
      refine ⟨a, xs, by rw [get_set_ne hij]; exact e1, e2, e3, e4, e5, e6, fun k q es hk hq => ?_⟩
      by_cases hik : i = k
      · subst hik
        cases get_set_self hq
      · rw [get_set_ne hik] at hq ⊢
        exact e7 k q es hk hq
theorem Rl.wipe' (R : Rl K c F σ H env) : ∀ vs : List Nat, Rl K c F (wipe σ vs) H (wipeE env vs)
  | [] => R
  | v :: vs => (R.wipe' vs).forget v
theorem Rl.rest (R1 : Rl K c F1 σ H1 e1) (hno : noOwn e1 vs = true) (s : Same F1 F2) (R2 : Rl K c F2 (wipe σ vs) H2 e2) : Rl K c F2 σ H2 (restE e1 e2 vs) := by
  have hl : e1.length = e2.length := by rw [R1.len, R2.len, wipe_length]
  have out : ∀ i, i ∉ vs → (wipe σ vs)[i]? = σ[i]? := fun i h => by rw [wipe_get, if_neg h]
  have noo : ∀ i p ds, i ∈ vs → e1[i]? ≠ some (.own p ds) := fun i p ds hi z => by
    have := List.all_eq_true.mp hno i hi
    rw [z] at this
    cases this
  refine ⟨R2.sub, R2.f0, R2.gd, R2.g0, R2.new, R2.dom, by rw [restE_len, R2.len, wipe_length], fun j d hj => ?_, fun j p ds hj => ?_, R2.tab, R2.nf, R2.ng⟩
  · rw [restE_get hl] at hj
    by_cases hm : j ∈ vs
    · rw [if_pos hm] at hj
      obtain ⟨u, h1, h2⟩ := R1.val j d hj
      exact ⟨u, h1, h2.up s⟩
    · rw [if_neg hm] at hj
      obtain ⟨u, h1, h2⟩ := R2.val j d hj
      exact ⟨u, by rw [← out j hm]; exact h1, h2⟩
  · rw [restE_get hl] at hj
    by_cases hm : j ∈ vs
    · rw [if_pos hm] at hj
      exact absurd hj (noo j p ds hm)
    · rw [if_neg hm] at hj
      obtain ⟨a, xs, f1, f2, f3, f4, f5, f6, f7⟩ := R2.own j p ds hj
      refine ⟨a, xs, by rw [← out j hm]; exact f1, f2, f3, f4, f5, f6, fun k q es hk hq => ?_⟩
      rw [restE_get hl] at hq
      by_cases hkm : k ∈ vs
      · rw [if_pos hkm] at hq
        exact absurd hq (noo k q es hkm)
      · rw [if_neg hkm] at hq
        rw [← out k hkm]
        exact f7 k q es hk hq
/-- behind a call that changed nothing known -/
theorem Rl.after (R : Rl K c F σ H env) (s : Same F F') (sub : Bs F' H') (keep : Kp H H') (new : ∀ b, F' b ≠ none → F b ≠ none ∨ H b = none) : Rl K c F' σ H' env := by
  refine ⟨sub.sub, R.f0.trans s, fun b o e => keep.keep b o (fun ps z => R.ng b ps (by rw [e, z])) (R.gd b o e), R.g0, fun a ha => ?_, fun a ha => ?_, R.len, fun i d h => ?_, fun i p ds h => ?_, sub.tab, sub.nf, R.ng⟩
  · rcases new a ha with z | z
    · exact R.new a z
    · exact .inr (R.h0 z)
  · exact keep.dom a (R.dom a ha)
  · obtain ⟨v, h1, h2⟩ := R.val i d h
    exact ⟨v, h1, h2.up s⟩
  · obtain ⟨a, xs, e1, e2, e3, e4, e5, e6, e7⟩ := R.own i p ds h
    refine ⟨a, xs, e1, ?_, keep.keep a _ NT.lst e3, e4.up s, e5, e6, e7⟩
    cases e : F' a with
    | none => rfl
    | some o =>
      rcases new a (by rw [e]; simp) with z | z
      · exact absurd e2 z
      · rw [e3] at z; cases z
/-- behind a call that changed the list that slot i owns -/
theorem Rl.afterM {i : Nat} {p : Bool} {ks ks' : List PyData} {a : Addr} {xs' : List V} (R : Rl K c F σ H env) (hi : env[i]? = some (.own p ks)) (ha : σ[i]? = some (some (.ref a))) (s : Same F F') (sub : Bs F' H') (keep : KpM a H H')
    (new : ∀ b, F' b ≠ none → F b ≠ none ∨ H b = none) (hx : H' a = some (.lst xs')) (hd : DpAll K F' xs' ks') : Rl K c F' σ H' (env.set i (.own p ks')) := by
  obtain ⟨a', xs, e1, e2, e3, e4, e5, e6, e7⟩ := R.own i p ks hi
  rw [ha] at e1
  cases e1
  have nF : ∀ b ys, F b = none → H b = some (.lst ys) → F' b = none := fun b ys h1 h2 => by
    cases e : F' b with
    | none => rfl
    | some o =>
      rcases new b (by rw [e]; simp) with z | z
      · exact absurd h1 z
      · rw [h2] at z; cases z
  refine ⟨sub.sub, R.f0.trans s, fun b o e => ?_, R.g0, fun b hb => ?_, fun b hb => ?_, by simp [R.len], fun j d h => ?_, fun j q ds h => ?_, sub.tab, sub.nf, R.ng⟩
  · exact keep.keep b o (fun ps z => R.ng b ps (by rw [e, z])) (ne_of_none e e5) (R.gd b o e)
  · rcases new b hb with z | z
    · exact R.new b z
    · exact .inr (R.h0 z)
  · exact keep.dom b (R.dom b hb)
  · by_cases hij : i = j
    · subst hij
      cases get_set_self h
    · rw [get_set_ne hij] at h
      obtain ⟨v, h1, h2⟩ := R.val j d h
      exact ⟨v, h1, h2.up s⟩
  · by_cases hij : i = j
    · subst hij
      have := get_set_self h
      cases this
      refine ⟨a, xs', ha, nF a xs e2 e3, hx, hd, e5, e6, fun k q es hk hq => ?_⟩
      have hik : i ≠ k := fun z => hk z.symm
      rw [get_set_ne hik] at hq
      exact e7 k q es hk hq
    · rw [get_set_ne hij] at h
      obtain ⟨b, zs, f1, f2, f3, f4, f5, f6, f7⟩ := R.own j q ds h
      have hne : b ≠ a := fun z => by
        subst z
        exact e7 j q ds (fun z => hij z.symm) h f1
      refine ⟨b, zs, f1, nF b zs f2 f3, keep.keep b _ NT.lst hne f3, f4.up s, f5, f6, fun k q es hk hq => ?_⟩
      by_cases hik : i = k
      · subst hik
        rw [ha]
        intro z
        cases z
        exact hne rfl
      · rw [get_set_ne hik] at hq
        exact f7 k q es hk hq
end
abbrev Tg := PyData → En → Option En
abbrev Tgs := List PyData → En → Option En
def tG (K : Frag) (t : Tg) (S : List Nat) : TG := fun v σ H Q => ∃ c F env d env', Rl K c F σ H env ∧ Dp K F v d ∧ t d env = some env' ∧ ∀ σ', Rl K c F σ' H env' → (∀ vs : List Nat, (∀ i ∈ S, i ∈ vs) → wipe σ' vs = wipe σ vs) → Q σ' H
def tGs (K : Frag) (t : Tgs) (S : List Nat) : TGs := fun xs σ H Q => ∃ c F env ds env', Rl K c F σ H env ∧ DpAll K F xs ds ∧ t ds env = some env' ∧ ∀ σ', Rl K c F σ' H env' → (∀ vs : List Nat, (∀ i ∈ S, i ∈ vs) → wipe σ' vs = wipe σ vs) → Q σ' H
def g1 (i : Nat) : Tg := fun d env => some (env.set i (.val d))
def gsN : Tgs := fun ds env => match ds with
  | [] => some env
  | _ => none
def gsC (t : Tg) (u : Tgs) : Tgs := fun ds env => match ds with
  | d :: ds => (t d env).bind fun e => u ds e
  | [] => none
def g2 (n : Nat) (t : Tgs) : Tg := fun d env => match d with
  | .tuple ds => if ds.length = n then t ds env else none
  | _ => none
theorem PGs.imp {X : Cx} {ts : List Expr} {t u : TGs} (h : PGs X ts t) (w : ∀ v σ H Q, u v σ H Q → t v σ H Q) : PGs X ts u := ⟨fun pins s σ H v v' Q I r q => h.run pins s σ H v v' Q I r (w v σ H Q q)⟩
section
variable {X : Cx} {pos : Pos}
theorem dg_name (i : Nat) {x : Str} (hN : X.N.Nodup) (hi : X.N[i]? = some x := by rfl) (hx : Loc X.env.scope x := by first | exact Or.inl rfl | exact Or.inr rfl) (hf : X.fn x = true ∨ X.env.scope.names.lookup x = some .local := by first | exact .inl rfl | exact .inr rfl | assumption) : PG X (.Name x pos) (tG X.K (g1 i) [i]) :=
  (pg_name hN hi hx hf).imp fun v σ H Q ⟨c, F, env, d, env', R, hd, e, k⟩ => by
    cases e
    exact k _ (R.put hd i) fun vs h => wipe_set (h i (by simp))
theorem dgs_nil : PGs X [] (tGs X.K gsN []) := PGs.imp pgs_nil fun v σ H Q ⟨c, F, env, d, env', R, hd, e, k⟩ => by
  unfold gsN at e
  split at e
  · cases e
    cases hd
    exact ⟨rfl, k σ R fun _ _ => rfl⟩
  · cases e
theorem dgs_cons {e : Expr} {es : List Expr} {t : Tg} {u : Tgs} {S T : List Nat} (h1 : PG X e (tG X.K t S)) (h2 : PGs X es (tGs X.K u T))
    (hs : (assignEach (e :: es) X.env).map (·.2) = assign e X.env :: (assignEach es X.env).map (·.2) := by rfl) : PGs X (e :: es) (tGs X.K (gsC t u) (S ++ T)) := PGs.imp (pgs_cons h1 h2 hs) fun v σ H Q ⟨c, F, env, ds, env', R, hd, e, k⟩ => by
  unfold gsC at e
  split at e
  · rename_i d ds
    simp only [Option.bind_eq_some_iff] at e
    obtain ⟨e1, h3, h4⟩ := e
    cases hd with
    | @cons v vs _ _ hv hvs =>
      refine ⟨v, vs, rfl, c, F, env, d, e1, R, hv, h3, fun σ1 R1 w1 => ⟨c, F, e1, ds, env', R1, hvs, h4, fun σ2 R2 w2 => k σ2 R2 fun vs' hv' => ?_⟩⟩
      rw [w2 vs' fun i hi => hv' i (List.mem_append_right _ hi), w1 vs' fun i hi => hv' i (List.mem_append_left _ hi)]
  · cases e
theorem dg_tup {es : List Expr} {k0 : Nat} {t : Tgs} {n : Nat} {S : List Nat} (hc : X.calm = true) (h : PGs X es (tGs X.K t S))
    (hn : (assignEach es X.env).length = n := by rfl) (hst : (assignEach es X.env).findIdx? (·.1) = none := by rfl) : PG X (.Tuple es k0 pos) (tG X.K (g2 n t) S) := (pg_tup hc h hn hst).imp fun v σ H Q ⟨c, F, env, d, env', R, hd, e, k⟩ => by
  unfold g2 at e
  split at e
  · split at e
    · cases hd with
      | tup hs ha => exact ⟨_, _, rfl, sqT_mono R.sub hs, by rw [ha.len]; assumption, c, F, env, _, env', R, ha, e, k⟩
    · cases e
  · cases e
end
/-- a value that a def hands back: data, a new list, a new list of new lists -/
inductive Tv where
  | v (d : PyData)
  | l (ds : List PyData)
  | ll (dss : List (List PyData))
def dataT : Tv → PyData
  | .v d => d
  | .l ds => .list ds
  | .ll dss => .list (dss.map .list)
/-- a new list of new lists: its address, theirs, what they hold -/
def TrL (K : Frag) (F H0 H : Hp) (l : Addr) (dss : List (List PyData)) : Prop := F l = none ∧ H0 l = none ∧ ∃ (as : List Addr) (xss : List (List V)), H l = some (.lst (as.map .ref)) ∧ as.Nodup ∧ l ∉ as ∧ as.length = dss.length ∧ xss.length = dss.length ∧
  ∀ (i : Nat) (a : Addr) (xs : List V) (ds : List PyData), as[i]? = some a → xss[i]? = some xs → dss[i]? = some ds → F a = none ∧ H0 a = none ∧ H a = some (.lst xs) ∧ DpAll K F xs ds
def TrV (K : Frag) (F H0 H : Hp) (v : V) : Tv → Prop
  | .v d => Dp K F v d
  | .l ds => ∃ p xs, v = .ref p ∧ F p = none ∧ H0 p = none ∧ H p = some (.lst xs) ∧ DpAll K F xs ds
  | .ll dss => ∃ p, v = .ref p ∧ TrL K F H0 H p dss
inductive Flw where
  | nx
  | rt (d : PyData)
  | rl (ds : List PyData)
  | bk
  | ct
  | ex (cl : Str) (d : PyData)
  | tr (t : Tv)
abbrev Fs := En → Option (Flw × En)
/-- what is wished of an exception that goes out; where its class stands -/
structure XC where
  W : L2.WX
  ca : Str → Addr
def xc0 (ca : Str → Addr) : XC := ⟨fun _ _ _ _ => False, ca⟩
/-- an exception's dict -/
abbrev xdO (v : V) : HO := .xd [(("value" : Str), v)]
def Fin (K : Frag) (xc : XC) (c : C3) (F : Hp) (fl : Flw) (env : En) (D : Ends) : Prop := match fl with
  | .nx => ∀ σ F' H, Same F F' → Rl K c F' σ H env → D.nx σ H
  | .rt d => ∀ σ F' H v, Same F F' → Rl K c F' σ H env → Dp K F' v d → D.rt v H
  | .rl ds => ∀ σ F' H p xs, Same F F' → H p = none → Rl K c F' σ H env → DpAll K F' xs ds → D.rt (.ref p) (upd H p (.lst xs))
  | .bk => ∀ σ F' H, Same F F' → Rl K c F' σ H env → D.bk σ H
  | .ct => ∀ σ F' H, Same F F' → Rl K c F' σ H env → D.ct σ H
  | .ex cl d => ∀ σ F' H v dd, Same F F' → Rl K c F' σ H env → H dd = none → Dp K F' v d → xc.W (.ref (xc.ca cl)) (some dd) σ (upd H dd (xdO v))
  | .tr t => ∀ σ F' H v, Same F F' → Rl K c F' σ H env → TrV K F' c.H0 H v t → D.rt v H
theorem Fin.up {K : Frag} {xc : XC} {c : C3} {F F' : Hp} {fl : Flw} {env : En} {D : Ends} (h : Fin K xc c F fl env D) (s : Same F F') : Fin K xc c F' fl env D := by
  cases fl with
  | nx => exact fun σ G H s' R => h σ G H (s.trans s') R
  | rt d => exact fun σ G H v s' R => h σ G H v (s.trans s') R
  | rl ds => exact fun σ G H p xs s' hp R hx => h σ G H p xs (s.trans s') hp R hx
  | bk => exact fun σ G H s' R => h σ G H (s.trans s') R
  | ct => exact fun σ G H s' R => h σ G H (s.trans s') R
  | ex cl d => exact fun σ G H v dd s' R hd hv => h σ G H v dd (s.trans s') R hd hv
  | tr t => exact fun σ G H v s' R hv => h σ G H v (s.trans s') R hv
def Gs (K : Frag) (xc : XC) (f : Fs) : TS := fun D σ H => ∃ c F env fl env', Rl K c F σ H env ∧ f env = some (fl, env') ∧ Fin K xc c F fl env' D
def sNx : Fs := fun env => some (.nx, env)
def sSeq (a b : Fs) : Fs := fun env => (a env).bind fun p => match p.1 with
  | .nx => b p.2
  | _ => some p
def sSet (e : Fe) (g : Tg) : Fs := fun env => (e env).bind fun p => (g p.1 p.2).map fun z => (.nx, z)
def sOwn (e : Fl) (i : Nat) : Fs := fun env => (e env).map fun p => (.nx, p.2.set i (.own false p.1))
def sEx (e : Fe) : Fs := fun env => (e env).map fun p => (.nx, p.2)
def sRt (e : Fe) : Fs := fun env => (e env).map fun p => (.rt p.1, p.2)
def sBk : Fs := fun env => some (.bk, env)
def sIf (t : Ft) (a b : Fs) : Fs := fun env => (t env).bind fun p => if p.1 then a p.2 else b p.2
def sNever : Fs := fun _ => none
/-- xs.append(e), xs[i] = e of an owned list -/
def isOwn (env : En) (i : Nat) : Bool := match env[i]? with
  | some (.own _ _) => true
  | _ => false
def sApp (i : Nat) (e : Fe) : Fs := fun env => if isOwn env i then (e env).bind fun p => match p.2[i]? with
  | some (.own b ds) => if okN ds.length then some (.nx, p.2.set i (.own b (ds ++ [p.1]))) else none
  | _ => none else none
theorem own_of {K : Frag} {c : C3} {F H : Hp} {σ : L2.St} {env : En} {i : Nat} (R : Rl K c F σ H env) (h : isOwn env i = true) : ∃ a xs, σ[i]? = some (some (.ref a)) ∧ H a = some (.lst xs) := by
  unfold isOwn at h
  split at h
  · rename_i b ds hi
    obtain ⟨a, xs, e1, e2, e3, _⟩ := R.own i b ds hi
    exact ⟨a, xs, e1, e3⟩
  · cases h
def sPut (i : Nat) (ix e : Fe) : Fs := fun env => (e env).bind fun p => if isOwn p.2 i then (ix p.2).bind fun q => match q.1, q.2[i]? with
  | .int k, some (.own b ds) => (ixN ds.length k).map fun j => (.nx, q.2.set i (.own b (ds.set j p.1)))
  | _, _ => none else none
/-- read an owned list's item, its length, it as data for good -/
def eIxO (i : Nat) (ix : Fe) : Fe := fun env => if isOwn env i then (ix env).bind fun q => match q.1, q.2[i]? with
  | .int k, some (.own _ ds) => (atI ds k).map fun d => (d, q.2)
  | _, _ => none else none
def eLenO (i : Nat) : Fe := fun env => match env[i]? with
  | some (.own _ ds) => some (.int ds.length, env)
  | _ => none
def sFrz (i : Nat) (a : Fs) : Fs := fun env => match env[i]? with
  | some (.own false ds) => a (env.set i (.val (.list ds)))
  | _ => a env
section
variable {X : Cx} {xc : XC} {e ix : Expr} {fe fi : Fe} {fl : Fl} {st : Stmt} {rest : List Stmt} {f g : Fs} {pos : Pos}
theorem dss_nil : PSs X [] (Gs X.K xc sNx) := PSs.imp pss_nil fun D σ H ⟨c, F, env, fl, env', R, e, k⟩ => by
  cases e
  exact k σ F H (Same.refl F) R
theorem dss_one (h : PS X st (Gs X.K xc f)) : PSs X [st] (Gs X.K xc f) := pss_one h
theorem dss_cons (h : PS X st (Gs X.K xc f)) (h2 : PSs X rest (Gs X.K xc g)) : PSs X (st :: rest) (Gs X.K xc (sSeq f g)) := PSs.imp (pss_cons h h2) fun D σ H ⟨c, F, env, fl, env', R, e, k⟩ => by
  unfold sSeq at e
  simp only [Option.bind_eq_some_iff] at e
  obtain ⟨⟨f1, n1⟩, h1, h2⟩ := e
  refine ⟨c, F, env, f1, n1, R, h1, ?_⟩
  cases f1 with
  | nx => exact fun σ' F' H' s R' => ⟨c, F', n1, fl, env', R', h2, k.up s⟩
  | rt d => cases h2; exact k
  | rl d => cases h2; exact k
  | bk => cases h2; exact k
  | ct => cases h2; exact k
  | ex cl d => cases h2; exact k
  | tr t => cases h2; exact k
theorem ds_expr (he : PE X e (Ge X.K fe)) (hs : swapsWith e none pos.line X.env = pure false := by rfl) : PS X (.Expr e pos) (Gs X.K xc (sEx fe)) := PS.imp (ps_expr he hs) fun D σ H ⟨c, F, env, fl, env', R, e, k⟩ => by
  unfold sEx at e
  simp only [Option.map_eq_some_iff] at e
  obtain ⟨⟨d1, n1⟩, h1, h2⟩ := e
  obtain ⟨rfl, rfl⟩ := Prod.mk.inj h2
  exact ⟨c, F, env, d1, n1, R, h1, fun v F' H' s R' hv => k σ F' H' s R'⟩
theorem ds_break : PS X (.Break pos) (Gs X.K xc sBk) := PS.imp ps_break fun D σ H ⟨c, F, env, fl, env', R, e, k⟩ => by
  cases e
  exact k σ F H (Same.refl F) R
theorem ds_ret (he : PE X e (Ge X.K fe)) : PS X (.Return (some e) pos) (Gs X.K xc (sRt fe)) := PS.imp (ps_ret he) fun D σ H ⟨c, F, env, fl, env', R, e, k⟩ => by
  unfold sRt at e
  simp only [Option.map_eq_some_iff] at e
  obtain ⟨⟨d1, n1⟩, h1, h2⟩ := e
  obtain ⟨rfl, rfl⟩ := Prod.mk.inj h2
  exact ⟨c, F, env, d1, n1, R, h1, fun v F' H' s R' hv => k σ F' H' v s R' hv⟩
/-- return of a new list -/
def sRl (f : Fl) : Fs := fun env => (f env).map fun p => (.rl p.1, p.2)
theorem ds_retL (he : PE X e (Gf X.K fl)) : PS X (.Return (some e) pos) (Gs X.K xc (sRl fl)) := PS.imp (ps_ret he) fun D σ H ⟨c, F, env, fl, env', R, e, k⟩ => by
  unfold sRl at e
  simp only [Option.map_eq_some_iff] at e
  obtain ⟨⟨d1, n1⟩, h1, h2⟩ := e
  obtain ⟨rfl, rfl⟩ := Prod.mk.inj h2
  exact ⟨c, F, env, d1, n1, R, h1, fun p xs F' H' s hp R' hx => k σ F' H' p xs s hp R' hx⟩
theorem ds_never : PS X st (Gs X.K xc sNever) := PS.imp ps_never fun D σ H ⟨c, F, env, fl, env', R, e, k⟩ => by cases e
theorem ds_if {t : Expr} {a b : List Stmt} {ft : Ft} (ht : PT X t (Gt X.K ft)) (ha : PSs X a (Gs X.K xc f)) (hb : PSs X b (Gs X.K xc g)) : PS X (.If t a b pos) (Gs X.K xc (sIf ft f g)) := PS.imp (ps_if ht ha hb) fun D σ H ⟨c, F, env, fl, env', R, e, k⟩ => by
  unfold sIf at e
  simp only [Option.bind_eq_some_iff] at e
  obtain ⟨⟨b1, n1⟩, h1, h2⟩ := e
  refine ⟨c, F, env, b1, n1, R, h1, fun F' H' s R' => ?_⟩
  cases b1 with
  | true => exact iteT ⟨c, F', n1, fl, env', R', h2, k.up s⟩
  | false => exact iteF ⟨c, F', n1, fl, env', R', h2, k.up s⟩
theorem ds_set (i : Nat) {x : Str} {pos' : Pos} (hN : X.N.Nodup) (he : PE X e (Ge X.K fe)) (hi : X.N[i]? = some x := by rfl) (hx : Loc X.env.scope x := by first | exact Or.inl rfl | exact Or.inr rfl) (hs : swapsWith e (some (.Name x pos')) pos.line X.env = pure false := by rfl)
    (hf : X.fn x = true ∨ X.env.scope.names.lookup x = some .local := by first | exact .inl rfl | exact .inr rfl | assumption) : PS X (.Assign [.Name x pos'] e pos) (Gs X.K xc (sSet fe (g1 i))) := PS.imp (ps_set hN hi hx he hs hf) fun D σ H ⟨c, F, env, fl, env', R, e, k⟩ => by
  unfold sSet g1 at e
  simp only [Option.bind_eq_some_iff, Option.map_some, Option.some.injEq] at e
  obtain ⟨⟨d1, n1⟩, h1, h2⟩ := e
  obtain ⟨rfl, rfl⟩ := Prod.mk.inj h2
  exact ⟨c, F, env, d1, n1, R, h1, fun v F' H' s R' hv => k _ F' H' s (R'.put hv i)⟩
theorem ds_own (i : Nat) {x : Str} {pos' : Pos} (hN : X.N.Nodup) (he : PE X e (Gf X.K fl)) (hi : X.N[i]? = some x := by rfl) (hx : Loc X.env.scope x := by first | exact Or.inl rfl | exact Or.inr rfl) (hs : swapsWith e (some (.Name x pos')) pos.line X.env = pure false := by rfl)
    (hf : X.fn x = true ∨ X.env.scope.names.lookup x = some .local := by first | exact .inl rfl | exact .inr rfl | assumption) : PS X (.Assign [.Name x pos'] e pos) (Gs X.K xc (sOwn fl i)) := PS.imp (ps_set hN hi hx he hs hf) fun D σ H ⟨c, F, env, fl, env', R, e, k⟩ => by
  unfold sOwn at e
  simp only [Option.map_eq_some_iff] at e
  obtain ⟨⟨d1, n1⟩, h1, h2⟩ := e
  obtain ⟨rfl, rfl⟩ := Prod.mk.inj h2
  exact ⟨c, F, env, d1, n1, R, h1, fun p xs F' H' s hp R' hx => k _ F' _ s (R'.putOwn hp hx i)⟩
/-- target = e, the target of any form (a tuple of names) -/
theorem ds_asg {tg : Expr} {t : Tg} {S : List Nat} (he : PE X e (Ge X.K fe)) (hg : PG X tg (tG X.K t S)) (hs : swapsWithSole [tg] e pos.line X.env = pure false := by rfl) (hw : swappedStores [tg] e X.env = pure none := by rfl)
    (h1 : (assignEach [tg] X.env).map (·.2) = [assign tg X.env] := by rfl) : PS X (.Assign [tg] e pos) (Gs X.K xc (sSet fe t)) := PS.imp (ps_asg he hg hs hw h1) fun D σ H ⟨c, F, env, fl, env', R, e, k⟩ => by
  unfold sSet at e
  simp only [Option.bind_eq_some_iff, Option.map_eq_some_iff] at e
  obtain ⟨⟨d1, n1⟩, h1, z, h2, h3⟩ := e
  obtain ⟨rfl, rfl⟩ := Prod.mk.inj h3
  exact ⟨c, F, env, d1, n1, R, h1, fun v F' H' s R' hv => ⟨c, F', n1, d1, z, R', hv, h2, fun σ' R2 _ => k σ' F' H' s R2⟩⟩
/-- a, b = e1, e2 at once -/
def sPar (i j : Nat) (f : Fl) : Fs := fun env => (f env).bind fun p => match p.1 with
  | [d, e] => some (.nx, (p.2.set i (.val d)).set j (.val e))
  | _ => none
theorem ds_par (i j : Nat) {x y : Str} {a b : Expr} {px py pt : Pos} {kt k2 pt2} (hc : X.calm = true) (hN : X.N.Nodup) (ha : PA X [a, b] (Ga X.K fl)) (hi : X.N[i]? = some x := by rfl) (hj : X.N[j]? = some y := by rfl) (hij : i ≠ j := by decide)
    (hx : X.env.scope.names.lookup x = some .local := by rfl) (hy : X.env.scope.names.lookup y = some .local := by rfl)
    (hw : swappedStores [.Tuple [.Name x px, .Name y py] kt pt] (.Tuple [a, b] k2 pt2) X.env = pure (some [x, y]) := by rfl)
    (hs : swapsWithSole [.Tuple [.Name x px, .Name y py] kt pt] (.Tuple [a, b] k2 pt2) pos.line X.env = pure false := by rfl) :
    PS X (.Assign [.Tuple [.Name x px, .Name y py] kt pt] (.Tuple [a, b] k2 pt2) pos) (Gs X.K xc (sPar i j fl)) := PS.imp (ps_par hc hN hi hj hij hx hy ha hw hs) fun D σ H ⟨c, F, env, fl, env', R, e, k⟩ => by
  unfold sPar at e
  simp only [Option.bind_eq_some_iff] at e
  obtain ⟨⟨d1, n1⟩, h1, h2⟩ := e
  dsimp only at h2
  split at h2
  · cases h2
    refine ⟨c, F, env, _, _, R, h1, fun vs F' H' s R' hv => ?_⟩
    cases hv with
    | cons h3 h4 =>
      cases h4 with
      | cons h4 h5 =>
        cases h5
        exact ⟨_, _, rfl, k _ F' H' s ((R'.put h3 i).put h4 j)⟩
  · cases h2
theorem ds_app (i : Nat) {x : Str} {p2 apos cpos : Pos} (he : PE X e (Ge X.K fe)) (hN : X.N[i]? = some x := by rfl) (hv : Vis X.env.scope x := by first | exact Or.inl rfl | exact Or.inr (Or.inl rfl) | exact Or.inr (Or.inr rfl)) (hd : (x == ("__debug__" : Str)) = false := by decide)
    (hcd : (x == ("__classdict__" : Str)) = false := by decide) (hs : swapsWith (.Call (.Attribute (.Name x p2) "append" apos) [e] [] cpos) none pos.line X.env = pure false := by rfl)
    (hbase : attributeBase (.Name x p2) "append" X.env (eval (.Name x p2) X.env) = eval (.Name x p2) X.env := by rfl)
    (hfew : ((backTo cpos (starEach (e :: []) X.env)).all (fun x => !x.1) && (backToKw cpos (keywordEach [] X.env)).all (fun x => x.1.isSome)
      && decide ((e :: []).length + ([] : List Keyword).length + (if ([] : List Keyword).isEmpty then 0 else 1) < 30)) = true := by rfl)
    (hline : (apos.endLine == cpos.line) = true := by rfl) (hs2 : starEach (e :: []) X.env = (false, eval e X.env) :: starEach [] X.env := by rfl) (hplain : (backTo cpos (starEach [] X.env)).any (·.1) = false := by rfl) :
    PS X (.Expr (.Call (.Attribute (.Name x p2) "append" apos) [e] [] cpos) pos) (Gs X.K xc (sApp i fe)) :=
  PS.imp (ps_expr (pe_bm PySem.F.plainAttrs_list PySem.F.slot_list_append PySem.F.type_list_append mt_append (pe_var hN hv hd hcd) (pa_cons he pa_nil hs2) hbase hfew hline hs2 hplain) hs) fun D σ H ⟨c, F, env, fl, env', R, e, k⟩ => by
  unfold sApp at e
  by_cases ho : isOwn env i = true
  · rw [if_pos ho] at e
    simp only [Option.bind_eq_some_iff] at e
    obtain ⟨⟨d1, n1⟩, h1, h2⟩ := e
    dsimp only at h2
    split at h2
    · rename_i b ds hi
      split at h2
      · rename_i hz
        cases h2
        obtain ⟨a, ys, ha, hy⟩ := own_of R ho
        refine ⟨.ref a, ha, .inl ⟨rfl, ys, SqL.of hy⟩, c, F, env, d1, n1, R, h1, fun v F' H' s R' hv => ?_⟩
        obtain ⟨a', xs, e1, e2, e3, e4, e5, e6, e7⟩ := R'.own i b ds hi
        rw [ha] at e1
        cases e1
        refine ⟨a, xs, v, rfl, rfl, e3, ?_, ?_⟩
        · rw [e4.len]; exact okN_lt hz
        · exact k σ F' _ s (R'.write hi ha (e4.app (.cons hv .nil)))
      · cases h2
    · cases h2
  · rw [if_neg ho] at e
    cases e
theorem ds_put (i : Nat) {x : Str} {p2 apos : Pos} (he : PE X e (Ge X.K fe)) (hix : PE X ix (Ge X.K fi)) (hN : X.N[i]? = some x := by rfl) (hv : Vis X.env.scope x := by first | exact Or.inl rfl | exact Or.inr (Or.inl rfl) | exact Or.inr (Or.inr rfl)) (hd : (x == ("__debug__" : Str)) = false := by decide)
    (hcd : (x == ("__classdict__" : Str)) = false := by decide)
    (ha : ∀ v, assign (.Subscript (.Name x p2) ix apos) X.env v = (do
      let ov ← holding [v] (eval (.Name x p2) X.env)
      let iv ← holding [v, ov] (eval ix X.env)
      standAt apos
      holding [v, ov, iv] (setItem ov iv v)
      release [v, ov, iv] []) := by intro _; rfl)
    (hs : swapsWithSole [.Subscript (.Name x p2) ix apos] e pos.line X.env = pure false := by rfl) (hw : swappedStores [.Subscript (.Name x p2) ix apos] e X.env = pure none := by rfl)
    (h1 : (assignEach [.Subscript (.Name x p2) ix apos] X.env).map (·.2) = [assign (.Subscript (.Name x p2) ix apos) X.env] := by rfl) :
    PS X (.Assign [.Subscript (.Name x p2) ix apos] e pos) (Gs X.K xc (sPut i fi fe)) :=
  PS.imp (ps_asg he (pg_sub (pe_var hN hv hd hcd) hix set_list ha) hs hw h1) fun D σ H ⟨c, F, env, fl, env', R, e, k⟩ => by
  unfold sPut at e
  simp only [Option.bind_eq_some_iff] at e
  obtain ⟨⟨d1, n1⟩, h1, h2⟩ := e
  by_cases ho : isOwn n1 i = true
  · dsimp only at h2
    rw [if_pos ho] at h2
    simp only [Option.bind_eq_some_iff] at h2
    obtain ⟨⟨d2, n2⟩, h2, h3⟩ := h2
    dsimp only at h3
    split at h3
    · rename_i kk b ds hi
      simp only [Option.map_eq_some_iff] at h3
      obtain ⟨j, hj, h4⟩ := h3
      obtain ⟨rfl, rfl⟩ := Prod.mk.inj h4
      refine ⟨c, F, env, d1, n1, R, h1, fun v F1 H1 s1 R1 p1 => ?_⟩
      obtain ⟨a, ys, ha, hy⟩ := own_of R1 ho
      refine ⟨.ref a, ha, c, F1, n1, _, n2, R1, h2, fun w F2 H2 s2 R2 p2 => ?_⟩
      cases p2
      obtain ⟨a', xs, e1, e2, e3, e4, e5, e6, e7⟩ := R2.own i b ds hi
      rw [ha] at e1
      cases e1
      refine ⟨a, xs, kk, j, rfl, rfl, e3, by rw [e4.len]; exact hj, ?_⟩
      exact k σ F2 _ (s1.trans s2) (R2.write hi ha (e4.set (p1.up s2) j))
    · cases h3
  · dsimp only at h2
    rw [if_neg ho] at h2
    cases h2
theorem de_ixO (i : Nat) {x : Str} {p2 : Pos} (hix : PE X ix (Ge X.K fi)) (hN : X.N[i]? = some x := by rfl) (hv : Vis X.env.scope x := by first | exact Or.inl rfl | exact Or.inr (Or.inl rfl) | exact Or.inr (Or.inr rfl)) (hd : (x == ("__debug__" : Str)) = false := by decide)
    (hcd : (x == ("__classdict__" : Str)) = false := by decide) (hs : PlainIx ix := by exact fun _ _ => rfl) : PE X (.Subscript (.Name x p2) ix pos) (Ge X.K (eIxO i fi)) :=
  PE.imp (pe_ix ix_list (pe_var hN hv hd hcd) hix hs) fun σ H Q ⟨c, F, env, d, env', R, e, k⟩ => by
  unfold eIxO at e
  by_cases ho : isOwn env i = true
  · rw [if_pos ho] at e
    simp only [Option.bind_eq_some_iff] at e
    obtain ⟨⟨d1, n1⟩, h1, h2⟩ := e
    dsimp only at h2
    split at h2
    · rename_i kk b ds hi
      simp only [Option.map_eq_some_iff] at h2
      obtain ⟨y, hy, h3⟩ := h2
      obtain ⟨rfl, rfl⟩ := Prod.mk.inj h3
      obtain ⟨a, ys, ha, hys⟩ := own_of R ho
      refine ⟨.ref a, ha, c, F, env, _, _, R, h1, fun w F2 H2 s2 R2 p2 => ?_⟩
      cases p2
      obtain ⟨a', xs, e1, e2, e3, e4, e5, e6, e7⟩ := R2.own i b ds hi
      rw [ha] at e1
      cases e1
      obtain ⟨u, h4, h5⟩ := atI_dp e4 hy
      exact ⟨a, xs, kk, u, rfl, rfl, SqL.of e3, h4, k u F2 H2 s2 R2 h5⟩
    · cases h2
  · rw [if_neg ho] at e
    cases e
theorem de_lenO (i : Nat) {x : Str} {p p2 : Pos} (hg : Gl X "len") (hm : X.mg "len" = none) (hN : X.N[i]? = some x := by rfl) (hv : Vis X.env.scope x := by first | exact Or.inl rfl | exact Or.inr (Or.inl rfl) | exact Or.inr (Or.inr rfl)) (hd : (x == ("__debug__" : Str)) = false := by decide)
    (hcd : (x == ("__classdict__" : Str)) = false := by decide) (he : starEach (Expr.Name x p2 :: []) X.env = (false, eval (Expr.Name x p2) X.env) :: starEach [] X.env := by rfl) (hpl : (backTo pos (starEach [] X.env)).any (·.1) = false := by rfl) :
    PE X (.Call (.Name "len" p) [.Name x p2] [] pos) (Ge X.K (eLenO i)) :=
  PE.imp (pe_callB call_len_seq hg hm PySem.boot_len (pa_cons (pe_var hN hv hd hcd) pa_nil he) (by decide) (by decide) he hpl) fun σ H Q ⟨c, F, env, d, env', R, e, k⟩ => by
  unfold eLenO at e
  split at e
  · rename_i b ds hi
    cases e
    obtain ⟨a, xs, e1, e2, e3, e4, e5, e6, e7⟩ := R.own i b ds hi
    refine ⟨.ref a, e1, a, xs, rfl, .inl (SqL.of e3), ?_⟩
    rw [e4.len]
    exact k _ F H (Same.refl F) R (.int _)
  · cases e
theorem ds_frz (i : Nat) (h : PS X st (Gs X.K xc f)) : PS X st (Gs X.K xc (sFrz i f)) := PS.imp h fun D σ H ⟨c, F, env, fl, env', R, e, k⟩ => by
  unfold sFrz at e
  split at e
  · rename_i ds hi
    obtain ⟨F', s, R'⟩ := R.freeze hi
    exact ⟨c, F', _, fl, env', R', e, k.up s⟩
  · exact ⟨c, F, env, fl, env', R, e, k⟩
def sAug (i : Nat) (g : PyData → PyData → Option PyData) (e : Fe) : Fs := fun env => match env[i]? with
  | some (.val d) => (e env).bind fun p => (g d p.1).map fun z => (.nx, p.2.set i (.val z))
  | _ => none
end
end Dn
set_option Elab.async false
set_option linter.all false
set_option maxRecDepth 100000
set_option maxHeartbeats 2000000
namespace Zm
open PySem
/-- what zip asks of an iterator at it, over the items xs at l -/
structure Nx (it l : Addr) (xs : Array Value) (I : Heap → Nat → Prop) (S : Heap → Prop) : Prop where
  item : ∀ {prog : Program} {w : World} {A : Around} {E : Value → Shared → Prop} {s : Shared} {k : Nat} {x : Value} {Q : Value → Shared → Prop}, I s.heap k → S s.heap → xs[k]? = some x →
    (∀ g, I g (k + 1) → Heap.SameBut it s.heap g → Q x { s with heap := g }) → wpAny (model prog w) A (Builtin.SmallTypes.nextOf (.ref it)) Q E s
  over : ∀ {prog : Program} {w : World} {A : Around} {E : Value → Shared → Prop} {s : Shared} {k : Nat} {Q : Value → Shared → Prop}, A.handled = none → I s.heap k → S s.heap → xs[k]? = none →
    (∀ g e, Heap.ExtBut it s.heap g → (∃ o, g.get? e = some o ∧ o.cls = .type "StopIteration") → E (.ref e) { s with heap := g }) → wpAny (model prog w) A (Builtin.SmallTypes.nextOf (.ref it)) Q E s
  it' : ∀ {g g' : Heap} {k : Nat} {c : Addr}, I g k → Heap.ExtBut c g g' → it ≠ c → I g' k
  sq' : ∀ {g g' : Heap} {c : Addr}, S g → Heap.ExtBut c g g' → l ≠ c → S g'
  at' : ∀ {g g' : Heap} {k : Nat}, I g k → (∀ o, g.get? it = some o → g'.get? it = some o) → I g' k
  lt : ∀ {g : Heap} {k : Nat}, I g k → it < g.objs.size
theorem nxL (it l : Addr) (xs : Array Value) : Nx it l xs (fun g k => g.IsListIter it l k) (fun g => g.IsList l xs) where
  item := fun a b c d => wpAny_nextOf_list_item a b c d
  over := fun hh a b c d => wpAny_nextOf_list_end hh a b c d
  it' := fun a b c => a.extBut b c
  sq' := fun a b c => a.extBut b c
  at' := fun a b => a.at b
  lt := fun ⟨_, a, _⟩ => Heap.lt_size a
theorem nxT (it l : Addr) (xs : Array Value) : Nx it l xs (fun g k => g.IsTupleIter it l k) (fun g => g.IsTuple l xs) where
  item := fun a b c d => RZ.nextOf_tuple_item a b c d
  over := fun hh a b c d => RZ.nextOf_tuple_end hh a b c d
  it' := fun a b c => a.extBut b c
  sq' := fun a b c => a.extBut b c
  at' := fun a b => a.at b
  lt := fun ⟨_, a, _⟩ => Heap.lt_size a
section
variable {prog : Program} {w : World} {A : Around} {E : Value → Shared → Prop} {s : Shared} {z TI TO i1 i2 l1 l2 : Addr} {xs ys : Array Value} {I J : Heap → Nat → Prop} {S T : Heap → Prop}
theorem turn_item {k m : Nat} {x y a b : Value} {Q : Value → Shared → Prop} (N1 : Nx i1 l1 xs I S) (N2 : Nx i2 l2 ys J T) (D : ZipApart z TI TO i1 i2 l1 l2) (cz : IsZip s.heap z TI TO .none) (cI : IsPair s.heap TI (.ref i1) (.ref i2)) (cO : IsPair s.heap TO a b)
    (a1 : I s.heap k) (a2 : J s.heap m) (b1 : S s.heap) (b2 : T s.heap) (hx : xs[k]? = some x) (hy : ys[m]? = some y)
    (hq : ∀ g, IsZip g z TI TO (rawInt s.heap.objs.size) → IsPair g TO x y → I g (k + 1) → J g (m + 1) → IsPair g s.heap.objs.size x y → g.objs.size = s.heap.objs.size + 1 → (∀ c o, c ≠ z → c ≠ TO → c ≠ i1 → c ≠ i2 → s.heap.get? c = some o → g.get? c = some o) → Q (.ref s.heap.objs.size) { s with heap := g }) :
    wpAny (model prog w) A (Builtin.«zip.__next__» ⟨[.ref z], []⟩) (fun fl s' => ∃ v, fl = .done (.ret v) ∧ Q v s') E s := by
  show wpAny _ _ (field (.ref z) 2 >>= _) _ _ _; refine wpAny_bind (wpAny_field cz rfl (x := .bool false) rfl ?_)
  show wpAny _ _ (field (.ref z) 3 >>= _) _ _ _; refine wpAny_bind (wpAny_field cz rfl (x := .ref TI) rfl ?_); refine wpAny_bind (wpAny_seqItems cI rfl ?_)
  show wpAny _ _ (Builtin.SmallTypes.ownedTupleIsFree (.ref z) >>= _) _ _ _; refine wpAny_bind ?_; unfold Builtin.SmallTypes.ownedTupleIsFree
  refine wpAny_bind (wpAny_field cz rfl (x := .none) rfl (wpAny_pure ?_)); simp only [if_true]; refine wpAny_bind (wpAny_rule ?_); refine wpAny_bind (wpAny_field cz rfl (x := .ref TO) rfl ?_)
  refine wpAny_bind (wpAny_setField_rec cz (by simp) fun g1 cz1 u1 => ?_); replace cz1 : IsZip g1 z TI TO .ellipsis := cz1
  refine wpAny_bind ?_; simp only [List.zipIdx_cons, List.zipIdx_nil, List.forIn_cons, List.forIn_nil]
  -- the first one's next
  refine wpAny_bind (wpAny_bind (wpAny_onRaise ?_)); show wpAny _ _ (Builtin.SmallTypes.nextOf (.ref i1) >>= _) _ _ _
  refine wpAny_bind (N1.item (N1.it' a1 u1.extBut D.i1z) (N1.sq' b1 u1.extBut D.l1z) hx fun g2 a1' u2 => wpAny_pure ?_)
  have cO2 : IsPair g2 TO a b := u2.extBut _ _ D.TOi1 (u1.extBut _ _ D.TOz cO)
  refine wpAny_bind (wpAny_seqItems cO2 rfl ?_); refine wpAny_bind (wpAny_updateSeq_pair cO2 fun g3 cO3 u3 => ?_); replace cO3 : IsPair g3 TO x b := cO3; refine wpAny_bind (wpAny_letGo (wpAny_pure ?_))
  -- the second one's next
  refine wpAny_bind (wpAny_bind (wpAny_onRaise ?_)); show wpAny _ _ (Builtin.SmallTypes.nextOf (.ref i2) >>= _) _ _ _
  refine wpAny_bind (N2.item (N2.it' (N2.it' (N2.it' a2 u1.extBut D.i2z) u2.extBut D.i12.symm) u3.extBut D.TOi2.symm) (N2.sq' (N2.sq' (N2.sq' b2 u1.extBut D.l2z) u2.extBut D.l2i1) u3.extBut D.l2TO) hy fun g4 a2' u4 => wpAny_pure ?_)
  have cO4 : IsPair g4 TO x b := u4.extBut _ _ D.TOi2 cO3
  refine wpAny_bind (wpAny_seqItems cO4 rfl ?_); refine wpAny_bind (wpAny_updateSeq_pair cO4 fun g5 cO5 u5 => ?_); replace cO5 : IsPair g5 TO x y := cO5; refine wpAny_bind (wpAny_letGo (wpAny_pure (wpAny_pure ?_)))
  -- the pair handed out
  refine wpAny_bind (wpAny_seqItems cO5 rfl ?_); refine wpAny_bind (wpAny_newTuple ?_)
  have e5 : g5.objs.size = s.heap.objs.size := by rw [u5.1, u4.1, u3.1, u2.1, u1.1]
  have cz5 : IsZip g5 z TI TO .ellipsis := u5.extBut _ _ D.TOz.symm (u4.extBut _ _ D.i2z.symm (u3.extBut _ _ D.TOz.symm (u2.extBut _ _ D.i1z.symm cz1)))
  have old : ∀ c o, c ≠ z → c ≠ TO → c ≠ i1 → c ≠ i2 → s.heap.get? c = some o → g5.get? c = some o := fun c o n1 n2 n3 n4 e => u5.extBut _ _ n2 (u4.extBut _ _ n4 (u3.extBut _ _ n2 (u2.extBut _ _ n3 (u1.extBut _ _ n1 e))))
  have a15 : I g5 (k + 1) := N1.it' (N1.it' (N1.it' a1' u3.extBut D.TOi1.symm) u4.extBut D.i12) u5.extBut D.TOi1.symm
  have a25 : J g5 (m + 1) := N2.it' a2' u5.extBut D.TOi2.symm
  have lz : z < g5.objs.size := Heap.lt_size cz5
  show wpAny _ _ (Builtin.SmallTypes.ownedTupleHandOut (.ref z) (.ref g5.objs.size) >>= _) _ _ _; refine wpAny_bind ?_; unfold Builtin.SmallTypes.ownedTupleHandOut
  have cz6 : IsZip (g5.push { cls := .type "tuple", data := .seq #[x, y] }) z TI TO .ellipsis := Heap.get?_push_of_some _ cz5
  refine wpAny_bind (wpAny_setField_rec cz6 (by simp) fun g7 cz7 u7 => ?_); replace cz7 : IsZip g7 z TI TO (rawInt g5.objs.size) := cz7
  refine wpAny_setField_rec cz7 (by simp) fun g8 cz8 u8 => ?_; replace cz8 : IsZip g8 z TI TO (rawInt g5.objs.size) := cz8
  have up : ∀ c o, c ≠ z → g5.get? c = some o → g8.get? c = some o := fun c o n1 e => u8.extBut _ _ n1 (u7.extBut _ _ n1 (Heap.get?_push_of_some _ e))
  have cT : IsPair g8 g5.objs.size x y := u8.extBut _ _ (Nat.ne_of_gt lz) (u7.extBut _ _ (Nat.ne_of_gt lz) (Heap.get?_push_size _ rfl))
  have e8 : g8.objs.size = g5.objs.size + 1 := by rw [u8.1, u7.1, Heap.size_push]
  rw [e5] at cz8 cT e8; refine wpAny_pure ⟨_, rfl, ?_⟩; show Q (.ref g5.objs.size) _; rw [e5]
  exact hq g8 cz8 (up _ _ D.TOz cO5) (N1.at' a15 fun o e => up _ o D.i1z e) (N2.at' a25 fun o e => up _ o D.i2z e) cT e8 fun c o n1 n2 n3 n4 e => up c o n1 (old c o n1 n2 n3 n4 e)
theorem turn_over {k m : Nat} {a b : Value} {Q : Fin → Shared → Prop} (N1 : Nx i1 l1 xs I S) (N2 : Nx i2 l2 ys J T) (hh : A.handled = none) (D : ZipApart z TI TO i1 i2 l1 l2) (cz : IsZip s.heap z TI TO .none) (cI : IsPair s.heap TI (.ref i1) (.ref i2)) (cO : IsPair s.heap TO a b)
    (a1 : I s.heap k) (a2 : J s.heap m) (b1 : S s.heap) (b2 : T s.heap) (he : xs[k]? = none ∨ ys[m]? = none)
    (hq : ∀ g e, (∀ c o, c ≠ z → c ≠ TO → c ≠ i1 → c ≠ i2 → s.heap.get? c = some o → g.get? c = some o) → (∃ o, g.get? e = some o ∧ o.cls = .type "StopIteration") → E (.ref e) { s with heap := g }) :
    wpAny (model prog w) A (Builtin.«zip.__next__» ⟨[.ref z], []⟩) Q E s := by
  show wpAny _ _ (field (.ref z) 2 >>= _) _ _ _; refine wpAny_bind (wpAny_field cz rfl (x := .bool false) rfl ?_)
  show wpAny _ _ (field (.ref z) 3 >>= _) _ _ _; refine wpAny_bind (wpAny_field cz rfl (x := .ref TI) rfl ?_); refine wpAny_bind (wpAny_seqItems cI rfl ?_)
  show wpAny _ _ (Builtin.SmallTypes.ownedTupleIsFree (.ref z) >>= _) _ _ _; refine wpAny_bind ?_; unfold Builtin.SmallTypes.ownedTupleIsFree
  refine wpAny_bind (wpAny_field cz rfl (x := .none) rfl (wpAny_pure ?_)); simp only [if_true]; refine wpAny_bind (wpAny_rule ?_); refine wpAny_bind (wpAny_field cz rfl (x := .ref TO) rfl ?_)
  refine wpAny_bind (wpAny_setField_rec cz (by simp) fun g1 cz1 u1 => ?_); replace cz1 : IsZip g1 z TI TO .ellipsis := cz1
  refine wpAny_bind ?_; simp only [List.zipIdx_cons, List.zipIdx_nil, List.forIn_cons, List.forIn_nil]
  refine wpAny_bind (wpAny_bind (wpAny_onRaise ?_)); show wpAny _ _ (Builtin.SmallTypes.nextOf (.ref i1) >>= _) _ _ _
  cases hx : xs[k]? with
  | none =>
    refine wpAny_bind (N1.over hh (N1.it' a1 u1.extBut D.i1z) (N1.sq' b1 u1.extBut D.l1z) hx fun g2 e u2 ⟨oe, q1, q2⟩ => ?_)
    have cz2 : IsZip g2 z TI TO .ellipsis := u2 _ _ D.i1z.symm cz1
    have nez : e ≠ z := fun q => by subst q; rw [cz2] at q1; cases q1; simp at q2
    refine wpAny_setField_rec cz2 (by simp) fun g3 _ u3 => hq g3 e (fun c o n1 _ n3 _ q => u3.extBut _ _ n1 (u2 _ _ n3 (u1.extBut _ _ n1 q))) ⟨oe, u3.extBut _ _ nez q1, q2⟩
  | some x =>
    have hy : ys[m]? = none := he.elim (fun q => by rw [hx] at q; cases q) id
    refine wpAny_bind (N1.item (N1.it' a1 u1.extBut D.i1z) (N1.sq' b1 u1.extBut D.l1z) hx fun g2 a1' u2 => wpAny_pure ?_)
    have cO2 : IsPair g2 TO a b := u2.extBut _ _ D.TOi1 (u1.extBut _ _ D.TOz cO)
    refine wpAny_bind (wpAny_seqItems cO2 rfl ?_); refine wpAny_bind (wpAny_updateSeq_pair cO2 fun g3 cO3 u3 => ?_); refine wpAny_bind (wpAny_letGo (wpAny_pure ?_))
    refine wpAny_bind (wpAny_bind (wpAny_onRaise ?_)); show wpAny _ _ (Builtin.SmallTypes.nextOf (.ref i2) >>= _) _ _ _
    refine wpAny_bind (N2.over hh (N2.it' (N2.it' (N2.it' a2 u1.extBut D.i2z) u2.extBut D.i12.symm) u3.extBut D.TOi2.symm) (N2.sq' (N2.sq' (N2.sq' b2 u1.extBut D.l2z) u2.extBut D.l2i1) u3.extBut D.l2TO) hy fun g4 e u4 ⟨oe, q1, q2⟩ => ?_)
    have cz4 : IsZip g4 z TI TO .ellipsis := u4 _ _ D.i2z.symm (u3.extBut _ _ D.TOz.symm (u2.extBut _ _ D.i1z.symm cz1))
    have nez : e ≠ z := fun q => by subst q; rw [cz4] at q1; cases q1; simp at q2
    refine wpAny_setField_rec cz4 (by simp) fun g5 _ u5 => hq g5 e (fun c o n1 n2 n3 n4 q => u5.extBut _ _ n1 (u4 _ _ n4 (u3.extBut _ _ n2 (u2.extBut _ _ n3 (u1.extBut _ _ n1 q))))) ⟨oe, u5.extBut _ _ nez q1, q2⟩
theorem next_item {k m : Nat} {x y a b : Value} {Q : Option Value → Shared → Prop} (N1 : Nx i1 l1 xs I S) (N2 : Nx i2 l2 ys J T) (D : ZipApart z TI TO i1 i2 l1 l2) (cz : IsZip s.heap z TI TO .none) (cI : IsPair s.heap TI (.ref i1) (.ref i2)) (cO : IsPair s.heap TO a b)
    (a1 : I s.heap k) (a2 : J s.heap m) (b1 : S s.heap) (b2 : T s.heap) (hx : xs[k]? = some x) (hy : ys[m]? = some y)
    (hq : ∀ g, IsZip g z TI TO (rawInt s.heap.objs.size) → IsPair g TO x y → I g (k + 1) → J g (m + 1) → IsPair g s.heap.objs.size x y → g.objs.size = s.heap.objs.size + 1 → (∀ c o, c ≠ z → c ≠ TO → c ≠ i1 → c ≠ i2 → s.heap.get? c = some o → g.get? c = some o) → Q (some (.ref s.heap.objs.size)) { s with heap := g }) : wpAny (model prog w) A (pyNext (.ref z)) Q E s := by
  have ty : s.TypeIs (.ref z) "zip" := ⟨_, cz, rfl⟩
  unfold pyNext
  exact wpAny_bind (wpAny_attempt (wpAny_callSpecial?_slot (name := Str.ofString "__next__") ty F.slot_zip_next (wpAny_call_entry F.slot_zip_next ty F.entry_zip_next (turn_item N1 N2 D cz cI cO a1 a2 b1 b2 hx hy fun g c1 c2 c3 c4 c5 c6 c7 => wpAny_pure (hq g c1 c2 c3 c4 c5 c6 c7)) (F.args_zip_next_1 _))))
theorem next_over {k m : Nat} {a b : Value} {Q : Option Value → Shared → Prop} (N1 : Nx i1 l1 xs I S) (N2 : Nx i2 l2 ys J T) (hh : A.handled = none) (D : ZipApart z TI TO i1 i2 l1 l2) (cz : IsZip s.heap z TI TO .none) (cI : IsPair s.heap TI (.ref i1) (.ref i2)) (cO : IsPair s.heap TO a b)
    (a1 : I s.heap k) (a2 : J s.heap m) (b1 : S s.heap) (b2 : T s.heap) (he : xs[k]? = none ∨ ys[m]? = none)
    (hq : ∀ g, (∀ c o, c ≠ z → c ≠ TO → c ≠ i1 → c ≠ i2 → s.heap.get? c = some o → g.get? c = some o) → Q none { s with heap := g }) : wpAny (model prog w) A (pyNext (.ref z)) Q E s := by
  have ty : s.TypeIs (.ref z) "zip" := ⟨_, cz, rfl⟩
  unfold pyNext
  refine wpAny_bind (wpAny_attempt (wpAny_callSpecial?_slot (name := Str.ofString "__next__") ty F.slot_zip_next (wpAny_call_entry F.slot_zip_next ty F.entry_zip_next (turn_over N1 N2 hh D cz cI cO a1 a2 b1 b2 he fun g e kp ⟨o, q1, q2⟩ => ?_) (F.args_zip_next_1 _))))
  exact wpAny_bind (wpAny_isInstance (T := "StopIteration") (b := true) ⟨o, q1, q2⟩ isSubtype_stop (wpAny_pure (hq _ kp)))
end
abbrev mk1 (h : Heap) (l1 : Addr) : Heap := h.push { cls := .type "tuple_iterator", data := .fields #[.ref l1, .int 0 0] }
abbrev mk2 (h : Heap) (l1 l2 : Addr) : Heap := (mk1 h l1).push { cls := .type "list_iterator", data := .fields #[.ref l2, .int 0 0] }
abbrev mk3 (h : Heap) (l1 l2 : Addr) : Heap := (mk2 h l1 l2).push { cls := .type "tuple", data := .seq #[.ref h.objs.size, .ref (mk1 h l1).objs.size] }
abbrev mk4 (h : Heap) (l1 l2 : Addr) : Heap := (mk3 h l1 l2).push { cls := .type "tuple", data := .seq #[.none, .none] }
abbrev mk5 (h : Heap) (l1 l2 : Addr) : Heap := (mk4 h l1 l2).push { cls := .type "zip", data := .fields #[.none, .bool false, .bool false, .ref (mk2 h l1 l2).objs.size, .ref (mk3 h l1 l2).objs.size] }
theorem meets_new (l1 l2 : Addr) (xs ys : Array Value) : Meets (Builtin.«zip.__new__» ⟨[.type "zip", .ref l1, .ref l2], []⟩) (fun _ R s => s.heap.IsTuple l1 xs ∧ s.heap.IsList l2 ys ∧ R (.ok (.ret (.ref (mk4 s.heap l1 l2).objs.size))) { s with heap := mk5 s.heap l1 l2 }) :=
  .of_wp fun prog w A R s h => by
    obtain ⟨hp, g, d, tk, os⟩ := s; obtain ⟨c1, c2, h⟩ := h; have hsub := sub_zip
    have hL1 : Heap.IsTuple (Shared.heap ⟨hp, g, d, tk, os⟩) l1 xs := c1
    have hL2 : Heap.IsList (Shared.heap ⟨mk1 hp l1, g, d, tk, os⟩) l2 ys := Heap.IsList.push c2 _
    wp_walk using wpAny_pyIter_tuple hL1, wpAny_pyIter_list hL2
    exact ⟨_, rfl, h⟩
end Zm
set_option Elab.async false
set_option linter.all false
set_option maxRecDepth 100000
set_option maxHeartbeats 2000000
namespace Zm
open PySem
section
variable {prog : Program} {w : World} {A : Around} {E : Value → Shared → Prop} {s : Shared}
theorem call_mixed {l1 l2 : Addr} {xs ys : Array Value} {Q : Value → Shared → Prop} (c1 : s.heap.IsTuple l1 xs) (c2 : s.heap.IsList l2 ys)
    (h : ∀ g, IsZip g (s.heap.objs.size + 4) (s.heap.objs.size + 2) (s.heap.objs.size + 3) .none → IsPair g (s.heap.objs.size + 2) (.ref s.heap.objs.size) (.ref (s.heap.objs.size + 1)) → IsPair g (s.heap.objs.size + 3) .none .none →
      g.IsTupleIter s.heap.objs.size l1 0 → g.IsListIter (s.heap.objs.size + 1) l2 0 → g.objs.size = s.heap.objs.size + 5 → (∀ c o, s.heap.get? c = some o → g.get? c = some o) → Q (.ref (s.heap.objs.size + 4)) { s with heap := g }) :
    wpAny (model prog w) A (call (.type "zip") [.ref l1, .ref l2]) Q E s := by
  refine callType_new F.called_zip (by decide) (F.typeCall_zip_2 _ _) (F.newCall_zip_2 _ _) (fun o => F.args_object_init_3 o _ _) F.entry_zip_new (meets_new l1 l2 xs ys) ⟨c1, c2, ?_⟩
  have k1 : (mk1 s.heap l1).objs.size = s.heap.objs.size + 1 := Heap.size_push ..
  have k2 : (mk2 s.heap l1 l2).objs.size = s.heap.objs.size + 2 := by rw [Heap.size_push, k1]
  have k3 : (mk3 s.heap l1 l2).objs.size = s.heap.objs.size + 3 := by rw [Heap.size_push, k2]
  have k4 : (mk4 s.heap l1 l2).objs.size = s.heap.objs.size + 4 := by rw [Heap.size_push, k3]
  have k5 : (mk5 s.heap l1 l2).objs.size = s.heap.objs.size + 5 := by rw [Heap.size_push, k4]
  have p5 : (mk5 s.heap l1 l2).get? (mk4 s.heap l1 l2).objs.size = some _ := Heap.get?_push_size _ rfl
  have p4 : (mk5 s.heap l1 l2).get? (mk3 s.heap l1 l2).objs.size = some _ := Heap.get?_push_of_some _ (Heap.get?_push_size _ rfl)
  have p3 : (mk5 s.heap l1 l2).get? (mk2 s.heap l1 l2).objs.size = some _ := Heap.get?_push_of_some _ (Heap.get?_push_of_some _ (Heap.get?_push_size _ rfl))
  have p2 : (mk5 s.heap l1 l2).get? (mk1 s.heap l1).objs.size = some _ := Heap.get?_push_of_some _ (Heap.get?_push_of_some _ (Heap.get?_push_of_some _ (Heap.get?_push_size _ rfl)))
  have p1 : (mk5 s.heap l1 l2).get? s.heap.objs.size = some _ := Heap.get?_push_of_some _ (Heap.get?_push_of_some _ (Heap.get?_push_of_some _ (Heap.get?_push_of_some _ (Heap.get?_push_size _ rfl))))
  show _ ∧ _
  rw [k2, k3, k4] at p5; rw [k1, k2] at p3; rw [k3] at p4; rw [k1] at p2; rw [k4]
  exact ⟨⟨_, p5, rfl⟩, h _ p5 p3 p4 ⟨_, p1, rfl, rfl⟩ ⟨_, p2, rfl, rfl⟩ k5 fun c o q => Heap.get?_push_of_some _ (Heap.get?_push_of_some _ (Heap.get?_push_of_some _ (Heap.get?_push_of_some _ (Heap.get?_push_of_some _ q))))⟩
end
open PySem.Spec PyProof.Rows L2
/-- the tuple at a, the list at b, their items in new pairs -/
def ItM (K : PySem.W.Frag) (a b : Addr) : It :=
  ⟨fun i H => ∃ (xs ys : List V) (x y : V), SqT K H a xs ∧ SqL K H b ys ∧ xs[i]? = some x ∧ ys[i]? = some y,
   fun i H v G => ∃ N x y, v = .ref N ∧ H N = none ∧ G = upd H N (.tup [x, y]) ∧ (∀ xs, SqT K H a xs → xs[i]? = some x) ∧ ∀ ys, SqL K H b ys → ys[i]? = some y,
   fun i H => ∃ xs ys : List V, SqT K H a xs ∧ SqL K H b ys ∧ (xs.length ≤ i ∨ ys.length ≤ i)⟩
theorem turns {P : Program} {w : World} {K : PySem.W.Frag} {elts : List Expr} {kk : Nat} {tpos : Pos} {a b z TI TO i1 i2 : Addr} (D : ZipApart z TI TO i1 i2 a b) :
    Turn P w K (.Tuple elts kk tpos) (ItM K a b) [z, TI, TO, i1, i2] z (fun i g => IsZip g z TI TO .none ∧ IsPair g TI (.ref i1) (.ref i2) ∧ (∃ x y, IsPair g TO x y) ∧ g.IsTupleIter i1 a i ∧ g.IsListIter i2 b i) where
  mem := by simp
  obj := fun i g ⟨cz, cI, ⟨x, y, cO⟩, ⟨o1, e1, _, d1⟩, ⟨o2, e2, _, d2⟩⟩ c hc => by
    rcases (show c = z ∨ c = TI ∨ c = TO ∨ c = i1 ∨ c = i2 by simpa using hc) with rfl | rfl | rfl | rfl | rfl
    · exact ⟨_, cz, fun v q => nomatch q⟩
    · exact ⟨_, cI, fun v q => nomatch q⟩
    · exact ⟨_, cO, fun v q => nomatch q⟩
    · exact ⟨o1, e1, fun v q => by rw [d1] at q; cases q⟩
    · exact ⟨o2, e2, fun v q => by rw [d2] at q; cases q⟩
  keep := fun i g g' ⟨cz, cI, ⟨x, y, cO⟩, a1, a2⟩ k => ⟨k z (by simp) _ cz, k TI (by simp) _ cI, ⟨x, y, k TO (by simp) _ cO⟩, a1.at fun o q => k i1 (by simp) o q, a2.at fun o q => k i2 (by simp) o q⟩
  item := by
    intro X hP hw hK hc i pins s σ H E I hf st hg
    subst hP hw hK
    obtain ⟨cz, cI, ⟨x0, y0, cO⟩, a1, a2⟩ := st
    obtain ⟨xs, ys, x, y, qx, qy, hx, hy⟩ := hg
    obtain ⟨its, rv, p, _⟩ := I.tuple qx
    obtain ⟨jts, rv2, p2, _⟩ := I.list qy
    obtain ⟨u, hu, ru⟩ := rv.get hx
    obtain ⟨u2, hu2, ru2⟩ := rv2.get hy
    have lz : z < s.heap.objs.size := Heap.lt_size cz
    refine next_item (nxT i1 a its.toArray) (nxL i2 b jts.toArray) D cz cI cO a1 a2 p p2.isList (x := u) (y := u2) (by simpa using hu) (by simpa using hu2) fun g z' TO' a1' a2' cT hsz kp => ?_
    refine ⟨_, rfl, wpAny_letOwnedTupleGo_zip (s := { s with heap := g }) z' fun g' z'' sb => ?_⟩
    have cT2 : g'.get? s.heap.objs.size = some { cls := .type "tuple", data := .seq #[u, u2] } := (sb.2 _ (Nat.ne_of_gt lz)).trans cT
    have new : ObjOk X.prog X.w (upd H s.heap.objs.size (.tup [x, y])) g' s.heap.objs.size (.tup [x, y]) := ⟨by show 2 ≤ sizeLine; decide, [u, u2], .cons ru (.cons ru2 .nil), ⟨_, cT2, rfl, _, rfl⟩⟩
    have all : ∀ c o, c ∉ [z, TI, TO, i1, i2] → s.heap.get? c = some o → g'.get? c = some o := fun c o hb q => by
      simp only [List.mem_cons, List.not_mem_nil, or_false, not_or] at hb
      exact (sb.2 c hb.1).trans (kp c o hb.1 hb.2.2.1 hb.2.2.2.1 hb.2.2.2.2 q)
    have I1 : Inv X pins σ (upd H s.heap.objs.size (.tup [x, y])) { s with heap := g' } := I.turnedNew (t' := s.toks) (ch := [z, TI, TO, i1, i2]) all hf (Nat.le_refl _) new
    refine ⟨.ref s.heap.objs.size, _, I1, rfl, ⟨_, x, y, rfl, I.hok.fresh (Nat.le_refl _), rfl, fun l hl => (I.tuple_inj hl qx) ▸ hx, fun l hl => (I.list_inj hl qy) ▸ hy⟩, ⟨z'', (sb.2 _ D.TIz).trans (kp _ _ D.TIz D.TITO D.TIi1 D.TIi2 cI), ⟨u, u2, (sb.2 _ D.TOz).trans TO'⟩, a1'.at fun o q => (sb.2 _ D.i1z).trans q, a2'.at fun o q => (sb.2 _ D.i2z).trans q⟩, fun c hcm => ?_⟩
    have lc : c < s.heap.objs.size := by
      rcases (show c = z ∨ c = TI ∨ c = TO ∨ c = i1 ∨ c = i2 by simpa using hcm) with rfl | rfl | rfl | rfl | rfl
      · exact lz
      · exact Heap.lt_size cI
      · exact Heap.lt_size cO
      · exact (nxT c a its.toArray).lt a1
      · exact (nxL c b jts.toArray).lt a2
    rw [upd_ne (Nat.ne_of_lt lc)]; exact (hf c hcm).1
  done := by
    intro X hP hw hK hc i pins s σ H E I hf st hg
    subst hP hw hK
    obtain ⟨cz, cI, ⟨x0, y0, cO⟩, a1, a2⟩ := st
    obtain ⟨xs, ys, qx, qy, he⟩ := hg
    obtain ⟨its, rv, p, _⟩ := I.tuple qx
    obtain ⟨jts, rv2, p2, _⟩ := I.list qy
    have n1 := rv.length
    have n2 := rv2.length
    have hn : its.toArray[i]? = none ∨ jts.toArray[i]? = none := he.elim (fun q => .inl (by simp; omega)) fun q => .inr (by simp; omega)
    exact next_over (nxT i1 a its.toArray) (nxL i2 b jts.toArray) (I.ok.hd hc) D cz cI cO a1 a2 p p2.isList hn fun g kp => ⟨rfl, I.turnedL (t' := s.toks) (ch := [z, TI, TO, i1, i2]) (fun c o hb q => by
      simp only [List.mem_cons, List.not_mem_nil, or_false, not_or] at hb
      exact kp c o hb.1 hb.2.2.1 hb.2.2.2.1 hb.2.2.2.2 q) hf⟩
  self := fun A i s Q E st h => wpAny_pyIter_zip st.1 h
def iMix (K : PySem.W.Frag) (ta : TA) : TI := fun σ H R => ta σ H fun vs G => ∃ a b xs ys, vs = [.ref a, .ref b] ∧ SqT K G a xs ∧ SqL K G b ys ∧ R (ItM K a b) G
theorem pi_mixed {X : Cx} {e e2 : Expr} {ta : TA} {p pos tpos : Pos} {elts : List Expr} {kk : Nat} (hg : Gl X "zip") (hm : X.mg "zip" = none) (ha : PA X [e, e2] ta)
    (hs : starEach [e, e2] X.env = (false, eval e X.env) :: starEach [e2] X.env := by rfl) (hpl : (backTo pos (starEach [e2] X.env)).any (·.1) = false := by rfl) : PI X (.Tuple elts kk tpos) (.Call (.Name "zip" p) [e, e2] [] pos) (iMix X.K ta) := by
  refine ⟨fun pins s σ H R I h => Call_ (ld_blt I hg hm PyProof.Rows.boot_zip (PyProof.Rows.callWith_type1 (thn (ha.run pos pins s σ H _ I h) fun us r ⟨vs, G, I1, r1, a, b, xs, ys, ex, qx, qy, q⟩ => ?_) hs hpl))⟩
  subst ex
  obtain ⟨u, u2, rfl, q1, q2⟩ := vals2 r1
  cases q1
  cases q2
  obtain ⟨its, rv, p1, _⟩ := I1.tuple qx
  obtain ⟨jts, rv2, p2, _⟩ := I1.list qy
  obtain ⟨o1, ho1, _⟩ := id p1
  refine call_mixed (show r.heap.IsTuple a its.toArray from p1) p2.isList fun g cz cI cO a1 a2 hsz kp => wpAny_pyIter_zip cz ?_
  have I2 : Inv X pins σ G { r with heap := g } := I1.kept (t' := r.toks) kp
  refine ⟨r.heap.objs.size + 4, [r.heap.objs.size + 4, r.heap.objs.size + 2, r.heap.objs.size + 3, r.heap.objs.size, r.heap.objs.size + 1], _, _, G, rfl, I2, turns (PySem.W.ktu_apart r.heap.objs.size a b (Heap.lt_size ho1) p2.lt), ⟨cz, cI, ⟨_, _, cO⟩, a1, a2⟩, fun c hc => ?_, q⟩
  have le : r.heap.objs.size ≤ c := by
    rcases (show c = r.heap.objs.size + 4 ∨ c = r.heap.objs.size + 2 ∨ c = r.heap.objs.size + 3 ∨ c = r.heap.objs.size ∨ c = r.heap.objs.size + 1 by simpa using hc) with rfl | rfl | rfl | rfl | rfl
    · exact Nat.le_add_right _ 4
    · exact Nat.le_add_right _ 2
    · exact Nat.le_add_right _ 3
    · exact Nat.le_refl _
    · exact Nat.le_add_right _ 1
  exact I1.fpOk le (I1.hok.fresh le)
end Zm
set_option Elab.async false
set_option linter.all false
set_option maxRecDepth 100000
set_option maxHeartbeats 2000000
namespace Zl
open PySem Zm
abbrev mj1 (h : Heap) (l1 : Addr) : Heap := h.push { cls := .type "list_iterator", data := .fields #[.ref l1, .int 0 0] }
abbrev mj2 (h : Heap) (l1 l2 : Addr) : Heap := (mj1 h l1).push { cls := .type "tuple_iterator", data := .fields #[.ref l2, .int 0 0] }
abbrev mj3 (h : Heap) (l1 l2 : Addr) : Heap := (mj2 h l1 l2).push { cls := .type "tuple", data := .seq #[.ref h.objs.size, .ref (mj1 h l1).objs.size] }
abbrev mj4 (h : Heap) (l1 l2 : Addr) : Heap := (mj3 h l1 l2).push { cls := .type "tuple", data := .seq #[.none, .none] }
abbrev mj5 (h : Heap) (l1 l2 : Addr) : Heap := (mj4 h l1 l2).push { cls := .type "zip", data := .fields #[.none, .bool false, .bool false, .ref (mj2 h l1 l2).objs.size, .ref (mj3 h l1 l2).objs.size] }
theorem meets_new (l1 l2 : Addr) (xs ys : Array Value) : Meets (Builtin.«zip.__new__» ⟨[.type "zip", .ref l1, .ref l2], []⟩) (fun _ R s => s.heap.IsList l1 xs ∧ s.heap.IsTuple l2 ys ∧ R (.ok (.ret (.ref (mj4 s.heap l1 l2).objs.size))) { s with heap := mj5 s.heap l1 l2 }) :=
  .of_wp fun prog w A R s h => by
    obtain ⟨hp, g, d, tk, os⟩ := s; obtain ⟨c1, c2, h⟩ := h; have hsub := sub_zip
    have hL1 : Heap.IsList (Shared.heap ⟨hp, g, d, tk, os⟩) l1 xs := c1
    have hL2 : Heap.IsTuple (Shared.heap ⟨mj1 hp l1, g, d, tk, os⟩) l2 ys := Heap.IsTuple.push c2 _
    wp_walk using wpAny_pyIter_list hL1, wpAny_pyIter_tuple hL2
    exact ⟨_, rfl, h⟩
section
variable {prog : Program} {w : World} {A : Around} {E : Value → Shared → Prop} {s : Shared}
theorem call_mixed {l1 l2 : Addr} {xs ys : Array Value} {Q : Value → Shared → Prop} (c1 : s.heap.IsList l1 xs) (c2 : s.heap.IsTuple l2 ys)
    (h : ∀ g, IsZip g (s.heap.objs.size + 4) (s.heap.objs.size + 2) (s.heap.objs.size + 3) .none → IsPair g (s.heap.objs.size + 2) (.ref s.heap.objs.size) (.ref (s.heap.objs.size + 1)) → IsPair g (s.heap.objs.size + 3) .none .none →
      g.IsListIter s.heap.objs.size l1 0 → g.IsTupleIter (s.heap.objs.size + 1) l2 0 → g.objs.size = s.heap.objs.size + 5 → (∀ c o, s.heap.get? c = some o → g.get? c = some o) → Q (.ref (s.heap.objs.size + 4)) { s with heap := g }) :
    wpAny (model prog w) A (call (.type "zip") [.ref l1, .ref l2]) Q E s := by
  refine callType_new F.called_zip (by decide) (F.typeCall_zip_2 _ _) (F.newCall_zip_2 _ _) (fun o => F.args_object_init_3 o _ _) F.entry_zip_new (meets_new l1 l2 xs ys) ⟨c1, c2, ?_⟩
  have k1 : (mj1 s.heap l1).objs.size = s.heap.objs.size + 1 := Heap.size_push ..
  have k2 : (mj2 s.heap l1 l2).objs.size = s.heap.objs.size + 2 := by rw [Heap.size_push, k1]
  have k3 : (mj3 s.heap l1 l2).objs.size = s.heap.objs.size + 3 := by rw [Heap.size_push, k2]
  have k4 : (mj4 s.heap l1 l2).objs.size = s.heap.objs.size + 4 := by rw [Heap.size_push, k3]
  have k5 : (mj5 s.heap l1 l2).objs.size = s.heap.objs.size + 5 := by rw [Heap.size_push, k4]
  have p5 : (mj5 s.heap l1 l2).get? (mj4 s.heap l1 l2).objs.size = some _ := Heap.get?_push_size _ rfl
  have p4 : (mj5 s.heap l1 l2).get? (mj3 s.heap l1 l2).objs.size = some _ := Heap.get?_push_of_some _ (Heap.get?_push_size _ rfl)
  have p3 : (mj5 s.heap l1 l2).get? (mj2 s.heap l1 l2).objs.size = some _ := Heap.get?_push_of_some _ (Heap.get?_push_of_some _ (Heap.get?_push_size _ rfl))
  have p2 : (mj5 s.heap l1 l2).get? (mj1 s.heap l1).objs.size = some _ := Heap.get?_push_of_some _ (Heap.get?_push_of_some _ (Heap.get?_push_of_some _ (Heap.get?_push_size _ rfl)))
  have p1 : (mj5 s.heap l1 l2).get? s.heap.objs.size = some _ := Heap.get?_push_of_some _ (Heap.get?_push_of_some _ (Heap.get?_push_of_some _ (Heap.get?_push_of_some _ (Heap.get?_push_size _ rfl))))
  show _ ∧ _
  rw [k2, k3, k4] at p5; rw [k1, k2] at p3; rw [k3] at p4; rw [k1] at p2; rw [k4]
  exact ⟨⟨_, p5, rfl⟩, h _ p5 p3 p4 ⟨_, p1, rfl, rfl⟩ ⟨_, p2, rfl, rfl⟩ k5 fun c o q => Heap.get?_push_of_some _ (Heap.get?_push_of_some _ (Heap.get?_push_of_some _ (Heap.get?_push_of_some _ (Heap.get?_push_of_some _ q))))⟩
end
open PySem.Spec PyProof.Rows L2
/-- the list at a, the tuple at b, their items in new pairs -/
def ItL (K : PySem.W.Frag) (a b : Addr) : It :=
  ⟨fun i H => ∃ (xs ys : List V) (x y : V), SqL K H a xs ∧ SqT K H b ys ∧ xs[i]? = some x ∧ ys[i]? = some y,
   fun i H v G => ∃ N x y, v = .ref N ∧ H N = none ∧ G = upd H N (.tup [x, y]) ∧ (∀ xs, SqL K H a xs → xs[i]? = some x) ∧ ∀ ys, SqT K H b ys → ys[i]? = some y,
   fun i H => ∃ xs ys : List V, SqL K H a xs ∧ SqT K H b ys ∧ (xs.length ≤ i ∨ ys.length ≤ i)⟩
theorem turns {P : Program} {w : World} {K : PySem.W.Frag} {elts : List Expr} {kk : Nat} {tpos : Pos} {a b z TI TO i1 i2 : Addr} (D : ZipApart z TI TO i1 i2 a b) :
    Turn P w K (.Tuple elts kk tpos) (ItL K a b) [z, TI, TO, i1, i2] z (fun i g => IsZip g z TI TO .none ∧ IsPair g TI (.ref i1) (.ref i2) ∧ (∃ x y, IsPair g TO x y) ∧ g.IsListIter i1 a i ∧ g.IsTupleIter i2 b i) where
  mem := by simp
  obj := fun i g ⟨cz, cI, ⟨x, y, cO⟩, ⟨o1, e1, _, d1⟩, ⟨o2, e2, _, d2⟩⟩ c hc => by
    rcases (show c = z ∨ c = TI ∨ c = TO ∨ c = i1 ∨ c = i2 by simpa using hc) with rfl | rfl | rfl | rfl | rfl
    · exact ⟨_, cz, fun v q => nomatch q⟩
    · exact ⟨_, cI, fun v q => nomatch q⟩
    · exact ⟨_, cO, fun v q => nomatch q⟩
    · exact ⟨o1, e1, fun v q => by rw [d1] at q; cases q⟩
    · exact ⟨o2, e2, fun v q => by rw [d2] at q; cases q⟩
  keep := fun i g g' ⟨cz, cI, ⟨x, y, cO⟩, a1, a2⟩ k => ⟨k z (by simp) _ cz, k TI (by simp) _ cI, ⟨x, y, k TO (by simp) _ cO⟩, a1.at fun o q => k i1 (by simp) o q, a2.at fun o q => k i2 (by simp) o q⟩
  item := by
    intro X hP hw hK hc i pins s σ H E I hf st hg
    subst hP hw hK
    obtain ⟨cz, cI, ⟨x0, y0, cO⟩, a1, a2⟩ := st
    obtain ⟨xs, ys, x, y, qx, qy, hx, hy⟩ := hg
    obtain ⟨its, rv, p, _⟩ := I.list qx
    obtain ⟨jts, rv2, p2, _⟩ := I.tuple qy
    obtain ⟨u, hu, ru⟩ := rv.get hx
    obtain ⟨u2, hu2, ru2⟩ := rv2.get hy
    have lz : z < s.heap.objs.size := Heap.lt_size cz
    refine next_item (nxL i1 a its.toArray) (nxT i2 b jts.toArray) D cz cI cO a1 a2 p.isList p2 (x := u) (y := u2) (by simpa using hu) (by simpa using hu2) fun g z' TO' a1' a2' cT hsz kp => ?_
    refine ⟨_, rfl, wpAny_letOwnedTupleGo_zip (s := { s with heap := g }) z' fun g' z'' sb => ?_⟩
    have cT2 : g'.get? s.heap.objs.size = some { cls := .type "tuple", data := .seq #[u, u2] } := (sb.2 _ (Nat.ne_of_gt lz)).trans cT
    have new : ObjOk X.prog X.w (upd H s.heap.objs.size (.tup [x, y])) g' s.heap.objs.size (.tup [x, y]) := ⟨by show 2 ≤ sizeLine; decide, [u, u2], .cons ru (.cons ru2 .nil), ⟨_, cT2, rfl, _, rfl⟩⟩
    have all : ∀ c o, c ∉ [z, TI, TO, i1, i2] → s.heap.get? c = some o → g'.get? c = some o := fun c o hb q => by
      simp only [List.mem_cons, List.not_mem_nil, or_false, not_or] at hb
      exact (sb.2 c hb.1).trans (kp c o hb.1 hb.2.2.1 hb.2.2.2.1 hb.2.2.2.2 q)
    have I1 : Inv X pins σ (upd H s.heap.objs.size (.tup [x, y])) { s with heap := g' } := I.turnedNew (t' := s.toks) (ch := [z, TI, TO, i1, i2]) all hf (Nat.le_refl _) new
    refine ⟨.ref s.heap.objs.size, _, I1, rfl, ⟨_, x, y, rfl, I.hok.fresh (Nat.le_refl _), rfl, fun l hl => (I.list_inj hl qx) ▸ hx, fun l hl => (I.tuple_inj hl qy) ▸ hy⟩, ⟨z'', (sb.2 _ D.TIz).trans (kp _ _ D.TIz D.TITO D.TIi1 D.TIi2 cI), ⟨u, u2, (sb.2 _ D.TOz).trans TO'⟩, a1'.at fun o q => (sb.2 _ D.i1z).trans q, a2'.at fun o q => (sb.2 _ D.i2z).trans q⟩, fun c hcm => ?_⟩
    have lc : c < s.heap.objs.size := by
      rcases (show c = z ∨ c = TI ∨ c = TO ∨ c = i1 ∨ c = i2 by simpa using hcm) with rfl | rfl | rfl | rfl | rfl
      · exact lz
      · exact Heap.lt_size cI
      · exact Heap.lt_size cO
      · exact (nxL c a its.toArray).lt a1
      · exact (nxT c b jts.toArray).lt a2
    rw [upd_ne (Nat.ne_of_lt lc)]; exact (hf c hcm).1
  done := by
    intro X hP hw hK hc i pins s σ H E I hf st hg
    subst hP hw hK
    obtain ⟨cz, cI, ⟨x0, y0, cO⟩, a1, a2⟩ := st
    obtain ⟨xs, ys, qx, qy, he⟩ := hg
    obtain ⟨its, rv, p, _⟩ := I.list qx
    obtain ⟨jts, rv2, p2, _⟩ := I.tuple qy
    have n1 := rv.length
    have n2 := rv2.length
    have hn : its.toArray[i]? = none ∨ jts.toArray[i]? = none := he.elim (fun q => .inl (by simp; omega)) fun q => .inr (by simp; omega)
    exact next_over (nxL i1 a its.toArray) (nxT i2 b jts.toArray) (I.ok.hd hc) D cz cI cO a1 a2 p.isList p2 hn fun g kp => ⟨rfl, I.turnedL (t' := s.toks) (ch := [z, TI, TO, i1, i2]) (fun c o hb q => by
      simp only [List.mem_cons, List.not_mem_nil, or_false, not_or] at hb
      exact kp c o hb.1 hb.2.2.1 hb.2.2.2.1 hb.2.2.2.2 q) hf⟩
  self := fun A i s Q E st h => wpAny_pyIter_zip st.1 h
def iMixL (K : PySem.W.Frag) (ta : TA) : TI := fun σ H R => ta σ H fun vs G => ∃ a b xs ys, vs = [.ref a, .ref b] ∧ SqL K G a xs ∧ SqT K G b ys ∧ R (ItL K a b) G
theorem pi_mixedL {X : Cx} {e e2 : Expr} {ta : TA} {p pos tpos : Pos} {elts : List Expr} {kk : Nat} (hg : Gl X "zip") (hm : X.mg "zip" = none) (ha : PA X [e, e2] ta)
    (hs : starEach [e, e2] X.env = (false, eval e X.env) :: starEach [e2] X.env := by rfl) (hpl : (backTo pos (starEach [e2] X.env)).any (·.1) = false := by rfl) : PI X (.Tuple elts kk tpos) (.Call (.Name "zip" p) [e, e2] [] pos) (iMixL X.K ta) := by
  refine ⟨fun pins s σ H R I h => Call_ (ld_blt I hg hm PyProof.Rows.boot_zip (PyProof.Rows.callWith_type1 (thn (ha.run pos pins s σ H _ I h) fun us r ⟨vs, G, I1, r1, a, b, xs, ys, ex, qx, qy, q⟩ => ?_) hs hpl))⟩
  subst ex
  obtain ⟨u, u2, rfl, q1, q2⟩ := vals2 r1
  cases q1
  cases q2
  obtain ⟨its, rv, p1, _⟩ := I1.list qx
  obtain ⟨jts, rv2, p2, _⟩ := I1.tuple qy
  obtain ⟨o2, ho2, _⟩ := id p2
  refine call_mixed p1.isList (show r.heap.IsTuple b jts.toArray from p2) fun g cz cI cO a1 a2 hsz kp => wpAny_pyIter_zip cz ?_
  have I2 : Inv X pins σ G { r with heap := g } := I1.kept (t' := r.toks) kp
  refine ⟨r.heap.objs.size + 4, [r.heap.objs.size + 4, r.heap.objs.size + 2, r.heap.objs.size + 3, r.heap.objs.size, r.heap.objs.size + 1], _, _, G, rfl, I2, turns (PySem.W.ktu_apart r.heap.objs.size a b p1.lt (Heap.lt_size ho2)), ⟨cz, cI, ⟨_, _, cO⟩, a1, a2⟩, fun c hc => ?_, q⟩
  have le : r.heap.objs.size ≤ c := by
    rcases (show c = r.heap.objs.size + 4 ∨ c = r.heap.objs.size + 2 ∨ c = r.heap.objs.size + 3 ∨ c = r.heap.objs.size ∨ c = r.heap.objs.size + 1 by simpa using hc) with rfl | rfl | rfl | rfl | rfl
    · exact Nat.le_add_right _ 4
    · exact Nat.le_add_right _ 2
    · exact Nat.le_add_right _ 3
    · exact Nat.le_refl _
    · exact Nat.le_add_right _ 1
  exact I1.fpOk le (I1.hok.fresh le)
end Zl
set_option Elab.async false
set_option linter.all false
set_option maxRecDepth 100000
namespace Dn
open PySem PySem.Spec PyProof.Rows L2
open PySem.W (Frag)
variable [Tb]
abbrev Fi := Fl
/-- what an iterator yields: data, a new tuple of data, or a new pair of a number and a new tuple of data -/
inductive Yd (K : Frag) (F H : Hp) (x : V) (H' : Hp) (d : PyData) : Prop where
  | inl (h : H' = H ∧ Dp K F x d)
  | inr (h : ∃ T xs es, H T = none ∧ H' = upd H T (.tup xs) ∧ x = .ref T ∧ d = .tuple es ∧ DpAll K F xs es)
  | in3 (h : ∃ T T2 xs es, ∃ i : Int, H T = none ∧ H T2 = none ∧ T ≠ T2 ∧ H' = upd (upd H T (.tup xs)) T2 (.tup [.int i, .ref T]) ∧ x = .ref T2 ∧ d = .tuple [.int i, .tuple es] ∧ DpAll K F xs es)
structure Wk (K : Frag) (F : Hp) (J : It) (ds : List PyData) : Prop where
  go : ∀ i H, Same F H → i < ds.length → J.go i H
  stop : ∀ i H, Same F H → ds.length ≤ i → J.stop i H
  yld : ∀ i H x H' d, Same F H → ds[i]? = some d → J.yld i H x H' → Yd K F H x H' d
theorem Wk.up {K : Frag} {F F' : Hp} {J : It} {ds : List PyData} (w : Wk K F J ds) (s : Same F F') : Wk K F' J ds :=
  ⟨fun i H h => w.go i H (s.trans h), fun i H h => w.stop i H (s.trans h), fun i H x H' d h e y => by
    rcases w.yld i H x H' d (s.trans h) e y with ⟨h1, h2⟩ | ⟨T, xs, es, h1, h2, h3, h4, h5⟩ | ⟨T, T2, xs, es, j, h1, h2, h3, h4, h5, h6, h7⟩
    · exact .inl ⟨h1, h2.up s⟩
    · exact .inr ⟨T, xs, es, h1, h2, h3, h4, h5.up s⟩
    · exact .in3 ⟨T, T2, xs, es, j, h1, h2, h3, h4, h5, h6, h7.up s⟩⟩
def tI (K : Frag) (f : Fi) : TI := fun σ H R => ∃ c F env ds env', Rl K c F σ H env ∧ f env = some (ds, env') ∧ ∀ J F' H', Same F F' → Rl K c F' σ H' env' → Wk K F' J ds → R J H'
/-- the items of data that is walked -/
@[simp] def items : PyData → Option (List PyData)
  | .list ds => some ds
  | .tuple ds => some ds
  | _ => none
def iSeq (f : Fe) : Fi := fun env => (f env).bind fun p => (items p.1).map fun ds => (ds, p.2)
def rng (lo hi : Int) : List PyData := (List.range (hi - lo).toNat).map fun (i : Nat) => .int (lo + i)
noncomputable def iR1 (f : Fl) : Fi := fun env => (f env).bind fun p => match p.1 with
  | [.int n] => if smallI n then some (rng 0 n, p.2) else none
  | _ => none
noncomputable def iR2 (f : Fl) : Fi := fun env => (f env).bind fun p => match p.1 with
  | [.int m, .int n] => if smallI m && smallI n then some (rng m n, p.2) else none
  | _ => none
def zipD (xs ys : List PyData) : List PyData := List.zipWith (fun a b => .tuple [a, b]) xs ys
def iZp (f : Fl) : Fi := fun env => (f env).bind fun p => match p.1 with
  | [.list xs, .list ys] => some (zipD xs ys, p.2)
  | [.tuple xs, .list ys] => some (zipD xs ys, p.2)
  | [.list xs, .tuple ys] => some (zipD xs ys, p.2)
  | [.tuple xs, .tuple ys] => some (zipD xs ys, p.2)
  | _ => none
def enumD (n : Int) : List PyData → List PyData
  | [] => []
  | d :: ds => .tuple [.int n, d] :: enumD (n + 1) ds
theorem enumD_get : ∀ (ds : List PyData) (n : Int) (i : Nat), (enumD n ds)[i]? = ds[i]?.map fun d => .tuple [.int (n + i), d]
  | [], n, i => by simp [enumD]
  | d :: ds, n, 0 => by simp [enumD]
  | d :: ds, n, i + 1 => by
    simp only [enumD, List.getElem?_cons_succ]
    rw [enumD_get ds (n + 1) i]
    have : n + 1 + (i : Int) = n + ((i + 1 : Nat) : Int) := by omega
    rw [this]
theorem enumD_len : ∀ (ds : List PyData) (n : Int), (enumD n ds).length = ds.length
  | [], _ => rfl
  | d :: ds, n => by simp [enumD, enumD_len ds]
def iEn (f : Fl) : Fi := fun env => (f env).bind fun p => match p.1 with
  | [.list xs] => some (enumD 0 xs, p.2)
  | _ => none
section
variable {X : Cx} {tg l : Expr} {f : Fe} {fl : Fl}
/-- a list or a tuple -/
def iLT (K : Frag) (tl : TE) : TI := fun σ H R => tl σ H fun x H1 => (∃ a, x = .ref a ∧ (∃ xs, SqL K H1 a xs) ∧ R (Itl K a) H1) ∨ (∃ a, x = .ref a ∧ (∃ xs, SqT K H1 a xs) ∧ R (Itt K a) H1)
theorem pi_lt {tl : TE} (hl : PE X l tl) : PI X tg l (iLT X.K tl) := by
  refine ⟨fun pins s σ H R I h => ?_⟩
  refine thn (hl.run pins s σ H _ I h) fun v s1 ⟨x, H1, I1, r1, q1⟩ => ?_
  rcases q1 with ⟨a, e, ⟨xs, hq⟩, q⟩ | ⟨a, e, ⟨xs, hq⟩, q⟩
  · subst e
    cases r1
    obtain ⟨its, rv, p, hz⟩ := I1.list hq
    refine wpAny_pyIter_list p.isList ?_
    refine ⟨s1.heap.objs.size, [s1.heap.objs.size], _, _, H1, rfl, I1.kept (t' := s1.toks) fun b o e => Heap.get?_push_of_some _ e, turn_list a _, ⟨_, Heap.get?_push_size _ rfl, rfl, rfl⟩, fun b hb => ?_, q⟩
    have e : b = s1.heap.objs.size := by simpa using hb
    subst e
    exact I1.fpOk (Nat.le_refl _) (I1.hok.fresh (Nat.le_refl _))
  · subst e
    cases r1
    obtain ⟨its, rv, p, hz⟩ := I1.tuple hq
    refine wpAny_pyIter_tuple (show s1.heap.IsTuple a its.toArray from p) ?_
    refine ⟨s1.heap.objs.size, [s1.heap.objs.size], _, _, H1, rfl, I1.kept (t' := s1.toks) fun b o e => Heap.get?_push_of_some _ e, turn_tuple a _, ⟨_, Heap.get?_push_size _ rfl, rfl, rfl⟩, fun b hb => ?_, q⟩
    have e : b = s1.heap.objs.size := by simpa using hb
    subst e
    exact I1.fpOk (Nat.le_refl _) (I1.hok.fresh (Nat.le_refl _))
theorem len_get {α : Type} {l : List α} {i : Nat} (h : i < l.length) : ∃ a, l[i]? = some a := ⟨_, List.getElem?_eq_getElem h⟩
theorem wk_list {K : Frag} {F : Hp} {a : Addr} {xs : List V} {ds : List PyData} (hs : SqL K F a xs) (ha : DpAll K F xs ds) : Wk K F (Itl K a) ds where
  go := fun i H s h => by
    obtain ⟨x, hx⟩ := len_get (show i < xs.length by rw [ha.len]; exact h)
    exact ⟨xs, x, s.seq hs, hx⟩
  stop := fun i H s h => ⟨xs, s.seq hs, by rw [ha.len]; exact h⟩
  yld := fun i H x H' d s e y => by
    obtain ⟨h1, h2⟩ := y
    obtain ⟨v, h3, h4⟩ := ha.at e
    have h5 := h2 xs (s.seq hs)
    rw [h3] at h5
    cases h5
    exact .inl ⟨h1, h4⟩
theorem wk_tup {K : Frag} {F : Hp} {a : Addr} {xs : List V} {ds : List PyData} (hs : SqT K F a xs) (ha : DpAll K F xs ds) : Wk K F (Itt K a) ds where
  go := fun i H s h => by
    obtain ⟨x, hx⟩ := len_get (show i < xs.length by rw [ha.len]; exact h)
    exact ⟨xs, x, sqT_mono s hs, hx⟩
  stop := fun i H s h => ⟨xs, sqT_mono s hs, by rw [ha.len]; exact h⟩
  yld := fun i H x H' d s e y => by
    obtain ⟨h1, h2⟩ := y
    obtain ⟨v, h3, h4⟩ := ha.at e
    have h5 := h2 xs (sqT_mono s hs)
    rw [h3] at h5
    cases h5
    exact .inl ⟨h1, h4⟩
theorem di_seq (h : PE X l (Ge X.K f)) : PI X tg l (tI X.K (iSeq f)) := PI.imp (pi_lt h) fun σ H R ⟨c, F, env, ds, env', R0, e, k⟩ => by
  unfold iSeq at e
  simp only [Option.bind_eq_some_iff, Option.map_eq_some_iff] at e
  obtain ⟨⟨d1, n1⟩, h1, es, h2, h3⟩ := e
  obtain ⟨rfl, rfl⟩ := Prod.mk.inj h3
  refine ⟨c, F, env, d1, n1, R0, h1, fun v F' H' s R' hv => ?_⟩
  cases hv with
  | lst hs ha => cases h2; exact .inl ⟨_, rfl, ⟨_, R'.sub.seq hs⟩, k _ F' H' s R' (wk_list hs ha)⟩
  | tup hs ha => cases h2; exact .inr ⟨_, rfl, ⟨_, sqT_mono R'.sub hs⟩, k _ F' H' s R' (wk_tup hs ha)⟩
  | non => cases h2
  | bl _ => cases h2
  | int _ => cases h2
  | str _ => cases h2
  | dct _ _ => cases h2
  | exc _ _ _ => cases h2
  | rng _ => cases h2
theorem wk_rng {K : Frag} {F : Hp} {lo hi : Int} : Wk K F (Itr lo (hi - lo).toNat) (rng lo hi) where
  go := fun i H s h => by
    have h' : i < (rng lo hi).length := h
    simp only [rng, List.length_map, List.length_range] at h'
    exact h'
  stop := fun i H s h => by
    have h' : (rng lo hi).length ≤ i := h
    simp only [rng, List.length_map, List.length_range] at h'
    exact h'
  yld := fun i H x H' d s e y => by
    obtain ⟨h1, h2⟩ := y
    subst h2
    simp only [rng, List.getElem?_map, Option.map_eq_some_iff] at e
    obtain ⟨j, h3, h4⟩ := e
    have h5 : i < (hi - lo).toNat := by
      by_cases hh : i < (hi - lo).toNat
      · exact hh
      · rw [List.getElem?_eq_none (by rw [List.length_range]; omega)] at h3; cases h3
    rw [List.getElem?_range h5] at h3
    cases h3
    subst h4
    exact .inl ⟨h1, .int _⟩
theorem di_r1 {a : Expr} {p pos : Pos} (hg : Gl X "range") (hm : X.mg "range" = none) (ha : PA X [a] (Ga X.K fl)) (hs : starEach [a] X.env = [(false, eval a X.env)] := by rfl) : PI X tg (.Call (.Name "range" p) [a] [] pos) (tI X.K (iR1 fl)) :=
  PI.imp (pi_range1 hg hm ha hs) fun σ H R ⟨c, F, env, ds, env', R0, e, k⟩ => by
  unfold iR1 at e
  simp only [Option.bind_eq_some_iff] at e
  obtain ⟨⟨d1, n1⟩, h1, h2⟩ := e
  dsimp only at h2
  split at h2
  · split at h2
    · rename_i hz
      cases h2
      refine ⟨c, F, env, _, _, R0, h1, fun v F' H' s R' hv => ?_⟩
      cases hv with
      | cons h3 h4 =>
        cases h4; cases h3
        obtain ⟨b1, b2⟩ := smallI_b hz
        refine ⟨_, rfl, b1, b2, ?_⟩
        have := wk_rng (K := X.K) (F := F') (lo := 0) (hi := ‹Int›)
        rw [Int.sub_zero] at this
        exact k _ F' H' s R' this
    · cases h2
  · cases h2
theorem di_r2 {a b : Expr} {p pos : Pos} (hg : Gl X "range") (hm : X.mg "range" = none) (ha : PA X [a, b] (Ga X.K fl)) (hs : starEach [a, b] X.env = [(false, eval a X.env), (false, eval b X.env)] := by rfl) (hs2 : starEach [b] X.env = [(false, eval b X.env)] := by rfl) :
    PI X tg (.Call (.Name "range" p) [a, b] [] pos) (tI X.K (iR2 fl)) :=
  PI.imp (pi_range2 hg hm ha hs hs2) fun σ H R ⟨c, F, env, ds, env', R0, e, k⟩ => by
  unfold iR2 at e
  simp only [Option.bind_eq_some_iff] at e
  obtain ⟨⟨d1, n1⟩, h1, h2⟩ := e
  dsimp only at h2
  split at h2
  · split at h2
    · rename_i hz
      rw [Bool.and_eq_true] at hz
      cases h2
      refine ⟨c, F, env, _, _, R0, h1, fun v F' H' s R' hv => ?_⟩
      cases hv with
      | cons h3 h4 =>
        cases h4 with
        | cons h4 h5 =>
          cases h5; cases h3; cases h4
          obtain ⟨b1, b2⟩ := smallI_b hz.1
          obtain ⟨b3, b4⟩ := smallI_b hz.2
          exact ⟨_, _, rfl, ⟨b1, b2, b3, b4⟩, k _ F' H' s R' wk_rng⟩
    · cases h2
  · cases h2
theorem zip_get {xs ys : List PyData} {i : Nat} : (zipD xs ys)[i]? = (match xs[i]?, ys[i]? with | some a, some b => some (.tuple [a, b]) | _, _ => none) := by
  unfold zipD
  rw [List.getElem?_zipWith]
  cases xs[i]? <;> cases ys[i]? <;> rfl
theorem wk_zip {K : Frag} {F : Hp} {a b : Addr} {xs ys : List V} {ds es : List PyData} (hs : SqL K F a xs) (ha : DpAll K F xs ds) (hs2 : SqL K F b ys) (ha2 : DpAll K F ys es) : Wk K F (Itz K a b) (zipD ds es) where
  go := fun i H s h => by
    simp only [zipD, List.length_zipWith] at h
    obtain ⟨x, hx⟩ := len_get (show i < xs.length by rw [ha.len]; omega)
    obtain ⟨y, hy⟩ := len_get (show i < ys.length by rw [ha2.len]; omega)
    exact ⟨xs, ys, x, y, s.seq hs, s.seq hs2, hx, hy⟩
  stop := fun i H s h => by
    simp only [zipD, List.length_zipWith] at h
    have l1 := ha.len
    have l2 := ha2.len
    exact ⟨xs, ys, s.seq hs, s.seq hs2, by omega⟩
  yld := fun i H v H' d s e y => by
    obtain ⟨T, x, y, h1, h2, h3, h4, h5⟩ := y
    rw [zip_get] at e
    cases hx : ds[i]? with
    | none => rw [hx] at e; cases e
    | some d1 =>
      cases hy : es[i]? with
      | none => rw [hx, hy] at e; cases e
      | some d2 =>
        rw [hx, hy] at e
        cases e
        obtain ⟨u, f1, f2⟩ := ha.at hx
        obtain ⟨w, f3, f4⟩ := ha2.at hy
        have := h4 xs (s.seq hs)
        rw [f1] at this
        cases this
        have := h5 ys (s.seq hs2)
        rw [f3] at this
        cases this
        exact .inr ⟨T, _, _, h2, h3, h1, rfl, .cons f2 (.cons f4 .nil)⟩
theorem wk_zipM {K : Frag} {F : Hp} {a b : Addr} {xs ys : List V} {ds es : List PyData} (hs : SqT K F a xs) (ha : DpAll K F xs ds) (hs2 : SqL K F b ys) (ha2 : DpAll K F ys es) : Wk K F (Zm.ItM K a b) (zipD ds es) where
  go := fun i H s h => by
    simp only [zipD, List.length_zipWith] at h
    obtain ⟨x, hx⟩ := len_get (show i < xs.length by rw [ha.len]; omega)
    obtain ⟨y, hy⟩ := len_get (show i < ys.length by rw [ha2.len]; omega)
    exact ⟨xs, ys, x, y, sqT_mono s hs, s.seq hs2, hx, hy⟩
  stop := fun i H s h => by
    simp only [zipD, List.length_zipWith] at h
    have l1 := ha.len
    have l2 := ha2.len
    exact ⟨xs, ys, sqT_mono s hs, s.seq hs2, by omega⟩
  yld := fun i H v H' d s e y => by
    obtain ⟨T, x, y, h1, h2, h3, h4, h5⟩ := y
    rw [zip_get] at e
    cases hx : ds[i]? with
    | none => rw [hx] at e; cases e
    | some d1 =>
      cases hy : es[i]? with
      | none => rw [hx, hy] at e; cases e
      | some d2 =>
        rw [hx, hy] at e
        cases e
        obtain ⟨u, f1, f2⟩ := ha.at hx
        obtain ⟨w, f3, f4⟩ := ha2.at hy
        have := h4 xs (sqT_mono s hs)
        rw [f1] at this
        cases this
        have := h5 ys (s.seq hs2)
        rw [f3] at this
        cases this
        exact .inr ⟨T, _, _, h2, h3, h1, rfl, .cons f2 (.cons f4 .nil)⟩
theorem wk_zipL {K : Frag} {F : Hp} {a b : Addr} {xs ys : List V} {ds es : List PyData} (hs : SqL K F a xs) (ha : DpAll K F xs ds) (hs2 : SqT K F b ys) (ha2 : DpAll K F ys es) : Wk K F (Zl.ItL K a b) (zipD ds es) where
  go := fun i H s h => by
    simp only [zipD, List.length_zipWith] at h
    obtain ⟨x, hx⟩ := len_get (show i < xs.length by rw [ha.len]; omega)
    obtain ⟨y, hy⟩ := len_get (show i < ys.length by rw [ha2.len]; omega)
    exact ⟨xs, ys, x, y, s.seq hs, sqT_mono s hs2, hx, hy⟩
  stop := fun i H s h => by
    simp only [zipD, List.length_zipWith] at h
    have l1 := ha.len
    have l2 := ha2.len
    exact ⟨xs, ys, s.seq hs, sqT_mono s hs2, by omega⟩
  yld := fun i H v H' d s e y => by
    obtain ⟨T, x, y, h1, h2, h3, h4, h5⟩ := y
    rw [zip_get] at e
    cases hx : ds[i]? with
    | none => rw [hx] at e; cases e
    | some d1 =>
      cases hy : es[i]? with
      | none => rw [hx, hy] at e; cases e
      | some d2 =>
        rw [hx, hy] at e
        cases e
        obtain ⟨u, f1, f2⟩ := ha.at hx
        obtain ⟨w, f3, f4⟩ := ha2.at hy
        have := h4 xs (s.seq hs)
        rw [f1] at this
        cases this
        have := h5 ys (sqT_mono s hs2)
        rw [f3] at this
        cases this
        exact .inr ⟨T, _, _, h2, h3, h1, rfl, .cons f2 (.cons f4 .nil)⟩
theorem wk_zipT {K : Frag} {F : Hp} {a b : Addr} {xs ys : List V} {ds es : List PyData} (hs : SqT K F a xs) (ha : DpAll K F xs ds) (hs2 : SqT K F b ys) (ha2 : DpAll K F ys es) : Wk K F (RZ.ItzT K a b) (zipD ds es) where
  go := fun i H s h => by
    simp only [zipD, List.length_zipWith] at h
    obtain ⟨x, hx⟩ := len_get (show i < xs.length by rw [ha.len]; omega)
    obtain ⟨y, hy⟩ := len_get (show i < ys.length by rw [ha2.len]; omega)
    exact ⟨xs, ys, x, y, sqT_mono s hs, sqT_mono s hs2, hx, hy⟩
  stop := fun i H s h => by
    simp only [zipD, List.length_zipWith] at h
    have l1 := ha.len
    have l2 := ha2.len
    exact ⟨xs, ys, sqT_mono s hs, sqT_mono s hs2, by omega⟩
  yld := fun i H v H' d s e y => by
    obtain ⟨T, x, y, h1, h2, h3, h4, h5⟩ := y
    rw [zip_get] at e
    cases hx : ds[i]? with
    | none => rw [hx] at e; cases e
    | some d1 =>
      cases hy : es[i]? with
      | none => rw [hx, hy] at e; cases e
      | some d2 =>
        rw [hx, hy] at e
        cases e
        obtain ⟨u, f1, f2⟩ := ha.at hx
        obtain ⟨w, f3, f4⟩ := ha2.at hy
        have := h4 xs (sqT_mono s hs)
        rw [f1] at this
        cases this
        have := h5 ys (sqT_mono s hs2)
        rw [f3] at this
        cases this
        exact .inr ⟨T, _, _, h2, h3, h1, rfl, .cons f2 (.cons f4 .nil)⟩
theorem _root_.L2.PI.or {X : Cx} {tg it : Expr} {t u : TI} (h : PI X tg it t) (h2 : PI X tg it u) : PI X tg it (fun σ H R => t σ H R ∨ u σ H R) := ⟨fun pins s σ H R I q => q.elim (fun q => h.run pins s σ H R I q) fun q => h2.run pins s σ H R I q⟩
theorem di_zip {e e2 : Expr} {p pos tpos : Pos} {elts : List Expr} {kk : Nat} (hg : Gl X "zip") (hm : X.mg "zip" = none) (ha : PA X [e, e2] (Ga X.K fl))
    (hs : starEach [e, e2] X.env = (false, eval e X.env) :: starEach [e2] X.env := by rfl) (hpl : (backTo pos (starEach [e2] X.env)).any (·.1) = false := by rfl) :
    PI X (.Tuple elts kk tpos) (.Call (.Name "zip" p) [e, e2] [] pos) (tI X.K (iZp fl)) := PI.imp (PI.or (PI.or (RZ.pi_zipA hg hm ha hs hpl) (Zm.pi_mixed hg hm ha hs hpl)) (Zl.pi_mixedL hg hm ha hs hpl)) fun σ H R ⟨c, F, env, ds, env', R0, e, k⟩ => by
  unfold iZp at e
  simp only [Option.bind_eq_some_iff] at e
  obtain ⟨⟨d1, n1⟩, h1, h2⟩ := e
  dsimp only at h2
  split at h2
  · cases h2
    refine .inl (.inl ⟨c, F, env, _, _, R0, h1, fun v F' H' s R' hv => ?_⟩)
    cases hv with
    | cons h3 h4 =>
      cases h4 with
      | cons h4 h5 =>
        cases h5
        cases h3 with
        | lst hs ha =>
          cases h4 with
          | lst hs2 ha2 => exact ⟨_, _, _, _, rfl, .inl ⟨R'.sub.seq hs, R'.sub.seq hs2, k _ F' H' s R' (wk_zip hs ha hs2 ha2)⟩⟩
  · cases h2
    refine .inl (.inr ⟨c, F, env, _, _, R0, h1, fun v F' H' s R' hv => ?_⟩)
    cases hv with
    | cons h3 h4 =>
      cases h4 with
      | cons h4 h5 =>
        cases h5
        cases h3 with
        | tup hs ha =>
          cases h4 with
          | lst hs2 ha2 => exact ⟨_, _, _, _, rfl, sqT_mono R'.sub hs, R'.sub.seq hs2, k _ F' H' s R' (wk_zipM hs ha hs2 ha2)⟩
  · cases h2
    refine .inr ⟨c, F, env, _, _, R0, h1, fun v F' H' s R' hv => ?_⟩
    cases hv with
    | cons h3 h4 =>
      cases h4 with
      | cons h4 h5 =>
        cases h5
        cases h3 with
        | lst hs ha =>
          cases h4 with
          | tup hs2 ha2 => exact ⟨_, _, _, _, rfl, R'.sub.seq hs, sqT_mono R'.sub hs2, k _ F' H' s R' (wk_zipL hs ha hs2 ha2)⟩
  · cases h2
    refine .inl (.inl ⟨c, F, env, _, _, R0, h1, fun v F' H' s R' hv => ?_⟩)
    cases hv with
    | cons h3 h4 =>
      cases h4 with
      | cons h4 h5 =>
        cases h5
        cases h3 with
        | tup hs ha =>
          cases h4 with
          | tup hs2 ha2 => exact ⟨_, _, _, _, rfl, .inr ⟨sqT_mono R'.sub hs, sqT_mono R'.sub hs2, k _ F' H' s R' (wk_zipT hs ha hs2 ha2)⟩⟩
  · cases h2
end
def forL (g : Tg) (b : Fs) : List PyData → En → Option (Flw × En)
  | [], env => some (.nx, env)
  | d :: ds, env => (g d env).bind fun e1 => (b e1).bind fun p => match p.1 with
    | .nx => forL g b ds p.2
    | .ct => forL g b ds p.2
    | .bk => some (.nx, p.2)
    | .rt r => some (.rt r, p.2)
    | .rl r => some (.rl r, p.2)
    | .ex cl r => some (.ex cl r, p.2)
    | .tr r => some (.tr r, p.2)
def sFor (it : Fi) (g : Tg) (b : Fs) : Fs := fun env => (it env).bind fun p => forL g b p.1 p.2
def whL (t : Ft) (b : Fs) : Nat → En → Option (Flw × En)
  | 0, _ => none
  | n + 1, env => (t env).bind fun q => if q.1 then (b q.2).bind fun p => match p.1 with
      | .nx => whL t b n p.2
      | .ct => whL t b n p.2
      | .bk => some (.nx, p.2)
      | .rt r => some (.rt r, p.2)
      | .rl r => some (.rl r, p.2)
      | .ex cl r => some (.ex cl r, p.2)
      | .tr r => some (.tr r, p.2)
    else some (.nx, q.2)
open Classical in
/-- a while, by as many turns as it needs -/
noncomputable def sWh (t : Ft) (b : Fs) : Fs := fun env => if h : ∃ n r, whL t b n env = some r then some (Classical.choose (Classical.choose_spec h)) else none
theorem whL_mono {t : Ft} {b : Fs} : ∀ {n m : Nat} {env : En} {r : Flw × En}, whL t b n env = some r → n ≤ m → whL t b m env = some r
  | 0, m, env, r, h, _ => by cases h
  | n + 1, 0, env, r, h, hm => by omega
  | n + 1, m + 1, env, r, h, hm => by
    unfold whL at h ⊢
    simp only [Option.bind_eq_some_iff] at h ⊢
    obtain ⟨q, h1, h2⟩ := h
    refine ⟨q, h1, ?_⟩
    by_cases hq : q.1 = true
    · rw [if_pos hq] at h2 ⊢
      simp only [Option.bind_eq_some_iff] at h2 ⊢
      obtain ⟨p, h3, h4⟩ := h2
      refine ⟨p, h3, ?_⟩
      split
      · rename_i hp; rw [hp] at h4; exact whL_mono h4 (by omega)
      · rename_i hp; rw [hp] at h4; exact whL_mono h4 (by omega)
      · rename_i hp; rw [hp] at h4; exact h4
      · rename_i hp; rw [hp] at h4; exact h4
      · rename_i hp; rw [hp] at h4; exact h4
      · rename_i hp; rw [hp] at h4; exact h4
      · rename_i hp; rw [hp] at h4; exact h4
    · rw [if_neg hq] at h2 ⊢
      exact h2
theorem sWh_of {t : Ft} {b : Fs} {n : Nat} {env : En} {r : Flw × En} (h : whL t b n env = some r) : sWh t b env = some r := by
  have hx : ∃ n r, whL t b n env = some r := ⟨n, r, h⟩
  have hc := Classical.choose_spec (Classical.choose_spec hx)
  have e : Classical.choose (Classical.choose_spec hx) = r := by
    have a := whL_mono hc (Nat.le_max_left _ n)
    have b' := whL_mono h (Nat.le_max_right (Classical.choose hx) n)
    rw [a] at b'
    exact Option.some.inj b'
  unfold sWh
  rw [dif_pos hx, e]
theorem sWh_inv {t : Ft} {b : Fs} {env : En} {r : Flw × En} (h : sWh t b env = some r) : ∃ n, whL t b n env = some r := by
  unfold sWh at h
  split at h
  · rename_i hx
    have hc := Classical.choose_spec (Classical.choose_spec hx)
    rw [Option.some.inj h] at hc
    exact ⟨_, hc⟩
  · cases h
section
variable {X : Cx} {xc : XC} {pos : Pos}
theorem get_drop {α : Type} {l : List α} {i : Nat} {a : α} (h : l[i]? = some a) : l.drop i = a :: l.drop (i + 1) := by
  have hi := (List.getElem?_eq_some_iff.mp h).1
  have e := (List.getElem?_eq_some_iff.mp h).2
  rw [List.drop_eq_getElem_cons hi, e]
theorem Rl.yield {K : Frag} {c : C3} {F H H' : Hp} {σ : L2.St} {env : En} {x : V} {d : PyData} (R : Rl K c F σ H env) (h : Yd K F H x H' d) :
    ∃ F', Same F F' ∧ Rl K c F' σ H' env ∧ Dp K F' x d := by
  rcases h with ⟨rfl, h⟩ | ⟨T, xs, es, h1, rfl, rfl, rfl, h2⟩ | ⟨T, T2, xs, es, j, h1, h2, h3, rfl, rfl, rfl, h4⟩
  · exact ⟨F, Same.refl F, R, h⟩
  · obtain ⟨s, R'⟩ := R.laid (o := .tup xs) h1
    exact ⟨_, s, R', .tup (SqT.of upd_same) (h2.up s)⟩
  · obtain ⟨s, R'⟩ := R.laid (o := .tup xs) h1
    obtain ⟨s2, R2⟩ := R'.laid (o := .tup [.int j, .ref T]) (by rw [upd_ne (Ne.symm h3)]; exact h2)
    have t1 : Dp K _ (.ref T) (.tuple es) := .tup (SqT.of upd_same) (h4.up s)
    exact ⟨_, s.trans s2, R2, .tup (SqT.of upd_same) (.cons (.int j) (.cons (t1.up s2) .nil))⟩
theorem ds_for {tg iter : Expr} {body : List Stmt} {fi : Fi} {g : Tg} {S : List Nat} {fb : Fs} (hc : X.calm = true) (hi : PI X tg iter (tI X.K fi)) (hg : PG X tg (tG X.K g S)) (hb : PSs X body (Gs X.K xc fb)) (hp : PassesOwn (model X.prog X.w) X.A X.env X.xe := by first | exact PassesOwn.never | exact passes_of rfl | assumption)
    (hs : ∀ x, foldedSetIterable iter X.env x = pure x := by intro _; rfl) : PS X (.For tg iter body [] pos) (Gs X.K xc (sFor fi g fb)) := PS.imp (ps_for hp hc hi hg hb hs) fun D σ H ⟨c, F, env, fl, env', R, e, k⟩ => by
  unfold sFor at e
  simp only [Option.bind_eq_some_iff] at e
  obtain ⟨⟨ds, n1⟩, h1, h2⟩ := e
  refine ⟨c, F, env, ds, n1, R, h1, fun J F1 H1 s1 R1 w => ?_⟩
  refine ⟨fun i m σ H => ∃ F' en, Same F1 F' ∧ Rl X.K c F' σ H en ∧ i ≤ ds.length ∧ m = ds.length - i ∧ forL g fb (ds.drop i) en = some (fl, env'), ⟨ds.length, F1, n1, Same.refl F1, R1, Nat.zero_le _, by omega, by simpa using h2⟩, ?_⟩
  rintro i m σ2 H2 ⟨F2, en, s2, R2, hi, rfl, hl⟩
  by_cases hlt : i < ds.length
  · obtain ⟨d, hd⟩ := len_get hlt
    rw [get_drop hd] at hl
    unfold forL at hl
    simp only [Option.bind_eq_some_iff] at hl
    obtain ⟨e1, h3, p, h4, h5⟩ := hl
    refine .inr ⟨w.go i H2 (s2.trans R2.sub) hlt, _, fun σ' H' hN => ⟨ds.length - (i + 1), by omega, hN⟩, fun x H' y => ?_⟩
    obtain ⟨F3, s3, R3, hx⟩ := R2.yield ((w.up s2).yld i H2 x H' d R2.sub hd y)
    refine ⟨c, F3, en, d, e1, R3, hx, h3, fun σ4 R4 _ => ⟨c, F3, e1, p.1, p.2, R4, h4, ?_⟩⟩
    have s13 := s2.trans s3
    split at h5
    · rename_i hp
      rw [hp]
      exact fun σ' F' H' s R' => ⟨F', p.2, s13.trans s, R', hlt, rfl, h5⟩
    · rename_i hp
      rw [hp]
      exact fun σ' F' H' s R' => ⟨F', p.2, s13.trans s, R', hlt, rfl, h5⟩
    · rename_i hp
      rw [hp]
      cases h5
      exact fun σ' F' H' s R' => k σ' F' H' ((s1.trans s13).trans s) R'
    · rename_i r hp
      rw [hp]
      cases h5
      exact fun σ' F' H' v s R' hv => k σ' F' H' v ((s1.trans s13).trans s) R' hv
    · rename_i r hp
      rw [hp]
      cases h5
      exact fun σ' F' H' p xs s hp R' hx => k σ' F' H' p xs ((s1.trans s13).trans s) hp R' hx
    · rename_i cl r hp
      rw [hp]
      cases h5
      exact fun σ' F' H' v dd s R' hd hv => k σ' F' H' v dd ((s1.trans s13).trans s) R' hd hv
    · rename_i r hp
      rw [hp]
      cases h5
      exact fun σ' F' H' v s R' hv => k σ' F' H' v ((s1.trans s13).trans s) R' hv
  · have ei : ds.drop i = [] := List.drop_eq_nil_of_le (by omega)
    rw [ei] at hl
    cases hl
    exact .inl ⟨w.stop i H2 (s2.trans R2.sub) (by omega), k σ2 F2 H2 (s1.trans s2) R2⟩
theorem ds_while {t : Expr} {body : List Stmt} {ft : Ft} {fb : Fs} (ht : PT X t (Gt X.K ft)) (hb : PSs X body (Gs X.K xc fb)) (hp : PassesOwn (model X.prog X.w) X.A X.env X.xe := by first | exact PassesOwn.never | exact passes_of rfl | assumption) : PS X (.While t body [] pos) (Gs X.K xc (sWh ft fb)) := PS.imp (ps_while hp ht hb) fun D σ H ⟨c, F, env, fl, env', R, e, k⟩ => by
  obtain ⟨n, hn⟩ := sWh_inv e
  refine ⟨fun m σ H => ∃ F' en, Same F F' ∧ Rl X.K c F' σ H en ∧ whL ft fb m en = some (fl, env'), ⟨n, F, env, Same.refl F, R, hn⟩, ?_⟩
  rintro m σ2 H2 ⟨F2, en, s2, R2, hl⟩
  cases m with
  | zero => cases hl
  | succ m =>
    unfold whL at hl
    simp only [Option.bind_eq_some_iff] at hl
    obtain ⟨⟨q1, q2⟩, h1, h2⟩ := hl
    refine ⟨c, F2, en, q1, q2, R2, h1, fun F3 H3 s3 R3 => ?_⟩
    have s13 := s2.trans s3
    cases q1 with
    | true =>
      rw [if_pos rfl] at h2
      simp only [Option.bind_eq_some_iff] at h2
      obtain ⟨p, h4, h5⟩ := h2
      refine iteT ⟨_, fun σ' H' hN => ⟨m, Nat.lt_succ_self m, hN⟩, c, F3, q2, p.1, p.2, R3, h4, ?_⟩
      split at h5
      · rename_i hp
        rw [hp]
        exact fun σ' F' H' s R' => ⟨F', p.2, s13.trans s, R', h5⟩
      · rename_i hp
        rw [hp]
        exact fun σ' F' H' s R' => ⟨F', p.2, s13.trans s, R', h5⟩
      · rename_i hp
        rw [hp]
        cases h5
        exact fun σ' F' H' s R' => k σ' F' H' (s13.trans s) R'
      · rename_i r hp
        rw [hp]
        cases h5
        exact fun σ' F' H' v s R' hv => k σ' F' H' v (s13.trans s) R' hv
      · rename_i r hp
        rw [hp]
        cases h5
        exact fun σ' F' H' p xs s hp R' hx => k σ' F' H' p xs (s13.trans s) hp R' hx
      · rename_i cl r hp
        rw [hp]
        cases h5
        exact fun σ' F' H' v dd s R' hd hv => k σ' F' H' v dd (s13.trans s) R' hd hv
      · rename_i r hp
        rw [hp]
        cases h5
        exact fun σ' F' H' v s R' hv => k σ' F' H' v (s13.trans s) R' hv
    | false =>
      rw [if_neg Bool.false_ne_true] at h2
      cases h2
      exact iteF (k σ2 F3 H3 s13 R3)
end
def compL (g : Tg) (t : Ft) (e : Fe) (vs : List Nat) : List PyData → En → Option (List PyData × En)
  | [], env => some ([], env)
  | d :: ds, env => (g d env).bind fun e1 => (t e1).bind fun p => if p.1 then (e p.2).bind fun q => (compL g t e vs ds (wipeE q.2 vs)).map fun r => (q.1 :: r.1, r.2) else compL g t e vs ds (wipeE p.2 vs)
def tYs : Ft := fun env => some (true, env)
def lCm (it : Fi) (g : Tg) (t : Ft) (e : Fe) (vs : List Nat) : Fl := fun env => (it env).bind fun p => if okN p.1.length && noOwn p.2 vs then (compL g t e vs p.1 (wipeE p.2 vs)).map fun r => (r.1, restE p.2 r.2 vs) else none
section
variable {X : Cx} {xc : XC} {pos : Pos}
theorem dts_nil : PTs X [] (Gt X.K tYs) := PTs.imp pts_nil fun σ H Q ⟨c, F, env, b, env', R, e, k⟩ => by
  cases e
  exact k F H (Same.refl F) R
def delA (H : Hp) (p : Addr) : Hp := fun b => if b = p then none else H b
theorem delA_same {H : Hp} {p : Addr} : delA H p p = none := if_pos rfl
theorem delA_ne {H : Hp} {p b : Addr} (h : b ≠ p) : delA H p b = H b := if_neg h
theorem upd_delA {H : Hp} {p : Addr} {o : HO} (h : H p = some o) : upd (delA H p) p o = H := by
  funext b
  by_cases hb : b = p
  · subst hb; rw [upd_same, h]
  · rw [upd_ne hb, delA_ne hb]
theorem Rl.rewatch {K : Frag} {c : C3} {F H : Hp} {σ : L2.St} {env : En} {p : Addr} {o o' : HO} (R : Rl K (wat c p o) F σ H env) (hF0 : c.F0 p = none) (hl : ∃ xs, o = .lst xs := by exact ⟨_, rfl⟩) (ho' : NT o' := by intro _ h; cases h) : Rl K (wat c p o') F σ (upd H p o') env := by
  have hF : F p = none := by
    cases e : F p with
    | none => rfl
    | some u =>
      rcases R.new p (by rw [e]; simp) with z | z
      · exact absurd hF0 z
      · have z' : upd c.H0 p o p = none := z
        rw [upd_same] at z'; cases z'
  have w : ∀ {b : Addr} {f : Hp}, b ≠ p → upd f p o b = upd f p o' b := fun hb => by rw [upd_ne hb, upd_ne hb]
  refine ⟨fun b u e => ?_, R.f0, fun b u e => ?_, fun b u e => ?_, fun b hb => ?_, fun b hb => ?_, R.len, R.val, fun i q ds h => ?_, (by obtain ⟨xs, rfl⟩ := hl; exact tabs_wr R.tab R.watched), R.nf, (fun b ps e => by
    by_cases hbp : b = p
    · subst hbp
      have e' : upd c.G b o' b = some (.tbl ps) := e
      rw [upd_same] at e'
      exact ho' ps (Option.some.inj e')
    · refine R.ng b ps ?_
      show upd c.G p o b = _
      rw [w hbp]; exact e)⟩
  · rw [upd_ne (ne_of_none e hF)]; exact R.sub b u e
  · by_cases hbp : b = p
    · subst hbp
      have e' : upd c.G b o' b = some u := e
      rw [upd_same] at e' ⊢; exact e'
    · rw [upd_ne hbp]
      refine R.gd b u ?_
      show upd c.G p o b = some u
      rw [w hbp]; exact e
  · by_cases hbp : b = p
    · subst hbp
      have e' : upd c.G b o' b = some u := e
      show upd c.H0 b o' b = some u
      rw [upd_same] at e' ⊢; exact e'
    · have := R.g0 b u (by show upd c.G p o b = some u; rw [w hbp]; exact e)
      show upd c.H0 p o' b = some u
      rw [← w hbp]; exact this
  · have hbp : b ≠ p := fun z => by subst z; exact hb hF
    rcases R.new b hb with z | z
    · exact .inl z
    · refine .inr ?_
      show upd c.H0 p o' b = none
      rw [← w hbp]; exact z
  · by_cases hbp : b = p
    · subst hbp; rw [upd_same]; simp
    · rw [upd_ne hbp]
      refine R.dom b ?_
      show upd c.H0 p o b ≠ none
      rw [w hbp]; exact hb
  · obtain ⟨a, xs, e1, e2, e3, e4, e5, e6, e7⟩ := R.own i q ds h
    have ne : a ≠ p := fun z => by
      subst z
      have z' : upd c.G a o a = none := e5
      rw [upd_same] at z'; cases z'
    refine ⟨a, xs, e1, e2, by rw [upd_ne ne]; exact e3, e4, ?_, ?_, e7⟩
    · show upd c.G p o' a = none
      rw [← w ne]; exact e5
    · cases q with
      | true => exact e6
      | false =>
        show upd c.H0 p o' a = none
        rw [← w ne]; exact e6
theorem Rl.unw {K : Frag} {c : C3} {F H : Hp} {σ : L2.St} {env : En} {p : Addr} {o : HO} (R : Rl K (wat c p o) F σ H env) (hG : c.G p = none) (hF0 : c.F0 p = none) (hH0 : c.H0 p = none) (hng : NoT c.G) (hl : ∃ xs, o = .lst xs := by exact ⟨_, rfl⟩) : Rl K c F σ (delA H p) env := by
  obtain ⟨hF, R'⟩ := R.unwatch (o' := o) hG hF0 hH0 hng hl
  refine ⟨fun b u e => ?_, R'.f0, fun b u e => ?_, R'.g0, R'.new, fun b hb => ?_, R'.len, R'.val, fun i q ds h => ?_, (by obtain ⟨xs, rfl⟩ := hl; exact tabs_but R.tab R.watched fun _ hb => delA_ne hb), R.nf, hng⟩
  · have ne := ne_of_none e hF
    have := R'.sub b u e
    rw [upd_ne ne] at this
    rw [delA_ne ne]; exact this
  · have ne := ne_of_none e hG
    have := R'.gd b u e
    rw [upd_ne ne] at this
    rw [delA_ne ne]; exact this
  · have ne : b ≠ p := fun z => by subst z; exact hb hH0
    have := R'.dom b hb
    rw [upd_ne ne] at this
    rw [delA_ne ne]; exact this
  · obtain ⟨a, xs, e1, e2, e3, e4, e5, e6, e7⟩ := R.own i q ds h
    have ne : a ≠ p := fun z => by
      subst z
      have z' : upd c.G a o a = none := e5
      rw [upd_same] at z'; cases z'
    obtain ⟨a', xs', f1, f2, f3, f4, f5, f6, f7⟩ := R'.own i q ds h
    rw [e1] at f1
    cases f1
    exact ⟨a, xs, e1, e2, by rw [delA_ne ne]; exact e3, e4, f5, f6, e7⟩
theorem read_comp {K : Frag} {fi : Fi} {g : Tg} {S : List Nat} {t : Ft} {fe : Fe} {vs : List Nat} (hS : ∀ i ∈ S, i ∈ vs) {σ : L2.St} {H : Hp} {Q : VK} (h : Gf K (lCm fi g t fe vs) σ H Q) : tLc (tI K fi) (tG K g S) (Gt K t) (Ge K fe) vs σ H Q := by
  obtain ⟨c, F, env, ds, env', R, e, k⟩ := h
  unfold lCm at e
  simp only [Option.bind_eq_some_iff] at e
  obtain ⟨⟨ds0, n1⟩, h1, h2⟩ := e
  dsimp only at h2
  split at h2
  · rename_i hz
    rw [Bool.and_eq_true] at hz
    simp only [Option.map_eq_some_iff] at h2
    obtain ⟨⟨res, en'⟩, h3, h4⟩ := h2
    obtain ⟨rfl, rfl⟩ := Prod.mk.inj h4
    refine ⟨c, F, env, ds0, n1, R, h1, fun J F1 H1 s1 R1 w D hD => ?_⟩
    have zz : ds0.length < sizeLine := okN_lt hz.1
    have hG : c.G D = none := R1.gn hD
    have hH0 : c.H0 D = none := R1.h0 hD
    have hF0 : c.F0 D = none := (R1.f0.trans R1.sub).free hD
    refine ⟨fun i m H => ∃ F' en xs acc rest, Same F1 F' ∧ Rl K (wat c D (.lst xs)) F' (wipe σ vs) H en ∧ DpAll K F' xs acc ∧ acc.length ≤ i ∧ i ≤ ds0.length ∧ m = ds0.length - i ∧
        compL g t fe vs (ds0.drop i) en = some (rest, en') ∧ acc ++ rest = res, ⟨ds0.length, F1, wipeE n1 vs, [], [], res, Same.refl F1, (R1.watch' hD).wipe' vs, .nil, Nat.le_refl _, Nat.zero_le _, by omega, by simpa using h3, rfl⟩, ?_⟩
    rintro i m H2 ⟨F2, en, xs, acc, rest, s2, R2, hx, hai, hi, rfl, hl, hres⟩
    by_cases hlt : i < ds0.length
    · obtain ⟨d, hd⟩ := len_get hlt
      rw [get_drop hd] at hl
      unfold compL at hl
      simp only [Option.bind_eq_some_iff] at hl
      obtain ⟨e1, h5, ⟨b6, p6⟩, h6, h7⟩ := hl
      refine .inr ⟨w.go i H2 (s2.trans R2.sub) hlt, _, fun H' hN => ⟨ds0.length - (i + 1), by omega, hN⟩, fun x H' y => ?_⟩
      obtain ⟨F3, s3, R3, hx3⟩ := R2.yield ((w.up s2).yld i H2 x H' d R2.sub hd y)
      refine ⟨_, F3, en, d, e1, R3, hx3, h5, fun σ4 R4 w4 => ⟨?_, _, F3, e1, b6, p6, R4, h6, fun F5 H5 s5 R5 => ?_⟩⟩
      · rw [w4 vs hS, wipe_wipe fun _ h => h]
      have w4' : wipe σ4 vs = wipe σ vs := by rw [w4 vs hS, wipe_wipe fun _ h => h]
      have s25 := (s2.trans s3).trans s5
      cases b6 with
      | true =>
        rw [if_pos rfl] at h7
        simp only [Option.bind_eq_some_iff, Option.map_eq_some_iff] at h7
        obtain ⟨⟨d8, n8⟩, h8, ⟨r9, n9⟩, h9, h10⟩ := h7
        obtain ⟨rfl, rfl⟩ := Prod.mk.inj h10
        refine iteT ⟨_, F5, p6, d8, n8, R5, h8, fun v F6 H6 s6 R6 hv => ⟨xs, R6.watched, ?_, ?_⟩⟩
        · rw [hx.len]; omega
        · have R7 := (R6.rewatch (o' := .lst (xs ++ [v])) hF0).wipe' vs
          rw [w4'] at R7
          exact ⟨F6, _, xs ++ [v], acc ++ [d8], r9, s25.trans s6, R7, (hx.up ((s3.trans s5).trans s6)).app (.cons hv .nil), by simp; omega, hlt, rfl, h9, by rw [← hres]; simp⟩
      | false =>
        rw [if_neg Bool.false_ne_true] at h7
        refine iteF ?_
        have R7 := R5.wipe' vs
        rw [w4'] at R7
        exact ⟨F5, _, xs, acc, rest, s25, R7, hx.up (s3.trans s5), by omega, hlt, rfl, h7, hres⟩
    · have ei : ds0.drop i = [] := List.drop_eq_nil_of_le (by omega)
      rw [ei] at hl
      cases hl
      refine .inl ⟨w.stop i H2 (s2.trans R2.sub) (by omega), ?_⟩
      rw [List.append_nil] at hres
      subst hres
      have R3 := R2.unw hG hF0 hH0 R1.ng
      have R4 := R1.rest hz.2 s2 R3
      have := k D xs F2 (delA H2 D) (s1.trans s2) delA_same R4 hx
      rw [upd_delA R2.watched] at this
      exact this
  · cases h2
theorem df_comp {elt tg iter : Expr} {ifs : List Expr} {scope : Scope} {own : List (Str × Nat)} {fi : Fi} {g : Tg} {S : List Nat} {t : Ft} {fe : Fe} (hc : X.calm = true) (hN : X.N.Nodup) (hi : PI X tg iter (tI X.K fi)) (ok : BlkOk X.N X.env.scope scope own)
    (hg : ∀ (s : Shared) (H : Hp) (C : Addr) (cl : List (Str × Addr)) (fp : List Addr), PG (X.blk s H scope (compEnvC scope cl C X.env) fp) tg (tG X.K g S)) (ht : ∀ (s : Shared) (H : Hp) (C : Addr) (cl : List (Str × Addr)) (fp : List Addr), PTs (X.blk s H scope (compEnvC scope cl C X.env) fp) ifs (Gt X.K t))
    (he : ∀ (s : Shared) (H : Hp) (C : Addr) (cl : List (Str × Addr)) (fp : List Addr), PE (X.blk s H scope (compEnvC scope cl C X.env) fp) elt (Ge X.K fe)) (hS : ∀ i ∈ S, i ∈ own.map (·.2) := by decide) (hs : ∀ x, foldedSetIterable iter X.env x = pure x := by intro _; rfl) :
    PE X (.ListComp elt [⟨tg, iter, ifs, 0⟩] scope pos) (Gf X.K (lCm fi g t fe (own.map (·.2)))) := PE.imp (pe_lc hc hN hi ok hg ht he hs) fun _ _ _ => read_comp hS
/-- y = [..] on one line, y a local name: data, or owned -/
theorem ds_setComp (i : Nat) {y : Str} {py : Pos} {elt tg iter : Expr} {ifs : List Expr} {scope : Scope} {own : List (Str × Nat)} {spos : Pos} {fi : Fi} {g : Tg} {S : List Nat} {t : Ft} {fe : Fe} (hc : X.calm = true) (hN : X.N.Nodup)
    (hsw : swapsWith (.ListComp elt [⟨tg, iter, ifs, 0⟩] scope pos) (some (.Name y py)) spos.line X.env = pure true) (hi : PI X tg iter (tI X.K fi)) (ok : BlkOk X.N X.env.scope scope own)
    (hg : ∀ (s : Shared) (H : Hp) (C : Addr) (cl : List (Str × Addr)) (fp : List Addr), PG (X.blk s H scope (compEnvC scope cl C X.env) fp) tg (tG X.K g S)) (ht : ∀ (s : Shared) (H : Hp) (C : Addr) (cl : List (Str × Addr)) (fp : List Addr), PTs (X.blk s H scope (compEnvC scope cl C X.env) fp) ifs (Gt X.K t))
    (he : ∀ (s : Shared) (H : Hp) (C : Addr) (cl : List (Str × Addr)) (fp : List Addr), PE (X.blk s H scope (compEnvC scope cl C X.env) fp) elt (Ge X.K fe)) (hS : ∀ i ∈ S, i ∈ own.map (·.2) := by decide) (hy : X.N[i]? = some y := by rfl) (hyl : X.env.scope.names.lookup y = some .local := by rfl) (hs : ∀ x, foldedSetIterable iter X.env x = pure x := by intro _; rfl) :
    PS X (.Assign [.Name y py] (.ListComp elt [⟨tg, iter, ifs, 0⟩] scope pos) spos) (Gs X.K xc (sSet (eF (lCm fi g t fe (own.map (·.2)))) (g1 i))) :=
  PS.imp (ps_setLc hc hN hy hyl hsw hi ok hg ht he hs) fun D σ H ⟨c, F, env, fl, env', R, e, k⟩ => by
  simp only [sSet, eF, g1, Option.bind_eq_some_iff, Option.map_eq_some_iff, Option.map_some, Option.some.injEq] at e
  obtain ⟨⟨d1, n1⟩, ⟨⟨ds, n2⟩, h1, h2⟩, h3⟩ := e
  obtain ⟨rfl, rfl⟩ := Prod.mk.inj h2
  obtain ⟨rfl, rfl⟩ := Prod.mk.inj h3
  refine read_comp hS ⟨c, F, env, ds, n2, R, h1, fun p xs F' H' s hp R' hx => ?_⟩
  obtain ⟨sF, R2⟩ := R'.laid (o := .lst xs) hp
  exact k _ _ _ (s.trans sF) (R2.put (.lst (SqL.of upd_same) (hx.up sF)) i)
end
/-- a def of plain data: what it computes -/
def spP (K : Frag) (n : Nat) (f : List PyData → Option PyData) : Sp := fun vs H Q _ => ∃ (F : Hp) (ds : List PyData) (d : PyData), vs.length = n ∧ Bs F H ∧ DpAll K F vs ds ∧ f ds = some d ∧
  ∀ v F' H', Same F F' → Bs F' H' → Kp H H' → (∀ b, F' b ≠ none → F b ≠ none ∨ H b = none) → Dp K F' v d → Q v H'
/-- a def whose first parameter is a list that it changes -/
def spM (K : Frag) (n : Nat) (f : List PyData → List PyData → Option (PyData × List PyData)) : Sp := fun vs H Q _ => ∃ (F : Hp) (a : Addr) (ws xs : List V) (ks ds ks' : List PyData) (d : PyData), vs = .ref a :: ws ∧ vs.length = n ∧ Bs F H ∧ F a = none ∧ H a = some (.lst xs) ∧ DpAll K F xs ks ∧ DpAll K F ws ds ∧ f ks ds = some (d, ks') ∧
  ∀ v F' H' xs', Same F F' → Bs F' H' → KpM a H H' → (∀ b, F' b ≠ none → F b ≠ none ∨ H b = none) → H' a = some (.lst xs') → DpAll K F' xs' ks' → Dp K F' v d → Q v H'
/-- a def that hands back a new list -/
def spL (K : Frag) (n : Nat) (f : List PyData → Option (List PyData)) : Sp := fun vs H Q _ => ∃ (F : Hp) (ds es : List PyData), vs.length = n ∧ Bs F H ∧ DpAll K F vs ds ∧ f ds = some es ∧
  ∀ p xs F' H', Same F F' → Bs F' H' → Kp H H' → (∀ b, F' b ≠ none → F b ≠ none ∨ H b = none) → H' p = none → DpAll K F' xs es → Q (.ref p) (upd H' p (.lst xs))
def en0 (N : Nat) (ds : List PyData) : En := ds.map .val ++ List.replicate (N - ds.length) .no
def endP : Option (Flw × En) → Option PyData
  | some (.rt d, _) => some d
  | some (.rl ds, _) => some (.list ds)
  | some (.nx, _) => some .none
  | _ => none
def runP (b : Fs) (N n : Nat) : List PyData → Option PyData := fun ds => if ds.length = n then endP (b (en0 N ds)) else none
def endL : Option (Flw × En) → Option (List PyData)
  | some (.rl ds, _) => some ds
  | _ => none
def runL (b : Fs) (N n : Nat) : List PyData → Option (List PyData) := fun ds => if ds.length = n then endL (b (en0 N ds)) else none
def endM : Option (Flw × En) → Option (PyData × List PyData)
  | some (.rt d, .own true ks :: _) => some (d, ks)
  | some (.rl d, .own true ks :: _) => some (.list d, ks)
  | some (.nx, .own true ks :: _) => some (.none, ks)
  | _ => none
def runM (b : Fs) (N n : Nat) : List PyData → List PyData → Option (PyData × List PyData) := fun ks ds => if ds.length + 1 = n then endM (b (.own true ks :: en0 (N - 1) ds)) else none
theorem en0_val {N : Nat} {ds : List PyData} {i : Nat} {d : PyData} (h : (en0 N ds)[i]? = some (.val d)) : ds[i]? = some d := by
  unfold en0 at h
  by_cases hi : i < ds.length
  · rw [List.getElem?_append_left (by simpa using hi), List.getElem?_map] at h
    cases e : ds[i]? with
    | none => rw [e] at h; cases h
    | some x => rw [e] at h; cases h; rfl
  · rw [List.getElem?_append_right (by simpa using hi), List.getElem?_replicate] at h
    split at h <;> cases h
theorem en0_own {N : Nat} {ds es : List PyData} {i : Nat} {p : Bool} (h : (en0 N ds)[i]? = some (.own p es)) : False := by
  unfold en0 at h
  by_cases hi : i < ds.length
  · rw [List.getElem?_append_left (by simpa using hi), List.getElem?_map] at h
    cases e : ds[i]? with
    | none => rw [e] at h; cases h
    | some x => rw [e] at h; cases h
  · rw [List.getElem?_append_right (by simpa using hi), List.getElem?_replicate] at h
    split at h <;> cases h
theorem start_get {N : List Str} {vs : List V} {i : Nat} {v : V} (h : vs[i]? = some v) : (L2.start N vs)[i]? = some (some v) := by
  unfold L2.start
  have hi := (List.getElem?_eq_some_iff.mp h).1
  rw [List.getElem?_append_left (by simpa using hi), List.getElem?_map, h]
  rfl
section
variable {P : Program} {w : World} {K : Frag} {mg : Str → Option Value} {base : Heap} {x qual : Str} {st : Stmt} {f : Addr} {fd : FuncData} {N ps : List Str} {k n : Nat} {fb : Fs}
theorem start_len (hn : vs.length ≤ N.length) : (L2.start N vs).length = N.length := by
  unfold L2.start
  rw [List.length_append, List.length_map, List.length_replicate]
  omega
theorem readP {ca : Str → Addr} (S : FnScope N ps (defScope st)) (hn : ps.length = n) {vs : List V} {H : Hp} {Q : VK} {E : XK} (h : spP K n (runP fb N.length n) vs H Q E) :
    Gs K (xc0 ca) fb { nx := fun _ H' => Q .non H', rt := Q } (L2.start N vs) H := by
  obtain ⟨F, ds, d, h1, h2, h3, h4, h5⟩ := h
  have hl := h3.len
  have hN : ps.length ≤ N.length := by
    have := congrArg List.length S.pre
    rw [List.length_take] at this
    omega
  unfold runP at h4
  rw [if_pos (by omega)] at h4
  cases e : fb (en0 N.length ds) with
  | none => rw [e] at h4; cases h4
  | some r =>
    obtain ⟨fl, env'⟩ := r
    rw [e] at h4
    have R : Rl K ⟨H, F, noT H, vs⟩ F (L2.start N vs) H (en0 N.length ds) := by
      refine ⟨h2.sub, Same.refl F, noT_sub, noT_sub, fun a h => .inl h, fun a h => h, ?_, fun i d h => ?_, fun i p es h => (en0_own h).elim, h2.tab, h2.nf, noT_no⟩
      · rw [start_len (by omega)]
        unfold en0
        rw [List.length_append, List.length_map, List.length_replicate]
        omega
      · obtain ⟨v, e1, e2⟩ := h3.at (en0_val h)
        exact ⟨v, start_get e1, e2⟩
    refine ⟨⟨H, F, noT H, vs⟩, F, en0 N.length ds, fl, env', R, e, ?_⟩
    have fin : ∀ {σ' : L2.St} {F' H' : Hp}, Rl K ⟨H, F, noT H, vs⟩ F' σ' H' env' → Same F F' ∧ Bs F' H' ∧ Kp H H' ∧ ∀ b, F' b ≠ none → F b ≠ none ∨ H b = none := fun R' => ⟨R'.f0, R'.base, ⟨fun b o n e => R'.gd b o (noT_of e n), R'.dom⟩, R'.new⟩
    cases fl with
    | nx =>
      cases h4
      intro σ' F' H' s' R'
      obtain ⟨a1, a2, a3, a4⟩ := fin R'
      exact h5 .non F' H' a1 a2 a3 a4 .non
    | rt d' =>
      cases h4
      intro σ' F' H' v s' R' hv
      obtain ⟨a1, a2, a3, a4⟩ := fin R'
      exact h5 v F' H' a1 a2 a3 a4 hv
    | rl es =>
      cases h4
      intro σ' F' H' p xs s' hp R' hx
      obtain ⟨sF, R2⟩ := R'.laid (o := .lst xs) hp
      obtain ⟨a1, a2, a3, a4⟩ := fin R2
      exact h5 (.ref p) _ _ a1 a2 a3 a4 (.lst (SqL.of upd_same) (hx.up sF))
    | bk => cases h4
    | ct => cases h4
    | ex => cases h4
    | tr => cases h4
theorem okP {ca : Str → Addr} (Fn : L2.Fun K x qual st f fd) (S : FnScope N ps (defScope st)) (hn : ps.length = n)
    (hb : ∀ (cdv : Value) (A : Around) (outer : List Env) (s : Shared) (H : Hp) (E : XK), Room k (A.deeper (envOfC qual (defScope st) s.heap.objs.size f cdv)) → PSs (cxOf CX0 P w K mg base N qual (defScope st) f cdv A outer s H E).nox (defBody st) (Gs K (xc0 ca) fb)) :
    FnOk P w K mg base CX0 (k + 1) f fd ps (spP K n (runP fb N.length n)) := by
  refine Fn.okG S (fun vs H Q E h => ?_) (fun cdv A outer s H vs Q E hr h => ⟨Gs K (xc0 ca) fb, hb cdv A outer s H E hr, readP S hn h⟩)
  obtain ⟨F, ds, d, h1, _⟩ := h
  rw [h1, hn]
theorem okM {ca : Str → Addr} (Fn : L2.Fun K x qual st f fd) (S : FnScope N ps (defScope st)) (hn : ps.length = n)
    (hb : ∀ (cdv : Value) (A : Around) (outer : List Env) (s : Shared) (H : Hp) (E : XK), Room k (A.deeper (envOfC qual (defScope st) s.heap.objs.size f cdv)) → PSs (cxOf CX0 P w K mg base N qual (defScope st) f cdv A outer s H E).nox (defBody st) (Gs K (xc0 ca) fb)) :
    FnOk P w K mg base CX0 (k + 1) f fd ps (spM K n (runM fb N.length n)) := by
  refine Fn.okG S (fun vs H Q E h => ?_) (fun cdv A outer s H vs Q E hr h => ⟨Gs K (xc0 ca) fb, hb cdv A outer s H E hr, ?_⟩)
  · obtain ⟨F, a, ws, xs, ks, ds, ks', d, h0, h1, _⟩ := h
    rw [h1, hn]
  · obtain ⟨F, a, ws, xs, ks, ds, ks', d, rfl, h1, h2, hFa, hHa, hxs, hws, h4, h5⟩ := h
    have hl := hws.len
    have h1' : ws.length + 1 = n := h1
    have hN : ps.length ≤ N.length := by
      have := congrArg List.length S.pre
      rw [List.length_take] at this
      omega
    unfold runM at h4
    rw [if_pos (by omega)] at h4
    cases e : fb (.own true ks :: en0 (N.length - 1) ds) with
    | none => rw [e] at h4; cases h4
    | some r =>
      obtain ⟨fl, env'⟩ := r
      rw [e] at h4
      have keepD : Same (delA (noT H) a) H := fun b o e => by
        by_cases hb : b = a
        · subst hb; rw [delA_same] at e; cases e
        · rw [delA_ne hb] at e; exact noT_sub b o e
      have R : Rl K ⟨H, F, delA (noT H) a, .ref a :: ws⟩ F (L2.start N (.ref a :: ws)) H (.own true ks :: en0 (N.length - 1) ds) := by
        refine ⟨h2.sub, Same.refl F, keepD, keepD, fun a h => .inl h, fun a h => h, ?_, fun i d h => ?_, fun i p es h => ?_, h2.tab, h2.nf, fun b ps e => ?_⟩
        · rw [start_len (by rw [h1]; omega)]
          unfold en0
          rw [List.length_cons, List.length_append, List.length_map, List.length_replicate]
          omega
        · cases i with
          | zero => cases h
          | succ i =>
            rw [List.getElem?_cons_succ] at h
            obtain ⟨v, e1, e2⟩ := hws.at (en0_val h)
            exact ⟨v, start_get (by rw [List.getElem?_cons_succ]; exact e1), e2⟩
        · cases i with
          | zero =>
            cases h
            refine ⟨a, xs, start_get rfl, hFa, hHa, hxs, delA_same, ?_, fun j q es hj hq => ?_⟩
            · show (V.ref a :: ws)[0]? = some (.ref a)
              rfl
            · cases j with
              | zero => exact absurd rfl hj
              | succ j =>
                rw [List.getElem?_cons_succ] at hq
                exact (en0_own hq).elim
          | succ i =>
            rw [List.getElem?_cons_succ] at h
            exact (en0_own h).elim
        · have e' : delA (noT H) a b = some (.tbl ps) := e
          by_cases hb : b = a
          · subst hb; rw [delA_same] at e'; cases e'
          · rw [delA_ne hb] at e'; exact noT_no b ps e'
      refine ⟨⟨H, F, delA (noT H) a, .ref a :: ws⟩, F, _, fl, env', R, e, ?_⟩
      have fin : ∀ {σ' : L2.St} {F' H' : Hp} {ks' : List PyData} {tl : En}, Rl K ⟨H, F, delA (noT H) a, .ref a :: ws⟩ F' σ' H' (.own true ks' :: tl) → Same F F' ∧ Bs F' H' ∧ KpM a H H' ∧ (∀ b, F' b ≠ none → F b ≠ none ∨ H b = none) ∧ ∃ xs', H' a = some (.lst xs') ∧ DpAll K F' xs' ks' := fun R' => by
        refine ⟨R'.f0, R'.base, ⟨fun b o n hb e => R'.gd b o (by show delA (noT H) a b = some o; rw [delA_ne hb]; exact noT_of e n), R'.dom⟩, R'.new, ?_⟩
        obtain ⟨a', xs', e1, e2, e3, e4, e5, e6, e7⟩ := R'.own 0 true _ rfl
        have e6' : (V.ref a :: ws)[0]? = some (.ref a') := e6
        cases e6'
        exact ⟨xs', e3, e4⟩
      cases fl with
      | nx =>
        cases env' with
        | nil => cases h4
        | cons s0 tl =>
          cases s0 with
          | own b ks2 =>
            cases b with
            | true =>
              cases h4
              intro σ' F' H' s' R'
              obtain ⟨a1, a2, a3, a4, xs', a5, a6⟩ := fin R'
              exact h5 .non F' H' xs' a1 a2 a3 a4 a5 a6 .non
            | false => cases h4
          | no => cases h4
          | val _ => cases h4
      | rt d' =>
        cases env' with
        | nil => cases h4
        | cons s0 tl =>
          cases s0 with
          | own b ks2 =>
            cases b with
            | true =>
              cases h4
              intro σ' F' H' v s' R' hv
              obtain ⟨a1, a2, a3, a4, xs', a5, a6⟩ := fin R'
              exact h5 v F' H' xs' a1 a2 a3 a4 a5 a6 hv
            | false => cases h4
          | no => cases h4
          | val _ => cases h4
      | rl es =>
        cases env' with
        | nil => cases h4
        | cons s0 tl =>
          cases s0 with
          | own b ks2 =>
            cases b with
            | true =>
              cases h4
              intro σ' F' H' p xs s' hp R' hx
              obtain ⟨sF, R2⟩ := R'.laid (o := .lst xs) hp
              obtain ⟨a1, a2, a3, a4, xs', a5, a6⟩ := fin R2
              exact h5 (.ref p) _ _ xs' a1 a2 a3 a4 a5 a6 (.lst (SqL.of upd_same) (hx.up sF))
            | false => cases h4
          | no => cases h4
          | val _ => cases h4
      | bk => cases h4
      | ct => cases h4
      | ex => cases h4
      | tr => cases h4
theorem okL {ca : Str → Addr} (Fn : L2.Fun K x qual st f fd) (S : FnScope N ps (defScope st)) (hn : ps.length = n)
    (hb : ∀ (cdv : Value) (A : Around) (outer : List Env) (s : Shared) (H : Hp) (E : XK), Room k (A.deeper (envOfC qual (defScope st) s.heap.objs.size f cdv)) → PSs (cxOf CX0 P w K mg base N qual (defScope st) f cdv A outer s H E).nox (defBody st) (Gs K (xc0 ca) fb)) :
    FnOk P w K mg base CX0 (k + 1) f fd ps (spL K n (runL fb N.length n)) := by
  refine Fn.okG S (fun vs H Q E h => ?_) (fun cdv A outer s H vs Q E hr h => ⟨Gs K (xc0 ca) fb, hb cdv A outer s H E hr, ?_⟩)
  · obtain ⟨F, ds, d, h1, _⟩ := h
    rw [h1, hn]
  · obtain ⟨F, ds, d, h1, h2, h3, h4, h5⟩ := h
    have hl := h3.len
    have hN : ps.length ≤ N.length := by
      have := congrArg List.length S.pre
      rw [List.length_take] at this
      omega
    unfold runL at h4
    rw [if_pos (by omega)] at h4
    cases e : fb (en0 N.length ds) with
    | none => rw [e] at h4; cases h4
    | some r =>
      obtain ⟨fl, env'⟩ := r
      rw [e] at h4
      have R : Rl K ⟨H, F, noT H, vs⟩ F (L2.start N vs) H (en0 N.length ds) := by
        refine ⟨h2.sub, Same.refl F, noT_sub, noT_sub, fun a h => .inl h, fun a h => h, ?_, fun i d h => ?_, fun i p es h => (en0_own h).elim, h2.tab, h2.nf, noT_no⟩
        · rw [start_len (by omega)]
          unfold en0
          rw [List.length_append, List.length_map, List.length_replicate]
          omega
        · obtain ⟨v, e1, e2⟩ := h3.at (en0_val h)
          exact ⟨v, start_get e1, e2⟩
      refine ⟨⟨H, F, noT H, vs⟩, F, en0 N.length ds, fl, env', R, e, ?_⟩
      have fin : ∀ {σ' : L2.St} {F' H' : Hp}, Rl K ⟨H, F, noT H, vs⟩ F' σ' H' env' → Same F F' ∧ Bs F' H' ∧ Kp H H' ∧ ∀ b, F' b ≠ none → F b ≠ none ∨ H b = none := fun R' => ⟨R'.f0, R'.base, ⟨fun b o n e => R'.gd b o (noT_of e n), R'.dom⟩, R'.new⟩
      cases fl with
      | rl es =>
        cases h4
        intro σ' F' H' p xs s' hp R' hx
        obtain ⟨a1, a2, a3, a4⟩ := fin R'
        exact h5 p xs F' H' a1 a2 a3 a4 hp hx
      | nx => cases h4
      | rt d' => cases h4
      | bk => cases h4
      | ct => cases h4
      | ex => cases h4
      | tr => cases h4
theorem hu64 {A : Around} (hr : Room k A) : A.units + 64 < cLine := by
  have := hr.un
  omega
end
def eM (i : Nat) (g : List PyData → List PyData → Option (PyData × List PyData)) (fl : Fl) : Fe := fun env => if isOwn env i then (fl env).bind fun p => match p.2[i]? with
  | some (.own b ks) => (g ks p.1).map fun q => (q.1, p.2.set i (.own b q.2))
  | _ => none else none
section
variable {X : Cx} {xc : XC} {k n : Nat} {f : Addr} {fd : FuncData} {ps : List Str} {x : Str} {p pos : Pos} {e : Expr} {es : List Expr} {fl : Fl} {g : List PyData → Option PyData} {gM : List PyData → List PyData → Option (PyData × List PyData)}
theorem runP_len {b : Fs} {N n : Nat} (ds : List PyData) (z : PyData) (h : runP b N n ds = some z) : ds.length = n := by
  unfold runP at h
  split at h
  · assumption
  · cases h
theorem runM_len {b : Fs} {N n : Nat} (ks ds : List PyData) (z : PyData × List PyData) (h : runM b N n ks ds = some z) : ds.length + 1 = n := by
  unfold runM at h
  split at h
  · assumption
  · cases h
theorem oA_call {K : Frag} {E : XK} (hl : ∀ ds z, g ds = some z → ds.length = n) : OpA K (fun vs H Q => spP K n g (vs ++ []) H Q E) g := by
  intro c F σ H env xs ds z Q R hx h k
  show spP K n g (xs ++ []) H Q E
  rw [List.append_nil]
  exact ⟨F, ds, z, by rw [hx.len]; exact hl ds z h, R.base, hx, h, fun v F' H' a1 a2 a3 a4 hv => k v F' H' a1 (R.after a1 a2 a3 a4) hv⟩
theorem de_call (Fk : FnOk X.prog X.w X.K X.mg X.base CX0 k f fd ps (spP X.K n g)) (hl : ∀ ds z, g ds = some z → ds.length = n) (hr : Room k X.A) (hg : Gl X x) (hm : X.mg x = some (.ref f)) (hk : PySem.W.keepIn X.K (.ref f) = true) (hb : Binds X.K fd ps []) (ha : PA X (e :: es) (Ga X.K fl))
    (hdb : (x == ("__debug__" : Str)) = false := by decide) (he : starEach (e :: es) X.env = (false, eval e X.env) :: starEach es X.env := by rfl) (hpl : (backTo pos (starEach es X.env)).any (·.1) = false := by rfl) :
    PE X (.Call (.Name x p) (e :: es) [] pos) (Ge X.K (eA g fl)) := PE.imp (pe_call Fk hr hg hm hk hb .nil pass0 ha hdb he hpl) fun _ _ _ h => goA (oA_call hl) h
theorem de_callM (i : Nat) {y : Str} {p2 : Pos} (Fk : FnOk X.prog X.w X.K X.mg X.base CX0 k f fd ps (spM X.K n gM)) (hl : ∀ ks ds z, gM ks ds = some z → ds.length + 1 = n) (hr : Room k X.A) (hg : Gl X x) (hm : X.mg x = some (.ref f)) (hk : PySem.W.keepIn X.K (.ref f) = true) (hb : Binds X.K fd ps []) (ha : PA X es (Ga X.K fl))
    (hN : X.N[i]? = some y := by rfl) (hv : Vis X.env.scope y := by first | exact Or.inl rfl | exact Or.inr (Or.inl rfl) | exact Or.inr (Or.inr rfl)) (hd : (y == ("__debug__" : Str)) = false := by decide) (hcd : (y == ("__classdict__" : Str)) = false := by decide)
    (hdb : (x == ("__debug__" : Str)) = false := by decide) (he : starEach (.Name y p2 :: es) X.env = (false, eval (.Name y p2) X.env) :: starEach es X.env := by rfl) (hpl : (backTo pos (starEach es X.env)).any (·.1) = false := by rfl) :
    PE X (.Call (.Name x p) (.Name y p2 :: es) [] pos) (Ge X.K (eM i gM fl)) := PE.imp (pe_call Fk hr hg hm hk hb .nil pass0 (pa_cons (pe_var hN hv hd hcd) ha he) hdb he hpl) fun σ H Q ⟨c, F, env, d, env', R, e, k⟩ => by
  unfold eM at e
  by_cases ho : isOwn env i = true
  · rw [if_pos ho] at e
    simp only [Option.bind_eq_some_iff] at e
    obtain ⟨⟨d1, n1⟩, h1, h2⟩ := e
    dsimp only at h2
    split at h2
    · rename_i b ks hi
      simp only [Option.map_eq_some_iff] at h2
      obtain ⟨⟨z, ks'⟩, h3, h4⟩ := h2
      obtain ⟨rfl, rfl⟩ := Prod.mk.inj h4
      obtain ⟨a, ys, ha, hys⟩ := own_of R ho
      refine ⟨.ref a, ha, c, F, env, d1, n1, R, h1, fun ws F1 H1 s1 R1 hw => ?_⟩
      obtain ⟨a', xs, e1, e2, e3, e4, e5, e6, e7⟩ := R1.own i b ks hi
      rw [ha] at e1
      cases e1
      show spM X.K n gM ((.ref a :: ws) ++ []) H1 Q E0
      rw [List.append_nil]
      refine ⟨F1, a, ws, xs, ks, d1, ks', z, rfl, ?_, R1.base, e2, e3, e4, hw, h3, fun v F' H' xs' a1 a2 a3 a4 a5 a6 hv => ?_⟩
      · rw [List.length_cons, hw.len]; exact hl ks d1 _ h3
      · exact k v F' H' (s1.trans a1) (R1.afterM hi ha a1 a2 a3 a4 a5 a6) hv
    · cases h2
  · rw [if_neg ho] at e
    cases e
end
end Dn
namespace Dn
open PySem PySem.Spec PyProof.Rows L2
open PySem.W (Frag)
variable [Tb]
def eOne (c : En → Bool) (f g : Fe) : Fe := fun env => if c env then f env else g env
section
variable {X : Cx} {xc : XC} {e a b l : Expr} {es : List Expr} {f g fa fb fi : Fe} {fl fm : Fl} {pos : Pos}
theorem de_either (c : En → Bool) (h1 : PE X e (Ge X.K f)) (h2 : PE X e (Ge X.K g)) : PE X e (Ge X.K (eOne c f g)) := ⟨fun pins s σ H Q I ⟨c0, F, env, d, env', R, e, k⟩ => by
  unfold eOne at e
  split at e
  · exact h1.run pins s σ H Q I ⟨c0, F, env, d, env', R, e, k⟩
  · exact h2.run pins s σ H Q I ⟨c0, F, env, d, env', R, e, k⟩⟩
/-- len(x), x[i] of a name that owns its list, or holds data -/
abbrev eLenV (i : Nat) : Fe := eOne (fun env => isOwn env i) (eLenO i) (eA gLen (lCons (eV i) lNil))
abbrev eIxV (i : Nat) (fi : Fe) : Fe := eOne (fun env => isOwn env i) (eIxO i fi) (e2 gIx (eV i) fi)
theorem de_lenV (i : Nat) {x : Str} {p p2 : Pos} (hg : Gl X "len") (hm : X.mg "len" = none) (hN : X.N[i]? = some x := by rfl) (hv : Vis X.env.scope x := by first | exact Or.inl rfl | exact Or.inr (Or.inl rfl) | exact Or.inr (Or.inr rfl)) (hd : (x == ("__debug__" : Str)) = false := by decide)
    (hcd : (x == ("__classdict__" : Str)) = false := by decide) (he : starEach (Expr.Name x p2 :: []) X.env = (false, eval (Expr.Name x p2) X.env) :: starEach [] X.env := by rfl) (hpl : (backTo pos (starEach [] X.env)).any (·.1) = false := by rfl) :
    PE X (.Call (.Name "len" p) [.Name x p2] [] pos) (Ge X.K (eLenV i)) :=
  de_either _ (de_lenO i hg hm hN hv hd hcd he hpl) (de_B call_lenG oA_len hg hm PySem.boot_len (da_cons (de_v i hN hv hd hcd) da_nil he) (by decide) (by decide) he hpl)
theorem de_ixV (i : Nat) {x : Str} {p2 : Pos} {ix : Expr} (hix : PE X ix (Ge X.K fi)) (hN : X.N[i]? = some x := by rfl) (hv : Vis X.env.scope x := by first | exact Or.inl rfl | exact Or.inr (Or.inl rfl) | exact Or.inr (Or.inr rfl)) (hd : (x == ("__debug__" : Str)) = false := by decide)
    (hcd : (x == ("__classdict__" : Str)) = false := by decide) (hs : PlainIx ix := by exact fun _ _ => rfl) : PE X (.Subscript (.Name x p2) ix pos) (Ge X.K (eIxV i fi)) :=
  de_either _ (de_ixO i hix hN hv hd hcd hs) (de_ix ix_seq o2_ix (de_v i hN hv hd hcd) hix hs)
/-- list(x) -/
def lOf (f : Fl) : Fl := fun env => (f env).bind fun p => match p.1 with
  | [.list ds] => some (ds, p.2)
  | [.tuple ds] => some (ds, p.2)
  | _ => none
theorem df_listOf {p : Pos} (hg : Gl X "list") (hm : X.mg "list" = none) (ha : PA X [a] (Ga X.K fl)) (he : starEach (a :: []) X.env = (false, eval a X.env) :: starEach [] X.env := by rfl) (hpl : (backTo pos (starEach [] X.env)).any (·.1) = false := by rfl) :
    PE X (.Call (.Name "list" p) [a] [] pos) (Gf X.K (lOf fl)) := PE.imp (pe_callTy call_list_of hg hm (by decide +kernel) ha (by decide) (by decide) he hpl) fun σ H Q ⟨c, F, env, ds, env', R, e, k⟩ => by
  unfold lOf at e
  simp only [Option.bind_eq_some_iff] at e
  obtain ⟨⟨d1, n1⟩, h1, h2⟩ := e
  dsimp only at h2
  split at h2
  · cases h2
    refine ⟨c, F, env, _, _, R, h1, fun vs F' H' s R' hv => ?_⟩
    cases hv with
    | cons h3 h4 =>
      cases h4
      cases h3 with
      | lst hs ha => exact ⟨_, _, rfl, .inl (R'.sub.seq hs), fun l hl => k l _ F' H' s hl R' ha⟩
  · cases h2
    refine ⟨c, F, env, _, _, R, h1, fun vs F' H' s R' hv => ?_⟩
    cases hv with
    | cons h3 h4 =>
      cases h4
      cases h3 with
      | tup hs ha => exact ⟨_, _, rfl, .inr (sqT_mono R'.sub hs), fun l hl => k l _ F' H' s hl R' ha⟩
  · cases h2
end
end Dn
namespace Dn
open PySem PySem.Spec PyProof.Rows L2
open PySem.W (Frag)
variable [Tb]
section
variable {X : Cx} {xc : XC} {k k2 n m : Nat} {f f2 : Addr} {fd fd2 : FuncData} {ps ps2 : List Str} {x : Str} {p pos : Pos} {e a : Expr} {es : List Expr} {fl fm : Fl} {g : List PyData → Option (List PyData)} {gM : List PyData → List PyData → Option (PyData × List PyData)}
theorem runL_len {b : Fs} {N n : Nat} (ds : List PyData) (z : List PyData) (h : runL b N n ds = some z) : ds.length = n := by
  unfold runL at h
  split at h
  · assumption
  · cases h
def lA (g : List PyData → Option (List PyData)) (a : Fl) : Fl := fun env => (a env).bind fun p => (g p.1).map fun z => (z, p.2)
theorem df_call (Fk : FnOk X.prog X.w X.K X.mg X.base CX0 k f fd ps (spL X.K n g)) (hl : ∀ ds z, g ds = some z → ds.length = n) (hr : Room k X.A) (hg : Gl X x) (hm : X.mg x = some (.ref f)) (hk : PySem.W.keepIn X.K (.ref f) = true) (hb : Binds X.K fd ps []) (ha : PA X (e :: es) (Ga X.K fl))
    (hdb : (x == ("__debug__" : Str)) = false := by decide) (he : starEach (e :: es) X.env = (false, eval e X.env) :: starEach es X.env := by rfl) (hpl : (backTo pos (starEach es X.env)).any (·.1) = false := by rfl) :
    PE X (.Call (.Name x p) (e :: es) [] pos) (Gf X.K (lA g fl)) := PE.imp (pe_call Fk hr hg hm hk hb .nil pass0 ha hdb he hpl) fun σ H Q ⟨c, F, env, ds, env', R, e, k⟩ => by
  unfold lA at e
  simp only [Option.bind_eq_some_iff, Option.map_eq_some_iff] at e
  obtain ⟨⟨d1, n1⟩, h1, z, h2, h3⟩ := e
  obtain ⟨rfl, rfl⟩ := Prod.mk.inj h3
  refine ⟨c, F, env, d1, n1, R, h1, fun vs F1 H1 s1 R1 hv => ?_⟩
  show spL X.K n g (vs ++ []) H1 Q E0
  rw [List.append_nil]
  exact ⟨F1, d1, z, by rw [hv.len]; exact hl d1 z h2, R1.base, hv, h2, fun p xs F' H' a1 a2 a3 a4 hp hx => k p xs F' H' (s1.trans a1) hp (R1.after a1 a2 a3 a4) hx⟩
/-- a def that changes its first argument, a new list -/
def eMF (g : List PyData → List PyData → Option (PyData × List PyData)) (fl : Fl) : Fe := fun env => (fl env).bind fun p => (g p.1 []).map fun q => (q.1, p.2)
end
end Dn
set_option Elab.async false
set_option linter.all false
set_option maxRecDepth 100000
namespace Dn
open PySem PySem.Spec PyProof.Rows L2
instance (priority := low) tb0 : Tb := ⟨[], fun _ => 0⟩
variable {a b c : Fe} {f g : Fs} {t u : Ft} {l m : Fl} {x y z : Sl} {e : En} {d d' : PyData} {i j n : Nat}
def kP {α β : Type} (e : β) (a : α) : α × β := (a, e)
@[simp] theorem kP_e {α β : Type} {e : β} {a : α} : kP e a = (a, e) := rfl
@[simp] theorem ev_C : eC d (x :: e) = some (d, x :: e) := rfl
def kV (s : Option Sl) (e : En) : Option (PyData × En) := match s with
  | some (.val d) => some (d, e)
  | _ => none
@[simp] theorem ev_V : eV i (x :: e) = kV ((x :: e)[i]?) (x :: e) := rfl
@[simp] theorem kV_val : kV (some (.val d)) e = some (d, e) := rfl
def kE1 (g : PyData → Option PyData) (p : PyData × En) : Option (PyData × En) := (g p.1).map (kP p.2)
@[simp] theorem ev_1 {g : PyData → Option PyData} : e1 g a (x :: e) = (a (x :: e)).bind (kE1 g) := rfl
@[simp] theorem kE1_e {g : PyData → Option PyData} : kE1 g (d, e) = (g d).map (kP e) := rfl
def kE2b (g : PyData → PyData → Option PyData) (d : PyData) (p : PyData × En) : Option (PyData × En) := (g d p.1).map (kP p.2)
def kE2 (g : PyData → PyData → Option PyData) (b : Fe) (p : PyData × En) : Option (PyData × En) := (b p.2).bind (kE2b g p.1)
@[simp] theorem ev_2 {g : PyData → PyData → Option PyData} : e2 g a b (x :: e) = (a (x :: e)).bind (kE2 g b) := rfl
@[simp] theorem kE2_e {g : PyData → PyData → Option PyData} : kE2 g b (d, e) = (b e).bind (kE2b g d) := rfl
@[simp] theorem kE2b_e {g : PyData → PyData → Option PyData} : kE2b g d (d', e) = (g d d').map (kP e) := rfl
def kEA (g : List PyData → Option PyData) (p : List PyData × En) : Option (PyData × En) := (g p.1).map (kP p.2)
@[simp] theorem ev_A {g : List PyData → Option PyData} : eA g l (x :: e) = (l (x :: e)).bind (kEA g) := rfl
@[simp] theorem kEA_e {g : List PyData → Option PyData} {ds : List PyData} : kEA g (ds, e) = (g ds).map (kP e) := rfl
@[simp] theorem ev_Nil : lNil (x :: e) = some ([], x :: e) := rfl
def kCons2 (d : PyData) (q : List PyData × En) : List PyData × En := (d :: q.1, q.2)
def kCons (b : Fl) (p : PyData × En) : Option (List PyData × En) := (b p.2).map (kCons2 p.1)
@[simp] theorem ev_Cons : lCons a l (x :: e) = (a (x :: e)).bind (kCons l) := rfl
@[simp] theorem kCons_e : kCons l (d, e) = (l e).map (kCons2 d) := rfl
@[simp] theorem kCons2_e {ds : List PyData} : kCons2 d (ds, e) = (d :: ds, e) := rfl
def kF (p : List PyData × En) : PyData × En := (.list p.1, p.2)
@[simp] theorem ev_F : eF l (x :: e) = (l (x :: e)).map kF := rfl
@[simp] theorem kF_e {ds : List PyData} : kF (ds, e) = (.list ds, e) := rfl
def kLst (p : List PyData × En) : Option (List PyData × En) := if okN p.1.length then some p else none
@[simp] theorem ev_Lst : lLst l (x :: e) = (l (x :: e)).bind kLst := (rfl)
def kTup (p : List PyData × En) : Option (PyData × En) := if okN p.1.length then some (.tuple p.1, p.2) else none
@[simp] theorem ev_Tup : eTup l (x :: e) = (l (x :: e)).bind kTup := (rfl)
@[simp] theorem okN_0 : okN 0 = true := by decide
@[simp] theorem okN_1 : okN 1 = true := by decide
@[simp] theorem okN_2 : okN 2 = true := by decide
@[simp] theorem okN_3 : okN 3 = true := by decide
@[simp] theorem okN_4 : okN 4 = true := by decide
@[simp] theorem kLst_0 : kLst ([], e) = some ([], e) := rfl
@[simp] theorem kLst_1 {d1 : PyData} : kLst ([d1], e) = some ([d1], e) := rfl
@[simp] theorem kLst_2 {d1 d2 : PyData} : kLst ([d1, d2], e) = some ([d1, d2], e) := rfl
@[simp] theorem kLst_3 {d1 d2 d3 : PyData} : kLst ([d1, d2, d3], e) = some ([d1, d2, d3], e) := rfl
@[simp] theorem kLst_4 {d1 d2 d3 d4 : PyData} : kLst ([d1, d2, d3, d4], e) = some ([d1, d2, d3, d4], e) := rfl
@[simp] theorem kLst_5 {d1 d2 d3 d4 d5 : PyData} : kLst ([d1, d2, d3, d4, d5], e) = some ([d1, d2, d3, d4, d5], e) := rfl
@[simp] theorem kLst_6 {d1 d2 d3 d4 d5 d6 : PyData} : kLst ([d1, d2, d3, d4, d5, d6], e) = some ([d1, d2, d3, d4, d5, d6], e) := rfl
@[simp] theorem kTup_0 : kTup ([], e) = some (.tuple [], e) := rfl
@[simp] theorem kTup_1 {d1 : PyData} : kTup ([d1], e) = some (.tuple [d1], e) := rfl
@[simp] theorem kTup_2 {d1 d2 : PyData} : kTup ([d1, d2], e) = some (.tuple [d1, d2], e) := rfl
@[simp] theorem kTup_3 {d1 d2 d3 : PyData} : kTup ([d1, d2, d3], e) = some (.tuple [d1, d2, d3], e) := rfl
@[simp] theorem kTup_4 {d1 d2 d3 d4 : PyData} : kTup ([d1, d2, d3, d4], e) = some (.tuple [d1, d2, d3, d4], e) := rfl
theorem smallI_of {n : Int} (h : -1000000 ≤ n) (h2 : n ≤ 1000000) : smallI n = true := by
  unfold smallI
  exact @decide_eq_true _ (Classical.propDecidable _) ⟨by omega, by omega⟩
noncomputable def kRep2 (ds : List PyData) (q : PyData × En) : Option (List PyData × En) := match q.1 with
  | .int n => if smallI n && okN (ds.length * n.toNat) then some (reps n ds, q.2) else none
  | _ => none
noncomputable def kRep (b : Fe) (p : List PyData × En) : Option (List PyData × En) := (b p.2).bind (kRep2 p.1)
@[simp] theorem ev_Rep : lRep l b (x :: e) = (l (x :: e)).bind (kRep b) := (rfl)
@[simp] theorem kRep_e {ds : List PyData} : kRep b (ds, e) = (b e).bind (kRep2 ds) := rfl
theorem kRep2_n {ds : List PyData} {n : Int} (h : n ≤ 1000) (hd : ds.length ≤ 1000) (h0 : -1000 ≤ n) : kRep2 ds (.int n, e) = some (reps n ds, e) := by
  unfold kRep2
  have h1 : ds.length * n.toNat ≤ 1000 * 1000 := Nat.mul_le_mul hd (by omega)
  have : okN (ds.length * n.toNat) = true := okN_of (by omega)
  simp [this, smallI_of (show -1000000 ≤ n by omega) (show n ≤ 1000000 by omega)]
@[simp] theorem ev_No : oNo (x :: e) = some (none, x :: e) := rfl
def kSo (p : PyData × En) : Option (Option Int × En) := match p.1 with
  | .int i => some (some i, p.2)
  | _ => none
@[simp] theorem ev_So : oSo a (x :: e) = (a (x :: e)).bind kSo := rfl
@[simp] theorem kSo_e {n : Int} : kSo (.int n, e) = some (some n, e) := rfl
def kCut3 (d : PyData) (o : Option Int) (r : Option Int × En) : Option (PyData × En) := (gCut d o r.1).map (kP r.2)
def kCut2 (hi : Fo) (d : PyData) (q : Option Int × En) : Option (PyData × En) := (hi q.2).bind (kCut3 d q.1)
def kCut (lo hi : Fo) (p : PyData × En) : Option (PyData × En) := (lo p.2).bind (kCut2 hi p.1)
@[simp] theorem ev_Cut {lo hi : Fo} : eCut a lo hi (x :: e) = (a (x :: e)).bind (kCut lo hi) := (rfl)
@[simp] theorem kCut_e {lo hi : Fo} : kCut lo hi (d, e) = (lo e).bind (kCut2 hi d) := rfl
@[simp] theorem kCut2_e {hi : Fo} {o : Option Int} : kCut2 hi d (o, e) = (hi e).bind (kCut3 d o) := rfl
@[simp] theorem kCut3_e {o o' : Option Int} : kCut3 d o (o', e) = (gCut d o o').map (kP e) := rfl
def kTB (p : PyData × En) : Option (Bool × En) := match p.1 with
  | .bool b => some (b, p.2)
  | _ => none
@[simp] theorem ev_B : tB' a (x :: e) = (a (x :: e)).bind kTB := rfl
@[simp] theorem kTB_e {v : Bool} : kTB (.bool v, e) = some (v, e) := rfl
def kNo (p : Bool × En) : Bool × En := (!p.1, p.2)
@[simp] theorem ev_tNo : tNo t (x :: e) = (t (x :: e)).map kNo := rfl
@[simp] theorem kNo_e {v : Bool} : kNo (v, e) = (!v, e) := rfl
def kAn (u : Ft) (p : Bool × En) : Option (Bool × En) := if p.1 then u p.2 else some (false, p.2)
@[simp] theorem ev_tAn : tAn t u (x :: e) = (t (x :: e)).bind (kAn u) := rfl
@[simp] theorem kAn_t : kAn u (true, e) = u e := rfl
@[simp] theorem kAn_f : kAn u (false, e) = some (false, e) := rfl
def kOrr (u : Ft) (p : Bool × En) : Option (Bool × En) := if p.1 then some (true, p.2) else u p.2
@[simp] theorem ev_tOrr : tOrr t u (x :: e) = (t (x :: e)).bind (kOrr u) := rfl
@[simp] theorem kOrr_t : kOrr u (true, e) = some (true, e) := rfl
@[simp] theorem kOrr_f : kOrr u (false, e) = u e := rfl
def kTr (p : PyData × En) : Option (Bool × En) := (truth p.1).map (kP p.2)
@[simp] theorem ev_tTr : tTr a (x :: e) = (a (x :: e)).bind kTr := (rfl)
@[simp] theorem kTr_e : kTr (d, e) = (truth d).map (kP e) := (rfl)
def keAn (b : Fe) (p : PyData × En) : Option (PyData × En) := match p.1 with
  | .bool true => b p.2
  | .bool false => some (.bool false, p.2)
  | _ => none
@[simp] theorem ev_eAn : eAn a b (x :: e) = (a (x :: e)).bind (keAn b) := rfl
@[simp] theorem keAn_t : keAn b (.bool true, e) = b e := rfl
@[simp] theorem keAn_f : keAn b (.bool false, e) = some (.bool false, e) := rfl
def keNo (p : PyData × En) : Option (PyData × En) := match p.1 with
  | .bool b => some (.bool (!b), p.2)
  | _ => none
@[simp] theorem ev_eNo : eNo a (x :: e) = (a (x :: e)).bind keNo := rfl
@[simp] theorem keNo_e {v : Bool} : keNo (.bool v, e) = some (.bool (!v), e) := rfl
def kCh4 (g' : PyData → PyData → Option PyData) (d : PyData) (r : PyData × En) : Option (PyData × En) := (g' d r.1).map (kP r.2)
def kCh3 (g' : PyData → PyData → Option PyData) (fc : Fe) (d : PyData) (e : En) (z : PyData) : Option (PyData × En) := match z with
  | .bool true => (fc e).bind (kCh4 g' d)
  | .bool false => some (.bool false, e)
  | _ => none
def kCh2 (g g' : PyData → PyData → Option PyData) (fc : Fe) (d : PyData) (q : PyData × En) : Option (PyData × En) := (g d q.1).bind (kCh3 g' fc q.1 q.2)
def kCh1 (g g' : PyData → PyData → Option PyData) (fb fc : Fe) (p : PyData × En) : Option (PyData × En) := (fb p.2).bind (kCh2 g g' fc p.1)
@[simp] theorem ev_Ch {g g' : PyData → PyData → Option PyData} : eCh g g' a b c (x :: e) = (a (x :: e)).bind (kCh1 g g' b c) := by
  unfold eCh kCh1 kCh2 kCh3 kCh4
  rfl
@[simp] theorem kCh1_e {g g' : PyData → PyData → Option PyData} : kCh1 g g' b c (d, e) = (b e).bind (kCh2 g g' c d) := rfl
@[simp] theorem kCh2_e {g g' : PyData → PyData → Option PyData} : kCh2 g g' c d (d', e) = (g d d').bind (kCh3 g' c d' e) := rfl
@[simp] theorem kCh3_t {g' : PyData → PyData → Option PyData} : kCh3 g' c d e (.bool true) = (c e).bind (kCh4 g' d) := rfl
@[simp] theorem kCh3_f {g' : PyData → PyData → Option PyData} : kCh3 g' c d e (.bool false) = some (.bool false, e) := rfl
@[simp] theorem kCh4_e {g' : PyData → PyData → Option PyData} : kCh4 g' d (d', e) = (g' d d').map (kP e) := rfl
def kIsN (p : PyData × En) : PyData × En := (.bool (isNone p.1), p.2)
def kNotN (p : PyData × En) : PyData × En := (.bool (!isNone p.1), p.2)
def kIs (T : String) (p : PyData × En) : Option (PyData × En) := if tyOk p.1 then some (.bool (isT T p.1), p.2) else none
@[simp] theorem ev_IsN : eIsN a (x :: e) = (a (x :: e)).map kIsN := rfl
@[simp] theorem ev_NotN : eNotN a (x :: e) = (a (x :: e)).map kNotN := rfl
@[simp] theorem ev_Is {T : String} : eIs T a (x :: e) = (a (x :: e)).bind (kIs T) := rfl
@[simp] theorem kIsN_e : kIsN (d, e) = (.bool (isNone d), e) := rfl
@[simp] theorem kNotN_e : kNotN (d, e) = (.bool (!isNone d), e) := rfl
@[simp] theorem kIs_e {T : String} : kIs T (d, e) = if tyOk d then some (.bool (isT T d), e) else none := rfl
@[simp] theorem ev_g1 : g1 i d e = some (e.set i (.val d)) := rfl
@[simp] theorem ev_gsN : gsN [] e = some e := rfl
@[simp] theorem ev_gsC {tg : Tg} {us : Tgs} {ds : List PyData} : gsC tg us (d :: ds) e = (tg d e).bind (us ds) := rfl
@[simp] theorem ev_g2 {n : Nat} {us : Tgs} {ds : List PyData} : g2 n us (.tuple ds) e = if ds.length = n then us ds e else none := rfl
@[simp] theorem ev_Nx : sNx (x :: e) = some (.nx, x :: e) := rfl
def kSeq (b : Fs) (p : Flw × En) : Option (Flw × En) := match p.1 with
  | .nx => b p.2
  | _ => some p
@[simp] theorem ev_Seq : sSeq f g (x :: e) = (f (x :: e)).bind (kSeq g) := rfl
@[simp] theorem kSeq_nx : kSeq g (.nx, e) = g e := rfl
@[simp] theorem kSeq_rt : kSeq g (.rt d, e) = some (.rt d, e) := rfl
@[simp] theorem kSeq_rl {ds : List PyData} : kSeq g (.rl ds, e) = some (.rl ds, e) := rfl
@[simp] theorem kSeq_bk : kSeq g (.bk, e) = some (.bk, e) := rfl
@[simp] theorem kSeq_ct : kSeq g (.ct, e) = some (.ct, e) := rfl
@[simp] theorem kSeq_ex {cl : Str} : kSeq g (.ex cl d, e) = some (.ex cl d, e) := rfl
@[simp] theorem kSeq_tr {t : Tv} : kSeq g (.tr t, e) = some (.tr t, e) := rfl
def kNxt (e : En) : Flw × En := (.nx, e)
@[simp] theorem kNxt_e : kNxt e = (.nx, e) := rfl
def kSet (tg : Tg) (p : PyData × En) : Option (Flw × En) := (tg p.1 p.2).map kNxt
@[simp] theorem ev_Set {tg : Tg} : sSet a tg (x :: e) = (a (x :: e)).bind (kSet tg) := rfl
@[simp] theorem kSet_e {tg : Tg} : kSet tg (d, e) = (tg d e).map kNxt := rfl
def kOwn (i : Nat) (p : List PyData × En) : Flw × En := (.nx, p.2.set i (.own false p.1))
@[simp] theorem ev_Own : sOwn l i (x :: e) = (l (x :: e)).map (kOwn i) := rfl
@[simp] theorem kOwn_e {ds : List PyData} : kOwn i (ds, e) = (.nx, e.set i (.own false ds)) := rfl
def kEx (p : PyData × En) : Flw × En := (.nx, p.2)
@[simp] theorem ev_Ex : sEx a (x :: e) = (a (x :: e)).map kEx := rfl
@[simp] theorem kEx_e : kEx (d, e) = (.nx, e) := rfl
def kRt (p : PyData × En) : Flw × En := (.rt p.1, p.2)
@[simp] theorem ev_Rt : sRt a (x :: e) = (a (x :: e)).map kRt := rfl
@[simp] theorem kRt_e : kRt (d, e) = (.rt d, e) := rfl
def kRl (p : List PyData × En) : Flw × En := (.rl p.1, p.2)
@[simp] theorem ev_Rl : sRl l (x :: e) = (l (x :: e)).map kRl := rfl
@[simp] theorem kRl_e {ds : List PyData} : kRl (ds, e) = (.rl ds, e) := rfl
@[simp] theorem ev_Bk : sBk (x :: e) = some (.bk, x :: e) := rfl
@[simp] theorem ev_Never : sNever (x :: e) = none := rfl
def kIf (f g : Fs) (p : Bool × En) : Option (Flw × En) := if p.1 then f p.2 else g p.2
@[simp] theorem ev_If : sIf t f g (x :: e) = (t (x :: e)).bind (kIf f g) := rfl
@[simp] theorem kIf_t : kIf f g (true, e) = f e := rfl
@[simp] theorem kIf_f : kIf f g (false, e) = g e := rfl
def kIsOwn (s : Option Sl) : Bool := match s with
  | some (.own _ _) => true
  | _ => false
@[simp] theorem ev_isOwn : isOwn (x :: e) i = kIsOwn ((x :: e)[i]?) := rfl
@[simp] theorem kIsOwn_own {p : Bool} {ds : List PyData} : kIsOwn (some (.own p ds)) = true := rfl
@[simp] theorem kIsOwn_val : kIsOwn (some (.val d)) = false := rfl
@[simp] theorem kIsOwn_no : kIsOwn (some .no) = false := rfl
def kApp2 (i : Nat) (d : PyData) (e : En) (s : Option Sl) : Option (Flw × En) := match s with
  | some (.own b ds) => if okN ds.length then some (.nx, e.set i (.own b (ds ++ [d]))) else none
  | _ => none
def kApp (i : Nat) (p : PyData × En) : Option (Flw × En) := kApp2 i p.1 p.2 p.2[i]?
@[simp] theorem ev_App : sApp i a (x :: e) = if isOwn (x :: e) i then (a (x :: e)).bind (kApp i) else none := (rfl)
@[simp] theorem kApp_e : kApp i (d, e) = kApp2 i d e e[i]? := (rfl)
theorem kApp2_e {p : Bool} {ds : List PyData} : kApp2 i d e (some (.own p ds)) = if okN ds.length then some (.nx, e.set i (.own p (ds ++ [d]))) else none := rfl
theorem kApp2_ok {p : Bool} {ds : List PyData} (h : ds.length ≤ 1000000) : kApp2 i d e (some (.own p ds)) = some (.nx, e.set i (.own p (ds ++ [d]))) := by
  rw [kApp2_e, if_pos (okN_of h)]
def kPut3 (i : Nat) (d : PyData) (k : PyData) (e : En) (s : Option Sl) : Option (Flw × En) := match k, s with
  | .int k, some (.own b ds) => (ixN ds.length k).map fun j => (.nx, e.set i (.own b (ds.set j d)))
  | _, _ => none
def kPut2 (i : Nat) (d : PyData) (q : PyData × En) : Option (Flw × En) := kPut3 i d q.1 q.2 q.2[i]?
def kPut (i : Nat) (ix : Fe) (p : PyData × En) : Option (Flw × En) := if isOwn p.2 i then (ix p.2).bind (kPut2 i p.1) else none
@[simp] theorem ev_Put {ix : Fe} : sPut i ix a (x :: e) = (a (x :: e)).bind (kPut i ix) := rfl
@[simp] theorem kPut_e {ix : Fe} : kPut i ix (d, e) = if isOwn e i then (ix e).bind (kPut2 i d) else none := rfl
@[simp] theorem kPut2_e : kPut2 i d (d', e) = kPut3 i d d' e e[i]? := rfl
theorem kPut3_e {p : Bool} {ds : List PyData} {k : Int} : kPut3 i d (.int k) e (some (.own p ds)) = (ixN ds.length k).map fun j => (.nx, e.set i (.own p (ds.set j d))) := rfl
theorem kPut3_ok {p : Bool} {ds : List PyData} {k : Nat} (h : k < ds.length) : kPut3 i d (.int (k : Int)) e (some (.own p ds)) = some (.nx, e.set i (.own p (ds.set k d))) := by
  rw [kPut3_e]
  unfold ixN
  rw [if_pos (by omega), if_pos (by omega)]
  simp
def kIxO2 (k : PyData) (e : En) (s : Option Sl) : Option (PyData × En) := match k, s with
  | .int k, some (.own _ ds) => (atI ds k).map (kP e)
  | _, _ => none
def kIxO (i : Nat) (q : PyData × En) : Option (PyData × En) := kIxO2 q.1 q.2 q.2[i]?
@[simp] theorem ev_IxO {ix : Fe} : eIxO i ix (x :: e) = if isOwn (x :: e) i then (ix (x :: e)).bind (kIxO i) else none := rfl
@[simp] theorem kIxO_e : kIxO i (d, e) = kIxO2 d e e[i]? := rfl
@[simp] theorem kIxO2_e {p : Bool} {ds : List PyData} {k : Int} : kIxO2 (.int k) e (some (.own p ds)) = (atI ds k).map (kP e) := rfl
def kLenO (e : En) (s : Option Sl) : Option (PyData × En) := match s with
  | some (.own _ ds) => some (.int ds.length, e)
  | _ => none
@[simp] theorem ev_LenO : eLenO i (x :: e) = kLenO (x :: e) ((x :: e)[i]?) := rfl
@[simp] theorem kLenO_e {p : Bool} {ds : List PyData} : kLenO e (some (.own p ds)) = some (.int ds.length, e) := rfl
def kFrz (i : Nat) (f : Fs) (e : En) (s : Option Sl) : Option (Flw × En) := match s with
  | some (.own false ds) => f (e.set i (.val (.list ds)))
  | _ => f e
@[simp] theorem ev_Frz : sFrz i f (x :: e) = kFrz i f (x :: e) ((x :: e)[i]?) := rfl
@[simp] theorem kFrz_own {ds : List PyData} : kFrz i f e (some (.own false ds)) = f (e.set i (.val (.list ds))) := rfl
@[simp] theorem kFrz_par {ds : List PyData} : kFrz i f e (some (.own true ds)) = f e := rfl
@[simp] theorem kFrz_val : kFrz i f e (some (.val d)) = f e := rfl
@[simp] theorem kFrz_no : kFrz i f e (some .no) = f e := rfl
def kPar (i j : Nat) (p : List PyData × En) : Option (Flw × En) := match p.1 with
  | [d, d'] => some (.nx, (p.2.set i (.val d)).set j (.val d'))
  | _ => none
@[simp] theorem ev_Par : sPar i j l (x :: e) = (l (x :: e)).bind (kPar i j) := rfl
@[simp] theorem kPar_e : kPar i j ([d, d'], e) = some (.nx, (e.set i (.val d)).set j (.val d')) := rfl
def kAug2 (i : Nat) (g : PyData → PyData → Option PyData) (d : PyData) (p : PyData × En) : Option (Flw × En) := (g d p.1).map fun z => (.nx, p.2.set i (.val z))
def kAug (i : Nat) (g : PyData → PyData → Option PyData) (a : Fe) (e : En) (s : Option Sl) : Option (Flw × En) := match s with
  | some (.val d) => (a e).bind (kAug2 i g d)
  | _ => none
@[simp] theorem ev_Aug {g : PyData → PyData → Option PyData} : sAug i g a (x :: e) = kAug i g a (x :: e) ((x :: e)[i]?) := rfl
@[simp] theorem kAug_e {g : PyData → PyData → Option PyData} : kAug i g a e (some (.val d)) = (a e).bind (kAug2 i g d) := rfl
@[simp] theorem kAug2_e {g : PyData → PyData → Option PyData} : kAug2 i g d (d', e) = (g d d').map fun z => (.nx, e.set i (.val z)) := rfl
def kM2 (i : Nat) (e : En) (b : Bool) (q : PyData × List PyData) : PyData × En := (q.1, e.set i (.own b q.2))
def kM1 (i : Nat) (g : List PyData → List PyData → Option (PyData × List PyData)) (ds : List PyData) (e : En) (s : Option Sl) : Option (PyData × En) := match s with
  | some (.own b ks) => (g ks ds).map (kM2 i e b)
  | _ => none
def kM (i : Nat) (g : List PyData → List PyData → Option (PyData × List PyData)) (p : List PyData × En) : Option (PyData × En) := kM1 i g p.1 p.2 p.2[i]?
@[simp] theorem ev_M {g : List PyData → List PyData → Option (PyData × List PyData)} : eM i g l (x :: e) = if isOwn (x :: e) i then (l (x :: e)).bind (kM i g) else none := rfl
@[simp] theorem kM_e {g : List PyData → List PyData → Option (PyData × List PyData)} {ds : List PyData} : kM i g (ds, e) = kM1 i g ds e e[i]? := rfl
@[simp] theorem kM1_e {g : List PyData → List PyData → Option (PyData × List PyData)} {ds ks : List PyData} {p : Bool} : kM1 i g ds e (some (.own p ks)) = (g ks ds).map (kM2 i e p) := rfl
@[simp] theorem kM2_e {ks : List PyData} {p : Bool} : kM2 i e p (d, ks) = (d, e.set i (.own p ks)) := rfl
def kMF2 (e : En) (q : PyData × List PyData) : PyData × En := (q.1, e)
def kMF (g : List PyData → List PyData → Option (PyData × List PyData)) (p : List PyData × En) : Option (PyData × En) := (g p.1 []).map (kMF2 p.2)
@[simp] theorem ev_MF {g : List PyData → List PyData → Option (PyData × List PyData)} : eMF g l (x :: e) = (l (x :: e)).bind (kMF g) := rfl
@[simp] theorem kMF_e {g : List PyData → List PyData → Option (PyData × List PyData)} {ds : List PyData} : kMF g (ds, e) = (g ds []).map (kMF2 e) := rfl
@[simp] theorem kMF2_e {ks : List PyData} : kMF2 e (d, ks) = (d, e) := rfl
def kLA (g : List PyData → Option (List PyData)) (p : List PyData × En) : Option (List PyData × En) := (g p.1).map (kP p.2)
@[simp] theorem ev_LA {g : List PyData → Option (List PyData)} : lA g l (x :: e) = (l (x :: e)).bind (kLA g) := rfl
@[simp] theorem kLA_e {g : List PyData → Option (List PyData)} {ds : List PyData} : kLA g (ds, e) = (g ds).map (kP e) := rfl
def kOne (a b : Fe) (e : En) (v : Bool) : Option (PyData × En) := match v with
  | true => a e
  | false => b e
@[simp] theorem ev_One {q : En → Bool} : eOne q a b (x :: e) = kOne a b (x :: e) (q (x :: e)) := by
  unfold eOne kOne
  cases q (x :: e) <;> rfl
@[simp] theorem kOne_t : kOne a b e true = a e := rfl
@[simp] theorem kOne_f : kOne a b e false = b e := rfl
def kOf (p : List PyData × En) : Option (List PyData × En) := match p.1 with
  | [.list ds] => some (ds, p.2)
  | [.tuple ds] => some (ds, p.2)
  | _ => none
@[simp] theorem ev_Of : lOf l (x :: e) = (l (x :: e)).bind kOf := rfl
@[simp] theorem kOf_l {ds : List PyData} : kOf ([.list ds], e) = some (ds, e) := rfl
@[simp] theorem kOf_t {ds : List PyData} : kOf ([.tuple ds], e) = some (ds, e) := rfl
def kSq2 (e : En) (ds : List PyData) : List PyData × En := (ds, e)
def kSq (p : PyData × En) : Option (List PyData × En) := (items p.1).map (kSq2 p.2)
@[simp] theorem ev_Sq : iSeq a (x :: e) = (a (x :: e)).bind kSq := rfl
@[simp] theorem kSq_e : kSq (d, e) = (items d).map (kSq2 e) := rfl
@[simp] theorem kSq2_e {ds : List PyData} : kSq2 e ds = (ds, e) := rfl
noncomputable def kR1 (p : List PyData × En) : Option (List PyData × En) := match p.1 with
  | [.int n] => if smallI n then some (rng 0 n, p.2) else none
  | _ => none
noncomputable def kR2 (p : List PyData × En) : Option (List PyData × En) := match p.1 with
  | [.int m, .int n] => if smallI m && smallI n then some (rng m n, p.2) else none
  | _ => none
@[simp] theorem ev_R1 : iR1 l (x :: e) = (l (x :: e)).bind kR1 := (rfl)
@[simp] theorem ev_R2 : iR2 l (x :: e) = (l (x :: e)).bind kR2 := (rfl)
theorem kR1_e {n : Int} : kR1 ([.int n], e) = if smallI n then some (rng 0 n, e) else none := rfl
theorem kR1_ok {n : Int} (h : -1000000 ≤ n) (h2 : n ≤ 1000000) : kR1 ([.int n], e) = some (rng 0 n, e) := by
  rw [kR1_e, if_pos (smallI_of h h2)]
theorem kR2_ok {m n : Int} (h : -1000000 ≤ m) (h2 : m ≤ 1000000) (h3 : -1000000 ≤ n) (h4 : n ≤ 1000000) : kR2 ([.int m, .int n], e) = some (rng m n, e) := by
  show (if smallI m && smallI n then some (rng m n, e) else none) = _
  rw [smallI_of h h2, smallI_of h3 h4]
  rfl
def kZp (p : List PyData × En) : Option (List PyData × En) := match p.1 with
  | [.list xs, .list ys] => some (zipD xs ys, p.2)
  | [.tuple xs, .list ys] => some (zipD xs ys, p.2)
  | [.list xs, .tuple ys] => some (zipD xs ys, p.2)
  | [.tuple xs, .tuple ys] => some (zipD xs ys, p.2)
  | _ => none
@[simp] theorem ev_Zp : iZp l (x :: e) = (l (x :: e)).bind kZp := rfl
@[simp] theorem kZp_e {xs ys : List PyData} : kZp ([.list xs, .list ys], e) = some (zipD xs ys, e) := rfl
@[simp] theorem kZp_t {xs ys : List PyData} : kZp ([.tuple xs, .list ys], e) = some (zipD xs ys, e) := rfl
@[simp] theorem kZp_lt {xs ys : List PyData} : kZp ([.list xs, .tuple ys], e) = some (zipD xs ys, e) := rfl
@[simp] theorem kZp_tt {xs ys : List PyData} : kZp ([.tuple xs, .tuple ys], e) = some (zipD xs ys, e) := rfl
def kEn (p : List PyData × En) : Option (List PyData × En) := match p.1 with
  | [.list xs] => some (enumD 0 xs, p.2)
  | _ => none
@[simp] theorem ev_En : iEn l (x :: e) = (l (x :: e)).bind kEn := rfl
@[simp] theorem kEn_e {xs : List PyData} : kEn ([.list xs], e) = some (enumD 0 xs, e) := rfl
def kFor (tg : Tg) (f : Fs) (p : List PyData × En) : Option (Flw × En) := forL tg f p.1 p.2
@[simp] theorem ev_For {it : Fi} {tg : Tg} : sFor it tg f (x :: e) = (it (x :: e)).bind (kFor tg f) := rfl
@[simp] theorem kFor_e {tg : Tg} {ds : List PyData} : kFor tg f (ds, e) = forL tg f ds e := rfl
def kCm3 (e1 : En) (vs : List Nat) (r : List PyData × En) : List PyData × En := (r.1, restE e1 r.2 vs)
def kCm2 (tg : Tg) (t : Ft) (a : Fe) (vs : List Nat) (e : En) (ds : List PyData) (ok : Bool) : Option (List PyData × En) := match ok with
  | true => (compL tg t a vs ds (wipeE e vs)).map (kCm3 e vs)
  | false => none
def kCm (tg : Tg) (t : Ft) (a : Fe) (vs : List Nat) (p : List PyData × En) : Option (List PyData × En) := kCm2 tg t a vs p.2 p.1 (okN p.1.length && noOwn p.2 vs)
@[simp] theorem ev_Cm {it : Fi} {tg : Tg} {vs : List Nat} : lCm it tg t a vs (x :: e) = (it (x :: e)).bind (kCm tg t a vs) := by
  unfold lCm kCm kCm2 kCm3
  congr
  funext p
  cases okN p.1.length && noOwn p.2 vs <;> rfl
@[simp] theorem ev_Ys : tYs (x :: e) = some (true, x :: e) := rfl
/-- a comprehension, from what its loop gives -/
theorem kCm_ok {tg : Tg} {vs : List Nat} {ds rs : List PyData} {e1 e' : En} (hn : ds.length ≤ 1000000) (ho : noOwn e vs = true) (hw : wipeE e vs = e1) (h : compL tg t a vs ds e1 = some (rs, e')) : kCm tg t a vs (ds, e) = some (rs, restE e e' vs) := by
  unfold kCm
  show kCm2 tg t a vs e ds (okN ds.length && noOwn e vs) = _
  rw [okN_of hn, ho]
  show (compL tg t a vs ds (wipeE e vs)).map (kCm3 e vs) = _
  rw [hw, h]
  rfl
/-- with a test -/
theorem comp_filter {α β : Type} {tg : Tg} {vs : List Nat} {e : En} {E : α → PyData} {D : β → PyData} {F : α → β} {p : α → Bool} : ∀ {xs : List α} (h : ∀ y ∈ xs, ∃ e1 e2, tg (E y) e = some e1 ∧ t e1 = some (p y, e2) ∧ (p y = false → wipeE e2 vs = e) ∧ (p y = true → ∃ e3, a e2 = some (D (F y), e3) ∧ wipeE e3 vs = e)), compL tg t a vs (xs.map E) e = some (((xs.filter p).map F).map D, e)
  | [], _ => rfl
  | d :: ds, h => by
    obtain ⟨e1, e2, h1, h2, h3, h4⟩ := h d List.mem_cons_self
    have ih := comp_filter (e := e) (F := F) (p := p) (xs := ds) fun d hd => h d (List.mem_cons_of_mem _ hd)
    rw [List.map_cons]
    unfold compL
    rw [h1]
    show (t e1).bind _ = _
    rw [h2]
    cases hp : p d with
    | true =>
      obtain ⟨e3, h5, h6⟩ := h4 hp
      show (a e2).bind _ = _
      rw [h5]
      show (compL tg t a vs (ds.map E) (wipeE e3 vs)).map _ = _
      rw [h6, ih, List.filter_cons_of_pos hp]
      rfl
    | false =>
      show compL tg t a vs (ds.map E) (wipeE e2 vs) = _
      rw [h3 hp, ih, List.filter_cons_of_neg (by rw [hp]; exact Bool.false_ne_true)]
def kTurn (tg : Tg) (f : Fs) (ds : List PyData) (p : Flw × En) : Option (Flw × En) := match p.1 with
  | .nx => forL tg f ds p.2
  | .ct => forL tg f ds p.2
  | .bk => some (.nx, p.2)
  | .rt r => some (.rt r, p.2)
  | .rl r => some (.rl r, p.2)
  | .ex cl r => some (.ex cl r, p.2)
  | .tr r => some (.tr r, p.2)
theorem for_cons {tg : Tg} {ds : List PyData} : forL tg f (d :: ds) e = (tg d e).bind fun e1 => (f e1).bind (kTurn tg f ds) := by
  conv => lhs; unfold forL
  rfl
@[simp] theorem kTurn_nx {tg : Tg} {ds : List PyData} : kTurn tg f ds (.nx, e) = forL tg f ds e := rfl
@[simp] theorem kTurn_ct {tg : Tg} {ds : List PyData} : kTurn tg f ds (.ct, e) = forL tg f ds e := rfl
@[simp] theorem endP_rt : endP (some (.rt d, e)) = some d := rfl
@[simp] theorem endP_rl {ds : List PyData} : endP (some (.rl ds, e)) = some (.list ds) := rfl
@[simp] theorem endP_nx : endP (some (.nx, e)) = some .none := rfl
@[simp] theorem endL_rl {ds : List PyData} : endL (some (.rl ds, e)) = some ds := rfl
@[simp] theorem endM_rt {ks : List PyData} : endM (some (.rt d, .own true ks :: e)) = some (d, ks) := rfl
@[simp] theorem endM_rl {ks ds : List PyData} : endM (some (.rl ds, .own true ks :: e)) = some (.list ds, ks) := rfl
@[simp] theorem endM_nx {ks : List PyData} : endM (some (.nx, .own true ks :: e)) = some (.none, ks) := rfl
theorem run1 {N : Nat} {b : Fs} {d1 : PyData} : runP b (N + 1) 1 [d1] = endP (b (.val d1 :: List.replicate N .no)) := by simp [runP, en0]
theorem run2 {N : Nat} {b : Fs} {d1 d2 : PyData} : runP b (N + 2) 2 [d1, d2] = endP (b (.val d1 :: .val d2 :: List.replicate N .no)) := by simp [runP, en0]
theorem runL2 {N : Nat} {b : Fs} {d1 d2 : PyData} : runL b (N + 2) 2 [d1, d2] = endL (b (.val d1 :: .val d2 :: List.replicate N .no)) := by simp [runL, en0]
theorem runM2 {N : Nat} {b : Fs} {d1 : PyData} {ks : List PyData} : runM b (N + 2) 2 ks [d1] = endM (b (.own true ks :: .val d1 :: List.replicate N .no)) := by simp [runM, en0]
theorem runM3 {N : Nat} {b : Fs} {d1 d2 : PyData} {ks : List PyData} : runM b (N + 3) 3 ks [d1, d2] = endM (b (.own true ks :: .val d1 :: .val d2 :: List.replicate N .no)) := by simp [runM, en0]
@[simp] theorem rep_0 {α : Type} {a : α} : List.replicate 0 a = [] := rfl
@[simp] theorem atI_0 {α : Type} {a : α} {l : List α} : atI (a :: l) 0 = some a := by simp [atI, ixN]
@[simp] theorem atI_1 {α : Type} {a b : α} {l : List α} : atI (a :: b :: l) 1 = some b := by
  have h : (1 : Int) < ((a :: b :: l).length : Int) := by simp; omega
  unfold atI ixN
  rw [if_pos (by decide), if_pos h]
  rfl
@[simp] theorem atI_2 {α : Type} {a b c : α} {l : List α} : atI (a :: b :: c :: l) 2 = some c := by
  have h : (2 : Int) < ((a :: b :: c :: l).length : Int) := by simp; omega
  unfold atI ixN
  rw [if_pos (by decide), if_pos h]
  rfl
end Dn
set_option Elab.async false
set_option linter.all false
set_option maxRecDepth 100000
namespace Dn
open PySem PySem.Spec PyProof.Rows L2
open PySem.W (Frag)
variable [Tb]
theorem sqL_noT {K : Frag} {H : Hp} {a : Addr} {xs : List V} (h : SqL K H a xs) : SqL K (noT H) a xs := by
  rcases h with (h | ⟨o, h⟩) | h
  · exact .inl (.inl (noT_of h NT.lst))
  · exact .inl (.inr ⟨o, noT_of h fun _ z => by cases z⟩)
  · exact .inr h
theorem spP_script {K : Frag} {f : List PyData → Option PyData} {H : Hp} {a : Addr} {ns : List Int} {E : XK} (hT : LamX.Tabs Tb.T H) (hS : SqL K H a (ns.map V.int)) (h : f [.list (ns.map .int)] = some (.bool true)) :
    spP K 1 f [.ref a] H (fun v _ => v = .bl true) E :=
  ⟨noT H, [.list (ns.map .int)], .bool true, rfl, ⟨noT_sub, noT_no, hT⟩, .cons (.lst (sqL_noT hS) (DpAll.of_ints _)) .nil, h, fun v F' H' _ _ _ _ hd => by cases hd; rfl⟩
end Dn
set_option Elab.async false
set_option linter.all false
set_option maxRecDepth 100000
namespace Dn
open PySem PySem.Spec PyProof.Rows L2
open PySem.W (Frag)
variable [Tb]
inductive Xo where
  | ok (d : PyData)
  | ex (cl : Str) (d : PyData)
abbrev FeX := En → Option (Xo × En)
def FinO (K : Frag) (xc : XC) (c : C3) (F : Hp) (σ : L2.St) (o : Xo) (env : En) (Q : VK) : Prop := match o with
  | .ok d => ∀ v F' H', Same F F' → Rl K c F' σ H' env → Dp K F' v d → Q v H'
  | .ex cl d => ∀ F' H v dd, Same F F' → Rl K c F' σ H env → H dd = none → Dp K F' v d → xc.W (.ref (xc.ca cl)) (some dd) σ (upd H dd (xdO v))
theorem FinO.up {K : Frag} {xc : XC} {c : C3} {F F' : Hp} {σ : L2.St} {o : Xo} {env : En} {Q : VK} (h : FinO K xc c F σ o env Q) (s : Same F F') : FinO K xc c F' σ o env Q := by
  cases o with
  | ok d => exact fun v G H s' R hv => h v G H (s.trans s') R hv
  | ex cl d => exact fun G H v dd s' R hd hv => h G H v dd (s.trans s') R hd hv
def endX : Option (Flw × En) → Option Xo
  | some (.rt d, _) => some (.ok d)
  | some (.rl ds, _) => some (.ok (.list ds))
  | some (.nx, _) => some (.ok .none)
  | some (.ex cl d, _) => some (.ex cl d)
  | _ => none
def xA (g : List PyData → Option Xo) (fl : Fl) : FeX := fun env => (fl env).bind fun p => (g p.1).map fun z => (z, p.2)
/-- (a written constant, f) -/
def xTup (k : PyData) (f : FeX) : FeX := fun env => (f env).map fun p => (match p.1 with
  | .ok d => .ok (.tuple [k, d])
  | .ex cl d => .ex cl d, p.2)
def sSetX (f : FeX) (i : Nat) : Fs := fun env => (f env).map fun p => match p.1 with
  | .ok d => (.nx, p.2.set i (.val d))
  | .ex cl d => (.ex cl d, p.2)
def sRtX (f : FeX) : Fs := fun env => (f env).map fun p => match p.1 with
  | .ok d => (.rt d, p.2)
  | .ex cl d => (.ex cl d, p.2)
def sExX (f : FeX) : Fs := fun env => (f env).map fun p => match p.1 with
  | .ok d => (.nx, p.2)
  | .ex cl d => (.ex cl d, p.2)
end Dn
set_option Elab.async false
set_option linter.all false
set_option maxRecDepth 100000
namespace Dn
open PySem PySem.Spec PyProof.Rows L2
open PySem.W (Frag)
variable [Tb]
/-- a slot forgets -/
theorem Rl.junk {K : Frag} {c : C3} {F H : Hp} {σ : L2.St} {env : En} (R : Rl K c F σ H env) (i : Nat) (x : Option V) : Rl K c F (σ.set i x) H (env.set i .no) := by
  have R1 := R.forget i
  refine ⟨R1.sub, R1.f0, R1.gd, R1.g0, R1.new, R1.dom, by simp [R.len], fun j e hj => ?_, fun j p ds hj => ?_, R1.tab, R1.nf, R1.ng⟩
  · by_cases hij : i = j
    · subst hij
      cases get_set_self hj
    · obtain ⟨u, h1, h2⟩ := R1.val j e hj
      rw [get_set_ne hij] at h1
      exact ⟨u, by rw [get_set_ne hij]; exact h1, h2⟩
  · by_cases hij : i = j
    · subst hij
      cases get_set_self hj
    · obtain ⟨a, xs, e1, e2, e3, e4, e5, e6, e7⟩ := R1.own j p ds hj
      rw [get_set_ne hij] at e1
      refine ⟨a, xs, by rw [get_set_ne hij]; exact e1, e2, e3, e4, e5, e6, fun k q es hk hq => ?_⟩
      have z := e7 k q es hk hq
      by_cases hik : i = k
      · subst hik
        cases get_set_self hq
      · rw [get_set_ne hik] at z ⊢
        exact z
end Dn
set_option Elab.async false
set_option linter.all false
set_option maxRecDepth 100000
set_option maxHeartbeats 1000000
namespace L2
open PySem PySem.Spec PyProof.Rows
section
variable {X : Cx} {pins : List (Addr × Obj)} {σ : L2.St} {H : Hp} {sI s' : Shared} {B : Heap} {a : Addr} {cls : Value} {d : Option Addr}
/-- what stands above the ground is new to us -/
structure Above (X : Cx) (pins : List (Addr × Obj)) (a : Addr) : Prop where
  start : X.s_0.heap.get? a = none
  pin : ∀ p ∈ X.pn ++ pins, p.1 ≠ a
theorem Above.of (I : Inv X pins σ H sI) (hex : X.ex = []) (ground : ∀ b o, sI.heap.get? b = some o → b ∉ frs X.stack → B.get? b = some o) (off : a ∉ frs X.stack) (gone : B.get? a = none) : Above X pins a := by
  have here : ∀ o, sI.heap.get? a ≠ some o := fun o e => by
    have z := ground a o e off
    rw [gone] at z
    cases z
  refine ⟨?_, fun p hp z => here p.2 (by rw [← z]; exact (I.pin p hp).1)⟩
  cases e : X.s_0.heap.get? a with
  | none => rfl
  | some o =>
    obtain ⟨u, hu⟩ := I.base.there a o e (by rw [hex]; exact List.not_mem_nil)
    exact absurd hu (here u)
end
end L2
namespace L2
open PySem PySem.Spec PyProof.Rows
end L2
set_option Elab.async false
set_option linter.all false
set_option maxRecDepth 100000
set_option maxHeartbeats 1000000
namespace L2
open PySem PySem.Spec PyProof.Rows
/-- a caught error at a: of the class at C, its dict at dd holds v -/
def ErrAt (H : Hp) (a C : Addr) (v : V) : Prop := ∃ dd, H a = some (Dn.excO a C dd) ∧ H dd = some (.xd [("value", v)])
end L2
namespace Dn
open PySem PySem.Spec PyProof.Rows L2
open PySem.W (Frag)
variable [Tb]
def sTryK (cls : List Str) (i j : Nat) (b : Fs) : Fs := fun env => (b env).bind fun p => match p.1 with
  | .ex c d => if c ∈ cls ∧ i < p.2.length then some (.nx, ((p.2.set i .no).set j (.val (encE c d))).set i .no) else none
  | _ => some p
section
variable {X : Cx} {xc : XC} {n y base : Str} {C : Addr} {cls : List Str} {i j : Nat} {body : List Stmt} {fb : Fs} {np py pn pos spos hpos : Pos}
theorem ErrAt.up {F H : Hp} {a C : Addr} {v : V} (h : ErrAt F a C v) (s : Same F H) : ErrAt H a C v := by
  obtain ⟨dd, h1, h2⟩ := h
  exact ⟨dd, s _ _ h1, s _ _ h2⟩
end
end Dn
set_option Elab.async false
set_option linter.all false
set_option maxRecDepth 100000
set_option maxHeartbeats 1000000
namespace Dn
open PySem PySem.Spec PyProof.Rows L2
open PySem.W (Frag)
variable [Tb]
def flatV : PyData → Bool
  | .none => true
  | .bool _ => true
  | .int _ => true
  | .str _ => true
  | _ => false
mutual
/-- tuples of flat values and of dicts of such -/
def tdOk : PyData → Bool
  | .none => true
  | .bool _ => true
  | .int _ => true
  | .str _ => true
  | .list _ => false
  | .tuple ds => tdAll ds
  | .dict kvs => kvs.all fun p => flatV p.2 && !(isNone p.1)
def tdAll : List PyData → Bool
  | [] => true
  | d :: ds => tdOk d && tdAll ds
end
/-- no dict but one of flat values, or such within tuples, and no error -/
def repOk0 (d : PyData) : Bool := SeqAt.shaped d || tdOk d
omit [Tb] in
theorem repOk0_sh {d : PyData} (h : SeqAt.shaped d = true) : repOk0 d = true := by unfold repOk0; rw [h]; rfl
def repOk (d : PyData) : Bool := repOk0 d && d.showable && decide (d.depth ≤ 64) && decide (d.shown.length ≤ sizeLine)
theorem flat_reads {K : Frag} {F : Hp} {h : Heap} {v : V} {d : PyData} {u : Value} (hd : Dp K F v d) (hf : flatV d = true) (r : RelV v u) : Reads h u d [] := by
  cases hd with
  | non => cases (show u = Value.none from r); exact .none
  | bl b => cases (show u = Value.bool b from r); exact .bool b
  | int i => obtain ⟨t, e⟩ := (show ∃ t, u = Value.int i t from r); cases e; exact .int i t
  | str x => obtain ⟨t, e⟩ := (show ∃ t, u = Value.str x t from r); cases e; exact .str x t
  | lst _ _ => cases hf
  | tup _ _ => cases hf
  | dct _ _ => cases hf
  | exc _ _ _ => cases hf
  | rng _ => cases hf
theorem kv_reads {P : Program} {w : World} {K : Frag} {F : Hp} {h : Heap} : ∀ {es : List DictEntry} {vs : List (Key × Value)} {ks : List (Key × V)} {kvs : List (PyData × PyData)}, Pairs (mixKind P w) es vs → KV ks vs → DpKv K F ks kvs → (∀ p ∈ kvs, flatV p.2 = true) → ReadsAll h (es.map (·.key)) (kvs.map (·.1)) [] ∧ ReadsAll h (es.map (·.val)) (kvs.map (·.2)) []
  | [], _, _, _, hp, hk, hd, _ => by
    cases hp
    cases hk
    cases hd
    exact ⟨.nil, .nil⟩
  | e :: es, _, _, _, hp, hk, hd, hf => by
    cases hp with
    | cons p1 p1' p2 =>
      cases hk with
      | cons k1 k2 =>
        cases hd with
        | @cons k v _ d _ d1 d2 =>
          obtain ⟨q1, q2⟩ := kv_reads p2 k2 d2 fun p hp => hf p (List.mem_cons_of_mem _ hp)
          obtain ⟨e1, e2⟩ := k1
          have hv := flat_reads (h := h) d1 (hf _ List.mem_cons_self) e2
          have key : Reads h e.key (kD k) [] := by
            have e1' : k = _ := e1
            have p1'' : keyIs _ e.key = true := p1
            rw [← e1'] at p1''
            rcases keyIs_shape p1'' with ⟨i, t, rfl, z⟩ | ⟨x, t, rfl, z⟩
            · rw [z]; exact .int i t
            · rw [z]; exact .str x t
          refine ⟨.cons (as := []) (bs := []) key q1, .cons (as := []) (bs := []) ?_ q2⟩
          show Reads h e.val d []
          rw [p1']
          exact hv
/-- what repr shows of data -/
def rRepS (K : Frag) : List V → Hp → VK → Prop := fun xs H Q => ∃ x d, xs = [x] ∧ Dp K H x d ∧ repOk d = true ∧ Q (.str d.shown) H
mutual
theorem td_reads {X : Cx} {pins : List (Addr × Obj)} {σ : L2.St} {H : Hp} {s : Shared} (I : Inv X pins σ H s) : ∀ (d : PyData) (v : V) (u : Value), Dp X.K H v d → tdOk d = true → RelV v u → ∃ as, Reads s.heap u d as ∧ sysModules ∉ as
  | .none, _, _, h, _, r => ⟨_, flat_reads h rfl r, by simp⟩
  | .bool b, _, _, h, _, r => ⟨_, flat_reads h rfl r, by simp⟩
  | .int i, _, _, h, _, r => ⟨_, flat_reads h rfl r, by simp⟩
  | .str x, _, _, h, _, r => ⟨_, flat_reads h rfl r, by simp⟩
  | .list ds, _, _, _, ok, _ => by simp only [tdOk] at ok; cases ok
  | .tuple ds, _, _, h, ok, r => by
    simp only [tdOk] at ok
    cases h with
    | tup hs ha =>
      cases r
      obtain ⟨its, rv, ⟨o, ho, hc, n, hd⟩, _⟩ := I.tuple hs
      obtain ⟨as, hr, hn⟩ := td_readsAll I ds _ its ha ok rv
      exact ⟨_, Reads.tuple ho hc hd hr, hn⟩
  | .dict kvs, v, u, h, ok, r => by
    simp only [tdOk] at ok
    have all : ∀ p ∈ kvs, flatV p.2 = true ∧ isNone p.1 = false := fun p hp => by
      have := List.all_eq_true.mp ok p hp
      simpa [Bool.and_eq_true] using this
    cases h with
    | @dct a _ ks _ h1 h2 =>
      cases (show u = Value.ref a from r)
      obtain ⟨_, ns, vs, kv, o, es, ep, go, ex, dt, _, pr, _⟩ := (show ObjOk X.prog X.w H s.heap a (.dK ks) from (I.hok a _ h1).2)
      obtain ⟨q1, q2⟩ := kv_reads (h := s.heap) pr kv h2 fun p hp => (all p hp).1
      refine ⟨_, .dict go ex.1 dt q1 q2, fun z => ?_⟩
      have z' : sysModules ∈ [a] := by simpa using z
      have e := List.mem_singleton.mp z'
      rw [← e] at ns
      simp at ns
    | exc _ _ _ => exact absurd (all _ List.mem_cons_self).2 (by simp)
    | rng _ => exact absurd (all _ List.mem_cons_self).2 (by simp)
theorem td_readsAll {X : Cx} {pins : List (Addr × Obj)} {σ : L2.St} {H : Hp} {s : Shared} (I : Inv X pins σ H s) : ∀ (ds : List PyData) (vs : List V) (us : List Value), DpAll X.K H vs ds → tdAll ds = true → Vals vs us → ∃ as, ReadsAll s.heap us ds as ∧ sysModules ∉ as
  | [], _, _, h, _, r => by
    cases h
    cases r
    exact ⟨_, ReadsAll.nil, by simp⟩
  | d :: ds, _, _, h, ok, r => by
    simp only [tdAll, Bool.and_eq_true] at ok
    cases h with
    | cons h1 h2 =>
      cases r with
      | cons r1 r2 =>
        obtain ⟨as, q1, n1⟩ := td_reads I d _ _ h1 ok.1 r1
        obtain ⟨bs, q2, n2⟩ := td_readsAll I ds _ _ h2 ok.2 r2
        exact ⟨_, ReadsAll.cons q1 q2, fun z => (List.mem_append.mp z).elim n1 n2⟩
end
theorem rep_reads {X : Cx} {pins : List (Addr × Obj)} {σ : L2.St} {H : Hp} {s : Shared} {v : V} {d : PyData} {u : Value} (I : Inv X pins σ H s) (h : Dp X.K H v d) (ok : repOk0 d = true) (r : RelV v u) : ∃ as, Reads s.heap u d as ∧ (d.hasDict = true → sysModules ∉ as) := by
  by_cases hs : SeqAt.shaped d = true
  · obtain ⟨as, hr⟩ := L2.Dp.reads I d v u (h.sh hs) r
    exact ⟨as, hr, fun z => by
      rw [PyData.hasDict_of_canLay d (SeqAt.canLay_of_shaped hs)] at z
      cases z⟩
  · have ok' : tdOk d = true := by
      unfold repOk0 at ok
      rw [Bool.or_eq_true] at ok
      exact ok.resolve_left hs
    obtain ⟨as, hr, hn⟩ := td_reads I d v u h ok' r
    exact ⟨as, hr, fun _ => hn⟩
theorem call_rep {X : Cx} (hg : X.A.guards = some []) (hu : X.A.units + 80 < cLine) : CallR X (.builtin "repr") (rRepS X.K) := by
  intro pins s σ H xs us Q I rs h
  obtain ⟨x, d, rfl, hd, ok, q⟩ := h
  obtain ⟨u, rfl, r⟩ := vals1 rs
  unfold repOk at ok
  simp only [Bool.and_eq_true, decide_eq_true_eq] at ok
  obtain ⟨⟨⟨o1, o2⟩, o3⟩, o4⟩ := ok
  obtain ⟨as, hr, hsm⟩ := rep_reads I hd o1 r
  cases u with
  | ref a => exact repr_of_reads' hr o2 hsm hg (by omega) (fun _ _ e => e) (fun h' u tk k => ⟨.str d.shown, H, I.kept (h' := h') (t' := tk) k, ⟨u, rfl⟩, q⟩) o4
  | none =>
    cases hr
    exact PySem.P.repr_of_none ⟨.str _, H, I.tok _, ⟨_, rfl⟩, q⟩
  | bool b =>
    cases hr
    exact PySem.P.repr_of_bool ⟨.str _, H, I.tok _, ⟨_, rfl⟩, q⟩
  | int i t =>
    cases hr
    exact PySem.P.repr_of_int (by simpa [PyData.showable] using o2) ⟨.str _, H, I.tok _, ⟨_, rfl⟩, q⟩
  | str y t =>
    cases hr
    exact PySem.P.repr_of_str ⟨.str _, H, I.tok _, ⟨_, rfl⟩, q⟩ (by simpa only [PyData.shown] using o4)
  | _ => cases hr
/-- repr(a) == repr(b) -/
@[simp] def gRepEq (d e : PyData) : Option PyData := if repOk d && repOk e then some (.bool (decide (d.shown = e.shown))) else none
section
variable {X : Cx} {a b : Expr} {fa fb : Fe} {p1 p2 c1 c2 pos : Pos}
theorem de_repEq (hg : Gl X "repr") (hm : X.mg "repr" = none) (gd : X.A.guards = some []) (hu : X.A.units + 80 < cLine) (ha : PE X a (Ge X.K fa)) (hb : PE X b (Ge X.K fb))
    (sa : starEach (a :: []) X.env = (false, eval a X.env) :: starEach [] X.env := by rfl) (sb : starEach (b :: []) X.env = (false, eval b X.env) :: starEach [] X.env := by rfl)
    (pl1 : (backTo c1 (starEach [] X.env)).any (·.1) = false := by rfl) (pl2 : (backTo c2 (starEach [] X.env)).any (·.1) = false := by rfl) :
    PE X (.Compare (.Call (.Name "repr" p1) [a] [] c1) [.Eq] [.Call (.Name "repr" p2) [b] [] c2] pos) (Ge X.K (e2 gRepEq fa fb)) :=
  PE.imp (pe_cmpR op_eq (pe_callB (call_rep gd hu) hg hm (by decide +kernel) (pa_cons ha pa_nil sa) (by decide) (by decide) sa pl1) (pe_callB (call_rep gd hu) hg hm (by decide +kernel) (pa_cons hb pa_nil sb) (by decide) (by decide) sb pl2) (nomark _)) fun σ H Q h => by
  obtain ⟨c, F, env, d, env', R, e, k⟩ := h
  unfold e2 gRepEq at e
  simp only [Option.bind_eq_some_iff, Option.map_eq_some_iff] at e
  obtain ⟨⟨d1, n1⟩, h1, ⟨d2, n2⟩, h2, z, h3, h4⟩ := e
  obtain ⟨rfl, rfl⟩ := Prod.mk.inj h4
  dsimp only at h3
  split at h3
  · rename_i ok
    rw [Bool.and_eq_true] at ok
    cases h3
    refine ⟨c, F, env, d1, n1, R, h1, fun v F1 H1 s1 R1 hv => ⟨v, d1, rfl, hv.up R1.sub, ok.1, ?_⟩⟩
    refine ⟨c, F1, n1, d2, n2, R1, h2, fun v2 F2 H2 s2 R2 hv2 => ⟨v2, d2, rfl, hv2.up R2.sub, ok.2, rfl, ?_⟩⟩
    have e : decide (V.str d1.shown = V.str d2.shown) = decide (d1.shown = d2.shown) := by simp
    rw [e]
    exact k _ F2 H2 (s1.trans s2) R2 (.bl _)
  · cases h3
end
end Dn
set_option Elab.async false
set_option linter.all false
set_option maxRecDepth 100000
namespace Dn
open PySem PySem.Spec PyProof.Rows L2
open PySem.W (Frag)
variable [Tb]
theorem _root_.L2.PK.imp {X : Cx} {es : List Keyword} {t u : TA} (h : PK X es t) (w : ∀ σ H Q, u σ H Q → t σ H Q) : PK X es u := ⟨fun pos pins s σ H Q I q => h.run pos pins s σ H Q I (w σ H Q q)⟩
end Dn
set_option Elab.async false
set_option linter.all false
set_option maxRecDepth 100000
namespace Dn
open PySem PySem.Spec PyProof.Rows L2
variable [Tb]
@[simp] def gBits : PyData → Option PyData
  | .int i => some (.int (Builtin.Int.intBits i : Nat))
  | _ => none
variable {a : Fe} {f g : Fs} {l m : Fl} {x y : Sl} {e : En} {d d' : PyData} {i j p q n : Nat} {pm : List Nat} {fx : FeX}
def kXA (g : List PyData → Option Xo) (p : List PyData × En) : Option (Xo × En) := (g p.1).map (kP p.2)
@[simp] theorem ev_xA {g : List PyData → Option Xo} : xA g l (x :: e) = (l (x :: e)).bind (kXA g) := rfl
@[simp] theorem kXA_e {g : List PyData → Option Xo} {ds : List PyData} : kXA g (ds, e) = (g ds).map (kP e) := rfl
def kXT (k : PyData) (p : Xo × En) : Xo × En := (match p.1 with
  | .ok d => .ok (.tuple [k, d])
  | .ex cl d => .ex cl d, p.2)
@[simp] theorem ev_xT {k : PyData} : xTup k fx (x :: e) = (fx (x :: e)).map (kXT k) := rfl
@[simp] theorem kXT_ok {k : PyData} : kXT k (.ok d, e) = (.ok (.tuple [k, d]), e) := rfl
@[simp] theorem kXT_ex {k : PyData} {cl : Str} : kXT k (.ex cl d, e) = (.ex cl d, e) := rfl
def kSX (i : Nat) (p : Xo × En) : Flw × En := match p.1 with
  | .ok d => (.nx, p.2.set i (.val d))
  | .ex cl d => (.ex cl d, p.2)
@[simp] theorem ev_setX : sSetX fx i (x :: e) = (fx (x :: e)).map (kSX i) := rfl
@[simp] theorem kSX_ok : kSX i (.ok d, e) = (.nx, e.set i (.val d)) := rfl
@[simp] theorem kSX_ex {cl : Str} : kSX i (.ex cl d, e) = (.ex cl d, e) := rfl
def kRX (p : Xo × En) : Flw × En := match p.1 with
  | .ok d => (.rt d, p.2)
  | .ex cl d => (.ex cl d, p.2)
@[simp] theorem ev_rtX : sRtX fx (x :: e) = (fx (x :: e)).map kRX := rfl
@[simp] theorem kRX_ok : kRX (.ok d, e) = (.rt d, e) := rfl
@[simp] theorem kRX_ex {cl : Str} : kRX (.ex cl d, e) = (.ex cl d, e) := rfl
def kEX (p : Xo × En) : Flw × En := match p.1 with
  | .ok d => (.nx, p.2)
  | .ex cl d => (.ex cl d, p.2)
@[simp] theorem ev_exX : sExX fx (x :: e) = (fx (x :: e)).map kEX := rfl
@[simp] theorem kEX_ok : kEX (.ok d, e) = (.nx, e) := rfl
@[simp] theorem kEX_ex {cl : Str} : kEX (.ex cl d, e) = (.ex cl d, e) := rfl
@[simp] theorem kTurn_ex {tg : Tg} {ds : List PyData} {cl : Str} : kTurn tg f ds (.ex cl d, e) = some (.ex cl d, e) := rfl
@[simp] theorem kTurn_rt {tg : Tg} {ds : List PyData} : kTurn tg f ds (.rt d, e) = some (.rt d, e) := rfl
@[simp] theorem endX_rt : endX (some (.rt d, e)) = some (.ok d) := rfl
@[simp] theorem endX_rl {ds : List PyData} : endX (some (.rl ds, e)) = some (.ok (.list ds)) := rfl
@[simp] theorem endX_nx : endX (some (.nx, e)) = some (.ok .none) := rfl
@[simp] theorem endX_ex {cl : Str} : endX (some (.ex cl d, e)) = some (.ex cl d) := rfl
end Dn
set_option Elab.async false
set_option linter.all false
set_option maxRecDepth 100000
namespace Dn
open PySem PySem.Spec PyProof.Rows L2 HT
variable [Tb]
section
variable {X : Cx} {a : Expr} {fa : Fe} {pos : Pos}
noncomputable def eRevT (fa : Fe) : Fe := fun env => (fa env).bind fun p => match p.1 with
  | .tuple ds => some (.tuple ds.reverse, p.2)
  | _ => none
theorem DpAll.rev {K : PySem.W.Frag} {F : Hp} : ∀ {xs : List V} {ds : List PyData}, DpAll K F xs ds → DpAll K F xs.reverse ds.reverse
  | _, _, .nil => .nil
  | _, _, .cons h1 h2 => by
    rw [List.reverse_cons, List.reverse_cons]
    exact (DpAll.rev h2).app (.cons h1 .nil)
end
end Dn
namespace Dn
open PySem PySem.Spec PyProof.Rows L2
variable [Tb]
variable {a : Fe} {l : Fl} {x : Sl} {e : En}
def kRevT (p : PyData × En) : Option (PyData × En) := match p.1 with
  | .tuple ds => some (.tuple ds.reverse, p.2)
  | _ => none
@[simp] theorem ev_RevT : eRevT a (x :: e) = (a (x :: e)).bind kRevT := rfl
@[simp] theorem kRevT_t {ds : List PyData} : kRevT (.tuple ds, e) = some (.tuple ds.reverse, e) := rfl
end Dn
set_option Elab.async false
set_option linter.all false
set_option maxRecDepth 100000
namespace Dn
open PySem PySem.Spec PyProof.Rows L2
variable [Tb]
def lOwn (i : Nat) : Fl := fun env => match env[i]? with
  | some (.own false ds) => some (ds, env.set i .no)
  | _ => none
section
variable {X : Cx} {a : Expr} {fa : Fe} {pos : Pos}
def maxI : List Int → Int
  | [] => 0
  | [n] => n
  | n :: m :: l => max n (maxI (m :: l))
theorem maxI_mem : ∀ (l : List Int), l ≠ [] → maxI l ∈ l
  | [], h => absurd rfl h
  | [n], _ => List.mem_singleton.mpr rfl
  | n :: m :: l, _ => by
    show max n (maxI (m :: l)) ∈ _
    have := maxI_mem (m :: l) (by simp)
    by_cases h : maxI (m :: l) ≤ n
    · rw [Int.max_eq_left h]; exact List.mem_cons_self
    · rw [Int.max_eq_right (by omega)]; exact List.mem_cons_of_mem _ this
theorem maxI_le : ∀ (l : List Int) (y : Int), y ∈ l → y ≤ maxI l
  | [], y, h => nomatch h
  | [n], y, h => by rw [List.mem_singleton.mp h]; exact Int.le_refl _
  | n :: m :: l, y, h => by
    show y ≤ max n (maxI (m :: l))
    rcases List.mem_cons.mp h with rfl | h
    · exact Int.le_max_left _ _
    · exact Int.le_trans (maxI_le (m :: l) y h) (Int.le_max_right _ _)
def gMaxL : List PyData → Option PyData
  | [.list ds] => (intsOf ds).bind fun ns => if ns.isEmpty then none else some (.int (maxI ns))
  | _ => none
theorem oA_maxL {K : PySem.W.Frag} : OpA K (rMax K) gMaxL := by
  intro c F σ H env xs ds z Q R hx h k
  unfold gMaxL at h
  split at h
  · simp only [Option.bind_eq_some_iff] at h
    obtain ⟨ns, h1, h0⟩ := h
    split at h0
    · cases h0
    · rename_i hne
      cases h0
      have hne' : ns ≠ [] := fun z => hne (by rw [z]; rfl)
      cases hx with
      | cons h2 h3 =>
        cases h3
        cases h2 with
        | lst hs ha =>
          rw [intsOf_inv h1] at ha
          have e := ha.ints
          subst e
          refine ⟨_, ns, rfl, R.sub.seq hs, List.length_pos_iff.mpr hne', fun m hm hle => ?_⟩
          have : m = maxI ns := Int.le_antisymm (maxI_le ns m hm) (hle _ (maxI_mem ns hne'))
          rw [this]
          exact k _ F H (Same.refl F) R (.int _)
  · cases h
variable {s : Sl} {e : En}
@[simp] theorem ev_lOwn {i : Nat} : lOwn i (s :: e) = match (s :: e)[i]? with
  | some (.own false ds) => some (ds, (s :: e).set i .no)
  | _ => none := rfl
end
end Dn
set_option Elab.async false
set_option linter.all false
set_option maxRecDepth 100000
namespace Dn
open PySem PySem.Spec PyProof.Rows L2
end Dn
set_option Elab.async false
set_option linter.all false
set_option maxRecDepth 100000
namespace Dn
open PySem PySem.Spec PyProof.Rows L2
end Dn
set_option Elab.async false
set_option linter.all false
set_option maxRecDepth 100000
namespace Dn
open PySem PySem.Spec PyProof.Rows L2
end Dn
set_option Elab.async false
set_option linter.all false
set_option maxRecDepth 100000
set_option maxHeartbeats 1000000
namespace Dn
open PySem PySem.Spec PyProof.Rows L2
end Dn
set_option Elab.async false
set_option linter.all false
set_option maxRecDepth 100000
namespace Dn
open PySem PySem.Spec PyProof.Rows L2
def inD (ds : List PyData) (d : PyData) : Bool := ds.any fun z => PyData.eqv z d
def tInO (neg : Bool) (i : Nat) (fa : Fe) : Ft := fun env => if isOwn env i then (fa env).bind fun p => match p.2[i]? with
  | some (.own _ ds) => if SeqAt.shaped p.1 && SeqAt.shaped (.list ds) then some (neg ^^ inD ds p.1, p.2) else none
  | _ => none else none
/-- where the first equal one stands -/
def plD (ds : List PyData) (d : PyData) : Option Nat := SeqAt.dataPlace ds d
def eIdO (i : Nat) (fa : Fe) : Fe := fun env => if isOwn env i then (fa env).bind fun p => match p.2[i]? with
  | some (.own _ ds) => if SeqAt.shaped p.1 && SeqAt.shaped (.list ds) then (plD ds p.1).map fun (j : Nat) => (PyData.int (j : Int), p.2) else none
  | _ => none else none
def plainD (ds : List PyData) (d : PyData) : Bool := PyData.plainAll ds && d.plain && decide (min (PyData.depthAll ds) d.depth ≤ 60)
def sRem (i : Nat) (fa : Fe) : Fs := fun env => if isOwn env i then (fa env).bind fun p => match p.2[i]? with
  | some (.own b ds) => if plainD ds p.1 then (plD ds p.1).map fun j => (.nx, p.2.set i (.own b (ds.eraseIdx j))) else none
  | _ => none else none
variable [Tb]
section
variable {X : Cx} {xc : XC} {a e : Expr} {fa fe : Fe} {pos : Pos}
theorem own_dp {K : PySem.W.Frag} {c : C3} {F H : Hp} {σ : L2.St} {env : En} {i : Nat} {b : Bool} {ds : List PyData} {p : Addr} (R : Rl K c F σ H env) (hi : env[i]? = some (.own b ds)) (hp : σ[i]? = some (some (.ref p))) : Dp K H (.ref p) (.list ds) := by
  obtain ⟨a', xs, e1, e2, e3, e4, _⟩ := R.own i b ds hi
  rw [hp] at e1
  cases e1
  exact .lst (SqL.of e3) (e4.up R.sub)
end
section
variable {x : Sl} {e : En} {a : Fe} {d : PyData} {i : Nat}
def kIn2 (neg : Bool) (d : PyData) (e : En) (s : Option Sl) : Option (Bool × En) := match s with
  | some (.own _ ds) => if SeqAt.shaped d && SeqAt.shaped (.list ds) then some (neg ^^ inD ds d, e) else none
  | _ => none
def kIn (neg : Bool) (i : Nat) (p : PyData × En) : Option (Bool × En) := kIn2 neg p.1 p.2 p.2[i]?
omit [Tb] in
@[simp] theorem ev_InO {neg : Bool} : tInO neg i a (x :: e) = if isOwn (x :: e) i then (a (x :: e)).bind (kIn neg i) else none := rfl
omit [Tb] in
@[simp] theorem kIn_e {neg : Bool} : kIn neg i (d, e) = kIn2 neg d e e[i]? := rfl
def kId2 (d : PyData) (e : En) (s : Option Sl) : Option (PyData × En) := match s with
  | some (.own _ ds) => if SeqAt.shaped d && SeqAt.shaped (.list ds) then (plD ds d).map fun (j : Nat) => (PyData.int (j : Int), e) else none
  | _ => none
def kId (i : Nat) (p : PyData × En) : Option (PyData × En) := kId2 p.1 p.2 p.2[i]?
omit [Tb] in
@[simp] theorem ev_IdO : eIdO i a (x :: e) = if isOwn (x :: e) i then (a (x :: e)).bind (kId i) else none := rfl
omit [Tb] in
@[simp] theorem kId_e : kId i (d, e) = kId2 d e e[i]? := rfl
def kRem2 (i : Nat) (d : PyData) (e : En) (s : Option Sl) : Option (Flw × En) := match s with
  | some (.own b ds) => if plainD ds d then (plD ds d).map fun j => (.nx, e.set i (.own b (ds.eraseIdx j))) else none
  | _ => none
def kRem (i : Nat) (p : PyData × En) : Option (Flw × En) := kRem2 i p.1 p.2 p.2[i]?
omit [Tb] in
@[simp] theorem ev_Rem : sRem i a (x :: e) = if isOwn (x :: e) i then (a (x :: e)).bind (kRem i) else none := rfl
omit [Tb] in
@[simp] theorem kRem_e : kRem i (d, e) = kRem2 i d e e[i]? := rfl
end
end Dn
set_option Elab.async false
set_option linter.all false
set_option maxRecDepth 100000
namespace Dn
open PySem PySem.Spec PyProof.Rows L2
open PySem.W (Frag)
variable [Tb]
def endN : Option (Flw × En) → Option (List PyData × List PyData)
  | some (.rl ds, .own true ks :: _) => some (ds, ks)
  | _ => none
def lN (i : Nat) (g : List PyData → List PyData → Option (List PyData × List PyData)) (fl : Fl) : Fl := fun env => if isOwn env i then (fl env).bind fun p => match p.2[i]? with
  | some (.own b ks) => (g ks p.1).map fun q => (q.1, p.2.set i (.own b q.2))
  | _ => none else none
section
variable {x : Sl} {e : En} {i : Nat} {fl : Fl} {ds : List PyData} {g : List PyData → List PyData → Option (List PyData × List PyData)}
def kN3 (i : Nat) (g : List PyData → List PyData → Option (List PyData × List PyData)) (ds : List PyData) (e : En) (s : Option Sl) : Option (List PyData × En) := match s with
  | some (.own b ks) => (g ks ds).map fun q => (q.1, e.set i (.own b q.2))
  | _ => none
def kN2 (i : Nat) (g : List PyData → List PyData → Option (List PyData × List PyData)) (p : List PyData × En) : Option (List PyData × En) := kN3 i g p.1 p.2 p.2[i]?
omit [Tb] in
@[simp] theorem ev_N : lN i g fl (x :: e) = if isOwn (x :: e) i then (fl (x :: e)).bind (kN2 i g) else none := rfl
omit [Tb] in
@[simp] theorem kN2_e : kN2 i g (ds, e) = kN3 i g ds e e[i]? := rfl
omit [Tb] in
@[simp] theorem kN3_e {b : Bool} {ks : List PyData} : kN3 i g ds e (some (.own b ks)) = (g ks ds).map fun q => (q.1, e.set i (.own b q.2)) := rfl
omit [Tb] in
@[simp] theorem endN_rl {ds ks : List PyData} {tl : En} : endN (some (.rl ds, .own true ks :: tl)) = some (ds, ks) := rfl
end
end Dn
set_option Elab.async false
set_option linter.all false
set_option maxRecDepth 100000
namespace Dn
open PySem PySem.Spec PyProof.Rows L2
open PySem.W (Frag)
variable [Tb]
abbrev FlL := En → Option (List (List PyData) × En)
end Dn
set_option Elab.async false
set_option linter.all false
set_option maxRecDepth 100000
namespace Dn
open PySem PySem.Spec PyProof.Rows L2
open PySem.W (Frag)
variable [Tb]
section
variable {K : Frag} {c : C3} {F F' H0 H0' H H' : Hp} {σ : L2.St} {env env' : En} {v : V} {t : Tv}
theorem dpAll_ix : ∀ {vs : List V} {ds : List PyData}, vs.length = ds.length → (∀ (i : Nat) (v : V) (d : PyData), vs[i]? = some v → ds[i]? = some d → Dp K F v d) → DpAll K F vs ds
  | [], [], _, _ => .nil
  | [], _ :: _, h, _ => by cases h
  | _ :: _, [], h, _ => by cases h
  | v :: vs, d :: ds, h, k => .cons (k 0 v d rfl rfl) (dpAll_ix (by simpa using h) fun i u e h1 h2 => k (i + 1) u e (by simpa using h1) (by simpa using h2))
theorem TrV.h0 (h : TrV K F H0 H v t) (k : ∀ a, H0 a = none → H0' a = none) : TrV K F H0' H v t := by
  cases t with
  | v d => exact h
  | l ds =>
    obtain ⟨p, xs, h1, h2, h3, h4, h5⟩ := h
    exact ⟨p, xs, h1, h2, k p h3, h4, h5⟩
  | ll dss =>
    obtain ⟨p, h1, h2, h3, as, xss, h4, h5, h6, h7, h8, h9⟩ := h
    refine ⟨p, h1, h2, k p h3, as, xss, h4, h5, h6, h7, h8, fun i a xs ds j1 j2 j3 => ?_⟩
    obtain ⟨z1, z2, z3, z4⟩ := h9 i a xs ds j1 j2 j3
    exact ⟨z1, k a z2, z3, z4⟩
theorem TrV.mono (h : TrV K F H0 H v t) (s : Same F F') (kp : Kp H H') (n : ∀ b, F' b ≠ none → F b ≠ none ∨ H b = none) : TrV K F' H0 H' v t := by
  have nF : ∀ a o, F a = none → H a = some o → F' a = none := fun a o h1 h2 => by
    cases z : F' a with
    | none => rfl
    | some u =>
      rcases n a (by rw [z]; simp) with y | y
      · exact absurd h1 y
      · rw [h2] at y; cases y
  cases t with
  | v d => exact Dp.up h s
  | l ds =>
    obtain ⟨p, xs, h1, h2, h3, h4, h5⟩ := h
    exact ⟨p, xs, h1, nF p _ h2 h4, h3, kp.keep p _ .lst h4, h5.up s⟩
  | ll dss =>
    obtain ⟨p, h1, h2, h3, as, xss, h4, h5, h6, h7, h8, h9⟩ := h
    refine ⟨p, h1, nF p _ h2 h4, h3, as, xss, kp.keep p _ .lst h4, h5, h6, h7, h8, fun i a xs ds j1 j2 j3 => ?_⟩
    obtain ⟨z1, z2, z3, z4⟩ := h9 i a xs ds j1 j2 j3
    exact ⟨nF a _ z1 z3, z2, kp.keep a _ .lst z3, z4.up s⟩
/-- a tree is data for a while -/
theorem TrV.freeze (B : Bs F H) (h : TrV K F H0 H v t) : ∃ F', Same F F' ∧ Bs F' H ∧ (∀ b, F' b ≠ none → F b ≠ none ∨ H0 b = none) ∧ Dp K F' v (dataT t) := by
  cases t with
  | v d => exact ⟨F, Same.refl F, B, fun b h => .inl h, h⟩
  | l ds =>
    obtain ⟨p, xs, rfl, h2, h3, h4, h5⟩ := h
    have s : Same F (upd F p (.lst xs)) := fun b u e => by rw [upd_ne (ne_of_none e h2)]; exact e
    refine ⟨upd F p (.lst xs), s, ⟨fun b u e => ?_, B.nf.upd .lst, B.tab⟩, fun b hb => ?_, .lst (SqL.of upd_same) (h5.up s)⟩
    · by_cases hb : b = p
      · subst hb; rw [upd_same] at e; rw [h4]; exact e
      · rw [upd_ne hb] at e; exact B.sub b u e
    · by_cases hbp : b = p
      · subst hbp; exact .inr h3
      · rw [upd_ne hbp] at hb; exact .inl hb
  | ll dss =>
    obtain ⟨p, rfl, h2, h3, as, xss, h4, h5, h6, h7, h8, h9⟩ := h
    have at_ : ∀ a, a ∈ as → ∃ i xs ds, as[i]? = some a ∧ xss[i]? = some xs ∧ dss[i]? = some ds := fun a ha => by
      obtain ⟨i, hi⟩ := List.mem_iff_getElem?.mp ha
      have hil := (List.getElem?_eq_some_iff.mp hi).1
      exact ⟨i, _, _, hi, List.getElem?_eq_getElem (by omega), List.getElem?_eq_getElem (by omega)⟩
    open Classical in
    let G : Hp := fun b => if b = p ∨ b ∈ as then H b else F b
    have Gp : G p = some (.lst (as.map V.ref)) := by show (if _ then _ else _) = _; rw [if_pos (.inl rfl)]; exact h4
    have Ga : ∀ a, a ∈ as → G a = H a := fun a ha => if_pos (.inr ha)
    have s : Same F G := fun b u e => by
      show (if _ then _ else _) = _
      by_cases hb : b = p ∨ b ∈ as
      · rcases hb with rfl | hb
        · rw [h2] at e; cases e
        · obtain ⟨i, xs, ds, i1, i2, i3⟩ := at_ b hb
          rw [(h9 i b xs ds i1 i2 i3).1] at e; cases e
      · rw [if_neg hb]; exact e
    refine ⟨G, s, ⟨fun b u e => ?_, fun b ps e => ?_, B.tab⟩, fun b hb => ?_, .lst (SqL.of Gp) (dpAll_ix (by simp [h7]) fun i u d j1 j2 => ?_)⟩
    · have e' : (if b = p ∨ b ∈ as then H b else F b) = some u := e
      split at e'
      · exact e'
      · exact B.sub b u e'
    · have e' : (if b = p ∨ b ∈ as then H b else F b) = some (.tbl ps) := e
      split at e'
      · rename_i hb
        rcases hb with rfl | hb
        · rw [h4] at e'; cases e'
        · obtain ⟨i, xs, ds, i1, i2, i3⟩ := at_ b hb
          rw [(h9 i b xs ds i1 i2 i3).2.2.1] at e'; cases e'
      · exact B.nf b ps e'
    · have hb' : (if b = p ∨ b ∈ as then H b else F b) ≠ none := hb
      split at hb'
      · rename_i hb
        rcases hb with rfl | hb
        · exact .inr h3
        · obtain ⟨i, xs, ds, i1, i2, i3⟩ := at_ b hb
          exact .inr (h9 i b xs ds i1 i2 i3).2.1
      · exact .inl hb'
    · rw [List.getElem?_map, Option.map_eq_some_iff] at j1 j2
      obtain ⟨a, ja, rfl⟩ := j1
      obtain ⟨es, je, rfl⟩ := j2
      have hil := (List.getElem?_eq_some_iff.mp ja).1
      have jx : xss[i]? = some xss[i] := List.getElem?_eq_getElem (by omega)
      obtain ⟨z1, z2, z3, z4⟩ := h9 i a _ es ja jx je
      have : G a = some (.lst xss[i]) := (Ga a (List.mem_of_getElem? ja)).trans z3
      exact .lst (SqL.of this) (z4.up s)
def sideC (F H : Hp) : C3 := ⟨H, F, noT H, []⟩
def vOf : Sl → Sl
  | .own _ _ => .no
  | s => s
def valsOf (env : En) : En := env.map vOf
theorem Rl.sideK {G : Hp} (R : Rl K (sideC G H) F σ H' env) : Kp H H' := ⟨fun b o n e => R.gd b o (noT_of e n), R.dom⟩
theorem Rl.kp (R : Rl K c F σ H env) (k : Kp H H') (t : LamX.Tabs Tb.T H') : Rl K c F σ H' env :=
  ⟨fun b u e => k.keep b u (fun ps z => by rw [z] at e; exact R.nf b ps e) (R.sub b u e), R.f0, fun b u e => k.keep b u (fun ps z => by rw [z] at e; exact R.ng b ps e) (R.gd b u e), R.g0, R.new, fun a h => k.dom a (R.dom a h), R.len, R.val, fun i p ds h => by
    obtain ⟨a, xs, e1, e2, e3, e4, e5, e6, e7⟩ := R.own i p ds h
    exact ⟨a, xs, e1, e2, k.keep a _ .lst e3, e4, e5, e6, e7⟩, t, R.nf, R.ng⟩
end
abbrev FeT := En → Option (Tv × En)
end Dn
set_option Elab.async false
set_option linter.all false
set_option maxRecDepth 100000
namespace Dn
open PySem PySem.Spec PyProof.Rows L2
open PySem.W (Frag)
variable [Tb]
theorem Bs.kp {F H H' : Hp} (B : Bs F H) (k : Kp H H') (t : LamX.Tabs Tb.T H') : Bs F H' := ⟨fun b u e => k.keep b u (fun ps z => by rw [z] at e; exact B.nf b ps e) (B.sub b u e), B.nf, t⟩
omit [Tb] in
theorem cutD_fromN {l : List PyData} {n : Nat} : cutD l (some (n : Int)) none = l.drop n := by
  unfold cutD
  rw [HT.sIx_nat, HT.sIx_none]
  by_cases h : n ≤ l.length
  · rw [Nat.min_eq_left h, List.take_of_length_le (by simp)]
  · rw [Nat.min_eq_right (by omega), Nat.sub_self, List.take_zero, List.drop_eq_nil_of_le (by omega)]
end Dn
set_option Elab.async false
set_option linter.all false
set_option maxRecDepth 100000
namespace Dn
open PySem PySem.Spec PyProof.Rows L2
open PySem.W (Frag)
variable [Tb]
def fOf : Sl → Sl
  | .own _ ds => .val (.list ds)
  | s => s
/-- owned lists as data, for a while -/
def frzOf (env : En) : En := env.map fOf
theorem Rl.sideV {K : Frag} {c : C3} {F H : Hp} {σ : L2.St} {env : En} (R : Rl K c F σ H env) : ∃ F', Same F F' ∧ Bs F' H ∧ Rl K (sideC F' H) F' σ H (frzOf env) := by
  let P : Addr → Prop := fun b => ∃ (i : Nat) (p : Bool) (ds : List PyData), env[i]? = some (Sl.own p ds) ∧ σ[i]? = some (some (V.ref b))
  have own : ∀ {b : Addr}, P b → ∃ xs, F b = none ∧ H b = some (.lst xs) := fun {b} ⟨i, p, ds, h1, h2⟩ => by
    obtain ⟨a, xs, e1, e2, e3, _⟩ := R.own i p ds h1
    rw [h2] at e1
    cases e1
    exact ⟨xs, e2, e3⟩
  open Classical in
  let G : Hp := fun b => if P b then H b else F b
  have s : Same F G := fun b u e => by
    show (if _ then _ else _) = _
    rw [if_neg]
    · exact e
    · intro z
      obtain ⟨xs, h1, _⟩ := own z
      rw [h1] at e; cases e
  have B : Bs G H := ⟨fun b u e => by
    have e' : (if P b then H b else F b) = some u := e
    split at e'
    · exact e'
    · exact R.sub b u e', fun b ps e => by
    have e' : (if P b then H b else F b) = some (.tbl ps) := e
    split at e'
    · rename_i z
      obtain ⟨xs, _, h2⟩ := own z
      rw [h2] at e'; cases e'
    · exact R.nf b ps e', R.tab⟩
  refine ⟨G, s, B, B.sub, Same.refl G, noT_sub, noT_sub, fun a h => .inl h, fun a h => h, by unfold frzOf; rw [List.length_map]; exact R.len, fun i d h => ?_, fun i p ds h => ?_, R.tab, B.nf, noT_no⟩
  · unfold frzOf at h
    rw [List.getElem?_map, Option.map_eq_some_iff] at h
    obtain ⟨sl, h1, h2⟩ := h
    cases sl with
    | val e =>
      cases h2
      obtain ⟨v, e1, e2⟩ := R.val i _ h1
      exact ⟨v, e1, e2.up s⟩
    | no => cases h2
    | own p ds =>
      cases h2
      obtain ⟨a, xs, e1, e2, e3, e4, _⟩ := R.own i p ds h1
      have : G a = some (.lst xs) := by
        show (if P a then H a else F a) = _
        rw [if_pos ⟨i, p, ds, h1, e1⟩]; exact e3
      exact ⟨.ref a, e1, .lst (SqL.of this) (e4.up s)⟩
  · unfold frzOf at h
    rw [List.getElem?_map, Option.map_eq_some_iff] at h
    obtain ⟨sl, h1, h2⟩ := h
    cases sl <;> cases h2
end Dn
set_option Elab.async false
set_option linter.all false
set_option maxRecDepth 100000
namespace Dn
open PySem PySem.Spec PyProof.Rows L2
section
variable {s : Sl} {e : En} {i : Nat} {d : PyData} {t : Tv} {fe : Fe} {fl : Fl} {fL : FlL} {ft : FeT} {g : List PyData → Option Tv} {ds : List PyData} {dss : List (List PyData)}
@[simp] theorem kTurn_tr {tg : Tg} {f : Fs} : kTurn tg f ds (.tr t, e) = some (.tr t, e) := rfl
end
end Dn
set_option Elab.async false
set_option linter.all false
set_option maxRecDepth 100000
namespace Dn
open PySem PySem.Spec PyProof.Rows L2
open PySem.W (Frag)
def g2L (n : Nat) (t : Tgs) : Tg := fun d env => match d with
  | .list ds => if ds.length = n then t ds env else none
  | _ => none
section
variable [Tb] {X : Cx} {pos : Pos}
theorem dg_lst {es : List Expr} {k0 : Nat} {t : Tgs} {n : Nat} {S : List Nat} (hc : X.calm = true) (h : PGs X es (tGs X.K t S))
    (hn : (assignEach es X.env).length = n := by rfl) (hst : (assignEach es X.env).findIdx? (·.1) = none := by rfl) : PG X (.Tuple es k0 pos) (tG X.K (g2L n t) S) := (pg_lst hc h hn hst).imp fun v σ H Q ⟨c, F, env, d, env', R, hd, e, k⟩ => by
  unfold g2L at e
  split at e
  · split at e
    · cases hd with
      | lst hs ha => exact ⟨_, _, rfl, R.sub.seq hs, by rw [ha.len]; assumption, c, F, env, _, env', R, ha, e, k⟩
    · cases e
  · cases e
end
@[simp] theorem g2L_l {n : Nat} {t : Tgs} {ds : List PyData} {e : En} : g2L n t (.list ds) e = if ds.length = n then t ds e else none := rfl
end Dn
set_option Elab.async false
set_option linter.all false
set_option maxRecDepth 100000
namespace Dn
open PySem PySem.Spec PyProof.Rows L2
open PySem.W (Frag)
variable [Tb]
def letters (x : Str) : List PyData := x.cps.toList.map fun c => .str ⟨#[c]⟩
def iStrS (f : Fe) : Fi := fun env => (f env).bind fun p => match p.1 with
  | .str x => some (letters x, p.2)
  | _ => none
section
variable {K : Frag}
@[simp] def gInC : PyData → PyData → Option PyData
  | .str ⟨⟨[c]⟩⟩, .str z => some (.bool (decide (c ∈ z.cps.toList)))
  | _, _ => none
@[simp] def gLtS : PyData → PyData → Option PyData
  | .str i, .str j => some (.bool (decide (i.cps.toList < j.cps.toList)))
  | _, _ => none
@[simp] def gGtS : PyData → PyData → Option PyData
  | .str i, .str j => some (.bool (decide (j.cps.toList < i.cps.toList)))
  | _, _ => none
end
def strsOf : List PyData → Option (List Str)
  | [] => some []
  | .str x :: ds => (strsOf ds).map (x :: ·)
  | _ => none
def leS (a b : Str) : Bool := !ltCps b.cps.toList a.cps.toList
noncomputable def srtS (xs : List Str) : List Str := xs.mergeSort leS
noncomputable def lSrtS (f : Fl) : Fl := fun env => (f env).bind fun p => match p.1 with
  | [.list ds] => match strsOf ds with
    | some xs => if decide (xs.length < 64) then some ((srtS xs).map .str, p.2) else none
    | none => none
  | _ => none
section
variable {e : En} {f fa fb : Fe}
def kStrS (p : PyData × En) : Option (List PyData × En) := match p.1 with
  | .str x => some (letters x, p.2)
  | _ => none
@[simp] theorem iStrS_k {x : Sl} : iStrS f (x :: e) = (f (x :: e)).bind kStrS := rfl
@[simp] theorem kStrS_e {x : Str} : kStrS (.str x, e) = some (letters x, e) := rfl
noncomputable def kSrtS (p : List PyData × En) : Option (List PyData × En) := match p.1 with
  | [.list ds] => match strsOf ds with
    | some xs => if decide (xs.length < 64) then some ((srtS xs).map .str, p.2) else none
    | none => none
  | _ => none
@[simp] theorem lSrtS_k {f : Fl} {x : Sl} : lSrtS f (x :: e) = (f (x :: e)).bind kSrtS := rfl
end
end Dn
set_option Elab.async false
set_option linter.all false
set_option maxRecDepth 100000
set_option maxHeartbeats 2000000
namespace Dn
open PySem PySem.Spec PyProof.Rows L2
end Dn
set_option Elab.async false
set_option linter.all false
set_option maxRecDepth 100000
namespace Dn
open PySem PySem.Spec PyProof.Rows L2
open PySem.W (Frag)
variable [Tb]
section
def gMinL : List PyData → Option PyData
  | [.list ds] => (intsOf ds).bind fun ns => ns.min?.map .int
  | _ => none
theorem oA_minL {K : PySem.W.Frag} : OpA K (rMin K) gMinL := by
  intro c F σ H env xs ds z Q R hx h k
  unfold gMinL at h
  split at h
  · simp only [Option.bind_eq_some_iff, Option.map_eq_some_iff] at h
    obtain ⟨ns, h1, m, h2, rfl⟩ := h
    have h1' := intsOf_inv h1
    subst h1'
    cases hx with
    | cons h3 h4 =>
      cases h4
      cases h3 with
      | lst hs ha =>
        have := ha.ints
        subst this
        refine ⟨_, ns, rfl, R.sub.seq hs, ?_, fun m' hm hle => ?_⟩
        · cases ns with
          | nil => cases h2
          | cons _ _ => simp
        · have hmin := List.min?_eq_some_iff.mp h2
          have : m' = m := Int.le_antisymm (hle m hmin.1) (hmin.2 m' hm)
          subst this
          exact k _ F H (Same.refl F) R (.int _)
  · cases h
end
def getK (kd : List (Str × PyData)) (k : Str) : Option PyData := (kd.find? fun p => decide (p.1 = k)).map (·.2)
def putD (kd : List (Str × PyData)) (k : Str) (d : PyData) : List (Str × PyData) := if (kd.any fun p => decide (p.1 = k)) = true then kd.map (fun p => if p.1 = k then (p.1, d) else p) else kd ++ [(k, d)]
inductive Kd (K : Frag) (F : Hp) : List (Key × V) → List (Str × PyData) → Prop where
  | nil : Kd K F [] []
  | cons {k : Str} {v : V} {d : PyData} {kvs : List (Key × V)} {kd : List (Str × PyData)} (h : Dp K F v d) (t : Kd K F kvs kd) : Kd K F ((.inr k, v) :: kvs) ((k, d) :: kd)
section
variable {K : Frag} {F F' : Hp} {kvs : List (Key × V)} {kd : List (Str × PyData)}
theorem Kd.up (s : Same F F') (h : Kd K F kvs kd) : Kd K F' kvs kd := by
  induction h with
  | nil => exact .nil
  | cons h _ ih => exact .cons (h.up s) ih
theorem Kd.len (h : Kd K F kvs kd) : kvs.length = kd.length := by
  induction h with
  | nil => rfl
  | cons _ _ ih => simp [ih]
theorem Kd.val (k : Str) (h : Kd K F kvs kd) : (getK kd k = none ∧ valV kvs (.inr k) = none) ∨ ∃ v d, getK kd k = some d ∧ valV kvs (.inr k) = some v ∧ Dp K F v d := by
  induction h with
  | nil => exact .inl ⟨rfl, rfl⟩
  | @cons k' v d kvs kd h t ih =>
    by_cases e : k' = k
    · subst e
      exact .inr ⟨v, d, by simp [getK], valV_pos rfl, h⟩
    · have e1 : getK ((k', d) :: kd) k = getK kd k := by simp [getK, List.find?_cons, e]
      have e2 : valV (((.inr k' : Key), v) :: kvs) (.inr k) = valV kvs (.inr k) := valV_neg (fun z => e (Sum.inr.inj z))
      rw [e1, e2]
      exact ih
theorem Kd.any (k : Str) (h : Kd K F kvs kd) : (kvs.any fun kv => decide (kv.1 = (Sum.inr k : Key))) = kd.any fun p => decide (p.1 = k) := by
  induction h with
  | nil => rfl
  | cons h _ ih =>
    simp only [List.any_cons, ih]
    congr 1
    exact decide_eq_decide.mpr ⟨fun z => Sum.inr.inj z, fun z => by rw [z]⟩
theorem Kd.put {k : Str} {v : V} {d : PyData} (h : Kd K F kvs kd) (hv : Dp K F v d) : Kd K F (putK kvs (.inr k) v) (putD kd k d) := by
  unfold putK putD
  rw [h.any k]
  split
  · rename_i hany
    clear hany
    induction h with
    | nil => exact .nil
    | @cons k' v' d' kvs kd h t ih =>
      rw [List.map_cons, List.map_cons]
      by_cases e : k' = k
      · subst e
        rw [if_pos rfl, if_pos rfl]
        exact .cons hv ih
      · rw [if_neg (fun z => e (Sum.inr.inj z)), if_neg e]
        exact .cons h ih
  · rename_i hany
    clear hany
    induction h with
    | nil => exact .cons hv .nil
    | cons h t ih => exact .cons h ih
end
theorem tabs_K {T : List (Addr × Str)} {H H' : Hp} {a : Addr} {kvs : List (Key × V)} (h : LamX.Tabs T H) (ha : H a = some (.dK kvs)) (k : ∀ b, b ≠ a → H' b = H b) : LamX.Tabs T H' := fun p hp => by
  obtain ⟨ps, h1, h2, h3⟩ := h p hp
  have ne : ∀ {b : Addr} {o : HO}, H b = some o → (∀ xs, o ≠ .dK xs) → H' b = some o := fun {b o} e n => by
    rw [k b (fun z => by subst z; rw [ha] at e; cases e; exact n _ rfl)]
    exact e
  refine ⟨ps, ne h1 (fun _ z => by cases z), h2, fun pos cv hc => ?_⟩
  obtain ⟨c, e1, e2⟩ := h3 pos cv hc
  exact ⟨c, e1, ne e2 fun _ z => by unfold LamX.CodeO at z; cases z⟩
/-- the heap while totals are kept: what lay there stays, the dict stands at D -/
structure TgI (K : Frag) (F0 H0 : Hp) (D : Addr) (F H : Hp) (kd : List (Str × PyData)) : Prop where
  s : Same F0 F
  b : Bs F H
  k : Kp H0 H
  nw : ∀ a, F a ≠ none → F0 a ≠ none ∨ H0 a = none
  d : ∃ kvs, H D = some (.dK kvs) ∧ Kd K F kvs kd
  f : F D = none
  h : H0 D = none
section
variable {K : Frag} {F0 H0 F H F' H' : Hp} {D : Addr} {kd : List (Str × PyData)}
omit [Tb] in
theorem Kp.h0 {H0 H : Hp} (k : Kp H0 H) {p : Addr} (h : H p = none) : H0 p = none := by
  cases e : H0 p with
  | none => rfl
  | some o => exact absurd h (k.dom p (by rw [e]; simp))
theorem TgI.laid (I : TgI K F0 H0 D F H kd) {p : Addr} {xs : List V} (hp : H p = none) : TgI K F0 H0 D (upd F p (.tup xs)) (upd H p (.tup xs)) kd ∧ Same F (upd F p (.tup xs)) := by
  obtain ⟨kvs, hd, hk⟩ := I.d
  have hF : F p = none := I.b.sub.free hp
  have sF : Same F (upd F p (.tup xs)) := fun b u e => by rw [upd_ne (ne_of_none e hF)]; exact e
  have hDp : D ≠ p := ne_of_none hd hp
  refine ⟨⟨I.s.trans sF, ⟨fun b u e => ?_, I.b.nf.upd .tup, tabs_grow I.b.tab hp⟩, I.k.trans (Kp.of fun b u e => by rw [upd_ne (ne_of_none e hp)]; exact e), fun a ha => ?_, ⟨kvs, by rw [upd_ne hDp]; exact hd, hk.up sF⟩, by rw [upd_ne hDp]; exact I.f, I.h⟩, sF⟩
  · by_cases hb : b = p
    · subst hb; rw [upd_same] at e ⊢; exact e
    · rw [upd_ne hb] at e ⊢; exact I.b.sub b u e
  · by_cases hb : a = p
    · subst hb; exact .inr (I.k.h0 hp)
    · rw [upd_ne hb] at ha; exact I.nw a ha
theorem TgI.call (I : TgI K F0 H0 D F H kd) (s : Same F F') (b : Bs F' H') (k : Kp H H') (n : ∀ a, F' a ≠ none → F a ≠ none ∨ H a = none) : TgI K F0 H0 D F' H' kd := by
  obtain ⟨kvs, hd, hk⟩ := I.d
  refine ⟨I.s.trans s, b, I.k.trans k, fun a ha => ?_, ⟨kvs, k.keep D _ (fun _ z => by cases z) hd, hk.up s⟩, ?_, I.h⟩
  · rcases n a ha with z | z
    · exact I.nw a z
    · exact .inr (I.k.h0 z)
  · cases e : F' D with
    | none => rfl
    | some o =>
      rcases n D (by rw [e]; simp) with z | z
      · exact absurd I.f z
      · rw [hd] at z; cases z
theorem TgI.put (I : TgI K F0 H0 D F H kd) {kvs : List (Key × V)} {k : Str} {v : V} {d : PyData} (hd : H D = some (.dK kvs)) (hk : Kd K F kvs kd) (hv : Dp K F v d) : TgI K F0 H0 D F (upd H D (.dK (putK kvs (.inr k) v))) (putD kd k d) := by
  refine ⟨I.s, ⟨fun b u e => ?_, I.b.nf, tabs_K I.b.tab hd fun _ hb => upd_ne hb⟩, ⟨fun b u n e => ?_, fun b hb => ?_⟩, I.nw, ⟨_, upd_same, hk.put hv⟩, I.f, I.h⟩
  · have ne : b ≠ D := fun z => by rw [z, I.f] at e; cases e
    rw [upd_ne ne]; exact I.b.sub b u e
  · have ne : b ≠ D := fun z => by rw [z, I.h] at e; cases e
    rw [upd_ne ne]; exact I.k.keep b u n e
  · have ne : b ≠ D := fun z => hb (by rw [z]; exact I.h)
    rw [upd_ne ne]; exact I.k.dom b hb
/-- a new list that nothing leans on -/
theorem TgI.grow (I : TgI K F0 H0 D F H kd) {p : Addr} {xs : List V} (hp : H p = none) : TgI K F0 H0 D F (upd H p (.lst xs)) kd := by
  obtain ⟨kvs, hd, hk⟩ := I.d
  have hDp : D ≠ p := ne_of_none hd hp
  refine ⟨I.s, ⟨fun b u e => ?_, I.b.nf, tabs_grow I.b.tab hp⟩, I.k.trans (Kp.of fun b u e => by rw [upd_ne (ne_of_none e hp)]; exact e), I.nw, ⟨kvs, by rw [upd_ne hDp]; exact hd, hk⟩, I.f, I.h⟩
  have := I.b.sub b u e
  rw [upd_ne (ne_of_none this hp)]; exact this
end
end Dn
set_option Elab.async false
set_option linter.all false
set_option maxRecDepth 100000
set_option maxHeartbeats 1000000
namespace Dn
open PySem PySem.Spec PyProof.Rows L2
open PySem.W (Frag)
variable [Tb]
/-- {key: e} -/
def eDict1 (key : Str) (f : Fe) : Fe := fun env => (f (valsOf env)).map fun p => (.dict [(.str key, p.1)], env)
@[simp] def gIsB : PyData → PyData → Option PyData
  | .bool a, .bool b => some (.bool (decide (a = b)))
  | _, _ => none
@[simp] def gNotB : PyData → PyData → Option PyData
  | .bool a, .bool b => some (.bool (!decide (a = b)))
  | _, _ => none
/-- isinstance(e, (T, U)) -/
def eIs2 (T U : String) (f : Fe) : Fe := fun env => (f env).bind fun p => if tyOk p.1 then some (.bool (isT T p.1 || isT U p.1), p.2) else none
end Dn
set_option Elab.async false
set_option linter.all false
set_option maxRecDepth 100000
namespace Dn
open PySem PySem.Spec PyProof.Rows L2
variable {a : Fe} {b : Fs} {x : Sl} {e : En} {d : PyData} {cl : Str} {cls : List Str} {tbl : List (Str × Bool)} {i j : Nat}
def kIs2 (T U : String) (p : PyData × En) : Option (PyData × En) := if tyOk p.1 then some (.bool (isT T p.1 || isT U p.1), p.2) else none
@[simp] theorem ev_Is2 {T U : String} : eIs2 T U a (x :: e) = (a (x :: e)).bind (kIs2 T U) := (rfl)
@[simp] theorem kIs2_e {T U : String} : kIs2 T U (d, e) = if tyOk d then some (.bool (isT T d || isT U d), e) else none := (rfl)
def kDict1 (key : Str) (e : En) (p : PyData × En) : PyData × En := (.dict [(.str key, p.1)], e)
@[simp] theorem ev_dict1 {key : Str} : eDict1 key a (x :: e) = (a (valsOf (x :: e))).map (kDict1 key (x :: e)) := (rfl)
@[simp] theorem kDict1_e {key : Str} {e2 : En} : kDict1 key e2 (d, e) = (.dict [(.str key, d)], e2) := (rfl)
def kTryK (cls : List Str) (i j : Nat) (p : Flw × En) : Option (Flw × En) := match p.1 with
  | .ex c d => if c ∈ cls ∧ i < p.2.length then some (.nx, ((p.2.set i .no).set j (.val (encE c d))).set i .no) else none
  | _ => some p
@[simp] theorem ev_TryK : sTryK cls i j b (x :: e) = (b (x :: e)).bind (kTryK cls i j) := (rfl)
@[simp] theorem kTryK_nx : kTryK cls i j (.nx, e) = some (.nx, e) := (rfl)
@[simp] theorem kTryK_ex {c : Str} : kTryK cls i j (.ex c d, e) = if c ∈ cls ∧ i < e.length then some (.nx, ((e.set i .no).set j (.val (encE c d))).set i .no) else none := (rfl)
theorem hu80 {k : Nat} {A : Around} (hr : Room k A) : A.units + 80 < cLine := by
  have := hr.un
  omega
end Dn
set_option Elab.async false
set_option linter.all false
set_option maxRecDepth 100000
set_option maxHeartbeats 1000000
namespace Dn
open PySem PySem.Spec PyProof.Rows L2
open PySem.W (Frag)
variable [Tb]
def tSide (f : Ft) : Ft := fun env => (f (frzOf env)).map fun p => (p.1, env)
theorem dt_side {X : Cx} {e : Expr} {f : Ft} (h : PT X e (Gt X.K f)) : PT X e (Gt X.K (tSide f)) := h.imp fun σ H Q ⟨c, F, env, b, env', R, e, k⟩ => by
  unfold tSide at e
  simp only [Option.map_eq_some_iff] at e
  obtain ⟨⟨b1, n1⟩, h1, h2⟩ := e
  obtain ⟨rfl, rfl⟩ := Prod.mk.inj h2
  obtain ⟨F', s, B, RV⟩ := R.sideV
  exact ⟨sideC F' H, F', frzOf env, b1, n1, RV, h1, fun F1 H1 s1 R1 => k F H1 (Same.refl F) (R.kp R1.sideK R1.tab)⟩
omit [Tb]
def kSide (e : En) (p : Bool × En) : Bool × En := (p.1, e)
@[simp] theorem ev_Side {f : Ft} {x : Sl} {e : En} : tSide f (x :: e) = (f (fOf x :: e.map fOf)).map (kSide (x :: e)) := rfl
@[simp] theorem kSide_e {e e2 : En} {b : Bool} : kSide e (b, e2) = (b, e) := rfl
@[simp] theorem fOf_o {p : Bool} {ds : List PyData} : fOf (.own p ds) = .val (.list ds) := rfl
@[simp] theorem fOf_v {d : PyData} : fOf (.val d) = .val d := rfl
@[simp] theorem fOf_n : fOf .no = .no := rfl
end Dn
set_option Elab.async false
set_option linter.all false
set_option maxRecDepth 100000
namespace Dn
open PySem PySem.Spec PyProof.Rows L2
open PySem.W (Frag)
variable [Tb]
def rowEntry (b : Int) (ns : List Int) (k j : Nat) : Int := if j = k then b - ns.getD k 0 else if j + 1 = k then ns.getD j 0 else 0
theorem nodup_get {α : Type} {l : List α} (h : l.Nodup) {i j : Nat} {a : α} (hi : l[i]? = some a) (hj : l[j]? = some a) : i = j := by
  obtain ⟨h1, e1⟩ := List.getElem?_eq_some_iff.mp hi
  obtain ⟨h2, e2⟩ := List.getElem?_eq_some_iff.mp hj
  exact (List.getElem_inj h).mp (e1.trans e2.symm)
end Dn
set_option Elab.async false
set_option linter.all false
set_option maxRecDepth 100000
set_option maxHeartbeats 4000000
namespace Dn
open PySem PySem.Spec PyProof.Rows L2
end Dn
set_option Elab.async false
set_option linter.all false
set_option maxRecDepth 100000
namespace Dn
open PySem PySem.Spec PyProof.Rows L2
open PySem.W (Frag)
variable [Tb]
section
/-- a letter of a text -/
@[simp] def gIxS : PyData → PyData → Option PyData
  | .str z, .int i => if okN z.length then (atI z.cps.toList i).map fun c => .str ⟨#[c]⟩ else none
  | _, _ => none
end
def setAt (rows : List (List PyData)) (i j : Nat) (d : PyData) : List (List PyData) := rows.set i ((rows.getD i []).set j d)
/-- new rows that nothing leans on -/
structure TbI (K : Frag) (F0 H0 : Hp) (D : Addr) (as : List Addr) (F H : Hp) (rows : List (List PyData)) : Prop where
  s : Same F0 F
  b : Bs F H
  k : Kp H0 H
  nw : ∀ a, F a ≠ none → F0 a ≠ none ∨ H0 a = none
  d : H D = some (.lst (as.map V.ref))
  fD : F D = none
  hD : H0 D = none
  nd : as.Nodup
  nin : D ∉ as
  len : as.length = rows.length
  rw : ∀ (j : Nat) (a : Addr), as[j]? = some a → F a = none ∧ H0 a = none ∧ ∃ vs ds, H a = some (.lst vs) ∧ rows[j]? = some ds ∧ DpAll K F vs ds
section
variable {K : Frag} {F0 H0 F H F' H' : Hp} {D : Addr} {as : List Addr} {rows : List (List PyData)}
theorem TbI.laid (I : TbI K F0 H0 D as F H rows) {p : Addr} {xs : List V} (hp : H p = none) : TbI K F0 H0 D as (upd F p (.tup xs)) (upd H p (.tup xs)) rows ∧ Same F (upd F p (.tup xs)) := by
  have hF : F p = none := I.b.sub.free hp
  have sF : Same F (upd F p (.tup xs)) := fun b u e => by rw [upd_ne (ne_of_none e hF)]; exact e
  have hDp : D ≠ p := ne_of_none I.d hp
  refine ⟨⟨I.s.trans sF, ⟨fun b u e => ?_, I.b.nf.upd .tup, tabs_grow I.b.tab hp⟩, I.k.trans (Kp.of fun b u e => by rw [upd_ne (ne_of_none e hp)]; exact e), fun a ha => ?_, by rw [upd_ne hDp]; exact I.d, by rw [upd_ne hDp]; exact I.fD, I.hD, I.nd, I.nin, I.len, fun j a ha => ?_⟩, sF⟩
  · by_cases hb : b = p
    · subst hb; rw [upd_same] at e ⊢; exact e
    · rw [upd_ne hb] at e ⊢; exact I.b.sub b u e
  · by_cases hb : a = p
    · subst hb; exact .inr (I.k.h0 hp)
    · rw [upd_ne hb] at ha; exact I.nw a ha
  · obtain ⟨h1, h2, vs, ds, h3, h4, h5⟩ := I.rw j a ha
    have : a ≠ p := ne_of_none h3 hp
    exact ⟨by rw [upd_ne this]; exact h1, h2, vs, ds, by rw [upd_ne this]; exact h3, h4, h5.up sF⟩
theorem TbI.call (I : TbI K F0 H0 D as F H rows) (s : Same F F') (b : Bs F' H') (k : Kp H H') (n : ∀ a, F' a ≠ none → F a ≠ none ∨ H a = none) : TbI K F0 H0 D as F' H' rows := by
  have nF : ∀ a ys, F a = none → H a = some (.lst ys) → F' a = none := fun a ys h1 h2 => by
    cases e : F' a with
    | none => rfl
    | some o =>
      rcases n a (by rw [e]; simp) with z | z
      · exact absurd h1 z
      · rw [h2] at z; cases z
  refine ⟨I.s.trans s, b, I.k.trans k, fun a ha => ?_, k.keep D _ (fun _ z => by cases z) I.d, nF D _ I.fD I.d, I.hD, I.nd, I.nin, I.len, fun j a ha => ?_⟩
  · rcases n a ha with z | z
    · exact I.nw a z
    · exact .inr (I.k.h0 z)
  · obtain ⟨h1, h2, vs, ds, h3, h4, h5⟩ := I.rw j a ha
    exact ⟨nF a _ h1 h3, h2, vs, ds, k.keep a _ (fun _ z => by cases z) h3, h4, h5.up s⟩
theorem TbI.put (I : TbI K F0 H0 D as F H rows) {i j : Nat} {a : Addr} {vs : List V} {v : V} {d : PyData} (hi : as[i]? = some a) (hv : H a = some (.lst vs)) (hd : Dp K F v d) : TbI K F0 H0 D as F (upd H a (.lst (vs.set j v))) (setAt rows i j d) := by
  obtain ⟨h1, h2, vs', ds, h3, h4, h5⟩ := I.rw i a hi
  rw [hv] at h3
  cases h3
  have hDa : D ≠ a := fun z => I.nin (by rw [z]; exact List.mem_of_getElem? hi)
  refine ⟨I.s, ⟨fun b u e => ?_, I.b.nf, tabs_wr I.b.tab hv⟩, ⟨fun b u n e => ?_, fun b hb => ?_⟩, I.nw, by rw [upd_ne hDa]; exact I.d, I.fD, I.hD, I.nd, I.nin, by unfold setAt; rw [List.length_set]; exact I.len, fun m c hm => ?_⟩
  · have ne : b ≠ a := fun z => by rw [z, h1] at e; cases e
    rw [upd_ne ne]; exact I.b.sub b u e
  · have ne : b ≠ a := fun z => by rw [z, h2] at e; cases e
    rw [upd_ne ne]; exact I.k.keep b u n e
  · have ne : b ≠ a := fun z => hb (by rw [z]; exact h2)
    rw [upd_ne ne]; exact I.k.dom b hb
  · by_cases hma : m = i
    · subst hma
      rw [hi] at hm
      cases hm
      have hr : rows.getD m [] = ds := by rw [List.getD_eq_getElem?_getD, h4]; rfl
      have hlt : m < rows.length := (List.getElem?_eq_some_iff.mp h4).1
      exact ⟨h1, h2, _, ds.set j d, upd_same, by unfold setAt; rw [hr, List.getElem?_set_self hlt], DpAll.set hd j h5⟩
    · obtain ⟨g1, g2, ws, es, g3, g4, g5⟩ := I.rw m c hm
      have ne : c ≠ a := fun z => by subst z; exact hma (nodup_get I.nd hm hi)
      exact ⟨g1, g2, ws, es, by rw [upd_ne ne]; exact g3, by unfold setAt; rw [List.getElem?_set_ne (fun z => hma z.symm)]; exact g4, g5⟩
theorem TbI.junk (I : TbI K F0 H0 D as F H rows) {p : Addr} {xs : List V} (hp : H p = none) : TbI K F0 H0 D as F (upd H p (.lst xs)) rows := by
  have hDp : D ≠ p := ne_of_none I.d hp
  refine ⟨I.s, ⟨fun b u e => ?_, I.b.nf, tabs_grow I.b.tab hp⟩, I.k.trans (Kp.of fun b u e => by rw [upd_ne (ne_of_none e hp)]; exact e), I.nw, by rw [upd_ne hDp]; exact I.d, I.fD, I.hD, I.nd, I.nin, I.len, fun j a ha => ?_⟩
  · have := I.b.sub b u e
    rw [upd_ne (ne_of_none this hp)]; exact this
  · obtain ⟨h1, h2, vs, ds, h3, h4, h5⟩ := I.rw j a ha
    have : a ≠ p := ne_of_none h3 hp
    exact ⟨h1, h2, vs, ds, by rw [upd_ne this]; exact h3, h4, h5⟩
theorem TbI.add (I : TbI K F0 H0 D as F H rows) {q : Addr} {vs : List V} {ds : List PyData} (hq : H q = none) (hv : DpAll K F vs ds) : TbI K F0 H0 D (as ++ [q]) F (upd (upd H q (.lst vs)) D (.lst (as.map V.ref ++ [V.ref q]))) (rows ++ [ds]) := by
  have I1 := I.junk (xs := vs) hq
  have hqD : q ≠ D := fun z => by rw [z, I.d] at hq; cases hq
  have hFq : F q = none := I.b.sub.free hq
  have hHq : H0 q = none := I.k.h0 hq
  have hqa : q ∉ as := fun z => by
    obtain ⟨j, hj⟩ := List.getElem?_of_mem z
    obtain ⟨_, _, vs', _, h3, _⟩ := I.rw j q hj
    rw [h3] at hq; cases hq
  refine ⟨I.s, ⟨fun b u e => ?_, I.b.nf, tabs_wr I1.b.tab I1.d⟩, ⟨fun b u n e => ?_, fun b hb => ?_⟩, I.nw, by rw [List.map_append]; exact upd_same, I.fD, I.hD, ?_, ?_, by simp [I.len], fun m c hm => ?_⟩
  · have ne : b ≠ D := fun z => by rw [z, I.fD] at e; cases e
    rw [upd_ne ne]; exact I1.b.sub b u e
  · have ne : b ≠ D := fun z => by rw [z, I.hD] at e; cases e
    rw [upd_ne ne]; exact I1.k.keep b u n e
  · have ne : b ≠ D := fun z => hb (by rw [z]; exact I.hD)
    rw [upd_ne ne]; exact I1.k.dom b hb
  · rw [List.nodup_append]
    refine ⟨I.nd, by simp, fun a ha b hb => ?_⟩
    rw [List.mem_singleton] at hb
    subst hb
    exact fun z => hqa (by rw [← z]; exact ha)
  · intro z
    rcases List.mem_append.mp z with z | z
    · exact I.nin z
    · rw [List.mem_singleton] at z
      exact hqD z.symm
  · by_cases hlt : m < as.length
    · rw [List.getElem?_append_left hlt] at hm
      obtain ⟨h1, h2, ws, es, h3, h4, h5⟩ := I.rw m c hm
      have n1 : c ≠ D := fun z => I.nin (by rw [← z]; exact List.mem_of_getElem? hm)
      have n2 : c ≠ q := fun z => hqa (by rw [← z]; exact List.mem_of_getElem? hm)
      refine ⟨h1, h2, ws, es, by rw [upd_ne n1, upd_ne n2]; exact h3, ?_, h5⟩
      rw [List.getElem?_append_left (by rw [← I.len]; exact hlt)]
      exact h4
    · have hme : m = as.length := by
        have := (List.getElem?_eq_some_iff.mp hm).1
        rw [List.length_append, List.length_singleton] at this
        omega
      subst hme
      rw [List.getElem?_append_right (Nat.le_refl _), Nat.sub_self] at hm
      cases hm
      refine ⟨hFq, hHq, vs, ds, by rw [upd_ne hqD]; exact upd_same, ?_, hv⟩
      rw [I.len, List.getElem?_append_right (Nat.le_refl _), Nat.sub_self]
      rfl
end
section
variable {K : Frag} {P : List PyData → Option PyData} {E : XK} {F0 H0 F H : Hp} {D : Addr} {as : List Addr} {rows rows' : List (List PyData)}
/-- the rows are as wide as they are many -/
def Sq (rows : List (List PyData)) (n : Nat) : Prop := rows.length = n ∧ ∀ r ∈ rows, r.length = n
theorem TbI.at (I : TbI K F0 H0 D as F H rows) {n i : Nat} (hq : Sq rows n) (hi : i < n) : ∃ a vs, as[i]? = some a ∧ (as.map V.ref)[i]? = some (.ref a) ∧ H a = some (.lst vs) ∧ vs.length = n := by
  have hl : i < as.length := by rw [I.len, hq.1]; exact hi
  have ha : as[i]? = some as[i] := List.getElem?_eq_getElem hl
  obtain ⟨_, _, vs, ds, h3, h4, h5⟩ := I.rw i _ ha
  exact ⟨_, vs, ha, by rw [List.getElem?_map, ha]; rfl, h3, by rw [h5.len]; exact hq.2 ds (List.mem_of_getElem? h4)⟩
end
end Dn
set_option Elab.async false
set_option linter.all false
set_option maxRecDepth 100000
namespace Dn
open PySem PySem.Spec PyProof.Rows L2
open PySem.W (Frag)
end Dn
set_option Elab.async false
set_option linter.all false
set_option maxRecDepth 100000
namespace Dn
open PySem PySem.Spec PyProof.Rows L2
/-- no one looks on, and no file of the run bears _pylong -/
structure SeerK (base : Heap) (P : Program) : Prop where
  ns : base.NoSeer
  tree : P.given.tree = none
section
variable [Tb]
variable {X : Cx}
/-- (a word of its own, so that simp leaves it alone) -/
def nzI (j : Int) : Bool := decide (j ≠ 0)
@[simp] noncomputable def gFdivP : PyData → PyData → Option PyData
  | .int i, .int j => if divOk j || nzI j then some (.int (i.fdiv j)) else none
  | _, _ => none
end
section
variable {K ex : PySem.W.Frag} {h : Heap}
theorem look_app : ∀ (K ex : PySem.W.Frag) (a : Addr) (o : Obj), (K ++ ex).lookup a = some o → K.lookup a = some o ∨ (K.lookup a = none ∧ (a, o) ∈ ex)
  | [], ex, a, o, e => .inr ⟨rfl, by
    induction ex with
    | nil => cases e
    | cons p ex ih =>
      obtain ⟨b, o'⟩ := p
      rw [List.nil_append, List.lookup_cons] at e
      cases hb : a == b with
      | true =>
        rw [hb] at e
        obtain rfl : a = b := beq_iff_eq.mp hb
        cases e
        exact List.mem_cons_self
      | false =>
        rw [hb] at e
        exact List.mem_cons_of_mem _ (ih e)⟩
  | (b, o') :: K, ex, a, o, e => by
    rw [List.cons_append, List.lookup_cons] at e
    rw [List.lookup_cons]
    cases hb : a == b with
    | true => rw [hb] at e; exact .inl e
    | false =>
      rw [hb] at e
      exact look_app K ex a o e
theorem look_left : ∀ (K ex : PySem.W.Frag) (a : Addr) (o : Obj), K.lookup a = some o → (K ++ ex).lookup a = some o
  | [], _, _, _, e => by cases e
  | (b, o') :: K, ex, a, o, e => by
    rw [List.cons_append, List.lookup_cons]
    rw [List.lookup_cons] at e
    cases hb : a == b with
    | true => rw [hb] at e; exact e
    | false => rw [hb] at e; exact look_left K ex a o e
theorem look_mem : ∀ (ex : PySem.W.Frag) (a : Addr) (o : Obj), (a, o) ∈ ex → ∃ o', ex.lookup a = some o'
  | [], _, _, e => by cases e
  | (b, o') :: K, a, o, e => by
    rw [List.lookup_cons]
    cases hb : a == b with
    | true => exact ⟨_, rfl⟩
    | false =>
      rcases List.mem_cons.mp e with z | z
      · cases z
        simp at hb
      · exact look_mem K a o z
theorem app_in (hK : K.In h) (hex : ∀ p ∈ ex, h.get? p.1 = some p.2) : PySem.W.Frag.In (K ++ ex) h := fun a o e => by
  rcases look_app K ex a o e with z | ⟨_, z⟩
  · exact hK a o z
  · exact hex _ z
/-- what the new part says of a heap, too -/
theorem app_ex (hK : K.In h) (hex : ∀ p ∈ ex, h.get? p.1 = some p.2) {base : Heap} (hb : PySem.W.Frag.In (K ++ ex) base) : ∀ p ∈ ex, base.get? p.1 = some p.2 := fun p hp => by
  obtain ⟨o', ho⟩ := look_mem (K ++ ex) p.1 p.2 (List.mem_append_right _ hp)
  have h1 := app_in hK hex p.1 o' ho
  have h2 := hex _ hp
  have h3 := hb p.1 o' ho
  rw [h1] at h2
  rw [h3, h2]
theorem seer_ex (N : h.NoSeer) : ∃ ex : PySem.W.Frag, (∀ p ∈ ex, h.get? p.1 = some p.2) ∧ (∀ p ∈ ex, (∃ es n, p.2.data = .dict es n) ∨ p.2.cls = .type "module") ∧ ∀ base : Heap, (∀ p ∈ ex, base.get? p.1 = some p.2) → base.NoSeer := by
  obtain ⟨mc, ⟨o2, es2, n2, g2, d2, r2⟩, c1, c2⟩ := N.statics
  obtain ⟨mm, ⟨o1, es1, n1, g1, d1, r1⟩, m1⟩ := N.mods
  obtain ⟨mb, ⟨o0, es0, n0, g0, d0, r0⟩, b1⟩ := N.imp
  obtain ⟨mg, bm, ob, ⟨o3, es3, n3, g3, d3, r3⟩, q1, q2, q3, q4⟩ := N.main
  refine ⟨[(cStatics, o2), (sysModules, o1), (builtinsNs, o0), (mainGlobals, o3), (bm, ob)], ?_, ?_, fun base hb => ?_⟩
  · intro p hp
    simp only [List.mem_cons, List.not_mem_nil, or_false] at hp
    rcases hp with rfl | rfl | rfl | rfl | rfl
    · exact g2
    · exact g1
    · exact g0
    · exact g3
    · exact q2
  · intro p hp
    simp only [List.mem_cons, List.not_mem_nil, or_false] at hp
    rcases hp with rfl | rfl | rfl | rfl | rfl
    · exact .inl ⟨_, _, d2⟩
    · exact .inl ⟨_, _, d1⟩
    · exact .inl ⟨_, _, d0⟩
    · exact .inl ⟨_, _, d3⟩
    · exact .inr q3
  · have k2 := hb (cStatics, o2) (by simp)
    have k1 := hb (sysModules, o1) (by simp)
    have k0 := hb (builtinsNs, o0) (by simp)
    have k3 := hb (mainGlobals, o3) (by simp)
    have kb := hb (bm, ob) (by simp)
    exact { statics := ⟨mc, ⟨o2, es2, n2, k2, d2, r2⟩, c1, c2⟩
            mods := ⟨mm, ⟨o1, es1, n1, k1, d1, r1⟩, m1⟩
            imp := ⟨mb, ⟨o0, es0, n0, k0, d0, r0⟩, b1⟩
            main := ⟨mg, bm, ob, ⟨o3, es3, n3, k3, d3, r3⟩, q1, kb, q3, q4⟩ }
/-- the head for a law without tables: its def, its promise over every base in which no one sees _pylong come in -/
def LawAtN (l : PySem.W.OpenLaw) (w : World) (K : PySem.W.Frag) (CX : CXT) (k n : Nat) (x : Str) (mg : Str → Option Value) (fa : Addr) (h : Heap) : Prop :=
  ∃ (fd : FuncData) (sp : Sp), (∀ (s : Shared) (u : Value), BindsTo s fd ⟨[u], []⟩ [(x, u)]) ∧
    (∀ (H : Hp) (a : Addr) (ns : List Int), ns.length ≤ n → (∀ z ∈ ns, Builtin.Int.intBits z ≤ 1048576) → SqL K H a (ns.map V.int) → sp [.ref a] H (fun v _ => v = .bl true) fun _ _ _ => False) ∧
    ∀ base : Heap, K.In base → base.Ns mainGlobals mg → base.NoSeer → FnOk l.prog w K mg base CX k fa fd [x] sp
section
variable {P : Program} {w : World} {K : PySem.W.Frag} {mg mb : Str → Option Value} {CX : CXT} {k : Nat} {fa a : Addr} {fd : FuncData} {x : Str} {sp : Sp} {s1 : Shared} {vs : List Value} {ns : List Int}
/-- the script as an object that is read only, unless it is one of the module's own -/
def scriptH (K : PySem.W.Frag) (a : Addr) (o : Obj) (ns : List Int) : Hp := fun b => if b = a ∧ K.lookup a = none then some (.frz o (.lst (ns.map V.int))) else none
theorem scriptH_at {o : Obj} {b : Addr} {u : HO} (h : scriptH K a o ns b = some u) : b = a ∧ K.lookup a = none ∧ u = .frz o (.lst (ns.map V.int)) := by
  unfold scriptH at h
  split at h
  · rename_i c
    cases h
    exact ⟨c.1, c.2, rfl⟩
  · cases h
theorem head_call (inK : K.In s1.heap) (glob : s1.heap.Ns mainGlobals mg) (blt : s1.heap.Ns builtinsNs mb) (boot : ∀ x : Str, x ≠ "__name__" → mb x = bootBuiltins x) (lim : s1.heap.NoLimit) (gens : s1.gens = #[])
    (there : s1.heap.get? a = some { cls := .type "list", data := .seq vs.toArray }) (isI : IntsAre vs ns) (few : ns.length ≤ sizeLine) (hr : Room k callerA)
    (F : ∀ base : Heap, K.In base → base.Ns mainGlobals mg → FnOk P w K mg base CX k fa fd [x] sp) (bind : ∀ (s : Shared) (u : Value), BindsTo s fd ⟨[u], []⟩ [(x, u)])
    (want : ∀ H : Hp, SqL K H a (ns.map V.int) → sp [.ref a] H (fun v _ => v = .bl true) fun _ _ _ => False) (quiet : ∀ H e s', CX [] H s1 (fun _ _ _ => False) e s' → False) :
    codeAny (model P w) callerA (.call (.ref fa) ⟨[.ref a], []⟩) (fun r s' => r = .ok (.ret (.bool true)) ∧ OldK s1.heap s'.heap ∧ s'.os = s1.os ∧ AllBare s'.gens) s1 := by
  have reads := vals_ints isI
  obtain ⟨o, ho⟩ : ∃ o : Obj, o = { cls := .type "list", data := .seq vs.toArray } := ⟨_, rfl⟩
  rw [← ho] at there
  obtain ⟨H, hH⟩ : ∃ H : Hp, H = scriptH K a o ns := ⟨_, rfl⟩
  have only : ∀ {b u}, H b = some u → b = a ∧ K.lookup a = none ∧ u = .frz o (.lst (ns.map V.int)) := fun {b u} e => scriptH_at (by rw [← hH]; exact e)
  have dark : ∀ {b ob}, s1.heap.get? b = some ob → (∀ xs m, ob.data ≠ .seq xs m) → H b = none := fun {b ob} e no => by
    cases q : H b with
    | none => rfl
    | some u =>
      obtain ⟨rfl, _, _⟩ := only q
      rw [there] at e
      cases e
      exact (no vs.toArray 0 (by rw [ho])).elim
  have names : ∀ {b : Addr} {m : Str → Option Value}, s1.heap.Ns b m → (hidT s1.heap H).Ns b m := fun {b m} ⟨ob, es, ep, e, d, r⟩ => ⟨ob, es, ep, hidT_get e (dark e fun xs n z => by rw [d] at z; cases z), d, r⟩
  have keepK : K.In (hidT s1.heap H) := fun b ob e => hidT_get (inK b ob e) (by
    cases q : H b with
    | none => rfl
    | some u =>
      obtain ⟨rfl, no, _⟩ := only q
      rw [no] at e
      cases e)
  obtain ⟨mc, l1, l2⟩ := lim
  have okH : HOk P w H s1.heap := fun b u e => by
    obtain ⟨rfl, _, rfl⟩ := only e
    exact ⟨there, by rw [List.length_map]; exact few, vs, _, reads, by rw [there, ho]⟩
  have lies : SqL K H a (ns.map V.int) := by
    cases q : K.lookup a with
    | none => exact .inl (.inr ⟨o, by rw [hH]; unfold scriptH; rw [if_pos ⟨rfl, q⟩]⟩)
    | some ob =>
      have e := inK a ob q
      rw [there] at e
      cases e
      exact .inr ⟨o, vs.toArray, 0, q, by rw [ho], by rw [ho], by rw [ho], by rw [List.size_toArray, isI.length]; exact few, reads⟩
  have env0 : Env0 P w K mg (hidT s1.heap H) callerA [] s1 H := ⟨rfl, ⟨keepK, names glob, ⟨mb, names blt, boot⟩, ⟨mc, names l1, l2⟩⟩, fun _ _ e => of_hidT e, Nat.le_of_eq (hidT_size _ _), trivial, fun _ z => (nomatch z), okH, .of_eq gens⟩
  refine codeAny_mono ((F _ keepK (names glob)).run (us := [Value.ref a]) (vs := [V.ref a]) hr env0 (bind s1 (.ref a)) (.cons rfl .nil) (want H lies)) fun r s' q => ?_
  match r, q with
  | .error e, q => exact (quiet H e s' q).elim
  | .ok .next, q => exact False.elim q
  | .ok .brk, q => exact False.elim q
  | .ok .cont, q => exact False.elim q
  | .ok (.ret u), ⟨v, H2, os, bare, un, ok2, rv, tru⟩ =>
    have e1 : v = .bl true := tru
    subst e1
    cases (show u = Value.bool true from rv)
    refine ⟨rfl, OldK.of_keep fun b ob e => ?_, os, bare⟩
    cases q : H b with
    | none => exact un.keep b ob e q (fun z => nomatch z) (fun z => nomatch z)
    | some y =>
      obtain ⟨rfl, _, rfl⟩ := only q
      have z := ok2 b _ (un.frzs b o _ q)
      rw [there] at e
      cases e
      exact z.1
end
theorem walk_ofTsN {l : PySem.W.OpenLaw} {n k : Nat} {q : Program} {loose : List Str} {XP : (Str → Option Value) → Heap → Prop} {YP : World → Heap → Prop} {d : DefRec} {K : Params → PySem.W.Frag} {CX : World → CXT} {x : Str}
    (hn : l.most = some n) (hn2 : n ≤ sizeLine) (hdf : d.params.defaults = []) (hr : Room k callerA) (hin : importsNone q = true) (hY : ∀ (w : World) (h : Heap), YP w h → (K w.params).In h)
    (F : ∀ (w : World) (mg : Str → Option Value) (fa : Addr) (h : Heap), YP w h → (K w.params).In h → h.Ns mainGlobals mg → mg d.name = some (.ref fa) → LawAtN l w (K w.params) (CX w) k n x mg fa h)
    (hCX : ∀ (w : World) (H : Hp) (s : Shared) (e : Value) (s' : Shared), CX w [] H s (fun _ _ _ => False) e s' → False) :
    PySem.W.WalkO q loose XP YP l.row.toRowW d [] (fun f vs => PySem.call f vs) := by
  refine Att.attach_callB hn hdf fun w s₀ s1 mg mb fa o pm cd doc a vs ns G Y ho hd hcd hmg hobj hints hlen hbits hg => ?_
  have KX := hY w _ Y
  obtain ⟨ex, hex, hsort, hback⟩ := seer_ex (G.T.seer hin)
  obtain ⟨fd, sp, hb, hsp, hF⟩ := F w mg fa _ Y KX G.T.g hmg
  have down : ∀ base : Heap, PySem.W.Frag.In (K w.params ++ ex) base → (K w.params).In base := fun base hb a o e => hb a o (look_left _ _ a o e)
  refine head_call (K := K w.params ++ ex) (app_in KX hex) G.T.g G.T.b G.T.builtins G.T.nolimit hg hobj hints (Nat.le_trans hlen hn2) hr (fun base hKb hns => (hF base (down base hKb) hns (hback base (app_ex KX hex hKb))).wide (down base hKb)) hb (fun H hS => hsp H a ns hlen hbits ?_) fun H e s' => hCX w H s1 e s'
  rcases hS with z | ⟨o', its, m, e, e1, e2, e3, e4, e5⟩
  · exact .inl z
  · rcases look_app _ _ _ _ e with z | ⟨_, z⟩
    · exact .inr ⟨o', its, m, z, e1, e2, e3, e4, e5⟩
    · rcases hsort _ z with ⟨es, m', q⟩ | q
      · have q' : o'.data = .dict es m' := q
        rw [q'] at e3; cases e3
      · have q' : o'.cls = .type "module" := q
        rw [q'] at e1
        exact absurd e1 (by decide)
end
end Dn
set_option Elab.async false
set_option linter.all false
set_option maxRecDepth 100000
namespace Dn
open PySem PySem.Spec PyProof.Rows L2
variable [Tb]
def sPar3 (i j l : Nat) (f : Fl) : Fs := fun env => (f env).bind fun p => match p.1 with
  | [d, e, g] => some (.nx, ((p.2.set i (.val d)).set j (.val e)).set l (.val g))
  | _ => none
def kPar3 (i j l : Nat) : List PyData × En → Option (Flw × En) := fun p => match p.1 with
  | [d, e, g] => some (.nx, ((p.2.set i (.val d)).set j (.val e)).set l (.val g))
  | _ => none
@[simp] theorem ev_Par3 {i j l : Nat} {f : Fl} {x : Sl} {e : En} : sPar3 i j l f (x :: e) = (f (x :: e)).bind (kPar3 i j l) := rfl
@[simp] theorem kPar3_e {i j l : Nat} {d d2 d3 : PyData} {e : En} : kPar3 i j l ([d, d2, d3], e) = some (.nx, ((e.set i (.val d)).set j (.val d2)).set l (.val d3)) := rfl
noncomputable def eRevL (fa : Fe) : Fe := fun env => (fa env).bind fun p => match p.1 with
  | .list ds => some (.list ds.reverse, p.2)
  | _ => none
section
variable {X : Cx} {a : Expr} {fa : Fe} {pos : Pos}
theorem de_revL {k : Nat} {p1 p2 p3 : Pos} (ha : PE X a (Ge X.K fa)) : PE X (.Subscript a (.Slice none none (some (.UnaryOp .USub (.Constant (.int 1) k p1) p2)) p3) pos) (Ge X.K (eRevL fa)) := (pe_revL ha).imp fun σ H Q h => by
  obtain ⟨c, F, env, d, env', R, e, k⟩ := h
  unfold eRevL at e
  simp only [Option.bind_eq_some_iff] at e
  obtain ⟨⟨d1, n1⟩, h1, h2⟩ := e
  dsimp only at h2
  split at h2
  · cases h2
    refine ⟨c, F, env, _, _, R, h1, fun v1 F1 H1 s1 R1 p1 => ?_⟩
    cases p1 with
    | @lst a1 xs _ hs ha =>
      refine ⟨a1, xs, rfl, R1.sub.seq hs, fun q hq => ?_⟩
      obtain ⟨sF, R4⟩ := R1.laid (o := .lst xs.reverse) hq
      exact k _ _ _ (s1.trans sF) R4 (.lst (SqL.of upd_same) ((DpAll.rev ha).up sF))
  · cases h2
end
def kRevL (p : PyData × En) : Option (PyData × En) := match p.1 with
  | .list ds => some (.list ds.reverse, p.2)
  | _ => none
@[simp] theorem ev_RevL {a : Fe} {x : Sl} {e : En} : eRevL a (x :: e) = (a (x :: e)).bind kRevL := rfl
@[simp] theorem kRevL_l {ds : List PyData} {e : En} : kRevL (.list ds, e) = some (.list ds.reverse, e) := rfl
end Dn
set_option Elab.async false
set_option linter.all false
set_option maxRecDepth 100000
namespace Dn
open PySem PySem.Spec PyProof.Rows L2
open PySem.W (Frag)
variable [Tb]
theorem hu65 {A : Around} {k : Nat} (hr : Room k A) : A.units + 65 < cLine := by have := hr.un; omega
section
variable {K : Frag}
def gNinL : PyData → PyData → Option PyData
  | d, .list ds => if SeqAt.shaped d && SeqAt.shaped (.list ds) then some (.bool (!inD ds d)) else none
  | _, _ => none
theorem o2_ninL : Op2 K (rNotInD K) gNinL := by
  intro c F σ H env x y d e z Q R hx hy h k
  unfold gNinL at h
  split at h
  · split at h
    · rename_i hs
      cases h
      rw [Bool.and_eq_true] at hs
      exact ⟨_, _, (hx.up R.sub).sh hs.1, (hy.up R.sub).sh hs.2, hs.1, hs.2, k _ F H (Same.refl F) R (.bl _)⟩
    · cases h
  · cases h
end
def leI (a b : Int) : Bool := decide (a ≤ b)
def srtI (ns : List Int) : List Int := ns.mergeSort leI
theorem leI_trans (a b c : Int) (h : leI a b = true) (h2 : leI b c = true) : leI a c = true := by
  unfold leI at *
  have := of_decide_eq_true h
  have := of_decide_eq_true h2
  exact decide_eq_true (by omega)
theorem leI_total (a b : Int) : (leI a b || leI b a) = true := by
  unfold leI
  rw [Bool.or_eq_true, decide_eq_true_eq, decide_eq_true_eq]
  omega
theorem srtI_perm (ns : List Int) : (srtI ns).Perm ns := List.mergeSort_perm ns leI
theorem srtI_pw (ns : List Int) : (srtI ns).Pairwise (· ≤ ·) := (List.pairwise_mergeSort (le := leI) leI_trans leI_total ns).imp fun h => of_decide_eq_true h
theorem srtI_uniq {ns ms : List Int} (h : ms.Perm ns) (hs : ms.Pairwise (· ≤ ·)) : ms = srtI ns :=
  (h.trans (srtI_perm ns).symm).eq_of_pairwise (fun _ _ _ _ a b => Int.le_antisymm a b) hs (srtI_pw ns)
theorem dpAll_intsV {K : Frag} {F : Hp} : ∀ ns : List Int, DpAll K F (ns.map V.int) (ns.map .int)
  | [] => .nil
  | n :: ns => .cons (.int n) (dpAll_intsV ns)
def ePop (i : Nat) : Fe := fun env => if isOwn env i then match env[i]? with
  | some (.own b ds) => (ds[ds.length - 1]?).map fun d => (d, env.set i (.own b ds.dropLast))
  | _ => none else none
theorem dpAll_at {K : Frag} {F : Hp} : ∀ {vs : List V} {ds : List PyData} {j : Nat} {d : PyData}, DpAll K F vs ds → ds[j]? = some d → ∃ v, vs[j]? = some v ∧ Dp K F v d
  | [], _, j, d, h, e => by cases h; simp at e
  | v :: vs, _, 0, d, h, e => by
    cases h with
    | cons h1 h2 => simp at e; subst e; exact ⟨v, rfl, h1⟩
  | v :: vs, _, j + 1, d, h, e => by
    cases h with
    | cons h1 h2 => simpa using dpAll_at h2 (by simpa using e)
theorem dpAll_dropLast {K : Frag} {F : Hp} : ∀ {vs : List V} {ds : List PyData}, DpAll K F vs ds → DpAll K F vs.dropLast ds.dropLast
  | _, _, .nil => .nil
  | _, _, .cons _ .nil => .nil
  | _, _, .cons h1 (.cons h2 h3) => .cons h1 (dpAll_dropLast (.cons h2 h3))
section
variable {X : Cx} {pos : Pos}
theorem de_pop (i : Nat) {x : Str} {p2 apos cpos : Pos} (hN : X.N[i]? = some x := by rfl) (hv : Vis X.env.scope x := by first | exact Or.inl rfl | exact Or.inr (Or.inl rfl) | exact Or.inr (Or.inr rfl)) (hd : (x == ("__debug__" : Str)) = false := by decide)
    (hcd : (x == ("__classdict__" : Str)) = false := by decide)
    (hbase : attributeBase (.Name x p2) "pop" X.env (eval (.Name x p2) X.env) = eval (.Name x p2) X.env := by rfl)
    (hline : (apos.endLine == cpos.line) = true := by rfl) :
    PE X (.Call (.Attribute (.Name x p2) "pop" apos) [] [] cpos) (Ge X.K (ePop i)) :=
  PE.imp (pe_bm0 PySem.F.plainAttrs_list PySem.F.slot_list_pop PySem.F.type_list_pop mt_pop (pe_var hN hv hd hcd) hbase hline) fun σ H Q ⟨c, F, env, d, env', R, e, k⟩ => by
  unfold ePop at e
  by_cases ho : isOwn env i = true
  · rw [if_pos ho] at e
    split at e
    · rename_i b ds hi
      simp only [Option.map_eq_some_iff] at e
      obtain ⟨d1, h1, h2⟩ := e
      obtain ⟨rfl, rfl⟩ := Prod.mk.inj h2
      obtain ⟨p, ys, hp, hy⟩ := own_of R ho
      refine ⟨.ref p, hp, .inl ⟨rfl, ys, SqL.of hy⟩, ?_⟩
      obtain ⟨a', xs, e1, e2, e3, e4, e5, e6, e7⟩ := R.own i b ds hi
      rw [hp] at e1
      cases e1
      obtain ⟨v, v1, v2⟩ := dpAll_at e4 h1
      refine ⟨p, xs, v, rfl, rfl, e3, by rw [e4.len]; exact v1, ?_⟩
      exact k v F _ (Same.refl F) (R.write hi hp (dpAll_dropLast e4)) v2
    · cases e
  · rw [if_neg ho] at e
    cases e
end
section
variable {e : En} {f : Fl} {x : Sl} {i : Nat}
omit [Tb]
def kPop (i : Nat) (e : En) : Option Sl → Option (PyData × En)
  | some (.own b ds) => (ds[ds.length - 1]?).map fun d => (d, e.set i (.own b ds.dropLast))
  | _ => none
@[simp] theorem ePop_k : ePop i (x :: e) = if isOwn (x :: e) i then kPop i (x :: e) ((x :: e)[i]?) else none := rfl
theorem kPop_e {b : Bool} {ds : List PyData} {d : PyData} : kPop i e (some (.own b (ds ++ [d]))) = some (d, e.set i (.own b ds)) := by
  unfold kPop
  simp
end
def tNeO (i : Nat) (fb : Fe) : Ft := fun env => if isOwn env i then (fb env).bind fun p => match p.2[i]? with
  | some (.own _ ds) => if SeqAt.shaped (.list ds) && SeqAt.shaped p.1 then some (!PyData.eqv (.list ds) p.1, p.2) else none
  | _ => none else none
section
variable {X : Cx} {b : Expr} {fb : Fe} {pos : Pos}
theorem dt_neO (i : Nat) {x : Str} {p2 : Pos} (hu : X.A.units + 64 < cLine) (hb : PE X b (Ge X.K fb)) (hN : X.N[i]? = some x := by rfl) (hv : Vis X.env.scope x := by first | exact Or.inl rfl | exact Or.inr (Or.inl rfl) | exact Or.inr (Or.inr rfl)) (hd : (x == ("__debug__" : Str)) = false := by decide)
    (hcd : (x == ("__classdict__" : Str)) = false := by decide) : PT X (.Compare (.Name x p2) [.NotEq] [b] pos) (Gt X.K (tNeO i fb)) := by
  refine PT.imp (pt_cmpR (op_neD hu) (pe_var hN hv hd hcd) hb (nomark _)) fun σ H Q ⟨c, F, env, d, env', R, e, k⟩ => ?_
  unfold tNeO at e
  by_cases ho : isOwn env i = true
  · rw [if_pos ho] at e
    simp only [Option.bind_eq_some_iff] at e
    obtain ⟨⟨d1, n1⟩, h1, h2⟩ := e
    dsimp only at h2
    split at h2
    · rename_i b' ds hi
      split at h2
      · rename_i hz
        rw [Bool.and_eq_true] at hz
        cases h2
        obtain ⟨p, ys, hp, _⟩ := own_of R ho
        refine ⟨.ref p, hp, c, F, env, d1, _, R, h1, fun v F' H' s R' hv => ?_⟩
        exact ⟨_, _, (own_dp R' hi hp).sh hz.1, (hv.up R'.sub).sh hz.2, hz.1, hz.2, _, rfl, k F' H' s R'⟩
      · cases h2
    · cases h2
  · rw [if_neg ho] at e
    cases e
end
section
variable {e : En} {fb : Fe} {x : Sl} {i : Nat} {d : PyData}
omit [Tb]
def kNe2 (d : PyData) (e : En) : Option Sl → Option (Bool × En)
  | some (.own _ ds) => if SeqAt.shaped (.list ds) && SeqAt.shaped d then some (!PyData.eqv (.list ds) d, e) else none
  | _ => none
def kNe (i : Nat) (p : PyData × En) : Option (Bool × En) := kNe2 p.1 p.2 p.2[i]?
@[simp] theorem tNeO_k : tNeO i fb (x :: e) = if isOwn (x :: e) i then (fb (x :: e)).bind (kNe i) else none := rfl
@[simp] theorem kNe_e : kNe i (d, e) = kNe2 d e e[i]? := rfl
theorem shaped_nil8 : SeqAt.shaped (.list []) = true := by decide +kernel
theorem kNe2_nil {b : Bool} {ds : List PyData} (h : SeqAt.shaped (.list ds) = true) : kNe2 (.list []) e (some (.own b ds)) = some (!ds.isEmpty, e) := by
  unfold kNe2
  simp only [h, shaped_nil8, Bool.and_self, if_true]
  cases ds <;> simp [PyData.eqv, PyData.eqvAll]
end
end Dn
set_option Elab.async false
set_option linter.all false
set_option maxRecDepth 100000
namespace Dn
open PySem PySem.Spec PyProof.Rows L2
open PySem.W (Frag)
def isLs (env : En) (i : Nat) : Bool := match env[i]? with
  | some (.own _ _) => true
  | some (.val (.list _)) => true
  | _ => false
def eIdL (i : Nat) (fa : Fe) : Fe := fun env => if isLs env i then (fa env).bind fun p => match p.2[i]? with
  | some (.own _ ds) => if SeqAt.shaped p.1 && SeqAt.shaped (.list ds) then (plD ds p.1).map fun (j : Nat) => (PyData.int (j : Int), p.2) else none
  | some (.val (.list ds)) => if SeqAt.shaped p.1 && SeqAt.shaped (.list ds) then (plD ds p.1).map fun (j : Nat) => (PyData.int (j : Int), p.2) else none
  | _ => none else none
variable [Tb]
section
variable {a : Fe} {x : Sl} {e : En} {i : Nat} {d : PyData}
def kIdL2 (d : PyData) (e : En) (s : Option Sl) : Option (PyData × En) := match s with
  | some (.own _ ds) => if SeqAt.shaped d && SeqAt.shaped (.list ds) then (plD ds d).map fun (j : Nat) => (PyData.int (j : Int), e) else none
  | some (.val (.list ds)) => if SeqAt.shaped d && SeqAt.shaped (.list ds) then (plD ds d).map fun (j : Nat) => (PyData.int (j : Int), e) else none
  | _ => none
def kIdL (i : Nat) (p : PyData × En) : Option (PyData × En) := kIdL2 p.1 p.2 p.2[i]?
def isLs2 (s : Option Sl) : Bool := match s with
  | some (.own _ _) => true
  | some (.val (.list _)) => true
  | _ => false
omit [Tb] in
@[simp] theorem isLs2_own {b : Bool} {ds : List PyData} : isLs2 (some (.own b ds)) = true := rfl
omit [Tb] in
@[simp] theorem isLs2_val {ds : List PyData} : isLs2 (some (.val (.list ds))) = true := rfl
omit [Tb] in
@[simp] theorem ev_IdL : eIdL i a (x :: e) = if isLs2 (x :: e)[i]? then (a (x :: e)).bind (kIdL i) else none := rfl
omit [Tb] in
@[simp] theorem kIdL_e : kIdL i (d, e) = kIdL2 d e e[i]? := rfl
end
end Dn
set_option Elab.async false
set_option linter.all false
set_option maxRecDepth 100000
namespace Dn
open PySem PySem.Spec PyProof.Rows L2
open PySem.W (Frag)
/-- the list of rows in slot i, the places in slots ja and jb -/
def sPutP (i ja jb : Nat) (fl : Fl) : Fs := fun env => (fl env).bind fun p => match p.2[i]?, p.2[ja]?, p.2[jb]? with
  | some (.own q ds), some (.val (.int a)), some (.val (.int b)) => if 0 ≤ a ∧ 0 ≤ b ∧ a.toNat < ds.length ∧ b.toNat < p.1.length then some (.nx, p.2.set i (.own q (ds.set a.toNat (.list (p.1.set b.toNat (.tuple [.int 0, .int 1])))))) else none
  | _, _, _ => none
variable [Tb]
section
variable {i ja jb : Nat} {fl : Fl} {x : Sl} {e : En}
def kPP (i ja jb : Nat) (p : List PyData × En) : Option (Flw × En) := match p.2[i]?, p.2[ja]?, p.2[jb]? with
  | some (.own q ds), some (.val (.int a)), some (.val (.int b)) => if 0 ≤ a ∧ 0 ≤ b ∧ a.toNat < ds.length ∧ b.toNat < p.1.length then some (.nx, p.2.set i (.own q (ds.set a.toNat (.list (p.1.set b.toNat (.tuple [.int 0, .int 1])))))) else none
  | _, _, _ => none
omit [Tb] in
@[simp] theorem ev_PutP : sPutP i ja jb fl (x :: e) = (fl (x :: e)).bind (kPP i ja jb) := rfl
end
end Dn
set_option Elab.async false
set_option linter.all false
set_option maxRecDepth 100000
namespace Dn
open PySem PySem.Spec PyProof.Rows L2
open PySem.W (Frag)
def rngD (hi lo : Int) : List PyData := (List.range (hi - lo).toNat).map fun (i : Nat) => .int (hi - i)
noncomputable def iR3 (f : Fl) : Fi := fun env => (f env).bind fun p => match p.1 with
  | [.int m, .int n, .int c] => if smallI m && smallI n && decide (c = -1) then some (rngD m n, p.2) else none
  | _ => none
variable [Tb]
noncomputable def kR3 (p : List PyData × En) : Option (List PyData × En) := match p.1 with
  | [.int m, .int n, .int c] => if smallI m && smallI n && decide (c = -1) then some (rngD m n, p.2) else none
  | _ => none
@[simp] theorem ev_R3 {l : Fl} {x : Sl} {e : En} : iR3 l (x :: e) = (l (x :: e)).bind kR3 := (rfl)
end Dn
set_option Elab.async false
set_option linter.all false
set_option maxRecDepth 100000
namespace Dn
open PySem PySem.Spec PyProof.Rows L2
open PySem.W (Frag)
end Dn
set_option Elab.async false
set_option linter.all false
set_option maxRecDepth 100000
namespace Dn
open PySem PySem.Spec PyProof.Rows L2
end Dn
set_option Elab.async false
set_option linter.all false
set_option maxRecDepth 100000
namespace Dn
open PySem PySem.Spec PyProof.Rows L2
open PySem.W (Frag)
end Dn
set_option Elab.async false
set_option linter.all false
set_option maxRecDepth 100000
namespace Dn
open PySem PySem.Spec PyProof.Rows L2
end Dn
set_option Elab.async false
set_option linter.all false
set_option maxRecDepth 100000
set_option maxHeartbeats 1000000
namespace Dn
open PySem PySem.Spec PyProof.Rows L2
open PySem.W (Frag)
variable [Tb]
@[simp] def keyOf : PyData → Option Key
  | .int i => some (.inl i)
  | .str s => some (.inr s)
  | _ => none
omit [Tb] in
theorem keyOf_kD (k : Key) : keyOf (kD k) = some k := by cases k <;> rfl
abbrev Kds := List (Key × PyData)
def getY (kd : Kds) (k : Key) : Option PyData := (kd.find? fun p => decide (p.1 = k)).map (·.2)
def putY (kd : Kds) (k : Key) (d : PyData) : Kds := if (kd.any fun p => decide (p.1 = k)) = true then kd.map (fun p => if p.1 = k then (p.1, d) else p) else kd ++ [(k, d)]
def kvD (kd : Kds) : List (PyData × PyData) := kd.map fun p => (kD p.1, p.2)
def dictD (kd : Kds) : PyData := .dict (kvD kd)
/-- the keys and values of a dict as data -/
def kdsOf : List (PyData × PyData) → Option Kds
  | [] => some []
  | (k, d) :: r => (keyOf k).bind fun k => (kdsOf r).map fun kd => (k, d) :: kd
def dictOf : PyData → Option Kds
  | .dict kvs => kdsOf kvs
  | _ => none
omit [Tb] in
theorem kdsOf_kvD : ∀ kd : Kds, kdsOf (kvD kd) = some kd
  | [] => rfl
  | (k, d) :: kd => by
    show (keyOf (kD k)).bind _ = _
    rw [keyOf_kD]
    show (kdsOf (kvD kd)).map _ = _
    rw [kdsOf_kvD kd]
    rfl
omit [Tb] in
@[simp] theorem dictOf_D (kd : Kds) : dictOf (dictD kd) = some kd := kdsOf_kvD kd
inductive Ky (K : Frag) (F : Hp) : List (Key × V) → Kds → Prop where
  | nil : Ky K F [] []
  | cons {k : Key} {v : V} {d : PyData} {kvs : List (Key × V)} {kd : Kds} (h : Dp K F v d) (t : Ky K F kvs kd) : Ky K F ((k, v) :: kvs) ((k, d) :: kd)
section
variable {K : Frag} {F F' : Hp} {kvs : List (Key × V)} {kd : Kds}
theorem Ky.up (s : Same F F') (h : Ky K F kvs kd) : Ky K F' kvs kd := by
  induction h with
  | nil => exact .nil
  | cons h _ ih => exact .cons (h.up s) ih
theorem Ky.len (h : Ky K F kvs kd) : kvs.length = kd.length := by
  induction h with
  | nil => rfl
  | cons _ _ ih => simp [ih]
theorem Ky.val (k : Key) (h : Ky K F kvs kd) : (getY kd k = none ∧ valV kvs k = none) ∨ ∃ v d, getY kd k = some d ∧ valV kvs k = some v ∧ Dp K F v d := by
  induction h with
  | nil => exact .inl ⟨rfl, rfl⟩
  | @cons k' v d kvs kd h t ih =>
    by_cases e : k' = k
    · subst e
      exact .inr ⟨v, d, by simp [getY], valV_pos rfl, h⟩
    · have e1 : getY ((k', d) :: kd) k = getY kd k := by simp [getY, List.find?_cons, e]
      have e2 : valV ((k', v) :: kvs) k = valV kvs k := valV_neg e
      rw [e1, e2]
      exact ih
theorem Ky.any (k : Key) (h : Ky K F kvs kd) : (kvs.any fun kv => decide (kv.1 = k)) = kd.any fun p => decide (p.1 = k) := by
  induction h with
  | nil => rfl
  | cons h _ ih => simp only [List.any_cons, ih]
theorem Ky.put {k : Key} {v : V} {d : PyData} (h : Ky K F kvs kd) (hv : Dp K F v d) : Ky K F (putK kvs k v) (putY kd k d) := by
  unfold putK putY
  rw [h.any k]
  split
  · rename_i hany
    clear hany
    induction h with
    | nil => exact .nil
    | @cons k' v' d' kvs kd h t ih =>
      rw [List.map_cons, List.map_cons]
      by_cases e : k' = k
      · subst e
        rw [if_pos rfl, if_pos rfl]
        exact .cons hv ih
      · rw [if_neg e, if_neg e]
        exact .cons h ih
  · rename_i hany
    clear hany
    induction h with
    | nil => exact .cons hv .nil
    | cons h t ih => exact .cons h ih
end
def RD (K : Frag) (c : C3) (F : Hp) (σ : L2.St) (H : Hp) (env : En) (i : Nat) (kd : Kds) : Prop :=
  ∃ D kvs, Rl K (wat c D (.dK kvs)) F σ H env ∧ σ[i]? = some (some (.ref D)) ∧ Ky K F kvs kd ∧ F D = none ∧ c.H0 D = none ∧ c.G D = none ∧ c.F0 D = none ∧ NoT c.G
abbrev FeD := En → Kds → Option (PyData × En)
abbrev FlD := En → Kds → Option (List PyData × En)
abbrev FtD := En → Kds → Option (Bool × En)
abbrev FsD := En → Kds → Option (Flw × En × Kds)
def FinD (K : Frag) (c : C3) (F : Hp) (fl : Flw) (env : En) (i : Nat) (kd : Kds) (D : Ends) : Prop := match fl with
  | .nx => ∀ σ F' H, Same F F' → RD K c F' σ H env i kd → D.nx σ H
  | .bk => ∀ σ F' H, Same F F' → RD K c F' σ H env i kd → D.bk σ H
  | .ct => ∀ σ F' H, Same F F' → RD K c F' σ H env i kd → D.ct σ H
  | _ => False
theorem FinD.up {K : Frag} {c : C3} {F F' : Hp} {fl : Flw} {env : En} {i : Nat} {kd : Kds} {D : Ends} (h : FinD K c F fl env i kd D) (s : Same F F') : FinD K c F' fl env i kd D := by
  cases fl with
  | nx => exact fun σ G H s' R => h σ G H (s.trans s') R
  | bk => exact fun σ G H s' R => h σ G H (s.trans s') R
  | ct => exact fun σ G H s' R => h σ G H (s.trans s') R
  | _ => exact h
def eL (f : Fe) : FeD := fun env _ => f env
def tL (f : Ft) : FtD := fun env _ => f env
def lL (f : Fl) : FlD := fun env _ => f env
section
variable {X : Cx} {i : Nat} {a b e f' : Expr} {es : List Expr} {f fk fd : Fe} {g : FeD} {fl : Fl} {gl : FlD} {ft : Ft} {pos : Pos}
def lConsD (f : FeD) (g : FlD) : FlD := fun env kd => (f env kd).bind fun p => (g p.2 kd).map fun q => (p.1 :: q.1, q.2)
def eAD (g : List PyData → Option PyData) (a : FlD) : FeD := fun env kd => (a env kd).bind fun p => (g p.1).map fun z => (z, p.2)
variable {fa : Addr} {fdd : FuncData} {ps : List Str} {n kk : Nat} {q : List PyData → Option PyData} {x : Str} {p : Pos}
/-- made.get(k, d) -/
def eGet2D (fk fd : Fe) : FeD := fun env kd => (fk env).bind fun p => (keyOf p.1).bind fun k => (fd p.2).map fun q => ((getY kd k).getD q.1, q.2)
/-- made[k] -/
def eIxD (fk : Fe) : FeD := fun env kd => (fk env).bind fun p => (keyOf p.1).bind fun k => (getY kd k).map fun d => (d, p.2)
end
def dSet (e : FeD) (g : Tg) : FsD := fun env kd => (e env kd).bind fun p => (g p.1 p.2).map fun z => (.nx, z, kd)
def dPut (fk : Fe) (fv : FeD) : FsD := fun env kd => (fv env kd).bind fun p => (fk p.2).bind fun q => (keyOf q.1).bind fun k => if okN kd.length then some (.nx, q.2, putY kd k p.1) else none
def forD (g : Tg) (b : FsD) : List PyData → En → Kds → Option (Flw × En × Kds)
  | [], env, kd => some (.nx, env, kd)
  | d :: ds, env, kd => (g d env).bind fun e1 => (b e1 kd).bind fun p => match p.1 with
    | .nx => forD g b ds p.2.1 p.2.2
    | .ct => forD g b ds p.2.1 p.2.2
    | .bk => some (.nx, p.2.1, p.2.2)
    | _ => none
def dFor (it : Fi) (g : Tg) (b : FsD) : FsD := fun env kd => (it env).bind fun p => forD g b p.1 p.2 kd
def rEnd (i : Nat) (g : Fs) : En → Kds → Option (Flw × En) := fun env kd => g (env.set i (.val (dictD kd)))
def sNewD (i : Nat) (r : En → Kds → Option (Flw × En)) : Fs := fun env => r (env.set i .no) []
section
variable {X : Cx} {xc : XC} {i : Nat} {e : Expr} {f : Fe} {rest : List Stmt} {r : En → Kds → Option (Flw × En)} {pos : Pos}
def sNewD' (i : Nat) (r : En → Kds → Option (Flw × En)) : Fs := fun env => if i < env.length then sNewD i r env else none
def sCpyD' (i : Nat) (f : Fl) (r : En → Kds → Option (Flw × En)) : Fs := fun env => if i < env.length then (f env).bind fun p => match p.1 with
  | [d] => (dictOf d).bind fun kd => r (p.2.set i .no) kd
  | _ => none else none
end
end Dn
set_option Elab.async false
set_option linter.all false
set_option maxRecDepth 100000
set_option maxHeartbeats 1000000
namespace Dn
open PySem PySem.Spec PyProof.Rows L2
open PySem.W (Frag)
variable [Tb]
def keysD (kd : Kds) : List PyData := kd.map fun p => kD p.1
def eGet (fa fk fd : Fe) : Fe := fun env => (fa env).bind fun p => (fk p.2).bind fun q => (fd q.2).bind fun r => (dictOf p.1).bind fun kd => (keyOf q.1).map fun ky => ((getY kd ky).getD r.1, r.2)
def iDk (f : Fe) : Fi := fun env => (f env).bind fun p => (dictOf p.1).map fun kd => (keysD kd, p.2)
section
variable {a b : Fe} {f g : FsD} {fa fb : FeD} {la : FlD} {ta : FtD} {x : Sl} {e : En} {d d' : PyData} {kd : Kds} {i : Nat} {ky : Key} {r : En → Kds → Option (Flw × En)} {gs : Fs}
@[simp] theorem eL_k : eL a e kd = a e := rfl
@[simp] theorem tL_k {t : Ft} : tL t e kd = t e := rfl
@[simp] theorem lL_k {l : Fl} : lL l e kd = l e := rfl
def kConsD (la : FlD) (kd : Kds) (p : PyData × En) : Option (List PyData × En) := (la p.2 kd).map (kCons2 p.1)
@[simp] theorem lConsD_k : lConsD fa la e kd = (fa e kd).bind (kConsD la kd) := rfl
@[simp] theorem kConsD_k : kConsD la kd (d, e) = (la e kd).map (kCons2 d) := rfl
@[simp] theorem eAD_k {q : List PyData → Option PyData} : eAD q la e kd = (la e kd).bind (kEA q) := rfl
def kGet3 (kd : Kds) (ky : Key) (p : PyData × En) : PyData × En := ((getY kd ky).getD p.1, p.2)
def kGet2 (b : Fe) (kd : Kds) (e : En) (ky : Key) : Option (PyData × En) := (b e).map (kGet3 kd ky)
def kGet1 (b : Fe) (kd : Kds) (p : PyData × En) : Option (PyData × En) := (keyOf p.1).bind (kGet2 b kd p.2)
@[simp] theorem eGet2D_k : eGet2D a b e kd = (a e).bind (kGet1 b kd) := rfl
@[simp] theorem kGet1_k : kGet1 b kd (d, e) = (keyOf d).bind (kGet2 b kd e) := rfl
@[simp] theorem kGet2_k : kGet2 b kd e ky = (b e).map (kGet3 kd ky) := rfl
@[simp] theorem kGet3_k : kGet3 kd ky (d, e) = ((getY kd ky).getD d, e) := rfl
def kIxD2 (kd : Kds) (e : En) (ky : Key) : Option (PyData × En) := (getY kd ky).map (kP e)
def kIxD1 (kd : Kds) (p : PyData × En) : Option (PyData × En) := (keyOf p.1).bind (kIxD2 kd p.2)
@[simp] theorem eIxD_k : eIxD a e kd = (a e).bind (kIxD1 kd) := rfl
@[simp] theorem kIxD1_k : kIxD1 kd (d, e) = (keyOf d).bind (kIxD2 kd e) := rfl
@[simp] theorem kIxD2_k : kIxD2 kd e ky = (getY kd ky).map (kP e) := rfl
def kNxD (kd : Kds) (e : En) : Flw × En × Kds := (.nx, e, kd)
@[simp] theorem kNxD_k : kNxD kd e = (.nx, e, kd) := rfl
def kSetD (tg : Tg) (kd : Kds) (p : PyData × En) : Option (Flw × En × Kds) := (tg p.1 p.2).map (kNxD kd)
@[simp] theorem dSet_k {tg : Tg} : dSet fa tg e kd = (fa e kd).bind (kSetD tg kd) := rfl
@[simp] theorem kSetD_k {tg : Tg} : kSetD tg kd (d, e) = (tg d e).map (kNxD kd) := rfl
def kPutC (kd : Kds) (d : PyData) (e : En) (ky : Key) : Option (Flw × En × Kds) := if okN kd.length then some (.nx, e, putY kd ky d) else none
def kPutB (kd : Kds) (d : PyData) (p : PyData × En) : Option (Flw × En × Kds) := (keyOf p.1).bind (kPutC kd d p.2)
def kPutA (a : Fe) (kd : Kds) (p : PyData × En) : Option (Flw × En × Kds) := (a p.2).bind (kPutB kd p.1)
@[simp] theorem dPut_k : dPut a fa e kd = (fa e kd).bind (kPutA a kd) := rfl
@[simp] theorem kPutA_k : kPutA a kd (d, e) = (a e).bind (kPutB kd d) := rfl
@[simp] theorem kPutB_k : kPutB kd d (d', e) = (keyOf d').bind (kPutC kd d e) := rfl
def kForD (tg : Tg) (f : FsD) (kd : Kds) (p : List PyData × En) : Option (Flw × En × Kds) := forD tg f p.1 p.2 kd
@[simp] theorem dFor_k {it : Fi} {tg : Tg} : dFor it tg f e kd = (it e).bind (kForD tg f kd) := rfl
@[simp] theorem kForD_k {tg : Tg} {ds : List PyData} : kForD tg f kd (ds, e) = forD tg f ds e kd := rfl
@[simp] theorem rEnd_k : rEnd i gs e kd = gs (e.set i (.val (dictD kd))) := rfl
@[simp] theorem sNewD_k : sNewD' i r (x :: e) = if i < (x :: e).length then r ((x :: e).set i .no) [] else none := rfl
def kCpy (i : Nat) (r : En → Kds → Option (Flw × En)) (p : List PyData × En) : Option (Flw × En) := match p.1 with
  | [d] => (dictOf d).bind fun kd => r (p.2.set i .no) kd
  | _ => none
def kCpy2 (i : Nat) (r : En → Kds → Option (Flw × En)) (e : En) (kd : Kds) : Option (Flw × En) := r (e.set i .no) kd
@[simp] theorem sCpyD_k {l : Fl} : sCpyD' i l r (x :: e) = if i < (x :: e).length then (l (x :: e)).bind (kCpy i r) else none := rfl
@[simp] theorem kCpy_k : kCpy i r ([d], e) = (dictOf d).bind (kCpy2 i r e) := rfl
@[simp] theorem kCpy2_k : kCpy2 i r e kd = r (e.set i .no) kd := rfl
def kGd3 (d k : PyData) (p : PyData × En) : Option (PyData × En) := (dictOf d).bind fun kd => (keyOf k).map fun ky => ((getY kd ky).getD p.1, p.2)
def kGd2 (b : Fe) (d : PyData) (p : PyData × En) : Option (PyData × En) := (b p.2).bind (kGd3 d p.1)
def kGd1 (a b : Fe) (p : PyData × En) : Option (PyData × En) := (a p.2).bind (kGd2 b p.1)
@[simp] theorem eGet_k {c : Fe} : eGet c a b (x :: e) = (c (x :: e)).bind (kGd1 a b) := rfl
@[simp] theorem kGd1_k : kGd1 a b (d, e) = (a e).bind (kGd2 b d) := rfl
@[simp] theorem kGd2_k : kGd2 b d (d', e) = (b e).bind (kGd3 d d') := rfl
def kDk (p : PyData × En) : Option (List PyData × En) := (dictOf p.1).map fun kd => (keysD kd, p.2)
@[simp] theorem iDk_k : iDk a (x :: e) = (a (x :: e)).bind kDk := rfl
@[simp] theorem kDk_k : kDk (dictD kd, e) = some (keysD kd, e) := by
  unfold kDk
  rw [dictOf_D]
  rfl
end
end Dn
set_option Elab.async false
set_option linter.all false
set_option maxRecDepth 100000
set_option maxHeartbeats 1000000
namespace Dn
open PySem PySem.Spec PyProof.Rows L2
open PySem.W (Frag)
variable [Tb]
/-- what was watched is left behind -/
theorem Rl.leaveW {K : Frag} {c : C3} {F H : Hp} {σ : L2.St} {env : En} {q : Addr} {xs : List V} (R : Rl K (wat c q (.lst xs)) F σ H env) (hG : c.G q = none) (hF0 : c.F0 q = none) (hH0 : c.H0 q = none) (hng : NoT c.G) : F q = none ∧ Rl K c F σ (fun b => if b = q then none else H b) env := by
  have hq := R.watched
  have hF : F q = none := by
    cases e : F q with
    | none => rfl
    | some o =>
      rcases R.new q (by rw [e]; simp) with z | z
      · exact absurd hF0 z
      · have z' : upd c.H0 q (HO.lst xs) q = none := z
        rw [upd_same] at z'
        cases z'
  refine ⟨hF, ⟨fun b u e => ?_, R.f0, fun b u e => ?_, fun b u e => ?_, fun b hb => ?_, fun b hb => ?_, R.len, R.val, fun j p ds h => ?_, tabs_but R.tab hq fun b hb => if_neg hb, R.nf, hng⟩⟩
  · have ne : b ≠ q := fun z => by rw [z, hF] at e; cases e
    rw [if_neg ne]; exact R.sub b u e
  · have ne : b ≠ q := fun z => by rw [z, hG] at e; cases e
    rw [if_neg ne]
    refine R.gd b u ?_
    show upd c.G q (.lst xs) b = some u
    rw [upd_ne ne]; exact e
  · have ne : b ≠ q := fun z => by rw [z, hG] at e; cases e
    have : upd c.H0 q (.lst xs) b = some u := R.g0 b u (by show upd c.G q (.lst xs) b = some u; rw [upd_ne ne]; exact e)
    rw [upd_ne ne] at this
    exact this
  · have ne : b ≠ q := fun z => hb (by rw [z]; exact hF)
    rcases R.new b hb with z | z
    · exact .inl z
    · have z' : upd c.H0 q (HO.lst xs) b = none := z
      rw [upd_ne ne] at z'
      exact .inr z'
  · have ne : b ≠ q := fun z => hb (by rw [z]; exact hH0)
    rw [if_neg ne]
    refine R.dom b fun z => hb ?_
    have z' : upd c.H0 q (HO.lst xs) b = none := z
    rw [upd_ne ne] at z'
    exact z'
  · obtain ⟨a, ys, e1, e2, e3, e4, e5, e6, e7⟩ := R.own j p ds h
    have ne : a ≠ q := fun z => by
      have e5' : upd c.G q (HO.lst xs) a = none := e5
      rw [z, upd_same] at e5'
      cases e5'
    have e5' : upd c.G q (HO.lst xs) a = none := e5
    rw [upd_ne ne] at e5'
    refine ⟨a, ys, e1, e2, by rw [if_neg ne]; exact e3, e4, e5', ?_, e7⟩
    cases p with
    | true => exact e6
    | false =>
      have e6' : upd c.H0 q (HO.lst xs) a = none := e6
      rw [upd_ne ne] at e6'
      exact e6'
def eMF2 (g : List PyData → List PyData → Option (PyData × List PyData)) (fl la : Fl) : Fe := fun env => (fl env).bind fun p => (la p.2).bind fun r => (g p.1 r.1).map fun q => (q.1, r.2)
section
variable {X : Cx} {a e : Expr} {es : List Expr} {fl la : Fl} {f : Addr} {fd : FuncData} {ps : List Str} {n k : Nat} {gM : List PyData → List PyData → Option (PyData × List PyData)} {x : Str} {p pos : Pos}
theorem de_callMF2 (Fk : FnOk X.prog X.w X.K X.mg X.base CX0 k f fd ps (spM X.K n gM)) (hl : ∀ ks ds z, gM ks ds = some z → ds.length + 1 = n) (hr : Room k X.A) (hg : Gl X x) (hm : X.mg x = some (.ref f)) (hk : PySem.W.keepIn X.K (.ref f) = true) (hb : Binds X.K fd ps []) (ha : PE X a (Gf X.K fl)) (hes : PA X es (Ga X.K la))
    (hdb : (x == ("__debug__" : Str)) = false := by decide) (he : starEach (a :: es) X.env = (false, eval a X.env) :: starEach es X.env := by rfl) (hpl : (backTo pos (starEach es X.env)).any (·.1) = false := by rfl) :
    PE X (.Call (.Name x p) (a :: es) [] pos) (Ge X.K (eMF2 gM fl la)) := PE.imp (pe_call Fk hr hg hm hk hb .nil pass0 (pa_cons ha hes he) hdb he hpl) fun σ H Q ⟨c, F, env, d, env', R, e, k⟩ => by
  unfold eMF2 at e
  simp only [Option.bind_eq_some_iff, Option.map_eq_some_iff] at e
  obtain ⟨⟨d1, n1⟩, h1, ⟨d2, n2⟩, h2, ⟨z, ks'⟩, h3, h4⟩ := e
  obtain ⟨rfl, rfl⟩ := Prod.mk.inj h4
  refine ⟨c, F, env, d1, n1, R, h1, fun q xs F1 H1 s1 hq R1 hx => ?_⟩
  have R1w := R1.watch' (o := .lst xs) hq
  refine ⟨_, F1, n1, d2, n2, R1w, h2, fun ws F2 H2 s2 R2 hw => ?_⟩
  obtain ⟨hF2, R3⟩ := R2.leaveW (R1.gn hq) (R1.f0.free (R1.sub.free hq)) (R1.h0 hq) R1.ng
  show spM X.K n gM ((.ref q :: ws) ++ []) H2 Q E0
  rw [List.append_nil]
  refine ⟨F2, q, ws, xs, d1, d2, ks', z, rfl, by rw [List.length_cons, hw.len]; exact hl d1 d2 _ h3, R2.base, hF2, R2.watched, hx.up s2, hw, h3, fun v F' H' xs' a1 a2 a3 a4 a5 a6 hv => ?_⟩
  have R4 : Rl X.K c F' σ H' n2 := by
    refine R3.after a1 a2 ⟨fun b o n e => ?_, fun b hb => ?_⟩ fun b hb => ?_
    · have ne : b ≠ q := fun z => by rw [if_pos z] at e; cases e
      rw [if_neg ne] at e
      exact a3.keep b o n ne e
    · have ne : b ≠ q := fun z => hb (if_pos z)
      rw [if_neg ne] at hb
      exact a3.dom b hb
    · rcases a4 b hb with z | z
      · exact .inl z
      · refine .inr ?_
        by_cases e : b = q
        · exact if_pos e
        · rw [if_neg e]; exact z
  exact k v F' H' ((s1.trans s2).trans a1) R4 hv
end
def kMFb (g : List PyData → List PyData → Option (PyData × List PyData)) (ds : List PyData) (p : List PyData × En) : Option (PyData × En) := (g ds p.1).map (kMF2 p.2)
def kMFa (g : List PyData → List PyData → Option (PyData × List PyData)) (la : Fl) (p : List PyData × En) : Option (PyData × En) := (la p.2).bind (kMFb g p.1)
section
variable {g : List PyData → List PyData → Option (PyData × List PyData)} {fl la : Fl} {x : Sl} {e : En} {ds es : List PyData}
@[simp] theorem ev_MF2 : eMF2 g fl la (x :: e) = (fl (x :: e)).bind (kMFa g la) := rfl
@[simp] theorem kMFa_e : kMFa g la (ds, e) = (la e).bind (kMFb g ds) := rfl
@[simp] theorem kMFb_e : kMFb g ds (es, e) = (g ds es).map (kMF2 e) := rfl
end
end Dn
set_option Elab.async false
set_option linter.all false
set_option maxRecDepth 100000
set_option maxHeartbeats 1000000
namespace Dn
open PySem PySem.Spec PyProof.Rows L2
open PySem.W (Frag kdx_alive)
/-- a zip whatever its tuple -/
abbrev ZipRec (h : Heap) (z TI TO : Addr) (f0 : Value) (f : Bool) : Prop :=
  h.get? z = some { cls := .type "zip", dict := none, data := .fields #[f0, .bool f, .bool false, .ref TI, .ref TO], slots := #[] }
section
variable {prog : Program} {w : World} {A : Around} {E : Value → Shared → Prop} {s : Shared}
theorem alive_none {a : Addr} {Q : Option Obj → Shared → Prop} (ho : s.heap.get? a = none) (h : Q none s) : wpAny (model prog w) A (loadIfAlive a) Q E s := by
  have h' : Q (s.heap.get? a) s := by rw [ho]; exact h
  exact fun _ _ _ => h'
theorem zip_free_dead {z TI TO T : Addr} {f : Bool} {Q : Bool → Shared → Prop} (hz : ZipRec s.heap z TI TO (rawInt T) f) (hT : s.heap.get? T = none) (h : Q true s) : wpAny (model prog w) A (Builtin.SmallTypes.ownedTupleIsFree (.ref z)) Q E s := by
  unfold Builtin.SmallTypes.ownedTupleIsFree
  refine wpAny_bind (wpAny_field hz rfl (x := rawInt T) rfl ?_)
  show wpAny _ _ (loadIfAlive ((T : Int).toNat) >>= _) _ _ _
  rw [Int.toNat_natCast]
  refine wpAny_bind (alive_none hT ?_)
  simp only [Option.isNone_none, if_true]
  exact wpAny_pure h
theorem zip_next_item_dead {z TI TO i1 i2 l1 l2 T : Addr} {f : Bool} {k1 k2 : Nat} {xs ys : Array Value} {x y a b : Value} {Q : Value → Shared → Prop} (D : ZipApart z TI TO i1 i2 l1 l2)
    (hz : ZipRec s.heap z TI TO (rawInt T) f) (hT : s.heap.get? T = none) (hTI : IsPair s.heap TI (.ref i1) (.ref i2)) (hTO : IsPair s.heap TO a b)
    (h1 : s.heap.IsListIter i1 l1 k1) (h2 : s.heap.IsListIter i2 l2 k2) (hl1 : s.heap.IsList l1 xs) (hl2 : s.heap.IsList l2 ys) (hx : xs[k1]? = some x) (hy : ys[k2]? = some y)
    (hQ : ∀ h', IsZip h' z TI TO (rawInt s.heap.objs.size) → IsPair h' TO x y → h'.IsListIter i1 l1 (k1 + 1) → h'.IsListIter i2 l2 (k2 + 1) → IsPair h' s.heap.objs.size x y → h'.objs.size = s.heap.objs.size + 1 →
      (∀ c o, c ≠ z → c ≠ TO → c ≠ i1 → c ≠ i2 → s.heap.get? c = some o → h'.get? c = some o) → Q (.ref s.heap.objs.size) { s with heap := h' }) :
    wpAny (model prog w) A (Builtin.«zip.__next__» ⟨[.ref z], []⟩) (fun fin s' => ∃ v, fin = .done (.ret v) ∧ Q v s') E s := by
  show wpAny _ _ (field (.ref z) 2 >>= _) _ _ _
  refine wpAny_bind (wpAny_field hz rfl (x := .bool false) rfl ?_)
  show wpAny _ _ (field (.ref z) 3 >>= _) _ _ _
  refine wpAny_bind (wpAny_field hz rfl (x := .ref TI) rfl ?_)
  refine wpAny_bind (wpAny_seqItems hTI rfl ?_)
  show wpAny _ _ (Builtin.SmallTypes.ownedTupleIsFree (.ref z) >>= _) _ _ _
  refine wpAny_bind (zip_free_dead hz hT ?_)
  simp only [if_true]
  refine wpAny_bind (wpAny_rule ?_)
  refine wpAny_bind (wpAny_field hz rfl (x := .ref TO) rfl ?_)
  refine wpAny_bind (wpAny_setField_rec hz (by simp) fun h₁ hz₁ hs₁ => ?_)
  replace hz₁ : ZipRec h₁ z TI TO .ellipsis f := hz₁
  refine wpAny_bind ?_
  simp only [List.zipIdx_cons, List.zipIdx_nil, List.forIn_cons, List.forIn_nil]
  refine wpAny_bind (wpAny_bind (wpAny_onRaise ?_))
  show wpAny _ _ (Builtin.SmallTypes.nextOf (.ref i1) >>= _) _ _ _
  refine wpAny_bind (wpAny_nextOf_list_item (h1.extBut hs₁.extBut D.i1z) (hl1.extBut hs₁.extBut D.l1z) hx fun h₂ h1₂ hs₂ => wpAny_pure ?_)
  have hTO₂ : IsPair h₂ TO a b := hs₂.extBut _ _ D.TOi1 (hs₁.extBut _ _ D.TOz hTO)
  refine wpAny_bind (wpAny_seqItems hTO₂ rfl ?_)
  refine wpAny_bind (wpAny_updateSeq_pair hTO₂ fun h₃ hTO₃ hs₃ => ?_)
  replace hTO₃ : IsPair h₃ TO x b := hTO₃
  refine wpAny_bind (wpAny_letGo (wpAny_pure ?_))
  refine wpAny_bind (wpAny_bind (wpAny_onRaise ?_))
  show wpAny _ _ (Builtin.SmallTypes.nextOf (.ref i2) >>= _) _ _ _
  refine wpAny_bind (wpAny_nextOf_list_item (((h2.extBut hs₁.extBut D.i2z).extBut hs₂.extBut D.i12.symm).extBut hs₃.extBut D.TOi2.symm)
    (((hl2.extBut hs₁.extBut D.l2z).extBut hs₂.extBut D.l2i1).extBut hs₃.extBut D.l2TO) hy fun h₄ h2₄ hs₄ => wpAny_pure ?_)
  have hTO₄ : IsPair h₄ TO x b := hs₄.extBut _ _ D.TOi2 hTO₃
  refine wpAny_bind (wpAny_seqItems hTO₄ rfl ?_)
  refine wpAny_bind (wpAny_updateSeq_pair hTO₄ fun h₅ hTO₅ hs₅ => ?_)
  replace hTO₅ : IsPair h₅ TO x y := hTO₅
  refine wpAny_bind (wpAny_letGo (wpAny_pure (wpAny_pure ?_)))
  refine wpAny_bind (wpAny_seqItems hTO₅ rfl ?_)
  refine wpAny_bind (wpAny_newTuple ?_)
  have hsz : h₅.objs.size = s.heap.objs.size := by rw [hs₅.1, hs₄.1, hs₃.1, hs₂.1, hs₁.1]
  have hz₅ : ZipRec h₅ z TI TO .ellipsis f := hs₅.extBut _ _ D.TOz.symm (hs₄.extBut _ _ D.i2z.symm (hs₃.extBut _ _ D.TOz.symm (hs₂.extBut _ _ D.i1z.symm hz₁)))
  have hk₅ : ∀ c o, c ≠ z → c ≠ TO → c ≠ i1 → c ≠ i2 → s.heap.get? c = some o → h₅.get? c = some o := fun c o c1 c2 c3 c4 e =>
    hs₅.extBut _ _ c2 (hs₄.extBut _ _ c4 (hs₃.extBut _ _ c2 (hs₂.extBut _ _ c3 (hs₁.extBut _ _ c1 e))))
  have h1₅ : h₅.IsListIter i1 l1 (k1 + 1) := ((h1₂.extBut hs₃.extBut D.TOi1.symm).extBut hs₄.extBut D.i12).extBut hs₅.extBut D.TOi1.symm
  have h2₅ : h₅.IsListIter i2 l2 (k2 + 1) := h2₄.extBut hs₅.extBut D.TOi2.symm
  have hzlt : z < h₅.objs.size := Heap.lt_size hz₅
  show wpAny _ _ (Builtin.SmallTypes.ownedTupleHandOut (.ref z) (.ref h₅.objs.size) >>= _) _ _ _
  refine wpAny_bind ?_
  unfold Builtin.SmallTypes.ownedTupleHandOut
  have hz₆ : ZipRec (h₅.push { cls := .type "tuple", data := .seq #[x, y] }) z TI TO .ellipsis f := Heap.get?_push_of_some _ hz₅
  refine wpAny_bind (wpAny_setField_rec hz₆ (by simp) fun h₇ hz₇ hs₇ => ?_)
  replace hz₇ : ZipRec h₇ z TI TO (rawInt h₅.objs.size) f := hz₇
  refine wpAny_setField_rec hz₇ (by simp) fun h₈ hz₈ hs₈ => ?_
  replace hz₈ : IsZip h₈ z TI TO (rawInt h₅.objs.size) := hz₈
  have upp : ∀ c o, c ≠ z → h₅.get? c = some o → h₈.get? c = some o := fun c o c1 e => hs₈.extBut _ _ c1 (hs₇.extBut _ _ c1 (Heap.get?_push_of_some _ e))
  have hT₈ : IsPair h₈ h₅.objs.size x y := hs₈.extBut _ _ (Nat.ne_of_gt hzlt) (hs₇.extBut _ _ (Nat.ne_of_gt hzlt) (Heap.get?_push_size _ rfl))
  have hz8 : h₈.objs.size = h₅.objs.size + 1 := by rw [hs₈.1, hs₇.1, Heap.size_push]
  rw [hsz] at hz₈ hT₈ hz8
  refine wpAny_pure ⟨_, rfl, ?_⟩
  show Q (.ref h₅.objs.size) _
  rw [hsz]
  exact hQ h₈ hz₈ (upp _ _ D.TOz hTO₅) (h1₅.at fun o e => upp _ o D.i1z e) (h2₅.at fun o e => upp _ o D.i2z e) hT₈ hz8 fun c o c1 c2 c3 c4 e => upp c o c1 (hk₅ c o c1 c2 c3 c4 e)
theorem zip_next_end_dead {z TI TO i1 i2 l1 l2 T : Addr} {f : Bool} {k1 k2 : Nat} {xs ys : Array Value} {a b : Value} {Q : PySem.Fin → Shared → Prop} (hh : A.handled = none) (D : ZipApart z TI TO i1 i2 l1 l2)
    (hz : ZipRec s.heap z TI TO (rawInt T) f) (hT : s.heap.get? T = none) (hTI : IsPair s.heap TI (.ref i1) (.ref i2)) (hTO : IsPair s.heap TO a b)
    (h1 : s.heap.IsListIter i1 l1 k1) (h2 : s.heap.IsListIter i2 l2 k2) (hl1 : s.heap.IsList l1 xs) (hl2 : s.heap.IsList l2 ys) (hend : xs[k1]? = none ∨ ys[k2]? = none)
    (hE : ∀ h' e, (∀ c o, c ≠ z → c ≠ TO → c ≠ i1 → c ≠ i2 → s.heap.get? c = some o → h'.get? c = some o) → (∃ o, h'.get? e = some o ∧ o.cls = .type "StopIteration") → E (.ref e) { s with heap := h' }) :
    wpAny (model prog w) A (Builtin.«zip.__next__» ⟨[.ref z], []⟩) Q E s := by
  show wpAny _ _ (field (.ref z) 2 >>= _) _ _ _
  refine wpAny_bind (wpAny_field hz rfl (x := .bool false) rfl ?_)
  show wpAny _ _ (field (.ref z) 3 >>= _) _ _ _
  refine wpAny_bind (wpAny_field hz rfl (x := .ref TI) rfl ?_)
  refine wpAny_bind (wpAny_seqItems hTI rfl ?_)
  show wpAny _ _ (Builtin.SmallTypes.ownedTupleIsFree (.ref z) >>= _) _ _ _
  refine wpAny_bind (zip_free_dead hz hT ?_)
  simp only [if_true]
  refine wpAny_bind (wpAny_rule ?_)
  refine wpAny_bind (wpAny_field hz rfl (x := .ref TO) rfl ?_)
  refine wpAny_bind (wpAny_setField_rec hz (by simp) fun h₁ hz₁ hs₁ => ?_)
  replace hz₁ : ZipRec h₁ z TI TO .ellipsis f := hz₁
  refine wpAny_bind ?_
  simp only [List.zipIdx_cons, List.zipIdx_nil, List.forIn_cons, List.forIn_nil]
  refine wpAny_bind (wpAny_bind (wpAny_onRaise ?_))
  show wpAny _ _ (Builtin.SmallTypes.nextOf (.ref i1) >>= _) _ _ _
  cases hx : xs[k1]? with
  | none =>
    refine wpAny_bind (wpAny_nextOf_list_end hh (h1.extBut hs₁.extBut D.i1z) (hl1.extBut hs₁.extBut D.l1z) hx fun h₂ e hs₂ he => ?_)
    obtain ⟨oe, hoe, hce⟩ := he
    have hz₂ : ZipRec h₂ z TI TO .ellipsis f := hs₂ _ _ D.i1z.symm hz₁
    have hez : e ≠ z := fun x => by subst x; rw [hz₂] at hoe; cases hoe; simp at hce
    refine wpAny_setField_rec hz₂ (by simp) fun h₃ _ hs₃ => hE h₃ e (fun c o c1 _ c3 _ x => hs₃.extBut _ _ c1 (hs₂ _ _ c3 (hs₁.extBut _ _ c1 x))) ⟨oe, hs₃.extBut _ _ hez hoe, hce⟩
  | some x =>
    have hy : ys[k2]? = none := by rcases hend with h | h; rw [hx] at h; cases h; exact h
    refine wpAny_bind (wpAny_nextOf_list_item (h1.extBut hs₁.extBut D.i1z) (hl1.extBut hs₁.extBut D.l1z) hx fun h₂ h1₂ hs₂ => wpAny_pure ?_)
    have hTO₂ : IsPair h₂ TO a b := hs₂.extBut _ _ D.TOi1 (hs₁.extBut _ _ D.TOz hTO)
    refine wpAny_bind (wpAny_seqItems hTO₂ rfl ?_)
    refine wpAny_bind (wpAny_updateSeq_pair hTO₂ fun h₃ hTO₃ hs₃ => ?_)
    refine wpAny_bind (wpAny_letGo (wpAny_pure ?_))
    refine wpAny_bind (wpAny_bind (wpAny_onRaise ?_))
    show wpAny _ _ (Builtin.SmallTypes.nextOf (.ref i2) >>= _) _ _ _
    refine wpAny_bind (wpAny_nextOf_list_end hh (((h2.extBut hs₁.extBut D.i2z).extBut hs₂.extBut D.i12.symm).extBut hs₃.extBut D.TOi2.symm)
      (((hl2.extBut hs₁.extBut D.l2z).extBut hs₂.extBut D.l2i1).extBut hs₃.extBut D.l2TO) hy fun h₄ e hs₄ he => ?_)
    obtain ⟨oe, hoe, hce⟩ := he
    have hz₄ : ZipRec h₄ z TI TO .ellipsis f := hs₄ _ _ D.i2z.symm (hs₃.extBut _ _ D.TOz.symm (hs₂.extBut _ _ D.i1z.symm hz₁))
    have hez : e ≠ z := fun x => by subst x; rw [hz₄] at hoe; cases hoe; simp at hce
    refine wpAny_setField_rec hz₄ (by simp) fun h₅ _ hs₅ => hE h₅ e (fun c o c1 c2 c3 c4 x => hs₅.extBut _ _ c1 (hs₄ _ _ c4 (hs₃.extBut _ _ c2 (hs₂.extBut _ _ c3 (hs₁.extBut _ _ c1 x))))) ⟨oe, hs₅.extBut _ _ hez hoe, hce⟩
/-- a zip of two lists at turn i, whatever its tuple -/
def ZipSt (h : Heap) (z TI TO i1 i2 l1 l2 : Addr) (i : Nat) : Prop :=
  (IsZip h z TI TO .none ∨ ∃ (T : Addr) (f : Bool), ZipRec h z TI TO (rawInt T) f) ∧ IsPair h TI (.ref i1) (.ref i2) ∧ (∃ x y, IsPair h TO x y) ∧ h.IsListIter i1 l1 i ∧ h.IsListIter i2 l2 i
theorem ZipSt.typeIs {z TI TO i1 i2 l1 l2 : Addr} {i : Nat} (st : ZipSt s.heap z TI TO i1 i2 l1 l2 i) : s.TypeIs (.ref z) "zip" := by
  rcases st.1 with h | ⟨T, f, h⟩
  · exact ⟨_, h, rfl⟩
  · exact ⟨_, h, rfl⟩
theorem ZipSt.frame {z TI TO i1 i2 l1 l2 : Addr} {i : Nat} {h h' : Heap} (st : ZipSt h z TI TO i1 i2 l1 l2 i) (k : ∀ b, b = z ∨ b = TI ∨ b = TO ∨ b = i1 ∨ b = i2 → ∀ o, h.get? b = some o → h'.get? b = some o) : ZipSt h' z TI TO i1 i2 l1 l2 i := by
  obtain ⟨h0, hTI, ⟨x, y, hTO⟩, h1, h2⟩ := st
  refine ⟨?_, k TI (.inr (.inl rfl)) _ hTI, ⟨x, y, k TO (.inr (.inr (.inl rfl))) _ hTO⟩, h1.at fun o q => k i1 (.inr (.inr (.inr (.inl rfl)))) o q, h2.at fun o q => k i2 (.inr (.inr (.inr (.inr rfl)))) o q⟩
  rcases h0 with h0 | ⟨T, f, h0⟩
  · exact .inl (k z (.inl rfl) _ h0)
  · exact .inr ⟨T, f, k z (.inl rfl) _ h0⟩
theorem nextOf_zip_item {z TI TO i1 i2 l1 l2 : Addr} {i : Nat} {xs ys : Array Value} {x y : Value} {Q : Value → Shared → Prop} (D : ZipApart z TI TO i1 i2 l1 l2) (st : ZipSt s.heap z TI TO i1 i2 l1 l2 i)
    (hl1 : s.heap.IsList l1 xs) (hl2 : s.heap.IsList l2 ys) (hx : xs[i]? = some x) (hy : ys[i]? = some y)
    (hQ : ∀ h', ZipSt h' z TI TO i1 i2 l1 l2 (i + 1) → IsPair h' s.heap.objs.size x y → h'.objs.size = s.heap.objs.size + 1 →
      (∀ c o, c ≠ z → c ≠ TO → c ≠ i1 → c ≠ i2 → s.heap.get? c = some o → h'.get? c = some o) → Q (.ref s.heap.objs.size) { s with heap := h' }) :
    wpAny (model prog w) A (Builtin.SmallTypes.nextOf (.ref z)) Q E s := by
  have hT := st.typeIs
  obtain ⟨h0, hTI, ⟨a, b, hTO⟩, h1, h2⟩ := st
  unfold Builtin.SmallTypes.nextOf
  refine wpAny_bind (wpAny_callSpecial?_slot (name := Str.ofString "__next__") hT F.slot_zip_next (wpAny_call_entry F.slot_zip_next hT F.entry_zip_next ?_ (F.args_zip_next_1 _)))
  rcases h0 with h0 | ⟨T, f, h0⟩
  · exact zip_next_item D h0 hTI hTO h1 h2 hl1 hl2 hx hy fun h' a1 a2 a3 a4 a5 a6 a7 => wpAny_pure (hQ h' ⟨.inr ⟨_, _, a1⟩, a7 _ _ D.TIz D.TITO D.TIi1 D.TIi2 hTI, ⟨_, _, a2⟩, a3, a4⟩ a5 a6 a7)
  · cases hg : s.heap.get? T with
    | none => exact zip_next_item_dead D h0 hg hTI hTO h1 h2 hl1 hl2 hx hy fun h' a1 a2 a3 a4 a5 a6 a7 => wpAny_pure (hQ h' ⟨.inr ⟨_, _, a1⟩, a7 _ _ D.TIz D.TITO D.TIi1 D.TIi2 hTI, ⟨_, _, a2⟩, a3, a4⟩ a5 a6 a7)
    | some oT => exact zip_next_item_held D h0 hg hTI h1 h2 hl1 hl2 hx hy fun h' a1 a3 a4 a5 a6 a7 => wpAny_pure (hQ h' ⟨.inr ⟨_, _, a1⟩, a7 _ _ D.TIz D.TIi1 D.TIi2 hTI, ⟨_, _, a7 _ _ D.TOz D.TOi1 D.TOi2 hTO⟩, a3, a4⟩ a5 a6 fun c o c1 c2 c3 c4 e => a7 c o c1 c3 c4 e)
theorem nextOf_zip_end {z TI TO i1 i2 l1 l2 : Addr} {i : Nat} {xs ys : Array Value} {Q : Value → Shared → Prop} (hh : A.handled = none) (D : ZipApart z TI TO i1 i2 l1 l2) (st : ZipSt s.heap z TI TO i1 i2 l1 l2 i)
    (hl1 : s.heap.IsList l1 xs) (hl2 : s.heap.IsList l2 ys) (hend : xs[i]? = none ∨ ys[i]? = none)
    (hE : ∀ h' e, (∀ c o, c ≠ z → c ≠ TO → c ≠ i1 → c ≠ i2 → s.heap.get? c = some o → h'.get? c = some o) → (∃ o, h'.get? e = some o ∧ o.cls = .type "StopIteration") → E (.ref e) { s with heap := h' }) :
    wpAny (model prog w) A (Builtin.SmallTypes.nextOf (.ref z)) Q E s := by
  have hT := st.typeIs
  obtain ⟨h0, hTI, ⟨a, b, hTO⟩, h1, h2⟩ := st
  unfold Builtin.SmallTypes.nextOf
  refine wpAny_bind (wpAny_callSpecial?_slot (name := Str.ofString "__next__") hT F.slot_zip_next (wpAny_call_entry F.slot_zip_next hT F.entry_zip_next ?_ (F.args_zip_next_1 _)))
  rcases h0 with h0 | ⟨T, f, h0⟩
  · exact zip_next_end hh D h0 hTI hTO h1 h2 hl1 hl2 hend hE
  · cases hg : s.heap.get? T with
    | none => exact zip_next_end_dead hh D h0 hg hTI hTO h1 h2 hl1 hl2 hend hE
    | some oT => exact zip_next_end_held hh D h0 hg hTI h1 h2 hl1 hl2 hend fun h' e k he => hE h' e (fun c o c1 c2 c3 c4 q => k c o c1 c3 c4 q) he
structure EnumApart (e z TI TO i1 i2 : Addr) : Prop where
  ez : e ≠ z
  eTI : e ≠ TI
  eTO : e ≠ TO
  ei1 : e ≠ i1
  ei2 : e ≠ i2
theorem enumzip_next_item {e z TI TO i1 i2 l1 l2 : Addr} {i : Nat} {xs ys : Array Value} {x y old : Value} {Q : Value → Shared → Prop} (D : ZipApart z TI TO i1 i2 l1 l2) (Ea : EnumApart e z TI TO i1 i2)
    (he : IsEnum s.heap e z i old) (st : ZipSt s.heap z TI TO i1 i2 l1 l2 i) (hl1 : s.heap.IsList l1 xs) (hl2 : s.heap.IsList l2 ys) (hx : xs[i]? = some x) (hy : ys[i]? = some y)
    (hQ : ∀ h' tk, IsEnumOut h' e z ((i : Int) + 1) (.ref s.heap.objs.size) (s.heap.objs.size + 1) → ZipSt h' z TI TO i1 i2 l1 l2 (i + 1) → IsPair h' s.heap.objs.size x y →
      IsPair h' (s.heap.objs.size + 1) (.int i tk) (.ref s.heap.objs.size) →
      (∀ b o, b ≠ e → b ≠ z → b ≠ TO → b ≠ i1 → b ≠ i2 → s.heap.get? b = some o → h'.get? b = some o) → Q (.ref (s.heap.objs.size + 1)) { s with heap := h', toks := tk + 1 }) :
    wpAny (model prog w) A (Builtin.«enumerate.__next__» ⟨[.ref e], []⟩) (fun fin s' => ∃ v, fin = .done (.ret v) ∧ Q v s') E s := by
  obtain ⟨hp, g, d, tk, os⟩ := s
  show wpAny _ _ (field (.ref e) 2 >>= _) _ _ _
  refine wpAny_bind (wpAny_field he rfl (x := .ref z) rfl ?_)
  refine wpAny_bind (nextOf_zip_item D st hl1 hl2 hx hy fun h₁ st₁ hP₁ hz₁ hk₁ => ?_)
  replace hP₁ : IsPair h₁ hp.objs.size x y := hP₁
  replace hz₁ : h₁.objs.size = hp.objs.size + 1 := hz₁
  replace hk₁ : ∀ c o, c ≠ z → c ≠ TO → c ≠ i1 → c ≠ i2 → hp.get? c = some o → h₁.get? c = some o := hk₁
  have he₁ : IsEnum h₁ e z i old := hk₁ _ _ Ea.ez Ea.eTO Ea.ei1 Ea.ei2 he
  show wpAny _ _ (field (.ref e) 3 >>= _) _ _ ⟨h₁, g, d, tk, os⟩
  refine wpAny_bind (wpAny_field he₁ rfl (x := rawInt i) rfl ?_)
  show wpAny _ _ (field (.ref e) 4 >>= _) _ _ ⟨h₁, g, d, tk, os⟩
  refine wpAny_bind (wpAny_field he₁ rfl (x := .none) rfl ?_)
  show wpAny _ _ (mkInt i >>= _) _ _ ⟨h₁, g, d, tk, os⟩
  refine wpAny_bind (wpAny_mkInt ?_)
  show wpAny _ _ (setField (.ref e) 3 (rawInt ((i : Int) + 1)) >>= _) _ _ ⟨h₁, g, d, tk + 1, os⟩
  refine wpAny_bind (wpAny_setField_rec he₁ (by simp) fun h₂ he₂ hs₂ => ?_)
  replace hs₂ : Heap.SameBut e h₁ h₂ := hs₂
  replace he₂ : IsEnum h₂ e z ((i : Int) + 1) old := he₂
  show wpAny _ _ (setField (.ref e) 4 .none >>= _) _ _ ⟨h₂, g, d, tk + 1, os⟩
  refine wpAny_bind (wpAny_setField_rec he₂ (by simp) fun h₃ he₃ hs₃ => ?_)
  replace hs₃ : Heap.SameBut e h₂ h₃ := hs₃
  replace he₃ : IsEnum h₃ e z ((i : Int) + 1) old := he₃
  show wpAny _ _ (newTuple [.int i tk, .ref hp.objs.size] >>= _) _ _ ⟨h₃, g, d, tk + 1, os⟩
  refine wpAny_bind (wpAny_newTuple ?_)
  have he₄ : IsEnum (h₃.push { cls := .type "tuple", data := .seq #[.int i tk, .ref hp.objs.size] }) e z ((i : Int) + 1) old := Heap.get?_push_of_some _ he₃
  generalize hh₄ : h₃.push { cls := .type "tuple", data := .seq #[.int i tk, .ref hp.objs.size] } = h₄ at he₄
  have hsz : h₃.objs.size = hp.objs.size + 1 := by rw [hs₃.1, hs₂.1, hz₁]
  have hel : e < hp.objs.size := Heap.lt_size he
  have nT : hp.objs.size + 1 ≠ e := Nat.ne_of_gt (Nat.lt_succ_of_lt hel)
  have nP : hp.objs.size ≠ e := Nat.ne_of_gt hel
  have k₄ : ∀ b o, b ≠ e → h₁.get? b = some o → h₄.get? b = some o := fun b o hbe hb => by
    rw [← hh₄]; exact Heap.get?_push_of_some _ (hs₃.extBut b o hbe (hs₂.extBut b o hbe hb))
  have ht₄ : IsPair h₄ (hp.objs.size + 1) (.int i tk) (.ref hp.objs.size) := by rw [← hh₄, ← hsz]; exact Heap.get?_push_size _ rfl
  show wpAny _ _ (Builtin.SmallTypes.ownedTupleIsFree (.ref e) >>= _) _ _ ⟨h₄, g, d, tk + 1, os⟩
  rw [hsz]
  clear hh₄ he₃ hs₃ he₂ hs₂ hsz h₃ h₂
  refine wpAny_bind ?_
  · unfold Builtin.SmallTypes.ownedTupleIsFree
    refine wpAny_bind (wpAny_field he₄ rfl (x := .none) rfl (wpAny_pure ?_))
    simp only [if_true]
    refine wpAny_bind (wpAny_rule ?_)
    refine wpAny_bind (wpAny_field he₄ rfl (x := old) rfl ?_)
    refine wpAny_bind (wpAny_setField_rec he₄ (by simp) fun h₅ he₅ hs₅ => ?_)
    replace hs₅ : Heap.SameBut e h₄ h₅ := hs₅
    replace he₅ : IsEnum h₅ e z ((i : Int) + 1) (.ref hp.objs.size) := he₅
    show wpAny _ _ (Builtin.SmallTypes.ownedTupleHandOut (.ref e) (.ref (hp.objs.size + 1)) >>= _) _ _ ⟨h₅, g, d, tk + 1, os⟩
    refine wpAny_bind ?_
    · unfold Builtin.SmallTypes.ownedTupleHandOut
      refine wpAny_bind (wpAny_setField_rec he₅ (by simp) fun h₆ he₆ hs₆ => ?_)
      replace hs₆ : Heap.SameBut e h₅ h₆ := hs₆
      replace he₆ : IsEnumOut h₆ e z ((i : Int) + 1) (.ref hp.objs.size) (hp.objs.size + 1) := he₆
      refine wpAny_setField_rec he₆ (by simp) fun h₇ he₇ hs₇ => ?_
      replace hs₇ : Heap.SameBut e h₆ h₇ := hs₇
      replace he₇ : IsEnumOut h₇ e z ((i : Int) + 1) (.ref hp.objs.size) (hp.objs.size + 1) := he₇
      have k₇ : ∀ b o, b ≠ e → h₄.get? b = some o → h₇.get? b = some o := fun b o hbe hb => hs₇.extBut b o hbe (hs₆.extBut b o hbe (hs₅.extBut b o hbe hb))
      refine wpAny_bind (wpAny_letGo (wpAny_pure ⟨_, rfl, hQ h₇ tk he₇ (st₁.frame fun b hb o q => k₇ b o ?_ (k₄ b o ?_ q)) (k₇ _ _ nP (k₄ _ _ nP hP₁)) (k₇ _ _ nT ht₄) fun b o b1 b2 b3 b4 b5 q => k₇ b o b1 (k₄ b o b1 (hk₁ b o b2 b3 b4 b5 q))⟩))
      all_goals
        rcases hb with rfl | rfl | rfl | rfl | rfl
        · exact Ea.ez.symm
        · exact Ea.eTI.symm
        · exact Ea.eTO.symm
        · exact Ea.ei1.symm
        · exact Ea.ei2.symm
theorem pyNext_enumzip_item {e z TI TO i1 i2 l1 l2 : Addr} {i : Nat} {xs ys : Array Value} {x y old : Value} {Q : Option Value → Shared → Prop} (D : ZipApart z TI TO i1 i2 l1 l2) (Ea : EnumApart e z TI TO i1 i2)
    (he : IsEnum s.heap e z i old) (st : ZipSt s.heap z TI TO i1 i2 l1 l2 i) (hl1 : s.heap.IsList l1 xs) (hl2 : s.heap.IsList l2 ys) (hx : xs[i]? = some x) (hy : ys[i]? = some y)
    (hQ : ∀ h' tk, IsEnumOut h' e z ((i : Int) + 1) (.ref s.heap.objs.size) (s.heap.objs.size + 1) → ZipSt h' z TI TO i1 i2 l1 l2 (i + 1) → IsPair h' s.heap.objs.size x y →
      IsPair h' (s.heap.objs.size + 1) (.int i tk) (.ref s.heap.objs.size) →
      (∀ b o, b ≠ e → b ≠ z → b ≠ TO → b ≠ i1 → b ≠ i2 → s.heap.get? b = some o → h'.get? b = some o) → Q (some (.ref (s.heap.objs.size + 1))) { s with heap := h', toks := tk + 1 }) :
    wpAny (model prog w) A (pyNext (.ref e)) Q E s := by
  have hT : s.TypeIs (.ref e) "enumerate" := ⟨_, he, rfl⟩
  unfold pyNext
  exact wpAny_bind (wpAny_attempt (wpAny_callSpecial?_slot (name := Str.ofString "__next__") hT F.slot_enumerate_next
    (wpAny_call_entry F.slot_enumerate_next hT F.entry_enumerate_next
      (enumzip_next_item D Ea he st hl1 hl2 hx hy fun h' tk a b c d k => wpAny_pure (hQ h' tk a b c d k)) (F.args_enumerate_next_1 _))))
theorem pyNext_enumzip_end {e z TI TO i1 i2 l1 l2 : Addr} {i : Nat} {xs ys : Array Value} {old : Value} {Q : Option Value → Shared → Prop} (hh : A.handled = none) (D : ZipApart z TI TO i1 i2 l1 l2)
    (he : IsEnum s.heap e z i old) (st : ZipSt s.heap z TI TO i1 i2 l1 l2 i) (hl1 : s.heap.IsList l1 xs) (hl2 : s.heap.IsList l2 ys) (hend : xs[i]? = none ∨ ys[i]? = none)
    (hQ : ∀ h', (∀ c o, c ≠ z → c ≠ TO → c ≠ i1 → c ≠ i2 → s.heap.get? c = some o → h'.get? c = some o) → Q none { s with heap := h' }) : wpAny (model prog w) A (pyNext (.ref e)) Q E s := by
  have hT : s.TypeIs (.ref e) "enumerate" := ⟨_, he, rfl⟩
  unfold pyNext
  refine wpAny_bind (wpAny_attempt (wpAny_callSpecial?_slot (name := Str.ofString "__next__") hT F.slot_enumerate_next
    (wpAny_call_entry F.slot_enumerate_next hT F.entry_enumerate_next ?_ (F.args_enumerate_next_1 _))))
  show wpAny _ _ (field (.ref e) 2 >>= _) _ _ _
  refine wpAny_bind (wpAny_field he rfl (x := .ref z) rfl ?_)
  refine wpAny_bind (nextOf_zip_end hh D st hl1 hl2 hend fun h' x he' hx' => ?_)
  obtain ⟨o, ho, hc⟩ := hx'
  refine wpAny_bind (wpAny_isInstance (T := "StopIteration") (b := true) ⟨o, ho, hc⟩ isSubtype_stop ?_)
  exact wpAny_pure (hQ _ he')
/-- enumerate of a zip -/
theorem meets_enumerate_zip (z TI TO : Addr) :
    Meets (Builtin.«enumerate.__new__» ⟨[.type "enumerate", .ref z], []⟩) (fun _ R s => IsZip s.heap z TI TO .none ∧
      R (.ok (.ret (.ref s.heap.objs.size)))
        { s with heap := s.heap.push { cls := .type "enumerate", data := .fields #[.none, .bool false, .ref z, rawInt 0, .none, .none] } }) :=
  .of_wp fun prog w A R s h => by
    obtain ⟨hp, g, d, tk, os⟩ := s; obtain ⟨hl, h⟩ := h
    have hsub := sub_enumerate
    wp_walk using AutoSeq1.wpAny_loadPart' hl
    refine wpAny_stack_any fun st => wpAny_pure ?_
    split
    · rename_i c _ _ _ _ _
      cases (c == Value.type "enumerate")
      · wp_walk using AutoSeq1.wpAny_loadPart' hl, wpAny_pyIter_zip hl
        exact ⟨_, rfl, h⟩
      · wp_walk using AutoSeq1.wpAny_loadPart' hl, wpAny_pyIter_zip hl
        exact ⟨_, rfl, h⟩
    · wp_walk using AutoSeq1.wpAny_loadPart' hl, wpAny_pyIter_zip hl
      exact ⟨_, rfl, h⟩
theorem call_enumerate_zip {z TI TO : Addr} {Q : Value → Shared → Prop} (hz : IsZip s.heap z TI TO .none)
    (h : IsEnum (s.heap.push { cls := .type "enumerate", data := .fields #[.none, .bool false, .ref z, rawInt 0, .none, .none] }) s.heap.objs.size z 0 .none → Q (.ref s.heap.objs.size) { s with heap := s.heap.push { cls := .type "enumerate", data := .fields #[.none, .bool false, .ref z, rawInt 0, .none, .none] } }) :
    wpAny (model prog w) A (call (.type "enumerate") [.ref z]) Q E s := by
  refine callType_new F.called_enumerate (by decide) (F.typeCall_enumerate_1 _) (F.newCall_enumerate_1 _) (fun obj => F.args_object_init_2 obj _) F.entry_enumerate_new
    (meets_enumerate_zip z TI TO) ⟨hz, ?_⟩
  have he : IsEnum (s.heap.push { cls := .type "enumerate", data := .fields #[.none, .bool false, .ref z, rawInt 0, .none, .none] }) s.heap.objs.size z 0 .none := Heap.get?_push_size _ rfl
  exact ⟨⟨_, he, rfl⟩, h he⟩
end
/-- the lists at a and b as they stand at each turn: a number and the items in a new pair -/
def Itze (K : Frag) (a b : Addr) : It :=
  ⟨fun i H => ∃ (xs ys : List V) (x y : V), SqL K H a xs ∧ SqL K H b ys ∧ xs[i]? = some x ∧ ys[i]? = some y,
    fun i H v H' => ∃ T T2 x y, v = .ref T2 ∧ H T = none ∧ H T2 = none ∧ T ≠ T2 ∧ H' = upd (upd H T (.tup [x, y])) T2 (.tup [.int (i : Nat), .ref T]) ∧ (∀ xs, SqL K H a xs → xs[i]? = some x) ∧ ∀ ys, SqL K H b ys → ys[i]? = some y,
    fun i H => ∃ xs ys : List V, SqL K H a xs ∧ SqL K H b ys ∧ (xs.length ≤ i ∨ ys.length ≤ i)⟩
theorem turn_enumzip {P : Program} {w : World} {K : Frag} {elts : List Expr} {kk : Nat} {tpos : Pos} {a b e z TI TO i1 i2 : Addr} (D : ZipApart z TI TO i1 i2 a b) (Ea : EnumApart e z TI TO i1 i2) :
    Turn P w K (.Tuple elts kk tpos) (Itze K a b) [e, z, TI, TO, i1, i2] e (fun i h => (∃ old, IsEnum h e z ((i : Nat) : Int) old) ∧ ZipSt h z TI TO i1 i2 a b i) where
  mem := by simp
  obj := fun i h st c hc => by
    obtain ⟨⟨old, he⟩, h0, hTI, ⟨x, y, hTO⟩, ⟨o1, e1, _, d1⟩, ⟨o2, e2, _, d2⟩⟩ := st
    have e' : c = e ∨ c = z ∨ c = TI ∨ c = TO ∨ c = i1 ∨ c = i2 := by simpa using hc
    rcases e' with q | q | q | q | q | q
    · rw [q]; exact ⟨_, he, fun v q => nomatch q⟩
    · rw [q]
      rcases h0 with h0 | ⟨_, _, h0⟩
      · exact ⟨_, h0, fun v q => nomatch q⟩
      · exact ⟨_, h0, fun v q => nomatch q⟩
    · rw [q]; exact ⟨_, hTI, fun v q => nomatch q⟩
    · rw [q]; exact ⟨_, hTO, fun v q => nomatch q⟩
    · rw [q]; exact ⟨o1, e1, fun v q => by rw [d1] at q; cases q⟩
    · rw [q]; exact ⟨o2, e2, fun v q => by rw [d2] at q; cases q⟩
  keep := fun i h h' st k => by
    obtain ⟨⟨old, he⟩, st⟩ := st
    refine ⟨⟨old, k e (by simp) _ he⟩, st.frame fun c hc o q => k c ?_ o q⟩
    rcases hc with q | q | q | q | q <;> simp [q]
  item := by
    intro X hP hw hK hc i pins s σ H E I hf st hg
    subst hP hw hK
    obtain ⟨⟨old, he⟩, st⟩ := st
    obtain ⟨xs, ys, x, y, hqx, hqy, hx, hy⟩ := hg
    obtain ⟨its, rv, p, _⟩ := I.list hqx
    obtain ⟨its2, rv2, p2, _⟩ := I.list hqy
    obtain ⟨u, hu, ru⟩ := rv.get hx
    obtain ⟨u2, hu2, ru2⟩ := rv2.get hy
    have hel : e < s.heap.objs.size := Heap.lt_size he
    refine pyNext_enumzip_item D Ea he st p.isList p2.isList (x := u) (y := u2) (by simpa using hu) (by simpa using hu2) fun h' tk ho st' hT hT2 hk => ?_
    refine ⟨_, rfl, wpAny_letOwnedTupleGo_enum (s := { s with heap := h', toks := tk + 1 }) ho fun h'' he'' sb => ?_⟩
    replace sb : Heap.SameBut e h' h'' := sb
    have nT : s.heap.objs.size ≠ e := Nat.ne_of_gt hel
    have nT2 : s.heap.objs.size + 1 ≠ e := Nat.ne_of_gt (Nat.lt_succ_of_lt hel)
    have gT : h''.get? s.heap.objs.size = some { cls := .type "tuple", data := .seq #[u, u2] } := (sb.2 _ nT).trans hT
    have gT2 : h''.get? (s.heap.objs.size + 1) = some { cls := .type "tuple", data := .seq #[.int i tk, .ref s.heap.objs.size] } := (sb.2 _ nT2).trans hT2
    have lt : ∀ c, c ∈ [e, z, TI, TO, i1, i2] → c < s.heap.objs.size := fun c hcm => by
      obtain ⟨_, hTI0, ⟨_, _, hTO0⟩, ⟨_, q1, _⟩, ⟨_, q2, _⟩⟩ := id st
      have e' : c = e ∨ c = z ∨ c = TI ∨ c = TO ∨ c = i1 ∨ c = i2 := by simpa using hcm
      rcases e' with q | q | q | q | q | q
      · rw [q]; exact hel
      · rw [q]
        rcases st.1 with h0 | ⟨_, _, h0⟩
        · exact Heap.lt_size h0
        · exact Heap.lt_size h0
      · rw [q]; exact Heap.lt_size hTI0
      · rw [q]; exact Heap.lt_size hTO0
      · rw [q]; exact Heap.lt_size q1
      · rw [q]; exact Heap.lt_size q2
    have n1 : H s.heap.objs.size = none := I.hok.fresh (Nat.le_refl _)
    have n2 : H (s.heap.objs.size + 1) = none := I.hok.fresh (Nat.le_succ _)
    have ne12 : s.heap.objs.size ≠ s.heap.objs.size + 1 := Nat.ne_of_lt (Nat.lt_succ_self _)
    -- first the pair of the items, on a heap that is only one pair longer
    have newA : ObjOk X.prog X.w (upd H s.heap.objs.size (.tup [x, y])) (s.heap.push { cls := .type "tuple", data := .seq #[u, u2] }) s.heap.objs.size (.tup [x, y]) :=
      ⟨by show 2 ≤ sizeLine; decide, [u, u2], .cons ru (.cons ru2 .nil), ⟨_, Heap.get?_push_size _ rfl, rfl, _, rfl⟩⟩
    have I1 : Inv X pins σ (upd H s.heap.objs.size (.tup [x, y])) { s with heap := s.heap.push { cls := .type "tuple", data := .seq #[u, u2] }, toks := s.toks } :=
      I.laid (t' := s.toks) (fun b ob q => Heap.get?_push_of_some _ q) (Nat.le_refl _) newA
    have f1 : ∀ b ∈ [e, z, TI, TO, i1, i2], FpOk X pins (upd H s.heap.objs.size (.tup [x, y])) b := fun b hb => by
      obtain ⟨q0, q1, q2, q3, q4, q5⟩ := hf b hb
      exact ⟨by rw [upd_ne (Nat.ne_of_lt (lt b hb))]; exact q0, q1, q2, q3, q4, q5⟩
    have newB : ObjOk X.prog X.w (upd (upd H s.heap.objs.size (.tup [x, y])) (s.heap.objs.size + 1) (.tup [.int (i : Nat), .ref s.heap.objs.size])) h'' (s.heap.objs.size + 1) (.tup [.int (i : Nat), .ref s.heap.objs.size]) :=
      ⟨by show 2 ≤ sizeLine; decide, [.int i tk, .ref s.heap.objs.size], .cons ⟨_, rfl⟩ (.cons rfl .nil), ⟨_, gT2, rfl, _, rfl⟩⟩
    have I2 : Inv X pins σ (upd (upd H s.heap.objs.size (.tup [x, y])) (s.heap.objs.size + 1) (.tup [.int (i : Nat), .ref s.heap.objs.size])) { s with heap := h'', toks := tk + 1 } :=
      I1.turnedNew (t' := tk + 1) (ch := [e, z, TI, TO, i1, i2]) (fun c o hb q => by
        have hc' : ∀ d, d ∈ [e, z, TI, TO, i1, i2] → c ≠ d := fun d hd q' => hb (by rw [q']; exact hd)
        refine (sb.2 c (hc' e (by simp))).trans ?_
        replace q : (s.heap.push { cls := .type "tuple", data := .seq #[u, u2] }).get? c = some o := q
        by_cases hcs : c = s.heap.objs.size
        · subst hcs
          rw [Heap.get?_push_size _ rfl] at q
          cases q
          exact hT
        · have hlt : c < (s.heap.push { cls := .type "tuple", data := .seq #[u, u2] }).objs.size := Heap.lt_size q
          rw [Heap.size_push] at hlt
          have hlt' : c < s.heap.objs.size := Nat.lt_of_le_of_ne (Nat.le_of_lt_succ hlt) hcs
          rw [Heap.get?_push_ne _ _ _ hcs] at q
          exact hk c o (hc' e (by simp)) (hc' z (by simp)) (hc' TO (by simp)) (hc' i1 (by simp)) (hc' i2 (by simp)) q) f1 (Nat.le_of_eq (Heap.size_push s.heap { cls := .type "tuple", data := .seq #[u, u2] })) newB
    refine ⟨.ref (s.heap.objs.size + 1), _, I2, rfl, ⟨_, _, x, y, rfl, n1, n2, ne12, rfl, fun l hl => by rw [I.list_inj hl hqx]; exact hx, fun l hl => by rw [I.list_inj hl hqy]; exact hy⟩, ⟨⟨.ref s.heap.objs.size, ?_⟩, st'.frame fun c hc o q => (sb.2 c ?_).trans q⟩, fun c hcm => ?_⟩
    · have e1 : ((i + 1 : Nat) : Int) = (i : Int) + 1 := by omega
      rw [e1]; exact he''
    · rcases hc with rfl | rfl | rfl | rfl | rfl
      · exact Ea.ez.symm
      · exact Ea.eTI.symm
      · exact Ea.eTO.symm
      · exact Ea.ei1.symm
      · exact Ea.ei2.symm
    · have h1 := lt c hcm
      rw [upd_ne (Nat.ne_of_lt (Nat.lt_succ_of_lt h1)), upd_ne (Nat.ne_of_lt h1)]
      exact (hf c hcm).1
  done := by
    intro X hP hw hK hc i pins s σ H E I hf st hg
    subst hP hw hK
    obtain ⟨⟨old, he⟩, st⟩ := st
    obtain ⟨xs, ys, hqx, hqy, hend⟩ := hg
    obtain ⟨its, rv, p, _⟩ := I.list hqx
    obtain ⟨its2, rv2, p2, _⟩ := I.list hqy
    have l1 := rv.length
    have l2 := rv2.length
    have he' : its.toArray[i]? = none ∨ its2.toArray[i]? = none := by
      rcases hend with q | q
      · exact .inl (by simp; omega)
      · exact .inr (by simp; omega)
    exact pyNext_enumzip_end (I.ok.hd hc) D he st p.isList p2.isList he' fun h' hk => ⟨rfl, I.turnedL (t' := s.toks) (ch := [e, z, TI, TO, i1, i2]) (fun c o hb q =>
      hk c o (fun q' => hb (by simp [q'])) (fun q' => hb (by simp [q'])) (fun q' => hb (by simp [q'])) (fun q' => hb (by simp [q'])) q) hf⟩
  self := fun A i s Q E st h => let ⟨⟨_, he⟩, _⟩ := st; wpAny_pyIter_enum he h
def iEnumZip (K : Frag) (ta : TA) : TI := fun σ H R => ta σ H fun vs H1 => ∃ a b xs ys, vs = [.ref a, .ref b] ∧ SqL K H1 a xs ∧ SqL K H1 b ys ∧ R (Itze K a b) H1
theorem pi_enumzip {X : Cx} {e e2 : Expr} {ta : TA} {p p2 zpos pos tpos : Pos} {elts : List Expr} {kk : Nat} (hg : Gl X "enumerate") (hm : X.mg "enumerate" = none) (hg2 : Gl X "zip") (hm2 : X.mg "zip" = none) (ha : PA X [e, e2] ta)
    (hs : starEach [e, e2] X.env = (false, eval e X.env) :: starEach [e2] X.env := by rfl) (hpl : (backTo zpos (starEach [e2] X.env)).any (·.1) = false := by rfl)
    (hs1 : starEach [.Call (.Name "zip" p2) [e, e2] [] zpos] X.env = (false, eval (.Call (.Name "zip" p2) [e, e2] [] zpos) X.env) :: starEach [] X.env := by rfl) :
    PI X (.Tuple elts kk tpos) (.Call (.Name "enumerate" p) [.Call (.Name "zip" p2) [e, e2] [] zpos] [] pos) (iEnumZip X.K ta) := by
  refine ⟨fun pins s σ H R I h => ?_⟩
  refine Call_ (ld_blt I hg hm boot_enumerate (PyProof.Rows.callWith_type1 ?_ hs1 rfl))
  rw [hs1]
  show wpAny _ _ (spliced ((false, eval (.Call (.Name "zip" p2) [e, e2] [] zpos) X.env) :: backTo pos (starEach [] X.env))) _ _ s
  refine Calls.spliced_cons ?_
  refine Call_ (ld_blt I hg2 hm2 PyProof.Rows.boot_zip (PyProof.Rows.callWith_type1 (thn (ha.run zpos pins s σ H _ I h) fun us s1 ⟨vs, H1, I1, r1, q1⟩ => ?_) hs hpl))
  obtain ⟨a, b, xs, ys, ex, hqx, hqy, q⟩ := q1
  subst ex
  cases r1 with
  | cons r rr =>
    cases rr with
    | cons r' rr =>
      cases rr
      cases r
      cases r'
      obtain ⟨its, rv, p1, _⟩ := I1.list hqx
      obtain ⟨its2, rv2, p2, _⟩ := I1.list hqy
      refine call_zip_2 p1.isList p2.isList fun h' hz hTI hTO h1 h2 hsz hk => ?_
      have I2 : Inv X pins σ H1 { s1 with heap := h' } := I1.kept (t' := s1.toks) hk
      refine Calls.spliced_nil ?_
      refine call_enumerate_zip (s := { s1 with heap := h' }) hz fun he => wpAny_pyIter_enum he ?_
      have kp : ∀ c o, h'.get? c = some o → (h'.push { cls := .type "enumerate", data := .fields #[.none, .bool false, .ref (s1.heap.objs.size + 4), rawInt 0, .none, .none] }).get? c = some o := fun c o q => Heap.get?_push_of_some _ q
      have I3 : Inv X pins σ H1 { s1 with heap := h'.push { cls := .type "enumerate", data := .fields #[.none, .bool false, .ref (s1.heap.objs.size + 4), rawInt 0, .none, .none] } } := I2.kept (t' := s1.toks) kp
      have ez : h'.objs.size = s1.heap.objs.size + 5 := hsz
      have fresh : ∀ c, s1.heap.objs.size ≤ c → FpOk X pins H1 c := fun c hle => I1.fpOk hle (I1.hok.fresh hle)
      have hap : EnumApart h'.objs.size (s1.heap.objs.size + 4) (s1.heap.objs.size + 2) (s1.heap.objs.size + 3) s1.heap.objs.size (s1.heap.objs.size + 1) := by
        rw [ez]
        exact ⟨Nat.ne_of_gt (Nat.lt_succ_self _), Nat.ne_of_gt (Nat.add_lt_add_left (by decide) _), Nat.ne_of_gt (Nat.add_lt_add_left (by decide) _), Nat.ne_of_gt (Nat.lt_add_of_pos_right (by decide)), Nat.ne_of_gt (Nat.add_lt_add_left (by decide) _)⟩
      refine ⟨h'.objs.size, [h'.objs.size, s1.heap.objs.size + 4, s1.heap.objs.size + 2, s1.heap.objs.size + 3, s1.heap.objs.size, s1.heap.objs.size + 1], _, _, H1, rfl, I3, turn_enumzip (PySem.W.ktu_apart s1.heap.objs.size a b p1.lt p2.lt) hap, ⟨⟨.none, he⟩, ?_⟩, fun c hcm => ?_, q⟩
      · exact ⟨.inl (kp _ _ hz), kp _ _ hTI, ⟨_, _, kp _ _ hTO⟩, h1.at fun o q => kp _ o q, h2.at fun o q => kp _ o q⟩
      · refine fresh c ?_
        have e' : c = h'.objs.size ∨ c = s1.heap.objs.size + 4 ∨ c = s1.heap.objs.size + 2 ∨ c = s1.heap.objs.size + 3 ∨ c = s1.heap.objs.size ∨ c = s1.heap.objs.size + 1 := by simpa using hcm
        rcases e' with q | q | q | q | q | q
        · rw [q, ez]; exact Nat.le_add_right _ _
        · rw [q]; exact Nat.le_add_right _ _
        · rw [q]; exact Nat.le_add_right _ _
        · rw [q]; exact Nat.le_add_right _ _
        · rw [q]; exact Nat.le_refl _
        · rw [q]; exact Nat.le_add_right _ _
variable [Tb]
def iEnZ (f : Fl) : Fi := fun env => (f env).bind fun p => match p.1 with
  | [.list xs, .list ys] => some (enumD 0 (zipD xs ys), p.2)
  | _ => none
theorem wk_enumzip {K : Frag} {F : Hp} {a b : Addr} {xs ys : List V} {ds es : List PyData} (hs : SqL K F a xs) (ha : DpAll K F xs ds) (hs2 : SqL K F b ys) (ha2 : DpAll K F ys es) : Wk K F (Itze K a b) (enumD 0 (zipD ds es)) where
  go := fun i H s h => by
    rw [enumD_len] at h
    simp only [zipD, List.length_zipWith] at h
    obtain ⟨x, hx⟩ := len_get (show i < xs.length by rw [ha.len]; omega)
    obtain ⟨y, hy⟩ := len_get (show i < ys.length by rw [ha2.len]; omega)
    exact ⟨xs, ys, x, y, s.seq hs, s.seq hs2, hx, hy⟩
  stop := fun i H s h => by
    rw [enumD_len] at h
    simp only [zipD, List.length_zipWith] at h
    have l1 := ha.len
    have l2 := ha2.len
    exact ⟨xs, ys, s.seq hs, s.seq hs2, by omega⟩
  yld := fun i H v H' d s e y => by
    obtain ⟨T, T2, x, z, h1, h2, h3, h4, h5, h6, h7⟩ := y
    rw [enumD_get, Option.map_eq_some_iff] at e
    obtain ⟨d0, hz, rfl⟩ := e
    rw [zip_get] at hz
    cases hx : ds[i]? with
    | none => rw [hx] at hz; cases hz
    | some d1 =>
      cases hy : es[i]? with
      | none => rw [hx, hy] at hz; cases hz
      | some d2 =>
        rw [hx, hy] at hz
        cases hz
        obtain ⟨u, f1, f2⟩ := ha.at hx
        obtain ⟨w, f3, f4⟩ := ha2.at hy
        have e1 := h6 xs (s.seq hs)
        rw [f1] at e1
        cases e1
        have e2 := h7 ys (s.seq hs2)
        rw [f3] at e2
        cases e2
        rw [Int.zero_add]
        exact .in3 ⟨T, T2, _, _, _, h2, h3, h4, h5, h1, rfl, .cons f2 (.cons f4 .nil)⟩
theorem di_enumzip {X : Cx} {fl : Fl} {e e2 : Expr} {p p2 zpos pos tpos : Pos} {elts : List Expr} {kk : Nat} (hg : Gl X "enumerate") (hm : X.mg "enumerate" = none) (hg2 : Gl X "zip") (hm2 : X.mg "zip" = none) (ha : PA X [e, e2] (Ga X.K fl))
    (hs : starEach [e, e2] X.env = (false, eval e X.env) :: starEach [e2] X.env := by rfl) (hpl : (backTo zpos (starEach [e2] X.env)).any (·.1) = false := by rfl)
    (hs1 : starEach [.Call (.Name "zip" p2) [e, e2] [] zpos] X.env = (false, eval (.Call (.Name "zip" p2) [e, e2] [] zpos) X.env) :: starEach [] X.env := by rfl) :
    PI X (.Tuple elts kk tpos) (.Call (.Name "enumerate" p) [.Call (.Name "zip" p2) [e, e2] [] zpos] [] pos) (tI X.K (iEnZ fl)) := PI.imp (pi_enumzip hg hm hg2 hm2 ha hs hpl hs1) fun σ H R ⟨c, F, env, ds, env', R0, e, k⟩ => by
  unfold iEnZ at e
  simp only [Option.bind_eq_some_iff] at e
  obtain ⟨⟨d1, n1⟩, h1, h2⟩ := e
  dsimp only at h2
  split at h2
  · cases h2
    refine ⟨c, F, env, _, _, R0, h1, fun v F' H' s R' hv => ?_⟩
    cases hv with
    | cons h3 h4 =>
      cases h4 with
      | cons h4 h5 =>
        cases h5
        cases h3 with
        | lst hs ha =>
          cases h4 with
          | lst hs2 ha2 => exact ⟨_, _, _, _, rfl, R'.sub.seq hs, R'.sub.seq hs2, k _ F' H' s R' (wk_enumzip hs ha hs2 ha2)⟩
  · cases h2
end Dn
set_option Elab.async false
set_option linter.all false
set_option maxRecDepth 100000
set_option maxHeartbeats 1000000
namespace Dn
open PySem PySem.Spec PyProof.Rows L2
open PySem.W (Frag)
section
variable {X : Cx}
theorem cr_rangeV : CallR X (.type "range") (fun vs H Q => ∃ j, vs = [V.int j] ∧ ∀ p, H p = none → Q (.ref p) (upd H p (.rng 0 j))) := by
  intro pins s σ H vs us Q I r h
  obtain ⟨j, rfl, q⟩ := h
  obtain ⟨u1, rfl, t, rfl⟩ := vals1 r
  refine call_range_1 ⟨.ref s.heap.objs.size, upd H s.heap.objs.size (.rng 0 j), I.laid (fun b o e => Heap.get?_push_of_some _ e) (Nat.le_refl _) ?_, rfl, q _ (I.hok.fresh (Nat.le_refl _))⟩
  exact ⟨_, _, _, Heap.get?_push_size _ rfl⟩
/-- a name that holds a range, walked -/
theorem pi_rngv {e tg : Expr} {te : TE} (he : PE X e te) : PI X tg e (fun σ H R => te σ H fun x H1 => ∃ a lo hi, x = .ref a ∧ H1 a = some (.rng lo hi) ∧ (-(2 ^ 62) ≤ lo ∧ lo < 2 ^ 62 ∧ -(2 ^ 62) ≤ hi ∧ hi < 2 ^ 62) ∧ R (Itr lo (hi - lo).toNat) H1) := by
  refine ⟨fun pins s σ H R I h => thn (he.run pins s σ H _ I h) fun u s1 ⟨x, H1, I1, rx, a, lo, hi, ex, ha, ⟨b1, b2, b3, b4⟩, q⟩ => ?_⟩
  subst ex
  obtain rfl : u = Value.ref a := rx
  obtain ⟨t, u, v, ho⟩ := I1.hok a _ ha
  refine wpAny_pyIter_range (show IsRange s1.heap a lo hi 1 t u v from ho) (small_one b1 b2 b3 b4) ?_
  refine ⟨s1.heap.objs.size, [s1.heap.objs.size], _, _, H1, rfl, I1.kept (t' := s1.toks) fun b o e => Heap.get?_push_of_some _ e, turn_range _ lo (hi - lo).toNat, ?_, fun b hb => ?_, q⟩
  · have e1 : lo + ((0 : Nat) : Int) * 1 = lo := by simp
    have e2 : (((hi - lo).toNat : Nat) : Int) - ((0 : Nat) : Int) = Builtin.Range.rangeSize lo hi 1 := by rw [rangeSize_one]; split <;> omega
    show IsRangeIter _ _ (lo + ((0 : Nat) : Int) * 1) ((((hi - lo).toNat : Nat) : Int) - ((0 : Nat) : Int)) 1
    rw [e1, e2]
    exact Heap.get?_push_size _ rfl
  · have e : b = s1.heap.objs.size := by simpa using hb
    subst e
    exact I1.fpOk (Nat.le_refl _) (I1.hok.fresh (Nat.le_refl _))
end
variable [Tb]
/-- a range as data -/
abbrev rgD (lo hi : Int) : PyData := .dict [(.none, .int lo), (.none, .int hi)]
@[simp] def gRng1 : List PyData → Option PyData
  | [.int j] => some (rgD 0 j)
  | _ => none
theorem oA_rng1 {K : Frag} : OpA K (fun vs H Q => ∃ j, vs = [V.int j] ∧ ∀ p, H p = none → Q (.ref p) (upd H p (.rng 0 j))) gRng1 := by
  intro c F σ H env xs ds z Q R hx h k
  unfold gRng1 at h
  split at h
  · cases h
    cases hx with
    | cons h1 h2 =>
      cases h2
      cases h1
      refine ⟨_, rfl, fun p hp => ?_⟩
      obtain ⟨sF, R'⟩ := R.laid (o := .rng 0 _) hp
      exact k _ _ _ sF R' (.rng upd_same)
  · cases h
theorem kv_none {K : Frag} {H : Hp} {ks : List (Key × V)} {kvs : List (PyData × PyData)} (h : DpKv K H ks kvs) (d : PyData) (r : List (PyData × PyData)) : kvs ≠ (.none, d) :: r := by
  intro e
  cases h with
  | nil => cases e
  | @cons k v ks d' kvs h1 h2 => cases k <;> simp [kD] at e
noncomputable def iRgD (f : Fe) : Fi := fun env => (f env).bind fun p => match p.1 with
  | .dict [(.none, .int lo), (.none, .int hi)] => if smallI lo && smallI hi then some (rng lo hi, p.2) else none
  | _ => none
section
variable {X : Cx} {e tg : Expr} {f fa : Fe}
theorem di_rgd (h : PE X e (Ge X.K f)) : PI X tg e (tI X.K (iRgD f)) := PI.imp (pi_rngv h) fun σ H R ⟨c, F, env, ds, env', R0, e, k⟩ => by
  unfold iRgD at e
  simp only [Option.bind_eq_some_iff] at e
  obtain ⟨⟨d1, n1⟩, h1, h2⟩ := e
  refine ⟨c, F, env, d1, n1, R0, h1, fun v F' H' s R' hv => ?_⟩
  dsimp only at h2
  split at h2
  · split at h2
    · rename_i hz
      cases h2
      simp only [Bool.and_eq_true] at hz
      obtain ⟨b1, b2⟩ := smallI_b hz.1
      obtain ⟨b3, b4⟩ := smallI_b hz.2
      cases hv with
      | rng hr => exact ⟨_, _, _, rfl, R'.sub _ _ hr, ⟨b1, b2, b3, b4⟩, k _ F' H' s R' wk_rng⟩
      | dct _ hk => exact absurd rfl (kv_none hk _ _)
    · cases h2
  · cases h2
theorem srtR_uniq {ns ms : List Int} (h : ms.Perm ns) (hs : ms.Pairwise (· ≥ ·)) : ms = (srtI ns).reverse := by
  have h1 : ms.reverse.Perm ns := (List.reverse_perm ms).trans h
  have h2 : ms.reverse.Pairwise (· ≤ ·) := by
    rw [List.pairwise_reverse]
    exact hs.imp fun h => h
  have := srtI_uniq h1 h2
  rw [← this, List.reverse_reverse]
def lSrtR (f : Fl) : Fl := fun env => (f env).bind fun p => match p.1 with
  | [.list ds] => match intsOf ds with
    | some ns => some (((srtI ns).reverse).map .int, p.2)
    | none => none
  | _ => none
theorem df_sortR {a : Expr} {fl : Fl} {tj : Nat} {pos p kpos tpos : Pos} (hg : Gl X "sorted") (hm : X.mg "sorted" = none) (ha : PA X [a] (Ga X.K fl))
    (he : backTo pos (starEach [a] X.env) = (false, eval a X.env) :: backTo pos (starEach [] X.env) := by rfl) (hpl : (backTo pos (starEach [a] X.env)).any (·.1) = false := by rfl)
    (hall : (backToKw pos (keywordEach [⟨some "reverse", .Constant (.bool true) tj tpos, kpos⟩] X.env)).all (·.1.isSome) = true := by rfl) (hnone : (backToKw pos (keywordEach [⟨some "reverse", .Constant (.bool true) tj tpos, kpos⟩] X.env)).any (·.1.isNone) = false := by rfl)
    (hks : (backToKw pos (keywordEach [⟨some "reverse", .Constant (.bool true) tj tpos, kpos⟩] X.env)).filterMap (·.1) = [Str.ofString "reverse"] := by rfl) :
    PE X (.Call (.Name "sorted" p) [a] [⟨some "reverse", .Constant (.bool true) tj tpos, kpos⟩] pos) (Gf X.K (lSrtR fl)) :=
  PE.imp (pe_callBK (ks := [Str.ofString "reverse"]) cr_sortedRev hg hm (by decide +kernel) ha (pk_cons pe_bl pk_nil) (by decide) (by decide) he hpl hall hnone hks) fun σ H Q ⟨c, F, env, ds, env', R, e, k⟩ => by
  unfold lSrtR at e
  simp only [Option.bind_eq_some_iff] at e
  obtain ⟨⟨d1, n1⟩, h1, h2⟩ := e
  dsimp only at h2
  split at h2
  · split at h2
    · rename_i xs hxs
      cases h2
      refine ⟨c, F, env, _, _, R, h1, fun vs F' H' s R' hv => ?_⟩
      cases hv with
      | cons h3 h4 =>
        cases h4
        cases h3 with
        | lst hs ha =>
          rw [intsOf_inv hxs] at ha
          have e3 := ha.ints
          subst e3
          refine ⟨_, xs, rfl, rfl, R'.sub.seq hs, fun ys p hp hsd hn => ?_⟩
          rw [srtR_uniq hp hsd]
          exact k p _ F' H' s hn R' (dpAll_intsV _)
    · cases h2
  · cases h2
def kPopAt (i : Nat) (p : PyData × En) : Option (PyData × En) := match p.1, p.2[i]? with
  | .int k, some (.own b ds) => if 0 ≤ k ∧ ds.length ≤ 1000000 then (ds[k.toNat]?).map fun d => (d, p.2.set i (.own b (ds.eraseIdx k.toNat))) else none
  | _, _ => none
def ePopAt (i : Nat) (fa : Fe) : Fe := fun env => if isOwn env i then (fa env).bind (kPopAt i) else none
omit [Tb] in
theorem kPopAt_inv {i : Nat} {d1 d : PyData} {n1 e' : En} (h : kPopAt i (d1, n1) = some (d, e')) : ∃ j b ds, d1 = .int j ∧ n1[i]? = some (.own b ds) ∧ 0 ≤ j ∧ ds.length ≤ 1000000 ∧ ds[j.toNat]? = some d ∧ e' = n1.set i (.own b (ds.eraseIdx j.toNat)) := by
  unfold kPopAt at h
  split at h
  · rename_i k b ds q1 q2
    split at h
    · rename_i hz
      simp only [Option.map_eq_some_iff] at h
      obtain ⟨d2, h3, h4⟩ := h
      obtain ⟨rfl, rfl⟩ := Prod.mk.inj h4
      exact ⟨k, b, ds, q1, q2, hz.1, hz.2, h3, rfl⟩
    · cases h
  · cases h
theorem dpAll_eraseK {K : Frag} {F : Hp} : ∀ {vs : List V} {ds : List PyData} (k : Nat), DpAll K F vs ds → DpAll K F (vs.eraseIdx k) (ds.eraseIdx k)
  | _, _, _, .nil => by simp; exact .nil
  | _, _, 0, .cons _ h2 => h2
  | _, _, k + 1, .cons h1 h2 => .cons h1 (dpAll_eraseK k h2)
theorem de_popAt (i : Nat) {a : Expr} {x : Str} {p2 apos cpos : Pos} (ha : PE X a (Ge X.K fa)) (hN : X.N[i]? = some x := by rfl) (hv : Vis X.env.scope x := by first | exact Or.inl rfl | exact Or.inr (Or.inl rfl) | exact Or.inr (Or.inr rfl)) (hd : (x == ("__debug__" : Str)) = false := by decide)
    (hcd : (x == ("__classdict__" : Str)) = false := by decide)
    (hbase : attributeBase (.Name x p2) "pop" X.env (eval (.Name x p2) X.env) = eval (.Name x p2) X.env := by rfl)
    (hfew : ((backTo cpos (starEach (a :: []) X.env)).all (fun x => !x.1) && (backToKw cpos (keywordEach [] X.env)).all (fun x => x.1.isSome)
      && decide ((a :: []).length + ([] : List Keyword).length + (if ([] : List Keyword).isEmpty then 0 else 1) < 30)) = true := by rfl)
    (hline : (apos.endLine == cpos.line) = true := by rfl) (hs2 : starEach (a :: []) X.env = (false, eval a X.env) :: starEach [] X.env := by rfl) (hplain : (backTo cpos (starEach [] X.env)).any (·.1) = false := by rfl) :
    PE X (.Call (.Attribute (.Name x p2) "pop" apos) [a] [] cpos) (Ge X.K (ePopAt i fa)) :=
  PE.imp (pe_bm PySem.F.plainAttrs_list PySem.F.slot_list_pop PySem.F.type_list_pop mt_popAt (pe_var hN hv hd hcd) (pa_cons ha pa_nil hs2) hbase hfew hline hs2 hplain) fun σ H Q ⟨c, F, env, d, env', R, e, k⟩ => by
  unfold ePopAt at e
  by_cases ho : isOwn env i = true
  · rw [if_pos ho] at e
    simp only [Option.bind_eq_some_iff] at e
    obtain ⟨⟨d1, n1⟩, h1, h2⟩ := e
    obtain ⟨j, b, ds, rfl, hi, hz, hz2, h3, rfl⟩ := kPopAt_inv h2
    obtain ⟨p, ys, hp, hy⟩ := own_of R ho
    refine ⟨.ref p, hp, .inl ⟨rfl, ys, SqL.of hy⟩, c, F, env, _, n1, R, h1, fun v F' H' s R' hv => ?_⟩
    obtain ⟨a', xs, e1, e2, e3, e4, e5, e6, e7⟩ := R'.own i b ds hi
    rw [hp] at e1
    cases e1
    cases hv
    obtain ⟨w, v1, v2⟩ := dpAll_at e4 h3
    have hlt : j.toNat < ds.length := (List.getElem?_eq_some_iff.mp h3).1
    have h63 : (2 : Int) ^ 63 = 9223372036854775808 := by decide
    refine ⟨p, xs, j, j.toNat, w, rfl, rfl, e3, by omega, by omega, by rw [e4.len]; exact seqIndex_of hz (by omega), v1, ?_⟩
    exact k w F' _ s (R'.write hi hp (dpAll_eraseK _ e4)) v2
  · rw [if_neg ho] at e
    cases e
theorem de_gci {n : Int} {x : Str} {pos : Pos} (hg : Gl X x) (h : ∃ t, X.mg x = some (.int n t)) (hd : (x == ("__debug__" : Str)) = false := by decide) : PE X (.Name x pos) (Ge X.K (eC (.int n))) :=
  have key : PE X (.Name x pos) (tC (.int n)) := by
    obtain ⟨t, hm⟩ := h
    exact pe_glob hg hm ⟨t, rfl⟩ hd
  PE.imp key fun σ H Q ⟨c, F, env, d, env', R, e, k⟩ => by
  cases e
  exact k _ F H (Same.refl F) R (.int n)
end
section
omit [Tb]
variable {e : En} {x : Sl} {f : Fl} {fa : Fe} {i : Nat}
noncomputable def kRgD (p : PyData × En) : Option (List PyData × En) := match p.1 with
  | .dict [(.none, .int lo), (.none, .int hi)] => if smallI lo && smallI hi then some (rng lo hi, p.2) else none
  | _ => none
@[simp] theorem ev_RgD : iRgD fa (x :: e) = (fa (x :: e)).bind kRgD := rfl
theorem kRgD_e {lo hi : Int} (h : smallI lo = true) (h2 : smallI hi = true) : kRgD (rgD lo hi, e) = some (rng lo hi, e) := by
  show (if (smallI lo && smallI hi) = true then _ else _) = _
  rw [h, h2]
  rfl
def kSrtR (p : List PyData × En) : Option (List PyData × En) := match p.1 with
  | [.list ds] => match intsOf ds with
    | some ns => some (((srtI ns).reverse).map .int, p.2)
    | none => none
  | _ => none
@[simp] theorem lSrtR_k : lSrtR f (x :: e) = (f (x :: e)).bind kSrtR := rfl
theorem kSrtR_e {ns : List Int} : kSrtR ([.list (ns.map .int)], e) = some (((srtI ns).reverse).map .int, e) := by
  unfold kSrtR
  simp only [intsOf_map]
@[simp] theorem ePopAt_k : ePopAt i fa (x :: e) = if isOwn (x :: e) i then (fa (x :: e)).bind (kPopAt i) else none := rfl
theorem kPopAt_e {b : Bool} {ds : List PyData} {k : Nat} {d : PyData} (hi : e[i]? = some (.own b ds)) (hk : ds[k]? = some d) (hl : ds.length ≤ 1000000) : kPopAt i (.int (k : Int), e) = some (d, e.set i (.own b (ds.eraseIdx k))) := by
  unfold kPopAt
  simp only [hi]
  rw [if_pos ⟨by omega, hl⟩, Int.toNat_natCast, hk]
  rfl
end
end Dn
set_option Elab.async false
set_option linter.all false
set_option maxRecDepth 100000
set_option maxHeartbeats 1000000
namespace Dn
open PySem PySem.Spec PyProof.Rows L2
open PySem.W (Frag)
variable [Tb]
def lCutO (i : Nat) (fo fh : Fo) : Fl := fun env => if isOwn env i then (fo env).bind fun q => (fh q.2).bind fun r => match r.2[i]? with
  | some (.own _ ds) => some (cutD ds q.1 r.1, r.2)
  | _ => none else none
section
variable {X : Cx} {pos : Pos}
theorem df_cutO (i : Nat) {x : Str} {lo hi : Option Expr} {fo fh : Fo} {p1 p2 : Pos} (hl : PO X lo (Go X.K fo)) (hh : PO X hi (Go X.K fh)) (hN : X.N[i]? = some x := by rfl) (hv : Vis X.env.scope x := by first | exact Or.inl rfl | exact Or.inr (Or.inl rfl) | exact Or.inr (Or.inr rfl)) (hd : (x == ("__debug__" : Str)) = false := by decide)
    (hcd : (x == ("__classdict__" : Str)) = false := by decide) : PE X (.Subscript (.Name x p1) (.Slice lo hi none p2) pos) (Gf X.K (lCutO i fo fh)) :=
  (pe_slice sl_list (pe_var hN hv hd hcd) hl hh).imp fun σ H Q h => by
  obtain ⟨c, F, env, d, env', R, e, k⟩ := h
  unfold lCutO at e
  by_cases ho : isOwn env i = true
  · rw [if_pos ho] at e
    simp only [Option.bind_eq_some_iff] at e
    obtain ⟨⟨d2, n2⟩, h2, ⟨d3, n3⟩, h3, h4⟩ := e
    dsimp only at h4
    split at h4
    · rename_i b ds hi
      cases h4
      obtain ⟨p, ys, hp, hy⟩ := own_of R ho
      refine ⟨.ref p, hp, c, F, env, d2, n2, R, h2, fun F2 H2 s2 R2 => ⟨c, F2, n2, d3, _, R2, h3, fun F3 H3 s3 R3 => ?_⟩⟩
      obtain ⟨a', xs, e1, e2, e3, e4, e5, e6, e7⟩ := R3.own i b ds hi
      rw [hp] at e1
      cases e1
      exact ⟨p, xs, rfl, SqL.of e3, fun q hq => k q _ F3 H3 (s2.trans s3) hq R3 (cut_dp e4 d2 d3)⟩
    · cases h4
  · rw [if_neg ho] at e
    cases e
end
omit [Tb]
variable {e : En} {x : Sl} {i : Nat} {fo fh : Fo}
def kCutO3 (i : Nat) (lo : Option Int) (r : Option Int × En) (s : Option Sl) : Option (List PyData × En) := match s with
  | some (.own _ ds) => some (cutD ds lo r.1, r.2)
  | _ => none
def kCutO2 (i : Nat) (lo : Option Int) (r : Option Int × En) : Option (List PyData × En) := kCutO3 i lo r r.2[i]?
def kCutO (i : Nat) (fh : Fo) (q : Option Int × En) : Option (List PyData × En) := (fh q.2).bind (kCutO2 i q.1)
@[simp] theorem lCutO_k : lCutO i fo fh (x :: e) = if isOwn (x :: e) i then (fo (x :: e)).bind (kCutO i fh) else none := rfl
@[simp] theorem kCutO_e {lo : Option Int} : kCutO i fh (lo, e) = (fh e).bind (kCutO2 i lo) := rfl
@[simp] theorem kCutO2_e {lo hi : Option Int} : kCutO2 i lo (hi, e) = kCutO3 i lo (hi, e) e[i]? := rfl
@[simp] theorem kCutO3_e {lo hi : Option Int} {b : Bool} {ds : List PyData} : kCutO3 i lo (hi, e) (some (.own b ds)) = some (cutD ds lo hi, e) := rfl
end Dn
set_option Elab.async false
set_option linter.all false
set_option maxRecDepth 100000
set_option maxHeartbeats 4000000
namespace K64
open PySem PySem.Spec PyProof.Rows Dn
open L2 hiding FnOk Room hu_of pe_call pe_callS pe_callK Dp DpAll
def topS (i : Nat) : Stmt := PySem.Challenge.pw_caskyears_k64_whole_meets_and_joins.main.body.getD i (.Pass ⟨0, 0, 0, 0⟩)
/-- what the top has written -/
structure Wd [Tb] (P : Program) (K : PySem.W.Frag) (mg : Str → Option Value) (base : Heap) where
  seer : SeerK base P
  b_max : mg "max" = none
  b_int : mg "int" = none
  b_len : mg "len" = none
  b_range : mg "range" = none
  b_list : mg "list" = none
  b_min : mg "min" = none
  b_tuple : mg "tuple" = none
  b_isinstance : mg "isinstance" = none
  b_bool : mg "bool" = none
  b_sorted : mg "sorted" = none
  b_sum : mg "sum" = none
  b_zip : mg "zip" = none
  b_repr : mg "repr" = none
  b_enumerate : mg "enumerate" = none
  gc_MOST_AMOUNTS : ∃ t, mg "MOST_AMOUNTS" = some (.int 7 t)
  b_gcd : mg "gcd" = some (.builtin "math.gcd")
  b_lcm : mg "lcm" = some (.builtin "math.lcm")
  a_law_well : Addr
  fd_law_well : FuncData
  F_law_well : L2.Fun K "_law_well" "_law_well" (topS 32) a_law_well fd_law_well
  m_law_well : mg "_law_well" = some (.ref a_law_well)
  n_law_well : Binds K fd_law_well (["_law_cell_here", "_law_place"] : List Str) []
  a_law_cell : Addr
  fd_law_cell : FuncData
  F_law_cell : L2.Fun K "_law_cell" "_law_cell" (topS 34) a_law_cell fd_law_cell
  m_law_cell : mg "_law_cell" = some (.ref a_law_cell)
  n_law_cell : Binds K fd_law_cell (["_law_script", "_law_place"] : List Str) []
  a_law_lift : Addr
  fd_law_lift : FuncData
  F_law_lift : L2.Fun K "_law_lift" "_law_lift" (topS 33) a_law_lift fd_law_lift
  m_law_lift : mg "_law_lift" = some (.ref a_law_lift)
  n_law_lift : Binds K fd_law_lift (["_law_well_here", "_law_many"] : List Str) []
  a_law_numbers : Addr
  fd_law_numbers : FuncData
  F_law_numbers : L2.Fun K "_law_numbers" "_law_numbers" (topS 39) a_law_numbers fd_law_numbers
  m_law_numbers : mg "_law_numbers" = some (.ref a_law_numbers)
  n_law_numbers : Binds K fd_law_numbers (["_law_well_here", "_law_casks"] : List Str) []
  a_law_turned : Addr
  fd_law_turned : FuncData
  F_law_turned : L2.Fun K "_law_turned" "_law_turned" (topS 38) a_law_turned fd_law_turned
  m_law_turned : mg "_law_turned" = some (.ref a_law_turned)
  n_law_turned : Binds K fd_law_turned (["_law_well_here", "_law_entries"] : List Str) []
  a_law_moved : Addr
  fd_law_moved : FuncData
  F_law_moved : L2.Fun K "_law_moved" "_law_moved" (topS 41) a_law_moved fd_law_moved
  m_law_moved : mg "_law_moved" = some (.ref a_law_moved)
  n_law_moved : Binds K fd_law_moved (["_law_well_here", "_law_numbers_here"] : List Str) []
  a_law_divisor : Addr
  fd_law_divisor : FuncData
  F_law_divisor : L2.Fun K "_law_divisor" "_law_divisor" (topS 35) a_law_divisor fd_law_divisor
  m_law_divisor : mg "_law_divisor" = some (.ref a_law_divisor)
  n_law_divisor : Binds K fd_law_divisor (["_law_great", "_law_small"] : List Str) []
  a_law_fraction : Addr
  fd_law_fraction : FuncData
  F_law_fraction : L2.Fun K "_law_fraction" "_law_fraction" (topS 36) a_law_fraction fd_law_fraction
  m_law_fraction : mg "_law_fraction" = some (.ref a_law_fraction)
  n_law_fraction : Binds K fd_law_fraction (["_law_above", "_law_below"] : List Str) []
  a_law_amounts : Addr
  fd_law_amounts : FuncData
  F_law_amounts : L2.Fun K "_law_amounts" "_law_amounts" (topS 44) a_law_amounts fd_law_amounts
  m_law_amounts : mg "_law_amounts" = some (.ref a_law_amounts)
  n_law_amounts : Binds K fd_law_amounts (["_law_numbers_here", "_law_below"] : List Str) []
  a_is_integer : Addr
  fd_is_integer : FuncData
  F_is_integer : L2.Fun K "is_integer" "is_integer" (topS 9) a_is_integer fd_is_integer
  m_is_integer : mg "is_integer" = some (.ref a_is_integer)
  n_is_integer : Binds K fd_is_integer (["value"] : List Str) []
  a_is_fraction : Addr
  fd_is_fraction : FuncData
  F_is_fraction : L2.Fun K "is_fraction" "is_fraction" (topS 11) a_is_fraction fd_is_fraction
  m_is_fraction : mg "is_fraction" = some (.ref a_is_fraction)
  n_is_fraction : Binds K fd_is_fraction (["value"] : List Str) []
  a_is_amount : Addr
  fd_is_amount : FuncData
  F_is_amount : L2.Fun K "is_amount" "is_amount" (topS 12) a_is_amount fd_is_amount
  m_is_amount : mg "is_amount" = some (.ref a_is_amount)
  n_is_amount : Binds K fd_is_amount (["value"] : List Str) []
  a_need_amounts : Addr
  fd_need_amounts : FuncData
  F_need_amounts : L2.Fun K "need_amounts" "need_amounts" (topS 20) a_need_amounts fd_need_amounts
  m_need_amounts : mg "need_amounts" = some (.ref a_need_amounts)
  n_need_amounts : Binds K fd_need_amounts (["value"] : List Str) []
  a_need_both : Addr
  fd_need_both : FuncData
  F_need_both : L2.Fun K "need_both" "need_both" (topS 21) a_need_both fd_need_both
  m_need_both : mg "need_both" = some (.ref a_need_both)
  n_need_both : Binds K fd_need_both (["one", "other"] : List Str) []
  a_need_fraction : Addr
  fd_need_fraction : FuncData
  F_need_fraction : L2.Fun K "need_fraction" "need_fraction" (topS 13) a_need_fraction fd_need_fraction
  m_need_fraction : mg "need_fraction" = some (.ref a_need_fraction)
  n_need_fraction : Binds K fd_need_fraction (["value"] : List Str) []
  a_fraction : Addr
  fd_fraction : FuncData
  F_fraction : L2.Fun K "fraction" "fraction" (topS 14) a_fraction fd_fraction
  m_fraction : mg "fraction" = some (.ref a_fraction)
  n_fraction : Binds K fd_fraction (["above", "below"] : List Str) []
  a_sum_of : Addr
  fd_sum_of : FuncData
  F_sum_of : L2.Fun K "sum_of" "sum_of" (topS 15) a_sum_of fd_sum_of
  m_sum_of : mg "sum_of" = some (.ref a_sum_of)
  n_sum_of : Binds K fd_sum_of (["fractions"] : List Str) []
  a_on_one_below : Addr
  fd_on_one_below : FuncData
  F_on_one_below : L2.Fun K "on_one_below" "on_one_below" (topS 17) a_on_one_below fd_on_one_below
  m_on_one_below : mg "on_one_below" = some (.ref a_on_one_below)
  n_on_one_below : Binds K fd_on_one_below (["fractions"] : List Str) []
  a_on_integers : Addr
  fd_on_integers : FuncData
  F_on_integers : L2.Fun K "on_integers" "on_integers" (topS 22) a_on_integers fd_on_integers
  m_on_integers : mg "on_integers" = some (.ref a_on_integers)
  n_on_integers : Binds K fd_on_integers (["one", "other"] : List Str) []
  a_falling : Addr
  fd_falling : FuncData
  F_falling : L2.Fun K "falling" "falling" (topS 23) a_falling fd_falling
  m_falling : mg "falling" = some (.ref a_falling)
  n_falling : Binds K fd_falling (["numbers"] : List Str) []
  a_sums_of_greatest : Addr
  fd_sums_of_greatest : FuncData
  F_sums_of_greatest : L2.Fun K "sums_of_greatest" "sums_of_greatest" (topS 27) a_sums_of_greatest fd_sums_of_greatest
  m_sums_of_greatest : mg "sums_of_greatest" = some (.ref a_sums_of_greatest)
  n_sums_of_greatest : Binds K fd_sums_of_greatest (["one", "other"] : List Str) []
  a_meet : Addr
  fd_meet : FuncData
  F_meet : L2.Fun K "meet" "meet" (topS 28) a_meet fd_meet
  m_meet : mg "meet" = some (.ref a_meet)
  n_meet : Binds K fd_meet (["one", "other"] : List Str) []
  a_bent_hull : Addr
  fd_bent_hull : FuncData
  F_bent_hull : L2.Fun K "bent_hull" "bent_hull" (topS 29) a_bent_hull fd_bent_hull
  m_bent_hull : mg "bent_hull" = some (.ref a_bent_hull)
  n_bent_hull : Binds K fd_bent_hull (["points"] : List Str) []
  a_join : Addr
  fd_join : FuncData
  F_join : L2.Fun K "join" "join" (topS 30) a_join fd_join
  m_join : mg "join" = some (.ref a_join)
  n_join : Binds K fd_join (["one", "other"] : List Str) []
  a_law_folded : Addr
  fd_law_folded : FuncData
  F_law_folded : L2.Fun K "_law_folded" "_law_folded" (topS 48) a_law_folded fd_law_folded
  m_law_folded : mg "_law_folded" = some (.ref a_law_folded)
  n_law_folded : Binds K fd_law_folded (["_law_door", "_law_entries"] : List Str) []
  a_law_same : Addr
  fd_law_same : FuncData
  F_law_same : L2.Fun K "_law_same" "_law_same" (topS 37) a_law_same fd_law_same
  m_law_same : mg "_law_same" = some (.ref a_law_same)
  n_law_same : Binds K fd_law_same (["_law_told", "_law_due"] : List Str) []
  a_law_sums : Addr
  fd_law_sums : FuncData
  F_law_sums : L2.Fun K "_law_sums" "_law_sums" (topS 42) a_law_sums fd_law_sums
  m_law_sums : mg "_law_sums" = some (.ref a_law_sums)
  n_law_sums : Binds K fd_law_sums (["_law_numbers_here"] : List Str) []
  a_law_steps : Addr
  fd_law_steps : FuncData
  F_law_steps : L2.Fun K "_law_steps" "_law_steps" (topS 45) a_law_steps fd_law_steps
  m_law_steps : mg "_law_steps" = some (.ref a_law_steps)
  n_law_steps : Binds K fd_law_steps (["_law_sums_here"] : List Str) []
  a_law_lowest : Addr
  fd_law_lowest : FuncData
  F_law_lowest : L2.Fun K "_law_lowest" "_law_lowest" (topS 46) a_law_lowest fd_law_lowest
  m_law_lowest : mg "_law_lowest" = some (.ref a_law_lowest)
  n_law_lowest : Binds K fd_law_lowest (["_law_lists"] : List Str) []
  a_law_highest : Addr
  fd_law_highest : FuncData
  F_law_highest : L2.Fun K "_law_highest" "_law_highest" (topS 47) a_law_highest fd_law_highest
  m_law_highest : mg "_law_highest" = some (.ref a_law_highest)
  n_law_highest : Binds K fd_law_highest (["_law_lists"] : List Str) []
  a_gap_between : Addr
  fd_gap_between : FuncData
  F_gap_between : L2.Fun K "gap_between" "gap_between" (topS 24) a_gap_between fd_gap_between
  m_gap_between : mg "gap_between" = some (.ref a_gap_between)
  n_gap_between : Binds K fd_gap_between (["first", "second"] : List Str) []
  a_first_gap : Addr
  fd_first_gap : FuncData
  F_first_gap : L2.Fun K "first_gap" "first_gap" (topS 25) a_first_gap fd_first_gap
  m_first_gap : mg "first_gap" = some (.ref a_first_gap)
  n_first_gap : Binds K fd_first_gap (["one", "other"] : List Str) []
  a_is_more_even : Addr
  fd_is_more_even : FuncData
  F_is_more_even : L2.Fun K "is_more_even" "is_more_even" (topS 26) a_is_more_even fd_is_more_even
  m_is_more_even : mg "is_more_even" = some (.ref a_is_more_even)
  n_is_more_even : Binds K fd_is_more_even (["one", "other"] : List Str) []
  a_law_exchanged : Addr
  fd_law_exchanged : FuncData
  F_law_exchanged : L2.Fun K "_law_exchanged" "_law_exchanged" (topS 40) a_law_exchanged fd_law_exchanged
  m_law_exchanged : mg "_law_exchanged" = some (.ref a_law_exchanged)
  n_law_exchanged : Binds K fd_law_exchanged (["_law_well_here", "_law_numbers_here", "_law_turns"] : List Str) []
  a_law_leads : Addr
  fd_law_leads : FuncData
  F_law_leads : L2.Fun K "_law_leads" "_law_leads" (topS 43) a_law_leads fd_law_leads
  m_law_leads : mg "_law_leads" = some (.ref a_law_leads)
  n_law_leads : Binds K fd_law_leads (["_law_first", "_law_second"] : List Str) []
  a_law_further_right : Addr
  fd_law_further_right : FuncData
  F_law_further_right : L2.Fun K "_law_further_right" "_law_further_right" (topS 49) a_law_further_right fd_law_further_right
  m_law_further_right : mg "_law_further_right" = some (.ref a_law_further_right)
  n_law_further_right : Binds K fd_law_further_right (["_law_well_here", "_law_lists", "_law_least", "_law_below"] : List Str) []
  a_law_above_right : Addr
  fd_law_above_right : FuncData
  F_law_above_right : L2.Fun K "_law_above_right" "_law_above_right" (topS 50) a_law_above_right fd_law_above_right
  m_law_above_right : mg "_law_above_right" = some (.ref a_law_above_right)
  n_law_above_right : Binds K fd_law_above_right (["_law_well_here", "_law_lists", "_law_greatest", "_law_below"] : List Str) []
  a_law_pair_right : Addr
  fd_law_pair_right : FuncData
  F_law_pair_right : L2.Fun K "_law_pair_right" "_law_pair_right" (topS 51) a_law_pair_right fd_law_pair_right
  m_law_pair_right : mg "_law_pair_right" = some (.ref a_law_pair_right)
  n_law_pair_right : Binds K fd_law_pair_right (["_law_well_here", "_law_entries"] : List Str) []
  a_law : Addr
  fd_law : FuncData
  F_law : L2.Fun K "law" "law" (topS 52) a_law fd_law
  m_law : mg "law" = some (.ref a_law)
  n_law : Binds K fd_law (["_law_script"] : List Str) []
end K64
set_option Elab.async false
set_option linter.all false
set_option maxRecDepth 100000
set_option maxHeartbeats 4000000
namespace K64
open PySem PySem.Spec PyProof.Rows Dn
open L2 hiding FnOk Room hu_of pe_call pe_callS pe_callK Dp DpAll
section
variable [Tb] {P : Program} {w : World} {K : PySem.W.Frag} {mg : Str → Option Value} {base : Heap}
abbrev s_law_well : Stmt := topS 32
theorem sc_law_well : FnScope (["_law_cell_here", "_law_place", "_law_depth"] : List Str) (["_law_cell_here", "_law_place"] : List Str) (defScope s_law_well) := ⟨rfl, rfl, rfl, by decide +kernel, rfl, by decide +kernel, by decide +kernel⟩
noncomputable def dn_law_well : Fs :=
  sSeq (sSet (eA gMax2 (lCons (eV 0) (lCons (e2 gSub (eC (.int 0)) (eV 0)) (lNil)))) (g1 2))
  (sRl (lLst (lCons (eA gMax2 (lCons (eC (.int 0)) (lCons (e2 gSub (eV 2) (e2 gPow (eC (.int 10)) (eC (.int 18)))) (lNil)))) (lCons (e2 gMod (eA gInt (lCons (e2 gAdd (e2 gMulI (eV 0) (eC (.int 49979687))) (e2 gMulI (e2 gAdd (eV 1) (eC (.int 31))) (eC (.int 32452867)))) (lNil))) (e2 gAdd (e2 gPow (eC (.int 10)) (eC (.int 26))) (eC (.int 67)))) (lCons (eC (.int 0)) (lNil))))))
noncomputable def Ph_law_well := runL dn_law_well 3 2
theorem Ph_law_well_len (ds : List PyData) (z : List PyData) (h : Ph_law_well ds = some z) : ds.length = 2 := runL_len ds z h
theorem ok_law_well (T : Wd P K mg base) : FnOk P w K mg base CX0 1 T.a_law_well T.fd_law_well (["_law_cell_here", "_law_place"] : List Str) (spL K 2 Ph_law_well) := by
  have key := okL (ca := fun _ => 0) (P := P) (w := w) (mg := mg) (base := base) (k := 0) (n := 2) T.F_law_well sc_law_well rfl fun cdv A outer s H E hr => (have nd := sc_law_well.nd; dss_cons (ds_set 2 nd (de_B (call_max2 rfl) oA_max2 (by rfl) T.b_max (by decide +kernel) (da_cons (de_v 0) (da_cons (de_op op_sub o2_sub (de_int) (de_v 0)) (da_nil)))))
    (dss_one (ds_retL (df_lst (da_cons (de_B (call_max2 rfl) oA_max2 (by rfl) T.b_max (by decide +kernel) (da_cons (de_int) (da_cons (de_op op_sub o2_sub (de_v 2) (de_op op_powG o2_pow (de_int) (de_int))) (da_nil)))) (da_cons (de_op op_modN o2_mod (de_T call_int1 oA_int (by rfl) T.b_int (by decide +kernel) (da_cons (de_op op_addG o2_add (de_op op_mulG o2_mulI (de_v 0) (de_int)) (de_op op_mulG o2_mulI (de_op op_addG o2_add (de_v 1) (de_int)) (de_int))) (da_nil))) (de_op op_addG o2_add (de_op op_powG o2_pow (de_int) (de_int)) (de_int))) (da_cons (de_int) (da_nil))))))))
  exact key
abbrev s_law_cell : Stmt := topS 34
theorem sc_law_cell : FnScope (["_law_script", "_law_place"] : List Str) (["_law_script", "_law_place"] : List Str) (defScope s_law_cell) := ⟨rfl, rfl, rfl, by decide +kernel, rfl, by decide +kernel, by decide +kernel⟩
noncomputable def dn_law_cell : Fs :=
  sSeq (sIf (tB' (e2 gLt (eV 1) (eA gLen (lCons (eV 0) (lNil))))) (sRt (e2 gIx (eV 0) (eV 1))) (sNx))
  (sRt (eC (.int 0)))
noncomputable def Ph_law_cell := runP dn_law_cell 2 2
theorem Ph_law_cell_len (ds : List PyData) (z : PyData) (h : Ph_law_cell ds = some z) : ds.length = 2 := runP_len ds z h
theorem ok_law_cell (T : Wd P K mg base) : FnOk P w K mg base CX0 1 T.a_law_cell T.fd_law_cell (["_law_script", "_law_place"] : List Str) (spP K 2 Ph_law_cell) := by
  have key := okP (ca := fun _ => 0) (P := P) (w := w) (mg := mg) (base := base) (k := 0) (n := 2) T.F_law_cell sc_law_cell rfl fun cdv A outer s H E hr => (have nd := sc_law_cell.nd; dss_cons (ds_if (dt_cmp op_lt o2_B (de_v 1) (de_B call_lenG oA_len (by rfl) T.b_len PySem.boot_len (da_cons (de_v 0) (da_nil))) (nomark _)) (dss_one (ds_ret (de_ix ix_seq o2_ix (de_v 0) (de_v 1) (fun _ _ => rfl)))) (dss_nil))
    (dss_one (ds_ret (de_int))))
  exact key
abbrev s_law_lift : Stmt := topS 33
theorem sc_law_lift : FnScope (["_law_well_here", "_law_many", "_law_lifted", "_law_stirred"] : List Str) (["_law_well_here", "_law_many"] : List Str) (defScope s_law_lift) := ⟨rfl, rfl, rfl, by decide +kernel, rfl, by decide +kernel, by decide +kernel⟩
noncomputable def dn_law_lift : Fs :=
  sSeq (sIf (tB' (e2 gGt (eIxV 0 (eC (.int 0))) (eC (.int 0)))) (sSeq (sSet (e2 gMod (eA gInt (lCons (eIxV 0 (eC (.int 0))) (lNil))) (eV 1)) (g1 2))
  (sSeq (sPut 0 (eC (.int 0)) (e2 gFdiv (eIxV 0 (eC (.int 0))) (eV 1)))
  (sRt (eV 2)))) (sNx))
  (sSeq (sPut 0 (eC (.int 2)) (e2 gAdd (eIxV 0 (eC (.int 2))) (eC (.int 1))))
  (sSeq (sSet (e2 gMod (eA gInt (lCons (e2 gPow (e2 gAdd (eIxV 0 (eC (.int 1))) (e2 gMulI (eIxV 0 (eC (.int 2))) (eC (.int 22801763489)))) (eC (.int 3))) (lNil))) (e2 gAdd (e2 gPow (eC (.int 10)) (eC (.int 28))) (eC (.int 331)))) (g1 3))
  (sRt (e2 gMod (e2 gFdiv (e2 gMod (eA gInt (lCons (e2 gAdd (e2 gPow (eV 3) (eC (.int 2))) (e2 gFdiv (eV 3) (eC (.int 8699)))) (lNil))) (e2 gAdd (e2 gPow (eC (.int 10)) (eC (.int 24))) (eC (.int 7)))) (eC (.int 12007))) (eV 1)))))
noncomputable def Ph_law_lift := runM dn_law_lift 4 2
theorem Ph_law_lift_len (ks ds : List PyData) (z : PyData × List PyData) (h : Ph_law_lift ks ds = some z) : ds.length + 1 = 2 := runM_len ks ds z h
theorem ok_law_lift (T : Wd P K mg base) : FnOk P w K mg base CX0 1 T.a_law_lift T.fd_law_lift (["_law_well_here", "_law_many"] : List Str) (spM K 2 Ph_law_lift) := by
  have key := okM (ca := fun _ => 0) (P := P) (w := w) (mg := mg) (base := base) (k := 0) (n := 2) T.F_law_lift sc_law_lift rfl fun cdv A outer s H E hr => (have nd := sc_law_lift.nd; dss_cons (ds_if (dt_cmp op_gt o2_B (de_ixV 0 (de_int)) (de_int) (nomark _)) (dss_cons (ds_set 2 nd (de_op op_modN o2_mod (de_T call_int1 oA_int (by rfl) T.b_int (by decide +kernel) (da_cons (de_ixV 0 (de_int)) (da_nil))) (de_v 1)))
    (dss_cons (ds_put 0 (de_op op_fdivG o2_fdiv (de_ixV 0 (de_int)) (de_v 1)) (de_int))
    (dss_one (ds_ret (de_v 2))))) (dss_nil))
    (dss_cons (ds_put 0 (de_op op_addG o2_add (de_ixV 0 (de_int)) (de_int)) (de_int))
    (dss_cons (ds_set 3 nd (de_op op_modN o2_mod (de_T call_int1 oA_int (by rfl) T.b_int (by decide +kernel) (da_cons (de_op op_powG o2_pow (de_op op_addG o2_add (de_ixV 0 (de_int)) (de_op op_mulG o2_mulI (de_ixV 0 (de_int)) (de_int))) (de_int)) (da_nil))) (de_op op_addG o2_add (de_op op_powG o2_pow (de_int) (de_int)) (de_int))))
    (dss_one (ds_ret (de_op op_modN o2_mod (de_op op_fdivG o2_fdiv (de_op op_modN o2_mod (de_T call_int1 oA_int (by rfl) T.b_int (by decide +kernel) (da_cons (de_op op_addG o2_add (de_op op_powG o2_pow (de_v 3) (de_int)) (de_op op_fdivG o2_fdiv (de_v 3) (de_int))) (da_nil))) (de_op op_addG o2_add (de_op op_powG o2_pow (de_int) (de_int)) (de_int))) (de_int)) (de_v 1)))))))
  exact key
abbrev s_law_numbers : Stmt := topS 39
theorem sc_law_numbers : FnScope (["_law_well_here", "_law_casks", "_law_found", "_law_size", "_law_k", "_law_way"] : List Str) (["_law_well_here", "_law_casks"] : List Str) (defScope s_law_numbers) := ⟨rfl, rfl, rfl, by decide +kernel, rfl, by decide +kernel, by decide +kernel⟩
noncomputable def lp_law_numbers_1 : Fs :=
  sSeq (sSet (eM 0 Ph_law_lift (lCons (eC (.int 6)) (lNil))) (g1 5))
  (sIf (tAn (tB' (e2 gEq (eV 5) (eC (.int 0)))) (tSide (tB' (e2 gNe (eV 2) (eF (lLst (lNil))))))) (sApp 2 (eIxV 2 (eM 0 Ph_law_lift (lCons (eLenV 2) (lNil))))) (sIf (tB' (e2 gEq (eV 5) (eC (.int 1)))) (sApp 2 (eC (.int 0))) (sApp 2 (eM 0 Ph_law_lift (lCons (eV 3) (lNil))))))
noncomputable def dn_law_numbers : Fs :=
  sSeq (sOwn (lLst (lNil)) 2)
  (sSeq (sSet (e2 gIx (eF (lLst (lCons (eC (.int 4)) (lCons (eC (.int 10)) (lCons (e2 gPow (eC (.int 10)) (eC (.int 6))) (lCons (e2 gPow (eC (.int 10)) (eC (.int 20))) (lNil))))))) (eM 0 Ph_law_lift (lCons (eC (.int 4)) (lNil)))) (g1 3))
  (sSeq (sFor (iR1 (lCons (eV 1) (lNil))) (g1 4) (lp_law_numbers_1))
  (sFrz 2 (sRt (eV 2)))))
noncomputable def Ph_law_numbers := runM dn_law_numbers 6 2
theorem Ph_law_numbers_len (ks ds : List PyData) (z : PyData × List PyData) (h : Ph_law_numbers ks ds = some z) : ds.length + 1 = 2 := runM_len ks ds z h
theorem ok_law_numbers (T : Wd P K mg base) : FnOk P w K mg base CX0 2 T.a_law_numbers T.fd_law_numbers (["_law_well_here", "_law_casks"] : List Str) (spM K 2 Ph_law_numbers) := by
  have key := okM (ca := fun _ => 0) (P := P) (w := w) (mg := mg) (base := base) (k := 1) (n := 2) T.F_law_numbers sc_law_numbers rfl fun cdv A outer s H E hr => (have nd := sc_law_numbers.nd; dss_cons (ds_own 2 nd (df_lst (da_nil)))
    (dss_cons (ds_set 3 nd (de_ix ix_seq o2_ix (de_f (df_lst (da_cons (de_int) (da_cons (de_int) (da_cons (de_op op_powG o2_pow (de_int) (de_int)) (da_cons (de_op op_powG o2_pow (de_int) (de_int)) (da_nil))))))) (de_callM 0 (ok_law_lift T) Ph_law_lift_len (hr.mono (by decide)) (by rfl) T.m_law_lift T.F_law_lift.kp T.n_law_lift (da_cons (de_int) (da_nil))) (fun _ _ => rfl)))
    (dss_cons (ds_for rfl (di_r1 (by rfl) T.b_range (da_cons (de_v 1) (da_nil))) (dg_name 4 nd) (dss_cons (ds_set 5 nd (de_callM 0 (ok_law_lift T) Ph_law_lift_len (hr.mono (by decide)) (by rfl) T.m_law_lift T.F_law_lift.kp T.n_law_lift (da_cons (de_int) (da_nil))))
    (dss_one (ds_if (PW.pt (dw_and (dt_cmp (op_eqD (hu64 hr)) o2_eq (de_v 5) (de_int) (nomark _)) (dw_and1 (dt_side (dt_cmp (op_neD (hu64 hr)) o2_ne (de_v 2) (de_f (df_lst (da_nil))) (nomark _)))))) (dss_one (ds_app 2 (de_ixV 2 (de_callM 0 (ok_law_lift T) Ph_law_lift_len (hr.mono (by decide)) (by rfl) T.m_law_lift T.F_law_lift.kp T.n_law_lift (da_cons (de_lenV 2 (by rfl) T.b_len) (da_nil)))))) (dss_one (ds_if (dt_cmp (op_eqD (hu64 hr)) o2_eq (de_v 5) (de_int) (nomark _)) (dss_one (ds_app 2 (de_int))) (dss_one (ds_app 2 (de_callM 0 (ok_law_lift T) Ph_law_lift_len (hr.mono (by decide)) (by rfl) T.m_law_lift T.F_law_lift.kp T.n_law_lift (da_cons (de_v 3) (da_nil)))))))))))
    (dss_one (ds_frz 2 (ds_ret (de_v 2)))))))
  exact key
abbrev s_law_turned : Stmt := topS 38
theorem sc_law_turned : FnScope (["_law_well_here", "_law_entries", "_law_left", "_law_found"] : List Str) (["_law_well_here", "_law_entries"] : List Str) (defScope s_law_turned) := ⟨rfl, rfl, rfl, by decide +kernel, rfl, by decide +kernel, by decide +kernel⟩
noncomputable def wt_law_turned_1 : Ft :=
  tNeO 2 (eF (lLst (lNil)))
noncomputable def wb_law_turned_1 : Fs :=
  sApp 3 (ePopAt 2 (eM 0 Ph_law_lift (lCons (eLenV 2) (lNil))))
noncomputable def dn_law_turned : Fs :=
  sSeq (sOwn (lOf (lCons (eV 1) (lNil))) 2)
  (sSeq (sOwn (lLst (lNil)) 3)
  (sSeq (sWh (wt_law_turned_1) (wb_law_turned_1))
  (sFrz 3 (sRt (eV 3)))))
noncomputable def Ph_law_turned := runM dn_law_turned 4 2
theorem Ph_law_turned_len (ks ds : List PyData) (z : PyData × List PyData) (h : Ph_law_turned ks ds = some z) : ds.length + 1 = 2 := runM_len ks ds z h
theorem ok_law_turned (T : Wd P K mg base) : FnOk P w K mg base CX0 2 T.a_law_turned T.fd_law_turned (["_law_well_here", "_law_entries"] : List Str) (spM K 2 Ph_law_turned) := by
  have key := okM (ca := fun _ => 0) (P := P) (w := w) (mg := mg) (base := base) (k := 1) (n := 2) T.F_law_turned sc_law_turned rfl fun cdv A outer s H E hr => (have nd := sc_law_turned.nd; dss_cons (ds_own 2 nd (df_listOf (by rfl) T.b_list (da_cons (de_v 1) (da_nil))))
    (dss_cons (ds_own 3 nd (df_lst (da_nil)))
    (dss_cons (ds_while (dt_neO 2 (hu64 hr) (de_f (df_lst (da_nil)))) (dss_one (ds_app 3 (de_popAt 2 (de_callM 0 (ok_law_lift T) Ph_law_lift_len (hr.mono (by decide)) (by rfl) T.m_law_lift T.F_law_lift.kp T.n_law_lift (da_cons (de_lenV 2 (by rfl) T.b_len) (da_nil)))))))
    (dss_one (ds_frz 3 (ds_ret (de_v 3)))))))
  exact key
abbrev s_law_moved : Stmt := topS 41
theorem sc_law_moved : FnScope (["_law_well_here", "_law_numbers_here", "_law_held", "_law_turn", "_law_high", "_law_low", "_law_moved_here"] : List Str) (["_law_well_here", "_law_numbers_here"] : List Str) (defScope s_law_moved) := ⟨rfl, rfl, rfl, by decide +kernel, rfl, by decide +kernel, by decide +kernel⟩
noncomputable def lp_law_moved_1 : Fs :=
  sSeq (sSet (eM 0 Ph_law_lift (lCons (eLenV 2) (lNil))) (g1 4))
  (sSeq (sSet (eM 0 Ph_law_lift (lCons (eLenV 2) (lNil))) (g1 5))
  (sSeq (sSet (e2 gIx (eF (lLst (lCons (eC (.int 1)) (lCons (eIxV 2 (eV 5)) (lCons (eM 0 Ph_law_lift (lCons (e2 gAdd (eIxV 2 (eV 5)) (eC (.int 1))) (lNil))) (lCons (e2 gFdiv (eIxV 2 (eV 5)) (eC (.int 2))) (lNil))))))) (eM 0 Ph_law_lift (lCons (eC (.int 4)) (lNil)))) (g1 6))
  (sSeq (sSet (eA gMin2 (lCons (eV 6) (lCons (eIxV 2 (eV 5)) (lNil)))) (g1 6))
  (sSeq (sPut 2 (eV 4) (e2 gAdd (eIxV 2 (eV 4)) (eV 6)))
  (sPut 2 (eV 5) (e2 gSub (eIxV 2 (eV 5)) (eV 6)))))))
noncomputable def dn_law_moved : Fs :=
  sSeq (sOwn (lOf (lCons (eV 1) (lNil))) 2)
  (sSeq (sFor (iR1 (lCons (eM 0 Ph_law_lift (lCons (eC (.int 7)) (lNil))) (lNil))) (g1 3) (lp_law_moved_1))
  (sFrz 2 (sRt (eM 0 Ph_law_turned (lCons (eV 2) (lNil))))))
noncomputable def Ph_law_moved := runM dn_law_moved 7 2
theorem Ph_law_moved_len (ks ds : List PyData) (z : PyData × List PyData) (h : Ph_law_moved ks ds = some z) : ds.length + 1 = 2 := runM_len ks ds z h
theorem ok_law_moved (T : Wd P K mg base) : FnOk P w K mg base CX0 3 T.a_law_moved T.fd_law_moved (["_law_well_here", "_law_numbers_here"] : List Str) (spM K 2 Ph_law_moved) := by
  have key := okM (ca := fun _ => 0) (P := P) (w := w) (mg := mg) (base := base) (k := 2) (n := 2) T.F_law_moved sc_law_moved rfl fun cdv A outer s H E hr => (have nd := sc_law_moved.nd; dss_cons (ds_own 2 nd (df_listOf (by rfl) T.b_list (da_cons (de_v 1) (da_nil))))
    (dss_cons (ds_for rfl (di_r1 (by rfl) T.b_range (da_cons (de_callM 0 (ok_law_lift T) Ph_law_lift_len (hr.mono (by decide)) (by rfl) T.m_law_lift T.F_law_lift.kp T.n_law_lift (da_cons (de_int) (da_nil))) (da_nil))) (dg_name 3 nd) (dss_cons (ds_set 4 nd (de_callM 0 (ok_law_lift T) Ph_law_lift_len (hr.mono (by decide)) (by rfl) T.m_law_lift T.F_law_lift.kp T.n_law_lift (da_cons (de_lenV 2 (by rfl) T.b_len) (da_nil))))
    (dss_cons (ds_set 5 nd (de_callM 0 (ok_law_lift T) Ph_law_lift_len (hr.mono (by decide)) (by rfl) T.m_law_lift T.F_law_lift.kp T.n_law_lift (da_cons (de_lenV 2 (by rfl) T.b_len) (da_nil))))
    (dss_cons (ds_set 6 nd (de_ix ix_seq o2_ix (de_f (df_lst (da_cons (de_int) (da_cons (de_ixV 2 (de_v 5)) (da_cons (de_callM 0 (ok_law_lift T) Ph_law_lift_len (hr.mono (by decide)) (by rfl) T.m_law_lift T.F_law_lift.kp T.n_law_lift (da_cons (de_op op_addG o2_add (de_ixV 2 (de_v 5)) (de_int)) (da_nil))) (da_cons (de_op op_fdivG o2_fdiv (de_ixV 2 (de_v 5)) (de_int)) (da_nil))))))) (de_callM 0 (ok_law_lift T) Ph_law_lift_len (hr.mono (by decide)) (by rfl) T.m_law_lift T.F_law_lift.kp T.n_law_lift (da_cons (de_int) (da_nil))) (fun _ _ => rfl)))
    (dss_cons (ds_set 6 nd (de_B (call_min2 rfl) oA_min2 (by rfl) T.b_min (by decide +kernel) (da_cons (de_v 6) (da_cons (de_ixV 2 (de_v 5)) (da_nil)))))
    (dss_cons (ds_put 2 (de_op op_addG o2_add (de_ixV 2 (de_v 4)) (de_v 6)) (de_v 4))
    (dss_one (ds_put 2 (de_op op_sub o2_sub (de_ixV 2 (de_v 5)) (de_v 6)) (de_v 5)))))))))
    (dss_one (ds_frz 2 (ds_ret (de_callM 0 (ok_law_turned T) Ph_law_turned_len (hr.mono (by decide)) (by rfl) T.m_law_turned T.F_law_turned.kp T.n_law_turned (da_cons (de_v 2) (da_nil))))))))
  exact key
abbrev s_law_divisor : Stmt := topS 35
theorem sc_law_divisor : FnScope (["_law_great", "_law_small"] : List Str) (["_law_great", "_law_small"] : List Str) (defScope s_law_divisor) := ⟨rfl, rfl, rfl, by decide +kernel, rfl, by decide +kernel, by decide +kernel⟩
noncomputable def wt_law_divisor_1 : Ft :=
  tB' (e2 gGt (eV 1) (eC (.int 0)))
noncomputable def wb_law_divisor_1 : Fs :=
  sPar 0 1 (lCons (eV 1) (lCons (e2 gMod (eA gInt (lCons (eV 0) (lNil))) (eV 1)) (lNil)))
noncomputable def dn_law_divisor : Fs :=
  sSeq (sWh (wt_law_divisor_1) (wb_law_divisor_1))
  (sRt (eV 0))
noncomputable def Ph_law_divisor := runP dn_law_divisor 2 2
theorem Ph_law_divisor_len (ds : List PyData) (z : PyData) (h : Ph_law_divisor ds = some z) : ds.length = 2 := runP_len ds z h
theorem ok_law_divisor (T : Wd P K mg base) : FnOk P w K mg base CX0 1 T.a_law_divisor T.fd_law_divisor (["_law_great", "_law_small"] : List Str) (spP K 2 Ph_law_divisor) := by
  have key := okP (ca := fun _ => 0) (P := P) (w := w) (mg := mg) (base := base) (k := 0) (n := 2) T.F_law_divisor sc_law_divisor rfl fun cdv A outer s H E hr => (have nd := sc_law_divisor.nd; dss_cons (ds_while (dt_cmp op_gt o2_B (de_v 1) (de_int) (nomark _)) (dss_one (ds_par 0 1 rfl nd (da_cons (de_v 1) (da_cons (de_op op_modN o2_mod (de_T call_int1 oA_int (by rfl) T.b_int (by decide +kernel) (da_cons (de_v 0) (da_nil))) (de_v 1)) (da_nil))))))
    (dss_one (ds_ret (de_v 0))))
  exact key
abbrev s_law_fraction : Stmt := topS 36
theorem sc_law_fraction : FnScope (["_law_above", "_law_below", "_law_shared"] : List Str) (["_law_above", "_law_below"] : List Str) (defScope s_law_fraction) := ⟨rfl, rfl, rfl, by decide +kernel, rfl, by decide +kernel, by decide +kernel⟩
noncomputable def dn_law_fraction : Fs :=
  sSeq (sSet (eA Ph_law_divisor (lCons (eA gMax2 (lCons (eV 0) (lCons (e2 gSub (eC (.int 0)) (eV 0)) (lNil)))) (lCons (eV 1) (lNil)))) (g1 2))
  (sRt (eTup (lCons (e2 gFdiv (eV 0) (eV 2)) (lCons (e2 gFdiv (eV 1) (eV 2)) (lNil)))))
noncomputable def Ph_law_fraction := runP dn_law_fraction 3 2
theorem Ph_law_fraction_len (ds : List PyData) (z : PyData) (h : Ph_law_fraction ds = some z) : ds.length = 2 := runP_len ds z h
theorem ok_law_fraction (T : Wd P K mg base) : FnOk P w K mg base CX0 2 T.a_law_fraction T.fd_law_fraction (["_law_above", "_law_below"] : List Str) (spP K 2 Ph_law_fraction) := by
  have key := okP (ca := fun _ => 0) (P := P) (w := w) (mg := mg) (base := base) (k := 1) (n := 2) T.F_law_fraction sc_law_fraction rfl fun cdv A outer s H E hr => (have nd := sc_law_fraction.nd; dss_cons (ds_set 2 nd (de_call (ok_law_divisor T) Ph_law_divisor_len (hr.mono (by decide)) (by rfl) T.m_law_divisor T.F_law_divisor.kp T.n_law_divisor (da_cons (de_B (call_max2 rfl) oA_max2 (by rfl) T.b_max (by decide +kernel) (da_cons (de_v 0) (da_cons (de_op op_sub o2_sub (de_int) (de_v 0)) (da_nil)))) (da_cons (de_v 1) (da_nil)))))
    (dss_one (ds_ret (de_tup (da_cons (de_op op_fdivG o2_fdiv (de_v 0) (de_v 2)) (da_cons (de_op op_fdivG o2_fdiv (de_v 1) (de_v 2)) (da_nil)))))))
  exact key
abbrev s_law_amounts : Stmt := topS 44
theorem sc_law_amounts : FnScope (["_law_numbers_here", "_law_below", "_law_number"] : List Str) (["_law_numbers_here", "_law_below"] : List Str) (defScope s_law_amounts) := ⟨rfl, rfl, rfl, by decide +kernel, rfl, by decide +kernel, by decide +kernel⟩
noncomputable def ce_law_amounts_1 : Fe :=
  eA Ph_law_fraction (lCons (eV 2) (lCons (eV 1) (lNil)))
noncomputable def dn_law_amounts : Fs :=
  sRt (eA gTup (lCons (eF (lCm (iSeq (eV 0)) (g1 2) (tYs) (ce_law_amounts_1) [2])) (lNil)))
noncomputable def Ph_law_amounts := runP dn_law_amounts 3 2
theorem Ph_law_amounts_len (ds : List PyData) (z : PyData) (h : Ph_law_amounts ds = some z) : ds.length = 2 := runP_len ds z h
theorem ok_law_amounts (T : Wd P K mg base) : FnOk P w K mg base CX0 3 T.a_law_amounts T.fd_law_amounts (["_law_numbers_here", "_law_below"] : List Str) (spP K 2 Ph_law_amounts) := by
  have key := okP (ca := fun _ => 0) (P := P) (w := w) (mg := mg) (base := base) (k := 2) (n := 2) T.F_law_amounts sc_law_amounts rfl fun cdv A outer s H E hr => (have nd := sc_law_amounts.nd; dss_one (ds_ret (de_T call_tuple_of oA_tup (by rfl) T.b_tuple (by decide +kernel) (da_cons (de_f (df_comp (own := [("_law_number", 2)]) rfl nd (di_seq (de_v 0)) (blkOk_by (own := [("_law_number", 2)]) (by kernel_rfl)) (fun _ _ _ _ _ => dg_name 2 nd) (fun _ _ _ _ _ => dts_nil) (fun _ _ _ _ _ => de_call (ok_law_fraction T) Ph_law_fraction_len (hr.mono (by decide)) (by rfl) T.m_law_fraction T.F_law_fraction.kp T.n_law_fraction (da_cons (de_v 2) (da_cons (de_v 1) (da_nil)))))) (da_nil)))))
  exact key
abbrev s_is_integer : Stmt := topS 9
theorem sc_is_integer : FnScope (["value"] : List Str) (["value"] : List Str) (defScope s_is_integer) := ⟨rfl, rfl, rfl, by decide +kernel, rfl, by decide +kernel, by decide +kernel⟩
noncomputable def dn_is_integer : Fs :=
  sRt (eAn (eIs "int" (eV 0)) (eNo (eIs "bool" (eV 0))))
noncomputable def Ph_is_integer := runP dn_is_integer 1 1
theorem Ph_is_integer_len (ds : List PyData) (z : PyData) (h : Ph_is_integer ds = some z) : ds.length = 1 := runP_len ds z h
theorem ok_is_integer (T : Wd P K mg base) : FnOk P w K mg base CX0 1 T.a_is_integer T.fd_is_integer (["value"] : List Str) (spP K 1 Ph_is_integer) := by
  have key := okP (ca := fun _ => 0) (P := P) (w := w) (mg := mg) (base := base) (k := 0) (n := 1) T.F_is_integer sc_is_integer rfl fun cdv A outer s H E hr => (have nd := sc_is_integer.nd; dss_one (ds_ret (de_and (de_isi isT_int (by rfl) T.b_isinstance (by rfl) T.b_int (by decide +kernel) (de_v 0)) (de_one (de_not (de_isi isT_bool (by rfl) T.b_isinstance (by rfl) T.b_bool (by decide +kernel) (de_v 0)))))))
  exact key
abbrev s_is_fraction : Stmt := topS 11
theorem sc_is_fraction : FnScope (["value"] : List Str) (["value"] : List Str) (defScope s_is_fraction) := ⟨rfl, rfl, rfl, by decide +kernel, rfl, by decide +kernel, by decide +kernel⟩
noncomputable def dn_is_fraction : Fs :=
  sSeq (sIf (tOrr (tNo (tTr (eIs "tuple" (eV 0)))) (tB' (e2 gNe (eA gLen (lCons (eV 0) (lNil))) (eC (.int 2))))) (sRt (eC (.bool false))) (sNx))
  (sSeq (sIf (tOrr (tNo (tTr (eA Ph_is_integer (lCons (e2 gIx (eV 0) (eC (.int 0))) (lNil))))) (tNo (tTr (eA Ph_is_integer (lCons (e2 gIx (eV 0) (eC (.int 1))) (lNil)))))) (sRt (eC (.bool false))) (sNx))
  (sRt (eAn (e2 gGe (e2 gIx (eV 0) (eC (.int 1))) (eC (.int 1))) (e2 gEq (eA gGcd (lCons (e2 gIx (eV 0) (eC (.int 0))) (lCons (e2 gIx (eV 0) (eC (.int 1))) (lNil)))) (eC (.int 1))))))
noncomputable def Ph_is_fraction := runP dn_is_fraction 1 1
theorem Ph_is_fraction_len (ds : List PyData) (z : PyData) (h : Ph_is_fraction ds = some z) : ds.length = 1 := runP_len ds z h
theorem ok_is_fraction (T : Wd P K mg base) : FnOk P w K mg base CX0 2 T.a_is_fraction T.fd_is_fraction (["value"] : List Str) (spP K 1 Ph_is_fraction) := by
  have key := okP (ca := fun _ => 0) (P := P) (w := w) (mg := mg) (base := base) (k := 1) (n := 1) T.F_is_fraction sc_is_fraction rfl fun cdv A outer s H E hr => (have nd := sc_is_fraction.nd; dss_cons (ds_if (PW.pt (dw_or (dt_not (dt_tru (de_isi isT_tuple (by rfl) T.b_isinstance (by rfl) T.b_tuple (by decide +kernel) (de_v 0)))) (dw_or1 (dt_cmp (op_neD (hu64 hr)) o2_ne (de_B call_lenG oA_len (by rfl) T.b_len PySem.boot_len (da_cons (de_v 0) (da_nil))) (de_int) (nomark _))))) (dss_one (ds_ret (de_bl))) (dss_nil))
    (dss_cons (ds_if (PW.pt (dw_or (dt_not (dt_tru (de_call (ok_is_integer T) Ph_is_integer_len (hr.mono (by decide)) (by rfl) T.m_is_integer T.F_is_integer.kp T.n_is_integer (da_cons (de_ix ix_seq o2_ix (de_v 0) (de_int) (fun _ _ => rfl)) (da_nil))))) (dw_or1 (dt_not (dt_tru (de_call (ok_is_integer T) Ph_is_integer_len (hr.mono (by decide)) (by rfl) T.m_is_integer T.F_is_integer.kp T.n_is_integer (da_cons (de_ix ix_seq o2_ix (de_v 0) (de_int) (fun _ _ => rfl)) (da_nil)))))))) (dss_one (ds_ret (de_bl))) (dss_nil))
    (dss_one (ds_ret (de_and (de_cmp op_ge o2_B (de_ix ix_seq o2_ix (de_v 0) (de_int) (fun _ _ => rfl)) (de_int) (nomark _)) (de_one (de_cmp (op_eqD (hu64 hr)) o2_eq (de_M cr_gcd oA_gcd (by rfl) T.b_gcd (da_cons (de_ix ix_seq o2_ix (de_v 0) (de_int) (fun _ _ => rfl)) (da_cons (de_ix ix_seq o2_ix (de_v 0) (de_int) (fun _ _ => rfl)) (da_nil)))) (de_int) (nomark _))))))))
  exact key
abbrev s_is_amount : Stmt := topS 12
theorem sc_is_amount : FnScope (["value"] : List Str) (["value"] : List Str) (defScope s_is_amount) := ⟨rfl, rfl, rfl, by decide +kernel, rfl, by decide +kernel, by decide +kernel⟩
noncomputable def dn_is_amount : Fs :=
  sRt (eAn (eA Ph_is_fraction (lCons (eV 0) (lNil))) (e2 gGe (e2 gIx (eV 0) (eC (.int 0))) (eC (.int 0))))
noncomputable def Ph_is_amount := runP dn_is_amount 1 1
theorem Ph_is_amount_len (ds : List PyData) (z : PyData) (h : Ph_is_amount ds = some z) : ds.length = 1 := runP_len ds z h
theorem ok_is_amount (T : Wd P K mg base) : FnOk P w K mg base CX0 3 T.a_is_amount T.fd_is_amount (["value"] : List Str) (spP K 1 Ph_is_amount) := by
  have key := okP (ca := fun _ => 0) (P := P) (w := w) (mg := mg) (base := base) (k := 2) (n := 1) T.F_is_amount sc_is_amount rfl fun cdv A outer s H E hr => (have nd := sc_is_amount.nd; dss_one (ds_ret (de_and (de_call (ok_is_fraction T) Ph_is_fraction_len (hr.mono (by decide)) (by rfl) T.m_is_fraction T.F_is_fraction.kp T.n_is_fraction (da_cons (de_v 0) (da_nil))) (de_one (de_cmp op_ge o2_B (de_ix ix_seq o2_ix (de_v 0) (de_int) (fun _ _ => rfl)) (de_int) (nomark _))))))
  exact key
abbrev s_need_amounts : Stmt := topS 20
theorem sc_need_amounts : FnScope (["value", "part"] : List Str) (["value"] : List Str) (defScope s_need_amounts) := ⟨rfl, rfl, rfl, by decide +kernel, rfl, by decide +kernel, by decide +kernel⟩
noncomputable def lp_need_amounts_1 : Fs :=
  sIf (tNo (tTr (eA Ph_is_amount (lCons (eV 1) (lNil))))) (sNever) (sNx)
noncomputable def dn_need_amounts : Fs :=
  sSeq (sIf (tOrr (tNo (tTr (eIs "tuple" (eV 0)))) (tNo (tB' (eCh gLe gLe (eC (.int 1)) (eA gLen (lCons (eV 0) (lNil))) (eC (.int 7)))))) (sNever) (sNx))
  (sFor (iSeq (eV 0)) (g1 1) (lp_need_amounts_1))
noncomputable def Ph_need_amounts := runP dn_need_amounts 2 1
theorem Ph_need_amounts_len (ds : List PyData) (z : PyData) (h : Ph_need_amounts ds = some z) : ds.length = 1 := runP_len ds z h
theorem ok_need_amounts (T : Wd P K mg base) : FnOk P w K mg base CX0 4 T.a_need_amounts T.fd_need_amounts (["value"] : List Str) (spP K 1 Ph_need_amounts) := by
  have key := okP (ca := fun _ => 0) (P := P) (w := w) (mg := mg) (base := base) (k := 3) (n := 1) T.F_need_amounts sc_need_amounts rfl fun cdv A outer s H E hr => (have nd := sc_need_amounts.nd; dss_cons (ds_if (PW.pt (dw_or (dt_not (dt_tru (de_isi isT_tuple (by rfl) T.b_isinstance (by rfl) T.b_tuple (by decide +kernel) (de_v 0)))) (dw_or1 (dt_not (dt_chain op_le o2_B op_le o2_B (de_int) (de_B call_lenG oA_len (by rfl) T.b_len PySem.boot_len (da_cons (de_v 0) (da_nil))) (de_gci (by rfl) T.gc_MOST_AMOUNTS)))))) (dss_one (ds_never)) (dss_nil))
    (dss_one (ds_for rfl (di_seq (de_v 0)) (dg_name 1 nd) (dss_one (ds_if (dt_not (dt_tru (de_call (ok_is_amount T) Ph_is_amount_len (hr.mono (by decide)) (by rfl) T.m_is_amount T.F_is_amount.kp T.n_is_amount (da_cons (de_v 1) (da_nil))))) (dss_one (ds_never)) (dss_nil))))))
  exact key
abbrev s_need_both : Stmt := topS 21
theorem sc_need_both : FnScope (["one", "other"] : List Str) (["one", "other"] : List Str) (defScope s_need_both) := ⟨rfl, rfl, rfl, by decide +kernel, rfl, by decide +kernel, by decide +kernel⟩
noncomputable def dn_need_both : Fs :=
  sSeq (sEx (eA Ph_need_amounts (lCons (eV 0) (lNil))))
  (sSeq (sEx (eA Ph_need_amounts (lCons (eV 1) (lNil))))
  (sIf (tB' (e2 gNe (eA gLen (lCons (eV 0) (lNil))) (eA gLen (lCons (eV 1) (lNil))))) (sNever) (sNx)))
noncomputable def Ph_need_both := runP dn_need_both 2 2
theorem Ph_need_both_len (ds : List PyData) (z : PyData) (h : Ph_need_both ds = some z) : ds.length = 2 := runP_len ds z h
theorem ok_need_both (T : Wd P K mg base) : FnOk P w K mg base CX0 5 T.a_need_both T.fd_need_both (["one", "other"] : List Str) (spP K 2 Ph_need_both) := by
  have key := okP (ca := fun _ => 0) (P := P) (w := w) (mg := mg) (base := base) (k := 4) (n := 2) T.F_need_both sc_need_both rfl fun cdv A outer s H E hr => (have nd := sc_need_both.nd; dss_cons (ds_expr (de_call (ok_need_amounts T) Ph_need_amounts_len (hr.mono (by decide)) (by rfl) T.m_need_amounts T.F_need_amounts.kp T.n_need_amounts (da_cons (de_v 0) (da_nil))))
    (dss_cons (ds_expr (de_call (ok_need_amounts T) Ph_need_amounts_len (hr.mono (by decide)) (by rfl) T.m_need_amounts T.F_need_amounts.kp T.n_need_amounts (da_cons (de_v 1) (da_nil))))
    (dss_one (ds_if (dt_cmp (op_neD (hu64 hr)) o2_ne (de_B call_lenG oA_len (by rfl) T.b_len PySem.boot_len (da_cons (de_v 0) (da_nil))) (de_B call_lenG oA_len (by rfl) T.b_len PySem.boot_len (da_cons (de_v 1) (da_nil))) (nomark _)) (dss_one (ds_never)) (dss_nil)))))
  exact key
abbrev s_need_fraction : Stmt := topS 13
theorem sc_need_fraction : FnScope (["value"] : List Str) (["value"] : List Str) (defScope s_need_fraction) := ⟨rfl, rfl, rfl, by decide +kernel, rfl, by decide +kernel, by decide +kernel⟩
noncomputable def dn_need_fraction : Fs :=
  sIf (tNo (tTr (eA Ph_is_fraction (lCons (eV 0) (lNil))))) (sNever) (sNx)
noncomputable def Ph_need_fraction := runP dn_need_fraction 1 1
theorem Ph_need_fraction_len (ds : List PyData) (z : PyData) (h : Ph_need_fraction ds = some z) : ds.length = 1 := runP_len ds z h
theorem ok_need_fraction (T : Wd P K mg base) : FnOk P w K mg base CX0 3 T.a_need_fraction T.fd_need_fraction (["value"] : List Str) (spP K 1 Ph_need_fraction) := by
  have key := okP (ca := fun _ => 0) (P := P) (w := w) (mg := mg) (base := base) (k := 2) (n := 1) T.F_need_fraction sc_need_fraction rfl fun cdv A outer s H E hr => (have nd := sc_need_fraction.nd; dss_one (ds_if (dt_not (dt_tru (de_call (ok_is_fraction T) Ph_is_fraction_len (hr.mono (by decide)) (by rfl) T.m_is_fraction T.F_is_fraction.kp T.n_is_fraction (da_cons (de_v 0) (da_nil))))) (dss_one (ds_never)) (dss_nil)))
  exact key
abbrev s_fraction : Stmt := topS 14
theorem sc_fraction : FnScope (["above", "below", "divisor"] : List Str) (["above", "below"] : List Str) (defScope s_fraction) := ⟨rfl, rfl, rfl, by decide +kernel, rfl, by decide +kernel, by decide +kernel⟩
noncomputable def dn_fraction : Fs :=
  sSeq (sIf (tB' (e2 gEq (eV 1) (eC (.int 0)))) (sNever) (sNx))
  (sSeq (sSet (eA gGcd (lCons (eV 0) (lCons (eV 1) (lNil)))) (g1 2))
  (sSeq (sIf (tB' (e2 gLt (eV 1) (eC (.int 0)))) (sSet (e1 gNeg (eV 2)) (g1 2)) (sNx))
  (sRt (eTup (lCons (e2 gFdiv (eV 0) (eV 2)) (lCons (e2 gFdiv (eV 1) (eV 2)) (lNil)))))))
noncomputable def Ph_fraction := runP dn_fraction 3 2
theorem Ph_fraction_len (ds : List PyData) (z : PyData) (h : Ph_fraction ds = some z) : ds.length = 2 := runP_len ds z h
theorem ok_fraction (T : Wd P K mg base) : FnOk P w K mg base CX0 1 T.a_fraction T.fd_fraction (["above", "below"] : List Str) (spP K 2 Ph_fraction) := by
  have key := okP (ca := fun _ => 0) (P := P) (w := w) (mg := mg) (base := base) (k := 0) (n := 2) T.F_fraction sc_fraction rfl fun cdv A outer s H E hr => (have nd := sc_fraction.nd; dss_cons (ds_if (dt_cmp (op_eqD (hu64 hr)) o2_eq (de_v 1) (de_int) (nomark _)) (dss_one (ds_never)) (dss_nil))
    (dss_cons (ds_set 2 nd (de_M cr_gcd oA_gcd (by rfl) T.b_gcd (da_cons (de_v 0) (da_cons (de_v 1) (da_nil)))))
    (dss_cons (ds_if (dt_cmp op_lt o2_B (de_v 1) (de_int) (nomark _)) (dss_one (ds_set 2 nd (de_un un_neg o1_neg (de_v 2)))) (dss_nil))
    (dss_one (ds_ret (de_tup (da_cons (de_op op_fdivG o2_fdiv (de_v 0) (de_v 2)) (da_cons (de_op op_fdivG o2_fdiv (de_v 1) (de_v 2)) (da_nil)))))))))
  exact key
abbrev s_sum_of : Stmt := topS 15
theorem sc_sum_of : FnScope (["fractions", "part", "total"] : List Str) (["fractions"] : List Str) (defScope s_sum_of) := ⟨rfl, rfl, rfl, by decide +kernel, rfl, by decide +kernel, by decide +kernel⟩
noncomputable def lp_sum_of_1 : Fs :=
  sEx (eA Ph_need_fraction (lCons (eV 1) (lNil)))
noncomputable def lp_sum_of_2 : Fs :=
  sSet (eA Ph_fraction (lCons (e2 gAdd (e2 gMulI (e2 gIx (eV 2) (eC (.int 0))) (e2 gIx (eV 1) (eC (.int 1)))) (e2 gMulI (e2 gIx (eV 1) (eC (.int 0))) (e2 gIx (eV 2) (eC (.int 1))))) (lCons (e2 gMulI (e2 gIx (eV 2) (eC (.int 1))) (e2 gIx (eV 1) (eC (.int 1)))) (lNil)))) (g1 2)
noncomputable def dn_sum_of : Fs :=
  sSeq (sFor (iSeq (eV 0)) (g1 1) (lp_sum_of_1))
  (sSeq (sSet (eTup (lCons (eC (.int 0)) (lCons (eC (.int 1)) (lNil)))) (g1 2))
  (sSeq (sFor (iSeq (eV 0)) (g1 1) (lp_sum_of_2))
  (sRt (eV 2))))
noncomputable def Ph_sum_of := runP dn_sum_of 3 1
theorem Ph_sum_of_len (ds : List PyData) (z : PyData) (h : Ph_sum_of ds = some z) : ds.length = 1 := runP_len ds z h
theorem ok_sum_of (T : Wd P K mg base) : FnOk P w K mg base CX0 4 T.a_sum_of T.fd_sum_of (["fractions"] : List Str) (spP K 1 Ph_sum_of) := by
  have key := okP (ca := fun _ => 0) (P := P) (w := w) (mg := mg) (base := base) (k := 3) (n := 1) T.F_sum_of sc_sum_of rfl fun cdv A outer s H E hr => (have nd := sc_sum_of.nd; dss_cons (ds_for rfl (di_seq (de_v 0)) (dg_name 1 nd) (dss_one (ds_expr (de_call (ok_need_fraction T) Ph_need_fraction_len (hr.mono (by decide)) (by rfl) T.m_need_fraction T.F_need_fraction.kp T.n_need_fraction (da_cons (de_v 1) (da_nil))))))
    (dss_cons (ds_set 2 nd (de_tup (da_cons (de_int) (da_cons (de_int) (da_nil)))))
    (dss_cons (ds_for rfl (di_seq (de_v 0)) (dg_name 1 nd) (dss_one (ds_set 2 nd (de_call (ok_fraction T) Ph_fraction_len (hr.mono (by decide)) (by rfl) T.m_fraction T.F_fraction.kp T.n_fraction (da_cons (de_op op_addG o2_add (de_op op_mulG o2_mulI (de_ix ix_seq o2_ix (de_v 2) (de_int) (fun _ _ => rfl)) (de_ix ix_seq o2_ix (de_v 1) (de_int) (fun _ _ => rfl))) (de_op op_mulG o2_mulI (de_ix ix_seq o2_ix (de_v 1) (de_int) (fun _ _ => rfl)) (de_ix ix_seq o2_ix (de_v 2) (de_int) (fun _ _ => rfl)))) (da_cons (de_op op_mulG o2_mulI (de_ix ix_seq o2_ix (de_v 2) (de_int) (fun _ _ => rfl)) (de_ix ix_seq o2_ix (de_v 1) (de_int) (fun _ _ => rfl))) (da_nil)))))))
    (dss_one (ds_ret (de_v 2))))))
  exact key
abbrev s_on_one_below : Stmt := topS 17
theorem sc_on_one_below : FnScope (["fractions", "below", "one"] : List Str) (["fractions"] : List Str) (defScope s_on_one_below) := ⟨rfl, rfl, rfl, by decide +kernel, rfl, by decide +kernel, by decide +kernel⟩
noncomputable def lp_on_one_below_1 : Fs :=
  sSet (eA gLcm (lCons (eV 1) (lCons (e2 gIx (eV 2) (eC (.int 1))) (lNil)))) (g1 1)
noncomputable def ce_on_one_below_1 : Fe :=
  e2 gMulI (e2 gIx (eV 2) (eC (.int 0))) (e2 gFdiv (eV 1) (e2 gIx (eV 2) (eC (.int 1))))
noncomputable def dn_on_one_below : Fs :=
  sSeq (sSet (eC (.int 1)) (g1 1))
  (sSeq (sFor (iSeq (eV 0)) (g1 2) (lp_on_one_below_1))
  (sRt (eTup (lCons (eF (lCm (iSeq (eV 0)) (g1 2) (tYs) (ce_on_one_below_1) [2])) (lCons (eV 1) (lNil))))))
noncomputable def Ph_on_one_below := runP dn_on_one_below 3 1
theorem Ph_on_one_below_len (ds : List PyData) (z : PyData) (h : Ph_on_one_below ds = some z) : ds.length = 1 := runP_len ds z h
theorem ok_on_one_below (T : Wd P K mg base) : FnOk P w K mg base CX0 1 T.a_on_one_below T.fd_on_one_below (["fractions"] : List Str) (spP K 1 Ph_on_one_below) := by
  have key := okP (ca := fun _ => 0) (P := P) (w := w) (mg := mg) (base := base) (k := 0) (n := 1) T.F_on_one_below sc_on_one_below rfl fun cdv A outer s H E hr => (have nd := sc_on_one_below.nd; dss_cons (ds_set 1 nd (de_int))
    (dss_cons (ds_for rfl (di_seq (de_v 0)) (dg_name 2 nd) (dss_one (ds_set 1 nd (de_M cr_lcm oA_lcm (by rfl) T.b_lcm (da_cons (de_v 1) (da_cons (de_ix ix_seq o2_ix (de_v 2) (de_int) (fun _ _ => rfl)) (da_nil)))))))
    (dss_one (ds_ret (de_tup (da_cons (de_f (df_comp (own := [("one", 2)]) rfl nd (di_seq (de_v 0)) (blkOk_by (own := [("one", 2)]) (by kernel_rfl)) (fun _ _ _ _ _ => dg_name 2 nd) (fun _ _ _ _ _ => dts_nil) (fun _ _ _ _ _ => de_op op_mulG o2_mulI (de_ix ix_seq o2_ix (de_v 2) (de_int) (fun _ _ => rfl)) (de_op op_fdivG o2_fdiv (de_v 1) (de_ix ix_seq o2_ix (de_v 2) (de_int) (fun _ _ => rfl)))))) (da_cons (de_v 1) (da_nil))))))))
  exact key
abbrev s_on_integers : Stmt := topS 22
theorem sc_on_integers : FnScope (["one", "other", "numbers", "below"] : List Str) (["one", "other"] : List Str) (defScope s_on_integers) := ⟨rfl, rfl, rfl, by decide +kernel, rfl, by decide +kernel, by decide +kernel⟩
noncomputable def dn_on_integers : Fs :=
  sSeq (sSet (eA Ph_on_one_below (lCons (e2 gAdd (eV 0) (eV 1)) (lNil))) (g2 2 (gsC (g1 2) (gsC (g1 3) (gsN)))))
  (sRt (eTup (lCons (eCut (eV 2) (oNo) (oSo (eA gLen (lCons (eV 0) (lNil))))) (lCons (eCut (eV 2) (oSo (eA gLen (lCons (eV 0) (lNil)))) (oNo)) (lCons (eV 3) (lNil))))))
noncomputable def Ph_on_integers := runP dn_on_integers 4 2
theorem Ph_on_integers_len (ds : List PyData) (z : PyData) (h : Ph_on_integers ds = some z) : ds.length = 2 := runP_len ds z h
theorem ok_on_integers (T : Wd P K mg base) : FnOk P w K mg base CX0 2 T.a_on_integers T.fd_on_integers (["one", "other"] : List Str) (spP K 2 Ph_on_integers) := by
  have key := okP (ca := fun _ => 0) (P := P) (w := w) (mg := mg) (base := base) (k := 1) (n := 2) T.F_on_integers sc_on_integers rfl fun cdv A outer s H E hr => (have nd := sc_on_integers.nd; dss_cons (ds_asg (de_call (ok_on_one_below T) Ph_on_one_below_len (hr.mono (by decide)) (by rfl) T.m_on_one_below T.F_on_one_below.kp T.n_on_one_below (da_cons (de_op op_addG o2_add (de_v 0) (de_v 1)) (da_nil))) (dg_tup (n := 2) rfl (dgs_cons (dg_name 2 nd) (dgs_cons (dg_name 3 nd) (dgs_nil)))))
    (dss_one (ds_ret (de_tup (da_cons (de_cut (de_v 2) (do_no) (do_so (de_B call_lenG oA_len (by rfl) T.b_len PySem.boot_len (da_cons (de_v 0) (da_nil))))) (da_cons (de_cut (de_v 2) (do_so (de_B call_lenG oA_len (by rfl) T.b_len PySem.boot_len (da_cons (de_v 0) (da_nil)))) (do_no)) (da_cons (de_v 3) (da_nil))))))))
  exact key
abbrev s_falling : Stmt := topS 23
theorem sc_falling : FnScope (["numbers"] : List Str) (["numbers"] : List Str) (defScope s_falling) := ⟨rfl, rfl, rfl, by decide +kernel, rfl, by decide +kernel, by decide +kernel⟩
noncomputable def dn_falling : Fs :=
  sRt (eF (lSrtR (lCons (eV 0) (lNil))))
noncomputable def Ph_falling := runP dn_falling 1 1
theorem Ph_falling_len (ds : List PyData) (z : PyData) (h : Ph_falling ds = some z) : ds.length = 1 := runP_len ds z h
theorem ok_falling (T : Wd P K mg base) : FnOk P w K mg base CX0 1 T.a_falling T.fd_falling (["numbers"] : List Str) (spP K 1 Ph_falling) := by
  have key := okP (ca := fun _ => 0) (P := P) (w := w) (mg := mg) (base := base) (k := 0) (n := 1) T.F_falling sc_falling rfl fun cdv A outer s H E hr => (have nd := sc_falling.nd; dss_one (ds_ret (de_f (df_sortR (by rfl) T.b_sorted (da_cons (de_v 0) (da_nil))))))
  exact key
abbrev s_sums_of_greatest : Stmt := topS 27
theorem sc_sums_of_greatest : FnScope (["one", "other", "first", "second", "below", "many", "k"] : List Str) (["one", "other"] : List Str) (defScope s_sums_of_greatest) := ⟨rfl, rfl, rfl, by decide +kernel, rfl, by decide +kernel, by decide +kernel⟩
noncomputable def ce_sums_of_greatest_1 : Fe :=
  eA gSum (lCons (eCut (eV 2) (oNo) (oSo (eV 6))) (lNil))
noncomputable def ce_sums_of_greatest_2 : Fe :=
  eA gSum (lCons (eCut (eV 3) (oNo) (oSo (eV 6))) (lNil))
noncomputable def dn_sums_of_greatest : Fs :=
  sSeq (sEx (eA Ph_need_both (lCons (eV 0) (lCons (eV 1) (lNil)))))
  (sSeq (sIf (tB' (e2 gNe (eA Ph_sum_of (lCons (eF (lOf (lCons (eV 0) (lNil)))) (lNil))) (eA Ph_sum_of (lCons (eF (lOf (lCons (eV 1) (lNil)))) (lNil))))) (sNever) (sNx))
  (sSeq (sSet (eA Ph_on_integers (lCons (eV 0) (lCons (eV 1) (lNil)))) (g2 3 (gsC (g1 2) (gsC (g1 3) (gsC (g1 4) (gsN))))))
  (sSeq (sSet (eTup (lCons (eA Ph_falling (lCons (eV 2) (lNil))) (lCons (eA Ph_falling (lCons (eV 3) (lNil))) (lNil)))) (g2 2 (gsC (g1 2) (gsC (g1 3) (gsN)))))
  (sSeq (sSet (eA gRng1 (lCons (e2 gAdd (eA gLen (lCons (eV 0) (lNil))) (eC (.int 1))) (lNil))) (g1 5))
  (sRt (eTup (lCons (eF (lCm (iRgD (eV 5)) (g1 6) (tYs) (ce_sums_of_greatest_1) [6])) (lCons (eF (lCm (iRgD (eV 5)) (g1 6) (tYs) (ce_sums_of_greatest_2) [6])) (lCons (eV 4) (lNil))))))))))
noncomputable def Ph_sums_of_greatest := runP dn_sums_of_greatest 7 2
theorem Ph_sums_of_greatest_len (ds : List PyData) (z : PyData) (h : Ph_sums_of_greatest ds = some z) : ds.length = 2 := runP_len ds z h
theorem ok_sums_of_greatest (T : Wd P K mg base) : FnOk P w K mg base CX0 6 T.a_sums_of_greatest T.fd_sums_of_greatest (["one", "other"] : List Str) (spP K 2 Ph_sums_of_greatest) := by
  have key := okP (ca := fun _ => 0) (P := P) (w := w) (mg := mg) (base := base) (k := 5) (n := 2) T.F_sums_of_greatest sc_sums_of_greatest rfl fun cdv A outer s H E hr => (have nd := sc_sums_of_greatest.nd; dss_cons (ds_expr (de_call (ok_need_both T) Ph_need_both_len (hr.mono (by decide)) (by rfl) T.m_need_both T.F_need_both.kp T.n_need_both (da_cons (de_v 0) (da_cons (de_v 1) (da_nil)))))
    (dss_cons (ds_if (dt_cmp (op_neD (hu64 hr)) o2_ne (de_call (ok_sum_of T) Ph_sum_of_len (hr.mono (by decide)) (by rfl) T.m_sum_of T.F_sum_of.kp T.n_sum_of (da_cons (de_f (df_listOf (by rfl) T.b_list (da_cons (de_v 0) (da_nil)))) (da_nil))) (de_call (ok_sum_of T) Ph_sum_of_len (hr.mono (by decide)) (by rfl) T.m_sum_of T.F_sum_of.kp T.n_sum_of (da_cons (de_f (df_listOf (by rfl) T.b_list (da_cons (de_v 1) (da_nil)))) (da_nil))) (nomark _)) (dss_one (ds_never)) (dss_nil))
    (dss_cons (ds_asg (de_call (ok_on_integers T) Ph_on_integers_len (hr.mono (by decide)) (by rfl) T.m_on_integers T.F_on_integers.kp T.n_on_integers (da_cons (de_v 0) (da_cons (de_v 1) (da_nil)))) (dg_tup (n := 3) rfl (dgs_cons (dg_name 2 nd) (dgs_cons (dg_name 3 nd) (dgs_cons (dg_name 4 nd) (dgs_nil))))))
    (dss_cons (ds_asg (de_tup (da_cons (de_call (ok_falling T) Ph_falling_len (hr.mono (by decide)) (by rfl) T.m_falling T.F_falling.kp T.n_falling (da_cons (de_v 2) (da_nil))) (da_cons (de_call (ok_falling T) Ph_falling_len (hr.mono (by decide)) (by rfl) T.m_falling T.F_falling.kp T.n_falling (da_cons (de_v 3) (da_nil))) (da_nil)))) (dg_tup (n := 2) rfl (dgs_cons (dg_name 2 nd) (dgs_cons (dg_name 3 nd) (dgs_nil)))))
    (dss_cons (ds_set 5 nd (de_T cr_rangeV oA_rng1 (by rfl) T.b_range (by decide +kernel) (da_cons (de_op op_addG o2_add (de_B call_lenG oA_len (by rfl) T.b_len PySem.boot_len (da_cons (de_v 0) (da_nil))) (de_int)) (da_nil))))
    (dss_one (ds_ret (de_tup (da_cons (de_f (df_comp (own := [("k", 6)]) rfl nd (di_rgd (de_v 5)) (blkOk_by (own := [("k", 6)]) (by kernel_rfl)) (fun _ _ _ _ _ => dg_name 6 nd) (fun _ _ _ _ _ => dts_nil) (fun _ _ _ _ _ => de_B (cr_sum rfl) oA_sum (by rfl) T.b_sum (by decide +kernel) (da_cons (de_cut (de_v 2) (do_no) (do_so (de_v 6))) (da_nil))))) (da_cons (de_f (df_comp (own := [("k", 6)]) rfl nd (di_rgd (de_v 5)) (blkOk_by (own := [("k", 6)]) (by kernel_rfl)) (fun _ _ _ _ _ => dg_name 6 nd) (fun _ _ _ _ _ => dts_nil) (fun _ _ _ _ _ => de_B (cr_sum rfl) oA_sum (by rfl) T.b_sum (by decide +kernel) (da_cons (de_cut (de_v 3) (do_no) (do_so (de_v 6))) (da_nil))))) (da_cons (de_v 4) (da_nil))))))))))))
  exact key
abbrev s_meet : Stmt := topS 28
theorem sc_meet : FnScope (["one", "other", "first", "second", "below", "sums", "ones", "others", "k"] : List Str) (["one", "other"] : List Str) (defScope s_meet) := ⟨rfl, rfl, rfl, by decide +kernel, rfl, by decide +kernel, by decide +kernel⟩
noncomputable def ce_meet_1 : Fe :=
  eA gMin2 (lCons (eV 6) (lCons (eV 7) (lNil)))
noncomputable def ce_meet_2 : Fe :=
  eA Ph_fraction (lCons (e2 gSub (e2 gIx (eV 5) (e2 gAdd (eV 8) (eC (.int 1)))) (e2 gIx (eV 5) (eV 8))) (lCons (eV 4) (lNil)))
noncomputable def dn_meet : Fs :=
  sSeq (sSet (eA Ph_sums_of_greatest (lCons (eV 0) (lCons (eV 1) (lNil)))) (g2 3 (gsC (g1 2) (gsC (g1 3) (gsC (g1 4) (gsN))))))
  (sSeq (sSet (eF (lCm (iZp (lCons (eV 2) (lCons (eV 3) (lNil)))) (g2 2 (gsC (g1 6) (gsC (g1 7) (gsN)))) (tYs) (ce_meet_1) [6, 7])) (g1 5))
  (sRt (eA gTup (lCons (eF (lCm (iR1 (lCons (eA gLen (lCons (eV 0) (lNil))) (lNil))) (g1 8) (tYs) (ce_meet_2) [8])) (lNil)))))
noncomputable def Ph_meet := runP dn_meet 9 2
theorem Ph_meet_len (ds : List PyData) (z : PyData) (h : Ph_meet ds = some z) : ds.length = 2 := runP_len ds z h
theorem ok_meet (T : Wd P K mg base) : FnOk P w K mg base CX0 7 T.a_meet T.fd_meet (["one", "other"] : List Str) (spP K 2 Ph_meet) := by
  have key := okP (ca := fun _ => 0) (P := P) (w := w) (mg := mg) (base := base) (k := 6) (n := 2) T.F_meet sc_meet rfl fun cdv A outer s H E hr => (have nd := sc_meet.nd; dss_cons (ds_asg (de_call (ok_sums_of_greatest T) Ph_sums_of_greatest_len (hr.mono (by decide)) (by rfl) T.m_sums_of_greatest T.F_sums_of_greatest.kp T.n_sums_of_greatest (da_cons (de_v 0) (da_cons (de_v 1) (da_nil)))) (dg_tup (n := 3) rfl (dgs_cons (dg_name 2 nd) (dgs_cons (dg_name 3 nd) (dgs_cons (dg_name 4 nd) (dgs_nil))))))
    (dss_cons (ds_set 5 nd (de_f (df_comp (own := [("ones", 6), ("others", 7)]) rfl nd (di_zip (by rfl) T.b_zip (da_cons (de_v 2) (da_cons (de_v 3) (da_nil)))) (blkOk_by (own := [("ones", 6), ("others", 7)]) (by kernel_rfl)) (fun _ _ _ _ _ => dg_tup (n := 2) rfl (dgs_cons (dg_name 6 nd) (dgs_cons (dg_name 7 nd) (dgs_nil)))) (fun _ _ _ _ _ => dts_nil) (fun _ _ _ _ _ => de_B (call_min2 rfl) oA_min2 (by rfl) T.b_min (by decide +kernel) (da_cons (de_v 6) (da_cons (de_v 7) (da_nil)))))))
    (dss_one (ds_ret (de_T call_tuple_of oA_tup (by rfl) T.b_tuple (by decide +kernel) (da_cons (de_f (df_comp (own := [("k", 8)]) rfl nd (di_r1 (by rfl) T.b_range (da_cons (de_B call_lenG oA_len (by rfl) T.b_len PySem.boot_len (da_cons (de_v 0) (da_nil))) (da_nil))) (blkOk_by (own := [("k", 8)]) (by kernel_rfl)) (fun _ _ _ _ _ => dg_name 8 nd) (fun _ _ _ _ _ => dts_nil) (fun _ _ _ _ _ => de_call (ok_fraction T) Ph_fraction_len (hr.mono (by decide)) (by rfl) T.m_fraction T.F_fraction.kp T.n_fraction (da_cons (de_op op_sub o2_sub (de_ix ix_seq o2_ix (de_v 5) (de_op op_addG o2_add (de_v 8) (de_int)) (fun _ _ => rfl)) (de_ix ix_seq o2_ix (de_v 5) (de_v 8) (fun _ _ => rfl))) (da_cons (de_v 4) (da_nil)))))) (da_nil)))))))
  exact key
abbrev s_bent_hull : Stmt := topS 29
theorem sc_bent_hull : FnScope (["points", "corners", "at", "height", "first", "low", "second", "middle"] : List Str) (["points"] : List Str) (defScope s_bent_hull) := ⟨rfl, rfl, rfl, by decide +kernel, rfl, by decide +kernel, by decide +kernel⟩
noncomputable def wt_bent_hull_1 : Ft :=
  tB' (e2 gGt (eLenV 1) (eC (.int 1)))
noncomputable def wb_bent_hull_1 : Fs :=
  sSeq (sSet (eF (lCutO 1 (oSo (e1 gNeg (eC (.int 2)))) (oNo))) (g2L 2 (gsC (g2 2 (gsC (g1 4) (gsC (g1 5) (gsN)))) (gsC (g2 2 (gsC (g1 6) (gsC (g1 7) (gsN)))) (gsN)))))
  (sSeq (sIf (tB' (e2 gGt (e2 gMulI (e2 gSub (eV 7) (eV 5)) (e2 gSub (eV 2) (eV 6))) (e2 gMulI (e2 gSub (eV 3) (eV 7)) (e2 gSub (eV 6) (eV 4))))) (sBk) (sNx))
  (sEx (ePop 1)))
noncomputable def lp_bent_hull_1 : Fs :=
  sSeq (sWh (wt_bent_hull_1) (wb_bent_hull_1))
  (sApp 1 (eTup (lCons (eV 2) (lCons (eV 3) (lNil)))))
noncomputable def dn_bent_hull : Fs :=
  sSeq (sOwn (lLst (lNil)) 1)
  (sSeq (sFor (iSeq (eV 0)) (g2 2 (gsC (g1 2) (gsC (g1 3) (gsN)))) (lp_bent_hull_1))
  (sFrz 1 (sRt (eV 1))))
noncomputable def Ph_bent_hull := runP dn_bent_hull 8 1
theorem Ph_bent_hull_len (ds : List PyData) (z : PyData) (h : Ph_bent_hull ds = some z) : ds.length = 1 := runP_len ds z h
theorem ok_bent_hull (T : Wd P K mg base) : FnOk P w K mg base CX0 1 T.a_bent_hull T.fd_bent_hull (["points"] : List Str) (spP K 1 Ph_bent_hull) := by
  have key := okP (ca := fun _ => 0) (P := P) (w := w) (mg := mg) (base := base) (k := 0) (n := 1) T.F_bent_hull sc_bent_hull rfl fun cdv A outer s H E hr => (have nd := sc_bent_hull.nd; dss_cons (ds_own 1 nd (df_lst (da_nil)))
    (dss_cons (ds_for rfl (di_seq (de_v 0)) (dg_tup (n := 2) rfl (dgs_cons (dg_name 2 nd) (dgs_cons (dg_name 3 nd) (dgs_nil)))) (dss_cons (ds_while (dt_cmp op_gt o2_B (de_lenV 1 (by rfl) T.b_len) (de_int) (nomark _)) (dss_cons (ds_asg (de_f (df_cutO 1 (do_so (de_un un_neg o1_neg (de_int))) (do_no))) (dg_lst (n := 2) rfl (dgs_cons (dg_tup (n := 2) rfl (dgs_cons (dg_name 4 nd) (dgs_cons (dg_name 5 nd) (dgs_nil)))) (dgs_cons (dg_tup (n := 2) rfl (dgs_cons (dg_name 6 nd) (dgs_cons (dg_name 7 nd) (dgs_nil)))) (dgs_nil)))))
    (dss_cons (ds_if (dt_cmp op_gt o2_B (de_op op_mulG o2_mulI (de_op op_sub o2_sub (de_v 7) (de_v 5)) (de_op op_sub o2_sub (de_v 2) (de_v 6))) (de_op op_mulG o2_mulI (de_op op_sub o2_sub (de_v 3) (de_v 7)) (de_op op_sub o2_sub (de_v 6) (de_v 4))) (nomark _)) (dss_one (ds_break)) (dss_nil))
    (dss_one (ds_expr (de_pop 1))))))
    (dss_one (ds_app 1 (de_tup (da_cons (de_v 2) (da_cons (de_v 3) (da_nil))))))))
    (dss_one (ds_frz 1 (ds_ret (de_v 1))))))
  exact key
abbrev s_join : Stmt := topS 30
theorem sc_join : FnScope (["one", "other", "first", "second", "below", "corners", "amounts", "start", "low", "end", "high", "k"] : List Str) (["one", "other"] : List Str) (defScope s_join) := ⟨rfl, rfl, rfl, by decide +kernel, rfl, by decide +kernel, by decide +kernel⟩
noncomputable def ce_join_1 : Fe :=
  eTup (lCons (eV 11) (lCons (eA gMax2 (lCons (e2 gIx (eV 2) (eV 11)) (lCons (e2 gIx (eV 3) (eV 11)) (lNil)))) (lNil)))
noncomputable def lp_join_1 : Fs :=
  sSet (e2 gAdd (eV 6) (eF (lRep (lLst (lCons (eA Ph_fraction (lCons (e2 gSub (eV 10) (eV 8)) (lCons (e2 gMulI (eV 4) (e2 gSub (eV 9) (eV 7))) (lNil)))) (lNil))) (e2 gSub (eV 9) (eV 7))))) (g1 6)
noncomputable def dn_join : Fs :=
  sSeq (sSet (eA Ph_sums_of_greatest (lCons (eV 0) (lCons (eV 1) (lNil)))) (g2 3 (gsC (g1 2) (gsC (g1 3) (gsC (g1 4) (gsN))))))
  (sSeq (sSet (eA Ph_bent_hull (lCons (eF (lCm (iR1 (lCons (e2 gAdd (eA gLen (lCons (eV 0) (lNil))) (eC (.int 1))) (lNil))) (g1 11) (tYs) (ce_join_1) [11])) (lNil))) (g1 5))
  (sSeq (sSet (eF (lLst (lNil))) (g1 6))
  (sSeq (sFor (iZp (lCons (eV 5) (lCons (eCut (eV 5) (oSo (eC (.int 1))) (oNo)) (lNil)))) (g2 2 (gsC (g2 2 (gsC (g1 7) (gsC (g1 8) (gsN)))) (gsC (g2 2 (gsC (g1 9) (gsC (g1 10) (gsN)))) (gsN)))) (lp_join_1))
  (sRt (eA gTup (lCons (eV 6) (lNil)))))))
noncomputable def Ph_join := runP dn_join 12 2
theorem Ph_join_len (ds : List PyData) (z : PyData) (h : Ph_join ds = some z) : ds.length = 2 := runP_len ds z h
theorem ok_join (T : Wd P K mg base) : FnOk P w K mg base CX0 7 T.a_join T.fd_join (["one", "other"] : List Str) (spP K 2 Ph_join) := by
  have key := okP (ca := fun _ => 0) (P := P) (w := w) (mg := mg) (base := base) (k := 6) (n := 2) T.F_join sc_join rfl fun cdv A outer s H E hr => (have nd := sc_join.nd; dss_cons (ds_asg (de_call (ok_sums_of_greatest T) Ph_sums_of_greatest_len (hr.mono (by decide)) (by rfl) T.m_sums_of_greatest T.F_sums_of_greatest.kp T.n_sums_of_greatest (da_cons (de_v 0) (da_cons (de_v 1) (da_nil)))) (dg_tup (n := 3) rfl (dgs_cons (dg_name 2 nd) (dgs_cons (dg_name 3 nd) (dgs_cons (dg_name 4 nd) (dgs_nil))))))
    (dss_cons (ds_set 5 nd (de_call (ok_bent_hull T) Ph_bent_hull_len (hr.mono (by decide)) (by rfl) T.m_bent_hull T.F_bent_hull.kp T.n_bent_hull (da_cons (de_f (df_comp (own := [("k", 11)]) rfl nd (di_r1 (by rfl) T.b_range (da_cons (de_op op_addG o2_add (de_B call_lenG oA_len (by rfl) T.b_len PySem.boot_len (da_cons (de_v 0) (da_nil))) (de_int)) (da_nil))) (blkOk_by (own := [("k", 11)]) (by kernel_rfl)) (fun _ _ _ _ _ => dg_name 11 nd) (fun _ _ _ _ _ => dts_nil) (fun _ _ _ _ _ => de_tup (da_cons (de_v 11) (da_cons (de_B (call_max2 rfl) oA_max2 (by rfl) T.b_max (by decide +kernel) (da_cons (de_ix ix_seq o2_ix (de_v 2) (de_v 11) (fun _ _ => rfl)) (da_cons (de_ix ix_seq o2_ix (de_v 3) (de_v 11) (fun _ _ => rfl)) (da_nil)))) (da_nil)))))) (da_nil))))
    (dss_cons (ds_set 6 nd (de_f (df_lst (da_nil))))
    (dss_cons (ds_for rfl (di_zip (by rfl) T.b_zip (da_cons (de_v 5) (da_cons (de_cut (de_v 5) (do_so (de_int)) (do_no)) (da_nil)))) (dg_tup (n := 2) rfl (dgs_cons (dg_tup (n := 2) rfl (dgs_cons (dg_name 7 nd) (dgs_cons (dg_name 8 nd) (dgs_nil)))) (dgs_cons (dg_tup (n := 2) rfl (dgs_cons (dg_name 9 nd) (dgs_cons (dg_name 10 nd) (dgs_nil)))) (dgs_nil)))) (dss_one (ds_set 6 nd (de_op op_addG o2_add (de_v 6) (de_f (df_rep (df_lst (da_cons (de_call (ok_fraction T) Ph_fraction_len (hr.mono (by decide)) (by rfl) T.m_fraction T.F_fraction.kp T.n_fraction (da_cons (de_op op_sub o2_sub (de_v 10) (de_v 8)) (da_cons (de_op op_mulG o2_mulI (de_v 4) (de_op op_sub o2_sub (de_v 9) (de_v 7))) (da_nil)))) (da_nil))) (de_op op_sub o2_sub (de_v 9) (de_v 7))))))))
    (dss_one (ds_ret (de_T call_tuple_of oA_tup (by rfl) T.b_tuple (by decide +kernel) (da_cons (de_v 6) (da_nil)))))))))
  exact key
abbrev s_law_folded : Stmt := topS 48
theorem sc_law_folded : FnScope (["_law_door", "_law_entries", "_law_held", "_law_entry"] : List Str) (["_law_door", "_law_entries"] : List Str) (defScope s_law_folded) := ⟨rfl, rfl, rfl, by decide +kernel, rfl, by decide +kernel, by decide +kernel⟩
noncomputable def lp_law_folded_1 : Fs :=
  sIf (tB' (e2 gEq (eV 0) (eC (.int 0)))) (sSet (eA Ph_meet (lCons (eV 2) (lCons (eV 3) (lNil)))) (g1 2)) (sSet (eA Ph_join (lCons (eV 2) (lCons (eV 3) (lNil)))) (g1 2))
noncomputable def dn_law_folded : Fs :=
  sSeq (sSet (e2 gIx (eV 1) (eC (.int 0))) (g1 2))
  (sSeq (sFor (iSeq (eCut (eV 1) (oSo (eC (.int 1))) (oNo))) (g1 3) (lp_law_folded_1))
  (sRt (eV 2)))
noncomputable def Ph_law_folded := runP dn_law_folded 4 2
theorem Ph_law_folded_len (ds : List PyData) (z : PyData) (h : Ph_law_folded ds = some z) : ds.length = 2 := runP_len ds z h
theorem ok_law_folded (T : Wd P K mg base) : FnOk P w K mg base CX0 8 T.a_law_folded T.fd_law_folded (["_law_door", "_law_entries"] : List Str) (spP K 2 Ph_law_folded) := by
  have key := okP (ca := fun _ => 0) (P := P) (w := w) (mg := mg) (base := base) (k := 7) (n := 2) T.F_law_folded sc_law_folded rfl fun cdv A outer s H E hr => (have nd := sc_law_folded.nd; dss_cons (ds_set 2 nd (de_ix ix_seq o2_ix (de_v 1) (de_int) (fun _ _ => rfl)))
    (dss_cons (ds_for rfl (di_seq (de_cut (de_v 1) (do_so (de_int)) (do_no))) (dg_name 3 nd) (dss_one (ds_if (dt_cmp (op_eqD (hu64 hr)) o2_eq (de_v 0) (de_int) (nomark _)) (dss_one (ds_set 2 nd (de_call (ok_meet T) Ph_meet_len (hr.mono (by decide)) (by rfl) T.m_meet T.F_meet.kp T.n_meet (da_cons (de_v 2) (da_cons (de_v 3) (da_nil)))))) (dss_one (ds_set 2 nd (de_call (ok_join T) Ph_join_len (hr.mono (by decide)) (by rfl) T.m_join T.F_join.kp T.n_join (da_cons (de_v 2) (da_cons (de_v 3) (da_nil)))))))))
    (dss_one (ds_ret (de_v 2)))))
  exact key
abbrev s_law_same : Stmt := topS 37
theorem sc_law_same : FnScope (["_law_told", "_law_due"] : List Str) (["_law_told", "_law_due"] : List Str) (defScope s_law_same) := ⟨rfl, rfl, rfl, by decide +kernel, rfl, by decide +kernel, by decide +kernel⟩
noncomputable def dn_law_same : Fs :=
  sRt (eAn (e2 gEq (eV 0) (eV 1)) (e2 gRepEq (eV 0) (eV 1)))
noncomputable def Ph_law_same := runP dn_law_same 2 2
theorem Ph_law_same_len (ds : List PyData) (z : PyData) (h : Ph_law_same ds = some z) : ds.length = 2 := runP_len ds z h
theorem ok_law_same (T : Wd P K mg base) : FnOk P w K mg base CX0 1 T.a_law_same T.fd_law_same (["_law_told", "_law_due"] : List Str) (spP K 2 Ph_law_same) := by
  have key := okP (ca := fun _ => 0) (P := P) (w := w) (mg := mg) (base := base) (k := 0) (n := 2) T.F_law_same sc_law_same rfl fun cdv A outer s H E hr => (have nd := sc_law_same.nd; dss_one (ds_ret (de_and (de_cmp (op_eqD (hu64 hr)) o2_eq (de_v 0) (de_v 1) (nomark _)) (de_one (de_repEq (by rfl) T.b_repr hr.gd (hu80 hr) (de_v 0) (de_v 1))))))
  exact key
abbrev s_law_sums : Stmt := topS 42
theorem sc_law_sums : FnScope (["_law_numbers_here", "_law_ranked", "_law_k"] : List Str) (["_law_numbers_here"] : List Str) (defScope s_law_sums) := ⟨rfl, rfl, rfl, by decide +kernel, rfl, by decide +kernel, by decide +kernel⟩
noncomputable def ce_law_sums_1 : Fe :=
  eA gSum (lCons (eCut (eV 1) (oNo) (oSo (eV 2))) (lNil))
noncomputable def dn_law_sums : Fs :=
  sSeq (sSet (eF (lSrtR (lCons (eV 0) (lNil)))) (g1 1))
  (sRt (eF (lCm (iR1 (lCons (e2 gAdd (eA gLen (lCons (eV 1) (lNil))) (eC (.int 1))) (lNil))) (g1 2) (tYs) (ce_law_sums_1) [2])))
noncomputable def Ph_law_sums := runP dn_law_sums 3 1
theorem Ph_law_sums_len (ds : List PyData) (z : PyData) (h : Ph_law_sums ds = some z) : ds.length = 1 := runP_len ds z h
theorem ok_law_sums (T : Wd P K mg base) : FnOk P w K mg base CX0 1 T.a_law_sums T.fd_law_sums (["_law_numbers_here"] : List Str) (spP K 1 Ph_law_sums) := by
  have key := okP (ca := fun _ => 0) (P := P) (w := w) (mg := mg) (base := base) (k := 0) (n := 1) T.F_law_sums sc_law_sums rfl fun cdv A outer s H E hr => (have nd := sc_law_sums.nd; dss_cons (ds_set 1 nd (de_f (df_sortR (by rfl) T.b_sorted (da_cons (de_v 0) (da_nil)))))
    (dss_one (ds_ret (de_f (df_comp (own := [("_law_k", 2)]) rfl nd (di_r1 (by rfl) T.b_range (da_cons (de_op op_addG o2_add (de_B call_lenG oA_len (by rfl) T.b_len PySem.boot_len (da_cons (de_v 1) (da_nil))) (de_int)) (da_nil))) (blkOk_by (own := [("_law_k", 2)]) (by kernel_rfl)) (fun _ _ _ _ _ => dg_name 2 nd) (fun _ _ _ _ _ => dts_nil) (fun _ _ _ _ _ => de_B (cr_sum rfl) oA_sum (by rfl) T.b_sum (by decide +kernel) (da_cons (de_cut (de_v 1) (do_no) (do_so (de_v 2))) (da_nil))))))))
  exact key
abbrev s_law_steps : Stmt := topS 45
theorem sc_law_steps : FnScope (["_law_sums_here", "_law_k"] : List Str) (["_law_sums_here"] : List Str) (defScope s_law_steps) := ⟨rfl, rfl, rfl, by decide +kernel, rfl, by decide +kernel, by decide +kernel⟩
noncomputable def ce_law_steps_1 : Fe :=
  e2 gSub (e2 gIx (eV 0) (e2 gAdd (eV 1) (eC (.int 1)))) (e2 gIx (eV 0) (eV 1))
noncomputable def dn_law_steps : Fs :=
  sRt (eF (lCm (iR1 (lCons (e2 gSub (eA gLen (lCons (eV 0) (lNil))) (eC (.int 1))) (lNil))) (g1 1) (tYs) (ce_law_steps_1) [1]))
noncomputable def Ph_law_steps := runP dn_law_steps 2 1
theorem Ph_law_steps_len (ds : List PyData) (z : PyData) (h : Ph_law_steps ds = some z) : ds.length = 1 := runP_len ds z h
theorem ok_law_steps (T : Wd P K mg base) : FnOk P w K mg base CX0 1 T.a_law_steps T.fd_law_steps (["_law_sums_here"] : List Str) (spP K 1 Ph_law_steps) := by
  have key := okP (ca := fun _ => 0) (P := P) (w := w) (mg := mg) (base := base) (k := 0) (n := 1) T.F_law_steps sc_law_steps rfl fun cdv A outer s H E hr => (have nd := sc_law_steps.nd; dss_one (ds_ret (de_f (df_comp (own := [("_law_k", 1)]) rfl nd (di_r1 (by rfl) T.b_range (da_cons (de_op op_sub o2_sub (de_B call_lenG oA_len (by rfl) T.b_len PySem.boot_len (da_cons (de_v 0) (da_nil))) (de_int)) (da_nil))) (blkOk_by (own := [("_law_k", 1)]) (by kernel_rfl)) (fun _ _ _ _ _ => dg_name 1 nd) (fun _ _ _ _ _ => dts_nil) (fun _ _ _ _ _ => de_op op_sub o2_sub (de_ix ix_seq o2_ix (de_v 0) (de_op op_addG o2_add (de_v 1) (de_int)) (fun _ _ => rfl)) (de_ix ix_seq o2_ix (de_v 0) (de_v 1) (fun _ _ => rfl)))))))
  exact key
abbrev s_law_lowest : Stmt := topS 46
theorem sc_law_lowest : FnScope (["_law_lists", "_law_rows", "_law_numbers_here", "_law_k", "_law_row"] : List Str) (["_law_lists"] : List Str) (defScope s_law_lowest) := ⟨rfl, rfl, rfl, by decide +kernel, rfl, by decide +kernel, by decide +kernel⟩
noncomputable def ce_law_lowest_1 : Fe :=
  eA Ph_law_sums (lCons (eV 2) (lNil))
noncomputable def ce_law_lowest_2 : Fe :=
  e2 gIx (eV 4) (eV 3)
noncomputable def ce_law_lowest_3 : Fe :=
  eA gMinL (lCons (eF (lCm (iSeq (eV 1)) (g1 4) (tYs) (ce_law_lowest_2) [4])) (lNil))
noncomputable def dn_law_lowest : Fs :=
  sSeq (sSet (eF (lCm (iSeq (eV 0)) (g1 2) (tYs) (ce_law_lowest_1) [2])) (g1 1))
  (sRt (eA Ph_law_steps (lCons (eF (lCm (iR1 (lCons (eA gLen (lCons (e2 gIx (eV 1) (eC (.int 0))) (lNil))) (lNil))) (g1 3) (tYs) (ce_law_lowest_3) [3])) (lNil))))
noncomputable def Ph_law_lowest := runP dn_law_lowest 5 1
theorem Ph_law_lowest_len (ds : List PyData) (z : PyData) (h : Ph_law_lowest ds = some z) : ds.length = 1 := runP_len ds z h
theorem ok_law_lowest (T : Wd P K mg base) : FnOk P w K mg base CX0 2 T.a_law_lowest T.fd_law_lowest (["_law_lists"] : List Str) (spP K 1 Ph_law_lowest) := by
  have key := okP (ca := fun _ => 0) (P := P) (w := w) (mg := mg) (base := base) (k := 1) (n := 1) T.F_law_lowest sc_law_lowest rfl fun cdv A outer s H E hr => (have nd := sc_law_lowest.nd; dss_cons (ds_set 1 nd (de_f (df_comp (own := [("_law_numbers_here", 2)]) rfl nd (di_seq (de_v 0)) (blkOk_by (own := [("_law_numbers_here", 2)]) (by kernel_rfl)) (fun _ _ _ _ _ => dg_name 2 nd) (fun _ _ _ _ _ => dts_nil) (fun _ _ _ _ _ => de_call (ok_law_sums T) Ph_law_sums_len (hr.mono (by decide)) (by rfl) T.m_law_sums T.F_law_sums.kp T.n_law_sums (da_cons (de_v 2) (da_nil))))))
    (dss_one (ds_ret (de_call (ok_law_steps T) Ph_law_steps_len (hr.mono (by decide)) (by rfl) T.m_law_steps T.F_law_steps.kp T.n_law_steps (da_cons (de_f (df_comp (own := [("_law_k", 3)]) rfl nd (di_r1 (by rfl) T.b_range (da_cons (de_B call_lenG oA_len (by rfl) T.b_len PySem.boot_len (da_cons (de_ix ix_seq o2_ix (de_v 1) (de_int) (fun _ _ => rfl)) (da_nil))) (da_nil))) (blkOk_by (own := [("_law_k", 3)]) (by kernel_rfl)) (fun _ _ _ _ _ => dg_name 3 nd) (fun _ _ _ _ _ => dts_nil) (fun _ _ _ _ _ => de_B (cr_min rfl) oA_minL (by rfl) T.b_min (by decide +kernel) (da_cons (de_f (df_comp (own := [("_law_row", 4)]) rfl nd (di_seq (de_v 1)) (blkOk_by (own := [("_law_row", 4)]) (by kernel_rfl)) (fun _ _ _ _ _ => dg_name 4 nd) (fun _ _ _ _ _ => dts_nil) (fun _ _ _ _ _ => de_ix ix_seq o2_ix (de_v 4) (de_v 3) (fun _ _ => rfl)))) (da_nil))))) (da_nil))))))
  exact key
abbrev s_law_highest : Stmt := topS 47
theorem sc_law_highest : FnScope (["_law_lists", "_law_rows", "_law_tops", "_law_heights", "_law_k", "_law_best", "_law_low", "_law_high", "_law_height", "_law_numbers_here", "_law_row"] : List Str) (["_law_lists"] : List Str) (defScope s_law_highest) := ⟨rfl, rfl, rfl, by decide +kernel, rfl, by decide +kernel, by decide +kernel⟩
noncomputable def ce_law_highest_1 : Fe :=
  eA Ph_law_sums (lCons (eV 9) (lNil))
noncomputable def ce_law_highest_2 : Fe :=
  e2 gIx (eV 10) (eV 4)
noncomputable def ce_law_highest_3 : Fe :=
  eA gMaxL (lCons (eF (lCm (iSeq (eV 1)) (g1 10) (tYs) (ce_law_highest_2) [10])) (lNil))
noncomputable def lp_law_highest_1 : Fs :=
  sSeq (sSet (e2 gAdd (e2 gMulI (e2 gIx (eV 2) (eV 6)) (e2 gSub (eV 7) (eV 4))) (e2 gMulI (e2 gIx (eV 2) (eV 7)) (e2 gSub (eV 4) (eV 6)))) (g1 8))
  (sSet (eA gMax2 (lCons (eV 5) (lCons (e2 gFdiv (e2 gMulI (eV 8) (eC (.int 420))) (e2 gSub (eV 7) (eV 6))) (lNil)))) (g1 5))
noncomputable def lp_law_highest_2 : Fs :=
  sFor (iR2 (lCons (e2 gAdd (eV 4) (eC (.int 1))) (lCons (eA gLen (lCons (eV 2) (lNil))) (lNil)))) (g1 7) (lp_law_highest_1)
noncomputable def lp_law_highest_3 : Fs :=
  sSeq (sSet (e2 gMulI (eC (.int 420)) (e2 gIx (eV 2) (eV 4))) (g1 5))
  (sSeq (sFor (iR1 (lCons (eV 4) (lNil))) (g1 6) (lp_law_highest_2))
  (sApp 3 (eV 5)))
noncomputable def dn_law_highest : Fs :=
  sSeq (sSet (eF (lCm (iSeq (eV 0)) (g1 9) (tYs) (ce_law_highest_1) [9])) (g1 1))
  (sSeq (sSet (eF (lCm (iR1 (lCons (eA gLen (lCons (e2 gIx (eV 1) (eC (.int 0))) (lNil))) (lNil))) (g1 4) (tYs) (ce_law_highest_3) [4])) (g1 2))
  (sSeq (sOwn (lLst (lNil)) 3)
  (sSeq (sFor (iR1 (lCons (eA gLen (lCons (eV 2) (lNil))) (lNil))) (g1 4) (lp_law_highest_3))
  (sFrz 3 (sRt (eA Ph_law_steps (lCons (eV 3) (lNil))))))))
noncomputable def Ph_law_highest := runP dn_law_highest 11 1
theorem Ph_law_highest_len (ds : List PyData) (z : PyData) (h : Ph_law_highest ds = some z) : ds.length = 1 := runP_len ds z h
theorem ok_law_highest (T : Wd P K mg base) : FnOk P w K mg base CX0 2 T.a_law_highest T.fd_law_highest (["_law_lists"] : List Str) (spP K 1 Ph_law_highest) := by
  have key := okP (ca := fun _ => 0) (P := P) (w := w) (mg := mg) (base := base) (k := 1) (n := 1) T.F_law_highest sc_law_highest rfl fun cdv A outer s H E hr => (have nd := sc_law_highest.nd; dss_cons (ds_set 1 nd (de_f (df_comp (own := [("_law_numbers_here", 9)]) rfl nd (di_seq (de_v 0)) (blkOk_by (own := [("_law_numbers_here", 9)]) (by kernel_rfl)) (fun _ _ _ _ _ => dg_name 9 nd) (fun _ _ _ _ _ => dts_nil) (fun _ _ _ _ _ => de_call (ok_law_sums T) Ph_law_sums_len (hr.mono (by decide)) (by rfl) T.m_law_sums T.F_law_sums.kp T.n_law_sums (da_cons (de_v 9) (da_nil))))))
    (dss_cons (ds_setComp (own := [("_law_k", 4)]) 2 rfl nd (sw_true rfl rfl rfl (by decide +kernel)) (di_r1 (by rfl) T.b_range (da_cons (de_B call_lenG oA_len (by rfl) T.b_len PySem.boot_len (da_cons (de_ix ix_seq o2_ix (de_v 1) (de_int) (fun _ _ => rfl)) (da_nil))) (da_nil))) (blkOk_by (own := [("_law_k", 4)]) (by kernel_rfl)) (fun _ _ _ _ _ => dg_name 4 nd) (fun _ _ _ _ _ => dts_nil) (fun _ _ _ _ _ => de_B (cr_max rfl) oA_maxL (by rfl) T.b_max (by decide +kernel) (da_cons (de_f (df_comp (own := [("_law_row", 10)]) rfl nd (di_seq (de_v 1)) (blkOk_by (own := [("_law_row", 10)]) (by kernel_rfl)) (fun _ _ _ _ _ => dg_name 10 nd) (fun _ _ _ _ _ => dts_nil) (fun _ _ _ _ _ => de_ix ix_seq o2_ix (de_v 10) (de_v 4) (fun _ _ => rfl)))) (da_nil))))
    (dss_cons (ds_own 3 nd (df_lst (da_nil)))
    (dss_cons (ds_for rfl (di_r1 (by rfl) T.b_range (da_cons (de_B call_lenG oA_len (by rfl) T.b_len PySem.boot_len (da_cons (de_v 2) (da_nil))) (da_nil))) (dg_name 4 nd) (dss_cons (ds_set 5 nd (de_op op_mulG o2_mulI (de_int) (de_ix ix_seq o2_ix (de_v 2) (de_v 4) (fun _ _ => rfl))))
    (dss_cons (ds_for rfl (di_r1 (by rfl) T.b_range (da_cons (de_v 4) (da_nil))) (dg_name 6 nd) (dss_one (ds_for rfl (di_r2 (by rfl) T.b_range (da_cons (de_op op_addG o2_add (de_v 4) (de_int)) (da_cons (de_B call_lenG oA_len (by rfl) T.b_len PySem.boot_len (da_cons (de_v 2) (da_nil))) (da_nil)))) (dg_name 7 nd) (dss_cons (ds_set 8 nd (de_op op_addG o2_add (de_op op_mulG o2_mulI (de_ix ix_seq o2_ix (de_v 2) (de_v 6) (fun _ _ => rfl)) (de_op op_sub o2_sub (de_v 7) (de_v 4))) (de_op op_mulG o2_mulI (de_ix ix_seq o2_ix (de_v 2) (de_v 7) (fun _ _ => rfl)) (de_op op_sub o2_sub (de_v 4) (de_v 6)))))
    (dss_one (ds_set 5 nd (de_B (call_max2 rfl) oA_max2 (by rfl) T.b_max (by decide +kernel) (da_cons (de_v 5) (da_cons (de_op op_fdivG o2_fdiv (de_op op_mulG o2_mulI (de_v 8) (de_int)) (de_op op_sub o2_sub (de_v 7) (de_v 6))) (da_nil))))))))))
    (dss_one (ds_app 3 (de_v 5))))))
    (dss_one (ds_frz 3 (ds_ret (de_call (ok_law_steps T) Ph_law_steps_len (hr.mono (by decide)) (by rfl) T.m_law_steps T.F_law_steps.kp T.n_law_steps (da_cons (de_v 3) (da_nil))))))))))
  exact key
abbrev s_gap_between : Stmt := topS 24
theorem sc_gap_between : FnScope (["first", "second", "ahead", "k", "one", "other"] : List Str) (["first", "second"] : List Str) (defScope s_gap_between) := ⟨rfl, rfl, rfl, by decide +kernel, rfl, by decide +kernel, by decide +kernel⟩
noncomputable def lp_gap_between_1 : Fs :=
  sSeq (sSet (e2 gSub (e2 gAdd (eV 2) (eV 4)) (eV 5)) (g1 2))
  (sIf (tB' (e2 gLt (eV 2) (eC (.int 0)))) (sRt (e2 gAdd (eV 3) (eC (.int 1)))) (sNx))
noncomputable def dn_gap_between : Fs :=
  sSeq (sIf (tB' (e2 gNe (eA gSum (lCons (eV 0) (lNil))) (eA gSum (lCons (eV 1) (lNil))))) (sRt (eC (.int 0))) (sNx))
  (sSeq (sSet (eC (.int 0)) (g1 2))
  (sSeq (sFor (iEnZ (lCons (eV 0) (lCons (eV 1) (lNil)))) (g2 2 (gsC (g1 3) (gsC (g2 2 (gsC (g1 4) (gsC (g1 5) (gsN)))) (gsN)))) (lp_gap_between_1))
  (sRt (eC .none))))
noncomputable def Ph_gap_between := runP dn_gap_between 6 2
theorem Ph_gap_between_len (ds : List PyData) (z : PyData) (h : Ph_gap_between ds = some z) : ds.length = 2 := runP_len ds z h
theorem ok_gap_between (T : Wd P K mg base) : FnOk P w K mg base CX0 1 T.a_gap_between T.fd_gap_between (["first", "second"] : List Str) (spP K 2 Ph_gap_between) := by
  have key := okP (ca := fun _ => 0) (P := P) (w := w) (mg := mg) (base := base) (k := 0) (n := 2) T.F_gap_between sc_gap_between rfl fun cdv A outer s H E hr => (have nd := sc_gap_between.nd; dss_cons (ds_if (dt_cmp (op_neD (hu64 hr)) o2_ne (de_B (cr_sum rfl) oA_sum (by rfl) T.b_sum (by decide +kernel) (da_cons (de_v 0) (da_nil))) (de_B (cr_sum rfl) oA_sum (by rfl) T.b_sum (by decide +kernel) (da_cons (de_v 1) (da_nil))) (nomark _)) (dss_one (ds_ret (de_int))) (dss_nil))
    (dss_cons (ds_set 2 nd (de_int))
    (dss_cons (ds_for rfl (di_enumzip (by rfl) T.b_enumerate (by rfl) T.b_zip (da_cons (de_v 0) (da_cons (de_v 1) (da_nil)))) (dg_tup (n := 2) rfl (dgs_cons (dg_name 3 nd) (dgs_cons (dg_tup (n := 2) rfl (dgs_cons (dg_name 4 nd) (dgs_cons (dg_name 5 nd) (dgs_nil)))) (dgs_nil)))) (dss_cons (ds_set 2 nd (de_op op_sub o2_sub (de_op op_addG o2_add (de_v 2) (de_v 4)) (de_v 5)))
    (dss_one (ds_if (dt_cmp op_lt o2_B (de_v 2) (de_int) (nomark _)) (dss_one (ds_ret (de_op op_addG o2_add (de_v 3) (de_int)))) (dss_nil)))))
    (dss_one (ds_ret (de_non))))))
  exact key
abbrev s_first_gap : Stmt := topS 25
theorem sc_first_gap : FnScope (["one", "other", "first", "second", "below"] : List Str) (["one", "other"] : List Str) (defScope s_first_gap) := ⟨rfl, rfl, rfl, by decide +kernel, rfl, by decide +kernel, by decide +kernel⟩
noncomputable def dn_first_gap : Fs :=
  sSeq (sEx (eA Ph_need_both (lCons (eV 0) (lCons (eV 1) (lNil)))))
  (sSeq (sSet (eA Ph_on_integers (lCons (eV 0) (lCons (eV 1) (lNil)))) (g2 3 (gsC (g1 2) (gsC (g1 3) (gsC (g1 4) (gsN))))))
  (sRt (eA Ph_gap_between (lCons (eA Ph_falling (lCons (eV 2) (lNil))) (lCons (eA Ph_falling (lCons (eV 3) (lNil))) (lNil))))))
noncomputable def Ph_first_gap := runP dn_first_gap 5 2
theorem Ph_first_gap_len (ds : List PyData) (z : PyData) (h : Ph_first_gap ds = some z) : ds.length = 2 := runP_len ds z h
theorem ok_first_gap (T : Wd P K mg base) : FnOk P w K mg base CX0 6 T.a_first_gap T.fd_first_gap (["one", "other"] : List Str) (spP K 2 Ph_first_gap) := by
  have key := okP (ca := fun _ => 0) (P := P) (w := w) (mg := mg) (base := base) (k := 5) (n := 2) T.F_first_gap sc_first_gap rfl fun cdv A outer s H E hr => (have nd := sc_first_gap.nd; dss_cons (ds_expr (de_call (ok_need_both T) Ph_need_both_len (hr.mono (by decide)) (by rfl) T.m_need_both T.F_need_both.kp T.n_need_both (da_cons (de_v 0) (da_cons (de_v 1) (da_nil)))))
    (dss_cons (ds_asg (de_call (ok_on_integers T) Ph_on_integers_len (hr.mono (by decide)) (by rfl) T.m_on_integers T.F_on_integers.kp T.n_on_integers (da_cons (de_v 0) (da_cons (de_v 1) (da_nil)))) (dg_tup (n := 3) rfl (dgs_cons (dg_name 2 nd) (dgs_cons (dg_name 3 nd) (dgs_cons (dg_name 4 nd) (dgs_nil))))))
    (dss_one (ds_ret (de_call (ok_gap_between T) Ph_gap_between_len (hr.mono (by decide)) (by rfl) T.m_gap_between T.F_gap_between.kp T.n_gap_between (da_cons (de_call (ok_falling T) Ph_falling_len (hr.mono (by decide)) (by rfl) T.m_falling T.F_falling.kp T.n_falling (da_cons (de_v 2) (da_nil))) (da_cons (de_call (ok_falling T) Ph_falling_len (hr.mono (by decide)) (by rfl) T.m_falling T.F_falling.kp T.n_falling (da_cons (de_v 3) (da_nil))) (da_nil))))))))
  exact key
abbrev s_is_more_even : Stmt := topS 26
theorem sc_is_more_even : FnScope (["one", "other"] : List Str) (["one", "other"] : List Str) (defScope s_is_more_even) := ⟨rfl, rfl, rfl, by decide +kernel, rfl, by decide +kernel, by decide +kernel⟩
noncomputable def dn_is_more_even : Fs :=
  sRt (eIsN (eA Ph_first_gap (lCons (eV 0) (lCons (eV 1) (lNil)))))
noncomputable def Ph_is_more_even := runP dn_is_more_even 2 2
theorem Ph_is_more_even_len (ds : List PyData) (z : PyData) (h : Ph_is_more_even ds = some z) : ds.length = 2 := runP_len ds z h
theorem ok_is_more_even (T : Wd P K mg base) : FnOk P w K mg base CX0 7 T.a_is_more_even T.fd_is_more_even (["one", "other"] : List Str) (spP K 2 Ph_is_more_even) := by
  have key := okP (ca := fun _ => 0) (P := P) (w := w) (mg := mg) (base := base) (k := 6) (n := 2) T.F_is_more_even sc_is_more_even rfl fun cdv A outer s H E hr => (have nd := sc_is_more_even.nd; dss_one (ds_ret (de_isN (de_call (ok_first_gap T) Ph_first_gap_len (hr.mono (by decide)) (by rfl) T.m_first_gap T.F_first_gap.kp T.n_first_gap (da_cons (de_v 0) (da_cons (de_v 1) (da_nil)))))))
  exact key
abbrev s_law_exchanged : Stmt := topS 40
theorem sc_law_exchanged : FnScope (["_law_well_here", "_law_numbers_here", "_law_turns", "_law_held", "_law_turn", "_law_high", "_law_low", "_law_moved_here"] : List Str) (["_law_well_here", "_law_numbers_here", "_law_turns"] : List Str) (defScope s_law_exchanged) := ⟨rfl, rfl, rfl, by decide +kernel, rfl, by decide +kernel, by decide +kernel⟩
noncomputable def lp_law_exchanged_1 : Fs :=
  sSeq (sSet (eM 0 Ph_law_lift (lCons (eLenV 3) (lNil))) (g1 5))
  (sSeq (sSet (eM 0 Ph_law_lift (lCons (eLenV 3) (lNil))) (g1 6))
  (sIf (tB' (e2 gGt (eIxV 3 (eV 5)) (eIxV 3 (eV 6)))) (sSeq (sSet (eM 0 Ph_law_lift (lCons (e2 gAdd (e2 gSub (eIxV 3 (eV 5)) (eIxV 3 (eV 6))) (eC (.int 1))) (lNil))) (g1 7))
  (sSeq (sPut 3 (eV 5) (e2 gSub (eIxV 3 (eV 5)) (eV 7)))
  (sPut 3 (eV 6) (e2 gAdd (eIxV 3 (eV 6)) (eV 7))))) (sNx)))
noncomputable def dn_law_exchanged : Fs :=
  sSeq (sOwn (lOf (lCons (eV 1) (lNil))) 3)
  (sSeq (sFor (iR1 (lCons (eV 2) (lNil))) (g1 4) (lp_law_exchanged_1))
  (sFrz 3 (sRt (eV 3))))
noncomputable def Ph_law_exchanged := runM dn_law_exchanged 8 3
theorem Ph_law_exchanged_len (ks ds : List PyData) (z : PyData × List PyData) (h : Ph_law_exchanged ks ds = some z) : ds.length + 1 = 3 := runM_len ks ds z h
theorem ok_law_exchanged (T : Wd P K mg base) : FnOk P w K mg base CX0 2 T.a_law_exchanged T.fd_law_exchanged (["_law_well_here", "_law_numbers_here", "_law_turns"] : List Str) (spM K 3 Ph_law_exchanged) := by
  have key := okM (ca := fun _ => 0) (P := P) (w := w) (mg := mg) (base := base) (k := 1) (n := 3) T.F_law_exchanged sc_law_exchanged rfl fun cdv A outer s H E hr => (have nd := sc_law_exchanged.nd; dss_cons (ds_own 3 nd (df_listOf (by rfl) T.b_list (da_cons (de_v 1) (da_nil))))
    (dss_cons (ds_for rfl (di_r1 (by rfl) T.b_range (da_cons (de_v 2) (da_nil))) (dg_name 4 nd) (dss_cons (ds_set 5 nd (de_callM 0 (ok_law_lift T) Ph_law_lift_len (hr.mono (by decide)) (by rfl) T.m_law_lift T.F_law_lift.kp T.n_law_lift (da_cons (de_lenV 3 (by rfl) T.b_len) (da_nil))))
    (dss_cons (ds_set 6 nd (de_callM 0 (ok_law_lift T) Ph_law_lift_len (hr.mono (by decide)) (by rfl) T.m_law_lift T.F_law_lift.kp T.n_law_lift (da_cons (de_lenV 3 (by rfl) T.b_len) (da_nil))))
    (dss_one (ds_if (dt_cmp op_gt o2_B (de_ixV 3 (de_v 5)) (de_ixV 3 (de_v 6)) (nomark _)) (dss_cons (ds_set 7 nd (de_callM 0 (ok_law_lift T) Ph_law_lift_len (hr.mono (by decide)) (by rfl) T.m_law_lift T.F_law_lift.kp T.n_law_lift (da_cons (de_op op_addG o2_add (de_op op_sub o2_sub (de_ixV 3 (de_v 5)) (de_ixV 3 (de_v 6))) (de_int)) (da_nil))))
    (dss_cons (ds_put 3 (de_op op_sub o2_sub (de_ixV 3 (de_v 5)) (de_v 7)) (de_v 5))
    (dss_one (ds_put 3 (de_op op_addG o2_add (de_ixV 3 (de_v 6)) (de_v 7)) (de_v 6))))) (dss_nil))))))
    (dss_one (ds_frz 3 (ds_ret (de_v 3))))))
  exact key
abbrev s_law_leads : Stmt := topS 43
theorem sc_law_leads : FnScope (["_law_first", "_law_second", "_law_ahead", "_law_behind"] : List Str) (["_law_first", "_law_second"] : List Str) (defScope s_law_leads) := ⟨rfl, rfl, rfl, by decide +kernel, rfl, by decide +kernel, by decide +kernel⟩
noncomputable def ce_law_leads_1 : Fe :=
  e2 gGe (eV 2) (eV 3)
noncomputable def dn_law_leads : Fs :=
  sRt (e2 gNinL (eC (.bool false)) (eF (lCm (iZp (lCons (eA Ph_law_sums (lCons (eV 0) (lNil))) (lCons (eA Ph_law_sums (lCons (eV 1) (lNil))) (lNil)))) (g2 2 (gsC (g1 2) (gsC (g1 3) (gsN)))) (tYs) (ce_law_leads_1) [2, 3])))
noncomputable def Ph_law_leads := runP dn_law_leads 4 2
theorem Ph_law_leads_len (ds : List PyData) (z : PyData) (h : Ph_law_leads ds = some z) : ds.length = 2 := runP_len ds z h
theorem ok_law_leads (T : Wd P K mg base) : FnOk P w K mg base CX0 2 T.a_law_leads T.fd_law_leads (["_law_first", "_law_second"] : List Str) (spP K 2 Ph_law_leads) := by
  have key := okP (ca := fun _ => 0) (P := P) (w := w) (mg := mg) (base := base) (k := 1) (n := 2) T.F_law_leads sc_law_leads rfl fun cdv A outer s H E hr => (have nd := sc_law_leads.nd; dss_one (ds_ret (de_cmp (op_notInD (hu65 hr)) o2_ninL (de_bl) (de_f (df_comp (own := [("_law_ahead", 2), ("_law_behind", 3)]) rfl nd (di_zip (by rfl) T.b_zip (da_cons (de_call (ok_law_sums T) Ph_law_sums_len (hr.mono (by decide)) (by rfl) T.m_law_sums T.F_law_sums.kp T.n_law_sums (da_cons (de_v 0) (da_nil))) (da_cons (de_call (ok_law_sums T) Ph_law_sums_len (hr.mono (by decide)) (by rfl) T.m_law_sums T.F_law_sums.kp T.n_law_sums (da_cons (de_v 1) (da_nil))) (da_nil)))) (blkOk_by (own := [("_law_ahead", 2), ("_law_behind", 3)]) (by kernel_rfl)) (fun _ _ _ _ _ => dg_tup (n := 2) rfl (dgs_cons (dg_name 2 nd) (dgs_cons (dg_name 3 nd) (dgs_nil)))) (fun _ _ _ _ _ => dts_nil) (fun _ _ _ _ _ => de_cmp op_ge o2_B (de_v 2) (de_v 3) (nomark _)))) (by rfl))))
  exact key
abbrev s_law_further_right : Stmt := topS 49
theorem sc_law_further_right : FnScope (["_law_well_here", "_law_lists", "_law_least", "_law_below", "_law_low", "_law_made", "_law_further", "_law_given", "_law_due", "_law_numbers_here"] : List Str) (["_law_well_here", "_law_lists", "_law_least", "_law_below"] : List Str) (defScope s_law_further_right) := ⟨rfl, rfl, rfl, by decide +kernel, rfl, by decide +kernel, by decide +kernel⟩
noncomputable def ce_law_further_right_1 : Fe :=
  eA Ph_law_leads (lCons (eV 9) (lCons (eV 6) (lNil)))
noncomputable def lp_law_further_right_1 : Fs :=
  sSeq (sSet (eA Ph_law_amounts (lCons (eV 6) (lCons (eV 3) (lNil)))) (g1 7))
  (sSeq (sSet (e2 gNinL (eC (.bool false)) (eF (lCm (iSeq (eV 1)) (g1 9) (tYs) (ce_law_further_right_1) [9]))) (g1 8))
  (sIf (tNo (tTr (eA Ph_law_same (lCons (eA Ph_is_more_even (lCons (eV 2) (lCons (eV 7) (lNil)))) (lCons (eV 8) (lNil)))))) (sRt (eC (.bool false))) (sNx)))
noncomputable def dn_law_further_right : Fs :=
  sSeq (sSet (eA Ph_law_lowest (lCons (eV 1) (lNil))) (g1 4))
  (sSeq (sSet (eF (lLst (lCons (eM 0 Ph_law_exchanged (lCons (eV 4) (lCons (eM 0 Ph_law_lift (lCons (eC (.int 6)) (lNil))) (lNil)))) (lCons (eM 0 Ph_law_moved (lCons (eV 4) (lNil))) (lCons (eM 0 Ph_law_moved (lCons (e2 gIx (eV 1) (eC (.int 0))) (lNil))) (lNil)))))) (g1 5))
  (sSeq (sFor (iSeq (e2 gAdd (eV 5) (eF (lLst (lCons (eV 4) (lCons (e2 gIx (eV 1) (e1 gNeg (eC (.int 1)))) (lNil))))))) (g1 6) (lp_law_further_right_1))
  (sRt (eC (.bool true)))))
noncomputable def Ph_law_further_right := runM dn_law_further_right 10 4
theorem Ph_law_further_right_len (ks ds : List PyData) (z : PyData × List PyData) (h : Ph_law_further_right ks ds = some z) : ds.length + 1 = 4 := runM_len ks ds z h
theorem ok_law_further_right (T : Wd P K mg base) : FnOk P w K mg base CX0 8 T.a_law_further_right T.fd_law_further_right (["_law_well_here", "_law_lists", "_law_least", "_law_below"] : List Str) (spM K 4 Ph_law_further_right) := by
  have key := okM (ca := fun _ => 0) (P := P) (w := w) (mg := mg) (base := base) (k := 7) (n := 4) T.F_law_further_right sc_law_further_right rfl fun cdv A outer s H E hr => (have nd := sc_law_further_right.nd; dss_cons (ds_set 4 nd (de_call (ok_law_lowest T) Ph_law_lowest_len (hr.mono (by decide)) (by rfl) T.m_law_lowest T.F_law_lowest.kp T.n_law_lowest (da_cons (de_v 1) (da_nil))))
    (dss_cons (ds_set 5 nd (de_f (df_lst (da_cons (de_callM 0 (ok_law_exchanged T) Ph_law_exchanged_len (hr.mono (by decide)) (by rfl) T.m_law_exchanged T.F_law_exchanged.kp T.n_law_exchanged (da_cons (de_v 4) (da_cons (de_callM 0 (ok_law_lift T) Ph_law_lift_len (hr.mono (by decide)) (by rfl) T.m_law_lift T.F_law_lift.kp T.n_law_lift (da_cons (de_int) (da_nil))) (da_nil)))) (da_cons (de_callM 0 (ok_law_moved T) Ph_law_moved_len (hr.mono (by decide)) (by rfl) T.m_law_moved T.F_law_moved.kp T.n_law_moved (da_cons (de_v 4) (da_nil))) (da_cons (de_callM 0 (ok_law_moved T) Ph_law_moved_len (hr.mono (by decide)) (by rfl) T.m_law_moved T.F_law_moved.kp T.n_law_moved (da_cons (de_ix ix_seq o2_ix (de_v 1) (de_int) (fun _ _ => rfl)) (da_nil))) (da_nil)))))))
    (dss_cons (ds_for rfl (di_seq (de_op op_addG o2_add (de_v 5) (de_f (df_lst (da_cons (de_v 4) (da_cons (de_ix ix_seq o2_ix (de_v 1) (de_un un_neg o1_neg (de_int)) (fun _ _ => rfl)) (da_nil))))))) (dg_name 6 nd) (dss_cons (ds_set 7 nd (de_call (ok_law_amounts T) Ph_law_amounts_len (hr.mono (by decide)) (by rfl) T.m_law_amounts T.F_law_amounts.kp T.n_law_amounts (da_cons (de_v 6) (da_cons (de_v 3) (da_nil)))))
    (dss_cons (ds_set 8 nd (de_cmp (op_notInD (hu65 hr)) o2_ninL (de_bl) (de_f (df_comp (own := [("_law_numbers_here", 9)]) rfl nd (di_seq (de_v 1)) (blkOk_by (own := [("_law_numbers_here", 9)]) (by kernel_rfl)) (fun _ _ _ _ _ => dg_name 9 nd) (fun _ _ _ _ _ => dts_nil) (fun _ _ _ _ _ => de_call (ok_law_leads T) Ph_law_leads_len (hr.mono (by decide)) (by rfl) T.m_law_leads T.F_law_leads.kp T.n_law_leads (da_cons (de_v 9) (da_cons (de_v 6) (da_nil)))))) (by rfl)))
    (dss_one (ds_if (dt_not (dt_tru (de_call (ok_law_same T) Ph_law_same_len (hr.mono (by decide)) (by rfl) T.m_law_same T.F_law_same.kp T.n_law_same (da_cons (de_call (ok_is_more_even T) Ph_is_more_even_len (hr.mono (by decide)) (by rfl) T.m_is_more_even T.F_is_more_even.kp T.n_is_more_even (da_cons (de_v 2) (da_cons (de_v 7) (da_nil)))) (da_cons (de_v 8) (da_nil)))))) (dss_one (ds_ret (de_bl))) (dss_nil))))))
    (dss_one (ds_ret (de_bl))))))
  exact key
abbrev s_law_above_right : Stmt := topS 50
theorem sc_law_above_right : FnScope (["_law_well_here", "_law_lists", "_law_greatest", "_law_below", "_law_high", "_law_whole", "_law_made", "_law_further", "_law_given", "_law_due", "_law_number", "_law_numbers_here"] : List Str) (["_law_well_here", "_law_lists", "_law_greatest", "_law_below"] : List Str) (defScope s_law_above_right) := ⟨rfl, rfl, rfl, by decide +kernel, rfl, by decide +kernel, by decide +kernel⟩
noncomputable def ce_law_above_right_1 : Fe :=
  e2 gMulI (eC (.int 420)) (eV 10)
noncomputable def ce_law_above_right_2 : Fe :=
  e2 gMulI (eC (.int 420)) (eV 10)
noncomputable def ce_law_above_right_3 : Fe :=
  e2 gMulI (eC (.int 420)) (eV 10)
noncomputable def ce_law_above_right_4 : Fe :=
  eA Ph_law_leads (lCons (eV 7) (lCons (eF (lCm (iSeq (eV 11)) (g1 10) (tYs) (ce_law_above_right_3) [10])) (lNil)))
noncomputable def lp_law_above_right_1 : Fs :=
  sSeq (sSet (eA Ph_law_amounts (lCons (eV 7) (lCons (e2 gMulI (eC (.int 420)) (eV 3)) (lNil)))) (g1 8))
  (sSeq (sSet (e2 gNinL (eC (.bool false)) (eF (lCm (iSeq (eV 1)) (g1 11) (tYs) (ce_law_above_right_4) [11]))) (g1 9))
  (sIf (tNo (tTr (eA Ph_law_same (lCons (eA Ph_is_more_even (lCons (eV 8) (lCons (eV 2) (lNil)))) (lCons (eV 9) (lNil)))))) (sRt (eC (.bool false))) (sNx)))
noncomputable def dn_law_above_right : Fs :=
  sSeq (sSet (eA Ph_law_highest (lCons (eV 1) (lNil))) (g1 4))
  (sSeq (sSet (e2 gAdd (eF (lRep (lLst (lCons (eC (.int 0)) (lNil))) (e2 gSub (eA gLen (lCons (eV 4) (lNil))) (eC (.int 1))))) (eF (lLst (lCons (eA gSum (lCons (eV 4) (lNil))) (lNil))))) (g1 5))
  (sSeq (sOwn (lLst (lCons (eM 0 Ph_law_moved (lCons (eV 4) (lNil))) (lCons (eV 5) (lCons (eV 4) (lCons (eF (lCm (iSeq (e2 gIx (eV 1) (eC (.int 0)))) (g1 10) (tYs) (ce_law_above_right_1) [10])) (lNil)))))) 6)
  (sSeq (sApp 6 (eF (lCm (iSeq (eM 0 Ph_law_moved (lCons (e2 gIx (eV 1) (e1 gNeg (eC (.int 1)))) (lNil)))) (g1 10) (tYs) (ce_law_above_right_2) [10])))
  (sSeq (sFrz 6 (sFor (iSeq (eV 6)) (g1 7) (lp_law_above_right_1)))
  (sRt (eC (.bool true)))))))
noncomputable def Ph_law_above_right := runM dn_law_above_right 12 4
theorem Ph_law_above_right_len (ks ds : List PyData) (z : PyData × List PyData) (h : Ph_law_above_right ks ds = some z) : ds.length + 1 = 4 := runM_len ks ds z h
theorem ok_law_above_right (T : Wd P K mg base) : FnOk P w K mg base CX0 8 T.a_law_above_right T.fd_law_above_right (["_law_well_here", "_law_lists", "_law_greatest", "_law_below"] : List Str) (spM K 4 Ph_law_above_right) := by
  have key := okM (ca := fun _ => 0) (P := P) (w := w) (mg := mg) (base := base) (k := 7) (n := 4) T.F_law_above_right sc_law_above_right rfl fun cdv A outer s H E hr => (have nd := sc_law_above_right.nd; dss_cons (ds_set 4 nd (de_call (ok_law_highest T) Ph_law_highest_len (hr.mono (by decide)) (by rfl) T.m_law_highest T.F_law_highest.kp T.n_law_highest (da_cons (de_v 1) (da_nil))))
    (dss_cons (ds_set 5 nd (de_op op_addG o2_add (de_f (df_rep (df_lst (da_cons (de_int) (da_nil))) (de_op op_sub o2_sub (de_B call_lenG oA_len (by rfl) T.b_len PySem.boot_len (da_cons (de_v 4) (da_nil))) (de_int)))) (de_f (df_lst (da_cons (de_B (cr_sum rfl) oA_sum (by rfl) T.b_sum (by decide +kernel) (da_cons (de_v 4) (da_nil))) (da_nil))))))
    (dss_cons (ds_own 6 nd (df_lst (da_cons (de_callM 0 (ok_law_moved T) Ph_law_moved_len (hr.mono (by decide)) (by rfl) T.m_law_moved T.F_law_moved.kp T.n_law_moved (da_cons (de_v 4) (da_nil))) (da_cons (de_v 5) (da_cons (de_v 4) (da_cons (de_f (df_comp (own := [("_law_number", 10)]) rfl nd (di_seq (de_ix ix_seq o2_ix (de_v 1) (de_int) (fun _ _ => rfl))) (blkOk_by (own := [("_law_number", 10)]) (by kernel_rfl)) (fun _ _ _ _ _ => dg_name 10 nd) (fun _ _ _ _ _ => dts_nil) (fun _ _ _ _ _ => de_op op_mulG o2_mulI (de_int) (de_v 10)))) (da_nil)))))))
    (dss_cons (ds_app 6 (de_f (df_comp (own := [("_law_number", 10)]) rfl nd (di_seq (de_callM 0 (ok_law_moved T) Ph_law_moved_len (hr.mono (by decide)) (by rfl) T.m_law_moved T.F_law_moved.kp T.n_law_moved (da_cons (de_ix ix_seq o2_ix (de_v 1) (de_un un_neg o1_neg (de_int)) (fun _ _ => rfl)) (da_nil)))) (blkOk_by (own := [("_law_number", 10)]) (by kernel_rfl)) (fun _ _ _ _ _ => dg_name 10 nd) (fun _ _ _ _ _ => dts_nil) (fun _ _ _ _ _ => de_op op_mulG o2_mulI (de_int) (de_v 10)))))
    (dss_cons (ds_frz 6 (ds_for rfl (di_seq (de_v 6)) (dg_name 7 nd) (dss_cons (ds_set 8 nd (de_call (ok_law_amounts T) Ph_law_amounts_len (hr.mono (by decide)) (by rfl) T.m_law_amounts T.F_law_amounts.kp T.n_law_amounts (da_cons (de_v 7) (da_cons (de_op op_mulG o2_mulI (de_int) (de_v 3)) (da_nil)))))
    (dss_cons (ds_set 9 nd (de_cmp (op_notInD (hu65 hr)) o2_ninL (de_bl) (de_f (df_comp (own := [("_law_numbers_here", 11)]) rfl nd (di_seq (de_v 1)) (blkOk_by (own := [("_law_numbers_here", 11)]) (by kernel_rfl)) (fun _ _ _ _ _ => dg_name 11 nd) (fun _ _ _ _ _ => dts_nil) (fun _ _ _ _ _ => de_call (ok_law_leads T) Ph_law_leads_len (hr.mono (by decide)) (by rfl) T.m_law_leads T.F_law_leads.kp T.n_law_leads (da_cons (de_v 7) (da_cons (de_f (df_comp (own := [("_law_number", 10)]) rfl nd (di_seq (de_v 11)) (blkOk_by (own := [("_law_number", 10)]) (by kernel_rfl)) (fun _ _ _ _ _ => dg_name 10 nd) (fun _ _ _ _ _ => dts_nil) (fun _ _ _ _ _ => de_op op_mulG o2_mulI (de_int) (de_v 10)))) (da_nil)))))) (by rfl)))
    (dss_one (ds_if (dt_not (dt_tru (de_call (ok_law_same T) Ph_law_same_len (hr.mono (by decide)) (by rfl) T.m_law_same T.F_law_same.kp T.n_law_same (da_cons (de_call (ok_is_more_even T) Ph_is_more_even_len (hr.mono (by decide)) (by rfl) T.m_is_more_even T.F_is_more_even.kp T.n_is_more_even (da_cons (de_v 8) (da_cons (de_v 2) (da_nil)))) (da_cons (de_v 9) (da_nil)))))) (dss_one (ds_ret (de_bl))) (dss_nil)))))))
    (dss_one (ds_ret (de_bl))))))))
  exact key
abbrev s_law_pair_right : Stmt := topS 51
theorem sc_law_pair_right : FnScope (["_law_well_here", "_law_entries", "_law_here", "_law_there", "_law_falling"] : List Str) (["_law_well_here", "_law_entries"] : List Str) (defScope s_law_pair_right) := ⟨rfl, rfl, rfl, by decide +kernel, rfl, by decide +kernel, by decide +kernel⟩
noncomputable def dn_law_pair_right : Fs :=
  sSeq (sSet (e2 gIx (eV 1) (eM 0 Ph_law_lift (lCons (eA gLen (lCons (eV 1) (lNil))) (lNil)))) (g1 2))
  (sSeq (sSet (e2 gIx (eV 1) (eM 0 Ph_law_lift (lCons (eA gLen (lCons (eV 1) (lNil))) (lNil)))) (g1 3))
  (sSeq (sSet (eA Ph_meet (lCons (eV 2) (lCons (eV 2) (lNil)))) (g1 4))
  (sSeq (sIf (tOrr (tNo (tTr (eA Ph_law_same (lCons (eA Ph_join (lCons (eV 2) (lCons (eV 2) (lNil)))) (lCons (eV 4) (lNil)))))) (tNo (tTr (eA Ph_law_same (lCons (eA Ph_join (lCons (eV 2) (lCons (eA Ph_meet (lCons (eV 2) (lCons (eV 3) (lNil)))) (lNil)))) (lCons (eV 4) (lNil))))))) (sRt (eC (.bool false))) (sNx))
  (sSeq (sIf (tOrr (tNo (tTr (eA Ph_law_same (lCons (eA Ph_meet (lCons (eV 3) (lCons (eV 2) (lNil)))) (lCons (eA Ph_meet (lCons (eV 2) (lCons (eV 3) (lNil)))) (lNil)))))) (tNo (tTr (eA Ph_law_same (lCons (eA Ph_join (lCons (eV 3) (lCons (eV 2) (lNil)))) (lCons (eA Ph_join (lCons (eV 2) (lCons (eV 3) (lNil)))) (lNil))))))) (sRt (eC (.bool false))) (sNx))
  (sRt (eA Ph_law_same (lCons (eA Ph_meet (lCons (eV 2) (lCons (eA Ph_join (lCons (eV 2) (lCons (eV 3) (lNil)))) (lNil)))) (lCons (eV 4) (lNil)))))))))
noncomputable def Ph_law_pair_right := runM dn_law_pair_right 5 2
theorem Ph_law_pair_right_len (ks ds : List PyData) (z : PyData × List PyData) (h : Ph_law_pair_right ks ds = some z) : ds.length + 1 = 2 := runM_len ks ds z h
theorem ok_law_pair_right (T : Wd P K mg base) : FnOk P w K mg base CX0 8 T.a_law_pair_right T.fd_law_pair_right (["_law_well_here", "_law_entries"] : List Str) (spM K 2 Ph_law_pair_right) := by
  have key := okM (ca := fun _ => 0) (P := P) (w := w) (mg := mg) (base := base) (k := 7) (n := 2) T.F_law_pair_right sc_law_pair_right rfl fun cdv A outer s H E hr => (have nd := sc_law_pair_right.nd; dss_cons (ds_set 2 nd (de_ix ix_seq o2_ix (de_v 1) (de_callM 0 (ok_law_lift T) Ph_law_lift_len (hr.mono (by decide)) (by rfl) T.m_law_lift T.F_law_lift.kp T.n_law_lift (da_cons (de_B call_lenG oA_len (by rfl) T.b_len PySem.boot_len (da_cons (de_v 1) (da_nil))) (da_nil))) (fun _ _ => rfl)))
    (dss_cons (ds_set 3 nd (de_ix ix_seq o2_ix (de_v 1) (de_callM 0 (ok_law_lift T) Ph_law_lift_len (hr.mono (by decide)) (by rfl) T.m_law_lift T.F_law_lift.kp T.n_law_lift (da_cons (de_B call_lenG oA_len (by rfl) T.b_len PySem.boot_len (da_cons (de_v 1) (da_nil))) (da_nil))) (fun _ _ => rfl)))
    (dss_cons (ds_set 4 nd (de_call (ok_meet T) Ph_meet_len (hr.mono (by decide)) (by rfl) T.m_meet T.F_meet.kp T.n_meet (da_cons (de_v 2) (da_cons (de_v 2) (da_nil)))))
    (dss_cons (ds_if (PW.pt (dw_or (dt_not (dt_tru (de_call (ok_law_same T) Ph_law_same_len (hr.mono (by decide)) (by rfl) T.m_law_same T.F_law_same.kp T.n_law_same (da_cons (de_call (ok_join T) Ph_join_len (hr.mono (by decide)) (by rfl) T.m_join T.F_join.kp T.n_join (da_cons (de_v 2) (da_cons (de_v 2) (da_nil)))) (da_cons (de_v 4) (da_nil)))))) (dw_or1 (dt_not (dt_tru (de_call (ok_law_same T) Ph_law_same_len (hr.mono (by decide)) (by rfl) T.m_law_same T.F_law_same.kp T.n_law_same (da_cons (de_call (ok_join T) Ph_join_len (hr.mono (by decide)) (by rfl) T.m_join T.F_join.kp T.n_join (da_cons (de_v 2) (da_cons (de_call (ok_meet T) Ph_meet_len (hr.mono (by decide)) (by rfl) T.m_meet T.F_meet.kp T.n_meet (da_cons (de_v 2) (da_cons (de_v 3) (da_nil)))) (da_nil)))) (da_cons (de_v 4) (da_nil))))))))) (dss_one (ds_ret (de_bl))) (dss_nil))
    (dss_cons (ds_if (PW.pt (dw_or (dt_not (dt_tru (de_call (ok_law_same T) Ph_law_same_len (hr.mono (by decide)) (by rfl) T.m_law_same T.F_law_same.kp T.n_law_same (da_cons (de_call (ok_meet T) Ph_meet_len (hr.mono (by decide)) (by rfl) T.m_meet T.F_meet.kp T.n_meet (da_cons (de_v 3) (da_cons (de_v 2) (da_nil)))) (da_cons (de_call (ok_meet T) Ph_meet_len (hr.mono (by decide)) (by rfl) T.m_meet T.F_meet.kp T.n_meet (da_cons (de_v 2) (da_cons (de_v 3) (da_nil)))) (da_nil)))))) (dw_or1 (dt_not (dt_tru (de_call (ok_law_same T) Ph_law_same_len (hr.mono (by decide)) (by rfl) T.m_law_same T.F_law_same.kp T.n_law_same (da_cons (de_call (ok_join T) Ph_join_len (hr.mono (by decide)) (by rfl) T.m_join T.F_join.kp T.n_join (da_cons (de_v 3) (da_cons (de_v 2) (da_nil)))) (da_cons (de_call (ok_join T) Ph_join_len (hr.mono (by decide)) (by rfl) T.m_join T.F_join.kp T.n_join (da_cons (de_v 2) (da_cons (de_v 3) (da_nil)))) (da_nil))))))))) (dss_one (ds_ret (de_bl))) (dss_nil))
    (dss_one (ds_ret (de_call (ok_law_same T) Ph_law_same_len (hr.mono (by decide)) (by rfl) T.m_law_same T.F_law_same.kp T.n_law_same (da_cons (de_call (ok_meet T) Ph_meet_len (hr.mono (by decide)) (by rfl) T.m_meet T.F_meet.kp T.n_meet (da_cons (de_v 2) (da_cons (de_call (ok_join T) Ph_join_len (hr.mono (by decide)) (by rfl) T.m_join T.F_join.kp T.n_join (da_cons (de_v 2) (da_cons (de_v 3) (da_nil)))) (da_nil)))) (da_cons (de_v 4) (da_nil)))))))))))
  exact key
abbrev s_law : Stmt := topS 52
theorem sc_law : FnScope (["_law_script", "_law_well_here", "_law_below", "_law_base", "_law_lists", "_law_k", "_law_entries", "_law_least", "_law_greatest", "_law_back", "_law_entry", "_law_numbers_here"] : List Str) (["_law_script"] : List Str) (defScope s_law) := ⟨rfl, rfl, rfl, by decide +kernel, rfl, by decide +kernel, by decide +kernel⟩
noncomputable def lp_law_1 : Fs :=
  sApp 4 (eMF2 Ph_law_moved (lA Ph_law_well (lCons (e2 gIx (eV 0) (eV 5)) (lCons (eV 5) (lNil)))) (lCons (eV 3) (lNil)))
noncomputable def ce_law_1 : Fe :=
  eA Ph_law_amounts (lCons (eV 11) (lCons (eV 2) (lNil)))
noncomputable def lp_law_2 : Fs :=
  sIf (tOrr (tNo (tTr (eA Ph_law_same (lCons (eA Ph_is_more_even (lCons (eV 8) (lCons (eV 10) (lNil)))) (lCons (eC (.bool true)) (lNil)))))) (tNo (tTr (eA Ph_law_same (lCons (eA Ph_is_more_even (lCons (eV 10) (lCons (eV 7) (lNil)))) (lCons (eC (.bool true)) (lNil))))))) (sRt (eC (.bool false))) (sNx)
noncomputable def dn_law : Fs :=
  sSeq (sOwn (lA Ph_law_well (lCons (eA Ph_law_cell (lCons (eV 0) (lCons (eC (.int 0)) (lNil)))) (lCons (eC (.int 0)) (lNil)))) 1)
  (sSeq (sSet (e2 gIx (eF (lLst (lCons (eC (.int 1)) (lCons (eC (.int 2)) (lCons (e2 gAdd (eC (.int 1)) (eM 1 Ph_law_lift (lCons (eC (.int 12)) (lNil)))) (lCons (e2 gAdd (eC (.int 1)) (eM 1 Ph_law_lift (lCons (e2 gPow (eC (.int 10)) (eC (.int 15))) (lNil)))) (lNil))))))) (eM 1 Ph_law_lift (lCons (eC (.int 4)) (lNil)))) (g1 2))
  (sSeq (sSet (eM 1 Ph_law_numbers (lCons (e2 gAdd (eC (.int 1)) (eM 1 Ph_law_lift (lCons (eC (.int 7)) (lNil)))) (lNil))) (g1 3))
  (sSeq (sOwn (lLst (lCons (eV 3) (lNil))) 4)
  (sSeq (sFor (iR2 (lCons (eC (.int 1)) (lCons (eA gLen (lCons (eV 0) (lNil))) (lNil)))) (g1 5) (lp_law_1))
  (sSeq (sFrz 4 (sSet (eF (lCm (iSeq (eV 4)) (g1 11) (tYs) (ce_law_1) [11])) (g1 6)))
  (sSeq (sPar 7 8 (lCons (eA Ph_law_folded (lCons (eC (.int 0)) (lCons (eV 6) (lNil)))) (lCons (eA Ph_law_folded (lCons (eC (.int 1)) (lCons (eV 6) (lNil)))) (lNil))))
  (sSeq (sIf (tB' (e2 gEq (eA gLen (lCons (eV 6) (lNil))) (eC (.int 1)))) (sPar 7 8 (lCons (eA Ph_meet (lCons (e2 gIx (eV 6) (eC (.int 0))) (lCons (e2 gIx (eV 6) (eC (.int 0))) (lNil)))) (lCons (eA Ph_join (lCons (e2 gIx (eV 6) (eC (.int 0))) (lCons (e2 gIx (eV 6) (eC (.int 0))) (lNil)))) (lNil)))) (sNx))
  (sSeq (sFrz 4 (sIf (tNo (tTr (eA Ph_law_same (lCons (eV 7) (lCons (eA Ph_law_amounts (lCons (eA Ph_law_lowest (lCons (eV 4) (lNil))) (lCons (eV 2) (lNil)))) (lNil)))))) (sRt (eC (.bool false))) (sNx)))
  (sSeq (sFrz 4 (sIf (tNo (tTr (eA Ph_law_same (lCons (eV 8) (lCons (eA Ph_law_amounts (lCons (eA Ph_law_highest (lCons (eV 4) (lNil))) (lCons (e2 gMulI (eC (.int 420)) (eV 2)) (lNil)))) (lNil)))))) (sRt (eC (.bool false))) (sNx)))
  (sSeq (sIf (tB' (e2 gGt (eA gLen (lCons (eV 6) (lNil))) (eC (.int 1)))) (sSeq (sSet (eRevL (eV 6)) (g1 9))
  (sIf (tOrr (tNo (tTr (eA Ph_law_same (lCons (eA Ph_law_folded (lCons (eC (.int 0)) (lCons (eV 9) (lNil)))) (lCons (eV 7) (lNil)))))) (tNo (tTr (eA Ph_law_same (lCons (eA Ph_law_folded (lCons (eC (.int 1)) (lCons (eV 9) (lNil)))) (lCons (eV 8) (lNil))))))) (sRt (eC (.bool false))) (sNx))) (sNx))
  (sSeq (sFor (iSeq (eV 6)) (g1 10) (lp_law_2))
  (sSeq (sFrz 4 (sIf (tOrr (tNo (tTr (eM 1 Ph_law_further_right (lCons (eV 4) (lCons (eV 7) (lCons (eV 2) (lNil))))))) (tNo (tTr (eM 1 Ph_law_above_right (lCons (eV 4) (lCons (eV 8) (lCons (eV 2) (lNil)))))))) (sRt (eC (.bool false))) (sNx)))
  (sRt (eM 1 Ph_law_pair_right (lCons (eV 6) (lNil))))))))))))))))
noncomputable def Ph_law := runP dn_law 12 1
theorem ok_law (T : Wd P K mg base) : FnOk P w K mg base CX0 9 T.a_law T.fd_law (["_law_script"] : List Str) (spP K 1 Ph_law) := by
  have key := okP (ca := fun _ => 0) (P := P) (w := w) (mg := mg) (base := base) (k := 8) (n := 1) T.F_law sc_law rfl fun cdv A outer s H E hr => (have nd := sc_law.nd; dss_cons (ds_own 1 nd (df_call (ok_law_well T) Ph_law_well_len (hr.mono (by decide)) (by rfl) T.m_law_well T.F_law_well.kp T.n_law_well (da_cons (de_call (ok_law_cell T) Ph_law_cell_len (hr.mono (by decide)) (by rfl) T.m_law_cell T.F_law_cell.kp T.n_law_cell (da_cons (de_v 0) (da_cons (de_int) (da_nil)))) (da_cons (de_int) (da_nil)))))
    (dss_cons (ds_set 2 nd (de_ix ix_seq o2_ix (de_f (df_lst (da_cons (de_int) (da_cons (de_int) (da_cons (de_op op_addG o2_add (de_int) (de_callM 1 (ok_law_lift T) Ph_law_lift_len (hr.mono (by decide)) (by rfl) T.m_law_lift T.F_law_lift.kp T.n_law_lift (da_cons (de_int) (da_nil)))) (da_cons (de_op op_addG o2_add (de_int) (de_callM 1 (ok_law_lift T) Ph_law_lift_len (hr.mono (by decide)) (by rfl) T.m_law_lift T.F_law_lift.kp T.n_law_lift (da_cons (de_op op_powG o2_pow (de_int) (de_int)) (da_nil)))) (da_nil))))))) (de_callM 1 (ok_law_lift T) Ph_law_lift_len (hr.mono (by decide)) (by rfl) T.m_law_lift T.F_law_lift.kp T.n_law_lift (da_cons (de_int) (da_nil))) (fun _ _ => rfl)))
    (dss_cons (ds_set 3 nd (de_callM 1 (ok_law_numbers T) Ph_law_numbers_len (hr.mono (by decide)) (by rfl) T.m_law_numbers T.F_law_numbers.kp T.n_law_numbers (da_cons (de_op op_addG o2_add (de_int) (de_callM 1 (ok_law_lift T) Ph_law_lift_len (hr.mono (by decide)) (by rfl) T.m_law_lift T.F_law_lift.kp T.n_law_lift (da_cons (de_int) (da_nil)))) (da_nil))))
    (dss_cons (ds_own 4 nd (df_lst (da_cons (de_v 3) (da_nil))))
    (dss_cons (ds_for rfl (di_r2 (by rfl) T.b_range (da_cons (de_int) (da_cons (de_B call_lenG oA_len (by rfl) T.b_len PySem.boot_len (da_cons (de_v 0) (da_nil))) (da_nil)))) (dg_name 5 nd) (dss_one (ds_app 4 (de_callMF2 (ok_law_moved T) Ph_law_moved_len (hr.mono (by decide)) (by rfl) T.m_law_moved T.F_law_moved.kp T.n_law_moved (df_call (ok_law_well T) Ph_law_well_len (hr.mono (by decide)) (by rfl) T.m_law_well T.F_law_well.kp T.n_law_well (da_cons (de_ix ix_seq o2_ix (de_v 0) (de_v 5) (fun _ _ => rfl)) (da_cons (de_v 5) (da_nil)))) (da_cons (de_v 3) (da_nil))))))
    (dss_cons (ds_frz 4 (ds_setComp (own := [("_law_numbers_here", 11)]) 6 rfl nd (sw_true rfl rfl rfl (by decide +kernel)) (di_seq (de_v 4)) (blkOk_by (own := [("_law_numbers_here", 11)]) (by kernel_rfl)) (fun _ _ _ _ _ => dg_name 11 nd) (fun _ _ _ _ _ => dts_nil) (fun _ _ _ _ _ => de_call (ok_law_amounts T) Ph_law_amounts_len (hr.mono (by decide)) (by rfl) T.m_law_amounts T.F_law_amounts.kp T.n_law_amounts (da_cons (de_v 11) (da_cons (de_v 2) (da_nil))))))
    (dss_cons (ds_par 7 8 rfl nd (da_cons (de_call (ok_law_folded T) Ph_law_folded_len (hr.mono (by decide)) (by rfl) T.m_law_folded T.F_law_folded.kp T.n_law_folded (da_cons (de_int) (da_cons (de_v 6) (da_nil)))) (da_cons (de_call (ok_law_folded T) Ph_law_folded_len (hr.mono (by decide)) (by rfl) T.m_law_folded T.F_law_folded.kp T.n_law_folded (da_cons (de_int) (da_cons (de_v 6) (da_nil)))) (da_nil))))
    (dss_cons (ds_if (dt_cmp (op_eqD (hu64 hr)) o2_eq (de_B call_lenG oA_len (by rfl) T.b_len PySem.boot_len (da_cons (de_v 6) (da_nil))) (de_int) (nomark _)) (dss_one (ds_par 7 8 rfl nd (da_cons (de_call (ok_meet T) Ph_meet_len (hr.mono (by decide)) (by rfl) T.m_meet T.F_meet.kp T.n_meet (da_cons (de_ix ix_seq o2_ix (de_v 6) (de_int) (fun _ _ => rfl)) (da_cons (de_ix ix_seq o2_ix (de_v 6) (de_int) (fun _ _ => rfl)) (da_nil)))) (da_cons (de_call (ok_join T) Ph_join_len (hr.mono (by decide)) (by rfl) T.m_join T.F_join.kp T.n_join (da_cons (de_ix ix_seq o2_ix (de_v 6) (de_int) (fun _ _ => rfl)) (da_cons (de_ix ix_seq o2_ix (de_v 6) (de_int) (fun _ _ => rfl)) (da_nil)))) (da_nil))))) (dss_nil))
    (dss_cons (ds_frz 4 (ds_if (dt_not (dt_tru (de_call (ok_law_same T) Ph_law_same_len (hr.mono (by decide)) (by rfl) T.m_law_same T.F_law_same.kp T.n_law_same (da_cons (de_v 7) (da_cons (de_call (ok_law_amounts T) Ph_law_amounts_len (hr.mono (by decide)) (by rfl) T.m_law_amounts T.F_law_amounts.kp T.n_law_amounts (da_cons (de_call (ok_law_lowest T) Ph_law_lowest_len (hr.mono (by decide)) (by rfl) T.m_law_lowest T.F_law_lowest.kp T.n_law_lowest (da_cons (de_v 4) (da_nil))) (da_cons (de_v 2) (da_nil)))) (da_nil)))))) (dss_one (ds_ret (de_bl))) (dss_nil)))
    (dss_cons (ds_frz 4 (ds_if (dt_not (dt_tru (de_call (ok_law_same T) Ph_law_same_len (hr.mono (by decide)) (by rfl) T.m_law_same T.F_law_same.kp T.n_law_same (da_cons (de_v 8) (da_cons (de_call (ok_law_amounts T) Ph_law_amounts_len (hr.mono (by decide)) (by rfl) T.m_law_amounts T.F_law_amounts.kp T.n_law_amounts (da_cons (de_call (ok_law_highest T) Ph_law_highest_len (hr.mono (by decide)) (by rfl) T.m_law_highest T.F_law_highest.kp T.n_law_highest (da_cons (de_v 4) (da_nil))) (da_cons (de_op op_mulG o2_mulI (de_int) (de_v 2)) (da_nil)))) (da_nil)))))) (dss_one (ds_ret (de_bl))) (dss_nil)))
    (dss_cons (ds_if (dt_cmp op_gt o2_B (de_B call_lenG oA_len (by rfl) T.b_len PySem.boot_len (da_cons (de_v 6) (da_nil))) (de_int) (nomark _)) (dss_cons (ds_set 9 nd (de_revL (de_v 6)))
    (dss_one (ds_if (PW.pt (dw_or (dt_not (dt_tru (de_call (ok_law_same T) Ph_law_same_len (hr.mono (by decide)) (by rfl) T.m_law_same T.F_law_same.kp T.n_law_same (da_cons (de_call (ok_law_folded T) Ph_law_folded_len (hr.mono (by decide)) (by rfl) T.m_law_folded T.F_law_folded.kp T.n_law_folded (da_cons (de_int) (da_cons (de_v 9) (da_nil)))) (da_cons (de_v 7) (da_nil)))))) (dw_or1 (dt_not (dt_tru (de_call (ok_law_same T) Ph_law_same_len (hr.mono (by decide)) (by rfl) T.m_law_same T.F_law_same.kp T.n_law_same (da_cons (de_call (ok_law_folded T) Ph_law_folded_len (hr.mono (by decide)) (by rfl) T.m_law_folded T.F_law_folded.kp T.n_law_folded (da_cons (de_int) (da_cons (de_v 9) (da_nil)))) (da_cons (de_v 8) (da_nil))))))))) (dss_one (ds_ret (de_bl))) (dss_nil)))) (dss_nil))
    (dss_cons (ds_for rfl (di_seq (de_v 6)) (dg_name 10 nd) (dss_one (ds_if (PW.pt (dw_or (dt_not (dt_tru (de_call (ok_law_same T) Ph_law_same_len (hr.mono (by decide)) (by rfl) T.m_law_same T.F_law_same.kp T.n_law_same (da_cons (de_call (ok_is_more_even T) Ph_is_more_even_len (hr.mono (by decide)) (by rfl) T.m_is_more_even T.F_is_more_even.kp T.n_is_more_even (da_cons (de_v 8) (da_cons (de_v 10) (da_nil)))) (da_cons (de_bl) (da_nil)))))) (dw_or1 (dt_not (dt_tru (de_call (ok_law_same T) Ph_law_same_len (hr.mono (by decide)) (by rfl) T.m_law_same T.F_law_same.kp T.n_law_same (da_cons (de_call (ok_is_more_even T) Ph_is_more_even_len (hr.mono (by decide)) (by rfl) T.m_is_more_even T.F_is_more_even.kp T.n_is_more_even (da_cons (de_v 10) (da_cons (de_v 7) (da_nil)))) (da_cons (de_bl) (da_nil))))))))) (dss_one (ds_ret (de_bl))) (dss_nil))))
    (dss_cons (ds_frz 4 (ds_if (PW.pt (dw_or (dt_not (dt_tru (de_callM 1 (ok_law_further_right T) Ph_law_further_right_len (hr.mono (by decide)) (by rfl) T.m_law_further_right T.F_law_further_right.kp T.n_law_further_right (da_cons (de_v 4) (da_cons (de_v 7) (da_cons (de_v 2) (da_nil))))))) (dw_or1 (dt_not (dt_tru (de_callM 1 (ok_law_above_right T) Ph_law_above_right_len (hr.mono (by decide)) (by rfl) T.m_law_above_right T.F_law_above_right.kp T.n_law_above_right (da_cons (de_v 4) (da_cons (de_v 8) (da_cons (de_v 2) (da_nil)))))))))) (dss_one (ds_ret (de_bl))) (dss_nil)))
    (dss_one (ds_ret (de_callM 1 (ok_law_pair_right T) Ph_law_pair_right_len (hr.mono (by decide)) (by rfl) T.m_law_pair_right T.F_law_pair_right.kp T.n_law_pair_right (da_cons (de_v 6) (da_nil))))))))))))))))))
  exact key
end
end K64
set_option Elab.async false
set_option linter.all false
set_option maxRecDepth 100000
namespace Dn
open PySem PySem.Spec PyProof.Rows L2
def encQ (q : Rat) : PyData := .tuple [.int q.num, .int (q.den : Int)]
theorem fdiv_nn {a : Int} {d : Nat} : a.fdiv (d : Int) = a / (d : Int) := Int.fdiv_eq_ediv_of_nonneg _ (by omega)
/-- a / b in lowest terms -/
theorem low_num {a b : Int} (hb : 0 < b) : a.fdiv ((Nat.gcd a.natAbs b.natAbs : Nat) : Int) = (Rat.divInt a b).num := by
  rw [fdiv_nn, Rat.num_divInt, Int.sign_eq_one_of_pos hb, Int.one_mul, Int.gcd_comm]
  rfl
theorem low_den {a b : Int} (hb : 0 < b) : b.fdiv ((Nat.gcd a.natAbs b.natAbs : Nat) : Int) = ((Rat.divInt a b).den : Int) := by
  rw [fdiv_nn, Rat.den_divInt, if_neg (by omega), Int.gcd_comm]
  obtain ⟨n, rfl⟩ := Int.eq_ofNat_of_zero_le (Int.le_of_lt hb)
  show (n : Int) / ((Nat.gcd a.natAbs n : Nat) : Int) = ((n / Nat.gcd a.natAbs n : Nat) : Int)
  rw [Int.natCast_ediv]
theorem log_of {n k : Nat} (h : n < 2 ^ k) (hk : 0 < k) : n.log2 < k := by
  by_cases h0 : n = 0
  · subst h0; simpa using hk
  · exact (Nat.log2_lt h0).mpr h
theorem mulOk_lt {i j : Int} (hi : i.natAbs < 2 ^ 60000) (hj : j.natAbs < 2 ^ 60000) : mulOk i j = true := by
  unfold mulOk
  refine decide_eq_true ?_
  have h1 := log_of hi (by decide)
  have h2 := log_of hj (by decide)
  omega
theorem divOk_lt {j : Int} (h0 : j ≠ 0) (hj : j.natAbs < 2 ^ 9000) : divOk j = true := by
  unfold divOk
  rw [decide_eq_true h0, decide_eq_true (log_of hj (by decide))]
  rfl
theorem lt_pow {n a b : Nat} (h : n < 2 ^ a) (hab : a ≤ b) : n < 2 ^ b := Nat.lt_of_lt_of_le h (Nat.pow_le_pow_right (by decide) hab)
theorem mul_pow {n m a b : Nat} (h : n < 2 ^ a) (h2 : m < 2 ^ b) : n * m < 2 ^ (a + b) := by
  rw [Nat.pow_add]
  have hb : 0 < 2 ^ b := Nat.pos_of_neZero _
  rcases Nat.eq_zero_or_pos n with h0 | h0
  · subst h0; rw [Nat.zero_mul]; exact Nat.mul_pos (Nat.pos_of_neZero _) hb
  · exact Nat.lt_of_lt_of_le ((Nat.mul_lt_mul_left h0).mpr h2) (Nat.mul_le_mul_right _ (Nat.le_of_lt h))
theorem natQ_ne {D : Nat} (h : 0 < D) : (D : Rat) ≠ 0 := by
  intro h1
  have h2 : D = 0 := Rat.natCast_inj.mp (by rw [h1]; rfl)
  omega
theorem natQ_pos {D : Nat} (h : 0 < D) : (0 : Rat) < (D : Rat) := by
  have : ((0 : Nat) : Rat) < (D : Rat) := Rat.natCast_lt_natCast.mpr h
  exact this
/-- q is a whole number of parts of D -/
def Pt (D : Nat) (q : Rat) : Prop := ∃ z : Int, q * (D : Rat) = (z : Rat)
theorem Pt.add {D : Nat} {p q : Rat} (h : Pt D p) (h2 : Pt D q) : Pt D (p + q) := by
  obtain ⟨a, ha⟩ := h
  obtain ⟨b, hb⟩ := h2
  exact ⟨a + b, by rw [Rat.intCast_add]; grind⟩
theorem Pt.sub {D : Nat} {p q : Rat} (h : Pt D p) (h2 : Pt D q) : Pt D (p - q) := by
  obtain ⟨a, ha⟩ := h
  obtain ⟨b, hb⟩ := h2
  exact ⟨a - b, by rw [Rat.intCast_sub]; grind⟩
theorem Pt.zero {D : Nat} : Pt D 0 := ⟨0, by grind⟩
theorem Pt.int {D : Nat} (z : Int) : Pt D (z : Rat) := ⟨z * D, by rw [Rat.intCast_mul]; rfl⟩
theorem Pt.up {D E : Nat} {q : Rat} (h : Pt D q) (hd : D ∣ E) : Pt E q := by
  obtain ⟨a, ha⟩ := h
  obtain ⟨k, rfl⟩ := hd
  refine ⟨a * k, ?_⟩
  rw [Rat.natCast_mul, Rat.intCast_mul, ← ha]
  have : ((k : Int) : Rat) = (k : Rat) := rfl
  rw [this]
  grind
theorem Pt.den {D : Nat} {q : Rat} (h : Pt D q) (hD : 0 < D) : q = Rat.divInt (q * D).num D := by
  obtain ⟨z, hz⟩ := h
  rw [hz, Rat.num_intCast, Rat.divInt_eq_div]
  have : ((D : Int) : Rat) = (D : Rat) := rfl
  rw [this]
  have := natQ_ne hD
  grind
theorem Pt.den_dvd {D : Nat} {q : Rat} (h : Pt D q) (hD : 0 < D) : q.den ∣ D := by
  rw [h.den hD, Rat.den_divInt, if_neg (by omega)]
  refine ⟨Int.gcd (D : Int) (q * D).num, ?_⟩
  rw [Nat.div_mul_cancel (Int.gcd_dvd_natAbs_left _ _)]
  rfl
theorem Pt.num_le {D : Nat} {q : Rat} (h : Pt D q) (hD : 0 < D) : q.num.natAbs ≤ (q * D).num.natAbs := by
  have e := h.den hD
  have : q.num = (q * D).num / (Int.gcd (D : Int) (q * D).num : Int) := by
    have := congrArg Rat.num e
    rw [Rat.num_divInt, Int.sign_eq_one_of_pos (by omega), Int.one_mul] at this
    exact this
  rw [this]
  exact Int.natAbs_ediv_le_natAbs _ _
/-- small enough to reckon with -/
structure Sz (q : Rat) : Prop where
  den : q.den < 2 ^ 4000
  num : q.num.natAbs < 2 ^ 5000
theorem Pt.sz {D N : Nat} {q : Rat} (h : Pt D q) (hD : 0 < D) (hD2 : D < 2 ^ 4000) (hN : N < 2 ^ 1000) (h1 : q ≤ (N : Rat)) (h2 : -(N : Rat) ≤ q) : Sz q := by
  refine ⟨Nat.lt_of_le_of_lt (Nat.le_of_dvd hD (h.den_dvd hD)) hD2, Nat.lt_of_le_of_lt (h.num_le hD) ?_⟩
  obtain ⟨z, hz⟩ := h
  rw [hz, Rat.num_intCast]
  have hp := natQ_pos hD
  have e1 : (z : Rat) ≤ ((N * D : Nat) : Rat) := by
    rw [← hz, Rat.natCast_mul]
    exact Rat.mul_le_mul_of_nonneg_right h1 (Rat.le_of_lt hp)
  have e2 : ((-(N * D : Nat) : Int) : Rat) ≤ (z : Rat) := by
    rw [← hz, Rat.intCast_neg]
    have : (((N * D : Nat) : Int) : Rat) = (N : Rat) * (D : Rat) := by
      rw [← Rat.natCast_mul]; rfl
    rw [this]
    have := Rat.mul_le_mul_of_nonneg_right h2 (Rat.le_of_lt hp)
    grind
  have f1 : z ≤ ((N * D : Nat) : Int) := Rat.intCast_le_intCast.mp e1
  have f2 : (-(N * D : Nat) : Int) ≤ z := Rat.intCast_le_intCast.mp e2
  have : N * D < 2 ^ (1000 + 4000) := mul_pow hN hD2
  omega
theorem Sz.num6 {q : Rat} (h : Sz q) : q.num.natAbs < 2 ^ 60000 := lt_pow h.num (by decide)
theorem Sz.den6 {q : Rat} (h : Sz q) : (q.den : Int).natAbs < 2 ^ 60000 := lt_pow (by show q.den < _; exact h.den) (by decide)
theorem den_pos {q : Rat} : 0 < q.den := Nat.pos_of_ne_zero q.den_nz
theorem den_posI {q : Rat} : (0 : Int) < q.den := by have := @den_pos q; omega
theorem q_add (x y : Rat) : Rat.divInt (x.num * y.den + y.num * x.den) (x.den * y.den) = x + y := by
  conv => rhs; rw [← Rat.num_divInt_den x, ← Rat.num_divInt_den y]
  rw [Rat.divInt_add_divInt _ _ (by have := @den_posI x; omega) (by have := @den_posI y; omega)]
theorem q_sub (x y : Rat) : Rat.divInt (x.num * y.den - y.num * x.den) (x.den * y.den) = x - y := by
  conv => rhs; rw [← Rat.num_divInt_den x, ← Rat.num_divInt_den y]
  rw [Rat.sub_eq_add_neg, Rat.neg_divInt, Rat.divInt_add_divInt _ _ (by have := @den_posI x; omega) (by have := @den_posI y; omega)]
  congr 1
  grind
theorem q_coprime (q : Rat) : Nat.gcd q.num.natAbs q.den = 1 := q.reduced
theorem whL_turn {t : Ft} {b : Fs} {n : Nat} {e e1 e2 : En} {r : Option (Flw × En)} (ht : t e = some (true, e1)) (hb : b e1 = some (.nx, e2)) (hn : whL t b n e2 = r) : whL t b (n + 1) e = r := by
  simp [whL, ht, hb, hn]
theorem whL_stop {t : Ft} {b : Fs} {n : Nat} {e e1 : En} (ht : t e = some (false, e1)) : whL t b (n + 1) e = some (.nx, e1) := by
  simp [whL, ht]
theorem rng_nat (n : Nat) : rng 0 (n : Int) = (List.range n).map fun (i : Nat) => .int (i : Int) := by
  unfold rng
  rw [show ((n : Int) - 0).toNat = n by omega]
  exact List.map_congr_left fun i _ => by rw [Int.zero_add]
theorem rng_nat2 (m n : Nat) : rng (m : Int) (n : Int) = (List.range (n - m)).map fun (i : Nat) => .int ((m + i : Nat) : Int) := by
  unfold rng
  rw [show ((n : Int) - (m : Int)).toNat = n - m by omega]
  exact List.map_congr_left fun i _ => by rw [Int.natCast_add]
theorem atI_get {α : Type} {l : List α} {i : Nat} (h : i < l.length) : atI l (i : Int) = some l[i] := by
  unfold atI ixN
  rw [if_pos (by omega), if_pos (by omega), Int.toNat_natCast]
  exact List.getElem?_eq_getElem h
/-- data that _law_same looks through to depth r -/
def Pl : Nat → PyData → Prop
  | 0, _ => False
  | _ + 1, .int _ => True
  | _ + 1, .none => True
  | _ + 1, .bool _ => True
  | _ + 1, .str s => PyData.strOk s = true
  | r + 1, .list ds => ds.length ≤ 1000000 ∧ ∀ d ∈ ds, Pl r d
  | r + 1, .tuple ds => ds.length ≤ 1000000 ∧ ∀ d ∈ ds, Pl r d
  | _ + 1, _ => False
/-- facts of sizes -/
theorem Sz.nn {x y : Rat} (h : Sz x) (h2 : Sz y) : mulOk x.num y.num = true := mulOk_lt h.num6 h2.num6
theorem Sz.nd {x y : Rat} (h : Sz x) (h2 : Sz y) : mulOk x.num (y.den : Int) = true := mulOk_lt h.num6 h2.den6
theorem Sz.dd {x y : Rat} (h : Sz x) (h2 : Sz y) : mulOk (x.den : Int) (y.den : Int) = true := mulOk_lt h.den6 h2.den6
theorem dd_pos {x y : Rat} : 0 < (x.den : Int) * (y.den : Int) := Int.mul_pos den_posI den_posI
theorem Sz.ddlt {x y : Rat} (h : Sz x) (h2 : Sz y) : ((x.den : Int) * (y.den : Int)).natAbs < 2 ^ 9000 := by
  rw [Int.natAbs_mul]
  exact lt_pow (mul_pow h.den h2.den) (by decide)
theorem Sz.one : Sz 1 := ⟨Nat.one_lt_two_pow (by decide), Nat.one_lt_two_pow (by decide)⟩
theorem numQ_pos {q : Rat} : 0 < q.num ↔ 0 < q := by
  rw [Rat.lt_iff]
  simp
theorem num_le_den {q : Rat} : q.num ≤ (q.den : Int) ↔ q ≤ 1 := by
  rw [Rat.le_iff]
  simp
@[simp] theorem shaped_b (b : Bool) : SeqAt.shaped (.bool b) = true := by simp [SeqAt.shaped, PyData.canLay0, PyData.depth]
@[simp] theorem shaped_nil : SeqAt.shaped (.list []) = true := by decide +kernel
@[simp] theorem eqv_b (a b : Bool) : PyData.eqv (.bool a) (.bool b) = (a == b) := by simp only [PyData.eqv]
@[simp] theorem eqv_nil : PyData.eqv (.list []) (.list []) = true := by decide +kernel
@[simp] theorem wipe_nil {e : En} : wipeE e [] = e := rfl
@[simp] theorem wipe_cons {e : En} {v : Nat} {vs : List Nat} : wipeE e (v :: vs) = (wipeE e vs).set v .no := rfl
def kRest (e1 e2 : En) (v : Nat) (vs : List Nat) (o : Option Sl) : En := match o with
  | some s => (restE e1 e2 vs).set v s
  | none => restE e1 e2 vs
@[simp] theorem rest_nil {e1 e2 : En} : restE e1 e2 [] = e2 := rfl
@[simp] theorem rest_cons {e1 e2 : En} {v : Nat} {vs : List Nat} : restE e1 e2 (v :: vs) = kRest e1 e2 v vs e1[v]? := by
  unfold restE kRest
  rfl
@[simp] theorem kRest_s {e1 e2 : En} {v : Nat} {vs : List Nat} {s : Sl} : kRest e1 e2 v vs (some s) = (restE e1 e2 vs).set v s := rfl
theorem set_back {e : En} {i : Nat} {s : Sl} (h : e[i]? = some s) (d : Sl) : (e.set i d).set i s = e := by
  rw [List.set_set]
  apply List.ext_getElem?
  intro j
  rw [List.getElem?_set]
  by_cases hj : i = j
  · subst hj
    rw [if_pos rfl, h]
    have := (List.getElem?_eq_some_iff.mp h).1
    rw [if_pos this]
  · rw [if_neg hj]
/-- [a(x) for x in xs if t(x)], the tests and elements change nothing -/
theorem cm_f {α β : Type} {t : Ft} {a : Fe} {i : Nat} {e : En} {E : α → PyData} {D : β → PyData} {F : α → β} {p : α → Bool} {s : Sl} {xs : List α} (hn : xs.length ≤ 1000000) (hs : e[i]? = some s) (ho : noOwn e [i] = true)
    (h : ∀ y ∈ xs, t (e.set i (.val (E y))) = some (p y, e.set i (.val (E y))) ∧ (p y = true → a (e.set i (.val (E y))) = some (D (F y), e.set i (.val (E y))))) :
    kCm (g1 i) t a [i] (xs.map E, e) = some (((xs.filter p).map F).map D, e) := by
  refine (kCm_ok (by simpa using hn) ho rfl (comp_filter (F := F) (p := p) (D := D) fun y hy => ⟨e.set i (.val (E y)), e.set i (.val (E y)), ?_, (h y hy).1, fun _ => ?_, fun hp => ⟨e.set i (.val (E y)), (h y hy).2 hp, ?_⟩⟩)).trans ?_
  · show some (((e.set i .no)).set i (.val (E y))) = _
    rw [List.set_set]
  · show (e.set i (.val (E y))).set i .no = e.set i .no
    rw [List.set_set]
  · show (e.set i (.val (E y))).set i .no = e.set i .no
    rw [List.set_set]
  · rw [rest_cons, hs, kRest_s, rest_nil]
    rw [show wipeE e [i] = e.set i .no from rfl, set_back hs]
theorem filter_all {α : Type} (xs : List α) : xs.filter (fun _ => true) = xs := List.filter_eq_self.mpr fun _ _ => rfl
theorem cm_a {α β : Type} {a : Fe} {i : Nat} {e : En} {E : α → PyData} {D : β → PyData} {F : α → β} {s : Sl} {xs : List α} (hn : xs.length ≤ 1000000) (hs : e[i]? = some s) (ho : noOwn e [i] = true)
    (h : ∀ y ∈ xs, a (e.set i (.val (E y))) = some (D (F y), e.set i (.val (E y)))) :
    kCm (g1 i) tYs a [i] (xs.map E, e) = some ((xs.map F).map D, e) := by
  have := cm_f (t := tYs) (p := fun _ => true) hn hs ho fun y hy => ⟨rfl, fun _ => h y hy⟩
  rw [filter_all] at this
  exact this
/-- [a(x, y) for x, y in xs if t(x, y)] -/
theorem cm_f2 {α β : Type} {t : Ft} {a : Fe} {i j : Nat} {e : En} {E1 E2 : α → PyData} {D : β → PyData} {F : α → β} {p : α → Bool} {s s2 : Sl} {xs : List α} (hn : xs.length ≤ 1000000) (hij : i ≠ j) (hs : e[i]? = some s) (hs2 : e[j]? = some s2) (ho : noOwn e [i, j] = true)
    (h : ∀ y ∈ xs, t ((e.set i (.val (E1 y))).set j (.val (E2 y))) = some (p y, (e.set i (.val (E1 y))).set j (.val (E2 y))) ∧ (p y = true → a ((e.set i (.val (E1 y))).set j (.val (E2 y))) = some (D (F y), (e.set i (.val (E1 y))).set j (.val (E2 y))))) :
    kCm (g2 2 (gsC (g1 i) (gsC (g1 j) gsN))) t a [i, j] (xs.map (fun y => .tuple [E1 y, E2 y]), e) = some (((xs.filter p).map F).map D, e) := by
  have w : ∀ d1 d2 : Sl, wipeE ((e.set i d1).set j d2) [i, j] = wipeE e [i, j] := fun d1 d2 => by
    show (((e.set i d1).set j d2).set j .no).set i .no = (e.set j .no).set i .no
    rw [List.set_set, List.set_comm _ _ hij.symm, List.set_comm _ _ hij.symm, List.set_set]
  refine (kCm_ok (by simpa using hn) ho rfl (comp_filter (F := F) (p := p) (D := D) fun y hy => ⟨(e.set i (.val (E1 y))).set j (.val (E2 y)), (e.set i (.val (E1 y))).set j (.val (E2 y)), ?_, (h y hy).1, fun _ => w _ _, fun hp => ⟨(e.set i (.val (E1 y))).set j (.val (E2 y)), (h y hy).2 hp, w _ _⟩⟩)).trans ?_
  · show some ((((e.set j .no).set i .no).set i (.val (E1 y))).set j (.val (E2 y))) = _
    rw [List.set_set, List.set_comm _ _ hij, List.set_comm _ _ hij, List.set_set]
  · rw [rest_cons, hs, kRest_s, rest_cons, hs2, kRest_s, rest_nil]
    show some (_, ((((e.set j .no).set i .no).set j s2).set i s)) = _
    rw [List.set_comm _ _ hij, set_back hs2, set_back hs]
theorem cm_a2 {α β : Type} {a : Fe} {i j : Nat} {e : En} {E1 E2 : α → PyData} {D : β → PyData} {F : α → β} {s s2 : Sl} {xs : List α} (hn : xs.length ≤ 1000000) (hij : i ≠ j) (hs : e[i]? = some s) (hs2 : e[j]? = some s2) (ho : noOwn e [i, j] = true)
    (h : ∀ y ∈ xs, a ((e.set i (.val (E1 y))).set j (.val (E2 y))) = some (D (F y), (e.set i (.val (E1 y))).set j (.val (E2 y)))) :
    kCm (g2 2 (gsC (g1 i) (gsC (g1 j) gsN))) tYs a [i, j] (xs.map (fun y => .tuple [E1 y, E2 y]), e) = some ((xs.map F).map D, e) := by
  have := cm_f2 (t := tYs) (p := fun _ => true) hn hij hs hs2 ho fun y hy => ⟨rfl, fun _ => h y hy⟩
  rw [filter_all] at this
  exact this
theorem Pl.list {r : Nat} {ds : List PyData} (h : Pl (r + 1) (.list ds)) : ds.length ≤ 1000000 ∧ ∀ d ∈ ds, Pl r d := h
theorem Pl.tuple {r : Nat} {ds : List PyData} (h : Pl (r + 1) (.tuple ds)) : ds.length ≤ 1000000 ∧ ∀ d ∈ ds, Pl r d := h
theorem Pl.at {r : Nat} {ds : List PyData} (h : ∀ d ∈ ds, Pl r d) {i : Nat} (hi : i < ds.length) : Pl r (ds.getD i .none) := h _ (by rw [List.getD_eq_getElem?_getD, List.getElem?_eq_getElem hi]; exact List.getElem_mem hi)
theorem kR1_len {n : Nat} {e : En} (h : n ≤ 1000000) : kR1 ([.int (n : Int)], e) = some ((List.range n).map fun (i : Nat) => .int (i : Int), e) := by
  rw [kR1_ok (by omega) (by omega), rng_nat]
theorem kR2_len {m n : Nat} {e : En} (h : m ≤ 1000000) (h2 : n ≤ 1000000) : kR2 ([.int (m : Int), .int (n : Int)], e) = some ((List.range (n - m)).map fun (i : Nat) => .int ((m + i : Nat) : Int), e) := by
  rw [kR2_ok (by omega) (by omega) (by omega) (by omega), rng_nat2]
/-- a loop, turn by turn -/
theorem for_at {α : Type} {tg : Tg} {f : Fs} {E : α → PyData} {S : Nat → En → Prop} : ∀ {xs : List α} {k : Nat} {e : En}, S k e → (∀ (i : Nat) (y : α), xs[i]? = some y → ∀ e, S (k + i) e → ∃ e1 e2 fl, tg (E y) e = some e1 ∧ f e1 = some (fl, e2) ∧ (fl = .nx ∨ fl = .ct) ∧ S (k + i + 1) e2) →
    ∃ e', forL tg f (xs.map E) e = some (.nx, e') ∧ S (k + xs.length) e'
  | [], k, e, hs, _ => ⟨e, rfl, hs⟩
  | d :: ds, k, e, hs, h => by
    obtain ⟨e1, e2, fl, h1, h2, h3, h4⟩ := h 0 d rfl e hs
    obtain ⟨e', h5, h6⟩ := for_at (xs := ds) (k := k + 1) h4 fun i y hi e he => by
      have := h (i + 1) y (by simpa using hi) e (by rw [show k + (i + 1) = k + 1 + i by omega]; exact he)
      rw [show k + (i + 1) + 1 = k + 1 + i + 1 by omega] at this
      exact this
    refine ⟨e', ?_, by rw [List.length_cons, show k + (ds.length + 1) = k + 1 + ds.length by omega]; exact h6⟩
    rw [List.map_cons, for_cons, h1]
    show (f e1).bind _ = _
    rw [h2]
    rcases h3 with rfl | rfl
    · exact h5
    · exact h5
theorem for_ix {tg : Tg} {f : Fs} {E : Nat → PyData} {S : Nat → En → Prop} {n : Nat} {e : En} (hs : S 0 e) (h : ∀ i, i < n → ∀ e, S i e → ∃ e1 e2 fl, tg (E i) e = some e1 ∧ f e1 = some (fl, e2) ∧ (fl = .nx ∨ fl = .ct) ∧ S (i + 1) e2) :
    ∃ e', forL tg f ((List.range n).map E) e = some (.nx, e') ∧ S n e' := by
  have := for_at (tg := tg) (f := f) (E := E) (S := S) (xs := List.range n) (k := 0) hs fun i y hi e he => by
    have hi2 : i < n := by
      have := (List.getElem?_eq_some_iff.mp hi).1
      simpa using this
    rw [List.getElem?_range hi2] at hi
    cases hi
    rw [Nat.zero_add] at he ⊢
    exact h i hi2 e he
  rw [List.length_range, Nat.zero_add] at this
  exact this
theorem for_at0 {α : Type} {tg : Tg} {f : Fs} {E : α → PyData} {S : Nat → En → Prop} {xs : List α} {e : En} (hs : S 0 e) (h : ∀ (i : Nat) (y : α), xs[i]? = some y → ∀ e, S i e → ∃ e1 e2 fl, tg (E y) e = some e1 ∧ f e1 = some (fl, e2) ∧ (fl = .nx ∨ fl = .ct) ∧ S (i + 1) e2) :
    ∃ e', forL tg f (xs.map E) e = some (.nx, e') ∧ S xs.length e' := by
  have := for_at (xs := xs) (k := 0) hs fun i y hi e he => by
    rw [Nat.zero_add] at he ⊢
    exact h i y hi e he
  rw [Nat.zero_add] at this
  exact this
end Dn
set_option Elab.async false
set_option linter.all false
set_option maxRecDepth 100000
namespace Dn
open PySem PySem.Spec PyProof.Rows L2
def sumN (f : Nat → Int) : Nat → Int
  | 0 => 0
  | n + 1 => sumN f n + f n
theorem sumN_congr {f g : Nat → Int} : ∀ {n : Nat}, (∀ i, i < n → f i = g i) → sumN f n = sumN g n
  | 0, _ => rfl
  | n + 1, h => by rw [sumN, sumN, sumN_congr fun i hi => h i (by omega), h n (by omega)]
theorem sumN_mul (c : Int) (f : Nat → Int) : ∀ n, sumN (fun i => c * f i) n = c * sumN f n
  | 0 => by simp [sumN]
  | n + 1 => by rw [sumN, sumN, sumN_mul c f n, Int.mul_add]
theorem sumN_nonneg {f : Nat → Int} : ∀ {n : Nat}, (∀ i, i < n → 0 ≤ f i) → 0 ≤ sumN f n
  | 0, _ => Int.le_refl 0
  | n + 1, h => by
    have := sumN_nonneg (f := f) (n := n) fun i hi => h i (by omega)
    have := h n (by omega)
    rw [sumN]; omega
theorem atI_lastD {l : List PyData} (h : 0 < l.length) : atI l (-1) = some (l.getD (l.length - 1) .none) := by
  unfold atI ixN
  rw [if_neg (by omega), if_pos (by omega)]
  rw [show (-1 + (l.length : Int)).toNat = l.length - 1 by omega]
  rw [List.getD_eq_getElem?_getD]
  simp only [Option.bind_some]
  rw [List.getElem?_eq_getElem (by omega)]
  rfl
theorem atI_map {F : Nat → PyData} {n i : Nat} (h : i < n) : atI ((List.range n).map F) (i : Int) = some (F i) := by
  rw [atI_get (by simpa using h)]
  simp
def ser (M : Nat → Nat → Int) (n : Nat) (f0 : Nat → Int) : Nat → Nat → Int
  | 0 => f0
  | y + 1 => fun k => sumN (fun j => M k j * ser M n f0 y j) n
end Dn
set_option Elab.async false
set_option linter.all false
set_option maxRecDepth 100000
namespace Dn
open PySem PySem.Spec PyProof.Rows L2
/-- the least common multiple of the denominators -/
def lcms (l : List Rat) : Nat := l.foldl (fun b q => Nat.lcm b q.den) 1
/-- q in parts of B -/
def sh (B : Nat) (q : Rat) : Int := q.num * ((B / q.den : Nat) : Int)
/-- a row of shares -/
structure RowC (c : Nat) (r : List Rat) : Prop where
  len : 1 ≤ r.length ∧ r.length ≤ 6
  pos : ∀ q ∈ r, 0 < q
  le1 : ∀ q ∈ r, q ≤ 1
  den : ∀ q ∈ r, q.den ≤ c
def rB (r : List Rat) : Nat := lcms r
def rs (r : List Rat) (k : Nat) : Int := (r.map (sh (rB r))).getD k 0
def rM (r : List Rat) : Nat → Nat → Int := rowEntry (rB r : Int) (r.map (sh (rB r)))
def e0 (i : Nat) : Int := if i = 0 then 1 else 0
def rv (r : List Rat) (y k : Nat) : Int := ser (rM r) r.length e0 y k
section
variable {r : List Rat}
/-- sums of fractions -/
def qsN (f : Nat → Rat) : Nat → Rat
  | 0 => 0
  | n + 1 => qsN f n + f n
theorem qsN_congr {f g : Nat → Rat} : ∀ {n : Nat}, (∀ i, i < n → f i = g i) → qsN f n = qsN g n
  | 0, _ => rfl
  | n + 1, h => by rw [qsN, qsN, qsN_congr fun i hi => h i (by omega), h n (by omega)]
theorem qsN_add (f g : Nat → Rat) : ∀ n, qsN (fun i => f i + g i) n = qsN f n + qsN g n
  | 0 => by show (0 : Rat) = 0 + 0; grind
  | n + 1 => by rw [qsN, qsN, qsN, qsN_add f g n]; grind
theorem qsN_int (f : Nat → Int) (g : Nat → Rat) (D : Rat) (m : Nat) (h : ∀ i, i < m → g i * D = (f i : Rat)) : qsN g m * D = (sumN f m : Rat) := by
  induction m with
  | zero => show (0 : Rat) * D = ((0 : Int) : Rat); rw [Rat.zero_mul]; rfl
  | succ m ih =>
    rw [qsN, sumN, Rat.intCast_add, ← ih fun i hi => h i (by omega), ← h m (by omega)]
    grind
end
theorem Sz.of01 {D : Nat} {q : Rat} (h : Pt D q) (hD : 0 < D) (hD2 : D < 2 ^ 4000) (h0 : 0 ≤ q) (h1 : q ≤ 1) : Sz q :=
  h.sz (N := 1) hD hD2 (Nat.one_lt_two_pow (by decide)) h1 (by have : ((1 : Nat) : Rat) = 1 := rfl; rw [this]; grind)
theorem RowC.num {r : List Rat} (h : RowC 1000 r) : ∀ q ∈ r, q.num.natAbs < 2 ^ 60000 := fun q hq => by
  have h0 := numQ_pos.mpr (h.pos q hq)
  have h1 := num_le_den.mpr (h.le1 q hq)
  have h2 := h.den q hq
  have : (1001 : Nat) ≤ 2 ^ 60000 := Nat.le_trans (by decide : 1001 ≤ 2 ^ 10) (Nat.pow_le_pow_right (by decide) (by decide))
  omega
end Dn
set_option Elab.async false
set_option linter.all false
set_option maxRecDepth 100000
namespace Dn
open PySem PySem.Spec PyProof.Rows L2
def tlE (F : Nat → Rat) (b : Nat) : PyData := .tuple [.int (b : Int), encQ (F b)]
def tlI (F : Nat → Rat) (n : Nat) : List Nat := (List.range n).filter fun b => decide (0 < F b)
def tl (F : Nat → Rat) (n : Nat) : PyData := .list ((tlI F n).map (tlE F))
theorem cut_to {l : List PyData} {n : Nat} : cutD l none (some (n : Int)) = l.take n := by
  unfold cutD
  rw [HT.sIx_nat, HT.sIx_none, Nat.sub_zero, List.drop_zero]
  by_cases h : n ≤ l.length
  · rw [Nat.min_eq_left h]
  · rw [Nat.min_eq_right (by omega), List.take_length, List.take_of_length_le (by omega)]
end Dn
set_option Elab.async false
set_option linter.all false
set_option maxRecDepth 100000
namespace Dn
open PySem PySem.Spec PyProof.Rows L2
def qs (l : List Rat) : Rat := l.foldl (· + ·) 0
theorem qs_snoc (l : List Rat) (q : Rat) : qs (l ++ [q]) = qs l + q := by simp [qs]
theorem qs_nil : qs [] = 0 := rfl
theorem qs_from (l : List Rat) : ∀ z : Rat, l.foldl (· + ·) z = z + qs l := by
  induction l with
  | nil => intro z; show z = z + 0; grind
  | cons q l ih =>
    intro z
    show l.foldl (· + ·) (z + q) = z + l.foldl (· + ·) (0 + q)
    rw [ih (z + q), ih (0 + q)]
    grind
theorem qs_append (a b : List Rat) : qs (a ++ b) = qs a + qs b := by
  unfold qs
  rw [List.foldl_append, qs_from b]
  rfl
theorem qs_cons (q : Rat) (l : List Rat) : qs (q :: l) = q + qs l := by
  have := qs_append [q] l
  rw [show qs [q] = q by show (0 : Rat) + q = q; grind] at this
  exact this
theorem qsN_first (f : Nat → Rat) : ∀ n, qsN f (n + 1) = f 0 + qsN (fun i => f (i + 1)) n
  | 0 => by show (0 : Rat) + f 0 = f 0 + 0; grind
  | n + 1 => by rw [qsN, qsN_first f n, qsN]; grind
theorem qsN_swap (f : Nat → Nat → Rat) (m : Nat) : ∀ n, qsN (fun i => qsN (f i) m) n = qsN (fun j => qsN (fun i => f i j) n) m
  | 0 => by
    show (0 : Rat) = qsN (fun _ => 0) m
    have : ∀ m, qsN (fun _ => (0 : Rat)) m = 0 := by
      intro m
      induction m with
      | zero => rfl
      | succ m ih => rw [qsN, ih]; grind
    rw [this]
  | n + 1 => by
    rw [qsN, qsN_swap f m n]
    show _ = qsN (fun j => qsN (fun i => f i j) n + f n j) m
    rw [qsN_add]
theorem qsN_const (c : Rat) : ∀ n : Nat, qsN (fun _ => c) n = (n : Rat) * c
  | 0 => by show (0 : Rat) = ((0 : Nat) : Rat) * c; rw [show ((0 : Nat) : Rat) = 0 from rfl]; grind
  | n + 1 => by
    rw [qsN, qsN_const c n]
    have : (((n + 1 : Nat)) : Rat) = (n : Rat) + 1 := by rw [Rat.natCast_add]; rfl
    rw [this]; grind
theorem qsN_neg (f : Nat → Rat) : ∀ n, qsN (fun i => - f i) n = - qsN f n
  | 0 => by show (0 : Rat) = -0; grind
  | n + 1 => by rw [qsN, qsN_neg f n, qsN]; grind
theorem qsN_sub (f g : Nat → Rat) (n : Nat) : qsN (fun i => f i - g i) n = qsN f n - qsN g n := by
  rw [show (fun i => f i - g i) = fun i => f i + - g i by funext i; grind, qsN_add, qsN_neg]; grind
theorem qsN_nonneg {f : Nat → Rat} : ∀ {n : Nat}, (∀ i, i < n → 0 ≤ f i) → 0 ≤ qsN f n
  | 0, _ => Rat.le_refl
  | n + 1, h => by
    have h1 := qsN_nonneg (f := f) (n := n) fun i hi => h i (by omega)
    have h2 := h n (by omega)
    rw [qsN]; grind
/-- a bundle of bounds for sums -/
structure Bd (D N : Nat) (l : List Rat) : Prop where
  pt : ∀ q ∈ l, Pt D q
  lo : ∀ q ∈ l, 0 ≤ q
  hi : ∀ q ∈ l, q ≤ (N : Rat)
theorem Bd.take {D N : Nat} {l : List Rat} (h : Bd D N l) (i : Nat) : Bd D N (l.take i) :=
  ⟨fun q hq => h.pt q (List.mem_of_mem_take hq), fun q hq => h.lo q (List.mem_of_mem_take hq), fun q hq => h.hi q (List.mem_of_mem_take hq)⟩
theorem Bd.append {D N : Nat} {l k : List Rat} (h : Bd D N l) (h2 : Bd D N k) : Bd D N (l ++ k) :=
  ⟨fun q hq => (List.mem_append.mp hq).elim (h.pt q) (h2.pt q), fun q hq => (List.mem_append.mp hq).elim (h.lo q) (h2.lo q), fun q hq => (List.mem_append.mp hq).elim (h.hi q) (h2.hi q)⟩
theorem Bd.sum {D N : Nat} : ∀ {l : List Rat}, Bd D N l → Pt D (qs l) ∧ 0 ≤ qs l ∧ qs l ≤ ((l.length * N : Nat) : Rat)
  | [], _ => ⟨Pt.zero, Rat.le_refl, by rw [List.length_nil, Nat.zero_mul]; exact Rat.le_refl⟩
  | q :: l, h => by
    obtain ⟨h1, h2, h3⟩ := Bd.sum (l := l) ⟨fun q hq => h.pt q (List.mem_cons_of_mem _ hq), fun q hq => h.lo q (List.mem_cons_of_mem _ hq), fun q hq => h.hi q (List.mem_cons_of_mem _ hq)⟩
    have a1 := h.pt q List.mem_cons_self
    have a2 := h.lo q List.mem_cons_self
    have a3 := h.hi q List.mem_cons_self
    rw [qs_cons]
    refine ⟨a1.add h1, by grind, ?_⟩
    rw [List.length_cons, Nat.succ_mul, Rat.natCast_add]
    grind
theorem Bd.sz {D N : Nat} {l : List Rat} (h : Bd D N l) (hD : 0 < D) (hD2 : D < 2 ^ 4000) (hN : l.length * N < 2 ^ 1000) : Sz (qs l) := by
  obtain ⟨h1, h2, h3⟩ := h.sum
  exact h1.sz hD hD2 hN h3 (by
    have : (0 : Rat) ≤ ((l.length * N : Nat) : Rat) := by
      have : ((0 : Nat) : Rat) ≤ ((l.length * N : Nat) : Rat) := Rat.natCast_le_natCast.mpr (Nat.zero_le _)
      exact this
    grind)
theorem Bd.each {D N : Nat} {l : List Rat} (h : Bd D N l) (hD : 0 < D) (hD2 : D < 2 ^ 4000) (hN : N < 2 ^ 1000) {q : Rat} (hq : q ∈ l) : Sz q :=
  (h.pt q hq).sz hD hD2 hN (h.hi q hq) (by
    have : (0 : Rat) ≤ (N : Rat) := by
      have : ((0 : Nat) : Rat) ≤ (N : Rat) := Rat.natCast_le_natCast.mpr (Nat.zero_le _)
      exact this
    have := h.lo q hq
    grind)
end Dn
set_option Elab.async false
set_option linter.all false
set_option maxRecDepth 100000
namespace Dn
open PySem PySem.Spec PyProof.Rows L2
end Dn
set_option Elab.async false
set_option linter.all false
set_option maxRecDepth 100000
namespace Dn
open PySem PySem.Spec PyProof.Rows L2
/-- n more pulls are within bounds -/
def KegOk (n : Nat) (ks : List PyData) : Prop := ∃ a b c : Int, ks = [.int a, .int b, .int c] ∧ 0 ≤ a ∧ 0 ≤ b ∧ b ≤ 2 ^ 100 ∧ 0 ≤ c ∧ c + n ≤ 1000000
theorem KegOk.mono {n m : Nat} {ks : List PyData} (h : KegOk n ks) (hm : m ≤ n) : KegOk m ks := by
  obtain ⟨a, b, c, h1, h2, h3, h4, h5, h6⟩ := h
  exact ⟨a, b, c, h1, h2, h3, h4, h5, by omega⟩
theorem fmod_lt {a b : Int} (h : 0 < b) : 0 ≤ a.fmod b ∧ a.fmod b < b := by
  rw [Int.fmod_eq_emod_of_nonneg _ (by omega)]
  exact ⟨Int.emod_nonneg _ (by omega), Int.emod_lt_of_pos _ h⟩
theorem fdiv_nonneg {a b : Int} (h : 0 < b) (ha : 0 ≤ a) : 0 ≤ a.fdiv b := by
  rw [Int.fdiv_eq_ediv_of_nonneg _ (by omega)]
  exact Int.ediv_nonneg ha (by omega)
theorem powOk_lt {i : Int} (h : i.natAbs < 2 ^ 1000) : powOk i 3 = true := by
  unfold powOk
  rw [Bool.and_eq_true]
  refine ⟨by decide, decide_eq_true ?_⟩
  have := log_of h (by decide)
  show (i.natAbs.log2 + 1) * 3 ≤ 100000000
  omega
end Dn
set_option Elab.async false
set_option linter.all false
set_option maxRecDepth 100000
namespace Dn
open PySem PySem.Spec PyProof.Rows L2
/-- n casks; the table t (row, column), what comes in c, what is drawn s; all in parts of W -/
structure CelOk (n W V : Nat) (t : Nat → Nat → Rat) (c s : Nat → Rat) : Prop where
  n1 : 1 ≤ n
  n8 : n ≤ 8
  W1 : 0 < W
  W9 : W < 2 ^ 1000
  V1 : 0 < V
  V9 : V < 2 ^ 1000
  tp : ∀ i j, i < n → j < n → Pt W (t i j)
  t0 : ∀ i j, i < n → j < n → 0 ≤ t i j
  t1 : ∀ j, j < n → qsN (fun i => t i j) n ≤ 1
  sp : ∀ j, j < n → Pt W (s j)
  s0 : ∀ j, j < n → 0 ≤ s j
  s1 : ∀ j, j < n → s j ≤ 1
  cp : ∀ j, j < n → Pt V (c j)
  c0 : ∀ j, j < n → 0 ≤ c j
  c1 : ∀ j, j < n → c j ≤ 100
section
variable {n W V : Nat} {t : Nat → Nat → Rat} {c s : Nat → Rat}
theorem qsN_mulL (a : Rat) (f : Nat → Rat) : ∀ n, qsN (fun i => a * f i) n = a * qsN f n
  | 0 => by show (0 : Rat) = a * 0; grind
  | n + 1 => by rw [qsN, qsN_mulL a f n, qsN]; grind
theorem qsN_mulR (a : Rat) (f : Nat → Rat) : ∀ n, qsN (fun i => f i * a) n = qsN f n * a
  | 0 => by show (0 : Rat) = 0 * a; grind
  | n + 1 => by rw [qsN, qsN_mulR a f n, qsN]; grind
end
end Dn
set_option Elab.async false
set_option linter.all false
set_option maxRecDepth 100000
namespace Dn
open PySem PySem.Spec PyProof.Rows L2
def cU (n : Nat) (c : Nat → Rat) : Nat := lcms ((List.range n).map c)
def cI (n : Nat) (c : Nat → Rat) (j : Nat) : Int := sh (cU n c) (c j)
/-- a series of rows of fractions, and in integers -/
def qser (n : Nat) (t : Nat → Nat → Rat) (c : Nat → Rat) : Nat → Nat → Rat
  | 0 => c
  | y + 1 => fun k => qsN (fun j => t k j * qser n t c y j) n
/-- no more than at first -/
theorem qser_nonneg {n : Nat} {t : Nat → Nat → Rat} {c : Nat → Rat} (ht : ∀ i j, i < n → j < n → 0 ≤ t i j) (hc : ∀ j, j < n → 0 ≤ c j) : ∀ y k, k < n → 0 ≤ qser n t c y k
  | 0, k, hk => hc k hk
  | y + 1, k, hk => qsN_nonneg fun j hj => Rat.mul_nonneg (ht k j hk hj) (qser_nonneg ht hc y j hj)
theorem qsN_le_qsN {f g : Nat → Rat} : ∀ {n : Nat}, (∀ i, i < n → f i ≤ g i) → qsN f n ≤ qsN g n
  | 0, _ => Rat.le_refl
  | n + 1, h => by
    have h1 := qsN_le_qsN (f := f) (g := g) (n := n) fun i hi => h i (by omega)
    have h2 := h n (by omega)
    rw [qsN, qsN]; grind
theorem qsN_ge {f : Nat → Rat} : ∀ {n : Nat}, (∀ i, i < n → 0 ≤ f i) → ∀ i, i < n → f i ≤ qsN f n
  | 0, _, i, hi => by omega
  | n + 1, h, i, hi => by
    have h0 : 0 ≤ qsN f n := qsN_nonneg fun i hi => h i (by omega)
    have h1 := h n (by omega)
    rw [qsN]
    by_cases e : i = n
    · subst e; grind
    · have := qsN_ge (fun i hi => h i (by omega)) i (show i < n by omega); grind
theorem div_mul {a : Int} {D : Nat} (h : 0 < D) : Rat.divInt a (D : Int) * ((D : Nat) : Rat) = (a : Rat) := by
  have := natQ_ne h
  rw [Rat.divInt_eq_div]
  have e : (((D : Nat) : Int) : Rat) = (D : Rat) := rfl
  rw [e]
  grind
end Dn
set_option Elab.async false
set_option linter.all false
set_option maxRecDepth 100000
namespace Dn
open PySem PySem.Spec PyProof.Rows L2
structure DrOk (n b u : Nat) (col : Nat → Nat → Int) (into taps : Nat → Int) : Prop where
  n1 : 1 ≤ n
  n8 : n ≤ 8
  b1 : 1 ≤ b
  b9 : b < 2 ^ 33
  u1 : 1 ≤ u
  u9 : u ≤ 20
  c0 : ∀ j i, j < n → i < n → 0 ≤ col j i
  c1 : ∀ j, j < n → sumN (col j) n ≤ (b : Int)
  i0 : ∀ j, j < n → 0 ≤ into j
  i1 : ∀ j, j < n → into j ≤ 90 * (u : Int)
  t0 : ∀ j, j < n → 0 ≤ taps j
  t1 : ∀ j, j < n → taps j ≤ (b : Int)
def dt (b : Nat) (col : Nat → Nat → Int) (i j : Nat) : Rat := Rat.divInt (col j i) (b : Int)
def dv (u : Nat) (f : Nat → Int) (j : Nat) : Rat := Rat.divInt (f j) (u : Int)
end Dn
set_option Elab.async false
set_option linter.all false
set_option maxRecDepth 100000
namespace Dn
open PySem PySem.Spec PyProof.Rows L2
def eQ (j k : Nat) : Rat := if k = j then 1 else 0
structure TabOk (n W : Nat) (t : Nat → Nat → Rat) : Prop where
  n1 : 1 ≤ n
  n8 : n ≤ 8
  W1 : 0 < W
  W9 : W < 2 ^ 1000
  tp : ∀ i j, i < n → j < n → Pt W (t i j)
  t0 : ∀ i j, i < n → j < n → 0 ≤ t i j
  t1 : ∀ j, j < n → qsN (fun i => t i j) n ≤ 1
section
variable {n W : Nat} {t : Nat → Nat → Rat}
theorem TabOk.of {V : Nat} {c s : Nat → Rat} (h : CelOk n W V t c s) : TabOk n W t := ⟨h.n1, h.n8, h.W1, h.W9, h.tp, h.t0, h.t1⟩
theorem TabOk.le (h : TabOk n W t) {i j : Nat} (hi : i < n) (hj : j < n) : t i j ≤ 1 := Rat.le_trans (qsN_ge (f := fun i => t i j) (fun i hi => h.t0 i j hi hj) i hi) (h.t1 j hj)
theorem TabOk.sz (h : TabOk n W t) : ∀ i j, i < n → j < n → Sz (t i j) := fun i j hi hj => Sz.of01 (h.tp i j hi hj) h.W1 (lt_pow h.W9 (by decide)) (h.t0 i j hi hj) (h.le hi hj)
end
end Dn
set_option Elab.async false
set_option linter.all false
set_option maxRecDepth 100000
namespace Dn
open PySem PySem.Spec PyProof.Rows L2
end Dn
set_option Elab.async false
set_option linter.all false
set_option maxRecDepth 100000
namespace Dn
open PySem PySem.Spec PyProof.Rows L2
def abc : Str := "abcdefghijklmnopqrstuvwxyz"
def KindOk (s : Str) : Prop := 1 ≤ s.length ∧ s.length ≤ 8 ∧ ∀ c ∈ s.cps.toList, c ∈ abc.cps.toList
instance (s : Str) : Decidable (KindOk s) := inferInstanceAs (Decidable (_ ∧ _))
theorem KindOk.ok {s : Str} (h : KindOk s) : PyData.strOk s = true := by
  unfold PyData.strOk
  rw [Array.all_eq_true']
  intro c hc
  have h1 := h.2.2 c (by simpa using hc)
  have h2 : ∀ c ∈ abc.cps.toList, c < 1114112 := by decide +kernel
  exact decide_eq_true (h2 c h1)
end Dn
set_option Elab.async false
set_option linter.all false
set_option maxRecDepth 100000
namespace Dn
open PySem PySem.Spec PyProof.Rows L2
structure FOk (n b : Nat) (f : Nat → Rat) : Prop where
  p : ∀ j, j < n → Pt b (f j)
  f0 : ∀ j, j < n → 0 ≤ f j
  f1 : ∀ j, j < n → f j ≤ 1
theorem FOk.sz {n b : Nat} {f : Nat → Rat} (h : FOk n b f) (hb : 0 < b) (hb2 : b < 2 ^ 1000) {j : Nat} (hj : j < n) : Sz (f j) := Sz.of01 (h.p j hj) hb (lt_pow hb2 (by decide)) (h.f0 j hj) (h.f1 j hj)
end Dn
set_option Elab.async false
set_option linter.all false
set_option maxRecDepth 100000
namespace Dn
open PySem PySem.Spec PyProof.Rows L2
def Sim : Nat → PyData → Prop
  | 0, _ => False
  | _ + 1, .int _ => True
  | _ + 1, .none => True
  | _ + 1, .str s => PyData.strOk s = true
  | r + 1, .list ds => ∀ d ∈ ds, Sim r d
  | r + 1, .tuple ds => ∀ d ∈ ds, Sim r d
  | _ + 1, _ => False
theorem lay_all : ∀ {ds : List PyData} {r : Nat}, (∀ d ∈ ds, d.canLay0 = true ∧ d.depth ≤ r) → PyData.canLayAll0 ds = true ∧ PyData.depthAll ds ≤ r
  | [], _, _ => by simp [PyData.canLayAll0, PyData.depthAll]
  | d :: ds, r, h => by
    have h1 := h d List.mem_cons_self
    have h2 := lay_all (ds := ds) (r := r) fun d hd => h d (List.mem_cons_of_mem _ hd)
    simp only [PyData.canLayAll0, PyData.depthAll, h1.1, h2.1]
    exact ⟨rfl, Nat.max_le.mpr ⟨h1.2, h2.2⟩⟩
theorem Sim.lay : ∀ {r : Nat} {d : PyData}, Sim r d → d.canLay0 = true ∧ d.depth ≤ r
  | 0, _, h => h.elim
  | r + 1, .int _, _ => by simp [PyData.canLay0, PyData.depth]
  | r + 1, .none, _ => by simp [PyData.canLay0, PyData.depth]
  | r + 1, .str s, h => by
    have : PyData.strOk s = true := h
    simp [PyData.canLay0, PyData.depth, this]
  | r + 1, .list ds, h => by
    have := lay_all (ds := ds) (r := r) fun d hd => Sim.lay (r := r) (h d hd)
    simp only [PyData.canLay0, PyData.depth, this.1]
    exact ⟨trivial, by omega⟩
  | r + 1, .tuple ds, h => by
    have := lay_all (ds := ds) (r := r) fun d hd => Sim.lay (r := r) (h d hd)
    simp only [PyData.canLay0, PyData.depth, this.1]
    exact ⟨trivial, by omega⟩
  | _ + 1, .bool _, h => h.elim
  | _ + 1, .dict _, h => h.elim
theorem Sim.shaped {r : Nat} {d : PyData} (h : Sim r d) (hr : r ≤ 64) : SeqAt.shaped d = true := by
  unfold SeqAt.shaped
  rw [h.lay.1, decide_eq_true (Nat.le_trans h.lay.2 hr)]
  rfl
theorem eqAll {r : Nat} (ih : ∀ {d e : PyData}, Sim r d → Sim r e → (PyData.eqv d e = true ↔ d = e)) : ∀ {xs ys : List PyData}, (∀ d ∈ xs, Sim r d) → (∀ d ∈ ys, Sim r d) → (PyData.eqvAll xs ys = true ↔ xs = ys)
  | [], [], _, _ => by simp [PyData.eqvAll]
  | [], _ :: _, _, _ => by simp [PyData.eqvAll]
  | _ :: _, [], _, _ => by simp [PyData.eqvAll]
  | x :: xs, y :: ys, h, h2 => by
    have h3 := ih (h x List.mem_cons_self) (h2 y List.mem_cons_self)
    have h4 := eqAll ih (xs := xs) (ys := ys) (fun d hd => h d (List.mem_cons_of_mem _ hd)) fun d hd => h2 d (List.mem_cons_of_mem _ hd)
    simp only [PyData.eqvAll, Bool.and_eq_true, h3, h4, List.cons.injEq]
theorem Sim.eqv : ∀ {r : Nat} {d e : PyData}, Sim r d → Sim r e → (PyData.eqv d e = true ↔ d = e)
  | 0, _, _, h, _ => h.elim
  | r + 1, d, e, h, h2 => by
    cases d with
    | bool _ => exact h.elim
    | dict _ => exact h.elim
    | int i => cases e <;> first | exact h2.elim | simp [PyData.eqv]
    | none => cases e <;> first | exact h2.elim | simp [PyData.eqv]
    | str s => cases e <;> first | exact h2.elim | simp [PyData.eqv]
    | list xs =>
      cases e with
      | list ys =>
        have := eqAll (r := r) (fun a b => Sim.eqv a b) (xs := xs) (ys := ys) h h2
        simp only [PyData.eqv, this, PyData.list.injEq]
      | bool _ => exact h2.elim
      | dict _ => exact h2.elim
      | _ => simp [PyData.eqv]
    | tuple xs =>
      cases e with
      | tuple ys =>
        have := eqAll (r := r) (fun a b => Sim.eqv a b) (xs := xs) (ys := ys) h h2
        simp only [PyData.eqv, this, PyData.tuple.injEq]
      | bool _ => exact h2.elim
      | dict _ => exact h2.elim
      | _ => simp [PyData.eqv]
section
variable {r : Nat} {d e : PyData}
theorem gEq_gen (d e : PyData) (hd : SeqAt.shaped d = true) (he : SeqAt.shaped e = true) : gEq d e = some (.bool (PyData.eqv d e)) := by
  cases d <;> cases e <;> simp [gEq, hd, he, eqv_int]
theorem gNe_gen (d e : PyData) (hd : SeqAt.shaped d = true) (he : SeqAt.shaped e = true) : gNe d e = some (.bool (!PyData.eqv d e)) := by
  cases d <;> cases e <;> simp [gNe, hd, he, eqv_int]
theorem gEq_T (h : Sim r d) (hr : r ≤ 64) : gEq d d = some (.bool true) := by
  rw [gEq_gen d d (h.shaped hr) (h.shaped hr), (h.eqv h).mpr rfl]
theorem gNe_D {p : Prop} [Decidable p] (h : Sim r d) (h2 : Sim r e) (hr : r ≤ 64) (hp : d = e ↔ p) : gNe d e = some (.bool (!decide p)) := by
  rw [gNe_gen d e (h.shaped hr) (h2.shaped hr)]
  congr 3
  rw [Bool.eq_iff_iff, h.eqv h2, hp, decide_eq_true_iff]
end
theorem Sim.ints (ns : List Int) : Sim 2 (.list (ns.map .int)) := by
  intro d hd
  obtain ⟨n, _, rfl⟩ := List.mem_map.mp hd
  trivial
theorem Sim.nil : Sim 2 (.list []) := by
  intro d hd
  simp at hd
end Dn
set_option Elab.async false
set_option linter.all false
set_option maxRecDepth 100000
namespace Dn
open PySem PySem.Spec PyProof.Rows L2
/-- all that s leads to by g, of the numbers below n -/
inductive Rch (n : Nat) (g : Nat → Nat → Bool) (s : Nat → Bool) : Nat → Prop
  | start {a : Nat} : a < n → s a = true → Rch n g s a
  | step {a b : Nat} : Rch n g s a → b < n → g a b = true → Rch n g s b
section
variable {n : Nat} {g : Nat → Nat → Bool} {s : Nat → Bool}
theorem Rch.lt {a : Nat} (h : Rch n g s a) : a < n := by cases h <;> assumption
noncomputable def rchB (n : Nat) (g : Nat → Nat → Bool) (s : Nat → Bool) (b : Nat) : Bool := @decide (Rch n g s b) (Classical.propDecidable _)
theorem rchB_iff {b : Nat} : rchB n g s b = true ↔ Rch n g s b := by unfold rchB; exact @decide_eq_true_iff _ (Classical.propDecidable _)
/-- .. as a list that rises -/
noncomputable def rchL (n : Nat) (g : Nat → Nat → Bool) (s : Nat → Bool) : List Nat := (List.range n).filter (rchB n g s)
theorem mem_rchL {b : Nat} : b ∈ rchL n g s ↔ Rch n g s b := by
  unfold rchL
  rw [List.mem_filter, List.mem_range, rchB_iff]
  exact ⟨fun h => h.2, fun h => ⟨h.lt, h⟩⟩
/-- a list on the way -/
structure OnWay (n : Nat) (g : Nat → Nat → Bool) (s : Nat → Bool) (f : List Nat) : Prop where
  nd : f.Nodup
  st : ∀ a, a < n → s a = true → a ∈ f
  rc : ∀ a, a ∈ f → Rch n g s a
theorem OnWay.len {f : List Nat} (h : OnWay n g s f) : f.length ≤ n := by
  have := h.nd.length_le_of_subset (l₂ := List.range n) fun a ha => List.mem_range.mpr (h.rc a ha).lt
  rwa [List.length_range] at this
end
end Dn
set_option Elab.async false
set_option linter.all false
set_option maxRecDepth 100000
namespace Dn
open PySem PySem.Spec PyProof.Rows L2
section
variable {n : Nat} {g : Nat → Nat → Bool}
/-- what one cask leads to -/
noncomputable def oneL (n : Nat) (g : Nat → Nat → Bool) (a : Nat) : List Nat := rchL n g fun b => decide (b = a)
theorem mem_oneL {a b : Nat} : b ∈ oneL n g a ↔ Rch n g (fun b => decide (b = a)) b := mem_rchL
theorem one_lt {a b : Nat} (h : b ∈ oneL n g a) : b < n := (mem_oneL.mp h).lt
theorem one_self {a : Nat} (h : a < n) : a ∈ oneL n g a := mem_oneL.mpr (.start h (decide_eq_true rfl))
theorem rch_trans {s : Nat → Bool} {a b : Nat} (h : Rch n g s a) (h2 : b ∈ oneL n g a) : Rch n g s b := by
  have h3 := mem_oneL.mp h2
  clear h2
  induction h3 with
  | start h1 h2 => rw [of_decide_eq_true h2]; exact h
  | step h1 h2 h3 ih => exact .step ih h2 h3
theorem one_trans {a b c : Nat} (h : b ∈ oneL n g a) (h2 : c ∈ oneL n g b) : c ∈ oneL n g a := mem_oneL.mpr (rch_trans (mem_oneL.mp h) h2)
theorem one_step {a b c : Nat} (h : b ∈ oneL n g a) (hc : c < n) (h2 : g b c = true) : c ∈ oneL n g a := mem_oneL.mpr (.step (mem_oneL.mp h) hc h2)
theorem one_len (a : Nat) : (oneL n g a).length ≤ n := by
  have := List.length_filter_le (rchB n g fun b => decide (b = a)) (List.range n)
  rwa [List.length_range] at this
theorem one_nodup (a : Nat) : (oneL n g a).Nodup := List.Nodup.sublist List.filter_sublist List.nodup_range
/-- what comes back from all that it leads to, and of which nothing is lost -/
def Grown (n : Nat) (g : Nat → Nat → Bool) (kept come : Nat → Bool) (k : Nat) : Prop := come k = true ∧ (∀ a ∈ oneL n g k, k ∈ oneL n g a) ∧ ∀ a ∈ oneL n g k, kept a = true
/-- casks that keep all and lead to such only lead to some that grow -/
theorem grown_of {kept : Nat → Bool} (S : Nat → Prop) (hk : ∀ a, S a → kept a = true) (hs : ∀ a b, S a → b < n → g a b = true → S b) : ∀ (m a : Nat), a < n → S a → (oneL n g a).length ≤ m → ∃ x, x < n ∧ S x ∧ (∀ b ∈ oneL n g x, x ∈ oneL n g b) ∧ ∀ b ∈ oneL n g x, kept b = true := by
  have hall : ∀ a, S a → ∀ b, b ∈ oneL n g a → S b := fun a ha b hb => by
    have h := mem_oneL.mp hb
    clear hb
    induction h with
    | start h1 h2 => rw [of_decide_eq_true h2]; exact ha
    | step h1 h2 h3 ih => exact hs _ _ ih h2 h3
  intro m
  induction m with
  | zero =>
    intro a ha _ hl
    have := List.length_pos_of_mem (one_self (g := g) ha)
    omega
  | succ m ih =>
    intro a ha hS hl
    by_cases hx : ∀ b ∈ oneL n g a, a ∈ oneL n g b
    · exact ⟨a, ha, hS, hx, fun b hb => hk b (hall a hS b hb)⟩
    · obtain ⟨b, hb, hab⟩ : ∃ b, b ∈ oneL n g a ∧ a ∉ oneL n g b := Classical.byContradiction fun z => hx fun b hb => Classical.byContradiction fun y => z ⟨b, hb, y⟩
      refine ih b (one_lt hb) (hall a hS b hb) ?_
      have hnd : (a :: oneL n g b).Nodup := List.nodup_cons.mpr ⟨hab, one_nodup b⟩
      have := hnd.length_le_of_subset (l₂ := oneL n g a) fun c hc => by
        rcases List.mem_cons.mp hc with rfl | h
        · exact one_self ha
        · exact one_trans hb h
      rw [List.length_cons] at this
      omega
end
end Dn
set_option Elab.async false
set_option linter.all false
set_option maxRecDepth 100000
namespace Dn
open PySem PySem.Spec PyProof.Rows L2
theorem qsN_zero' {f : Nat → Rat} {n : Nat} (h : ∀ i, i < n → f i = 0) : qsN f n = 0 := by
  rw [qsN_congr h, qsN_const]; grind
/-- u goes on by D, of length m -/
structure Rule (m : Nat) (D u : Nat → Rat) : Prop where
  one : D 0 = 1
  all : ∀ y, qsN (fun i => D i * u (y + m - i)) (m + 1) = 0
section
variable {m : Nat} {D u : Nat → Rat}
theorem Rule.next (h : Rule m D u) (y : Nat) : u (y + m) = - qsN (fun i => D (i + 1) * u (y + m - (i + 1))) m := by
  have e := h.all y
  rw [qsN_first] at e
  have e0 : D 0 * u (y + m - 0) = u (y + m) := by rw [h.one, Nat.sub_zero]; grind
  rw [e0] at e
  grind
end
structure Least (n L : Nat) (u : Nat → Rat) : Prop where
  le : L ≤ n
  ex : ∃ D, Rule L D u
  min : ∀ m D, Rule m D u → L ≤ m
theorem Least.uniq {n n2 L L2 : Nat} {u : Nat → Rat} (h : Least n L u) (h2 : Least n2 L2 u) : L = L2 := by
  obtain ⟨D, hD⟩ := h.ex
  obtain ⟨D2, hD2⟩ := h2.ex
  have a := h.min _ _ hD2
  have b := h2.min _ _ hD
  omega
end Dn
set_option Elab.async false
set_option linter.all false
set_option maxRecDepth 100000
namespace Dn
open PySem PySem.Spec PyProof.Rows L2
def annQ (C u : Nat → Rat) (l j : Nat) : Rat := qsN (fun i => C i * u (j - i)) (l + 1)
structure Bm where
  C : Nat → Rat
  l : Nat
  B : Nat → Rat
  lB : Nat
  late : Nat
  fault : Rat
def bmC (s : Bm) (d : Rat) (i : Nat) : Rat := s.C i - d / s.fault * (if s.late ≤ i ∧ i < s.late + (s.lB + 1) then s.B (i - s.late) else 0)
def bmStep (u : Nat → Rat) (k : Nat) (s : Bm) : Bm :=
  if annQ s.C u s.l k = 0 then { s with late := s.late + 1 }
  else if 2 * s.l ≤ k then ⟨bmC s (annQ s.C u s.l k), k + 1 - s.l, s.C, s.l, 1, annQ s.C u s.l k⟩
  else ⟨bmC s (annQ s.C u s.l k), s.l, s.B, s.lB, s.late + 1, s.fault⟩
def dl0 (i : Nat) : Rat := if i = 0 then 1 else 0
def bm (u : Nat → Rat) : Nat → Bm
  | 0 => ⟨dl0, 0, dl0, 0, 1, 1⟩
  | k + 1 => bmStep u k (bm u k)
end Dn
set_option Elab.async false
set_option linter.all false
set_option maxRecDepth 100000
namespace Dn
open PySem PySem.Spec PyProof.Rows L2
def Zq (K : Nat) (q : Rat) : Prop := q.den < 2 ^ K ∧ q.num.natAbs < 2 ^ K
theorem Zq.up {K M : Nat} {q : Rat} (h : Zq K q) (hm : K ≤ M) : Zq M q := ⟨lt_pow h.1 hm, lt_pow h.2 hm⟩
end Dn
set_option Elab.async false
set_option linter.all false
set_option maxRecDepth 100000
namespace Dn
open PySem PySem.Spec PyProof.Rows L2
theorem zq_pos {a b : Int} {K : Nat} (hb : 0 < b) (ha : a.natAbs < 2 ^ K) (hb2 : b.natAbs < 2 ^ K) : Zq K (Rat.divInt a b) := by
  refine ⟨?_, ?_⟩
  · rw [Rat.den_divInt, if_neg (by omega)]
    exact Nat.lt_of_le_of_lt (Nat.div_le_self _ _) hb2
  · rw [← low_num hb, fdiv_nn]
    generalize hg : (Nat.gcd a.natAbs b.natAbs : Nat) = g
    have h0 : 0 < g := by
      rw [← hg]
      exact Nat.gcd_pos_of_pos_right _ (by omega)
    refine Nat.lt_of_le_of_lt ?_ ha
    have hd : (g : Int) ∣ a := by
      rw [← hg]
      exact Int.natAbs_dvd_natAbs.mp (by simpa using Nat.gcd_dvd_left a.natAbs b.natAbs)
    obtain ⟨k, rfl⟩ := hd
    rw [Int.mul_ediv_cancel_left _ (by omega), Int.natAbs_mul]
    exact Nat.le_mul_of_pos_left _ (by omega)
section
variable {K M : Nat} {x y : Rat}
theorem cross_lt {a b c d : Int} {K M : Nat} (ha : a.natAbs < 2 ^ K) (hb : b.natAbs < 2 ^ M) (hc : c.natAbs < 2 ^ M) (hd : d.natAbs < 2 ^ K) : (a * b - c * d).natAbs < 2 ^ (K + M + 1) := by
  have h1 : (a * b).natAbs < 2 ^ (K + M) := by rw [Int.natAbs_mul]; exact mul_pow ha hb
  have h2 : (c * d).natAbs < 2 ^ (K + M) := by rw [Int.natAbs_mul, Nat.add_comm]; exact mul_pow hc hd
  rw [Nat.pow_succ]
  omega
theorem Zq.sub (hx : Zq K x) (hy : Zq M y) : Zq (K + M + 1) (x - y) := by
  rw [← q_sub]
  exact zq_pos (Int.mul_pos den_posI den_posI) (cross_lt hx.2 hy.1 hy.2 hx.1) (by rw [Int.natAbs_mul]; exact lt_pow (mul_pow hx.1 hy.1) (by omega))
end
def Cd (Q b : Nat) (c : Rat) : Prop := ∃ z : Int, c * (Q : Rat) = (z : Rat) ∧ z.natAbs < 2 ^ b
structure BmSz (V b : Nat) (s : Bm) (Q QB : Nat) (F : Int) : Prop where
  q0 : 0 < Q
  q1 : Q < 2 ^ b
  p0 : 0 < QB
  p1 : QB < 2 ^ b
  f0 : F ≠ 0
  f1 : F.natAbs < 2 ^ b
  fe : s.fault * ((QB : Rat) * (V : Rat)) = (F : Rat)
  c : ∀ i, Cd Q b (s.C i)
  d : ∀ i, Cd QB b (s.B i)
theorem Cd.up {Q b m : Nat} {c : Rat} (h : Cd Q b c) (hm : b ≤ m) : Cd Q m c := by
  obtain ⟨z, h1, h2⟩ := h
  exact ⟨z, h1, lt_pow h2 hm⟩
theorem BmSz.up {V b m Q QB : Nat} {F : Int} {s : Bm} (h : BmSz V b s Q QB F) (hm : b ≤ m) : BmSz V m s Q QB F := ⟨h.q0, lt_pow h.q1 hm, h.p0, lt_pow h.p1 hm, h.f0, lt_pow h.f1 hm, h.fe, fun i => (h.c i).up hm, fun i => (h.d i).up hm⟩
def bsz (A : Nat) : Nat → Nat
  | 0 => A + 1
  | k + 1 => 2 * bsz A k + A + 6
end Dn
set_option Elab.async false
set_option linter.all false
set_option maxRecDepth 100000
namespace Dn
open PySem PySem.Spec PyProof.Rows L2
end Dn
set_option Elab.async false
set_option linter.all false
set_option maxRecDepth 100000
namespace Dn
open PySem PySem.Spec PyProof.Rows L2
theorem qsN_zero_of {f : Nat → Rat} : ∀ {n : Nat}, (∀ i, i < n → 0 ≤ f i) → qsN f n ≤ 0 → ∀ i, i < n → f i = 0 := fun {n} h0 h i hi => by
  have h1 := qsN_ge h0 i hi
  have h2 := h0 i hi
  grind
section
variable {n : Nat} {T : Nat → Nat → Rat} {kept come : Nat → Bool}
/-- which casks something comes into from each -/
def gT (T : Nat → Nat → Rat) (j i : Nat) : Bool := decide (0 < T i j)
structure Sub (n : Nat) (T : Nat → Nat → Rat) (kept : Nat → Bool) : Prop where
  t0 : ∀ i j, i < n → j < n → 0 ≤ T i j
  t1 : ∀ j, j < n → qsN (fun i => T i j) n ≤ 1
  k1 : ∀ j, j < n → (kept j = true ↔ qsN (fun i => T i j) n = 1)
end
end Dn
set_option Elab.async false
set_option linter.all false
set_option maxRecDepth 100000
namespace Dn
open PySem PySem.Spec PyProof.Rows L2
end Dn
set_option Elab.async false
set_option linter.all false
set_option maxRecDepth 100000
namespace Dn
open PySem PySem.Spec PyProof.Rows L2
theorem qsN_ints (f : Nat → Int) (m : Nat) : qsN (fun q => (f q : Rat)) m = ((sumN f m : Int) : Rat) := by
  have := qsN_int f (fun q => (f q : Rat)) 1 m fun i _ => by grind
  grind
end Dn
set_option Elab.async false
set_option linter.all false
set_option maxRecDepth 100000
namespace Dn
open PySem PySem.Spec PyProof.Rows L2
section
variable {n b u : Nat} {col : Nat → Nat → Int} {into taps : Nat → Int}
def drT (b : Nat) (col : Nat → Nat → Int) (taps : Nat → Int) : Nat → Nat → Rat := fun i j => dt b col i j * (1 - dv b taps j)
/-- parts over b * b -/
def drI (b : Nat) (col : Nat → Nat → Int) (taps : Nat → Int) (i j : Nat) : Int := col j i * ((b : Int) - taps j)
theorem drT_q (hb : 0 < b) (i j : Nat) : drT b col taps i j * ((b : Rat) * (b : Rat)) = ((drI b col taps i j : Int) : Rat) := by
  have e1 : dt b col i j * (b : Rat) = ((col j i : Int) : Rat) := div_mul hb
  have e2 : dv b taps j * (b : Rat) = ((taps j : Int) : Rat) := div_mul hb
  unfold drT drI
  rw [Rat.intCast_mul, Rat.intCast_sub, ← e1, ← e2]
  have : (((b : Int) : Int) : Rat) = (b : Rat) := rfl
  rw [this]
  grind
theorem bb_pos (hb : 0 < b) : (0 : Rat) < (b : Rat) * (b : Rat) := Rat.mul_pos (natQ_pos hb) (natQ_pos hb)
theorem mul_nn_iff {q B : Rat} (hB : 0 < B) : 0 ≤ q ↔ 0 ≤ q * B := ⟨fun h => Rat.mul_nonneg h (by grind), fun h => by
  refine Classical.byContradiction fun z => ?_
  have h2 := Rat.mul_pos (show 0 < - q by grind) hB
  grind⟩
theorem intQ_nn {z : Int} : (0 : Rat) ≤ (z : Rat) ↔ 0 ≤ z := by
  have := @Rat.intCast_le_intCast 0 z
  exact this
/-- what is left of one cask, over b * b -/
def drS (n b : Nat) (col : Nat → Nat → Int) (taps : Nat → Int) (j : Nat) : Int := sumN (col j) n * ((b : Int) - taps j)
theorem drS_q (hb : 0 < b) (j : Nat) : qsN (fun i => drT b col taps i j) n * ((b : Rat) * (b : Rat)) = ((drS n b col taps j : Int) : Rat) := by
  rw [← qsN_mulR, qsN_congr fun i _ => drT_q hb i j, qsN_ints]
  unfold drS drI
  congr 1
  rw [Int.mul_comm, ← sumN_mul]
  exact sumN_congr fun i _ => Int.mul_comm _ _
theorem drS_le (h : DrOk n b u col into taps) {j : Nat} (hj : j < n) : drS n b col taps j ≤ (b : Int) * (b : Int) := by
  have h1 := h.c1 j hj
  have h2 := h.t0 j hj
  have h3 := h.t1 j hj
  have h0 : 0 ≤ sumN (col j) n := sumN_nonneg fun i hi => h.c0 j i hj hi
  unfold drS
  exact Int.mul_le_mul h1 (by omega) (by omega) (by omega)
theorem bbI (b : Nat) : (((b : Int) * (b : Int) : Int) : Rat) = (b : Rat) * (b : Rat) := by
  rw [Rat.intCast_mul]; rfl
theorem DrOk.cel2 (h : DrOk n b u col into taps) : CelOk n (b * b) 1 (drT b col taps) (fun _ => 0) (fun _ => 0) := by
  have hb : 0 < b := h.b1
  have hp := bb_pos hb
  have t0 : ∀ i j, i < n → j < n → 0 ≤ drT b col taps i j := fun i j hi hj => (mul_nn_iff hp).mpr (by
    rw [drT_q hb]
    exact intQ_nn.mpr (Int.mul_nonneg (h.c0 j i hj hi) (by have := h.t1 j hj; omega)))
  exact {
    n1 := h.n1, n8 := h.n8, W1 := Nat.mul_pos hb hb
    W9 := Nat.lt_of_lt_of_le (Nat.mul_lt_mul_of_lt_of_le h.b9 (Nat.le_of_lt h.b9) (by decide)) (by rw [← Nat.pow_add]; exact Nat.pow_le_pow_right (by decide) (by decide))
    V1 := by decide, V9 := Nat.one_lt_two_pow (by decide)
    tp := fun i j _ _ => ⟨_, by rw [Rat.natCast_mul]; exact drT_q hb i j⟩
    t0 := t0
    t1 := fun j hj => by
      have e := drS_q (n := n) (col := col) (taps := taps) hb j
      have hle := drS_le h hj
      have h2 := Rat.intCast_le_intCast.mpr hle
      rw [bbI, ← e] at h2
      refine Classical.byContradiction fun z => ?_
      have h3 := Rat.mul_pos (show 0 < qsN (fun i => drT b col taps i j) n - 1 by grind) hp
      grind
    sp := fun _ _ => ⟨0, by grind⟩
    s0 := fun _ _ => by decide
    s1 := fun _ _ => by decide
    cp := fun _ _ => ⟨0, by grind⟩
    c0 := fun _ _ => by decide
    c1 := fun _ _ => by decide }
theorem DrOk.sub (h : DrOk n b u col into taps) : Sub n (drT b col taps) fun j => decide (qsN (fun i => drT b col taps i j) n = 1) := ⟨h.cel2.t0, h.cel2.t1, fun j _ => decide_eq_true_iff⟩
end
end Dn
set_option Elab.async false
set_option linter.all false
set_option maxRecDepth 100000
namespace Dn
open PySem PySem.Spec PyProof.Rows L2
end Dn
set_option Elab.async false
set_option linter.all false
set_option maxRecDepth 100000
namespace Dn
open PySem PySem.Spec PyProof.Rows L2
/-- the greatest of some numbers -/
theorem max_at {f : Nat → Rat} : ∀ {n : Nat}, 0 < n → ∃ a, a < n ∧ ∀ i, i < n → f i ≤ f a
  | 0, h => absurd h (by omega)
  | 1, _ => ⟨0, by omega, fun i hi => by rw [show i = 0 by omega]; exact Rat.le_refl⟩
  | n + 2, _ => by
    obtain ⟨a, ha, h⟩ := max_at (f := f) (n := n + 1) (by omega)
    by_cases c : f a ≤ f (n + 1)
    · refine ⟨n + 1, by omega, fun i hi => ?_⟩
      by_cases e : i = n + 1
      · rw [e]; exact Rat.le_refl
      · exact Rat.le_trans (h i (by omega)) c
    · refine ⟨a, by omega, fun i hi => ?_⟩
      by_cases e : i = n + 1
      · rw [e]; grind
      · exact h i (by omega)
section
variable {n : Nat} {T : Nat → Nat → Rat} {kept : Nat → Bool}
def allB : Nat → Bool := fun _ => true
/-- in a ring: all comes back, and nothing is lost -/
def Held (n : Nat) (T : Nat → Nat → Rat) (kept : Nat → Bool) (k : Nat) : Prop := Grown n (gT T) kept allB k
theorem Held.to {j i : Nat} (h : Held n T kept j) (hj : j < n) (hi : i < n) (ht : 0 < T i j) : Held n T kept i := by
  have hij : i ∈ oneL n (gT T) j := one_step (one_self hj) hi (decide_eq_true ht)
  have hji := h.2.1 i hij
  refine ⟨rfl, fun a ha => ?_, fun a ha => h.2.2 a (one_trans hij ha)⟩
  exact one_trans (h.2.1 a (one_trans hij ha)) hij
theorem Held.full (hs : Sub n T kept) {j : Nat} (h : Held n T kept j) (hj : j < n) : qsN (fun i => T i j) n = 1 := (hs.k1 j hj).mp (h.2.2 j (one_self hj))
/-- what is greatest where nothing is added stands in a ring, too -/
theorem max_held (h : Sub n T kept) {U : Nat → Rat} {m : Rat} (hm : 0 < m) (hU : ∀ i, i < n → U i ≤ m) (hS : ∀ j, j < n → U j = m → m ≤ qsN (fun i => T i j * U i) n) {a : Nat} (ha : a < n) (hUa : U a = m) : ∃ x, x < n ∧ U x = m ∧ Held n T kept x := by
  have key : ∀ j, j < n → U j = m → kept j = true ∧ ∀ i, i < n → 0 < T i j → U i = m := fun j hj e => by
    have h1 := hS j hj e
    have h2 := h.t1 j hj
    have p1 : ∀ i, i < n → 0 ≤ T i j * (m - U i) := fun i hi => Rat.mul_nonneg (h.t0 i j hi hj) (by have := hU i hi; grind)
    have e1 : qsN (fun i => T i j * (m - U i)) n = qsN (fun i => T i j) n * m - qsN (fun i => T i j * U i) n := by
      rw [← qsN_mulR, ← qsN_sub]
      exact qsN_congr fun i _ => by grind
    have h3 : qsN (fun i => T i j) n * m ≤ 1 * m := Rat.mul_le_mul_of_nonneg_right h2 (by grind)
    have z1 := qsN_zero_of p1 (by grind)
    have s1 := qsN_nonneg p1
    refine ⟨(h.k1 j hj).mpr ?_, fun i hi ht => ?_⟩
    · have h4 : (1 - qsN (fun i => T i j) n) * m = 0 := by grind
      rcases Rat.mul_eq_zero.mp h4 with e | e
      · grind
      · grind
    · rcases Rat.mul_eq_zero.mp (z1 i hi) with e | e
      · grind
      · grind
  obtain ⟨x, hx, hxS, hx1, hx2⟩ := grown_of (n := n) (g := gT T) (kept := kept) (fun i => i < n ∧ U i = m) (fun b hb => (key b hb.1 hb.2).1) (fun b c hb hc hbc => ⟨hc, (key b hb.1 hb.2).2 c hc (of_decide_eq_true hbc)⟩) n a ha ⟨ha, hUa⟩ (one_len a)
  exact ⟨x, hx, hxS.2, rfl, hx1, hx2⟩
def absQ (x : Rat) : Rat := if x < 0 then - x else x
theorem absQ_nn (x : Rat) : 0 ≤ absQ x := by unfold absQ; split <;> grind
theorem absQ_zero {x : Rat} : absQ x = 0 ↔ x = 0 := by unfold absQ; split <;> grind
theorem absQ_le {x : Rat} : x ≤ absQ x ∧ - x ≤ absQ x := by unfold absQ; split <;> grind
/-- only 0 is its own mean over the casks that are in no ring -/
theorem mean_zero (h : Sub n T kept) {V : Nat → Rat} (hv : ∀ j, j < n → V j ≠ 0 → ¬ Held n T kept j ∧ V j = qsN (fun i => T i j * V i) n) : ∀ j, j < n → V j = 0 := by
  intro j hj
  obtain ⟨a, ha, hmax⟩ := max_at (f := fun i => absQ (V i)) (n := n) (by omega)
  have h0 := absQ_nn (V a)
  by_cases c : absQ (V a) = 0
  · have := hmax j hj
    have := absQ_nn (V j)
    exact absQ_zero.mp (by grind)
  · exfalso
    obtain ⟨x, hx, e, hH⟩ := max_held h (U := fun i => absQ (V i)) (m := absQ (V a)) (by grind) hmax (fun j hj e => by
      have hne : V j ≠ 0 := fun z => c (by rw [← e]; exact absQ_zero.mpr z)
      obtain ⟨_, e2⟩ := hv j hj hne
      rw [← e]
      show absQ (V j) ≤ qsN (fun i => T i j * absQ (V i)) n
      have h1 : qsN (fun i => T i j * V i) n ≤ qsN (fun i => T i j * absQ (V i)) n := qsN_le_qsN fun i hi => Rat.mul_le_mul_of_nonneg_left absQ_le.1 (h.t0 i j hi hj)
      have h2 : qsN (fun i => - (T i j * V i)) n ≤ qsN (fun i => T i j * absQ (V i)) n := qsN_le_qsN fun i hi => by
        have := Rat.mul_le_mul_of_nonneg_left (absQ_le (x := V i)).2 (h.t0 i j hi hj)
        grind
      rw [qsN_neg] at h2
      rw [← e2] at h1 h2
      generalize qsN (fun i => T i j * absQ (V i)) n = Q at *
      unfold absQ
      split <;> grind) ha rfl
    exact (hv x hx fun z => c (by rw [← e]; exact absQ_zero.mpr z)).1 hH
/-- the shares that stay for ever -/
structure Stays (n : Nat) (T : Nat → Nat → Rat) (kept : Nat → Bool) (s : Nat → Rat) : Prop where
  held : ∀ j, j < n → Held n T kept j → s j = 1
  mean : ∀ j, j < n → ¬ Held n T kept j → s j = qsN (fun i => T i j * s i) n
section
variable {s : Nat → Rat}
theorem Stays.all (hs : Sub n T kept) (h : Stays n T kept s) {j : Nat} (hj : j < n) : s j = qsN (fun i => T i j * s i) n := by
  by_cases c : Held n T kept j
  · rw [h.held j hj c, qsN_congr (g := fun i => T i j) fun i hi => by
      by_cases ht : 0 < T i j
      · rw [h.held i hi (c.to hj hi ht)]; grind
      · have := hs.t0 i j hi hj
        have : T i j = 0 := by grind
        rw [this]; grind, c.full hs hj]
  · exact h.mean j hj c
theorem Stays.le1 (hs : Sub n T kept) (h : Stays n T kept s) : ∀ j, j < n → s j ≤ 1 := fun j hj => by
  obtain ⟨a, ha, hmax⟩ := max_at (f := fun i => s i - 1) (n := n) (by omega)
  by_cases c : s a - 1 ≤ 0
  · have := hmax j hj; grind
  · exfalso
    obtain ⟨x, hx, e, hH⟩ := max_held hs (U := fun i => s i - 1) (m := s a - 1) (by grind) hmax (fun j hj e => by
      rw [← e]
      show s j - 1 ≤ qsN (fun i => T i j * (s i - 1)) n
      have e1 : qsN (fun i => T i j * (s i - 1)) n = qsN (fun i => T i j * s i) n - qsN (fun i => T i j) n := by
        rw [← qsN_sub]
        exact qsN_congr fun i _ => by grind
      have h1 := hs.t1 j hj
      rw [e1, ← h.all hs hj]
      grind) ha rfl
    have e2 : s x - 1 = s a - 1 := e
    rw [h.held x hx hH] at e2
    grind
theorem Stays.nn (hs : Sub n T kept) (h : Stays n T kept s) : ∀ j, j < n → 0 ≤ s j := fun j hj => by
  obtain ⟨a, ha, hmax⟩ := max_at (f := fun i => - s i) (n := n) (by omega)
  by_cases c : - s a ≤ 0
  · have := hmax j hj; grind
  · exfalso
    obtain ⟨x, hx, e, hH⟩ := max_held hs (U := fun i => - s i) (m := - s a) (by grind) hmax (fun j hj e => by
      rw [← e]
      show - s j ≤ qsN (fun i => T i j * - s i) n
      have e1 : qsN (fun i => T i j * - s i) n = - qsN (fun i => T i j * s i) n := by
        rw [← qsN_neg]
        exact qsN_congr fun i _ => by grind
      rw [e1, ← h.all hs hj]
      exact Rat.le_refl) ha rfl
    have e2 : - s x = - s a := e
    rw [h.held x hx hH] at e2
    grind
theorem Stays.uniq (hs : Sub n T kept) (h : Stays n T kept s) {r : Nat → Rat} (h2 : Stays n T kept r) : ∀ j, j < n → s j = r j := fun j hj => by
  have := mean_zero hs (V := fun i => s i - r i) (fun j hj hne => by
    have c : ¬ Held n T kept j := fun c => hne (by rw [h.held j hj c, h2.held j hj c]; grind)
    refine ⟨c, ?_⟩
    show s j - r j = qsN (fun i => T i j * (s i - r i)) n
    rw [qsN_congr (g := fun i => T i j * s i - T i j * r i) fun i _ => by grind, qsN_sub, ← h.mean j hj c, ← h2.mean j hj c]) j hj
  have e : s j - r j = 0 := this
  grind
/-- what stays of all is as much in each year -/
theorem Stays.sum (hs : Sub n T kept) (h : Stays n T kept s) {c : Nat → Rat} : ∀ y, qsN (fun k => s k * qser n T c y k) n = qsN (fun k => s k * c k) n
  | 0 => rfl
  | y + 1 => by
    refine Eq.trans ?_ (Stays.sum hs h (c := c) y)
    show qsN (fun k => s k * qsN (fun j => T k j * qser n T c y j) n) n = _
    rw [qsN_congr (g := fun k => qsN (fun j => s k * (T k j * qser n T c y j)) n) fun k _ => (qsN_mulL _ _ _).symm, qsN_swap]
    refine qsN_congr fun j hj => ?_
    rw [qsN_congr (g := fun k => T k j * s k * qser n T c y j) fun k _ => by grind, qsN_mulR, ← h.all hs hj]
end
end
section
variable {n : Nat} {g : Nat → Nat → Bool} {D : Nat → Bool}
def goOn (n : Nat) (g : Nat → Nat → Bool) (D : Nat → Bool) : Nat → Nat → Bool
  | 0, j => D j
  | y + 1, j => D j && (List.range n).any fun i => g j i && goOn n g D y i
theorem goOn_D {y j : Nat} (h : goOn n g D y j = true) : D j = true := by
  cases y with
  | zero => exact h
  | succ y => unfold goOn at h; simp at h; exact h.1
theorem goOn_succ {y j : Nat} : goOn n g D (y + 1) j = true ↔ D j = true ∧ ∃ i, i < n ∧ g j i = true ∧ goOn n g D y i = true := by
  show (D j && (List.range n).any fun i => g j i && goOn n g D y i) = true ↔ _
  rw [Bool.and_eq_true, List.any_eq_true]
  constructor
  · rintro ⟨h, i, hi, h2⟩
    rw [Bool.and_eq_true] at h2
    exact ⟨h, i, List.mem_range.mp hi, h2⟩
  · rintro ⟨h, i, hi, h2⟩
    exact ⟨h, i, List.mem_range.mpr hi, by rw [Bool.and_eq_true]; exact h2⟩
theorem goOn_less : ∀ {y j : Nat}, goOn n g D (y + 1) j = true → goOn n g D y j = true
  | 0, j, h => (goOn_succ.mp h).1
  | y + 1, j, h => by
    obtain ⟨h1, i, hi, h2, h3⟩ := goOn_succ.mp h
    exact goOn_succ.mpr ⟨h1, i, hi, h2, goOn_less h3⟩
theorem goOn_anti {y j : Nat} : ∀ d, goOn n g D (y + d) j = true → goOn n g D y j = true
  | 0, h => h
  | d + 1, h => goOn_anti d (goOn_less h)
def cntB (n : Nat) (f : Nat → Bool) : Nat := ((List.range n).filter f).length
theorem cnt_le {f h : Nat → Bool} (hf : ∀ j, f j = true → h j = true) : cntB n f ≤ cntB n h := by
  unfold cntB
  induction n with
  | zero => exact Nat.le_refl 0
  | succ n ih =>
    rw [List.range_succ, List.filter_append, List.filter_append, List.length_append, List.length_append]
    refine Nat.add_le_add ih ?_
    by_cases c : f n = true
    · simp [c, hf n c]
    · simp [c]
theorem cnt_eq {f h : Nat → Bool} (hf : ∀ j, f j = true → h j = true) (hc : cntB n h ≤ cntB n f) : ∀ j, j < n → h j = true → f j = true := by
  unfold cntB at hc
  induction n with
  | zero => intro j hj; omega
  | succ n ih =>
    have h1 := cnt_le (n := n) hf
    unfold cntB at h1
    rw [List.range_succ, List.filter_append, List.filter_append, List.length_append, List.length_append] at hc
    intro j hj hh
    by_cases e : j = n
    · subst e
      refine Classical.byContradiction fun c => ?_
      simp [hh, c] at hc
      omega
    · refine ih ?_ j (by omega) hh
      have : (List.filter f [n]).length ≤ (List.filter h [n]).length := by
        by_cases c : f n = true
        · simp [c, hf n c]
        · simp [c]
      omega
theorem cnt_n {f : Nat → Bool} : cntB n f ≤ n := by
  have := List.length_filter_le f (List.range n)
  rw [List.length_range] at this
  exact this
theorem goOn_stop (m : Nat) : (∃ y, y ≤ m ∧ ∀ j, j < n → goOn n g D y j = true → goOn n g D (y + 1) j = true) ∨ cntB n (goOn n g D (m + 1)) + m + 1 ≤ cntB n (goOn n g D 0) := by
  induction m with
  | zero =>
    by_cases c : cntB n (goOn n g D 0) ≤ cntB n (goOn n g D (0 + 1))
    · exact .inl ⟨0, Nat.le_refl 0, cnt_eq (fun j h => goOn_less h) c⟩
    · right; omega
  | succ m ih =>
    rcases ih with ⟨y, hy, h⟩ | h
    · exact .inl ⟨y, by omega, h⟩
    · by_cases c : cntB n (goOn n g D (m + 1)) ≤ cntB n (goOn n g D (m + 1 + 1))
      · exact .inl ⟨m + 1, Nat.le_refl _, cnt_eq (fun j h => goOn_less h) c⟩
      · right; omega
theorem goOn_ever {j : Nat} (hj : j < n) (h : goOn n g D n j = true) : ∀ y, goOn n g D y j = true := by
  obtain ⟨m, hm, hs⟩ : ∃ y, y ≤ n ∧ ∀ j, j < n → goOn n g D y j = true → goOn n g D (y + 1) j = true := by
    rcases goOn_stop (n := n) (g := g) (D := D) n with h | h
    · exact h
    · have := cnt_n (n := n) (f := goOn n g D 0)
      omega
  have hst : ∀ d j, j < n → goOn n g D m j = true → goOn n g D (m + d) j = true := by
    intro d
    induction d with
    | zero => intro j _ h; exact h
    | succ d ih =>
      intro j hj h
      obtain ⟨h1, i, hi, h2, h3⟩ := goOn_succ.mp (hs j hj h)
      exact goOn_succ.mpr ⟨h1, i, hi, h2, ih i hi h3⟩
  intro y
  have hm0 : goOn n g D m j = true := goOn_anti (n - m) (by rw [show m + (n - m) = n by omega]; exact h)
  by_cases c : y ≤ m
  · exact goOn_anti (m - y) (by rw [show y + (m - y) = m by omega]; exact hm0)
  · have := hst (y - m) j hj hm0
    rwa [show m + (y - m) = y by omega] at this
end
section
variable {n : Nat} {T : Nat → Nat → Rat} {kept : Nat → Bool} {s : Nat → Rat}
def lossB (s : Nat → Rat) (j : Nat) : Bool := decide (0 < 1 - s j)
theorem sum_pos_iff {f : Nat → Rat} (h0 : ∀ i, i < n → 0 ≤ f i) : 0 < qsN f n ↔ ∃ i, i < n ∧ 0 < f i := by
  constructor
  · intro h
    refine Classical.byContradiction fun z => ?_
    have : qsN f n = 0 := qsN_zero' fun i hi => by
      have := h0 i hi
      have h2 : ¬ 0 < f i := fun y => z ⟨i, hi, y⟩
      grind
    grind
  · rintro ⟨i, hi, h⟩
    have := qsN_ge h0 i hi
    grind
theorem mul_pos_iff2 {x y : Rat} (hx : 0 ≤ x) (hy : 0 ≤ y) : 0 < x * y ↔ 0 < x ∧ 0 < y := by
  constructor
  · intro h
    refine ⟨?_, ?_⟩
    · refine Classical.byContradiction fun z => ?_
      have : x = 0 := by grind
      rw [this] at h; grind
    · refine Classical.byContradiction fun z => ?_
      have : y = 0 := by grind
      rw [this] at h; grind
  · exact fun ⟨h1, h2⟩ => Rat.mul_pos h1 h2
/-- more than the end, so many years on: some of it is where it goes on so long -/
theorem more_iff (hs : Sub n T kept) (h : Stays n T kept s) {c : Nat → Rat} (c0 : ∀ j, j < n → 0 ≤ c j) : ∀ y a, (0 < qsN (fun k => (1 - s k) * qser n T c (a + y) k) n) ↔ ∃ j, j < n ∧ goOn n (gT T) (lossB s) y j = true ∧ 0 < qser n T c a j
  | 0, a => by
    rw [sum_pos_iff fun i hi => Rat.mul_nonneg (by have := h.le1 hs i hi; grind) (qser_nonneg hs.t0 c0 _ i hi)]
    constructor
    · rintro ⟨i, hi, h2⟩
      obtain ⟨h3, h4⟩ := (mul_pos_iff2 (by have := h.le1 hs i hi; grind) (qser_nonneg hs.t0 c0 _ i hi)).mp h2
      exact ⟨i, hi, decide_eq_true h3, h4⟩
    · rintro ⟨i, hi, h3, h4⟩
      exact ⟨i, hi, Rat.mul_pos (of_decide_eq_true h3) h4⟩
  | y + 1, a => by
    rw [show a + (y + 1) = (a + 1) + y by omega, more_iff hs h c0 y (a + 1)]
    constructor
    · rintro ⟨i, hi, h2, h3⟩
      have h4 : 0 < qsN (fun j => T i j * qser n T c a j) n := h3
      obtain ⟨j, hj, h5⟩ := (sum_pos_iff fun j hj => Rat.mul_nonneg (hs.t0 i j hi hj) (qser_nonneg hs.t0 c0 a j hj)).mp h4
      obtain ⟨h6, h7⟩ := (mul_pos_iff2 (hs.t0 i j hi hj) (qser_nonneg hs.t0 c0 a j hj)).mp h5
      refine ⟨j, hj, goOn_succ.mpr ⟨decide_eq_true ?_, i, hi, decide_eq_true h6, h2⟩, h7⟩
      have hw : 0 < 1 - s i := of_decide_eq_true (goOn_D h2)
      have e1 : qsN (fun i => T i j * (1 - s i)) n = qsN (fun i => T i j) n - s j := by
        rw [h.all hs hj, ← qsN_sub]
        exact qsN_congr fun i _ => by grind
      have h8 := hs.t1 j hj
      have h9 := qsN_ge (f := fun i => T i j * (1 - s i)) (n := n) (fun i hi => Rat.mul_nonneg (hs.t0 i j hi hj) (by have := h.le1 hs i hi; grind)) i hi
      have h10 : 0 < T i j * (1 - s i) := Rat.mul_pos h6 hw
      grind
    · rintro ⟨j, hj, h2, h3⟩
      obtain ⟨_, i, hi, h4, h5⟩ := goOn_succ.mp h2
      refine ⟨i, hi, h5, ?_⟩
      show 0 < qsN (fun j => T i j * qser n T c a j) n
      exact (sum_pos_iff fun j hj => Rat.mul_nonneg (hs.t0 i j hi hj) (qser_nonneg hs.t0 c0 a j hj)).mpr ⟨j, hj, Rat.mul_pos (of_decide_eq_true h4) h3⟩
theorem less_sum (hs : Sub n T kept) (h : Stays n T kept s) {c : Nat → Rat} (y : Nat) : qsN (fun k => (1 - s k) * qser n T c y k) n = qsN (qser n T c y) n - qsN (fun k => s k * c k) n := by
  rw [← h.sum hs y, ← qsN_sub]
  exact qsN_congr fun k _ => by grind
/-- what has not come down to its end behind as many years as casks never does -/
theorem never (hs : Sub n T kept) (h : Stays n T kept s) {c : Nat → Rat} (c0 : ∀ j, j < n → 0 ≤ c j) (hn : qsN (fun k => s k * c k) n < qsN (qser n T c n) n) (y : Nat) : qsN (fun k => s k * c k) n < qsN (qser n T c y) n := by
  have h1 : 0 < qsN (fun k => (1 - s k) * qser n T c (0 + n) k) n := by rw [Nat.zero_add, less_sum hs h]; grind
  obtain ⟨j, hj, h2, h3⟩ := (more_iff hs h c0 n 0).mp h1
  have h4 := (more_iff hs h c0 y 0).mpr ⟨j, hj, goOn_ever hj h2 y, h3⟩
  rw [Nat.zero_add, less_sum hs h] at h4
  grind
end
end Dn
set_option Elab.async false
set_option linter.all false
set_option maxRecDepth 100000
namespace Dn
open PySem PySem.Spec PyProof.Rows L2
theorem qs_perm {l m : List Rat} (h : l.Perm m) : qs l = qs m := by
  induction h with
  | nil => rfl
  | cons x _ ih => rw [qs_cons, qs_cons, ih]
  | swap x y l => rw [qs_cons, qs_cons, qs_cons, qs_cons]; grind
  | trans _ _ h1 h2 => rw [h1, h2]
end Dn
set_option Elab.async false
set_option linter.all false
set_option maxRecDepth 100000
set_option maxHeartbeats 1000000
namespace Dn
/-- the sum of the first k -/
def pS (D : List Rat) (k : Nat) : Rat := qs (D.take k)
/-- falling -/
def Dsc (D : List Rat) : Prop := D.Pairwise (· ≥ ·)
theorem pS_0 (D : List Rat) : pS D 0 = 0 := by unfold pS; rw [List.take_zero]; rfl
theorem pS_succ {D : List Rat} {k : Nat} (h : k < D.length) : pS D (k + 1) = pS D k + D[k] := by
  unfold pS
  rw [List.take_add_one, List.getElem?_eq_getElem h, qs_append]
  show _ + qs [D[k]] = _
  rw [qs_cons, qs_nil, Rat.add_zero]
theorem pS_all {D : List Rat} {k : Nat} (h : D.length ≤ k) : pS D k = qs D := by unfold pS; rw [List.take_of_length_le h]
theorem Dsc.at {D : List Rat} (h : Dsc D) {i j : Nat} (hij : i ≤ j) (hj : j < D.length) : D[j] ≤ D[i] := by
  by_cases e : i = j
  · subst e; exact Rat.le_refl
  · exact List.pairwise_iff_getElem.mp h i j (by omega) hj (by omega)
/-- what is ahead of k rises at least so -/
theorem pS_ahead {D : List Rat} (h : Dsc D) {k : Nat} (hk : k < D.length) : ∀ u lo, lo + u = k → pS D lo + (u : Rat) * D[k] ≤ pS D k
  | 0, lo, e => by
    have : lo = k := by omega
    subst this
    have : ((0 : Nat) : Rat) = 0 := rfl
    rw [this]
    grind
  | u + 1, lo, e => by
    have ih := pS_ahead h hk u (lo + 1) (by omega)
    rw [pS_succ (show lo < D.length by omega)] at ih
    have g := h.at (i := lo) (j := k) (by omega) hk
    have c : ((u + 1 : Nat) : Rat) = (u : Rat) + 1 := Rat.natCast_add u 1
    rw [c]
    grind
theorem pS_behind {D : List Rat} (h : Dsc D) {k : Nat} (hk : k < D.length) : ∀ v, k + v ≤ D.length → pS D (k + v) ≤ pS D k + (v : Rat) * D[k]
  | 0, _ => by
    have : ((0 : Nat) : Rat) = 0 := rfl
    rw [this, Nat.add_zero]
    grind
  | v + 1, e => by
    have ih := pS_behind h hk v (by omega)
    have g := h.at (i := k) (j := k + v) (by omega) (by omega)
    rw [← Nat.add_assoc, pS_succ (show k + v < D.length by omega)]
    have c : ((v + 1 : Nat) : Rat) = (v : Rat) + 1 := Rat.natCast_add v 1
    rw [c]
    grind
/-- the line of falling amounts bends one way -/
theorem pS_bend {D : List Rat} (h : Dsc D) {lo k hi : Nat} (h1 : lo ≤ k) (h2 : k < hi) (h3 : hi ≤ D.length) : pS D lo * ((hi - k : Nat) : Rat) + pS D hi * ((k - lo : Nat) : Rat) ≤ pS D k * ((hi - lo : Nat) : Rat) := by
  have a := pS_ahead h (k := k) (by omega) (k - lo) lo (by omega)
  have b := pS_behind h (k := k) (by omega) (hi - k) (by omega)
  rw [show k + (hi - k) = hi by omega] at b
  have c : ((hi - lo : Nat) : Rat) = ((k - lo : Nat) : Rat) + ((hi - k : Nat) : Rat) := by
    rw [← Rat.natCast_add]
    congr 1
    omega
  rw [c]
  have u0 : (0 : Rat) ≤ ((k - lo : Nat) : Rat) := Rat.natCast_le_natCast.mpr (Nat.zero_le _)
  have v0 : (0 : Rat) ≤ ((hi - k : Nat) : Rat) := Rat.natCast_le_natCast.mpr (Nat.zero_le _)
  generalize ((k - lo : Nat) : Rat) = u at *
  generalize ((hi - k : Nat) : Rat) = v at *
  generalize D[k] = e at *
  have a2 := Rat.mul_le_mul_of_nonneg_right a v0
  have b2 := Rat.mul_le_mul_of_nonneg_right b u0
  grind
structure Hull (n : Nat) (f : Nat → Rat) (D : List Rat) : Prop where
  len : D.length = n
  dsc : Dsc D
  up : ∀ k, k ≤ n → f k ≤ pS D k
  att : ∀ k, k ≤ n → pS D k = f k ∨ ∃ lo hi, lo < k ∧ k < hi ∧ hi ≤ n ∧ pS D k * ((hi - lo : Nat) : Rat) = f lo * ((hi - k : Nat) : Rat) + f hi * ((k - lo : Nat) : Rat)
theorem nat_posR {m : Nat} (h : 0 < m) : (0 : Rat) < (m : Rat) := by
  have := Rat.natCast_lt_natCast.mpr h
  exact this
theorem Hull.least {n : Nat} {f : Nat → Rat} {D E : List Rat} (h : Hull n f D) (hE : Dsc E) (hl : E.length = n) (hu : ∀ k, k ≤ n → f k ≤ pS E k) {k : Nat} (hk : k ≤ n) : pS D k ≤ pS E k := by
  rcases h.att k hk with e | ⟨lo, hi, h1, h2, h3, e⟩
  · rw [e]; exact hu k hk
  · have b := pS_bend hE (lo := lo) (k := k) (hi := hi) (by omega) h2 (by omega)
    have u0 : (0 : Rat) ≤ ((k - lo : Nat) : Rat) := Rat.natCast_le_natCast.mpr (Nat.zero_le _)
    have v0 : (0 : Rat) ≤ ((hi - k : Nat) : Rat) := Rat.natCast_le_natCast.mpr (Nat.zero_le _)
    have w0 : (0 : Rat) < ((hi - lo : Nat) : Rat) := nat_posR (by omega)
    have g1 := Rat.mul_le_mul_of_nonneg_right (hu lo (by omega)) v0
    have g2 := Rat.mul_le_mul_of_nonneg_right (hu hi (by omega)) u0
    generalize ((k - lo : Nat) : Rat) = u at *
    generalize ((hi - k : Nat) : Rat) = v at *
    generalize ((hi - lo : Nat) : Rat) = w at *
    refine Rat.not_lt.mp fun z => ?_
    have := Rat.mul_lt_mul_of_pos_right z w0
    grind
/-- falling amounts are told by their sums -/
theorem pS_ext {n : Nat} {D E : List Rat} (h1 : D.length = n) (h2 : E.length = n) (h : ∀ k, k ≤ n → pS D k = pS E k) : D = E := by
  apply List.ext_getElem (by omega)
  intro i a b
  have e1 := pS_succ a
  have e2 := pS_succ b
  have e3 := h i (by omega)
  have e4 := h (i + 1) (by omega)
  grind
theorem Hull.uniq {n : Nat} {f : Nat → Rat} {D E : List Rat} (h : Hull n f D) (h2 : Hull n f E) : D = E :=
  pS_ext h.len h2.len fun k hk => Rat.le_antisymm (h.least h2.dsc h2.len h2.up hk) (h2.least h.dsc h.len h.up hk)
theorem Hull.congr {n : Nat} {f g : Nat → Rat} {D : List Rat} (h : Hull n f D) (e : ∀ k, k ≤ n → f k = g k) : Hull n g D := by
  refine ⟨h.len, h.dsc, fun k hk => by rw [← e k hk]; exact h.up k hk, fun k hk => ?_⟩
  rcases h.att k hk with q | ⟨lo, hi, h1, h2, h3, q⟩
  · exact .inl (by rw [q, e k hk])
  · exact .inr ⟨lo, hi, h1, h2, h3, by rw [q, e lo (by omega), e hi (by omega)]⟩
/-- falling amounts are the least line above their own sums -/
theorem hull_self {D : List Rat} (h : Dsc D) : Hull D.length (pS D) D := ⟨rfl, h, fun _ _ => Rat.le_refl, fun _ _ => .inl rfl⟩
theorem Hull.end {n : Nat} {f : Nat → Rat} {D : List Rat} (h : Hull n f D) : pS D n = f n := by
  rcases h.att n (Nat.le_refl _) with e | ⟨lo, hi, h1, h2, h3, _⟩
  · exact e
  · omega
def slo (f : Nat → Rat) (a b : Nat) : Rat := (f b - f a) / ((b - a : Nat) : Rat)
theorem slo_mul {f : Nat → Rat} {a b : Nat} (h : a < b) : slo f a b * ((b - a : Nat) : Rat) = f b - f a := by
  have := nat_posR (show 0 < b - a by omega)
  unfold slo
  grind
/-- corners, the last one first -/
def Oks (f : Nat → Rat) : List Nat → Prop
  | [] => False
  | [a] => a = 0
  | b :: a :: r => a < b ∧ (∀ k, a ≤ k → k ≤ b → f k ≤ f a + ((k - a : Nat) : Rat) * slo f a b) ∧ (∀ a' r', r = a' :: r' → slo f a b < slo f a' a) ∧ Oks f (a :: r)
/-- pops until the line bends downwards -/
def popS (f : Nat → Rat) (c : Nat) : List Nat → List Nat
  | b :: a :: r => if (f b - f a) * ((c - b : Nat) : Rat) > (f c - f b) * ((b - a : Nat) : Rat) then b :: a :: r else popS f c (a :: r)
  | s => s
def scanS (f : Nat → Rat) : Nat → List Nat
  | 0 => [0]
  | c + 1 => (c + 1) :: popS f (c + 1) (scanS f c)
theorem cast_sub {a b c : Nat} (h1 : a ≤ b) (h2 : b ≤ c) : ((c - a : Nat) : Rat) = ((b - a : Nat) : Rat) + ((c - b : Nat) : Rat) := by
  rw [← Rat.natCast_add]
  congr 1
  omega
theorem popS_ok {f : Nat → Rat} {c : Nat} : ∀ {s : List Nat} {b : Nat} {r : List Nat}, s = b :: r → b < c → Oks f s → (∀ k, b ≤ k → k ≤ c → f k ≤ f b + ((k - b : Nat) : Rat) * slo f b c) → Oks f (c :: popS f c s)
  | [a], b, r, e, hbc, hs, hc => by
    cases e
    exact ⟨hbc, hc, fun a' r' e => (nomatch e), hs⟩
  | b :: a :: r, _, _, e, hbc, hs, hc => by
    cases e
    obtain ⟨hab, hcov, hsl, hr⟩ := hs
    have x0 := nat_posR (show 0 < b - a by omega)
    have y0 := nat_posR (show 0 < c - b by omega)
    have m1 := slo_mul (f := f) hab
    have m2 := slo_mul (f := f) hbc
    unfold popS
    by_cases t : (f b - f a) * ((c - b : Nat) : Rat) > (f c - f b) * ((b - a : Nat) : Rat)
    · rw [if_pos t]
      refine ⟨hbc, hc, fun a' r' e => ?_, hab, hcov, hsl, hr⟩
      cases e
      rw [← m1, ← m2] at t
      generalize ((b - a : Nat) : Rat) = x at *
      generalize ((c - b : Nat) : Rat) = y at *
      generalize slo f a b = s1 at *
      generalize slo f b c = s2 at *
      refine Rat.not_le.mp fun z => ?_
      have g := Rat.mul_le_mul_of_nonneg_right z (Rat.le_of_lt (Rat.mul_pos x0 y0))
      grind
    · rw [if_neg t]
      have t := Rat.not_lt.mp t
      have hac : a < c := by omega
      have m3 := slo_mul (f := f) hac
      have cs := cast_sub (show a ≤ b by omega) (show b ≤ c by omega)
      -- the slopes
      have s12 : slo f a b ≤ slo f b c := by
        rw [← m1, ← m2] at t
        generalize ((b - a : Nat) : Rat) = x at *
        generalize ((c - b : Nat) : Rat) = y at *
        generalize slo f a b = s1 at *
        generalize slo f b c = s2 at *
        refine Rat.not_lt.mp fun z => ?_
        have g := Rat.mul_lt_mul_of_pos_right z (Rat.mul_pos x0 y0)
        grind
      have s13 : slo f a b ≤ slo f a c ∧ slo f a c ≤ slo f b c := by
        rw [cs] at m3
        generalize ((b - a : Nat) : Rat) = x at *
        generalize ((c - b : Nat) : Rat) = y at *
        generalize slo f a b = s1 at *
        generalize slo f b c = s2 at *
        generalize slo f a c = s3 at *
        have e : s3 * (x + y) = s1 * x + s2 * y := by grind
        have xy : 0 < x + y := by grind
        constructor
        · refine Rat.not_lt.mp fun z => ?_
          have g := Rat.mul_lt_mul_of_pos_right z xy
          have g2 := Rat.mul_le_mul_of_nonneg_right s12 (Rat.le_of_lt y0)
          grind
        · refine Rat.not_lt.mp fun z => ?_
          have g := Rat.mul_lt_mul_of_pos_right z xy
          have g2 := Rat.mul_le_mul_of_nonneg_right s12 (Rat.le_of_lt x0)
          grind
      refine popS_ok (s := a :: r) rfl hac hr fun k h1 h2 => ?_
      have ka0 : (0 : Rat) ≤ ((k - a : Nat) : Rat) := Rat.natCast_le_natCast.mpr (Nat.zero_le _)
      by_cases hk : k ≤ b
      · have g := hcov k h1 hk
        have g2 := Rat.mul_le_mul_of_nonneg_left s13.1 ka0
        grind
      · have g := hc k (by omega) h2
        have kb := cast_sub (show a ≤ b by omega) (show b ≤ k by omega)
        have kc := cast_sub (show b ≤ k by omega) h2
        have c0 : (0 : Rat) ≤ ((c - k : Nat) : Rat) := Rat.natCast_le_natCast.mpr (Nat.zero_le _)
        rw [cs] at m3
        rw [kb]
        rw [kc] at m2 m3
        generalize ((b - a : Nat) : Rat) = x at *
        generalize ((k - b : Nat) : Rat) = p at *
        generalize ((c - k : Nat) : Rat) = q at *
        generalize slo f a b = s1 at *
        generalize slo f b c = s2 at *
        generalize slo f a c = s3 at *
        -- from behind: f c - q * s
        have g2 := Rat.mul_le_mul_of_nonneg_right s13.2 c0
        grind
theorem scanS_head {f : Nat → Rat} : ∀ t, ∃ r, scanS f t = t :: r
  | 0 => ⟨[], rfl⟩
  | t + 1 => ⟨_, rfl⟩
theorem scanS_ok (f : Nat → Rat) : ∀ t, Oks f (scanS f t)
  | 0 => rfl
  | t + 1 => by
    obtain ⟨r, e⟩ := scanS_head (f := f) t
    have ih := scanS_ok f t
    refine popS_ok (s := scanS f t) e (by omega) ih fun k h1 h2 => ?_
    have m := slo_mul (f := f) (show t < t + 1 by omega)
    have c1 : ((t + 1 - t : Nat) : Rat) = 1 := by rw [show t + 1 - t = 1 by omega]; rfl
    rw [c1] at m
    rcases (show k = t ∨ k = t + 1 by omega) with z | z
    · subst z
      have c0 : ((k - k : Nat) : Rat) = 0 := by rw [Nat.sub_self]; rfl
      rw [c0]
      grind
    · subst z
      rw [c1]
      grind
/-- the amounts of corners, the last one first -/
def difS (f : Nat → Rat) : List Nat → List Rat
  | b :: a :: r => difS f (a :: r) ++ List.replicate (b - a) (slo f a b)
  | _ => []
theorem qs_rep (x : Rat) : ∀ m : Nat, qs (List.replicate m x) = (m : Rat) * x
  | 0 => by
    have : ((0 : Nat) : Rat) = 0 := rfl
    rw [this, Rat.zero_mul]; rfl
  | m + 1 => by
    rw [List.replicate_succ, qs_cons, qs_rep x m]
    have c : ((m + 1 : Nat) : Rat) = (m : Rat) + 1 := Rat.natCast_add m 1
    rw [c]
    grind
/-- what corners tell: their amounts' line, its end, its slopes -/
theorem dif_facts {f : Nat → Rat} (f0 : f 0 = 0) : ∀ {s : List Nat} {b : Nat} {r : List Nat}, s = b :: r → Oks f s → (difS f s).length = b ∧ pS (difS f s) b = f b ∧ Dsc (difS f s) ∧ (∀ a r', r = a :: r' → ∀ x ∈ difS f s, slo f a b ≤ x) ∧ (∀ k, k ≤ b → f k ≤ pS (difS f s) k) ∧
    ∀ k, k ≤ b → pS (difS f s) k = f k ∨ ∃ lo hi, lo < k ∧ k < hi ∧ hi ≤ b ∧ pS (difS f s) k * ((hi - lo : Nat) : Rat) = f lo * ((hi - k : Nat) : Rat) + f hi * ((k - lo : Nat) : Rat)
  | [a], b, r, e, hs => by
    cases e
    have h0 : a = 0 := hs
    subst h0
    refine ⟨rfl, by rw [pS_0, f0], .nil, fun _ _ e => (nomatch e), fun k hk => ?_, fun k hk => ?_⟩
    · have : k = 0 := by omega
      subst this
      rw [pS_0, f0]
      exact Rat.le_refl
    · have : k = 0 := by omega
      subst this
      exact .inl (by rw [pS_0, f0])
  | b :: a :: r, _, _, e, hs => by
    cases e
    obtain ⟨hab, hcov, hsl, hr⟩ := hs
    obtain ⟨i1, i2, i3, i4, i5, i6⟩ := dif_facts f0 (s := a :: r) rfl hr
    have m1 := slo_mul (f := f) hab
    have ed : difS f (b :: a :: r) = difS f (a :: r) ++ List.replicate (b - a) (slo f a b) := rfl
    have lo_ : ∀ k, k ≤ a → pS (difS f (b :: a :: r)) k = pS (difS f (a :: r)) k := fun k hk => by
      unfold pS
      rw [ed, List.take_append_of_le_length (by omega)]
    have hi_ : ∀ k, a ≤ k → k ≤ b → pS (difS f (b :: a :: r)) k = f a + ((k - a : Nat) : Rat) * slo f a b := fun k h1 h2 => by
      unfold pS
      rw [ed, List.take_append, i1, List.take_of_length_le (by omega), qs_append, List.take_replicate, qs_rep, Nat.min_eq_left (by omega)]
      have : qs (difS f (a :: r)) = f a := by
        rw [← i2, pS_all (by omega)]
      rw [this]
    have low : ∀ x ∈ difS f (a :: r), slo f a b ≤ x := fun x hx => by
      cases r with
      | nil => exact absurd hx (by simp [difS])
      | cons a' r' => exact Rat.le_trans (Rat.le_of_lt (hsl a' r' rfl)) (i4 a' r' rfl x hx)
    refine ⟨by rw [ed, List.length_append, List.length_replicate, i1]; omega, by rw [hi_ b (by omega) (Nat.le_refl _)]; grind, ?_, fun a0 r0 e x hx => ?_, fun k hk => ?_, fun k hk => ?_⟩
    · rw [ed]
      refine List.pairwise_append.mpr ⟨i3, List.pairwise_replicate.mpr (.inr Rat.le_refl), fun x hx y hy => ?_⟩
      rw [List.eq_of_mem_replicate hy]
      exact low x hx
    · cases e
      rw [ed] at hx
      rcases List.mem_append.mp hx with hx | hx
      · exact low x hx
      · rw [List.eq_of_mem_replicate hx]
        exact Rat.le_refl
    · by_cases c : k ≤ a
      · rw [lo_ k c]; exact i5 k c
      · rw [hi_ k (by omega) hk]; exact hcov k (by omega) hk
    · by_cases c : k ≤ a
      · rw [lo_ k c]
        rcases i6 k c with q | ⟨lo, hi, h1, h2, h3, q⟩
        · exact .inl q
        · exact .inr ⟨lo, hi, h1, h2, by omega, q⟩
      · by_cases cb : k = b
        · subst cb
          refine .inl ?_
          rw [hi_ k (by omega) (Nat.le_refl _)]
          grind
        · refine .inr ⟨a, b, by omega, by omega, Nat.le_refl _, ?_⟩
          rw [hi_ k (by omega) hk]
          have cs := cast_sub (show a ≤ k by omega) (show k ≤ b by omega)
          rw [cs] at m1 ⊢
          generalize ((k - a : Nat) : Rat) = p at *
          generalize ((b - k : Nat) : Rat) = q at *
          generalize slo f a b = s1 at *
          grind
theorem scan_hull {f : Nat → Rat} (f0 : f 0 = 0) (n : Nat) : Hull n f (difS f (scanS f n)) := by
  obtain ⟨r, e⟩ := scanS_head (f := f) n
  obtain ⟨i1, i2, i3, i4, i5, i6⟩ := dif_facts f0 e (scanS_ok f n)
  exact ⟨i1, i3, i5, i6⟩
end Dn
set_option Elab.async false
set_option linter.all false
set_option maxRecDepth 100000
set_option maxHeartbeats 1000000
namespace Dn
/-- the greatest first -/
def dsc (l : List Rat) : List Rat := l.mergeSort fun a b => decide (b ≤ a)
theorem dsc_perm (l : List Rat) : (dsc l).Perm l := List.mergeSort_perm l _
theorem dsc_dsc (l : List Rat) : Dsc (dsc l) := by
  have h := List.pairwise_mergeSort (le := fun a b : Rat => decide (b ≤ a)) (fun a b c h1 h2 => decide_eq_true (Rat.le_trans (of_decide_eq_true h2) (of_decide_eq_true h1))) (fun a b => by
    by_cases h : b ≤ a
    · simp [h]
    · have := Rat.le_of_lt (Rat.not_le.mp h)
      simp [this]) l
  exact h.imp fun h => of_decide_eq_true h
theorem Dsc.uniq {a b : List Rat} (ha : Dsc a) (hb : Dsc b) (h : a.Perm b) : a = b :=
  h.eq_of_pairwise (fun _ _ _ _ x y => Rat.le_antisymm y x) ha hb
theorem dsc_of {l d : List Rat} (h : d.Perm l) (hd : Dsc d) : dsc l = d := (dsc_dsc l).uniq hd ((dsc_perm l).trans h.symm)
theorem Dsc.eq {l : List Rat} (h : Dsc l) : dsc l = l := dsc_of (List.Perm.refl _) h
theorem dsc_len (l : List Rat) : (dsc l).length = l.length := (dsc_perm l).length_eq
/-- the sums of the greatest -/
def gS (l : List Rat) (k : Nat) : Rat := pS (dsc l) k
theorem gS_0 (l : List Rat) : gS l 0 = 0 := pS_0 _
theorem gS_all {l : List Rat} {k : Nat} (h : l.length ≤ k) : gS l k = qs l := by
  unfold gS
  rw [pS_all (by rw [dsc_len]; exact h)]
  exact qs_perm (dsc_perm l)
theorem gS_dsc {l : List Rat} (h : Dsc l) : gS l = pS l := by funext k; unfold gS; rw [h.eq]
def stp (f : Nat → Rat) (n : Nat) : List Rat := (List.range n).map fun k => f (k + 1) - f k
theorem stp_len (f : Nat → Rat) (n : Nat) : (stp f n).length = n := by simp [stp]
theorem pS_stp {f : Nat → Rat} (f0 : f 0 = 0) {n : Nat} : ∀ k, k ≤ n → pS (stp f n) k = f k
  | 0, _ => by rw [pS_0, f0]
  | k + 1, h => by
    rw [pS_succ (by rw [stp_len]; omega), pS_stp f0 k (by omega)]
    simp [stp]
    grind
theorem stp_dsc {f : Nat → Rat} {n : Nat} (h : ∀ k, k + 2 ≤ n → f k + f (k + 2) ≤ f (k + 1) + f (k + 1)) : Dsc (stp f n) := by
  have key : ∀ d i, i + d + 1 ≤ n → f (i + d + 1) - f (i + d) ≤ f (i + 1) - f i := fun d => by
    induction d with
    | zero => intro i _; exact Rat.le_refl
    | succ d ih =>
      intro i hi
      have h1 := ih i (by omega)
      have h2 := h (i + d) (by omega)
      rw [show i + (d + 1) + 1 = i + d + 2 by omega, show i + (d + 1) = i + d + 1 by omega]
      grind
  refine List.pairwise_iff_getElem.mpr fun i j hi hj hij => ?_
  rw [stp_len] at hi hj
  simp only [stp, List.getElem_map, List.getElem_range]
  have := key (j - i) i (by omega)
  rw [show i + (j - i) = j by omega] at this
  exact this
theorem stp_congr {f g : Nat → Rat} {n : Nat} (h : ∀ k, k ≤ n → f k = g k) : stp f n = stp g n :=
  List.map_congr_left fun k hk => by
    have := List.mem_range.mp hk
    rw [h k (by omega), h (k + 1) (by omega)]
theorem stp_pS (D : List Rat) : stp (pS D) D.length = D :=
  pS_ext (stp_len _ _) rfl fun k hk => pS_stp (pS_0 D) k hk
/-- falling amounts bend at each place -/
theorem pS_mid {D : List Rat} (h : Dsc D) {k : Nat} (hk : k + 2 ≤ D.length) : pS D k + pS D (k + 2) ≤ pS D (k + 1) + pS D (k + 1) := by
  have e1 := pS_succ (show k < D.length by omega)
  have e2 := pS_succ (show k + 1 < D.length by omega)
  have g := h.at (i := k) (j := k + 1) (by omega) (by omega)
  rw [show k + 1 + 1 = k + 2 by omega] at e2
  grind
def mn (a b : Rat) : Rat := if a ≤ b then a else b
def mx (a b : Rat) : Rat := if a ≤ b then b else a
theorem mn_l (a b : Rat) : mn a b ≤ a := by unfold mn; split <;> grind
theorem mn_r (a b : Rat) : mn a b ≤ b := by unfold mn; split <;> grind
theorem le_mn {a b c : Rat} (h1 : c ≤ a) (h2 : c ≤ b) : c ≤ mn a b := by unfold mn; split <;> assumption
theorem mn_or (a b : Rat) : mn a b = a ∨ mn a b = b := by unfold mn; split <;> simp
theorem mx_l (a b : Rat) : a ≤ mx a b := by unfold mx; split <;> grind
theorem mx_r (a b : Rat) : b ≤ mx a b := by unfold mx; split <;> grind
theorem mx_le {a b c : Rat} (h1 : a ≤ c) (h2 : b ≤ c) : mx a b ≤ c := by unfold mx; split <;> assumption
theorem mx_or (a b : Rat) : mx a b = a ∨ mx a b = b := by unfold mx; split <;> simp
theorem mn_comm (a b : Rat) : mn a b = mn b a := Rat.le_antisymm (le_mn (mn_r _ _) (mn_l _ _)) (le_mn (mn_r _ _) (mn_l _ _))
theorem mx_comm (a b : Rat) : mx a b = mx b a := Rat.le_antisymm (mx_le (mx_r _ _) (mx_l _ _)) (mx_le (mx_r _ _) (mx_l _ _))
theorem mn_self (a : Rat) : mn a a = a := by unfold mn; simp
theorem mx_self (a : Rat) : mx a a = a := by unfold mx; simp
theorem mn_eq {a b : Rat} (h : a ≤ b) : mn a b = a := if_pos h
theorem mx_eq {a b : Rat} (h : b ≤ a) : mx a b = a := Rat.le_antisymm (mx_le Rat.le_refl h) (mx_l _ _)
structure Hul (n : Nat) (f : Nat → Rat) (D : List Rat) : Prop where
  len : D.length = n
  dsc : Dsc D
  up : ∀ k, k ≤ n → f k ≤ pS D k
  lst : ∀ E : List Rat, Dsc E → E.length = n → (∀ k, k ≤ n → f k ≤ pS E k) → ∀ k, k ≤ n → pS D k ≤ pS E k
theorem Hull.hul {n : Nat} {f : Nat → Rat} {D : List Rat} (h : Hull n f D) : Hul n f D := ⟨h.len, h.dsc, h.up, fun _ h1 h2 h3 _ hk => h.least h1 h2 h3 hk⟩
theorem Hul.uniq {n : Nat} {f : Nat → Rat} {D E : List Rat} (h : Hul n f D) (h2 : Hul n f E) : D = E :=
  pS_ext h.len h2.len fun k hk => Rat.le_antisymm (h.lst E h2.dsc h2.len h2.up k hk) (h2.lst D h.dsc h.len h.up k hk)
theorem Hul.congr {n : Nat} {f g : Nat → Rat} {D : List Rat} (h : Hul n f D) (e : ∀ k, k ≤ n → f k = g k) : Hul n g D :=
  ⟨h.len, h.dsc, fun k hk => by rw [← e k hk]; exact h.up k hk, fun E h1 h2 h3 => h.lst E h1 h2 fun k hk => by rw [e k hk]; exact h3 k hk⟩
theorem hul_self {D : List Rat} (h : Dsc D) : Hul D.length (pS D) D := (hull_self h).hul
theorem Hul.scan {n : Nat} {f : Nat → Rat} {D : List Rat} (h : Hul n f D) (f0 : f 0 = 0) : Hull n f D := by
  have e := h.uniq (scan_hull f0 n).hul
  rw [e]
  exact scan_hull f0 n
theorem Hul.end {n : Nat} {f : Nat → Rat} {D : List Rat} (h : Hul n f D) (f0 : f 0 = 0) : pS D n = f n := (h.scan f0).end
/-- the least line above a least line and more -/
theorem Hul.mx {n : Nat} {f g : Nat → Rat} {D E : List Rat} (h : Hul n f D) (h2 : Hul n (fun k => mx (pS D k) (g k)) E) : Hul n (fun k => mx (f k) (g k)) E :=
  ⟨h2.len, h2.dsc, fun k hk => Rat.le_trans (mx_le (Rat.le_trans (h.up k hk) (mx_l _ _)) (mx_r _ _)) (h2.up k hk), fun G h3 h4 h5 => h2.lst G h3 h4 fun k hk => mx_le (h.lst G h3 h4 (fun j hj => Rat.le_trans (mx_l _ _) (h5 j hj)) k hk) (Rat.le_trans (mx_r _ _) (h5 k hk))⟩
/-- falling amounts lie above points just if they lie above the least line -/
theorem Hul.iff {n : Nat} {f : Nat → Rat} {D E : List Rat} (h : Hul n f D) (hE : Dsc E) (hl : E.length = n) : (∀ k, k ≤ n → pS D k ≤ pS E k) ↔ ∀ k, k ≤ n → f k ≤ pS E k :=
  ⟨fun g k hk => Rat.le_trans (h.up k hk) (g k hk), fun g => h.lst E hE hl g⟩
theorem pS_scale {c : Rat} (D : List Rat) (k : Nat) : pS (D.map fun x => c * x) k = c * pS D k := by
  unfold pS
  rw [← List.map_take]
  generalize D.take k = l
  induction l with
  | nil => rw [List.map_nil, qs_nil, Rat.mul_zero]
  | cons x l ih => rw [List.map_cons, qs_cons, qs_cons, ih]; grind
theorem Dsc.scale {c : Rat} {D : List Rat} (h : Dsc D) (hc : 0 ≤ c) : Dsc (D.map fun x => c * x) :=
  List.pairwise_map.mpr (h.imp fun g => Rat.mul_le_mul_of_nonneg_left g hc)
theorem dsc_scale {c : Rat} {l : List Rat} (hc : 0 ≤ c) : dsc (l.map fun x => c * x) = (dsc l).map fun x => c * x :=
  dsc_of ((dsc_perm l).map _) ((dsc_dsc l).scale hc)
theorem gS_scale {c : Rat} {l : List Rat} (hc : 0 ≤ c) (k : Nat) : gS (l.map fun x => c * x) k = c * gS l k := by
  unfold gS
  rw [dsc_scale hc, pS_scale]
theorem stp_scale {c : Rat} {f : Nat → Rat} {n : Nat} : (stp f n).map (fun x => c * x) = stp (fun k => c * f k) n := by
  unfold stp
  rw [List.map_map]
  refine List.map_congr_left fun k _ => ?_
  show c * (f (k + 1) - f k) = _
  grind
theorem mn_scale {c a b : Rat} (hc : 0 ≤ c) : mn (c * a) (c * b) = c * mn a b := by
  unfold mn
  by_cases h : a ≤ b
  · rw [if_pos h, if_pos (Rat.mul_le_mul_of_nonneg_left h hc)]
  · rw [if_neg h]
    split
    · rename_i g
      have := Rat.mul_le_mul_of_nonneg_left (Rat.le_of_lt (Rat.not_le.mp h)) hc
      exact Rat.le_antisymm g this
    · rfl
theorem mx_scale {c a b : Rat} (hc : 0 ≤ c) : mx (c * a) (c * b) = c * mx a b := by
  unfold mx
  by_cases h : a ≤ b
  · rw [if_pos h, if_pos (Rat.mul_le_mul_of_nonneg_left h hc)]
  · rw [if_neg h]
    split
    · rename_i g
      have := Rat.mul_le_mul_of_nonneg_left (Rat.le_of_lt (Rat.not_le.mp h)) hc
      exact Rat.le_antisymm this g
    · rfl
theorem Hul.scale {n : Nat} {f : Nat → Rat} {D : List Rat} {c : Rat} (h : Hul n f D) (hc : 0 < c) : Hul n (fun k => c * f k) (D.map fun x => c * x) := by
  have c0 := Rat.le_of_lt hc
  refine ⟨by rw [List.length_map]; exact h.len, h.dsc.scale c0, fun k hk => by rw [pS_scale]; exact Rat.mul_le_mul_of_nonneg_left (h.up k hk) c0, fun E h1 h2 h3 k hk => ?_⟩
  have ci : 0 ≤ c⁻¹ := Rat.le_of_lt (Rat.inv_pos.mpr hc)
  have cc : c * c⁻¹ = 1 := Rat.mul_inv_cancel c (fun z => by rw [z] at hc; exact absurd hc (by decide))
  have g := h.lst (E.map fun x => c⁻¹ * x) (h1.scale ci) (by rw [List.length_map]; exact h2) (fun j hj => by
    rw [pS_scale]
    have := Rat.mul_le_mul_of_nonneg_left (h3 j hj) ci
    have e : c⁻¹ * (c * f j) = f j := by rw [← Rat.mul_assoc, Rat.mul_comm c⁻¹ c, cc, Rat.one_mul]
    rwa [e] at this) k hk
  rw [pS_scale] at g ⊢
  have := Rat.mul_le_mul_of_nonneg_left g c0
  rwa [← Rat.mul_assoc, cc, Rat.one_mul] at this
theorem pS_mono {D : List Rat} (h : ∀ x ∈ D, 0 ≤ x) {i j : Nat} (hij : i ≤ j) : pS D i ≤ pS D j := by
  have key : ∀ d i, pS D i ≤ pS D (i + d) := fun d => by
    induction d with
    | zero => intro i; exact Rat.le_refl
    | succ d ih =>
      intro i
      refine Rat.le_trans (ih i) ?_
      by_cases c : i + d < D.length
      · rw [← Nat.add_assoc, pS_succ c]
        have := h _ (List.getElem_mem c)
        grind
      · rw [pS_all (by omega), pS_all (by omega)]
        exact Rat.le_refl
  have := key (j - i) i
  rwa [show i + (j - i) = j by omega] at this
theorem gS_mono {l : List Rat} (h : ∀ x ∈ l, 0 ≤ x) {i j : Nat} (hij : i ≤ j) : gS l i ≤ gS l j :=
  pS_mono (fun x hx => h x ((dsc_perm l).mem_iff.mp hx)) hij
theorem gS_nn {l : List Rat} (h : ∀ x ∈ l, 0 ≤ x) (k : Nat) : 0 ≤ gS l k := by
  have := gS_mono h (Nat.zero_le k)
  rwa [gS_0] at this
/-- falling amounts with a last one from 0 on -/
theorem nn_of_last {D : List Rat} (h : Dsc D) {n : Nat} (hl : D.length = n + 1) (h0 : pS D n ≤ pS D (n + 1)) : ∀ x ∈ D, 0 ≤ x := by
  have e := pS_succ (show n < D.length by omega)
  intro x hx
  obtain ⟨i, hi, rfl⟩ := List.mem_iff_getElem.mp hx
  have := h.at (i := i) (j := n) (by omega) (by omega)
  grind
theorem Hull.nn {n : Nat} {f : Nat → Rat} {D : List Rat} (h : Hull n f D) (hf : ∀ k, k ≤ n → f k ≤ f n) : ∀ x ∈ D, 0 ≤ x := by
  cases n with
  | zero =>
    have := h.len
    intro x hx
    rw [List.length_eq_zero_iff.mp this] at hx
    exact absurd hx (by simp)
  | succ n =>
    refine nn_of_last h.dsc h.len ?_
    rw [h.end]
    rcases h.att n (by omega) with e | ⟨lo, hi, h1, h2, h3, e⟩
    · rw [e]; exact hf n (by omega)
    · have w0 := nat_posR (show 0 < hi - lo by omega)
      have c := cast_sub (show lo ≤ n by omega) (show n ≤ hi by omega)
      have u0 : (0 : Rat) ≤ ((n - lo : Nat) : Rat) := Rat.natCast_le_natCast.mpr (Nat.zero_le _)
      have v0 : (0 : Rat) ≤ ((hi - n : Nat) : Rat) := Rat.natCast_le_natCast.mpr (Nat.zero_le _)
      have a := Rat.mul_le_mul_of_nonneg_right (hf lo (by omega)) v0
      have b := Rat.mul_le_mul_of_nonneg_right (hf hi (by omega)) u0
      rw [c] at e w0
      generalize ((n - lo : Nat) : Rat) = u at *
      generalize ((hi - n : Nat) : Rat) = v at *
      refine Rat.not_lt.mp fun z => ?_
      have := Rat.mul_lt_mul_of_pos_right z w0
      grind
end Dn
set_option Elab.async false
set_option linter.all false
set_option maxRecDepth 100000
namespace Dn
open PySem PySem.Spec PyProof.Rows L2
mutual
def rW : PyData → Nat
  | .none => 4
  | .bool _ => 5
  | .int _ => 1921
  | .str x => (reprText x).length
  | .list xs => 2 + rWs xs
  | .tuple xs => 4 + rWs xs
  | .dict kvs => 2 + rWk kvs
def rWs : List PyData → Nat
  | [] => 0
  | x :: xs => rW x + 2 + rWs xs
def rWk : List (PyData × PyData) → Nat
  | [] => 0
  | (k, v) :: r => rW k + 2 + rW v + 2 + rWk r
end
theorem textFrom_le : ∀ (ts : List Str) (k : Nat) (acc : Str), (textFrom k acc ts).length ≤ acc.length + piled ts
  | [], _, acc => by show acc.length ≤ _; omega
  | t :: r, k, acc => by
    have h := textFrom_length_pos r (k + 1) (acc ++ (if k > 0 then ", " else "" : String) ++ t) (Nat.succ_pos k)
    show (textFrom (k + 1) _ r).length ≤ _
    rw [h, strLen_append, strLen_append, piled_cons]
    have : (((if k > 0 then ", " else "" : String) : Str)).length ≤ 2 := by split <;> decide
    omega
theorem listText_le (ts : List Str) : (listText ts).length ≤ 2 + piled ts := by
  show (textFrom 0 "[" ts ++ "]").length ≤ _
  have h := textFrom_le ts 0 "["
  have e1 : ((("[" : String) : Str)).length = 1 := rfl
  have e2 : ((("]" : String) : Str)).length = 1 := rfl
  rw [strLen_append, e2]
  rw [e1] at h
  omega
theorem join_le (ts : List Str) : (Str.join ", " ts).length ≤ piled ts := by
  by_cases h : ts = []
  · subst h; decide
  · have := join_length_add ts h
    omega
theorem tupleText_le (ts : List Str) : (tupleText ts).length ≤ 4 + piled ts := by
  unfold tupleText
  rw [strLen_append, strLen_append]
  have e1 : ((("(" : String) : Str)).length = 1 := rfl
  have e3 : (((if ts.length == 1 then ",)" else ")" : String) : Str)).length ≤ 2 := by split <;> decide
  have := join_le ts
  omega
theorem dictText_le (ts : List Str) : (dictText ts).length ≤ 2 + piled ts := by
  unfold dictText
  rw [strLen_append, strLen_append]
  have e1 : ((("{" : String) : Str)).length = 1 := rfl
  have e2 : ((("}" : String) : Str)).length = 1 := rfl
  have := join_le ts
  omega
mutual
theorem shown_le : ∀ d : PyData, d.showable = true → d.shown.length ≤ rW d
  | .none, _ => by simp only [PyData.shown, rW]; decide
  | .bool b, _ => by cases b <;> simp only [PyData.shown, rW] <;> decide
  | .int i, h => by
    simp only [PyData.shown, rW]
    simp only [PyData.showable, decide_eq_true_eq] at h
    have e := int_text_length_le (k := 1920) (by decide) h
    show (Str.ofString (toString i)).length ≤ _
    rw [PySem.ofString_length]
    omega
  | .str x, _ => by simp only [PyData.shown, rW]; exact Nat.le_refl _
  | .list xs, h => by
    simp only [PyData.shown, rW]
    simp only [PyData.showable] at h
    have := listText_le (PyData.shownAll xs)
    have := shownAll_le xs h
    omega
  | .tuple xs, h => by
    simp only [PyData.shown, rW]
    simp only [PyData.showable] at h
    have := tupleText_le (PyData.shownAll xs)
    have := shownAll_le xs h
    omega
  | .dict kvs, h => by
    simp only [PyData.shown, rW]
    simp only [PyData.showable] at h
    have := dictText_le (PyData.shownKv kvs)
    have := shownKv_le kvs h
    omega
theorem shownAll_le : ∀ ds : List PyData, PyData.showableAll ds = true → piled (PyData.shownAll ds) ≤ rWs ds
  | [], _ => by simp only [PyData.shownAll, rWs]; decide
  | d :: ds, h => by
    simp only [PyData.showableAll, Bool.and_eq_true] at h
    simp only [PyData.shownAll, rWs, piled_cons]
    have := shown_le d h.1
    have := shownAll_le ds h.2
    omega
theorem shownKv_le : ∀ kvs : List (PyData × PyData), PyData.showableKv kvs = true → piled (PyData.shownKv kvs) ≤ rWk kvs
  | [], _ => by simp only [PyData.shownKv, rWk]; decide
  | (k, v) :: r, h => by
    simp only [PyData.showableKv, Bool.and_eq_true] at h
    simp only [PyData.shownKv, rWk, piled_cons]
    have h1 := shown_le k h.1.1
    have h2 := shown_le v h.1.2
    have h3 := shownKv_le r h.2
    have e : (((": " : String) : Str)).length = 2 := rfl
    rw [strLen_append, strLen_append, e]
    omega
end
theorem repOk_of {d : PyData} (h0 : repOk0 d = true) (h1 : d.showable = true) (h2 : d.depth ≤ 64) (h3 : rW d ≤ 16777216) : repOk d = true := by
  unfold repOk
  have := shown_le d h1
  rw [h0, h1, decide_eq_true h2, decide_eq_true (show d.shown.length ≤ sizeLine by rw [sizeLine_eq]; omega)]
  rfl
end Dn
set_option Elab.async false
set_option linter.all false
set_option maxRecDepth 100000
namespace Dn
open PySem PySem.Spec PyProof.Rows L2
def Rd (L : Nat) : Nat → PyData → Prop
  | 0, _ => False
  | r + 1, .list ds => ds.length ≤ L ∧ ∀ d ∈ ds, Rd L r d
  | r + 1, .tuple ds => ds.length ≤ L ∧ ∀ d ∈ ds, Rd L r d
  | _ + 1, .int i => i.natAbs < 2 ^ 1920
  | _ + 1, .str x => PyData.strOk x = true ∧ (reprText x).length ≤ 1000
  | _ + 1, .none => True
  | _ + 1, .bool _ => True
  | _ + 1, .dict _ => False
def rdW (L : Nat) : Nat → Nat
  | 0 => 1921
  | r + 1 => 1925 + L * (rdW L r + 2)
theorem rdW_ge {L : Nat} : ∀ r, 1921 ≤ rdW L r
  | 0 => Nat.le_refl _
  | r + 1 => by show 1921 ≤ 1925 + _; omega
theorem rd_all {r W : Nat} : ∀ {ds : List PyData}, (∀ d ∈ ds, PyData.canLay0 d = true ∧ d.showable = true ∧ d.depth ≤ r ∧ rW d ≤ W) → PyData.canLayAll0 ds = true ∧ PyData.showableAll ds = true ∧ PyData.depthAll ds ≤ r ∧ rWs ds ≤ ds.length * (W + 2)
  | [], _ => by simp only [PyData.canLayAll0, PyData.showableAll, PyData.depthAll, rWs]; exact ⟨trivial, trivial, Nat.zero_le _, Nat.zero_le _⟩
  | d :: ds, h => by
    obtain ⟨a1, a2, a3, a4⟩ := h d List.mem_cons_self
    obtain ⟨b1, b2, b3, b4⟩ := rd_all (ds := ds) fun d hd => h d (List.mem_cons_of_mem _ hd)
    simp only [PyData.canLayAll0, PyData.showableAll, PyData.depthAll, rWs, a1, a2, b1, b2, List.length_cons, Nat.succ_mul, Bool.and_self, true_and]
    omega
theorem Rd.all {L : Nat} : ∀ (r : Nat) (d : PyData), Rd L r d → PyData.canLay0 d = true ∧ d.showable = true ∧ d.depth ≤ r ∧ rW d ≤ rdW L r
  | 0, _, h => h.elim
  | r + 1, .none, _ => by simp only [PyData.canLay0, PyData.showable, PyData.depth, rW]; exact ⟨trivial, trivial, Nat.zero_le _, by have := @rdW_ge L (r + 1); omega⟩
  | r + 1, .bool b, _ => by simp only [PyData.canLay0, PyData.showable, PyData.depth, rW]; exact ⟨trivial, trivial, Nat.zero_le _, by have := @rdW_ge L (r + 1); omega⟩
  | r + 1, .int i, h => by simp only [PyData.canLay0, PyData.showable, PyData.depth, rW]; exact ⟨trivial, decide_eq_true (log_of h (by decide)), Nat.zero_le _, @rdW_ge L (r + 1)⟩
  | r + 1, .str x, h => by
    simp only [PyData.canLay0, PyData.showable, PyData.depth, rW]
    have h' : PyData.strOk x = true ∧ (reprText x).length ≤ 1000 := h
    exact ⟨h'.1, trivial, Nat.zero_le _, by have := @rdW_ge L (r + 1); omega⟩
  | r + 1, .list ds, h => by
    obtain ⟨h1, h2⟩ : ds.length ≤ L ∧ ∀ d ∈ ds, Rd L r d := h
    obtain ⟨b1, b2, b3, b4⟩ := rd_all (ds := ds) fun d hd => Rd.all r d (h2 d hd)
    simp only [PyData.canLay0, PyData.showable, PyData.depth, rW]
    have h3 := Nat.mul_le_mul_right (rdW L r + 2) h1
    have h4 : rdW L (r + 1) = 1925 + L * (rdW L r + 2) := rfl
    exact ⟨b1, b2, by omega, by omega⟩
  | r + 1, .tuple ds, h => by
    obtain ⟨h1, h2⟩ : ds.length ≤ L ∧ ∀ d ∈ ds, Rd L r d := h
    obtain ⟨b1, b2, b3, b4⟩ := rd_all (ds := ds) fun d hd => Rd.all r d (h2 d hd)
    simp only [PyData.canLay0, PyData.showable, PyData.depth, rW]
    have h3 := Nat.mul_le_mul_right (rdW L r + 2) h1
    have h4 : rdW L (r + 1) = 1925 + L * (rdW L r + 2) := rfl
    exact ⟨b1, b2, by omega, by omega⟩
  | r + 1, .dict kvs, h => False.elim h
theorem Rd.rep {L r : Nat} {d : PyData} (h : Rd L r d) (hr : r ≤ 64) (hW : rdW L r ≤ 16777216) : repOk d = true := by
  obtain ⟨h1, h2, h3, h4⟩ := Rd.all r d h
  have hs : SeqAt.shaped d = true := by
    unfold SeqAt.shaped
    rw [h1, decide_eq_true (show d.depth ≤ 64 by omega)]
    rfl
  exact repOk_of (repOk0_sh hs) h2 (by omega) (by omega)
theorem Rd.up {L : Nat} : ∀ {r : Nat} {d : PyData}, Rd L r d → Rd L (r + 1) d
  | 0, _, h => h.elim
  | _ + 1, .none, _ => trivial
  | _ + 1, .bool _, _ => trivial
  | _ + 1, .int _, h => h
  | _ + 1, .str _, h => h
  | r + 1, .list ds, h => ⟨h.1, fun d hd => Rd.up (h.2 d hd)⟩
  | r + 1, .tuple ds, h => ⟨h.1, fun d hd => Rd.up (h.2 d hd)⟩
  | _ + 1, .dict _, h => h
end Dn
set_option Elab.async false
set_option linter.all false
set_option maxRecDepth 100000
set_option maxHeartbeats 1000000
namespace K64
open PySem PySem.Spec PyProof.Rows L2 Dn
theorem gcd_pos {a b : Int} (hb : 0 < b) : 0 < Nat.gcd a.natAbs b.natAbs := Nat.gcd_pos_of_pos_right _ (by omega)
theorem gcd_lt {a b : Int} {n : Nat} (hb : 0 < b) (h : b.natAbs < n) : Nat.gcd a.natAbs b.natAbs < n := Nat.lt_of_le_of_lt (Nat.gcd_le_right _ (by omega)) h
theorem v_fraction {a b : Int} (hb : 0 < b) (h : b.natAbs < 2 ^ 9000) : Ph_fraction [.int a, .int b] = some (encQ (Rat.divInt a b)) := by
  have e1 : divOk ((Nat.gcd a.natAbs b.natAbs : Nat) : Int) = true := divOk_lt (by have := @gcd_pos a b hb; omega) (by show Nat.gcd a.natAbs b.natAbs < _; exact gcd_lt hb h)
  unfold Ph_fraction
  rw [run2]
  unfold dn_fraction
  simp [show ¬ b = 0 by omega, show ¬ b < 0 by omega, e1, encQ, ← low_num hb, ← low_den hb]
end K64
set_option Elab.async false
set_option linter.all false
set_option maxRecDepth 100000
set_option maxHeartbeats 1000000
namespace K64
open PySem PySem.Spec PyProof.Rows L2 Dn
theorem v_is_integer (i : Int) : Ph_is_integer [.int i] = some (.bool true) := by
  unfold Ph_is_integer
  rw [run1]
  unfold dn_is_integer
  simp
theorem v_is_fraction (q : Rat) : Ph_is_fraction [encQ q] = some (.bool true) := by
  unfold Ph_is_fraction
  rw [run1]
  unfold dn_is_fraction encQ
  simp [v_is_integer, q_coprime, show (1 : Int) ≤ q.den by have := @den_posI q; omega]
end K64
set_option Elab.async false
set_option linter.all false
set_option maxRecDepth 100000
set_option maxHeartbeats 1000000
namespace K64
open PySem PySem.Spec PyProof.Rows L2 Dn
theorem v_need_fraction (q : Rat) : Ph_need_fraction [encQ q] = some .none := by
  unfold Ph_need_fraction
  rw [run1]
  unfold dn_need_fraction
  simp [v_is_fraction]
end K64
set_option Elab.async false
set_option linter.all false
set_option maxRecDepth 100000
set_option maxHeartbeats 1000000
namespace K64
open PySem PySem.Spec PyProof.Rows L2 Dn
theorem v_is_amount {q : Rat} (h : 0 ≤ q) : Ph_is_amount [encQ q] = some (.bool true) := by
  have h0 : 0 ≤ q.num := Rat.num_nonneg.mpr h
  unfold Ph_is_amount
  rw [run1]
  unfold dn_is_amount
  simp [v_is_fraction]
  simp [encQ, h0]
theorem v_sum_of {v : PyData} {l : List Rat} {D N : Nat} (hv : items v = some (l.map encQ)) (h : Bd D N l) (hD : 0 < D) (hD2 : D < 2 ^ 4000) (hN : (l.length + 1) * N < 2 ^ 1000) : Ph_sum_of [v] = some (encQ (qs l)) := by
  have hl0 := for_at0 (tg := g1 1) (f := lp_sum_of_1) (E := encQ) (xs := l) (S := fun (n : Nat) (e : En) => ∃ s, e = [.val v, s, .no]) (e := [.val v, .no, .no]) ⟨_, rfl⟩ fun i q hi e ⟨s, he⟩ => by
    subst he
    refine ⟨_, [.val v, .val (encQ q), .no], .nx, rfl, ?_, .inl rfl, ⟨_, rfl⟩⟩
    simp [lp_sum_of_1, v_need_fraction]
  obtain ⟨e0', h0, s0, rfl⟩ := hl0
  have hl := for_at0 (tg := g1 1) (f := lp_sum_of_2) (E := encQ) (xs := l) (S := fun (n : Nat) (e : En) => ∃ s, e = [.val v, s, .val (encQ (qs (l.take n)))]) (e := [.val v, s0, .val (encQ 0)]) ⟨_, rfl⟩ fun i q hi e ⟨s, he⟩ => by
    subst he
    have hq := List.mem_of_getElem? hi
    have e5 : l.take (i + 1) = l.take i ++ [q] := by rw [List.take_add_one, hi]; rfl
    have h1 : Sz (qs (l.take i)) := (h.take i).sz hD hD2 (by
      refine Nat.lt_of_le_of_lt ?_ hN
      exact Nat.mul_le_mul_right _ (by have := List.length_take (i := i) (l := l); omega))
    have h2 : Sz q := h.each hD hD2 (Nat.lt_of_le_of_lt (by rw [Nat.succ_mul]; omega) hN) hq
    refine ⟨_, [.val v, .val (encQ q), .val (encQ (qs (l.take (i + 1))))], .nx, rfl, ?_, .inl rfl, ⟨_, rfl⟩⟩
    rw [e5, qs_snoc]
    generalize qs (l.take i) = x at h1 ⊢
    simp [lp_sum_of_2, show encQ x = .tuple [.int x.num, .int x.den] from rfl, show encQ q = .tuple [.int q.num, .int q.den] from rfl, h1.nd h2, h2.nd h1, h1.dd h2, v_fraction dd_pos (h1.ddlt h2), q_add]
  obtain ⟨e', h1, s, rfl⟩ := hl
  unfold Ph_sum_of
  rw [run1]
  unfold dn_sum_of
  rw [List.take_length] at h1
  rw [show encQ 0 = PyData.tuple [PyData.int 0, PyData.int 1] from rfl] at h1
  simp [-items, hv, h0, h1]
end K64
set_option Elab.async false
set_option linter.all false
set_option maxRecDepth 100000
set_option maxHeartbeats 2000000
namespace K64
open PySem PySem.Spec PyProof.Rows L2 Dn
theorem pow2_of {i : Int} (h : powOk i 3 = true) : powOk i 2 = true := by
  unfold powOk at h ⊢
  rw [Bool.and_eq_true] at h ⊢
  have h2 := of_decide_eq_true h.2
  refine ⟨rfl, decide_eq_true ?_⟩
  have e3 : ((3 : Int)).toNat = 3 := rfl
  have e2 : ((2 : Int)).toNat = 2 := rfl
  rw [e3] at h2
  rw [e2]
  omega
theorem v_law_lift {n : Nat} {ks : List PyData} {m : Int} (h : KegOk (n + 1) ks) (h0 : 0 < m) (hm : m ≤ 2 ^ 100) : ∃ x ks', Ph_law_lift ks [.int m] = some (.int x, ks') ∧ 0 ≤ x ∧ x < m ∧ KegOk n ks' := by
  obtain ⟨a, b, c, rfl, h1, h2, h3, h4, h5⟩ := h
  have m60 : (2 : Int) ^ 100 = 1267650600228229401496703205376 := by decide
  have hdm : divOk m = true := divOk_lt (by omega) (lt_pow (a := 101) (by
    have : (2 : Nat) ^ 101 = 2535301200456458802993406410752 := by decide
    omega) (by decide))
  unfold Ph_law_lift
  rw [runM2]
  unfold dn_law_lift
  by_cases ha : 0 < a
  · refine ⟨a.fmod m, [.int (a.fdiv m), .int b, .int c], ?_, (fmod_lt h0).1, (fmod_lt h0).2, ⟨_, b, c, rfl, fdiv_nonneg h0 h1, h2, h3, h4, by omega⟩⟩
    have hp : ∀ (d : PyData) (e : En), kPut3 0 d (.int 0) e (some (.own true [.int a, .int b, .int c])) = some (.nx, e.set 0 (.own true [d, .int b, .int c])) := fun d e => kPut3_ok (k := 0) (by simp)
    simp [ha, show ¬ m = 0 by omega, hdm, hp]
  · have hc : mulOk (c + 1) 22801763489 = true := mulOk_lt (lt_pow (a := 30) (by omega) (by decide)) (lt_pow (a := 40) (by decide) (by decide))
    obtain ⟨P, hP, p28⟩ : ∃ P : Int, P = 10000000000000000000000000000 ∧ gPow (.int 10) (.int 28) = some (.int P) := by
      have : powOk 10 28 = true := by decide +kernel
      exact ⟨_, rfl, by simp [gPow, this]⟩
    obtain ⟨P', hP', p24⟩ : ∃ P : Int, P = 1000000000000000000000000 ∧ gPow (.int 10) (.int 24) = some (.int P) := by
      have : powOk 10 24 = true := by decide +kernel
      exact ⟨_, rfl, by simp [gPow, this]⟩
    have p3 : gPow (.int (b + (c + 1) * 22801763489)) (.int 3) = some (.int ((b + (c + 1) * 22801763489) ^ 3)) := by
      have : powOk (b + (c + 1) * 22801763489) 3 = true := powOk_lt (lt_pow (a := 101) (by
        have : (2 : Nat) ^ 101 = 2535301200456458802993406410752 := by decide
        have : (2 : Int) ^ 100 = 1267650600228229401496703205376 := by decide
        omega) (by decide))
      simp [gPow, this]
    let st := ((b + (c + 1) * 22801763489) ^ 3).fmod (P + 331)
    have hst : 0 ≤ st ∧ st < P + 331 := fmod_lt (by omega)
    have p2 : gPow (.int st) (.int 2) = some (.int (st ^ 2)) := by
      have : powOk st 2 = true := pow2_of (powOk_lt (lt_pow (a := 100) (by
        have : (2 : Nat) ^ 100 = 1267650600228229401496703205376 := by decide
        omega) (by decide)))
      simp [gPow, this]
    have d1 : divOk 8699 = true := by decide +kernel
    have d2 : divOk 12007 = true := by decide +kernel
    let r := ((((st ^ 2 + st.fdiv 8699).fmod (P' + 7)).fdiv 12007).fmod m)
    refine ⟨r, [.int a, .int b, .int (c + 1)], ?_, (fmod_lt h0).1, (fmod_lt h0).2, ⟨a, b, c + 1, rfl, h1, h2, h3, by omega, by omega⟩⟩
    have hp : ∀ (d : PyData) (e : En), kPut3 0 d (.int 2) e (some (.own true [.int a, .int b, .int c])) = some (.nx, e.set 0 (.own true [.int a, .int b, d])) := fun d e => kPut3_ok (k := 2) (by simp)
    have p2' : gPow (.int (((b + (c + 1) * 22801763489) ^ 3).fmod (P + 331))) (.int 2) = some (.int ((((b + (c + 1) * 22801763489) ^ 3).fmod (P + 331)) ^ 2)) := p2
    simp [-gPow, ha, hp, hc, p28, p24, p3, p2', d1, d2, show ¬ m = 0 by omega, show ¬ P + 331 = 0 by omega, show ¬ P' + 7 = 0 by omega, r, st]
theorem v_law_well {z k : Int} (hz : z.natAbs.log2 ≤ 1048576) (hk : 0 ≤ k ∧ k ≤ 1000) : ∃ ks, Ph_law_well [.int z, .int k] = some ks ∧ KegOk 1000000 ks := by
  obtain ⟨P, hP, p18⟩ : ∃ P : Int, P = 1000000000000000000 ∧ gPow (.int 10) (.int 18) = some (.int P) := by
    have : powOk 10 18 = true := by decide +kernel
    exact ⟨_, rfl, by simp [gPow, this]⟩
  obtain ⟨P', hP', p26⟩ : ∃ P : Int, P = 100000000000000000000000000 ∧ gPow (.int 10) (.int 26) = some (.int P) := by
    have : powOk 10 26 = true := by decide +kernel
    exact ⟨_, rfl, by simp [gPow, this]⟩
  have m1 : mulOk z 49979687 = true := by
    unfold mulOk
    refine decide_eq_true ?_
    have : (49979687 : Int).natAbs.log2 < 30 := log_of (by decide) (by decide)
    omega
  have m2 : mulOk (k + 31) 32452867 = true := mulOk_lt (lt_pow (a := 30) (by omega) (by decide)) (lt_pow (a := 30) (by decide) (by decide))
  obtain ⟨u, hu, mu⟩ : ∃ u : Int, 0 ≤ u ∧ gMax2 [.int z, .int (-z)] = some (.int u) := by
    by_cases c : -z > z
    · exact ⟨-z, by omega, by simp [gMax2]; omega⟩
    · exact ⟨z, by omega, by simp [gMax2]; omega⟩
  obtain ⟨a, ha, ma⟩ : ∃ a : Int, 0 ≤ a ∧ gMax2 [.int 0, .int (u - P)] = some (.int a) := by
    by_cases c : u - P > 0
    · exact ⟨u - P, by omega, by simp [gMax2]; omega⟩
    · exact ⟨0, by omega, by simp [gMax2]; omega⟩
  have hb := fmod_lt (a := z * 49979687 + (k + 31) * 32452867) (b := P' + 67) (by omega)
  refine ⟨[.int a, .int ((z * 49979687 + (k + 31) * 32452867).fmod (P' + 67)), .int 0], ?_, a, _, 0, rfl, ha, hb.1, ?_, Int.le_refl _, by omega⟩
  · unfold Ph_law_well
    rw [runL2]
    unfold dn_law_well
    simp [-gPow, -gMax2, p18, p26, m1, m2, mu, ma, show ¬ P' + 67 = 0 by omega]
  · have : (2 : Int) ^ 100 = 1267650600228229401496703205376 := by decide
    have := hb.2
    omega
theorem fmod_nat (x y : Nat) : ((x : Int).fmod (y : Int)) = ((x % y : Nat) : Int) := by
  rw [Int.fmod_eq_emod_of_nonneg _ (by omega)]; rfl
theorem wh_divisor : ∀ (k x y : Nat), y < k → ∃ n, whL wt_law_divisor_1 wb_law_divisor_1 n [.val (.int (x : Int)), .val (.int (y : Int))] = some (.nx, [.val (.int ((Nat.gcd x y : Nat) : Int)), .val (.int 0)])
  | 0, x, y, h => absurd h (by omega)
  | k + 1, x, y, h => by
    by_cases h0 : y = 0
    · subst h0
      refine ⟨1, ?_⟩
      exact (whL_stop (by simp [wt_law_divisor_1]; rfl)).trans (by simp)
    · obtain ⟨n, hn⟩ := wh_divisor k y (x % y) (by have := Nat.mod_lt x (show y > 0 by omega); omega)
      refine ⟨n + 1, ?_⟩
      rw [Nat.gcd_comm y, ← Nat.gcd_rec, Nat.gcd_comm y x] at hn
      have e2 := fmod_nat x y
      refine whL_turn (e1 := [.val (.int (x : Int)), .val (.int (y : Int))]) (by simp [wt_law_divisor_1, show 0 < y by omega]) ?_ hn
      simp [wb_law_divisor_1, h0]
      exact e2
theorem v_law_divisor (x y : Nat) : Ph_law_divisor [.int (x : Int), .int (y : Int)] = some (.int ((Nat.gcd x y : Nat) : Int)) := by
  obtain ⟨n, hn⟩ := wh_divisor (y + 1) x y (by omega)
  have hw := sWh_of hn
  unfold Ph_law_divisor
  rw [run2]
  unfold dn_law_divisor
  simp [hw]
theorem v_law_fraction {a b : Int} (hb : 0 < b) (h : b.natAbs < 2 ^ 9000) : Ph_law_fraction [.int a, .int b] = some (encQ (Rat.divInt a b)) := by
  have e1 : divOk ((Nat.gcd a.natAbs b.natAbs : Nat) : Int) = true := divOk_lt (by have := @gcd_pos a b hb; omega) (by show Nat.gcd a.natAbs b.natAbs < _; exact gcd_lt hb h)
  have hd := v_law_divisor a.natAbs b.natAbs
  have hm : gMax2 [.int a, .int (-a)] = some (.int (a.natAbs : Int)) := by
    by_cases c : -a > a
    · have : (a.natAbs : Int) = -a := by omega
      rw [this]; simp [gMax2]; omega
    · have : (a.natAbs : Int) = a := by omega
      rw [this]; simp [gMax2]; omega
  have eb : ((b.natAbs : Nat) : Int) = b := by omega
  rw [eb] at hd
  unfold Ph_law_fraction
  rw [run2]
  unfold dn_law_fraction
  simp [-gMax2, hm, hd, e1, encQ, ← low_num hb, ← low_den hb]
end K64
set_option Elab.async false
set_option linter.all false
set_option maxRecDepth 100000
set_option maxHeartbeats 4000000
namespace K64
open PySem PySem.Spec PyProof.Rows L2 Dn
/-- a list of integers as data -/
abbrev iD (ns : List Int) : List PyData := ns.map .int
theorem iD_at {ns : List Int} {k : Nat} (h : k < ns.length) : atI (iD ns) (k : Int) = some (.int ns[k]) := by
  rw [atI_get (by simpa using h)]
  simp
theorem iD_len (ns : List Int) : (iD ns).length = ns.length := List.length_map _
theorem iD_set {ns : List Int} {k : Nat} {z : Int} : (iD ns).set k (.int z) = iD (ns.set k z) := by
  unfold iD
  rw [List.map_set]
theorem iD_app {ns : List Int} {z : Int} : iD ns ++ [.int z] = iD (ns ++ [z]) := by
  unfold iD
  rw [List.map_append]
  rfl
theorem iD_nil : (iD [] : List PyData) = [] := rfl
theorem sim_ints (ns : List Int) : Sim 2 (.list (iD ns)) := fun d hd => by
  obtain ⟨z, _, rfl⟩ := List.mem_map.mp hd
  exact trivial
/-- non-negative, with a sum -/
structure NsOk (n : Nat) (T : Int) (ns : List Int) : Prop where
  len : ns.length = n
  nn : ∀ x ∈ ns, 0 ≤ x
  sum : ns.sum = T
theorem sum_nn : ∀ {ns : List Int}, (∀ x ∈ ns, 0 ≤ x) → 0 ≤ ns.sum
  | [], _ => Int.le_refl _
  | x :: ns, h => by
    rw [List.sum_cons]
    have := sum_nn (ns := ns) fun y hy => h y (List.mem_cons_of_mem _ hy)
    have := h x List.mem_cons_self
    omega
theorem le_sum : ∀ {ns : List Int}, (∀ x ∈ ns, 0 ≤ x) → ∀ x ∈ ns, x ≤ ns.sum
  | [], _, x, hx => nomatch hx
  | y :: ns, h, x, hx => by
    rw [List.sum_cons]
    have h1 := h y List.mem_cons_self
    have h2 := sum_nn (ns := ns) fun z hz => h z (List.mem_cons_of_mem _ hz)
    rcases List.mem_cons.mp hx with rfl | hx
    · omega
    · have := le_sum (ns := ns) (fun z hz => h z (List.mem_cons_of_mem _ hz)) x hx
      omega
theorem NsOk.le {n : Nat} {T : Int} {ns : List Int} (h : NsOk n T ns) : ∀ x ∈ ns, x ≤ T := fun x hx => by rw [← h.sum]; exact le_sum h.nn x hx
theorem sum_set {ns : List Int} {k : Nat} (h : k < ns.length) (z : Int) : (ns.set k z).sum = ns.sum - ns[k] + z := by
  induction ns generalizing k with
  | nil => simp at h
  | cons x ns ih =>
    cases k with
    | zero => simp; omega
    | succ k =>
      have := ih (k := k) (by simpa using h)
      simp at this ⊢
      omega
theorem sum_perm {a b : List Int} (h : a.Perm b) : a.sum = b.sum := by
  induction h with
  | nil => rfl
  | cons x _ ih => simp [ih]
  | swap x y l => simp; omega
  | trans _ _ h1 h2 => exact h1.trans h2
theorem NsOk.perm {n : Nat} {T : Int} {a b : List Int} (h : NsOk n T a) (p : b.Perm a) : NsOk n T b := ⟨by rw [p.length_eq]; exact h.len, fun x hx => h.nn x (p.mem_iff.mp hx), by rw [sum_perm p]; exact h.sum⟩
/-- some is moved from one place to another one -/
theorem NsOk.move {n : Nat} {T : Int} {ns : List Int} (h : NsOk n T ns) {i j : Nat} (hi : i < n) (hj : j < n) {z : Int} (hz : 0 ≤ z) (hz2 : z ≤ ns[j]'(by rw [h.len]; exact hj)) :
    ∀ {ms : List Int}, ms = ns.set i (ns[i]'(by rw [h.len]; exact hi) + z) → ∃ hj' : j < ms.length, NsOk n T (ms.set j (ms[j] - z)) := by
  intro ms e
  subst e
  have l1 := h.len
  refine ⟨by simp; omega, by simp [l1], fun x hx => ?_, ?_⟩
  · have hx := List.mem_or_eq_of_mem_set hx
    rcases hx with hx | hx
    · rcases List.mem_or_eq_of_mem_set hx with hx | hx
      · exact h.nn x hx
      · have := h.nn _ (List.getElem_mem (show i < ns.length by omega))
        omega
    · rw [List.getElem_set] at hx
      have a1 := h.nn _ (List.getElem_mem (show i < ns.length by omega))
      split at hx <;> omega
  · rw [sum_set (by rw [List.length_set]; omega), sum_set (by omega), List.getElem_set, h.sum]
    split <;> omega
section
variable {ks k1 : List PyData} {x : Int} {n : Nat}
theorem v_lift_nat {M m : Nat} {ks : List PyData} (h : KegOk (M + 1) ks) (h0 : 0 < m) (hm : (m : Int) ≤ 2 ^ 100) : ∃ (x : Nat) (ks' : List PyData), Ph_law_lift ks [.int (m : Int)] = some (.int (x : Int), ks') ∧ x < m ∧ KegOk M ks' := by
  obtain ⟨x, k', e, a, b, u⟩ := v_law_lift h (by omega) hm
  obtain ⟨x, rfl⟩ := Int.eq_ofNat_of_zero_le a
  exact ⟨x, k', e, by omega, u⟩
end
theorem iD_erase : ∀ (ls : List Int) (k : Nat), (iD ls).eraseIdx k = iD (ls.eraseIdx k)
  | [], _ => rfl
  | x :: ls, 0 => rfl
  | x :: ls, k + 1 => by
    show PyData.int x :: (iD ls).eraseIdx k = _
    rw [iD_erase ls k]
    rfl
theorem erase_perm : ∀ {ls : List Int} {k : Nat} (h : k < ls.length), (ls[k] :: ls.eraseIdx k).Perm ls
  | [], k, h => absurd h (by simp)
  | x :: ls, 0, h => .refl _
  | x :: ls, k + 1, h => by
    have ih := erase_perm (ls := ls) (k := k) (by simpa using h)
    exact (List.Perm.swap _ _ _).trans (ih.cons x)
theorem turned_loop : ∀ (l : Nat) {M : Nat} {ks : List PyData} {L : PyData} {ls fs : List Int}, ls.length = l → l + fs.length ≤ 1000 → KegOk (M + l) ks → ∃ ks' gs n, whL wt_law_turned_1 wb_law_turned_1 n [.own true ks, .val L, .own false (iD ls), .own false (iD fs)] = some (.nx, [.own true ks', .val L, .own false [], .own false (iD (fs ++ gs))]) ∧ gs.Perm ls ∧ KegOk M ks'
  | 0, M, ks, L, ls, fs, hl, _, hk => by
    have : ls = [] := List.length_eq_zero_iff.mp hl
    subst this
    have hn := fun e => kNe2_nil (e := e) (b := false) (ds := []) shaped_nil8
    refine ⟨ks, [], 1, ?_, .nil, hk⟩
    rw [whL_stop (e1 := [.own true ks, .val L, .own false [], .own false (iD fs)]) (by simp [wt_law_turned_1, hn]), List.append_nil]
  | l + 1, M, ks, L, ls, fs, hl, h1, hk => by
    have hn := fun e => kNe2_nil (e := e) (b := false) (ds := iD ls) ((sim_ints ls).shaped (by decide))
    have hne : (iD ls).isEmpty = false := by
      cases ls with
      | nil => simp at hl
      | cons => rfl
    rw [hne] at hn
    obtain ⟨x, k1, e1, b1, u1⟩ := v_lift_nat (M := M + l) (m := ls.length) hk (by omega) (by
      have : (2 : Int) ^ 100 = 1267650600228229401496703205376 := by decide
      omega)
    have hx : x < ls.length := b1
    have hp := kPopAt_e (e := [.own true k1, .val L, .own false (iD ls), .own false (iD fs)]) (i := 2) (b := false) (ds := iD ls) (k := x) (d := .int ls[x]) rfl (by rw [List.getElem?_map, List.getElem?_eq_getElem hx]; rfl) (by rw [iD_len]; omega)
    rw [iD_erase] at hp
    have ha := fun e => kApp2_ok (i := 3) (d := .int ls[x]) (e := e) (p := false) (ds := iD fs) (by rw [iD_len]; omega)
    rw [iD_app] at ha
    obtain ⟨k', gs, n, q1, q2, q3⟩ := turned_loop l (M := M) (ks := k1) (L := L) (ls := ls.eraseIdx x) (fs := fs ++ [ls[x]]) (by rw [List.length_eraseIdx, if_pos hx]; omega) (by rw [List.length_append]; simp; omega) u1
    refine ⟨k', ls[x] :: gs, n + 1, ?_, (q2.cons _).trans (erase_perm hx), q3⟩
    rw [List.append_assoc] at q1
    refine whL_turn (e1 := [.own true ks, .val L, .own false (iD ls), .own false (iD fs)]) (by simp [-List.map_map, wt_law_turned_1, hn]) ?_ q1
    generalize iD (ls.eraseIdx x) = X1 at *
    generalize iD (fs ++ [ls[x]]) = X2 at *
    generalize iD fs = X3 at *
    have hlen : (((iD ls).length : Nat) : Int) = (ls.length : Int) := by rw [iD_len]
    generalize iD ls = X4 at *
    simp [wb_law_turned_1, hlen, e1, hp, ha]
theorem v_law_turned {M : Nat} {ks : List PyData} {ns : List Int} (hl : ns.length ≤ 1000) (hk : KegOk (M + ns.length) ks) : ∃ ms ks', Ph_law_turned ks [.list (iD ns)] = some (.list (iD ms), ks') ∧ ms.Perm ns ∧ KegOk M ks' := by
  obtain ⟨k', gs, n, q1, q2, q3⟩ := turned_loop ns.length (M := M) (ks := ks) (L := .list (iD ns)) (ls := ns) (fs := []) rfl (by simpa using hl) hk
  have hw := sWh_of q1
  refine ⟨gs, k', ?_, q2, q3⟩
  rw [List.nil_append, iD_nil] at hw
  have hO : ∀ e, kOf ([PyData.list (iD ns)], e) = some (iD ns, e) := fun _ => rfl
  generalize iD gs = G at *
  generalize iD ns = N at *
  unfold Ph_law_turned
  rw [runM2]
  unfold dn_law_turned
  simp [hO, hw]
theorem v_law_exchanged {M n m : Nat} {T : Int} {ks : List PyData} {ns : List Int} (h : NsOk n T ns) (hn : 1 ≤ n) (hn2 : n ≤ 1000) (hT : T < 2 ^ 99) (hm : m ≤ 1000) (hk : KegOk (M + 3 * m) ks) : ∃ ms ks', Ph_law_exchanged ks [.list (iD ns), .int (m : Int)] = some (.list (iD ms), ks') ∧ NsOk n T ms ∧ KegOk M ks' := by
  have b99 : (2 : Int) ^ 99 = 633825300114114700748351602688 := by decide
  have b100 : (2 : Int) ^ 100 = 1267650600228229401496703205376 := by decide
  have hlp := for_ix (tg := g1 4) (f := lp_law_exchanged_1) (E := fun i => .int (i : Int)) (n := m)
    (S := fun j e => ∃ ms k s4 s5 s6 s7, e = [.own true k, .val (.list (iD ns)), .val (.int (m : Int)), .own false (iD ms), s4, s5, s6, s7] ∧ NsOk n T ms ∧ KegOk (M + 3 * (m - j)) k)
    (e := [.own true ks, .val (.list (iD ns)), .val (.int (m : Int)), .own false (iD ns), .no, .no, .no, .no]) ⟨ns, ks, _, _, _, _, rfl, h, hk⟩ fun j hj e ⟨ms, k, s4, s5, s6, s7, he, hms, u⟩ => by
      subst he
      have l := hms.len
      obtain ⟨a, k1, e1, b1, u1⟩ := v_lift_nat (M := M + 3 * (m - j) - 1) (m := ms.length) (u.mono (by omega)) (by omega) (by omega)
      obtain ⟨c, k2, e2, b2, u2⟩ := v_lift_nat (M := M + 3 * (m - j) - 2) (m := ms.length) (u1.mono (by omega)) (by omega) (by omega)
      have ia := iD_at b1
      have ic := iD_at b2
      have hlen : (((iD ms).length : Nat) : Int) = (ms.length : Int) := by rw [iD_len]
      by_cases g : ms[c] < ms[a]
      · have na := hms.nn _ (List.getElem_mem b1)
        have nc := hms.nn _ (List.getElem_mem b2)
        have la := hms.le _ (List.getElem_mem b1)
        obtain ⟨z, k3, e3, z0, z1, u3⟩ := v_law_lift (n := M + 3 * (m - j) - 3) (m := ms[a] - ms[c] + 1) (u2.mono (by omega)) (by omega) (by omega)
        have ne : a ≠ c := fun z => by subst z; omega
        have p1 := fun e => kPut3_ok (i := 3) (d := .int (ms[a] - z)) (e := e) (p := false) (ds := iD ms) (k := a) (by rw [iD_len]; exact b1)
        rw [iD_set] at p1
        have lc : c < (ms.set a (ms[a] - z)).length := by rw [List.length_set]; exact b2
        have ic2 := iD_at lc
        have ec : (ms.set a (ms[a] - z))[c] = ms[c] := by rw [List.getElem_set_ne ne]
        rw [ec] at ic2
        have p2 := fun e => kPut3_ok (i := 3) (d := .int (ms[c] + z)) (e := e) (p := false) (ds := iD (ms.set a (ms[a] - z))) (k := c) (by rw [iD_len]; exact lc)
        rw [iD_set] at p2
        refine ⟨_, [.own true k3, .val (.list (iD ns)), .val (.int (m : Int)), .own false (iD ((ms.set a (ms[a] - z)).set c (ms[c] + z))), .val (.int (j : Int)), .val (.int (a : Int)), .val (.int (c : Int)), .val (.int z)], .nx, rfl, ?_, .inl rfl, ⟨_, k3, _, _, _, _, rfl, ?_, u3.mono (by omega)⟩⟩
        · generalize iD ((ms.set a (ms[a] - z)).set c (ms[c] + z)) = X1 at *
          generalize iD (ms.set a (ms[a] - z)) = X2 at *
          generalize iD ms = X3 at *
          generalize iD ns = X4 at *
          generalize ms[a] = va at *
          generalize ms[c] = vc at *
          simp [lp_law_exchanged_1, hlen, e1, e2, ia, ic, g, e3, p1, ic2, p2]
        · refine ⟨by simp [l], fun x hx => ?_, ?_⟩
          · rcases List.mem_or_eq_of_mem_set hx with hx | hx
            · rcases List.mem_or_eq_of_mem_set hx with hx | hx
              · exact hms.nn x hx
              · omega
            · omega
          · rw [sum_set lc, sum_set b1, ec, hms.sum]
            omega
      · refine ⟨_, [.own true k2, .val (.list (iD ns)), .val (.int (m : Int)), .own false (iD ms), .val (.int (j : Int)), .val (.int (a : Int)), .val (.int (c : Int)), s7], .nx, rfl, ?_, .inl rfl, ⟨_, k2, _, _, _, _, rfl, hms, u2.mono (by omega)⟩⟩
        generalize iD ms = X3 at *
        generalize iD ns = X4 at *
        generalize ms[a] = va at *
        generalize ms[c] = vc at *
        simp [lp_law_exchanged_1, hlen, e1, e2, ia, ic, g]
  obtain ⟨e', h1, ms, k, s4, s5, s6, s7, rfl, hms, u⟩ := hlp
  have hr := fun e => @kR1_len m e (by omega)
  have hO : ∀ e, kOf ([PyData.list (iD ns)], e) = some (iD ns, e) := fun _ => rfl
  refine ⟨ms, k, ?_, hms, u.mono (by omega)⟩
  generalize iD ms = X3 at *
  generalize iD ns = X4 at *
  unfold Ph_law_exchanged
  rw [runM3]
  unfold dn_law_exchanged
  simp [hO, hr, h1]
end K64
set_option Elab.async false
set_option linter.all false
set_option maxRecDepth 100000
set_option maxHeartbeats 4000000
namespace K64
open PySem PySem.Spec PyProof.Rows L2 Dn
theorem min2_int (a b : Int) : ∃ m : Int, gMin2 [.int a, .int b] = some (.int m) ∧ m ≤ a ∧ m ≤ b ∧ (m = a ∨ m = b) := by
  by_cases c : b < a
  · exact ⟨b, by simp [gMin2]; omega, by omega, by omega, .inr rfl⟩
  · exact ⟨a, by simp [gMin2]; omega, by omega, by omega, .inl rfl⟩
theorem max2_int (a b : Int) : ∃ m : Int, gMax2 [.int a, .int b] = some (.int m) ∧ a ≤ m ∧ b ≤ m ∧ (m = a ∨ m = b) := by
  by_cases c : b > a
  · exact ⟨b, by simp [gMax2]; omega, by omega, by omega, .inr rfl⟩
  · exact ⟨a, by simp [gMax2]; omega, by omega, by omega, .inl rfl⟩
theorem mv_turn {ks k1 k2 k3 k4 X1 X2 X3 : List PyData} {N : PyData} {l j va vc z y v q vc2 : Int} {a c : Nat} {s4 s5 s6 : Sl} (hlen : ((X3.length : Nat) : Int) = l) (e1 : Ph_law_lift ks [.int l] = some (.int (a : Int), k1)) (e2 : Ph_law_lift k1 [.int l] = some (.int (c : Int), k2)) (ia : atI X3 (a : Int) = some (.int va)) (ic : atI X3 (c : Int) = some (.int vc))
    (e3 : Ph_law_lift k2 [.int (vc + 1)] = some (.int z, k3)) (e4 : Ph_law_lift k3 [.int 4] = some (.int y, k4)) (hv : gIx (.list [.int 1, .int vc, .int z, .int (vc.fdiv 2)]) (.int y) = some (.int v)) (hq : gMin2 [.int v, .int vc] = some (.int q))
    (p1 : ∀ e, kPut3 2 (.int (va + q)) (.int (a : Int)) e (some (.own false X3)) = some (.nx, e.set 2 (.own false X2))) (ic2 : atI X2 (c : Int) = some (.int vc2)) (p2 : ∀ e, kPut3 2 (.int (vc2 - q)) (.int (c : Int)) e (some (.own false X2)) = some (.nx, e.set 2 (.own false X1))) :
    lp_law_moved_1 [.own true ks, .val N, .own false X3, .val (.int j), s4, s5, s6] = some (.nx, [.own true k4, .val N, .own false X1, .val (.int j), .val (.int (a : Int)), .val (.int (c : Int)), .val (.int q)]) := by
  have d2 : divOk 2 = true := by decide +kernel
  have hL4 : ∀ (a b c d : PyData) (e : En), kLst ([a, b, c, d], e) = some ([a, b, c, d], e) := fun _ _ _ _ _ => rfl
  simp [-gIx, -gMin2, lp_law_moved_1, hlen, e1, e2, ia, ic, d2, e3, e4, hL4, hv, hq, p1, ic2, p2]
theorem v_law_moved {M n : Nat} {T : Int} {ks : List PyData} {ns : List Int} (h : NsOk n T ns) (hn : 1 ≤ n) (hn2 : n ≤ 7) (hT : T < 2 ^ 99) (hk : KegOk (M + 40) ks) : ∃ ms ks', Ph_law_moved ks [.list (iD ns)] = some (.list (iD ms), ks') ∧ NsOk n T ms ∧ KegOk M ks' := by
  have b99 : (2 : Int) ^ 99 = 633825300114114700748351602688 := by decide
  have b100 : (2 : Int) ^ 100 = 1267650600228229401496703205376 := by decide
  have d2 : divOk 2 = true := by decide +kernel
  obtain ⟨m, k0, e0, m7, u0⟩ := v_lift_nat (M := M + 39) (m := 7) hk (by decide) (by decide)
  have hlp := for_ix (tg := g1 3) (f := lp_law_moved_1) (E := fun i => .int (i : Int)) (n := m)
    (S := fun j e => ∃ ms k s3 s4 s5 s6, e = [.own true k, .val (.list (iD ns)), .own false (iD ms), s3, s4, s5, s6] ∧ NsOk n T ms ∧ KegOk (M + 7 + 4 * (m - j)) k)
    (e := [.own true k0, .val (.list (iD ns)), .own false (iD ns), .no, .no, .no, .no]) ⟨ns, k0, _, _, _, _, rfl, h, u0.mono (by omega)⟩ fun j hj e ⟨ms, k, s3, s4, s5, s6, he, hms, u⟩ => by
      subst he
      have l := hms.len
      obtain ⟨a, k1, e1, b1, u1⟩ := v_lift_nat (M := M + 7 + 4 * (m - j) - 1) (m := ms.length) (u.mono (by omega)) (by omega) (by omega)
      obtain ⟨c, k2, e2, b2, u2⟩ := v_lift_nat (M := M + 7 + 4 * (m - j) - 2) (m := ms.length) (u1.mono (by omega)) (by omega) (by omega)
      have ia := iD_at b1
      have ic := iD_at b2
      have hlen : (((iD ms).length : Nat) : Int) = (ms.length : Int) := by rw [iD_len]
      have nc := hms.nn _ (List.getElem_mem b2)
      have lc := hms.le _ (List.getElem_mem b2)
      obtain ⟨z, k3, e3, z0, z1, u3⟩ := v_law_lift (n := M + 7 + 4 * (m - j) - 3) (m := ms[c] + 1) (u2.mono (by omega)) (by omega) (by omega)
      obtain ⟨y, k4, e4, y0, y1, u4⟩ := v_law_lift (n := M + 7 + 4 * (m - j) - 4) (m := 4) (u3.mono (by omega)) (by decide) (by decide)
      obtain ⟨v, hv, v0⟩ : ∃ v : Int, gIx (.list [.int 1, .int ms[c], .int z, .int (ms[c].fdiv 2)]) (.int y) = some (.int v) ∧ 0 ≤ v := by
        rcases (show y = 0 ∨ y = 1 ∨ y = 2 ∨ y = 3 by omega) with e | e | e | e <;> subst e
        · exact ⟨1, rfl, by decide⟩
        · exact ⟨_, rfl, nc⟩
        · exact ⟨_, rfl, z0⟩
        · exact ⟨_, rfl, fdiv_nonneg (by decide) nc⟩
      obtain ⟨q, hq, q1, q2, q3⟩ := min2_int v ms[c]
      have q0 : 0 ≤ q := by omega
      have p1 := fun e => kPut3_ok (i := 2) (d := .int (ms[a] + q)) (e := e) (p := false) (ds := iD ms) (k := a) (by rw [iD_len]; exact b1)
      rw [iD_set] at p1
      obtain ⟨lc2, hmv⟩ := hms.move (i := a) (j := c) (by omega) (by omega) q0 q2 rfl
      have ic2 := iD_at lc2
      have p2 := fun e => kPut3_ok (i := 2) (d := .int ((ms.set a (ms[a] + q))[c] - q)) (e := e) (p := false) (ds := iD (ms.set a (ms[a] + q))) (k := c) (by rw [iD_len]; exact lc2)
      rw [iD_set] at p2
      exact ⟨_, _, .nx, rfl, mv_turn hlen e1 e2 ia ic e3 e4 hv hq p1 ic2 p2, .inl rfl, ⟨_, k4, _, _, _, _, rfl, hmv, u4.mono (by omega)⟩⟩
  obtain ⟨e', h1, ms, k, s3, s4, s5, s6, rfl, hms, u⟩ := hlp
  have hr := fun e => @kR1_len m e (by omega)
  have hO : ∀ e, kOf ([PyData.list (iD ns)], e) = some (iD ns, e) := fun _ => rfl
  obtain ⟨rs, k', t1, t2, t3⟩ := v_law_turned (M := M) (ns := ms) (by rw [hms.len]; omega) (u.mono (by rw [hms.len]; omega))
  refine ⟨rs, k', ?_, hms.perm t2, t3⟩
  have e7 : ((7 : Nat) : Int) = 7 := rfl
  rw [e7] at e0
  generalize iD ms = X3 at *
  generalize iD ns = X4 at *
  generalize iD rs = X5 at *
  unfold Ph_law_moved
  rw [runM2]
  unfold dn_law_moved
  simp [hO, e0, hr, h1, t1]
theorem v_law_numbers {M n : Nat} {ks : List PyData} (hn : n ≤ 7) (hk : KegOk (M + 20) ks) : ∃ ms ks', Ph_law_numbers ks [.int (n : Int)] = some (.list (iD ms), ks') ∧ ms.length = n ∧ (∀ x ∈ ms, 0 ≤ x ∧ x < 10 ^ 20) ∧ KegOk M ks' := by
  have b100 : (2 : Int) ^ 100 = 1267650600228229401496703205376 := by decide
  have b20 : (10 : Int) ^ 20 = 100000000000000000000 := by decide
  have p6 : gPow (.int 10) (.int 6) = some (.int 1000000) := by
    have : powOk 10 6 = true := by decide +kernel
    simp [gPow, this]
  have p20 : gPow (.int 10) (.int 20) = some (.int 100000000000000000000) := by
    have : powOk 10 20 = true := by decide +kernel
    simp [gPow, this]
  obtain ⟨y, k0, e0, y0, y1, u0⟩ := v_law_lift (n := M + 19) (m := 4) hk (by decide) (by decide)
  obtain ⟨v, hv, v0, v1⟩ : ∃ v : Int, gIx (.list [.int 4, .int 10, .int 1000000, .int 100000000000000000000]) (.int y) = some (.int v) ∧ 0 < v ∧ v ≤ 10 ^ 20 := by
    rcases (show y = 0 ∨ y = 1 ∨ y = 2 ∨ y = 3 by omega) with e | e | e | e <;> subst e
    · exact ⟨_, rfl, by decide, by decide⟩
    · exact ⟨_, rfl, by decide, by decide⟩
    · exact ⟨_, rfl, by decide, by decide⟩
    · exact ⟨_, rfl, by decide, by decide⟩
  have hlp := for_ix (tg := g1 4) (f := lp_law_numbers_1) (E := fun i => .int (i : Int)) (n := n)
    (S := fun j e => ∃ ms k s4 s5, e = [.own true k, .val (.int (n : Int)), .own false (iD ms), .val (.int v), s4, s5] ∧ ms.length = j ∧ (∀ x ∈ ms, 0 ≤ x ∧ x < 10 ^ 20) ∧ KegOk (M + 2 * (n - j)) k)
    (e := [.own true k0, .val (.int (n : Int)), .own false (iD []), .val (.int v), .no, .no]) ⟨[], k0, _, _, rfl, rfl, (fun _ hx => nomatch hx), u0.mono (by omega)⟩ fun j hj e ⟨ms, k, s4, s5, he, hl, hms, u⟩ => by
      subst he
      obtain ⟨w, k1, e1, w0, w1, u1⟩ := v_law_lift (n := M + 2 * (n - j) - 1) (m := 6) (u.mono (by omega)) (by decide) (by decide)
      have hlen : (((iD ms).length : Nat) : Int) = (ms.length : Int) := by rw [iD_len]
      have ap := fun e z => kApp2_ok (i := 2) (d := .int z) (e := e) (p := false) (ds := iD ms) (by rw [iD_len]; omega)
      have ext : ∀ z : Int, 0 ≤ z → z < 10 ^ 20 → ∀ x ∈ ms ++ [z], 0 ≤ x ∧ x < 10 ^ 20 := fun z h0 h1 x hx => by
        rcases List.mem_append.mp hx with hx | hx
        · exact hms x hx
        · rw [List.mem_singleton.mp hx]; exact ⟨h0, h1⟩
      have gne := gNe_D (p := ms = []) (sim_ints ms) (show Sim 2 (.list []) from fun d hd => nomatch hd) (by decide) ⟨fun e => by
        have e := PyData.list.inj e
        exact List.map_eq_nil_iff.mp e, fun e => by rw [e]; rfl⟩
      have hN : ∀ e, kLst ([], e) = some (([] : List PyData), e) := fun _ => rfl
      by_cases c0 : w = 0 ∧ ms ≠ []
      · obtain ⟨c0, cn⟩ := c0
        subst c0
        rw [decide_eq_false cn] at gne
        have lp := List.length_pos_iff.mpr cn
        obtain ⟨a, k2, e2, b2, u2⟩ := v_lift_nat (M := M + 2 * (n - j) - 2) (m := ms.length) (u1.mono (by omega)) lp (by omega)
        have ia := iD_at b2
        refine ⟨_, [.own true k2, .val (.int (n : Int)), .own false (iD (ms ++ [ms[a]])), .val (.int v), .val (.int (j : Int)), .val (.int 0)], .nx, rfl, ?_, .inl rfl, ⟨_, k2, _, _, rfl, by simp [hl], ext _ (hms _ (List.getElem_mem b2)).1 (hms _ (List.getElem_mem b2)).2, u2.mono (by omega)⟩⟩
        rw [← iD_app]
        generalize iD ms = X3 at *
        generalize ms[a] = va at *
        simp [-gNe, lp_law_numbers_1, e1, gne, hlen, e2, ia, ap]
      · by_cases c1 : w = 1
        · subst c1
          refine ⟨_, [.own true k1, .val (.int (n : Int)), .own false (iD (ms ++ [0])), .val (.int v), .val (.int (j : Int)), .val (.int 1)], .nx, rfl, ?_, .inl rfl, ⟨_, k1, _, _, rfl, by simp [hl], ext _ (by decide) (by decide), u1.mono (by omega)⟩⟩
          rw [← iD_app]
          generalize iD ms = X3 at *
          simp [-gNe, lp_law_numbers_1, e1, ap]
        · obtain ⟨z, k2, e2, z0, z1, u2⟩ := v_law_lift (n := M + 2 * (n - j) - 2) (m := v) (u1.mono (by omega)) v0 (by omega)
          refine ⟨_, [.own true k2, .val (.int (n : Int)), .own false (iD (ms ++ [z])), .val (.int v), .val (.int (j : Int)), .val (.int w)], .nx, rfl, ?_, .inl rfl, ⟨_, k2, _, _, rfl, by simp [hl], ext _ z0 (by omega), u2.mono (by omega)⟩⟩
          rw [← iD_app]
          by_cases w0' : w = 0
          · have me : ms = [] := Classical.byContradiction fun z => c0 ⟨w0', z⟩
            rw [decide_eq_true me] at gne
            subst w0'
            generalize iD ms = X3 at *
            simp [-gNe, lp_law_numbers_1, e1, gne, e2, ap]
          · generalize iD ms = X3 at *
            simp [-gNe, lp_law_numbers_1, e1, w0', c1, e2, ap]
  obtain ⟨e', h1, ms, k, s4, s5, rfl, hl, hms, u⟩ := hlp
  have hr := fun e => @kR1_len n e (by omega)
  have hL4 : ∀ (a b c d : PyData) (e : En), kLst ([a, b, c, d], e) = some ([a, b, c, d], e) := fun _ _ _ _ _ => rfl
  refine ⟨ms, k, ?_, hl, hms, u.mono (by omega)⟩
  rw [iD_nil] at h1
  generalize iD ms = X3 at *
  unfold Ph_law_numbers
  rw [runM2]
  unfold dn_law_numbers
  simp [-gIx, -gPow, p6, p20, hL4, e0, hv, hr, h1]
end K64
set_option Elab.async false
set_option linter.all false
set_option maxRecDepth 100000
set_option maxHeartbeats 4000000
namespace K64
open PySem PySem.Spec PyProof.Rows L2 Dn
def rR (ns : List Int) : List Rat := ns.map fun z : Int => (z : Rat)
theorem rR_len (ns : List Int) : (rR ns).length = ns.length := List.length_map _
def fallI (ns : List Int) : List Int := (srtI ns).reverse
theorem fallI_perm (ns : List Int) : (fallI ns).Perm ns := (List.reverse_perm _).trans (srtI_perm ns)
theorem fallI_len (ns : List Int) : (fallI ns).length = ns.length := (fallI_perm ns).length_eq
theorem fallI_dsc (ns : List Int) : (fallI ns).Pairwise (· ≥ ·) := by
  unfold fallI
  rw [List.pairwise_reverse]
  exact (srtI_pw ns).imp fun h => h
theorem dsc_rR (ns : List Int) : dsc (rR ns) = rR (fallI ns) := by
  refine dsc_of ((fallI_perm ns).map _) ?_
  unfold Dsc rR
  exact List.pairwise_map.mpr ((fallI_dsc ns).imp fun h => Rat.intCast_le_intCast.mpr h)
theorem qs_rR : ∀ ns : List Int, qs (rR ns) = ((ns.sum : Int) : Rat)
  | [] => rfl
  | z :: ns => by
    show qs ((z : Rat) :: rR ns) = _
    rw [qs_cons, qs_rR ns, List.sum_cons, Rat.intCast_add]
/-- the sum of the k greatest -/
def sI (ns : List Int) (k : Nat) : Int := ((fallI ns).take k).sum
theorem sI_R (ns : List Int) (k : Nat) : ((sI ns k : Int) : Rat) = gS (rR ns) k := by
  unfold sI gS pS
  rw [dsc_rR, ← qs_rR]
  unfold rR
  rw [List.map_take]
theorem pS_R (ns : List Int) (k : Nat) : pS (rR ns) k = (((ns.take k).sum : Int) : Rat) := by
  unfold pS
  rw [← qs_rR]
  unfold rR
  rw [List.map_take]
theorem gSum_iD (ns : List Int) : gSum [.list (iD ns)] = some (.int ns.sum) := by
  show (intsOf (iD ns)).map _ = _
  rw [intsOf_map]
  rfl
theorem gCut_iD (ns : List Int) (k : Nat) : gCut (.list (iD ns)) none (some (k : Int)) = some (.list (iD (ns.take k))) := by
  show some (PyData.list (cutD _ _ _)) = _
  rw [cut_to]
  unfold iD
  rw [List.map_take]
theorem kSrtR_iD {ns : List Int} {e : En} : kSrtR ([.list (iD ns)], e) = some (iD (fallI ns), e) := kSrtR_e
theorem v_law_sums {ns : List Int} (hl : ns.length ≤ 1000) : Ph_law_sums [.list (iD ns)] = some (.list (iD ((List.range (ns.length + 1)).map (sI ns)))) := by
  have hc := cm_a (a := ce_law_sums_1) (i := 2) (e := [.val (.list (iD ns)), .val (.list (iD (fallI ns))), .no]) (xs := List.range (ns.length + 1)) (E := fun (i : Nat) => .int (i : Int)) (D := .int) (F := sI ns) (by simp; omega) rfl rfl fun k hk => by
    have h1 := gCut_iD (fallI ns) k
    have h2 := gSum_iD ((fallI ns).take k)
    have h2 : gSum [.list (iD ((fallI ns).take k))] = some (.int (sI ns k)) := h2
    generalize iD ((fallI ns).take k) = X at *
    generalize iD (fallI ns) = Y at *
    simp [-gCut, -gSum, ce_law_sums_1, h1, h2]
  have hr := fun e => @kR1_len (ns.length + 1) e (by omega)
  have hs := fun e => kSrtR_iD (ns := ns) (e := e)
  have hlen : gLen [.list (iD (fallI ns))] = some (.int (ns.length : Int)) := by
    show some (PyData.int (((iD (fallI ns)).length : Nat) : Int)) = _
    rw [iD_len, fallI_len]
  have h1 : ((ns.length + 1 : Nat) : Int) = (ns.length : Int) + 1 := by omega
  rw [h1] at hr
  unfold Ph_law_sums
  rw [run1]
  unfold dn_law_sums
  generalize iD (fallI ns) = Y at *
  generalize iD ns = Z at *
  generalize (List.range (ns.length + 1)).map (fun i => PyData.int ((i : Nat) : Int)) = W at *
  simp [-gLen, hs, hlen, hr, hc]
theorem iD_mapN (f : Nat → Int) (n : Nat) : iD ((List.range n).map f) = (List.range n).map fun k => .int (f k) := by
  unfold iD
  rw [List.map_map]
  rfl
theorem iD_atN {f : Nat → Int} {n k : Nat} (h : k < n) : gIx (.list (iD ((List.range n).map f))) (.int (k : Int)) = some (.int (f k)) := by
  rw [iD_mapN]
  exact atI_map h
theorem v_law_steps {f : Nat → Int} {n : Nat} (hn : n ≤ 1000) : Ph_law_steps [.list (iD ((List.range (n + 1)).map f))] = some (.list (iD ((List.range n).map fun k => f (k + 1) - f k))) := by
  have hc := cm_a (a := ce_law_steps_1) (i := 1) (e := [.val (.list (iD ((List.range (n + 1)).map f))), .no]) (xs := List.range n) (E := fun (i : Nat) => .int (i : Int)) (D := .int) (F := fun k => f (k + 1) - f k) (by simp; omega) rfl rfl fun k hk => by
    have hk' := List.mem_range.mp hk
    have h1 := iD_atN (f := f) (n := n + 1) (k := k) (by omega)
    have h2 := iD_atN (f := f) (n := n + 1) (k := k + 1) (by omega)
    have e1 : ((k + 1 : Nat) : Int) = (k : Int) + 1 := by omega
    rw [e1] at h2
    generalize PyData.list (iD ((List.range (n + 1)).map f)) = X at *
    simp [-gIx, ce_law_steps_1, h1, h2]
  have hr := fun e => @kR1_len n e (by omega)
  have hlen : gLen [.list (iD ((List.range (n + 1)).map f))] = some (.int ((n : Int) + 1)) := by
    show some (PyData.int (((iD ((List.range (n + 1)).map f)).length : Nat) : Int)) = _
    rw [iD_len, List.length_map, List.length_range]
    rfl
  have e2 : (n : Int) + 1 - 1 = (n : Int) := by omega
  unfold Ph_law_steps
  rw [run1]
  unfold dn_law_steps
  generalize PyData.list (iD ((List.range (n + 1)).map f)) = X at *
  generalize (List.range n).map (fun i => PyData.int ((i : Nat) : Int)) = W at *
  simp [-gLen, hlen, e2, hr, hc]
/-- amounts as data -/
abbrev eL (q : List Rat) : PyData := .tuple (q.map encQ)
theorem v_law_amounts {ns : List Int} {b : Int} (hb : 0 < b) (hb2 : b < 2 ^ 1000) (hl : ns.length ≤ 1000) : Ph_law_amounts [.list (iD ns), .int b] = some (eL ((rR ns).map fun x => x / (b : Rat))) := by
  have hc := cm_a (a := ce_law_amounts_1) (i := 2) (e := [.val (.list (iD ns)), .val (.int b), .no]) (xs := ns) (E := .int) (D := encQ) (F := fun z : Int => (z : Rat) / (b : Rat)) (by omega) rfl rfl fun z hz => by
    have hf := v_law_fraction (a := z) (b := b) hb (lt_pow (a := 1000) (by
      have h1 : ((b.natAbs : Nat) : Int) = b := by omega
      have h2 : ((2 ^ 1000 : Nat) : Int) = 2 ^ 1000 := Int.natCast_pow 2 1000
      generalize (2 : Int) ^ 1000 = P at *
      generalize (2 : Nat) ^ 1000 = Q at *
      omega) (by decide))
    rw [Rat.divInt_eq_div] at hf
    simp [ce_law_amounts_1, hf]
  have hi : items (.list (iD ns)) = some (ns.map .int) := rfl
  unfold Ph_law_amounts
  rw [run2]
  unfold dn_law_amounts
  generalize PyData.list (iD ns) = X at *
  simp [-List.map_map, -items, hi, hc]
  unfold rR
  rw [List.map_map, List.map_map, List.map_map]
  rfl
theorem eqv_bool (a b : Bool) : PyData.eqv (.bool a) (.bool b) = decide (a = b) := by
  cases a <;> cases b <;> decide +kernel
theorem shaped_bools (bs : List Bool) : SeqAt.shaped (.list (bs.map .bool)) = true := by
  have h := lay_all (ds := bs.map PyData.bool) (r := 0) fun d hd => by
    obtain ⟨b, _, rfl⟩ := List.mem_map.mp hd
    simp [PyData.canLay0, PyData.depth]
  unfold SeqAt.shaped
  simp only [PyData.canLay0, PyData.depth, h.1, Bool.true_and]
  exact decide_eq_true (by omega)
theorem nin_false (bs : List Bool) : gNinL (.bool false) (.list (bs.map .bool)) = some (.bool (decide (∀ x ∈ bs, x = true))) := by
  have e : gNinL (.bool false) (.list (bs.map .bool)) = if SeqAt.shaped (.bool false) && SeqAt.shaped (.list (bs.map .bool)) then some (.bool (!inD (bs.map .bool) (.bool false))) else none := rfl
  rw [e, shaped_bools, shaped_b]
  simp only [Bool.and_self, if_true]
  congr 2
  clear e
  unfold inD
  induction bs with
  | nil => simp
  | cons b bs ih =>
    rw [List.map_cons, List.any_cons, eqv_bool, Bool.not_or, ih]
    cases b <;> simp
/-- whether one leads to another one -/
theorem v_law_leads {a b : List Int} {n : Nat} (ha : a.length = n) (hb : b.length = n) (hn : n ≤ 1000) : Ph_law_leads [.list (iD a), .list (iD b)] = some (.bool (decide (∀ k, k ≤ n → gS (rR b) k ≤ gS (rR a) k))) := by
  have s1 := v_law_sums (ns := a) (by omega)
  have s2 := v_law_sums (ns := b) (by omega)
  rw [ha, iD_mapN] at s1
  rw [hb, iD_mapN] at s2
  have hz : zipD ((List.range (n + 1)).map fun k => PyData.int (sI a k)) ((List.range (n + 1)).map fun k => .int (sI b k)) = (List.range (n + 1)).map fun k => .tuple [.int (sI a k), .int (sI b k)] := by
    unfold zipD
    rw [List.zipWith_map, List.zipWith_self]
  have hc := cm_a2 (a := ce_law_leads_1) (i := 2) (j := 3) (e := [.val (.list (iD a)), .val (.list (iD b)), .no, .no]) (xs := List.range (n + 1)) (E1 := fun k => .int (sI a k)) (E2 := fun k => .int (sI b k)) (D := .bool) (F := fun k => decide (sI b k ≤ sI a k)) (by simp; omega) (by decide) rfl rfl rfl fun k hk => by
    simp [ce_law_leads_1]
  have hin : gNinL (.bool false) (.list (((List.range (n + 1)).map fun k => decide (sI b k ≤ sI a k)).map .bool)) = some (.bool (decide (∀ k, k ≤ n → gS (rR b) k ≤ gS (rR a) k))) := by
    rw [nin_false]
    congr 2
    rw [decide_eq_decide]
    constructor
    · intro h k hk
      rw [← sI_R, ← sI_R]
      exact Rat.intCast_le_intCast.mpr (of_decide_eq_true (h _ (List.mem_map.mpr ⟨k, List.mem_range.mpr (by omega), rfl⟩)))
    · intro h x hx
      obtain ⟨k, hk, rfl⟩ := List.mem_map.mp hx
      have := h k (by have := List.mem_range.mp hk; omega)
      rw [← sI_R, ← sI_R] at this
      exact decide_eq_true (Rat.intCast_le_intCast.mp this)
  have hZ : ∀ e, kZp ([.list ((List.range (n + 1)).map fun k => PyData.int (sI a k)), .list ((List.range (n + 1)).map fun k => .int (sI b k))], e) = some ((List.range (n + 1)).map fun k => .tuple [.int (sI a k), .int (sI b k)], e) := fun e => by
    show some (zipD _ _, e) = _
    rw [hz]
  unfold Ph_law_leads
  rw [run2]
  unfold dn_law_leads
  generalize PyData.list (iD a) = A at *
  generalize PyData.list (iD b) = B at *
  generalize (List.range (n + 1)).map (fun k => PyData.int (sI a k)) = SA at *
  generalize (List.range (n + 1)).map (fun k => PyData.int (sI b k)) = SB at *
  generalize ((List.range (n + 1)).map fun k => decide (sI b k ≤ sI a k)).map PyData.bool = W at *
  simp [-List.map_map, s1, s2, hZ, hc, hin]
end K64
set_option Elab.async false
set_option linter.all false
set_option maxRecDepth 100000
set_option maxHeartbeats 4000000
namespace K64
open PySem PySem.Spec PyProof.Rows L2 Dn
abbrev dL (Ls : List (List Int)) : PyData := .list (Ls.map fun ns => .list (iD ns))
structure LsOk (n : Nat) (T : Int) (Ls : List (List Int)) : Prop where
  ne : Ls ≠ []
  ok : ∀ ns ∈ Ls, NsOk n T ns
  len : Ls.length ≤ 1000
def loI (Ls : List (List Int)) (k : Nat) : Int := ((Ls.map fun ns => sI ns k).min?).getD 0
def hiI (Ls : List (List Int)) (k : Nat) : Int := maxI (Ls.map fun ns => sI ns k)
def loR (Ls : List (List Int)) (k : Nat) : Rat := (loI Ls k : Rat)
def hiR (Ls : List (List Int)) (k : Nat) : Rat := (hiI Ls k : Rat)
section
variable {n : Nat} {T : Int} {Ls : List (List Int)} {k : Nat}
theorem loI_some (h : Ls ≠ []) (k : Nat) : (Ls.map fun ns => sI ns k).min? = some (loI Ls k) := by
  unfold loI
  cases hm : (Ls.map fun ns => sI ns k).min? with
  | none =>
    rw [List.min?_eq_none_iff] at hm
    exact absurd (List.map_eq_nil_iff.mp hm) h
  | some m => rfl
theorem loI_le (h : Ls ≠ []) {ns : List Int} (hn : ns ∈ Ls) (k : Nat) : loI Ls k ≤ sI ns k := by
  have := (List.min?_eq_some_iff.mp (loI_some h k)).2
  exact this _ (List.mem_map.mpr ⟨ns, hn, rfl⟩)
theorem loI_at (h : Ls ≠ []) (k : Nat) : ∃ ns ∈ Ls, loI Ls k = sI ns k := by
  obtain ⟨ns, h1, h2⟩ := List.mem_map.mp (List.min?_eq_some_iff.mp (loI_some h k)).1
  exact ⟨ns, h1, h2.symm⟩
theorem hiI_ge {ns : List Int} (hn : ns ∈ Ls) (k : Nat) : sI ns k ≤ hiI Ls k := maxI_le _ _ (List.mem_map.mpr ⟨ns, hn, rfl⟩)
theorem hiI_at (h : Ls ≠ []) (k : Nat) : ∃ ns ∈ Ls, hiI Ls k = sI ns k := by
  obtain ⟨ns, h1, h2⟩ := List.mem_map.mp (maxI_mem (Ls.map fun ns => sI ns k) fun z => h (List.map_eq_nil_iff.mp z))
  exact ⟨ns, h1, h2.symm⟩
theorem loR_le (h : Ls ≠ []) {ns : List Int} (hn : ns ∈ Ls) (k : Nat) : loR Ls k ≤ gS (rR ns) k := by
  rw [← sI_R]; exact Rat.intCast_le_intCast.mpr (loI_le h hn k)
theorem loR_at (h : Ls ≠ []) (k : Nat) : ∃ ns ∈ Ls, loR Ls k = gS (rR ns) k := by
  obtain ⟨ns, h1, h2⟩ := loI_at h k
  exact ⟨ns, h1, by rw [← sI_R, ← h2]; rfl⟩
theorem hiR_ge {ns : List Int} (hn : ns ∈ Ls) (k : Nat) : gS (rR ns) k ≤ hiR Ls k := by
  rw [← sI_R]; exact Rat.intCast_le_intCast.mpr (hiI_ge hn k)
theorem hiR_at (h : Ls ≠ []) (k : Nat) : ∃ ns ∈ Ls, hiR Ls k = gS (rR ns) k := by
  obtain ⟨ns, h1, h2⟩ := hiI_at h k
  exact ⟨ns, h1, by rw [← sI_R, ← h2]; rfl⟩
theorem NsOk.rnn {ns : List Int} (h : NsOk n T ns) : ∀ x ∈ rR ns, 0 ≤ x := fun x hx => by
  obtain ⟨z, hz, rfl⟩ := List.mem_map.mp hx
  exact Rat.intCast_le_intCast.mpr (h.nn z hz)
theorem NsOk.top {ns : List Int} (h : NsOk n T ns) : gS (rR ns) n = (T : Rat) := by
  rw [gS_all (by rw [rR_len, h.len]; exact Nat.le_refl _), qs_rR, h.sum]
theorem loR_0 (h : Ls ≠ []) : loR Ls 0 = 0 := by
  obtain ⟨ns, _, e⟩ := loR_at h 0
  rw [e, gS_0]
theorem hiR_0 (h : Ls ≠ []) : hiR Ls 0 = 0 := by
  obtain ⟨ns, _, e⟩ := hiR_at h 0
  rw [e, gS_0]
theorem LsOk.lo_n (h : LsOk n T Ls) : loR Ls n = (T : Rat) := by
  obtain ⟨ns, hn, e⟩ := loR_at h.ne n
  rw [e, (h.ok ns hn).top]
theorem LsOk.hi_n (h : LsOk n T Ls) : hiR Ls n = (T : Rat) := by
  obtain ⟨ns, hn, e⟩ := hiR_at h.ne n
  rw [e, (h.ok ns hn).top]
theorem LsOk.lo_mono (h : LsOk n T Ls) {i j : Nat} (hij : i ≤ j) : loR Ls i ≤ loR Ls j := by
  obtain ⟨ns, hn, e⟩ := loR_at h.ne j
  rw [e]
  exact Rat.le_trans (loR_le h.ne hn i) (gS_mono (h.ok ns hn).rnn hij)
theorem LsOk.hi_mono (h : LsOk n T Ls) {i j : Nat} (hij : i ≤ j) : hiR Ls i ≤ hiR Ls j := by
  obtain ⟨ns, hn, e⟩ := hiR_at h.ne i
  rw [e]
  exact Rat.le_trans (gS_mono (h.ok ns hn).rnn hij) (hiR_ge hn j)
/-- the lowest -/
def loL (Ls : List (List Int)) (n : Nat) : List Int := (List.range n).map fun k => loI Ls (k + 1) - loI Ls k
theorem loL_R (Ls : List (List Int)) (n : Nat) : rR (loL Ls n) = stp (loR Ls) n := by
  unfold rR loL stp
  rw [List.map_map]
  refine List.map_congr_left fun k _ => ?_
  show (((loI Ls (k + 1) - loI Ls k : Int)) : Rat) = _
  rw [Rat.intCast_sub]
  rfl
theorem nsOk_of {ns : List Int} (hl : ns.length = n) (hn : ∀ x ∈ rR ns, 0 ≤ x) (hs : pS (rR ns) n = (T : Rat)) : NsOk n T ns := by
  refine ⟨hl, fun x hx => ?_, ?_⟩
  · exact Rat.intCast_le_intCast.mp (hn _ (List.mem_map.mpr ⟨x, hx, rfl⟩))
  · rw [pS_R, List.take_of_length_le (by omega)] at hs
    exact Rat.intCast_inj.mp hs
theorem LsOk.lo_ok (h : LsOk n T Ls) : NsOk n T (loL Ls n) := by
  refine nsOk_of (by simp [loL]) (fun x hx => ?_) ?_
  · rw [loL_R] at hx
    obtain ⟨k, hk, rfl⟩ := List.mem_map.mp hx
    have := h.lo_mono (Nat.le_succ k)
    grind
  · rw [loL_R, pS_stp (loR_0 h.ne) n (Nat.le_refl _), h.lo_n]
end
theorem ix_head {d : PyData} {ds : List PyData} : gIx (.list (d :: ds)) (.int 0) = some d := by
  have := atI_get (l := d :: ds) (i := 0) (by simp)
  exact this
section
variable {n : Nat} {T : Int} {Ls : List (List Int)}
theorem rows_eq (h : LsOk n T Ls) {e : En} {a : Fe} {i : Nat} {s : Sl} (hn : n ≤ 1000) (hs : e[i]? = some s) (ho : noOwn e [i] = true) (ha : ∀ ns : List Int, ns.length = n → a (e.set i (.val (.list (iD ns)))) = some (.list (iD ((List.range (n + 1)).map (sI ns))), e.set i (.val (.list (iD ns))))) :
    kCm (g1 i) tYs a [i] (Ls.map fun ns => .list (iD ns), e) = some (Ls.map fun ns => .list (iD ((List.range (n + 1)).map (sI ns))), e) := by
  have hc := cm_a (a := a) (i := i) (e := e) (xs := Ls) (E := fun ns => .list (iD ns)) (D := fun (f : List Int) => .list (iD f)) (F := fun ns => (List.range (n + 1)).map (sI ns)) (by have := h.len; omega) hs ho fun ns hm => ha ns (h.ok ns hm).len
  rw [hc, List.map_map]
  rfl
theorem v_law_lowest (h : LsOk n T Ls) (hn : n ≤ 1000) : Ph_law_lowest [dL Ls] = some (.list (iD (loL Ls n))) := by
  have hrow := rows_eq h (a := ce_law_lowest_1) (i := 2) (e := [.val (dL Ls), .no, .no, .no, .no]) hn rfl rfl fun ns hl => by
    have h1 := v_law_sums (ns := ns) (by omega)
    rw [hl] at h1
    generalize PyData.list (iD ns) = X at *
    simp [ce_law_lowest_1, h1]
  obtain ⟨L0, Lr, e⟩ : ∃ L0 Lr, Ls = L0 :: Lr := by
    cases hL : Ls with
    | nil => exact absurd hL h.ne
    | cons a b => exact ⟨a, b, rfl⟩
  have h0 : gIx (.list (Ls.map fun ns => .list (iD ((List.range (n + 1)).map (sI ns))))) (.int 0) = some (.list (iD ((List.range (n + 1)).map (sI L0)))) := by
    rw [e]
    exact ix_head
  have hlen : gLen [.list (iD ((List.range (n + 1)).map (sI L0)))] = some (.int ((n : Int) + 1)) := by
    show some (PyData.int (((iD ((List.range (n + 1)).map (sI L0))).length : Nat) : Int)) = _
    rw [iD_len, List.length_map, List.length_range]
    rfl
  have hr := fun e => @kR1_len (n + 1) e (by omega)
  have e1 : ((n + 1 : Nat) : Int) = (n : Int) + 1 := by omega
  rw [e1] at hr
  have hcol := cm_a (a := ce_law_lowest_3) (i := 3) (e := [.val (dL Ls), .val (.list (Ls.map fun ns => .list (iD ((List.range (n + 1)).map (sI ns))))), .no, .no, .no]) (xs := List.range (n + 1)) (E := fun (i : Nat) => .int (i : Int)) (D := .int) (F := loI Ls) (by simp; omega) rfl rfl fun k hk => by
    have hk' := List.mem_range.mp hk
    have hin := cm_a (a := ce_law_lowest_2) (i := 4) (e := [.val (dL Ls), .val (.list (Ls.map fun ns => .list (iD ((List.range (n + 1)).map (sI ns))))), .no, .val (.int (k : Int)), .no]) (xs := Ls) (E := fun ns => .list (iD ((List.range (n + 1)).map (sI ns)))) (D := .int) (F := fun ns => sI ns k) (by have := h.len; omega) rfl rfl fun ns hm => by
      have h1 := iD_atN (f := sI ns) (n := n + 1) (k := k) (by omega)
      generalize PyData.list (iD ((List.range (n + 1)).map (sI ns))) = X at *
      simp [-gIx, ce_law_lowest_2, h1]
    have hmin : gMinL [.list ((Ls.map fun ns => sI ns k).map .int)] = some (.int (loI Ls k)) := by
      show (intsOf _).bind _ = _
      rw [intsOf_map]
      show (Option.map PyData.int ((Ls.map fun ns => sI ns k).min?)) = _
      rw [loI_some h.ne]
      rfl
    have hi : items (.list (Ls.map fun ns => .list (iD ((List.range (n + 1)).map (sI ns))))) = some (Ls.map fun ns => .list (iD ((List.range (n + 1)).map (sI ns)))) := rfl
    generalize PyData.list (Ls.map fun ns => .list (iD ((List.range (n + 1)).map (sI ns)))) = X at *
    generalize (Ls.map fun ns => PyData.list (iD ((List.range (n + 1)).map (sI ns)))) = Y at *
    generalize (Ls.map fun ns => sI ns k).map PyData.int = W at *
    simp [-items, ce_law_lowest_3, hi, hin, hmin]
  have hst := v_law_steps (f := loI Ls) (n := n) hn
  rw [iD_mapN (loI Ls)] at hst
  rw [List.map_map] at hcol
  have hi : items (dL Ls) = some (Ls.map fun ns => .list (iD ns)) := rfl
  unfold Ph_law_lowest
  rw [run1]
  unfold dn_law_lowest
  have hst : Ph_law_steps [.list ((List.range (n + 1)).map (PyData.int ∘ loI Ls))] = some (.list (iD (loL Ls n))) := hst
  generalize PyData.list (iD ((List.range (n + 1)).map (sI L0))) = X0 at *
  generalize (Ls.map fun ns => PyData.list (iD ((List.range (n + 1)).map (sI ns)))) = SS at *
  generalize (List.range (n + 1)).map (PyData.int ∘ loI Ls) = WC at *
  generalize (List.range (n + 1)).map (fun (i : Nat) => PyData.int (i : Int)) = WW at *
  generalize PyData.list (iD (loL Ls n)) = ZZ at *
  have hd : dL Ls = .list (Ls.map fun ns => .list (iD ns)) := rfl
  generalize dL Ls = DD at *
  generalize (Ls.map fun ns => PyData.list (iD ns)) = RR at *
  clear hd
  simp [-gIx, -gLen, -items, hi, hrow, h0, hlen, hr, hcol, hst]
end
end K64
set_option Elab.async false
set_option linter.all false
set_option maxRecDepth 100000
set_option maxHeartbeats 4000000
namespace K64
open PySem PySem.Spec PyProof.Rows L2 Dn
theorem fdiv420 {d : Nat} (h1 : 1 ≤ d) (h7 : d ≤ 7) (V : Int) : ((V * 420).fdiv (d : Int)) * (d : Int) = V * 420 := by
  have key : ∀ c : Int, ∀ e : Int, e ≠ 0 → e * c = 420 → ((V * 420).fdiv e) * e = V * 420 := fun c e he hc => by
    have : V * 420 = (V * c) * e := by rw [Int.mul_assoc, Int.mul_comm c e, hc]
    rw [this, Int.mul_fdiv_cancel _ he]
  rcases (show d = 1 ∨ d = 2 ∨ d = 3 ∨ d = 4 ∨ d = 5 ∨ d = 6 ∨ d = 7 by omega) with e | e | e | e | e | e | e <;> subst e
  · exact key 420 1 (by decide) (by decide)
  · exact key 210 2 (by decide) (by decide)
  · exact key 140 3 (by decide) (by decide)
  · exact key 105 4 (by decide) (by decide)
  · exact key 84 5 (by decide) (by decide)
  · exact key 70 6 (by decide) (by decide)
  · exact key 60 7 (by decide) (by decide)
theorem hi_turn {A R X : PyData} {hs : List PyData} {k B lo hi tl th m : Int} {s8 s9 s10 : Sl} (i1 : gIx X (.int lo) = some (.int tl)) (i2 : gIx X (.int hi) = some (.int th)) (m1 : mulOk tl (hi - k) = true) (m2 : mulOk th (k - lo) = true) (m3 : mulOk (tl * (hi - k) + th * (k - lo)) 420 = true) (d0 : ¬ hi - lo = 0) (d1 : divOk (hi - lo) = true)
    (hm : gMax2 [.int B, .int (((tl * (hi - k) + th * (k - lo)) * 420).fdiv (hi - lo))] = some (.int m)) : lp_law_highest_1 [.val A, .val R, .val X, .own false hs, .val (.int k), .val (.int B), .val (.int lo), .val (.int hi), s8, s9, s10] = some (.nx, [.val A, .val R, .val X, .own false hs, .val (.int k), .val (.int m), .val (.int lo), .val (.int hi), .val (.int (tl * (hi - k) + th * (k - lo))), s9, s10]) := by
  simp [-gIx, -gMax2, lp_law_highest_1, i1, i2, m1, m2, m3, d0, d1, hm]
/-- how good a number is at a place -/
def Bst (f P : Nat → Rat) (k : Nat) (B : Int) : Prop := 420 * f k ≤ (B : Rat) ∧ (B : Rat) ≤ 420 * P k
def Cho (f : Nat → Rat) (k lo hi : Nat) (B : Int) : Prop := 420 * (f lo * ((hi - k : Nat) : Rat) + f hi * ((k - lo : Nat) : Rat)) ≤ (B : Rat) * ((hi - lo : Nat) : Rat)
theorem Cho.up {f : Nat → Rat} {k lo hi : Nat} {B B' : Int} (h : Cho f k lo hi B) (hb : B ≤ B') : Cho f k lo hi B' := by
  have := Rat.mul_le_mul_of_nonneg_right (Rat.intCast_le_intCast.mpr hb) (show (0 : Rat) ≤ ((hi - lo : Nat) : Rat) from Rat.natCast_le_natCast.mpr (Nat.zero_le _))
  exact Rat.le_trans h this
section
variable {n : Nat} {T : Int} {Ls : List (List Int)} {D : List Rat}
theorem castS {a b : Nat} (h : b ≤ a) : (((a : Int) - (b : Int) : Int) : Rat) = ((a - b : Nat) : Rat) := by
  have : (a : Int) - (b : Int) = ((a - b : Nat) : Int) := by omega
  rw [this]
  rfl
/-- one turn, its number -/
theorem turn_good (hD : Hull n (hiR Ls) D) {k lo hi : Nat} (h1 : lo < k) (h2 : k < hi) (h3 : hi ≤ n) (hn : n ≤ 7) {B m : Int} (hB : Bst (hiR Ls) (pS D) k B)
    (hm : (m = B ∨ m = ((hiI Ls lo * ((hi : Int) - k) + hiI Ls hi * ((k : Int) - lo)) * 420).fdiv ((hi : Int) - lo)) ∧ B ≤ m ∧ ((hiI Ls lo * ((hi : Int) - k) + hiI Ls hi * ((k : Int) - lo)) * 420).fdiv ((hi : Int) - lo) ≤ m) :
    Bst (hiR Ls) (pS D) k m ∧ Cho (hiR Ls) k lo hi m := by
  have q := fdiv420 (d := hi - lo) (by omega) (by omega) (hiI Ls lo * ((hi : Int) - k) + hiI Ls hi * ((k : Int) - lo))
  have ed : ((hi - lo : Nat) : Int) = (hi : Int) - lo := by omega
  rw [ed] at q
  obtain ⟨hm1, hm2, hm3⟩ := hm
  generalize ((hiI Ls lo * ((hi : Int) - k) + hiI Ls hi * ((k : Int) - lo)) * 420).fdiv ((hi : Int) - lo) = z at *
  have qR : ((z : Int) : Rat) * ((hi - lo : Nat) : Rat) = 420 * (hiR Ls lo * ((hi - k : Nat) : Rat) + hiR Ls hi * ((k - lo : Nat) : Rat)) := by
    have := congrArg (fun x : Int => (x : Rat)) q
    simp only [Rat.intCast_mul, Rat.intCast_add] at this
    rw [castS (show lo ≤ hi by omega), castS (show k ≤ hi by omega), castS (show lo ≤ k by omega)] at this
    have e420 : ((420 : Int) : Rat) = 420 := rfl
    rw [e420] at this
    show (z : Rat) * _ = 420 * ((hiI Ls lo : Rat) * _ + (hiI Ls hi : Rat) * _)
    rw [this]
    grind
  have w0 := nat_posR (show 0 < hi - lo by omega)
  have c1 : Cho (hiR Ls) k lo hi z := by
    unfold Cho
    rw [qR]
    exact Rat.le_refl
  refine ⟨⟨Rat.le_trans hB.1 (Rat.intCast_le_intCast.mpr hm2), ?_⟩, c1.up hm3⟩
  rcases hm1 with e | e
  · rw [e]; exact hB.2
  · rw [e]
    have b := pS_bend hD.dsc (lo := lo) (k := k) (hi := hi) (by omega) h2 (by rw [hD.len]; omega)
    have u0 : (0 : Rat) ≤ ((k - lo : Nat) : Rat) := Rat.natCast_le_natCast.mpr (Nat.zero_le _)
    have v0 : (0 : Rat) ≤ ((hi - k : Nat) : Rat) := Rat.natCast_le_natCast.mpr (Nat.zero_le _)
    have g1 := Rat.mul_le_mul_of_nonneg_right (hD.up lo (by omega)) v0
    have g2 := Rat.mul_le_mul_of_nonneg_right (hD.up hi (by omega)) u0
    generalize ((k - lo : Nat) : Rat) = u at *
    generalize ((hi - k : Nat) : Rat) = v at *
    generalize ((hi - lo : Nat) : Rat) = w at *
    refine Rat.not_lt.mp fun z => ?_
    have := Rat.mul_lt_mul_of_pos_right z w0
    grind
/-- at the end it is the line -/
theorem best_end (hD : Hull n (hiR Ls) D) {k : Nat} (hk : k ≤ n) {B : Int} (hB : Bst (hiR Ls) (pS D) k B) (hc : ∀ lo, lo < k → ∀ hi, k < hi → hi ≤ n → Cho (hiR Ls) k lo hi B) : (B : Rat) = 420 * pS D k := by
  refine Rat.le_antisymm hB.2 ?_
  rcases hD.att k hk with e | ⟨lo, hi, h1, h2, h3, e⟩
  · rw [e]; exact hB.1
  · have c := hc lo h1 hi h2 h3
    unfold Cho at c
    rw [← e] at c
    have w0 := nat_posR (show 0 < hi - lo by omega)
    generalize ((hi - lo : Nat) : Rat) = w at *
    refine Rat.not_lt.mp fun z => ?_
    have := Rat.mul_lt_mul_of_pos_right z w0
    grind
end
end K64
set_option Elab.async false
set_option linter.all false
set_option maxRecDepth 100000
set_option maxHeartbeats 4000000
namespace K64
open PySem PySem.Spec PyProof.Rows L2 Dn
section
variable {n : Nat} {T : Int} {Ls : List (List Int)} {D : List Rat}
theorem LsOk.hiI_bd (h : LsOk n T Ls) {k : Nat} (hk : k ≤ n) : 0 ≤ hiI Ls k ∧ hiI Ls k ≤ T := by
  have a := h.hi_mono (Nat.zero_le k)
  have b := h.hi_mono hk
  rw [hiR_0 h.ne] at a
  rw [h.hi_n] at b
  exact ⟨Rat.intCast_le_intCast.mp a, Rat.intCast_le_intCast.mp b⟩
theorem sm_lt {z : Int} (h0 : -(2 ^ 100) ≤ z) (h1 : z ≤ 2 ^ 100) : z.natAbs < 2 ^ 60000 := lt_pow (a := 101) (by
  have b1 : (2 : Int) ^ 100 = 1267650600228229401496703205376 := by decide
  have b2 : (2 : Nat) ^ 101 = 2535301200456458802993406410752 := by decide
  omega) (by decide)
/-- the turns of the inner loop -/
theorem hi_inner (h : LsOk n T Ls) (hT : T < 2 ^ 90) (hn : n ≤ 7) (hD : Hull n (hiR Ls) D) {A R : PyData} {hs : List PyData} {k lo : Nat} (hlo : lo < k) (hk : k ≤ n) {B : Int} {s7 s8 s9 s10 : Sl} (hB : Bst (hiR Ls) (pS D) k B) (hc : ∀ l, l < lo → ∀ r, k < r → r ≤ n → Cho (hiR Ls) k l r B) :
    ∃ B' s7' s8', lp_law_highest_2 [.val A, .val R, .val (.list (iD ((List.range (n + 1)).map (hiI Ls)))), .own false hs, .val (.int (k : Int)), .val (.int B), .val (.int (lo : Int)), s7, s8, s9, s10] = some (.nx, [.val A, .val R, .val (.list (iD ((List.range (n + 1)).map (hiI Ls)))), .own false hs, .val (.int (k : Int)), .val (.int B'), .val (.int (lo : Int)), s7', s8', s9, s10]) ∧ Bst (hiR Ls) (pS D) k B' ∧ ∀ l, l < lo + 1 → ∀ r, k < r → r ≤ n → Cho (hiR Ls) k l r B' := by
  have b90 : (2 : Int) ^ 90 = 1237940039285380274899124224 := by decide
  have b100 : (2 : Int) ^ 100 = 1267650600228229401496703205376 := by decide
  have hlp := for_ix (tg := g1 7) (f := lp_law_highest_1) (E := fun i => .int ((k + 1 + i : Nat) : Int)) (n := n + 1 - (k + 1))
    (S := fun j e => ∃ B s7 s8, e = [.val A, .val R, .val (.list (iD ((List.range (n + 1)).map (hiI Ls)))), .own false hs, .val (.int (k : Int)), .val (.int B), .val (.int (lo : Int)), s7, s8, s9, s10] ∧ Bst (hiR Ls) (pS D) k B ∧ (∀ l, l < lo → ∀ r, k < r → r ≤ n → Cho (hiR Ls) k l r B) ∧ ∀ r, k < r → r < k + 1 + j → Cho (hiR Ls) k lo r B)
    (e := [.val A, .val R, .val (.list (iD ((List.range (n + 1)).map (hiI Ls)))), .own false hs, .val (.int (k : Int)), .val (.int B), .val (.int (lo : Int)), s7, s8, s9, s10]) ⟨B, s7, s8, rfl, hB, hc, fun r a b => by omega⟩ fun j hj e ⟨B, s7, s8, he, hB, hc, hr⟩ => by
      subst he
      have i1 := iD_atN (f := hiI Ls) (n := n + 1) (k := lo) (by omega)
      have i2 := iD_atN (f := hiI Ls) (n := n + 1) (k := k + 1 + j) (by omega)
      have t1 := h.hiI_bd (k := lo) (by omega)
      have t2 := h.hiI_bd (k := k + 1 + j) (by omega)
      obtain ⟨m, hm, m1, m2, m3⟩ := max2_int B (((hiI Ls lo * (((k + 1 + j : Nat) : Int) - (k : Int)) + hiI Ls (k + 1 + j) * ((k : Int) - (lo : Int))) * 420).fdiv (((k + 1 + j : Nat) : Int) - (lo : Int)))
      obtain ⟨g1, g2⟩ := turn_good hD (lo := lo) (k := k) (hi := k + 1 + j) hlo (by omega) (by omega) hn hB ⟨m3, m1, m2⟩
      have u1 : hiI Ls lo * (((k + 1 + j : Nat) : Int) - (k : Int)) ≤ 7 * T ∧ 0 ≤ hiI Ls lo * (((k + 1 + j : Nat) : Int) - (k : Int)) := by
        have a : ((k + 1 + j : Nat) : Int) - (k : Int) ≤ 7 := by omega
        have a0 : 0 ≤ ((k + 1 + j : Nat) : Int) - (k : Int) := by omega
        have := Int.mul_le_mul t1.2 a a0 (by omega)
        exact ⟨by omega, Int.mul_nonneg t1.1 a0⟩
      have u2 : hiI Ls (k + 1 + j) * ((k : Int) - (lo : Int)) ≤ 7 * T ∧ 0 ≤ hiI Ls (k + 1 + j) * ((k : Int) - (lo : Int)) := by
        have a : (k : Int) - (lo : Int) ≤ 7 := by omega
        have a0 : 0 ≤ (k : Int) - (lo : Int) := by omega
        have := Int.mul_le_mul t2.2 a a0 (by omega)
        exact ⟨by omega, Int.mul_nonneg t2.1 a0⟩
      have tn := hi_turn (A := A) (R := R) (hs := hs) (k := (k : Int)) (s8 := s8) (s9 := s9) (s10 := s10) i1 i2 (mulOk_lt (sm_lt (by omega) (by omega)) (sm_lt (by omega) (by omega))) (mulOk_lt (sm_lt (by omega) (by omega)) (sm_lt (by omega) (by omega))) (mulOk_lt (sm_lt (by omega) (by omega)) (sm_lt (by decide) (by decide))) (by omega) (divOk_lt (by omega) (lt_pow (a := 4) (by show _ < 16; omega) (by decide))) hm
      exact ⟨_, _, .nx, rfl, tn, .inl rfl, ⟨m, _, _, rfl, g1, fun l a r b c => (hc l a r b c).up m1, fun r a b => by
        by_cases e : r = k + 1 + j
        · rw [e]; exact g2
        · exact (hr r a (by omega)).up m1⟩⟩
  obtain ⟨e', l1, B', s7', s8', rfl, hB', hc', hr'⟩ := hlp
  have hlen : gLen [.list (iD ((List.range (n + 1)).map (hiI Ls)))] = some (.int ((n + 1 : Nat) : Int)) := by
    show some (PyData.int (((iD ((List.range (n + 1)).map (hiI Ls))).length : Nat) : Int)) = _
    rw [iD_len, List.length_map, List.length_range]
  have hr2 := fun e => @kR2_len (k + 1) (n + 1) e (by omega) (by omega)
  have e1 : ((k + 1 : Nat) : Int) = (k : Int) + 1 := by omega
  rw [e1] at hr2
  refine ⟨B', s7', s8', ?_, hB', fun l a r b c => ?_⟩
  · generalize PyData.list (iD ((List.range (n + 1)).map (hiI Ls))) = X at *
    generalize (List.range (n + 1 - (k + 1))).map (fun (i : Nat) => PyData.int ((k + 1 + i : Nat) : Int)) = W at *
    generalize ((n + 1 : Nat) : Int) = N at *
    simp [-gLen, lp_law_highest_2, hlen, hr2, l1]
  · by_cases e : l = lo
    · rw [e]; exact hr' r b (by omega)
    · exact hc' l (by omega) r b c
/-- one place -/
theorem hi_place (h : LsOk n T Ls) (hT : T < 2 ^ 90) (hn : n ≤ 7) (hD : Hull n (hiR Ls) D) {A R : PyData} {hs : List PyData} (hl : hs.length ≤ 100) {k : Nat} (hk : k ≤ n) {s5 s6 s7 s8 s9 s10 : Sl} :
    ∃ s5' s6' s7' s8', lp_law_highest_3 [.val A, .val R, .val (.list (iD ((List.range (n + 1)).map (hiI Ls)))), .own false hs, .val (.int (k : Int)), s5, s6, s7, s8, s9, s10] = some (.nx, [.val A, .val R, .val (.list (iD ((List.range (n + 1)).map (hiI Ls)))), .own false (hs ++ [.int (420 * pS D k).num]), .val (.int (k : Int)), s5', s6', s7', s8', s9, s10]) ∧ (((420 * pS D k).num : Int) : Rat) = 420 * pS D k := by
  have b90 : (2 : Int) ^ 90 = 1237940039285380274899124224 := by decide
  have b100 : (2 : Int) ^ 100 = 1267650600228229401496703205376 := by decide
  have t1 := h.hiI_bd hk
  have i1 := iD_atN (f := hiI Ls) (n := n + 1) (k := k) (by omega)
  have m1 : mulOk 420 (hiI Ls k) = true := mulOk_lt (sm_lt (by decide) (by decide)) (sm_lt (by omega) (by omega))
  have hB0 : Bst (hiR Ls) (pS D) k (420 * hiI Ls k) := by
    have e : ((420 * hiI Ls k : Int) : Rat) = 420 * hiR Ls k := by
      rw [Rat.intCast_mul]
      rfl
    unfold Bst
    rw [e]
    exact ⟨Rat.le_refl, Rat.mul_le_mul_of_nonneg_left (hD.up k hk) (by decide +kernel)⟩
  have hlp := for_ix (tg := g1 6) (f := lp_law_highest_2) (E := fun i => .int (i : Int)) (n := k)
    (S := fun j e => ∃ B s6 s7 s8, e = [.val A, .val R, .val (.list (iD ((List.range (n + 1)).map (hiI Ls)))), .own false hs, .val (.int (k : Int)), .val (.int B), s6, s7, s8, s9, s10] ∧ Bst (hiR Ls) (pS D) k B ∧ ∀ l, l < j → ∀ r, k < r → r ≤ n → Cho (hiR Ls) k l r B)
    (e := [.val A, .val R, .val (.list (iD ((List.range (n + 1)).map (hiI Ls)))), .own false hs, .val (.int (k : Int)), .val (.int (420 * hiI Ls k)), s6, s7, s8, s9, s10]) ⟨_, s6, s7, s8, rfl, hB0, fun l a => by omega⟩ fun j hj e ⟨B, s6, s7, s8, he, hB, hc⟩ => by
      subst he
      obtain ⟨B', s7', s8', q1, q2, q3⟩ := hi_inner h hT hn hD (A := A) (R := R) (hs := hs) (k := k) (lo := j) (s7 := s7) (s8 := s8) (s9 := s9) (s10 := s10) hj hk hB hc
      exact ⟨_, _, .nx, rfl, q1, .inl rfl, ⟨B', _, _, _, rfl, q2, q3⟩⟩
  obtain ⟨e', l1, B, s6', s7', s8', rfl, hB, hc⟩ := hlp
  have eB := best_end hD hk hB hc
  have eN : (420 * pS D k).num = B := by rw [← eB, Rat.num_intCast]
  have hr := fun e => @kR1_len k e (by omega)
  have ap := fun e => kApp2_ok (i := 3) (d := .int B) (e := e) (p := false) (ds := hs) (by omega)
  rw [eN]
  refine ⟨.val (.int B), s6', s7', s8', ?_, eB⟩
  generalize PyData.list (iD ((List.range (n + 1)).map (hiI Ls))) = X at *
  generalize (List.range k).map (fun (i : Nat) => PyData.int (i : Int)) = W at *
  simp [-gIx, lp_law_highest_3, i1, m1, hr, l1, ap]
end
end K64
set_option Elab.async false
set_option linter.all false
set_option maxRecDepth 100000
set_option maxHeartbeats 4000000
namespace K64
open PySem PySem.Spec PyProof.Rows L2 Dn
def hiL (D : List Rat) (n : Nat) : List Int := (List.range n).map fun k => (420 * pS D (k + 1)).num - (420 * pS D k).num
theorem hiL_R {D : List Rat} {n : Nat} (hl : D.length = n) (h : ∀ k, k ≤ n → (((420 * pS D k).num : Int) : Rat) = 420 * pS D k) : rR (hiL D n) = D.map fun x => 420 * x := by
  have e : D = stp (pS D) n := by rw [← hl]; exact (stp_pS D).symm
  conv => rhs; rw [e]
  rw [stp_scale]
  unfold rR hiL stp
  rw [List.map_map]
  refine List.map_congr_left fun k hk => ?_
  have hk' := List.mem_range.mp hk
  show ((((420 * pS D (k + 1)).num - (420 * pS D k).num : Int)) : Rat) = _
  rw [Rat.intCast_sub, h (k + 1) (by omega), h k (by omega)]
section
variable {n : Nat} {T : Int} {Ls : List (List Int)} {D : List Rat}
theorem v_law_highest (h : LsOk n T Ls) (hT : T < 2 ^ 90) (hn : n ≤ 7) (hD : Hull n (hiR Ls) D) : Ph_law_highest [dL Ls] = some (.list (iD (hiL D n))) ∧ rR (hiL D n) = D.map fun x => 420 * x := by
  have hrow := rows_eq h (a := ce_law_highest_1) (i := 9) (e := [.val (dL Ls), .no, .no, .no, .no, .no, .no, .no, .no, .no, .no]) (by omega) rfl rfl fun ns hl => by
    have h1 := v_law_sums (ns := ns) (by omega)
    rw [hl] at h1
    generalize PyData.list (iD ns) = X at *
    simp [ce_law_highest_1, h1]
  obtain ⟨L0, Lr, e⟩ : ∃ L0 Lr, Ls = L0 :: Lr := by
    cases hL : Ls with
    | nil => exact absurd hL h.ne
    | cons a b => exact ⟨a, b, rfl⟩
  have h0 : gIx (.list (Ls.map fun ns => .list (iD ((List.range (n + 1)).map (sI ns))))) (.int 0) = some (.list (iD ((List.range (n + 1)).map (sI L0)))) := by
    rw [e]
    exact ix_head
  have hlen : gLen [.list (iD ((List.range (n + 1)).map (sI L0)))] = some (.int ((n + 1 : Nat) : Int)) := by
    show some (PyData.int (((iD ((List.range (n + 1)).map (sI L0))).length : Nat) : Int)) = _
    rw [iD_len, List.length_map, List.length_range]
  have hr := fun e => @kR1_len (n + 1) e (by omega)
  have hcol := cm_a (a := ce_law_highest_3) (i := 4) (e := [.val (dL Ls), .val (.list (Ls.map fun ns => .list (iD ((List.range (n + 1)).map (sI ns))))), .no, .no, .no, .no, .no, .no, .no, .no, .no]) (xs := List.range (n + 1)) (E := fun (i : Nat) => .int (i : Int)) (D := .int) (F := hiI Ls) (by simp; omega) rfl rfl fun k hk => by
    have hk' := List.mem_range.mp hk
    have hin := cm_a (a := ce_law_highest_2) (i := 10) (e := [.val (dL Ls), .val (.list (Ls.map fun ns => .list (iD ((List.range (n + 1)).map (sI ns))))), .no, .no, .val (.int (k : Int)), .no, .no, .no, .no, .no, .no]) (xs := Ls) (E := fun ns => .list (iD ((List.range (n + 1)).map (sI ns)))) (D := .int) (F := fun ns => sI ns k) (by have := h.len; omega) rfl rfl fun ns hm => by
      have h1 := iD_atN (f := sI ns) (n := n + 1) (k := k) (by omega)
      generalize PyData.list (iD ((List.range (n + 1)).map (sI ns))) = X at *
      simp [-gIx, ce_law_highest_2, h1]
    have hmax : gMaxL [.list ((Ls.map fun ns => sI ns k).map .int)] = some (.int (hiI Ls k)) := by
      show (intsOf _).bind _ = _
      rw [intsOf_map]
      show (if (Ls.map fun ns => sI ns k).isEmpty then none else _) = _
      rw [e]
      rfl
    have hi : items (.list (Ls.map fun ns => .list (iD ((List.range (n + 1)).map (sI ns))))) = some (Ls.map fun ns => .list (iD ((List.range (n + 1)).map (sI ns)))) := rfl
    generalize PyData.list (Ls.map fun ns => .list (iD ((List.range (n + 1)).map (sI ns)))) = X at *
    generalize (Ls.map fun ns => PyData.list (iD ((List.range (n + 1)).map (sI ns)))) = Y at *
    generalize (Ls.map fun ns => sI ns k).map PyData.int = W at *
    simp [-items, ce_law_highest_3, hi, hin, hmax]
  have hlen2 : gLen [.list (iD ((List.range (n + 1)).map (hiI Ls)))] = some (.int ((n + 1 : Nat) : Int)) := by
    show some (PyData.int (((iD ((List.range (n + 1)).map (hiI Ls))).length : Nat) : Int)) = _
    rw [iD_len, List.length_map, List.length_range]
  have hlp := for_ix (tg := g1 4) (f := lp_law_highest_3) (E := fun i => .int (i : Int)) (n := n + 1)
    (S := fun j e => ∃ s4 s5 s6 s7 s8, e = [.val (dL Ls), .val (.list (Ls.map fun ns => .list (iD ((List.range (n + 1)).map (sI ns))))), .val (.list (iD ((List.range (n + 1)).map (hiI Ls)))), .own false (iD ((List.range j).map fun k => (420 * pS D k).num)), s4, s5, s6, s7, s8, .no, .no])
    (e := [.val (dL Ls), .val (.list (Ls.map fun ns => .list (iD ((List.range (n + 1)).map (sI ns))))), .val (.list (iD ((List.range (n + 1)).map (hiI Ls)))), .own false [], .no, .no, .no, .no, .no, .no, .no]) ⟨_, _, _, _, _, rfl⟩ fun j hj e ⟨s4, s5, s6, s7, s8, he⟩ => by
      subst he
      obtain ⟨s5', s6', s7', s8', q, _⟩ := hi_place h hT hn hD (A := dL Ls) (R := .list (Ls.map fun ns => .list (iD ((List.range (n + 1)).map (sI ns))))) (hs := iD ((List.range j).map fun k => (420 * pS D k).num)) (by simp; omega) (k := j) (by omega) (s5 := s5) (s6 := s6) (s7 := s7) (s8 := s8) (s9 := .no) (s10 := .no)
      rw [iD_app] at q
      refine ⟨_, _, .nx, rfl, q, .inl rfl, ⟨.val (.int (j : Int)), s5', s6', s7', s8', ?_⟩⟩
      have ej : ((List.range j).map fun k => (420 * pS D k).num) ++ [(420 * pS D j).num] = (List.range (j + 1)).map fun k => (420 * pS D k).num := by
        rw [List.range_succ (n := j), List.map_append]
        rfl
      rw [ej]
  obtain ⟨e', l1, s4, s5, s6, s7, s8, rfl⟩ := hlp
  have hst := v_law_steps (f := fun k => (420 * pS D k).num) (n := n) (by omega)
  refine ⟨?_, hiL_R hD.len fun k hk => ?_⟩
  · have hi : items (dL Ls) = some (Ls.map fun ns => .list (iD ns)) := rfl
    have hst : Ph_law_steps [.list (iD ((List.range (n + 1)).map fun k => (420 * pS D k).num))] = some (.list (iD (hiL D n))) := hst
    have hcol : kCm (g1 4) tYs ce_law_highest_3 [4] ((List.range (n + 1)).map (fun (i : Nat) => PyData.int (i : Int)), [.val (dL Ls), .val (.list (Ls.map fun ns => .list (iD ((List.range (n + 1)).map (sI ns))))), .no, .no, .no, .no, .no, .no, .no, .no, .no]) = some (iD ((List.range (n + 1)).map (hiI Ls)), [.val (dL Ls), .val (.list (Ls.map fun ns => .list (iD ((List.range (n + 1)).map (sI ns))))), .no, .no, .no, .no, .no, .no, .no, .no, .no]) := hcol
    generalize PyData.list (iD ((List.range (n + 1)).map (sI L0))) = X0 at *
    generalize (Ls.map fun ns => PyData.list (iD ((List.range (n + 1)).map (sI ns)))) = SS at *
    generalize iD ((List.range (n + 1)).map fun k => (420 * pS D k).num) = HH at *
    generalize iD ((List.range (n + 1)).map (hiI Ls)) = WC at *
    generalize (List.range (n + 1)).map (fun (i : Nat) => PyData.int (i : Int)) = WW at *
    generalize PyData.list (iD (hiL D n)) = ZZ at *
    have hd : dL Ls = .list (Ls.map fun ns => .list (iD ns)) := rfl
    generalize dL Ls = DD at *
    generalize (Ls.map fun ns => PyData.list (iD ns)) = RR at *
    clear hd
    generalize ((n + 1 : Nat) : Int) = N at *
    unfold Ph_law_highest
    rw [run1]
    unfold dn_law_highest
    simp [-gIx, -gLen, -items, hi, hrow, h0, hlen, hr, hcol, hlen2, l1, hst]
  · obtain ⟨_, _, _, _, _, q⟩ := hi_place h hT hn hD (A := dL Ls) (R := dL Ls) (hs := []) (by simp) (k := k) hk (s5 := .no) (s6 := .no) (s7 := .no) (s8 := .no) (s9 := .no) (s10 := .no)
    exact q
end
end K64
set_option Elab.async false
set_option linter.all false
set_option maxRecDepth 100000
set_option maxHeartbeats 4000000
namespace K64
open PySem PySem.Spec PyProof.Rows L2 Dn
/-- amounts that may be reckoned with -/
structure QOk (n D : Nat) (T : Rat) (q : List Rat) : Prop where
  len : q.length = n
  nn : ∀ x ∈ q, 0 ≤ x
  pt : ∀ x ∈ q, Pt D x
  sum : qs q = T
theorem qs_nn : ∀ {l : List Rat}, (∀ x ∈ l, 0 ≤ x) → 0 ≤ qs l
  | [], _ => Rat.le_refl
  | x :: l, h => by
    rw [qs_cons]
    have := qs_nn (l := l) fun y hy => h y (List.mem_cons_of_mem _ hy)
    have := h x List.mem_cons_self
    grind
theorem le_qs : ∀ {l : List Rat}, (∀ x ∈ l, 0 ≤ x) → ∀ x ∈ l, x ≤ qs l
  | [], _, x, hx => nomatch hx
  | y :: l, h, x, hx => by
    rw [qs_cons]
    have h1 := h y List.mem_cons_self
    have h2 := qs_nn (l := l) fun z hz => h z (List.mem_cons_of_mem _ hz)
    rcases List.mem_cons.mp hx with rfl | hx
    · grind
    · have := le_qs (l := l) (fun z hz => h z (List.mem_cons_of_mem _ hz)) x hx
      grind
theorem v_need_amounts {q : List Rat} (h1 : 1 ≤ q.length) (h7 : q.length ≤ 7) (h0 : ∀ x ∈ q, 0 ≤ x) : Ph_need_amounts [eL q] = some .none := by
  have hlp := for_at0 (tg := g1 1) (f := lp_need_amounts_1) (E := encQ) (xs := q) (S := fun _ e => ∃ s, e = [.val (eL q), s]) (e := [.val (eL q), .no]) ⟨_, rfl⟩ fun i x hi e ⟨s, he⟩ => by
    subst he
    have ha := v_is_amount (h0 x (List.mem_of_getElem? hi))
    refine ⟨_, [.val (eL q), .val (encQ x)], .nx, rfl, ?_, .inl rfl, ⟨_, rfl⟩⟩
    generalize eL q = X at *
    simp [lp_need_amounts_1, ha]
  obtain ⟨e', l1, s, rfl⟩ := hlp
  have hlen : gLen [eL q] = some (.int (q.length : Int)) := by simp
  have hi : items (eL q) = some (q.map encQ) := rfl
  have ht : isT "tuple" (eL q) = true := rfl
  have hk : tyOk (eL q) = true := rfl
  have c1 : (1 : Int) ≤ (q.length : Int) := by omega
  have c7 : (q.length : Int) ≤ 7 := by omega
  generalize eL q = X at *
  generalize q.map encQ = W at *
  unfold Ph_need_amounts
  rw [run1]
  unfold dn_need_amounts
  simp [-gLen, -isT, -tyOk, -items, ht, hk, hlen, c1, c7, hi, l1]
theorem v_need_both {q r : List Rat} {n : Nat} (hq : q.length = n) (hr : r.length = n) (h1 : 1 ≤ n) (h7 : n ≤ 7) (q0 : ∀ x ∈ q, 0 ≤ x) (r0 : ∀ x ∈ r, 0 ≤ x) : Ph_need_both [eL q, eL r] = some .none := by
  have a := v_need_amounts (q := q) (by omega) (by omega) q0
  have b := v_need_amounts (q := r) (by omega) (by omega) r0
  have l1 : gLen [eL q] = some (.int (n : Int)) := by simp [hq]
  have l2 : gLen [eL r] = some (.int (n : Int)) := by simp [hr]
  generalize eL q = X at *
  generalize eL r = Y at *
  unfold Ph_need_both
  rw [run2]
  unfold dn_need_both
  simp [-gLen, a, b, l1, l2]
def lcmD : Nat → List Rat → Nat
  | l, [] => l
  | l, x :: q => lcmD (Nat.lcm l x.den) q
theorem lcmD_dvd : ∀ {q : List Rat} {l D : Nat}, l ∣ D → (∀ x ∈ q, x.den ∣ D) → lcmD l q ∣ D
  | [], _, _, h, _ => h
  | x :: q, l, D, h, hq => lcmD_dvd (q := q) (Nat.lcm_dvd h (hq x List.mem_cons_self)) fun y hy => hq y (List.mem_cons_of_mem _ hy)
theorem dvd_lcmD : ∀ {q : List Rat} {l : Nat}, l ∣ lcmD l q ∧ ∀ x ∈ q, x.den ∣ lcmD l q
  | [], _ => ⟨Nat.dvd_refl _, fun x hx => nomatch hx⟩
  | x :: q, l => by
    obtain ⟨a, b⟩ := dvd_lcmD (q := q) (l := Nat.lcm l x.den)
    refine ⟨Nat.dvd_trans (Nat.dvd_lcm_left _ _) a, fun y hy => ?_⟩
    rcases List.mem_cons.mp hy with rfl | hy
    · exact Nat.dvd_trans (Nat.dvd_lcm_right _ _) a
    · exact b y hy
/-- the number over L -/
def ovr (L : Nat) (x : Rat) : Int := x.num * ((L / x.den : Nat) : Int)
theorem ovr_R {L : Nat} {x : Rat} (h : x.den ∣ L) : ((ovr L x : Int) : Rat) = (L : Rat) * x := by
  obtain ⟨c, rfl⟩ := h
  unfold ovr
  rw [Nat.mul_div_cancel_left c den_pos, Rat.intCast_mul, Rat.natCast_mul]
  have e := Rat.num_divInt_den x
  rw [Rat.divInt_eq_div] at e
  have d0 : ((x.den : Nat) : Rat) ≠ 0 := natQ_ne den_pos
  have c1 : (((x.den : Int)) : Rat) = ((x.den : Nat) : Rat) := rfl
  have c2 : (((c : Int)) : Rat) = ((c : Nat) : Rat) := rfl
  rw [c1] at e
  rw [c2]
  have e2 : (x.num : Rat) = x * ((x.den : Nat) : Rat) := by
    have : (x.num : Rat) / ((x.den : Nat) : Rat) * ((x.den : Nat) : Rat) = x * ((x.den : Nat) : Rat) := by rw [e]
    grind
  rw [e2]
  grind
theorem ix0 (q : Rat) : gIx (encQ q) (.int 0) = some (.int q.num) := by simp [encQ]
theorem ix1 (q : Rat) : gIx (encQ q) (.int 1) = some (.int (q.den : Int)) := by simp [encQ]
theorem v_on_one_below {q : List Rat} {D : Nat} (hD : 0 < D) (hD2 : D < 2 ^ 2000) (hq : ∀ x ∈ q, x.den ∣ D) (hn : ∀ x ∈ q, x.num.natAbs < 2 ^ 5000) (hl : q.length ≤ 1000) : Ph_on_one_below [eL q] = some (.tuple [.list (iD (q.map (ovr (lcmD 1 q)))), .int (lcmD 1 q : Int)]) := by
  have key : ∀ (q : List Rat), (∀ x ∈ q, x.den ∣ D) → ∀ (l : Nat), l ∣ D → ∀ (X : PyData) (s3 : Sl), (s3 = .no ∨ ∃ d, s3 = .val d) → ∃ s3', forL (g1 2) lp_on_one_below_1 (q.map encQ) [.val X, .val (.int (l : Int)), s3] = some (.nx, [.val X, .val (.int (lcmD l q : Int)), s3']) ∧ (s3' = .no ∨ ∃ d, s3' = .val d) := by
    intro q
    induction q with
    | nil => intro _ l _ X s3 h3; exact ⟨s3, rfl, h3⟩
    | cons x q ih =>
      intro h l hl X s3 _
      have hx := h x List.mem_cons_self
      obtain ⟨s3', e, h3'⟩ := ih (fun y hy => h y (List.mem_cons_of_mem _ hy)) (Nat.lcm l x.den) (Nat.lcm_dvd hl hx) X (.val (encQ x)) (.inr ⟨_, rfl⟩)
      refine ⟨s3', ?_, h3'⟩
      rw [List.map_cons, for_cons]
      have hb : lp_on_one_below_1 [.val X, .val (.int (l : Int)), .val (encQ x)] = some (.nx, [.val X, .val (.int ((Nat.lcm l x.den : Nat) : Int)), .val (encQ x)]) := by
        have i1 := ix1 x
        have g : gLcm [.int (l : Int), .int (x.den : Int)] = some (.int ((Nat.lcm l x.den : Nat) : Int)) := by
          have hlt : (Nat.lcm l x.den) < 2 ^ 2000 := Nat.lt_of_le_of_lt (Nat.le_of_dvd hD (Nat.lcm_dvd hl hx)) hD2
          have hl2 : l < 2 ^ 2000 := Nat.lt_of_le_of_lt (Nat.le_of_dvd hD hl) hD2
          have hx2 : x.den < 2 ^ 2000 := Nat.lt_of_le_of_lt (Nat.le_of_dvd hD hx) hD2
          have : lcmOk (l : Int) (x.den : Int) = true := by
            unfold lcmOk
            rw [decide_eq_true (lt_pow (a := 2000) (show (l : Int).natAbs < _ from hl2) (by decide)), decide_eq_true (lt_pow (a := 2000) (show (x.den : Int).natAbs < _ from hx2) (by decide))]
            rfl
          simp [gLcm, this]
        generalize encQ x = E at *
        simp [-gIx, -gLcm, lp_on_one_below_1, i1, g]
      show ((lp_on_one_below_1 [.val X, .val (.int (l : Int)), .val (encQ x)]).bind _) = _
      rw [hb]
      exact e
  obtain ⟨dv, dx⟩ := dvd_lcmD (q := q) (l := 1)
  have hL : lcmD 1 q ∣ D := lcmD_dvd (Nat.one_dvd _) hq
  have L0 : 0 < lcmD 1 q := Nat.pos_of_dvd_of_pos hL hD
  have L2 : lcmD 1 q < 2 ^ 2000 := Nat.lt_of_le_of_lt (Nat.le_of_dvd hD hL) hD2
  obtain ⟨s3, l1, h3⟩ := key q hq 1 (Nat.one_dvd _) (eL q) .no (.inl rfl)
  have hc := cm_a (a := ce_on_one_below_1) (i := 2) (e := [.val (eL q), .val (.int (lcmD 1 q : Int)), s3]) (xs := q) (E := encQ) (D := .int) (F := ovr (lcmD 1 q)) (s := s3) (by omega) rfl (by
    rcases h3 with rfl | ⟨d, rfl⟩ <;> rfl) fun x hx => by
    have i0 := ix0 x
    have i1 := ix1 x
    have d1 : divOk (x.den : Int) = true := divOk_lt (by have := @den_pos x; omega) (lt_pow (a := 2000) (Nat.lt_of_le_of_lt (Nat.le_of_dvd hD (hq x hx)) hD2) (by decide))
    have e1 : ((lcmD 1 q : Int)).fdiv (x.den : Int) = ((lcmD 1 q / x.den : Nat) : Int) := by
      rw [Int.fdiv_eq_ediv_of_nonneg _ (by omega)]
      rfl
    have m1 : mulOk x.num ((lcmD 1 q : Int) / (x.den : Int)) = true := mulOk_lt (j := ((lcmD 1 q / x.den : Nat) : Int)) (lt_pow (hn x hx) (by decide)) (lt_pow (a := 2000) (Nat.lt_of_le_of_lt (Nat.div_le_self _ _) L2) (by decide))
    have dz : ¬ (x.den : Int) = 0 := by have := @den_pos x; omega
    generalize encQ x = E at *
    simp [-gIx, ce_on_one_below_1, i0, i1, dz, d1, e1, m1, ovr]
  have hi : items (eL q) = some (q.map encQ) := rfl
  have h1 : ((1 : Nat) : Int) = 1 := rfl
  rw [h1] at l1
  unfold Ph_on_one_below
  rw [run1]
  unfold dn_on_one_below
  generalize eL q = X at *
  generalize q.map encQ = W at *
  simp [-List.map_map, -items, hi, l1, hc]
end K64
set_option Elab.async false
set_option linter.all false
set_option maxRecDepth 100000
set_option maxHeartbeats 4000000
namespace K64
open PySem PySem.Spec PyProof.Rows L2 Dn
def NB : Nat := 1267650600228229401496703205376
theorem NB_lt : NB < 2 ^ 1000 := lt_pow (a := 101) (by decide) (by decide)
section
variable {n D : Nat} {T : Rat} {q r : List Rat}
theorem QOk.le (h : QOk n D T q) : ∀ x ∈ q, x ≤ T := fun x hx => by rw [← h.sum]; exact le_qs h.nn x hx
theorem QOk.sz (h : QOk n D T q) (hD : 0 < D) (hD2 : D < 2 ^ 2000) (hT : T ≤ (NB : Rat)) : ∀ x ∈ q, Sz x := fun x hx =>
  (h.pt x hx).sz (N := NB) hD (lt_pow hD2 (by decide)) NB_lt (Rat.le_trans (h.le x hx) hT) (by
    have h2 := h.nn x hx
    have h3 : (0 : Rat) ≤ (NB : Rat) := Rat.natCast_le_natCast.mpr (Nat.zero_le _)
    grind)
theorem QOk.bd (h : QOk n D T q) (hT : T ≤ (NB : Rat)) : Bd D NB q := ⟨h.pt, h.nn, fun x hx => Rat.le_trans (h.le x hx) hT⟩
theorem eL_len (q : List Rat) : gLen [eL q] = some (.int (q.length : Int)) := by simp
theorem eL_app (q r : List Rat) (h : q.length + r.length ≤ 1000) : gAdd (eL q) (eL r) = some (eL (q ++ r)) := by
  show (if okN _ then _ else _) = _
  rw [okN_of (by simp; omega), if_pos rfl]
  unfold eL
  rw [List.map_append]
theorem v_on_integers (hq : QOk n D T q) (hr : QOk n D T r) (hD : 0 < D) (hD2 : D < 2 ^ 2000) (hT : T ≤ (NB : Rat)) (hn : n ≤ 7) : ∃ (L : Nat) (a b : List Int), Ph_on_integers [eL q, eL r] = some (.tuple [.list (iD a), .list (iD b), .int (L : Int)]) ∧ 0 < L ∧ L < 2 ^ 2000 ∧ a.length = n ∧ b.length = n ∧ rR a = q.map (fun x => (L : Rat) * x) ∧ rR b = r.map (fun x => (L : Rat) * x) := by
  have lq := hq.len
  have lr := hr.len
  have mem : ∀ x ∈ q ++ r, Pt D x ∧ Sz x := fun x hx => by
    rcases List.mem_append.mp hx with hx | hx
    · exact ⟨hq.pt x hx, hq.sz hD hD2 hT x hx⟩
    · exact ⟨hr.pt x hx, hr.sz hD hD2 hT x hx⟩
  have hb := v_on_one_below (q := q ++ r) hD hD2 (fun x hx => (mem x hx).1.den_dvd hD) (fun x hx => (mem x hx).2.num) (by rw [List.length_append]; omega)
  have dL : lcmD 1 (q ++ r) ∣ D := lcmD_dvd (Nat.one_dvd _) fun x hx => (mem x hx).1.den_dvd hD
  have dx := (dvd_lcmD (q := q ++ r) (l := 1)).2
  generalize lcmD 1 (q ++ r) = L at *
  refine ⟨L, q.map (ovr L), r.map (ovr L), ?_, Nat.pos_of_dvd_of_pos dL hD, Nat.lt_of_le_of_lt (Nat.le_of_dvd hD dL) hD2, by simp [lq], by simp [lr], ?_, ?_⟩
  · have ad := eL_app q r (by omega)
    have l1 := eL_len q
    rw [lq] at l1
    have c1 : gCut (.list (iD ((q ++ r).map (ovr L)))) none (some (n : Int)) = some (.list (iD (q.map (ovr L)))) := by
      rw [gCut_iD, List.map_append, List.take_append_of_le_length (by simp; omega), List.take_of_length_le (by simp; omega)]
    have c2 : gCut (.list (iD ((q ++ r).map (ovr L)))) (some (n : Int)) none = some (.list (iD (r.map (ovr L)))) := by
      show some (PyData.list (cutD _ _ _)) = _
      rw [cutD_fromN]
      unfold iD
      rw [← List.map_drop, List.map_append, List.drop_append_of_le_length (by simp; omega), List.drop_of_length_le (by simp; omega)]
      rfl
    generalize eL (q ++ r) = X at *
    generalize eL q = Y at *
    generalize eL r = Z at *
    generalize PyData.list (iD ((q ++ r).map (ovr L))) = W at *
    generalize PyData.list (iD (q.map (ovr L))) = A at *
    generalize PyData.list (iD (r.map (ovr L))) = B at *
    unfold Ph_on_integers
    rw [run2]
    unfold dn_on_integers
    simp [-gAdd, -gLen, -gCut, ad, hb, l1, c1, c2]
  · unfold rR
    rw [List.map_map]
    exact List.map_congr_left fun x hx => ovr_R (dx x (List.mem_append.mpr (.inl hx)))
  · unfold rR
    rw [List.map_map]
    exact List.map_congr_left fun x hx => ovr_R (dx x (List.mem_append.mpr (.inr hx)))
theorem v_falling (ns : List Int) : Ph_falling [.list (iD ns)] = some (.list (iD (fallI ns))) := by
  have hs := fun e => kSrtR_iD (ns := ns) (e := e)
  generalize iD (fallI ns) = Y at *
  generalize iD ns = X at *
  unfold Ph_falling
  rw [run1]
  unfold dn_falling
  simp [hs]
theorem sim_q (x : Rat) : Sim 2 (encQ x) := fun d hd => by
  simp only [List.mem_cons, List.not_mem_nil, or_false] at hd
  rcases hd with rfl | rfl <;> exact trivial
theorem encQ_ne (x : Rat) : gNe (encQ x) (encQ x) = some (.bool false) := by
  have := gNe_D (p := True) (sim_q x) (sim_q x) (by decide) ⟨fun _ => trivial, fun _ => rfl⟩
  simpa using this
theorem smallI_of {z : Int} (h0 : 0 ≤ z) (h1 : z ≤ 1000) : smallI z = true := by
  unfold smallI
  simp
  omega
theorem v_sums_of_greatest (hq : QOk n D T q) (hr : QOk n D T r) (hD : 0 < D) (hD2 : D < 2 ^ 2000) (hT : T ≤ (NB : Rat)) (h1 : 1 ≤ n) (hn : n ≤ 7) : ∃ (L : Nat) (a b : List Int), Ph_sums_of_greatest [eL q, eL r] = some (.tuple [.list (iD ((List.range (n + 1)).map (sI a))), .list (iD ((List.range (n + 1)).map (sI b))), .int (L : Int)]) ∧ 0 < L ∧ L < 2 ^ 2000 ∧ a.length = n ∧ b.length = n ∧ rR a = q.map (fun x => (L : Rat) * x) ∧ rR b = r.map (fun x => (L : Rat) * x) := by
  obtain ⟨L, a, b, e, L0, L2, la, lb, ra, rb⟩ := v_on_integers hq hr hD hD2 hT hn
  refine ⟨L, a, b, ?_, L0, L2, la, lb, ra, rb⟩
  have nb := v_need_both hq.len hr.len h1 hn hq.nn hr.nn
  have hN : (7 + 1) * NB < 2 ^ 1000 := lt_pow (a := 104) (by decide) (by decide)
  have s1 := v_sum_of (v := .list (q.map encQ)) (l := q) rfl (hq.bd hT) hD (lt_pow hD2 (by decide)) (Nat.lt_of_le_of_lt (Nat.mul_le_mul_right _ (by rw [hq.len]; omega)) hN)
  have s2 := v_sum_of (v := .list (r.map encQ)) (l := r) rfl (hr.bd hT) hD (lt_pow hD2 (by decide)) (Nat.lt_of_le_of_lt (Nat.mul_le_mul_right _ (by rw [hr.len]; omega)) hN)
  rw [hq.sum] at s1
  rw [hr.sum] at s2
  have ne := encQ_ne T
  have o1 : ∀ e, kOf ([eL q], e) = some (q.map encQ, e) := fun _ => rfl
  have o2 : ∀ e, kOf ([eL r], e) = some (r.map encQ, e) := fun _ => rfl
  have f1 := v_falling a
  have f2 := v_falling b
  have l1 := eL_len q
  rw [hq.len] at l1
  have hc1 := cm_a (a := ce_sums_of_greatest_1) (i := 6) (e := [.val (eL q), .val (eL r), .val (.list (iD (fallI a))), .val (.list (iD (fallI b))), .val (.int (L : Int)), .val (rgD 0 ((n : Int) + 1)), .no]) (xs := List.range (n + 1)) (E := fun (i : Nat) => .int (i : Int)) (D := .int) (F := sI a) (by simp; omega) rfl rfl fun k hk => by
    have h1 := gCut_iD (fallI a) k
    have h2 : gSum [.list (iD ((fallI a).take k))] = some (.int (sI a k)) := gSum_iD ((fallI a).take k)
    generalize iD ((fallI a).take k) = X at *
    generalize iD (fallI a) = Y at *
    generalize eL q = Q at *
    generalize eL r = R at *
    simp [-gCut, -gSum, ce_sums_of_greatest_1, h1, h2]
  have hc2 := cm_a (a := ce_sums_of_greatest_2) (i := 6) (e := [.val (eL q), .val (eL r), .val (.list (iD (fallI a))), .val (.list (iD (fallI b))), .val (.int (L : Int)), .val (rgD 0 ((n : Int) + 1)), .no]) (xs := List.range (n + 1)) (E := fun (i : Nat) => .int (i : Int)) (D := .int) (F := sI b) (by simp; omega) rfl rfl fun k hk => by
    have h1 := gCut_iD (fallI b) k
    have h2 : gSum [.list (iD ((fallI b).take k))] = some (.int (sI b k)) := gSum_iD ((fallI b).take k)
    generalize iD ((fallI b).take k) = X at *
    generalize iD (fallI b) = Y at *
    generalize eL q = Q at *
    generalize eL r = R at *
    simp [-gCut, -gSum, ce_sums_of_greatest_2, h1, h2]
  have hrg : ∀ e, kRgD (rgD 0 ((n : Int) + 1), e) = some ((List.range (n + 1)).map fun (i : Nat) => .int (i : Int), e) := fun e => by
    have e1 : (n : Int) + 1 = ((n + 1 : Nat) : Int) := by omega
    rw [kRgD_e (smallI_of (by decide) (by decide)) (smallI_of (by omega) (by omega)), e1, rng_nat]
  have hc1 : kCm (g1 6) tYs ce_sums_of_greatest_1 [6] ((List.range (n + 1)).map (fun (i : Nat) => PyData.int (i : Int)), [.val (eL q), .val (eL r), .val (.list (iD (fallI a))), .val (.list (iD (fallI b))), .val (.int (L : Int)), .val (rgD 0 ((n : Int) + 1)), .no]) = some (iD ((List.range (n + 1)).map (sI a)), [.val (eL q), .val (eL r), .val (.list (iD (fallI a))), .val (.list (iD (fallI b))), .val (.int (L : Int)), .val (rgD 0 ((n : Int) + 1)), .no]) := hc1
  have hc2 : kCm (g1 6) tYs ce_sums_of_greatest_2 [6] ((List.range (n + 1)).map (fun (i : Nat) => PyData.int (i : Int)), [.val (eL q), .val (eL r), .val (.list (iD (fallI a))), .val (.list (iD (fallI b))), .val (.int (L : Int)), .val (rgD 0 ((n : Int) + 1)), .no]) = some (iD ((List.range (n + 1)).map (sI b)), [.val (eL q), .val (eL r), .val (.list (iD (fallI a))), .val (.list (iD (fallI b))), .val (.int (L : Int)), .val (rgD 0 ((n : Int) + 1)), .no]) := hc2
  have hg : gRng1 [.int ((n : Int) + 1)] = some (rgD 0 ((n : Int) + 1)) := rfl
  generalize rgD 0 ((n : Int) + 1) = RG at *
  generalize iD ((List.range (n + 1)).map (sI a)) = SA at *
  generalize iD ((List.range (n + 1)).map (sI b)) = SB at *
  generalize (List.range (n + 1)).map (fun (i : Nat) => PyData.int (i : Int)) = WW at *
  generalize iD (fallI a) = FA at *
  generalize iD (fallI b) = FB at *
  generalize iD a = A at *
  generalize iD b = B at *
  generalize eL q = Q at *
  generalize eL r = R at *
  generalize q.map encQ = Q2 at *
  generalize r.map encQ = R2 at *
  generalize encQ T = ET at *
  unfold Ph_sums_of_greatest
  rw [run2]
  unfold dn_sums_of_greatest
  simp [-gLen, -gNe, -gRng1, nb, o1, o2, s1, s2, ne, e, f1, f2, l1, hg, hrg, hc1, hc2]
end
end K64
set_option Elab.async false
set_option linter.all false
set_option maxRecDepth 100000
set_option maxHeartbeats 4000000
namespace K64
open PySem PySem.Spec PyProof.Rows L2 Dn
def mnI (x y : Int) : Int := if x ≤ y then x else y
def mxI (x y : Int) : Int := if x ≤ y then y else x
theorem gMin2_mn (x y : Int) : gMin2 [.int x, .int y] = some (.int (mnI x y)) := by
  unfold mnI
  by_cases c : x ≤ y
  · rw [if_pos c]; simp [gMin2]; omega
  · rw [if_neg c]; simp [gMin2]; omega
theorem gMax2_mx (x y : Int) : gMax2 [.int x, .int y] = some (.int (mxI x y)) := by
  unfold mxI
  by_cases c : x ≤ y
  · rw [if_pos c]
    by_cases c2 : y > x
    · simp [gMax2]; omega
    · have : x = y := by omega
      subst this
      simp [gMax2]
  · rw [if_neg c]; simp [gMax2]; omega
theorem mnI_R (x y : Int) : ((mnI x y : Int) : Rat) = mn (x : Rat) (y : Rat) := by
  unfold mnI mn
  by_cases c : x ≤ y
  · rw [if_pos c, if_pos (Rat.intCast_le_intCast.mpr c)]
  · rw [if_neg c, if_neg fun z => c (Rat.intCast_le_intCast.mp z)]
theorem mxI_R (x y : Int) : ((mxI x y : Int) : Rat) = mx (x : Rat) (y : Rat) := by
  unfold mxI mx
  by_cases c : x ≤ y
  · rw [if_pos c, if_pos (Rat.intCast_le_intCast.mpr c)]
  · rw [if_neg c, if_neg fun z => c (Rat.intCast_le_intCast.mp z)]
section
variable {n D L : Nat} {T : Rat} {q r : List Rat} {a b : List Int}
theorem L_nn (L : Nat) : (0 : Rat) ≤ (L : Rat) := Rat.natCast_le_natCast.mpr (Nat.zero_le _)
theorem sI_scale (h : rR a = q.map fun x => (L : Rat) * x) (k : Nat) : ((sI a k : Int) : Rat) = (L : Rat) * gS q k := by
  rw [sI_R, h, gS_scale (L_nn L)]
/-- a difference over the number below -/
theorem frac_L {z : Int} {x : Rat} (hL : 0 < L) (h : ((z : Int) : Rat) = (L : Rat) * x) : Rat.divInt z (L : Int) = x := by
  rw [Rat.divInt_eq_div, h]
  have l0 := nat_posR hL
  have c : (((L : Int)) : Rat) = (L : Rat) := rfl
  rw [c]
  grind
theorem L_lt (h : L < 2 ^ 2000) : ((L : Int)).natAbs < 2 ^ 9000 := lt_pow (a := 2000) h (by decide)
def mtF (q r : List Rat) (k : Nat) : Rat := mn (gS q k) (gS r k)
theorem v_meet (hq : QOk n D T q) (hr : QOk n D T r) (hD : 0 < D) (hD2 : D < 2 ^ 2000) (hT : T ≤ (NB : Rat)) (h1 : 1 ≤ n) (hn : n ≤ 7) : Ph_meet [eL q, eL r] = some (eL (stp (mtF q r) n)) := by
  obtain ⟨L, a, b, e, L0, L2, la, lb, ra, rb⟩ := v_sums_of_greatest hq hr hD hD2 hT h1 hn
  have hz : zipD ((List.range (n + 1)).map fun k => PyData.int (sI a k)) ((List.range (n + 1)).map fun k => .int (sI b k)) = (List.range (n + 1)).map fun k => .tuple [.int (sI a k), .int (sI b k)] := by
    unfold zipD
    rw [List.zipWith_map, List.zipWith_self]
  rw [iD_mapN (sI a), iD_mapN (sI b)] at e
  have hZ : ∀ e, kZp ([.list ((List.range (n + 1)).map fun k => PyData.int (sI a k)), .list ((List.range (n + 1)).map fun k => .int (sI b k))], e) = some ((List.range (n + 1)).map fun k => .tuple [.int (sI a k), .int (sI b k)], e) := fun e => by
    show some (zipD _ _, e) = _
    rw [hz]
  let m : Nat → Int := fun k => mnI (sI a k) (sI b k)
  have hm : ∀ k, ((m k : Int) : Rat) = (L : Rat) * mtF q r k := fun k => by
    show ((mnI (sI a k) (sI b k) : Int) : Rat) = _
    rw [mnI_R, sI_scale ra, sI_scale rb, mn_scale (L_nn L)]
    rfl
  have hc1 := cm_a2 (a := ce_meet_1) (i := 6) (j := 7) (e := [.val (eL q), .val (eL r), .val (.list ((List.range (n + 1)).map fun k => PyData.int (sI a k))), .val (.list ((List.range (n + 1)).map fun k => .int (sI b k))), .val (.int (L : Int)), .no, .no, .no, .no]) (xs := List.range (n + 1)) (E1 := fun k => .int (sI a k)) (E2 := fun k => .int (sI b k)) (D := .int) (F := m) (by simp; omega) (by decide) rfl rfl rfl fun k hk => by
    have g := gMin2_mn (sI a k) (sI b k)
    simp [-gMin2, ce_meet_1, g, m]
  have hc1 : kCm (g2 2 (gsC (g1 6) (gsC (g1 7) gsN))) tYs ce_meet_1 [6, 7] ((List.range (n + 1)).map fun k => .tuple [.int (sI a k), .int (sI b k)], [.val (eL q), .val (eL r), .val (.list ((List.range (n + 1)).map fun k => PyData.int (sI a k))), .val (.list ((List.range (n + 1)).map fun k => .int (sI b k))), .val (.int (L : Int)), .no, .no, .no, .no]) = some (iD ((List.range (n + 1)).map m), [.val (eL q), .val (eL r), .val (.list ((List.range (n + 1)).map fun k => PyData.int (sI a k))), .val (.list ((List.range (n + 1)).map fun k => .int (sI b k))), .val (.int (L : Int)), .no, .no, .no, .no]) := hc1
  have hc2 := cm_a (a := ce_meet_2) (i := 8) (e := [.val (eL q), .val (eL r), .val (.list ((List.range (n + 1)).map fun k => PyData.int (sI a k))), .val (.list ((List.range (n + 1)).map fun k => .int (sI b k))), .val (.int (L : Int)), .val (.list (iD ((List.range (n + 1)).map m))), .no, .no, .no]) (xs := List.range n) (E := fun (i : Nat) => .int (i : Int)) (D := encQ) (F := fun k => mtF q r (k + 1) - mtF q r k) (by simp; omega) rfl rfl fun k hk => by
    have hk' := List.mem_range.mp hk
    have h1 := iD_atN (f := m) (n := n + 1) (k := k) (by omega)
    have h2 := iD_atN (f := m) (n := n + 1) (k := k + 1) (by omega)
    have e1 : ((k + 1 : Nat) : Int) = (k : Int) + 1 := by omega
    rw [e1] at h2
    have hf := v_fraction (a := m (k + 1) - m k) (b := (L : Int)) (by omega) (L_lt L2)
    rw [frac_L (x := mtF q r (k + 1) - mtF q r k) L0 (by rw [Rat.intCast_sub, hm, hm]; grind)] at hf
    generalize PyData.list (iD ((List.range (n + 1)).map m)) = X at *
    generalize eL q = Q at *
    generalize eL r = R at *
    generalize PyData.list ((List.range (n + 1)).map fun k => PyData.int (sI a k)) = SA at *
    generalize PyData.list ((List.range (n + 1)).map fun k => PyData.int (sI b k)) = SB at *
    generalize m (k + 1) = m1 at *
    generalize m k = m0 at *
    simp [-gIx, ce_meet_2, h1, h2, hf]
  have l1 := eL_len q
  rw [hq.len] at l1
  have hr := fun e => @kR1_len n e (by omega)
  have hres : PyData.tuple (((List.range n).map fun k => mtF q r (k + 1) - mtF q r k).map encQ) = eL (stp (mtF q r) n) := rfl
  generalize ((List.range n).map fun k => mtF q r (k + 1) - mtF q r k).map encQ = RES at *
  generalize eL (stp (mtF q r) n) = RR at *
  generalize eL q = Q at *
  generalize eL r = R at *
  generalize iD ((List.range (n + 1)).map m) = MM at *
  generalize (List.range (n + 1)).map (fun k => PyData.tuple [.int (sI a k), .int (sI b k)]) = ZZ at *
  generalize (List.range (n + 1)).map (fun k => PyData.int (sI a k)) = SA at *
  generalize (List.range (n + 1)).map (fun k => PyData.int (sI b k)) = SB at *
  generalize (List.range n).map (fun (i : Nat) => PyData.int (i : Int)) = WW at *
  unfold Ph_meet
  rw [run2]
  unfold dn_meet
  simp [-gLen, e, hZ, hc1, l1, hr, hc2, hres]
end
end K64
set_option Elab.async false
set_option linter.all false
set_option maxRecDepth 100000
set_option maxHeartbeats 4000000
namespace K64
open PySem PySem.Spec PyProof.Rows L2 Dn
def kEnZ (p : List PyData × En) : Option (List PyData × En) := match p.1 with
  | [.list xs, .list ys] => some (enumD 0 (zipD xs ys), p.2)
  | _ => none
theorem ev_EnZ {f : Fl} {x : Sl} {e : En} : iEnZ f (x :: e) = (f (x :: e)).bind kEnZ := rfl
abbrev tgG : Tg := g2 2 (gsC (g1 3) (gsC (g2 2 (gsC (g1 4) (gsC (g1 5) (gsN)))) (gsN)))
theorem gap_loop : ∀ (x y : List Int) (h k0 : Int) (X Y : PyData) (s3 s4 s5 : Sl), x.length = y.length → 0 ≤ h → ∃ fl e', forL tgG lp_gap_between_1 (enumD k0 (zipD (iD x) (iD y))) [.val X, .val Y, .val (.int h), s3, s4, s5] = some (fl, e') ∧
    ((fl = .nx ∧ (∃ h' s3' s4' s5', e' = [.val X, .val Y, .val (.int h'), s3', s4', s5']) ∧ ∀ m : Nat, 0 ≤ h + (x.take m).sum - (y.take m).sum) ∨ (∃ z, fl = .rt (.int z) ∧ ∃ m : Nat, m ≤ x.length ∧ h + (x.take m).sum - (y.take m).sum < 0))
  | [], [], h, k0, X, Y, s3, s4, s5, _, h0 => ⟨.nx, _, rfl, .inl ⟨rfl, ⟨_, _, _, _, rfl⟩, fun m => by simp; omega⟩⟩
  | [], _ :: _, _, _, _, _, _, _, _, hl, _ => by simp at hl
  | _ :: _, [], _, _, _, _, _, _, _, hl, _ => by simp at hl
  | a :: x, b :: y, h, k0, X, Y, s3, s4, s5, hl, h0 => by
    have e0 : enumD k0 (zipD (iD (a :: x)) (iD (b :: y))) = .tuple [.int k0, .tuple [.int a, .int b]] :: enumD (k0 + 1) (zipD (iD x) (iD y)) := rfl
    rw [e0, for_cons]
    have tg : tgG (.tuple [.int k0, .tuple [.int a, .int b]]) [.val X, .val Y, .val (.int h), s3, s4, s5] = some [.val X, .val Y, .val (.int h), .val (.int k0), .val (.int a), .val (.int b)] := rfl
    rw [tg, Option.bind_some]
    by_cases c : h + a - b < 0
    · have hb : lp_gap_between_1 [.val X, .val Y, .val (.int h), .val (.int k0), .val (.int a), .val (.int b)] = some (.rt (.int (k0 + 1)), [.val X, .val Y, .val (.int (h + a - b)), .val (.int k0), .val (.int a), .val (.int b)]) := by
        simp [lp_gap_between_1, c]
      rw [hb, Option.bind_some]
      exact ⟨_, _, rfl, .inr ⟨_, rfl, 1, by simp, by simp; omega⟩⟩
    · have hb : lp_gap_between_1 [.val X, .val Y, .val (.int h), .val (.int k0), .val (.int a), .val (.int b)] = some (.nx, [.val X, .val Y, .val (.int (h + a - b)), .val (.int k0), .val (.int a), .val (.int b)]) := by
        simp [lp_gap_between_1, c]
      rw [hb, Option.bind_some]
      obtain ⟨fl, e', q1, q2⟩ := gap_loop x y (h + a - b) (k0 + 1) X Y (.val (.int k0)) (.val (.int a)) (.val (.int b)) (by simpa using hl) (by omega)
      refine ⟨fl, e', q1, ?_⟩
      rcases q2 with ⟨r1, r2, r3⟩ | ⟨z, r1, m, r2, r3⟩
      · refine .inl ⟨r1, r2, fun m => ?_⟩
        cases m with
        | zero => simp; omega
        | succ m =>
          have := r3 m
          rw [List.take_succ_cons, List.take_succ_cons, List.sum_cons, List.sum_cons]
          omega
      · refine .inr ⟨z, r1, m + 1, by simp; omega, ?_⟩
        rw [List.take_succ_cons, List.take_succ_cons, List.sum_cons, List.sum_cons]
        omega
theorem v_gap_between {x y : List Int} (hl : x.length = y.length) (hs : x.sum = y.sum) : ∃ d, Ph_gap_between [.list (iD x), .list (iD y)] = some d ∧ ((d = .none ∧ ∀ m, (y.take m).sum ≤ (x.take m).sum) ∨ ((∃ z, d = .int z) ∧ ∃ m, m ≤ x.length ∧ (x.take m).sum < (y.take m).sum)) := by
  have s1 := gSum_iD x
  have s2 := gSum_iD y
  rw [← hs] at s2
  have ne : gNe (.int x.sum) (.int x.sum) = some (.bool false) := by simp
  obtain ⟨fl, e', q1, q2⟩ := gap_loop x y 0 0 (.list (iD x)) (.list (iD y)) .no .no .no hl (Int.le_refl _)
  have hz : ∀ e, kEnZ ([.list (iD x), .list (iD y)], e) = some (enumD 0 (zipD (iD x) (iD y)), e) := fun _ => rfl
  have key : ∀ d, (fl = .nx ∧ d = .none ∧ (∃ h' s3' s4' s5', e' = [.val (.list (iD x)), .val (.list (iD y)), .val (.int h'), s3', s4', s5'])) ∨ fl = .rt d → Ph_gap_between [.list (iD x), .list (iD y)] = some d := fun d hd => by
    generalize enumD 0 (zipD (iD x) (iD y)) = W at *
    generalize iD x = A at *
    generalize iD y = B at *
    unfold Ph_gap_between
    rw [run2]
    unfold dn_gap_between
    rcases hd with ⟨rfl, rfl, h', s3', s4', s5', rfl⟩ | rfl
    · simp [-gSum, -gNe, ev_EnZ, s1, s2, ne, hz, q1]
    · simp [-gSum, -gNe, ev_EnZ, s1, s2, ne, hz, q1]
  rcases q2 with ⟨r1, r2, r3⟩ | ⟨z, r1, m, r2, r3⟩
  · exact ⟨.none, key _ (.inl ⟨r1, rfl, r2⟩), .inl ⟨rfl, fun m => by have := r3 m; omega⟩⟩
  · exact ⟨.int z, key _ (.inr r1), .inr ⟨⟨z, rfl⟩, m, r2, by omega⟩⟩
section
variable {n D : Nat} {T : Rat} {q r : List Rat}
theorem v_is_more_even (hq : QOk n D T q) (hr : QOk n D T r) (hD : 0 < D) (hD2 : D < 2 ^ 2000) (hT : T ≤ (NB : Rat)) (h1 : 1 ≤ n) (hn : n ≤ 7) : Ph_is_more_even [eL q, eL r] = some (.bool (decide (∀ k, k ≤ n → gS r k ≤ gS q k))) := by
  obtain ⟨L, a, b, e, L0, L2, la, lb, ra, rb⟩ := v_on_integers hq hr hD hD2 hT hn
  have nb := v_need_both hq.len hr.len h1 hn hq.nn hr.nn
  have f1 := v_falling a
  have f2 := v_falling b
  have l0 := nat_posR L0
  have sumA : ∀ (c : List Int) (s : List Rat), rR c = s.map (fun x => (L : Rat) * x) → qs s = T → ((c.sum : Int) : Rat) = (L : Rat) * T := fun c s h1 h2 => by
    rw [← qs_rR, h1, ← h2]
    have := pS_scale (c := (L : Rat)) s s.length
    rw [pS_all (by simp), pS_all (Nat.le_refl _)] at this
    exact this
  have hs : a.sum = b.sum := Rat.intCast_inj.mp ((sumA a q ra hq.sum).trans (sumA b r rb hr.sum).symm)
  obtain ⟨d, g, hd⟩ := v_gap_between (x := fallI a) (y := fallI b) (by rw [fallI_len, fallI_len, la, lb]) (by rw [sum_perm (fallI_perm a), sum_perm (fallI_perm b), hs])
  have cmp : ∀ k, (((fallI b).take k).sum ≤ ((fallI a).take k).sum ↔ gS r k ≤ gS q k) := fun k => by
    have e1 : (((sI a k : Int)) : Rat) = (L : Rat) * gS q k := sI_scale ra k
    have e2 : (((sI b k : Int)) : Rat) = (L : Rat) * gS r k := sI_scale rb k
    show sI b k ≤ sI a k ↔ _
    rw [← Rat.intCast_le_intCast, e1, e2]
    constructor
    · intro h
      refine Rat.not_lt.mp fun z => ?_
      have := Rat.mul_lt_mul_of_pos_left z l0
      exact absurd this (Rat.not_lt.mpr h)
    · intro h
      exact Rat.mul_le_mul_of_nonneg_left h (Rat.le_of_lt l0)
  have hg : Ph_first_gap [eL q, eL r] = some d := by
    generalize eL q = Q at *
    generalize eL r = R at *
    generalize iD (fallI a) = FA at *
    generalize iD (fallI b) = FB at *
    generalize iD a = A at *
    generalize iD b = B at *
    unfold Ph_first_gap
    rw [run2]
    unfold dn_first_gap
    simp [nb, e, f1, f2, g]
  have fin : ∀ t : Bool, isNone d = t → Ph_is_more_even [eL q, eL r] = some (.bool t) := fun t ht => by
    generalize eL q = Q at *
    generalize eL r = R at *
    unfold Ph_is_more_even
    rw [run2]
    unfold dn_is_more_even
    simp [-isNone, hg, ht]
  rcases hd with ⟨rfl, h⟩ | ⟨⟨z, rfl⟩, m, hm, h⟩
  · rw [decide_eq_true fun k hk => (cmp k).mp (h k)]
    exact fin true rfl
  · rw [decide_eq_false fun z => by
      rw [fallI_len, la] at hm
      have := (cmp m).mpr (z m hm)
      omega]
    exact fin false rfl
end
end K64
set_option Elab.async false
set_option linter.all false
set_option maxRecDepth 100000
set_option maxHeartbeats 4000000
namespace K64
open PySem PySem.Spec PyProof.Rows L2 Dn
theorem cut_two (xs : List PyData) (A B : PyData) : cutD (xs ++ [A, B]) (some (-2)) none = [A, B] := by
  have e : HT.sIx (xs ++ [A, B]).length 0 (some (-2)) = xs.length := by
    unfold HT.sIx
    simp
    try omega
  unfold Dn.cutD
  rw [e, HT.sIx_none, List.drop_left, List.take_of_length_le (by simp)]
theorem Oks.desc {f : Nat → Rat} : ∀ {s : List Nat}, Oks f s → s.Pairwise (· > ·)
  | [], _ => .nil
  | [a], _ => by simp
  | b :: a :: r, h => by
    have ih := Oks.desc (s := a :: r) h.2.2.2
    refine List.pairwise_cons.mpr ⟨fun x hx => ?_, ih⟩
    have hb := h.1
    rcases List.mem_cons.mp hx with rfl | hx
    · exact hb
    · have := (List.pairwise_cons.mp ih).1 x hx
      omega
def cr (z : Nat → Int) (k : Nat) : PyData := .tuple [.int (k : Int), .int (z k)]
def zR (z : Nat → Int) (k : Nat) : Rat := ((z k : Int) : Rat)
theorem subC {a b : Nat} (h : a ≤ b) : (b : Int) - (a : Int) = ((b - a : Nat) : Int) := by omega
theorem pop_test {z : Nat → Int} {a b c : Nat} (h1 : a ≤ b) (h2 : b ≤ c) : ((z b - z a) * ((c : Int) - (b : Int)) > (z c - z b) * ((b : Int) - (a : Int))) ↔ ((zR z b - zR z a) * ((c - b : Nat) : Rat) > (zR z c - zR z b) * ((b - a : Nat) : Rat)) := by
  rw [subC h1, subC h2]
  unfold zR
  have e : ∀ x y : Int, ∀ m : Nat, (((x - y) * (m : Int) : Int) : Rat) = ((x : Rat) - (y : Rat)) * (m : Rat) := fun x y m => by
    rw [Rat.intCast_mul, Rat.intCast_sub]
    rfl
  rw [← e, ← e]
  exact Rat.intCast_lt_intCast.symm
section
variable {z : Nat → Int}
theorem mulOk_z (zb : ∀ k, (z k).natAbs < 2 ^ 5000) {a b : Nat} {x : Int} (hx : x.natAbs < 2 ^ 5000) : mulOk (z a - z b) x = true := by
  have h1 := zb a
  have h2 := zb b
  have : (z a - z b).natAbs < 2 ^ 5001 := by
    have : (2 : Nat) ^ 5001 = 2 ^ 5000 + 2 ^ 5000 := by rw [Nat.pow_succ, Nat.mul_two]
    rw [this]
    generalize (2 : Nat) ^ 5000 = W at *
    omega
  exact mulOk_lt (lt_pow this (by decide)) (lt_pow hx (by decide))
theorem small_z {x : Int} (h : x.natAbs < 2000) : x.natAbs < 2 ^ 5000 := lt_pow (a := 11) (Nat.lt_of_lt_of_le h (by decide)) (by decide)
theorem tg_pairs {A B C D : PyData} {x0 x1 x2 x3 s4 s5 s6 s7 : Sl} : g2L 2 (gsC (g2 2 (gsC (g1 4) (gsC (g1 5) gsN))) (gsC (g2 2 (gsC (g1 6) (gsC (g1 7) gsN))) gsN)) (.list [.tuple [A, B], .tuple [C, D]]) [x0, x1, x2, x3, s4, s5, s6, s7] = some [x0, x1, x2, x3, .val A, .val B, .val C, .val D] := rfl
theorem hull_pop (zb : ∀ k, (z k).natAbs < 2 ^ 5000) {c : Nat} (hc : c ≤ 1000) {P : PyData} {w : Bool} : ∀ (s : List Nat), s.Pairwise (· > ·) → (∀ k ∈ s, k ≤ c) → ∀ (s4 s5 s6 s7 : Sl), ∃ m s4' s5' s6' s7',
    whL wt_bent_hull_1 wb_bent_hull_1 m [.val P, .own w (s.reverse.map (cr z)), .val (.int (c : Int)), .val (.int (z c)), s4, s5, s6, s7] = some (.nx, [.val P, .own w ((popS (zR z) c s).reverse.map (cr z)), .val (.int (c : Int)), .val (.int (z c)), s4', s5', s6', s7'])
  | [], _, _, s4, s5, s6, s7 => ⟨1, s4, s5, s6, s7, by
      have t : wt_bent_hull_1 [.val P, .own w (([] : List Nat).reverse.map (cr z)), .val (.int (c : Int)), .val (.int (z c)), s4, s5, s6, s7] = some (false, [.val P, .own w (([] : List Nat).reverse.map (cr z)), .val (.int (c : Int)), .val (.int (z c)), s4, s5, s6, s7]) := by
        simp [wt_bent_hull_1]
      rw [whL_stop t]
      rfl⟩
  | [a], _, _, s4, s5, s6, s7 => ⟨1, s4, s5, s6, s7, by
      have t : wt_bent_hull_1 [.val P, .own w (([a] : List Nat).reverse.map (cr z)), .val (.int (c : Int)), .val (.int (z c)), s4, s5, s6, s7] = some (false, [.val P, .own w (([a] : List Nat).reverse.map (cr z)), .val (.int (c : Int)), .val (.int (z c)), s4, s5, s6, s7]) := by
        simp [wt_bent_hull_1]
      rw [whL_stop t]
      rfl⟩
  | b :: a :: r, hp, hl, s4, s5, s6, s7 => by
    have hab : a < b := (List.pairwise_cons.mp hp).1 a (by simp)
    have hbc : b ≤ c := hl b (by simp)
    have er : (b :: a :: r).reverse.map (cr z) = r.reverse.map (cr z) ++ [cr z a, cr z b] := by simp
    have er2 : (a :: r).reverse.map (cr z) = r.reverse.map (cr z) ++ [cr z a] := by simp
    have t : wt_bent_hull_1 [.val P, .own w ((b :: a :: r).reverse.map (cr z)), .val (.int (c : Int)), .val (.int (z c)), s4, s5, s6, s7] = some (true, [.val P, .own w ((b :: a :: r).reverse.map (cr z)), .val (.int (c : Int)), .val (.int (z c)), s4, s5, s6, s7]) := by
      simp [wt_bent_hull_1]
      omega
    have m1 := mulOk_z zb (a := b) (b := a) (x := (c : Int) - (b : Int)) (small_z (by omega))
    have m2 := mulOk_z zb (a := c) (b := b) (x := (b : Int) - (a : Int)) (small_z (by omega))
    have ct := cut_two (r.reverse.map (cr z)) (cr z a) (cr z b)
    have ht := pop_test (z := z) (a := a) (b := b) (c := c) (by omega) hbc
    by_cases q : (zR z b - zR z a) * ((c - b : Nat) : Rat) > (zR z c - zR z b) * ((b - a : Nat) : Rat)
    · have e : popS (zR z) c (b :: a :: r) = b :: a :: r := by
        unfold popS
        rw [if_pos q]
      rw [e]
      have qi := ht.mpr q
      have hb : wb_bent_hull_1 [.val P, .own w ((b :: a :: r).reverse.map (cr z)), .val (.int (c : Int)), .val (.int (z c)), s4, s5, s6, s7] = some (.bk, [.val P, .own w ((b :: a :: r).reverse.map (cr z)), .val (.int (c : Int)), .val (.int (z c)), .val (.int (a : Int)), .val (.int (z a)), .val (.int (b : Int)), .val (.int (z b))]) := by
        rw [er]
        generalize r.reverse.map (cr z) = R at *
        simp only [cr] at *
        generalize z a = za at *
        generalize z b = zb at *
        generalize z c = zc at *
        simp [wb_bent_hull_1, ct, tg_pairs, m1, m2, qi]
      refine ⟨1, .val (.int (a : Int)), .val (.int (z a)), .val (.int (b : Int)), .val (.int (z b)), ?_⟩
      unfold whL
      rw [t]
      simp only [Option.bind_some, if_true]
      rw [hb]
      rfl
    · have e : popS (zR z) c (b :: a :: r) = popS (zR z) c (a :: r) := by
        conv => lhs; unfold popS
        rw [if_neg q]
      rw [e]
      have qi : ¬ _ := fun h => q (ht.mp h)
      obtain ⟨m, s4', s5', s6', s7', ih⟩ := hull_pop zb hc (P := P) (w := w) (a :: r) (List.pairwise_cons.mp hp).2 (fun k hk => hl k (List.mem_cons_of_mem _ hk)) (.val (.int (a : Int))) (.val (.int (z a))) (.val (.int (b : Int))) (.val (.int (z b)))
      have hb : wb_bent_hull_1 [.val P, .own w ((b :: a :: r).reverse.map (cr z)), .val (.int (c : Int)), .val (.int (z c)), s4, s5, s6, s7] = some (.nx, [.val P, .own w ((a :: r).reverse.map (cr z)), .val (.int (c : Int)), .val (.int (z c)), .val (.int (a : Int)), .val (.int (z a)), .val (.int (b : Int)), .val (.int (z b))]) := by
        have pe : ∀ e, kPop 1 e (some (.own w (r.reverse.map (cr z) ++ [cr z a, cr z b]))) = some (cr z b, e.set 1 (.own w (r.reverse.map (cr z) ++ [cr z a]))) := fun e => by
          rw [show r.reverse.map (cr z) ++ [cr z a, cr z b] = (r.reverse.map (cr z) ++ [cr z a]) ++ [cr z b] by simp]
          exact kPop_e
        rw [er, er2]
        generalize r.reverse.map (cr z) = R at *
        simp only [cr] at *
        generalize z a = za at *
        generalize z b = zb at *
        generalize z c = zc at *
        simp [wb_bent_hull_1, ct, tg_pairs, m1, m2, qi, pe]
      exact ⟨m + 1, s4', s5', s6', s7', whL_turn t hb ih⟩
theorem scanS_lt {f : Nat → Rat} {t : Nat} : (∀ k ∈ scanS f t, k ≤ t) ∧ (scanS f t).Pairwise (· > ·) := by
  obtain ⟨r, e⟩ := scanS_head (f := f) t
  have p := Oks.desc (scanS_ok f t)
  refine ⟨fun k hk => ?_, p⟩
  rw [e] at hk p
  rcases List.mem_cons.mp hk with rfl | hk
  · exact Nat.le_refl _
  · have := (List.pairwise_cons.mp p).1 k hk
    omega
theorem len_desc {s : List Nat} {t : Nat} (h1 : ∀ k ∈ s, k ≤ t) (h2 : s.Pairwise (· > ·)) : s.length ≤ t + 1 := by
  induction s generalizing t with
  | nil => simp
  | cons a r ih =>
    have a1 := h1 a (by simp)
    have p := List.pairwise_cons.mp h2
    cases a with
    | zero =>
      cases r with
      | nil => simp
      | cons b r => have := p.1 b (by simp); omega
    | succ a =>
      have := ih (t := a) (fun k hk => by have := p.1 k hk; omega) p.2
      rw [List.length_cons]
      omega
theorem v_bent_hull (zb : ∀ k, (z k).natAbs < 2 ^ 5000) {n : Nat} (hn : n ≤ 900) : Ph_bent_hull [.list ((List.range (n + 1)).map (cr z))] = some (.list ((scanS (zR z) n).reverse.map (cr z))) := by
  generalize hP : PyData.list ((List.range (n + 1)).map (cr z)) = P
  let st : Nat → List Nat := fun i => match i with | 0 => [] | t + 1 => scanS (zR z) t
  have hlp := for_at0 (tg := g2 2 (gsC (g1 2) (gsC (g1 3) gsN))) (f := lp_bent_hull_1) (E := cr z) (xs := List.range (n + 1)) (S := fun i e => ∃ s2 s3 s4 s5 s6 s7, e = [.val P, .own false ((st i).reverse.map (cr z)), s2, s3, s4, s5, s6, s7]) (e := [.val P, .own false [], .no, .no, .no, .no, .no, .no]) ⟨_, _, _, _, _, _, rfl⟩ fun i x hi e ⟨s2, s3, s4, s5, s6, s7, he⟩ => by
    subst he
    have hx : x = i ∧ i < n + 1 := by
      obtain ⟨h1, h2⟩ := List.getElem?_eq_some_iff.mp hi
      rw [List.getElem_range] at h2
      rw [List.length_range] at h1
      exact ⟨h2.symm, h1⟩
    obtain ⟨rfl, hin⟩ := hx
    have hst : (∀ k ∈ st x, k ≤ x) ∧ (st x).Pairwise (· > ·) := by
      cases x with
      | zero => exact ⟨fun k hk => absurd hk (by simp [st]), List.Pairwise.nil⟩
      | succ t =>
        obtain ⟨h1, h2⟩ := scanS_lt (f := zR z) (t := t)
        exact ⟨fun k hk => by have := h1 k hk; omega, h2⟩
    have hnx : st (x + 1) = x :: popS (zR z) x (st x) := by
      cases x with
      | zero => rfl
      | succ t => rfl
    obtain ⟨m, s4', s5', s6', s7', hw⟩ := hull_pop zb (c := x) (by omega) (P := P) (w := false) (st x) hst.2 hst.1 s4 s5 s6 s7
    have hw := sWh_of hw
    have hll : ((popS (zR z) x (st x)).reverse.map (cr z)).length ≤ 1000000 := by
      have h := scanS_lt (f := zR z) (t := x)
      have h2 : st (x + 1) = scanS (zR z) x := rfl
      rw [← h2, hnx] at h
      have := len_desc h.1 h.2
      simp at this ⊢
      omega
    refine ⟨_, [.val P, .own false ((st (x + 1)).reverse.map (cr z)), .val (.int (x : Int)), .val (.int (z x)), s4', s5', s6', s7'], .nx, rfl, ?_, .inl rfl, ⟨_, _, _, _, _, _, rfl⟩⟩
    have e1 : (st (x + 1)).reverse.map (cr z) = (popS (zR z) x (st x)).reverse.map (cr z) ++ [cr z x] := by rw [hnx]; simp
    rw [e1]
    have hw : sWh wt_bent_hull_1 wb_bent_hull_1 [.val P, .own false ((st x).reverse.map (cr z)), .val (.int (x : Int)), .val (.int (z x)), s4, s5, s6, s7] = some (.nx, [.val P, .own false ((popS (zR z) x (st x)).reverse.map (cr z)), .val (.int (x : Int)), .val (.int (z x)), s4', s5', s6', s7']) := hw
    have ap := fun e => @kApp2_ok e (cr z x) 1 false ((popS (zR z) x (st x)).reverse.map (cr z)) hll
    generalize (popS (zR z) x (st x)).reverse.map (cr z) = R2 at *
    generalize (st x).reverse.map (cr z) = R1 at *
    simp only [cr] at *
    generalize z x = zx at *
    simp [lp_bent_hull_1, hw, ap]
  obtain ⟨e', l1, s2, s3, s4, s5, s6, s7, rfl⟩ := hlp
  rw [List.length_range] at l1
  have e2 : st (n + 1) = scanS (zR z) n := rfl
  rw [e2] at l1
  have hi : items P = some ((List.range (n + 1)).map (cr z)) := by rw [← hP]; rfl
  generalize (List.range (n + 1)).map (cr z) = W at *
  generalize (scanS (zR z) n).reverse.map (cr z) = R at *
  unfold Ph_bent_hull
  rw [run1]
  unfold dn_bent_hull
  simp [-items, hi, l1]
end
end K64
set_option Elab.async false
set_option linter.all false
set_option maxRecDepth 100000
set_option maxHeartbeats 4000000
namespace K64
open PySem PySem.Spec PyProof.Rows L2 Dn
/-- the amounts of corners, the first one first -/
def difU (f : Nat → Rat) : List Nat → List Rat
  | a :: b :: r => List.replicate (b - a) (slo f a b) ++ difU f (b :: r)
  | _ => []
theorem difU_snoc {f : Nat → Rat} {a b : Nat} : ∀ x : List Nat, difU f (x ++ [a, b]) = difU f (x ++ [a]) ++ List.replicate (b - a) (slo f a b)
  | [] => by simp [difU]
  | [c] => by simp [difU]
  | c :: d :: x => by
    have ih := difU_snoc (f := f) (a := a) (b := b) (d :: x)
    simp only [List.cons_append] at ih ⊢
    rw [difU, ih, difU, List.append_assoc]
theorem difU_rev {f : Nat → Rat} : ∀ s : List Nat, difU f s.reverse = difS f s
  | [] => rfl
  | [a] => rfl
  | b :: a :: r => by
    have ih := difU_rev (f := f) (a :: r)
    rw [difS, ← ih]
    have e : (b :: a :: r).reverse = r.reverse ++ [a, b] := by simp
    rw [e, difU_snoc]
    simp
section
variable {z : Nat → Int} {L : Nat}
def jn (z : Nat → Int) (L : Nat) (l : List Nat) : List Rat := (difU (zR z) l).map fun x => (L : Rat)⁻¹ * x
theorem sl_eq (hL : 0 < L) {a b : Nat} (h : a < b) : Rat.divInt (z b - z a) ((L : Int) * ((b : Int) - (a : Int))) = (L : Rat)⁻¹ * slo (zR z) a b := by
  rw [subC (Nat.le_of_lt h), Rat.divInt_eq_div, Rat.intCast_mul, Rat.intCast_sub]
  unfold slo zR
  have l0 := nat_posR hL
  have d0 := nat_posR (show 0 < b - a by omega)
  have c1 : (((L : Int)) : Rat) = (L : Rat) := rfl
  have c2 : ((((b - a : Nat) : Int)) : Rat) = ((b - a : Nat) : Rat) := rfl
  rw [c1, c2]
  generalize ((b - a : Nat) : Rat) = d at *
  generalize (L : Rat) = l at *
  grind
abbrev tgJ : Tg := g2 2 (gsC (g2 2 (gsC (g1 7) (gsC (g1 8) gsN))) (gsC (g2 2 (gsC (g1 9) (gsC (g1 10) gsN))) gsN))
theorem tgJ_e {A B C D : PyData} {x0 x1 x2 x3 x4 x5 x6 x7 x8 x9 x10 x11 : Sl} : tgJ (.tuple [.tuple [A, B], .tuple [C, D]]) [x0, x1, x2, x3, x4, x5, x6, x7, x8, x9, x10, x11] = some [x0, x1, x2, x3, x4, x5, x6, .val A, .val B, .val C, .val D, x11] := rfl
theorem reps_one {x : PyData} {m : Nat} : reps (m : Int) [x] = List.replicate m x := by
  unfold reps
  rw [Int.toNat_natCast]
  induction m with
  | zero => rfl
  | succ m ih => rw [List.replicate_succ, List.flatten_cons, ih, List.replicate_succ]; rfl
theorem join_loop (hL : 0 < L) (hL2 : L < 2 ^ 2000) {X0 X1 X2 X3 X5 : PyData} : ∀ (l : List Nat) (acc : List Rat) (s7 s8 s9 s10 s11 : Sl), l.Pairwise (· < ·) → (∀ k ∈ l, k ≤ 7) → acc.length + (8 - l.headD 8) ≤ 100 →
    ∃ s7' s8' s9' s10', forL tgJ lp_join_1 (zipD (l.map (cr z)) ((l.drop 1).map (cr z))) [.val X0, .val X1, .val X2, .val X3, .val (.int (L : Int)), .val X5, .val (.list (acc.map encQ)), s7, s8, s9, s10, s11] = some (.nx, [.val X0, .val X1, .val X2, .val X3, .val (.int (L : Int)), .val X5, .val (.list ((acc ++ jn z L l).map encQ)), s7', s8', s9', s10', s11])
  | [], acc, s7, s8, s9, s10, s11, _, _, _ => ⟨s7, s8, s9, s10, by simp [jn, difU]; rfl⟩
  | [a], acc, s7, s8, s9, s10, s11, _, _, _ => ⟨s7, s8, s9, s10, by simp [jn, difU]; rfl⟩
  | a :: b :: r, acc, s7, s8, s9, s10, s11, hp, hl, ha => by
    have hab : a < b := (List.pairwise_cons.mp hp).1 b (by simp)
    have hb7 := hl b (by simp)
    have ha2 : acc.length + (8 - a) ≤ 100 := ha
    obtain ⟨s7', s8', s9', s10', ih⟩ := join_loop hL hL2 (X0 := X0) (X1 := X1) (X2 := X2) (X3 := X3) (X5 := X5) (b :: r) (acc ++ List.replicate (b - a) ((L : Rat)⁻¹ * slo (zR z) a b)) (.val (.int (a : Int))) (.val (.int (z a))) (.val (.int (b : Int))) (.val (.int (z b))) s11 (List.pairwise_cons.mp hp).2 (fun k hk => hl k (List.mem_cons_of_mem _ hk)) (by
      rw [List.length_append, List.length_replicate]
      show _ + (8 - b) ≤ 100
      omega)
    refine ⟨s7', s8', s9', s10', ?_⟩
    have e0 : zipD ((a :: b :: r).map (cr z)) (((a :: b :: r).drop 1).map (cr z)) = .tuple [cr z a, cr z b] :: zipD ((b :: r).map (cr z)) (((b :: r).drop 1).map (cr z)) := rfl
    have ej : acc ++ jn z L (a :: b :: r) = acc ++ List.replicate (b - a) ((L : Rat)⁻¹ * slo (zR z) a b) ++ jn z L (b :: r) := by
      unfold jn
      rw [difU, List.map_append, List.map_replicate, List.append_assoc]
    have hf := v_fraction (a := z b - z a) (b := (L : Int) * ((b : Int) - (a : Int))) (Int.mul_pos (by omega) (by omega)) (by
      rw [Int.natAbs_mul]
      have h1 : ((b : Int) - (a : Int)).natAbs < 2 ^ 3 := by omega
      exact lt_pow (mul_pow (a := 2000) (b := 3) (show ((L : Int)).natAbs < 2 ^ 2000 from hL2) h1) (by decide))
    rw [sl_eq hL hab] at hf
    have m1 : mulOk (L : Int) ((b : Int) - (a : Int)) = true := mulOk_lt (lt_pow (a := 2000) (show ((L : Int)).natAbs < 2 ^ 2000 from hL2) (by decide)) (lt_pow (a := 3) (show ((b : Int) - (a : Int)).natAbs < 2 ^ 3 by omega) (by decide))
    have hrep : ∀ (d : PyData) (e : En), kRep2 [d] (.int ((b : Int) - (a : Int)), e) = some (List.replicate (b - a) d, e) := fun d e => by
      rw [kRep2_n (by omega) (by simp) (by omega), subC (Nat.le_of_lt hab), reps_one]
    have hadd : gAdd (.list (acc.map encQ)) (.list (List.replicate (b - a) (encQ ((L : Rat)⁻¹ * slo (zR z) a b)))) = some (.list ((acc ++ List.replicate (b - a) ((L : Rat)⁻¹ * slo (zR z) a b)).map encQ)) := by
      show (if okN _ then _ else _) = _
      rw [okN_of (by simp; omega), if_pos rfl, List.map_append, List.map_replicate]
    rw [e0, for_cons, ej]
    have hb : lp_join_1 [.val X0, .val X1, .val X2, .val X3, .val (.int (L : Int)), .val X5, .val (.list (acc.map encQ)), .val (.int (a : Int)), .val (.int (z a)), .val (.int (b : Int)), .val (.int (z b)), s11] = some (.nx, [.val X0, .val X1, .val X2, .val X3, .val (.int (L : Int)), .val X5, .val (.list ((acc ++ List.replicate (b - a) ((L : Rat)⁻¹ * slo (zR z) a b)).map encQ)), .val (.int (a : Int)), .val (.int (z a)), .val (.int (b : Int)), .val (.int (z b)), s11]) := by
      generalize PyData.list ((acc ++ List.replicate (b - a) ((L : Rat)⁻¹ * slo (zR z) a b)).map encQ) = A2 at *
      generalize PyData.list (acc.map encQ) = A1 at *
      generalize encQ ((L : Rat)⁻¹ * slo (zR z) a b) = Q at *
      generalize z a = za at *
      generalize z b = zb at *
      simp [-gAdd, lp_join_1, hf, m1, hrep, hadd]
    rw [show cr z a = .tuple [.int (a : Int), .int (z a)] from rfl, show cr z b = .tuple [.int (b : Int), .int (z b)] from rfl, tgJ_e, Option.bind_some, hb, Option.bind_some, kTurn_nx]
    exact ih
end
section
variable {n D : Nat} {T : Rat} {q r : List Rat}
def mxF (q r : List Rat) (k : Nat) : Rat := mx (gS q k) (gS r k)
theorem v_join (hq : QOk n D T q) (hr : QOk n D T r) (hD : 0 < D) (hD2 : D < 2 ^ 2000) (hT : T ≤ (NB : Rat)) (h1 : 1 ≤ n) (hn : n ≤ 7) : ∃ E, Ph_join [eL q, eL r] = some (eL E) ∧ Hul n (mxF q r) E := by
  obtain ⟨L, a, b, e, L0, L2, la, lb, ra, rb⟩ := v_sums_of_greatest hq hr hD hD2 hT h1 hn
  let z : Nat → Int := fun k => mxI (sI a k) (sI b k)
  have hz : ∀ k, zR z k = (L : Rat) * mxF q r k := fun k => by
    show ((mxI (sI a k) (sI b k) : Int) : Rat) = _
    rw [mxI_R, sI_scale ra, sI_scale rb, mx_scale (L_nn L)]
    rfl
  have zb : ∀ k, (z k).natAbs < 2 ^ 5000 := fun k => by
    have bd : ∀ (c : List Int) (s : List Rat), QOk n D T s → rR c = s.map (fun x => (L : Rat) * x) → (sI c k).natAbs < 2 ^ 5000 := fun c s hs hc => by
      have e1 : ((sI c k : Int) : Rat) = (L : Rat) * gS s k := sI_scale hc k
      have g0 : 0 ≤ gS s k := gS_nn hs.nn k
      have g1 : gS s k ≤ T := by
        by_cases hk : k ≤ n
        · have := gS_mono hs.nn hk
          rwa [gS_all (show s.length ≤ n by rw [hs.len]; exact Nat.le_refl _), hs.sum] at this
        · rw [gS_all (by rw [hs.len]; omega), hs.sum]; exact Rat.le_refl
      have l0 := nat_posR L0
      have h0 : (0 : Rat) ≤ ((sI c k : Int) : Rat) := by rw [e1]; exact Rat.mul_nonneg (Rat.le_of_lt l0) g0
      have h1 : ((sI c k : Int) : Rat) ≤ ((L * NB : Nat) : Rat) := by
        rw [e1, Rat.natCast_mul]
        exact Rat.mul_le_mul_of_nonneg_left (Rat.le_trans g1 hT) (Rat.le_of_lt l0)
      have i0 : 0 ≤ sI c k := Rat.intCast_le_intCast.mp h0
      have i1 : sI c k ≤ ((L * NB : Nat) : Int) := Rat.intCast_le_intCast.mp h1
      have l3 := mul_pow L2 NB_lt
      refine lt_pow (a := 2000 + 1000) (Nat.lt_of_le_of_lt (m := L * NB) (by omega) l3) (by decide)
    show (mxI (sI a k) (sI b k)).natAbs < _
    unfold mxI
    split
    · exact bd b r hr rb
    · exact bd a q hq ra
  refine ⟨jn z L (scanS (zR z) n).reverse, ?_, ?_⟩
  · rw [iD_mapN (sI a), iD_mapN (sI b)] at e
    have i1 : ∀ k, k < n + 1 → gIx (.list ((List.range (n + 1)).map fun k => PyData.int (sI a k))) (.int (k : Int)) = some (.int (sI a k)) := fun k hk => by rw [← iD_mapN]; exact iD_atN hk
    have i2 : ∀ k, k < n + 1 → gIx (.list ((List.range (n + 1)).map fun k => PyData.int (sI b k))) (.int (k : Int)) = some (.int (sI b k)) := fun k hk => by rw [← iD_mapN]; exact iD_atN hk
    have hc := cm_a (a := ce_join_1) (i := 11) (e := [.val (eL q), .val (eL r), .val (.list ((List.range (n + 1)).map fun k => PyData.int (sI a k))), .val (.list ((List.range (n + 1)).map fun k => .int (sI b k))), .val (.int (L : Int)), .no, .no, .no, .no, .no, .no, .no]) (xs := List.range (n + 1)) (E := fun (i : Nat) => .int (i : Int)) (D := cr z) (F := id) (by simp; omega) rfl rfl fun k hk => by
      have hk' := List.mem_range.mp hk
      have h1 := i1 k hk'
      have h2 := i2 k hk'
      have g := gMax2_mx (sI a k) (sI b k)
      generalize PyData.list ((List.range (n + 1)).map fun k => PyData.int (sI a k)) = SA at *
      generalize PyData.list ((List.range (n + 1)).map fun k => PyData.int (sI b k)) = SB at *
      generalize eL q = Q at *
      generalize eL r = R at *
      simp [-gMax2, -gIx, ce_join_1, h1, h2, g, z, cr]
    rw [List.map_id] at hc
    have hh := v_bent_hull zb (n := n) (by omega)
    obtain ⟨hs1, hs2⟩ := scanS_lt (f := zR z) (t := n)
    have lr1 : (scanS (zR z) n).reverse.Pairwise (· < ·) := List.pairwise_reverse.mpr (hs2.imp fun h => h)
    obtain ⟨s7, s8, s9, s10, lp⟩ := join_loop (z := z) L0 L2 (X0 := eL q) (X1 := eL r) (X2 := .list ((List.range (n + 1)).map fun k => PyData.int (sI a k))) (X3 := .list ((List.range (n + 1)).map fun k => PyData.int (sI b k))) (X5 := .list ((scanS (zR z) n).reverse.map (cr z))) (scanS (zR z) n).reverse [] .no .no .no .no .no lr1 (fun k hk => by
      have := hs1 k (List.mem_reverse.mp hk)
      omega) (by simp; omega)
    rw [List.nil_append] at lp
    have ct : gCut (.list ((scanS (zR z) n).reverse.map (cr z))) (some 1) none = some (.list (((scanS (zR z) n).reverse.drop 1).map (cr z))) := by
      have : gCut (.list ((scanS (zR z) n).reverse.map (cr z))) (some 1) none = some (.list (Dn.cutD ((scanS (zR z) n).reverse.map (cr z)) (some ((1 : Nat) : Int)) none)) := rfl
      rw [this, cutD_fromN, List.map_drop]
    have hZ : ∀ e, kZp ([.list ((scanS (zR z) n).reverse.map (cr z)), .list (((scanS (zR z) n).reverse.drop 1).map (cr z))], e) = some (zipD ((scanS (zR z) n).reverse.map (cr z)) (((scanS (zR z) n).reverse.drop 1).map (cr z)), e) := fun _ => rfl
    have l1 := eL_len q
    rw [hq.len] at l1
    have hr1 := fun e => @kR1_len (n + 1) e (by omega)
    have nn : ((n + 1 : Nat) : Int) = (n : Int) + 1 := by omega
    rw [nn] at hr1
    have hres : eL (jn z L (scanS (zR z) n).reverse) = .tuple ((jn z L (scanS (zR z) n).reverse).map encQ) := rfl
    rw [hres]
    have ne : ([] : List Rat).map encQ = [] := rfl
    rw [ne] at lp
    generalize (jn z L (scanS (zR z) n).reverse).map encQ = RES at *
    generalize eL q = Q at *
    generalize eL r = R at *
    generalize zipD ((scanS (zR z) n).reverse.map (cr z)) (((scanS (zR z) n).reverse.drop 1).map (cr z)) = ZZ at *
    generalize PyData.list (((scanS (zR z) n).reverse.drop 1).map (cr z)) = C2 at *
    generalize PyData.list ((scanS (zR z) n).reverse.map (cr z)) = C1 at *
    generalize (List.range (n + 1)).map (cr z) = CC at *
    generalize PyData.list ((List.range (n + 1)).map (fun k => PyData.int (sI a k))) = SA at *
    generalize PyData.list ((List.range (n + 1)).map (fun k => PyData.int (sI b k))) = SB at *
    generalize (List.range (n + 1)).map (fun (i : Nat) => PyData.int (i : Int)) = WW at *
    unfold Ph_join
    rw [run2]
    unfold dn_join
    simp [-gLen, -gCut, e, l1, hr1, hc, hh, ct, hZ, lp]
  · unfold jn
    rw [difU_rev]
    have z0 : zR z 0 = 0 := by rw [hz]; unfold mxF; rw [gS_0, gS_0, mx_self, Rat.mul_zero]
    have h := (scan_hull (f := zR z) z0 n).hul
    have l0 := nat_posR L0
    refine (h.scale (c := (L : Rat)⁻¹) (Rat.inv_pos.mpr l0)).congr fun k hk => ?_
    rw [hz]
    have : (L : Rat)⁻¹ * (L : Rat) = 1 := Rat.inv_mul_cancel _ (fun c => by rw [c] at l0; exact absurd l0 (by decide))
    rw [← Rat.mul_assoc, this, Rat.one_mul]
end
end K64
set_option Elab.async false
set_option linter.all false
set_option maxRecDepth 100000
set_option maxHeartbeats 4000000
namespace K64
open PySem PySem.Spec PyProof.Rows L2 Dn
/-- integers over b -/
def eQ (b : Nat) (ns : List Int) : List Rat := (rR ns).map fun x => (b : Rat)⁻¹ * x
theorem eQ_div (b : Nat) (ns : List Int) : ((rR ns).map fun x => x / (((b : Int)) : Rat)) = eQ b ns := by
  unfold eQ
  refine List.map_congr_left fun x _ => ?_
  have c : (((b : Int)) : Rat) = (b : Rat) := rfl
  rw [c, Rat.div_def, Rat.mul_comm]
section
variable {n b D : Nat} {T : Rat} {q : List Rat}
theorem inv_nn (b : Nat) : (0 : Rat) ≤ (b : Rat)⁻¹ := by
  by_cases h : b = 0
  · subst h; decide +kernel
  · exact Rat.le_of_lt (Rat.inv_pos.mpr (nat_posR (by omega)))
theorem inv_mul {b : Nat} (hb : 0 < b) (x : Rat) : (b : Rat) * ((b : Rat)⁻¹ * x) = x := by
  have l0 := nat_posR hb
  rw [← Rat.mul_assoc, Rat.mul_inv_cancel _ (fun c => by rw [c] at l0; exact absurd l0 (by decide)), Rat.one_mul]
theorem gS_eQ (b : Nat) (ns : List Int) (k : Nat) : gS (eQ b ns) k = (b : Rat)⁻¹ * gS (rR ns) k := gS_scale (inv_nn b) k
theorem eQ_ok {S : Int} {ns : List Int} (hb : 0 < b) (h : NsOk n S ns) : QOk n b ((b : Rat)⁻¹ * (S : Rat)) (eQ b ns) := by
  refine ⟨by unfold eQ; rw [List.length_map, rR_len, h.len], fun x hx => ?_, fun x hx => ?_, ?_⟩
  · obtain ⟨y, hy, rfl⟩ := List.mem_map.mp hx
    exact Rat.mul_nonneg (inv_nn b) (h.rnn y hy)
  · obtain ⟨y, hy, rfl⟩ := List.mem_map.mp hx
    obtain ⟨z, hz, rfl⟩ := List.mem_map.mp hy
    exact ⟨z, by rw [Rat.mul_comm, inv_mul hb]⟩
  · have e := pS_scale (c := (b : Rat)⁻¹) (rR ns) n
    rw [pS_all (by rw [List.length_map, rR_len, h.len]; exact Nat.le_refl _), pS_all (by rw [rR_len, h.len]; exact Nat.le_refl _), qs_rR, h.sum] at e
    exact e
theorem QOk.up (h : QOk n b T q) (hd : b ∣ D) : QOk n D T q := ⟨h.len, h.nn, fun x hx => (h.pt x hx).up hd, h.sum⟩
theorem pt_take : ∀ {l : List Rat}, (∀ x ∈ l, Pt D x) → Pt D (qs l)
  | [], _ => Pt.zero
  | x :: l, h => by
    rw [qs_cons]
    exact (h x List.mem_cons_self).add (pt_take fun y hy => h y (List.mem_cons_of_mem _ hy))
theorem QOk.gpt (h : QOk n D T q) (k : Nat) : Pt D (gS q k) := by
  unfold gS pS
  exact pt_take fun x hx => h.pt x ((dsc_perm q).mem_iff.mp (List.mem_of_mem_take hx))
theorem QOk.gtop (h : QOk n D T q) : gS q n = T := by
  rw [gS_all (by rw [h.len]; exact Nat.le_refl _), h.sum]
theorem QOk.gmid (h : QOk n D T q) (k : Nat) (hk : k + 2 ≤ n) : gS q k + gS q (k + 2) ≤ gS q (k + 1) + gS q (k + 1) := pS_mid (dsc_dsc q) (by rw [dsc_len, h.len]; exact hk)
theorem qok_stp {f : Nat → Rat} (f0 : f 0 = 0) (fn : f n = T) (fm : ∀ k, k < n → f k ≤ f (k + 1)) (fp : ∀ k, k ≤ n → Pt D (f k)) : QOk n D T (stp f n) := by
  refine ⟨stp_len _ _, fun x hx => ?_, fun x hx => ?_, ?_⟩
  · obtain ⟨k, hk, rfl⟩ := List.mem_map.mp hx
    have := fm k (List.mem_range.mp hk)
    grind
  · obtain ⟨k, hk, rfl⟩ := List.mem_map.mp hx
    have hk := List.mem_range.mp hk
    exact (fp (k + 1) (by omega)).sub (fp k (by omega))
  · have := pS_stp f0 (n := n) n (Nat.le_refl _)
    rw [pS_all (by rw [stp_len]; exact Nat.le_refl _), fn] at this
    exact this
theorem pt_420 {x y : Rat} {d : Nat} (h1 : 1 ≤ d) (h7 : d ≤ 7) (hx : Pt b y) (e : x * (d : Rat) = y) : Pt (420 * b) x := by
  obtain ⟨w, hw⟩ : ∃ w : Nat, 420 = d * w := by
    have : d ∣ 420 := by
      rcases (show d = 1 ∨ d = 2 ∨ d = 3 ∨ d = 4 ∨ d = 5 ∨ d = 6 ∨ d = 7 by omega) with rfl | rfl | rfl | rfl | rfl | rfl | rfl <;> decide
    exact this
  obtain ⟨z, hz⟩ := hx
  refine ⟨(w : Int) * z, ?_⟩
  rw [hw, Rat.natCast_mul, Rat.natCast_mul, Rat.intCast_mul, ← hz, ← e]
  have c : (((w : Int)) : Rat) = (w : Rat) := rfl
  rw [c]
  grind
theorem nat_pt {x : Rat} (h : Pt b x) (m : Nat) : Pt b (x * (m : Rat)) := by
  obtain ⟨z, hz⟩ := h
  refine ⟨z * (m : Int), ?_⟩
  rw [Rat.intCast_mul, ← hz]
  have c : (((m : Int)) : Rat) = (m : Rat) := rfl
  rw [c]
  grind
theorem hull_pS_pt {f : Nat → Rat} {E : List Rat} (h : Hull n f E) (hn : n ≤ 7) (fp : ∀ k, k ≤ n → Pt b (f k)) {k : Nat} (hk : k ≤ n) : Pt (420 * b) (pS E k) := by
  rcases h.att k hk with e | ⟨lo, hi, h1, h2, h3, e⟩
  · rw [e]
    exact (fp k hk).up (Nat.dvd_mul_left _ _)
  · exact pt_420 (d := hi - lo) (by omega) (by omega) ((nat_pt (fp lo (by omega)) _).add (nat_pt (fp hi h3) _)) e
theorem qok_hull {f : Nat → Rat} {E : List Rat} (h : Hull n f E) (hn : n ≤ 7) (fp : ∀ k, k ≤ n → Pt b (f k)) (ft : ∀ k, k ≤ n → f k ≤ f n) (fn : f n = T) : QOk n (420 * b) T E := by
  refine ⟨h.len, h.nn ft, fun x hx => ?_, ?_⟩
  · obtain ⟨k, hk, rfl⟩ := List.mem_iff_getElem.mp hx
    have e := pS_succ hk
    have hk' : k < n := by rw [← h.len]; exact hk
    have a := hull_pS_pt h hn fp (k := k) (by omega)
    have c := hull_pS_pt h hn fp (k := k + 1) (by omega)
    have := c.sub a
    rw [e] at this
    have e2 : pS E k + E[k] - pS E k = E[k] := by grind
    rwa [e2] at this
  · have := h.end
    rw [pS_all (by rw [h.len]; exact Nat.le_refl _), fn] at this
    exact this
structure EsOk (n b : Nat) (T : Rat) (Es : List (List Rat)) : Prop where
  ne : Es ≠ []
  ok : ∀ q ∈ Es, QOk n b T q
  len : Es.length ≤ 1000
structure IsLo (Es : List (List Rat)) (f : Nat → Rat) : Prop where
  le : ∀ q ∈ Es, ∀ k, f k ≤ gS q k
  at_ : ∀ k, ∃ q ∈ Es, f k = gS q k
structure IsHi (Es : List (List Rat)) (f : Nat → Rat) : Prop where
  ge : ∀ q ∈ Es, ∀ k, gS q k ≤ f k
  at_ : ∀ k, ∃ q ∈ Es, f k = gS q k
variable {Es Fs : List (List Rat)} {f g : Nat → Rat}
theorem IsLo.uniq (h : IsLo Es f) (h2 : IsLo Fs g) (hm : ∀ q, q ∈ Es ↔ q ∈ Fs) : f = g := by
  funext k
  obtain ⟨q, hq, e⟩ := h.at_ k
  obtain ⟨r, hr, e2⟩ := h2.at_ k
  refine Rat.le_antisymm ?_ ?_
  · rw [e2]; exact h.le r ((hm r).mpr hr) k
  · rw [e]; exact h2.le q ((hm q).mp hq) k
theorem IsHi.uniq (h : IsHi Es f) (h2 : IsHi Fs g) (hm : ∀ q, q ∈ Es ↔ q ∈ Fs) : f = g := by
  funext k
  obtain ⟨q, hq, e⟩ := h.at_ k
  obtain ⟨r, hr, e2⟩ := h2.at_ k
  refine Rat.le_antisymm ?_ ?_
  · rw [e]; exact h2.ge q ((hm q).mp hq) k
  · rw [e2]; exact h.ge r ((hm r).mpr hr) k
theorem isLo_one (q : List Rat) : IsLo [q] (gS q) := ⟨fun r hr k => by rw [List.mem_singleton.mp hr]; exact Rat.le_refl, fun k => ⟨q, List.mem_singleton.mpr rfl, rfl⟩⟩
theorem isHi_one (q : List Rat) : IsHi [q] (gS q) := ⟨fun r hr k => by rw [List.mem_singleton.mp hr]; exact Rat.le_refl, fun k => ⟨q, List.mem_singleton.mpr rfl, rfl⟩⟩
theorem IsLo.snoc (h : IsLo Es f) (q : List Rat) : IsLo (Es ++ [q]) fun k => mn (f k) (gS q k) := by
  refine ⟨fun r hr k => ?_, fun k => ?_⟩
  · rcases List.mem_append.mp hr with hr | hr
    · exact Rat.le_trans (mn_l _ _) (h.le r hr k)
    · rw [List.mem_singleton.mp hr]; exact mn_r _ _
  · rcases mn_or (f k) (gS q k) with e | e
    · obtain ⟨r, hr, e2⟩ := h.at_ k
      exact ⟨r, List.mem_append_left _ hr, e.trans e2⟩
    · exact ⟨q, by simp, e⟩
theorem IsHi.snoc (h : IsHi Es f) (q : List Rat) : IsHi (Es ++ [q]) fun k => mx (f k) (gS q k) := by
  refine ⟨fun r hr k => ?_, fun k => ?_⟩
  · rcases List.mem_append.mp hr with hr | hr
    · exact Rat.le_trans (h.ge r hr k) (mx_l _ _)
    · rw [List.mem_singleton.mp hr]; exact mx_r _ _
  · rcases mx_or (f k) (gS q k) with e | e
    · obtain ⟨r, hr, e2⟩ := h.at_ k
      exact ⟨r, List.mem_append_left _ hr, e.trans e2⟩
    · exact ⟨q, by simp, e⟩
theorem IsLo.facts (h : IsLo Es f) (ho : ∀ q ∈ Es, QOk n D T q) : f 0 = 0 ∧ f n = T ∧ (∀ i j, i ≤ j → f i ≤ f j) ∧ (∀ k, Pt D (f k)) ∧ ∀ k, k + 2 ≤ n → f k + f (k + 2) ≤ f (k + 1) + f (k + 1) := by
  refine ⟨?_, ?_, fun i j hij => ?_, fun k => ?_, fun k hk => ?_⟩
  · obtain ⟨q, _, e⟩ := h.at_ 0
    rw [e, gS_0]
  · obtain ⟨q, hq, e⟩ := h.at_ n
    rw [e, (ho q hq).gtop]
  · obtain ⟨q, hq, e⟩ := h.at_ j
    rw [e]
    exact Rat.le_trans (h.le q hq i) (gS_mono (ho q hq).nn hij)
  · obtain ⟨q, hq, e⟩ := h.at_ k
    rw [e]
    exact (ho q hq).gpt k
  · obtain ⟨q, hq, e⟩ := h.at_ (k + 1)
    have a := h.le q hq k
    have c := h.le q hq (k + 2)
    have d := (ho q hq).gmid k hk
    rw [e]
    grind
theorem IsHi.facts (h : IsHi Es f) (ho : ∀ q ∈ Es, QOk n D T q) : f 0 = 0 ∧ f n = T ∧ (∀ i j, i ≤ j → f i ≤ f j) ∧ ∀ k, Pt D (f k) := by
  refine ⟨?_, ?_, fun i j hij => ?_, fun k => ?_⟩
  · obtain ⟨q, _, e⟩ := h.at_ 0
    rw [e, gS_0]
  · obtain ⟨q, hq, e⟩ := h.at_ n
    rw [e, (ho q hq).gtop]
  · obtain ⟨q, hq, e⟩ := h.at_ i
    rw [e]
    exact Rat.le_trans (gS_mono (ho q hq).nn hij) (h.ge q hq j)
  · obtain ⟨q, hq, e⟩ := h.at_ k
    rw [e]
    exact (ho q hq).gpt k
/-- the amounts whose sums are the least -/
theorem IsLo.stp_ok (h : IsLo Es f) (ho : ∀ q ∈ Es, QOk n D T q) : QOk n D T (stp f n) ∧ Dsc (stp f n) ∧ ∀ k, k ≤ n → gS (stp f n) k = f k := by
  obtain ⟨f0, fn, fm, fp, fb⟩ := h.facts ho
  have hd := stp_dsc fb
  refine ⟨qok_stp f0 fn (fun k _ => fm k (k + 1) (by omega)) fun k _ => fp k, hd, fun k hk => ?_⟩
  rw [gS_dsc hd, pS_stp f0 k hk]
theorem IsHi.hul_ok (h : IsHi Es f) (ho : ∀ q ∈ Es, QOk n b T q) (hn : n ≤ 7) {E : List Rat} (hE : Hul n f E) : QOk n (420 * b) T E := by
  obtain ⟨f0, fn, fm, fp⟩ := h.facts ho
  exact qok_hull (hE.scan f0) hn (fun k _ => fp k) (fun k hk => fm k n hk) fn
theorem num_bd {x : Rat} {N : Nat} (h : Pt D x) (hD : 0 < D) (h0 : 0 ≤ x) (hN : x ≤ (N : Rat)) : x.num.natAbs ≤ N * D := by
  refine Nat.le_trans (h.num_le hD) ?_
  obtain ⟨z, hz⟩ := h
  rw [hz, Rat.num_intCast]
  have d0 := L_nn D
  have z0 : (0 : Rat) ≤ (z : Rat) := by rw [← hz]; exact Rat.mul_nonneg h0 d0
  have z1 : (z : Rat) ≤ ((N * D : Nat) : Rat) := by
    rw [← hz, Rat.natCast_mul]
    exact Rat.mul_le_mul_of_nonneg_right hN d0
  have i0 : 0 ≤ z := Rat.intCast_le_intCast.mp z0
  have i1 : z ≤ ((N * D : Nat) : Int) := Rat.intCast_le_intCast.mp z1
  omega
theorem sim_eL (q : List Rat) : Sim 3 (eL q) := fun d hd => by
  obtain ⟨x, _, rfl⟩ := List.mem_map.mp hd
  exact sim_q x
theorem rd_eL (h : QOk n D T q) (hn : n ≤ 8) (hD : 0 < D) (hD2 : D < 2 ^ 200) (hT : T ≤ (NB : Rat)) : Dn.Rd 8 3 (eL q) := by
  refine ⟨by rw [List.length_map, h.len]; exact hn, fun d hd => ?_⟩
  obtain ⟨x, hx, rfl⟩ := List.mem_map.mp hd
  refine ⟨by show 2 ≤ 8; decide, fun d hd => ?_⟩
  have nb := num_bd (h.pt x hx) hD (h.nn x hx) (Rat.le_trans (h.le x hx) hT)
  have db := Nat.le_of_dvd hD ((h.pt x hx).den_dvd hD)
  simp only [List.mem_cons, List.not_mem_nil, or_false] at hd
  rcases hd with rfl | rfl
  · have l := mul_pow NB_lt hD2
    exact lt_pow (Nat.lt_of_le_of_lt nb l) (by decide)
  · exact lt_pow (a := 200) (show ((x.den : Int)).natAbs < _ from Nat.lt_of_le_of_lt db hD2) (by decide)
theorem same_rd {d : PyData} (e1 : gEq d d = some (.bool true)) (h2 : repOk d = true) : Ph_law_same [d, d] = some (.bool true) := by
  have e2 : gRepEq d d = some (.bool true) := by
    unfold gRepEq
    rw [h2]
    simp
  unfold Ph_law_same
  rw [run2]
  unfold dn_law_same
  simp [-gEq, -gRepEq, e1, e2]
theorem same_q (h : QOk n D T q) (hn : n ≤ 8) (hD : 0 < D) (hD2 : D < 2 ^ 200) (hT : T ≤ (NB : Rat)) : Ph_law_same [eL q, eL q] = some (.bool true) :=
  same_rd (gEq_T (sim_eL q) (by decide)) ((rd_eL h hn hD hD2 hT).rep (by decide) (by decide))
theorem same_b (t : Bool) : Ph_law_same [.bool t, .bool t] = some (.bool true) := by
  have hr : Dn.Rd 8 3 (.bool t) := trivial
  have e : gEq (.bool t) (.bool t) = some (.bool true) := by
    rw [gEq_gen _ _ rfl rfl, eqv_bool, decide_eq_true rfl]
  exact same_rd e (hr.rep (by decide) (by decide))
end
end K64
set_option Elab.async false
set_option linter.all false
set_option maxRecDepth 100000
set_option maxHeartbeats 4000000
namespace K64
open PySem PySem.Spec PyProof.Rows L2 Dn
abbrev dE (Es : List (List Rat)) : PyData := .list (Es.map eL)
section
variable {n b : Nat} {T : Rat} {Es : List (List Rat)}
/-- what all of this rests on -/
structure Env (n b : Nat) (T : Rat) : Prop where
  n1 : 1 ≤ n
  n7 : n ≤ 7
  b0 : 0 < b
  b2 : b < 2 ^ 100
  T2 : T ≤ (NB : Rat)
theorem Env.d0 (h : Env n b T) : 0 < 420 * b := by have := h.b0; omega
theorem Env.d200 (h : Env n b T) : 420 * b < 2 ^ 200 := by
  have h1 := h.b2
  have : (2 : Nat) ^ 200 = 2 ^ 100 * 2 ^ 100 := by rw [← Nat.pow_add]
  have h2 : 420 ≤ (2 : Nat) ^ 100 := by decide
  rw [this]
  exact Nat.lt_of_lt_of_le (Nat.mul_lt_mul_of_pos_left h1 (by decide)) (Nat.mul_le_mul_right _ h2)
theorem Env.d2000 (h : Env n b T) : 420 * b < 2 ^ 2000 := lt_pow h.d200 (by decide)
theorem QOk.u420 {q : List Rat} (h : QOk n b T q) : QOk n (420 * b) T q := h.up (Nat.dvd_mul_left _ _)
def InvM (n b : Nat) (T : Rat) (Ps : List (List Rat)) (q : List Rat) : Prop := QOk n (420 * b) T q ∧ ∃ f, IsLo Ps f ∧ (∀ k, k ≤ n → gS q k = f k) ∧ (2 ≤ Ps.length → q = stp f n)
def InvJ (n b : Nat) (T : Rat) (Ps : List (List Rat)) (q : List Rat) : Prop := QOk n (420 * b) T q ∧ ∃ f, IsHi Ps f ∧ Hul n f (dsc q) ∧ (2 ≤ Ps.length → Dsc q)
theorem dsc_hul {q : List Rat} (h : q.length = n) : Hul n (gS q) (dsc q) := by
  have := hul_self (dsc_dsc q)
  rw [dsc_len, h] at this
  exact this
theorem invM_one {q : List Rat} (h : QOk n b T q) : InvM n b T [q] q := ⟨h.u420, gS q, isLo_one q, fun _ _ => rfl, fun h => absurd h (by simp)⟩
theorem invJ_one {q : List Rat} (h : QOk n b T q) : InvJ n b T [q] q := ⟨h.u420, gS q, isHi_one q, dsc_hul h.len, fun h => absurd h (by simp)⟩
theorem invM_snoc (hv : Env n b T) {Ps : List (List Rat)} {q r : List Rat} (h0 : Ps ≠ []) (h : InvM n b T Ps q) (hp : ∀ x ∈ Ps ++ [r], QOk n b T x) : ∃ s, Ph_meet [eL q, eL r] = some (eL s) ∧ InvM n b T (Ps ++ [r]) s := by
  obtain ⟨hq, f, hf, he, _⟩ := h
  have hr := (hp r (by simp)).u420
  have hl := hf.snoc r
  have hm := v_meet hq hr hv.d0 hv.d2000 hv.T2 hv.n1 hv.n7
  have e : stp (mtF q r) n = stp (fun k => mn (f k) (gS r k)) n := stp_congr fun k hk => by
    unfold mtF
    rw [he k hk]
  rw [e] at hm
  obtain ⟨k1, k2, k3⟩ := hl.stp_ok fun x hx => (hp x hx).u420
  exact ⟨_, hm, k1, _, hl, k3, fun _ => rfl⟩
theorem invJ_snoc (hv : Env n b T) {Ps : List (List Rat)} {q r : List Rat} (h0 : Ps ≠ []) (h : InvJ n b T Ps q) (hp : ∀ x ∈ Ps ++ [r], QOk n b T x) : ∃ s, Ph_join [eL q, eL r] = some (eL s) ∧ InvJ n b T (Ps ++ [r]) s := by
  obtain ⟨hq, f, hf, hu, _⟩ := h
  have hr := (hp r (by simp)).u420
  have hl := hf.snoc r
  obtain ⟨E, e, hE⟩ := v_join hq hr hv.d0 hv.d2000 hv.T2 hv.n1 hv.n7
  have hE2 := hu.mx (g := gS r) (E := E) hE
  exact ⟨E, e, hl.hul_ok hp hv.n7 hE2, _, hl, by rw [hE.dsc.eq]; exact hE2, fun _ => hE.dsc⟩
theorem fold_go (hv : Env n b T) {Inv : List (List Rat) → List Rat → Prop} {d : Int} (h1 : ∀ q, QOk n b T q → Inv [q] q)
    (h2 : ∀ Ps q r, Ps ≠ [] → Inv Ps q → (∀ x ∈ Ps ++ [r], QOk n b T x) → ∃ s, (∀ X, lp_law_folded_1 [.val (.int d), X, .val (eL q), .val (eL r)] = some (.nx, [.val (.int d), X, .val (eL s), .val (eL r)])) ∧ Inv (Ps ++ [r]) s)
    (hE : EsOk n b T Es) : ∃ q, Ph_law_folded [.int d, dE Es] = some (eL q) ∧ Inv Es q := by
  obtain ⟨hne, hok, hlen⟩ := hE
  cases Es with
  | nil => exact absurd rfl hne
  | cons q0 rest =>
    have hlp := for_at0 (tg := g1 3) (f := lp_law_folded_1) (E := eL) (xs := rest) (S := fun i e => ∃ q s3, Inv (q0 :: rest.take i) q ∧ e = [.val (.int d), .val (dE (q0 :: rest)), .val (eL q), s3]) (e := [.val (.int d), .val (dE (q0 :: rest)), .val (eL q0), .no]) ⟨q0, _, by rw [List.take_zero]; exact h1 q0 (hok q0 (by simp)), rfl⟩ fun i r hi e ⟨q, s3, hq, he⟩ => by
      subst he
      have hs : rest.take (i + 1) = rest.take i ++ [r] := by rw [List.take_add_one, hi]; rfl
      obtain ⟨s, e1, e2⟩ := h2 (q0 :: rest.take i) q r (by simp) hq fun x hx => by
        have : x ∈ q0 :: rest := by
          rcases List.mem_append.mp hx with hx | hx
          · rcases List.mem_cons.mp hx with rfl | hx
            · simp
            · exact List.mem_cons_of_mem _ (List.mem_of_mem_take hx)
          · rw [List.mem_singleton.mp hx]
            exact List.mem_cons_of_mem _ (List.mem_of_getElem? hi)
        exact hok x this
      exact ⟨_, _, .nx, rfl, e1 _, .inl rfl, s, _, by rw [hs]; exact e2, rfl⟩
    obtain ⟨e', l1, q, s3, hq, rfl⟩ := hlp
    rw [List.take_length] at hq
    refine ⟨q, ?_, hq⟩
    have i0 : gIx (dE (q0 :: rest)) (.int 0) = some (eL q0) := ix_head
    have ct : gCut (dE (q0 :: rest)) (some 1) none = some (.list (rest.map eL)) := by
      have : gCut (dE (q0 :: rest)) (some 1) none = some (.list (Dn.cutD ((q0 :: rest).map eL) (some ((1 : Nat) : Int)) none)) := rfl
      rw [this, cutD_fromN]
      rfl
    generalize dE (q0 :: rest) = X at *
    generalize rest.map eL = W at *
    generalize eL q0 = Q0 at *
    generalize eL q = Q at *
    unfold Ph_law_folded
    rw [run2]
    unfold dn_law_folded
    simp [-gIx, -gCut, i0, ct, l1]
theorem fold_meet (hv : Env n b T) (hE : EsOk n b T Es) : ∃ q, Ph_law_folded [.int 0, dE Es] = some (eL q) ∧ InvM n b T Es q :=
  fold_go hv (fun q h => invM_one h) (fun Ps q r h0 hq hp => by
    obtain ⟨s, e1, e2⟩ := invM_snoc hv h0 hq hp
    refine ⟨s, fun X => ?_, e2⟩
    generalize eL q = Q at *
    generalize eL r = R at *
    generalize eL s = S at *
    simp [lp_law_folded_1, e1]) hE
theorem fold_join (hv : Env n b T) (hE : EsOk n b T Es) : ∃ q, Ph_law_folded [.int 1, dE Es] = some (eL q) ∧ InvJ n b T Es q :=
  fold_go hv (fun q h => invJ_one h) (fun Ps q r h0 hq hp => by
    obtain ⟨s, e1, e2⟩ := invJ_snoc hv h0 hq hp
    refine ⟨s, fun X => ?_, e2⟩
    generalize eL q = Q at *
    generalize eL r = R at *
    generalize eL s = S at *
    simp [lp_law_folded_1, e1]) hE
/-- one alone, with itself -/
theorem one_meet (hv : Env n b T) {q : List Rat} (h : QOk n b T q) : Ph_meet [eL q, eL q] = some (eL (stp (gS q) n)) := by
  have hm := v_meet h.u420 h.u420 hv.d0 hv.d2000 hv.T2 hv.n1 hv.n7
  have e : mtF q q = gS q := by
    funext k
    exact mn_self _
  rw [e] at hm
  exact hm
theorem stp_gS {q : List Rat} (h : q.length = n) : stp (gS q) n = dsc q := by
  have := stp_pS (dsc q)
  rw [dsc_len, h] at this
  exact this
theorem one_join (hv : Env n b T) {q : List Rat} (h : QOk n b T q) : Ph_join [eL q, eL q] = some (eL (dsc q)) := by
  obtain ⟨E, e, hE⟩ := v_join h.u420 h.u420 hv.d0 hv.d2000 hv.T2 hv.n1 hv.n7
  have e2 : mxF q q = gS q := by
    funext k
    exact mx_self _
  rw [e2] at hE
  rw [e, hE.uniq (dsc_hul h.len)]
end
end K64
set_option Elab.async false
set_option linter.all false
set_option maxRecDepth 100000
set_option maxHeartbeats 4000000
namespace K64
open PySem PySem.Spec PyProof.Rows L2 Dn
section
variable {n b M : Nat} {T : Rat} {q r : List Rat} {Es : List (List Rat)} {ks : List PyData}
theorem QOk.dsc (h : QOk n b T q) : QOk n b T (dsc q) :=
  ⟨by rw [dsc_len, h.len], fun x hx => h.nn x ((dsc_perm q).mem_iff.mp hx), fun x hx => h.pt x ((dsc_perm q).mem_iff.mp hx), by rw [qs_perm (dsc_perm q), h.sum]⟩
theorem sameD (hv : Env n b T) (h : QOk n (420 * b) T q) : Ph_law_same [eL q, eL q] = some (.bool true) :=
  same_q h (by have := hv.n7; omega) hv.d0 hv.d200 hv.T2
theorem isLo_two (q r : List Rat) : IsLo [q, r] (mtF q r) := (isLo_one q).snoc r
theorem isHi_two (q r : List Rat) : IsHi [q, r] (mxF q r) := (isHi_one q).snoc r
theorem two_mem {P : List Rat → Prop} (hq : P q) (hr : P r) : ∀ x ∈ [q, r], P x := fun x hx => by
  simp only [List.mem_cons, List.not_mem_nil, or_false] at hx
  rcases hx with rfl | rfl <;> assumption
/-- join with the meet -/
theorem join_meet (hv : Env n b T) (hq : QOk n b T q) (hr : QOk n b T r) : Ph_join [eL q, eL (stp (mtF q r) n)] = some (eL (dsc q)) := by
  obtain ⟨m1, m2, m3⟩ := (isLo_two q r).stp_ok (two_mem hq hr)
  obtain ⟨E, e, hE⟩ := v_join hq.u420 m1.u420 hv.d0 hv.d2000 hv.T2 hv.n1 hv.n7
  have h2 : Hul n (gS q) E := hE.congr fun k hk => by
    unfold mxF
    rw [m3 k hk]
    exact mx_eq (mn_l _ _)
  rw [e, h2.uniq (dsc_hul hq.len)]
/-- meet with the join -/
theorem meet_join (hv : Env n b T) (hq : QOk n b T q) (hr : QOk n b T r) : ∃ E, Ph_join [eL q, eL r] = some (eL E) ∧ Ph_join [eL r, eL q] = some (eL E) ∧ Ph_meet [eL q, eL E] = some (eL (dsc q)) ∧ QOk n (420 * b) T E := by
  obtain ⟨E, e, hE⟩ := v_join hq.u420 hr.u420 hv.d0 hv.d2000 hv.T2 hv.n1 hv.n7
  obtain ⟨F, e2, hF⟩ := v_join hr.u420 hq.u420 hv.d0 hv.d2000 hv.T2 hv.n1 hv.n7
  have hok := (isHi_two q r).hul_ok (two_mem hq hr) hv.n7 hE
  have hF2 : Hul n (mxF q r) F := hF.congr fun k _ => mx_comm _ _
  have hm := v_meet hq.u420 hok hv.d0 hv.d2000 hv.T2 hv.n1 hv.n7
  refine ⟨E, e, by rw [e2, hF2.uniq hE], ?_, hok⟩
  rw [hm, ← stp_gS hq.len]
  have : stp (mtF q E) n = stp (gS q) n := stp_congr fun k hk => by
    unfold mtF
    rw [gS_dsc hE.dsc]
    exact mn_eq (Rat.le_trans (mx_l _ _) (hE.up k hk))
  rw [this]
theorem meet_comm (hv : Env n b T) (hq : QOk n b T q) (hr : QOk n b T r) : Ph_meet [eL q, eL r] = some (eL (stp (mtF q r) n)) ∧ Ph_meet [eL r, eL q] = some (eL (stp (mtF q r) n)) := by
  refine ⟨v_meet hq.u420 hr.u420 hv.d0 hv.d2000 hv.T2 hv.n1 hv.n7, ?_⟩
  rw [v_meet hr.u420 hq.u420 hv.d0 hv.d2000 hv.T2 hv.n1 hv.n7]
  have : stp (mtF r q) n = stp (mtF q r) n := stp_congr fun k _ => mn_comm _ _
  rw [this]
theorem dE_at {x : Nat} (h : x < Es.length) : gIx (dE Es) (.int (x : Int)) = some (eL Es[x]) := by
  have := atI_get (l := Es.map eL) (i := x) (by rw [List.length_map]; exact h)
  rw [List.getElem_map] at this
  exact this
theorem v_law_pair_right (hv : Env n b T) (hE : EsOk n b T Es) (hk : KegOk (M + 2) ks) : ∃ ks', Ph_law_pair_right ks [dE Es] = some (.bool true, ks') ∧ KegOk M ks' := by
  have hl : 0 < Es.length := List.length_pos_iff.mpr hE.ne
  have hle : ((Es.length : Nat) : Int) ≤ 2 ^ 100 := by
    have := hE.len
    have h2 : (2 : Int) ^ 100 = 1267650600228229401496703205376 := by decide
    omega
  obtain ⟨x, k1, e1, hx, hk1⟩ := v_lift_nat (M := M + 1) (m := Es.length) hk hl hle
  obtain ⟨y, k2, e2, hy, hk2⟩ := v_lift_nat (M := M) (m := Es.length) hk1 hl hle
  have ix := dE_at hx
  have iy := dE_at hy
  have hq := hE.ok _ (List.getElem_mem hx)
  have hr := hE.ok _ (List.getElem_mem hy)
  have gl : gLen [dE Es] = some (.int (Es.length : Int)) := by simp
  generalize Es[x] = q at *
  generalize Es[y] = r at *
  have f1 := one_meet hv hq
  rw [stp_gS hq.len] at f1
  have f2 := one_join hv hq
  have f3 := join_meet hv hq hr
  obtain ⟨f4, f5⟩ := meet_comm hv hq hr
  obtain ⟨E, f6, f7, f8, hEo⟩ := meet_join hv hq hr
  have s1 := sameD hv hq.dsc.u420
  have s2 := sameD hv ((isLo_two q r).stp_ok (two_mem hq hr)).1.u420
  have s3 := sameD hv hEo
  refine ⟨k2, ?_, hk2⟩
  generalize dE Es = X at *
  generalize eL (dsc q) = DQ at *
  generalize eL (stp (mtF q r) n) = MT at *
  generalize eL E = JN at *
  generalize eL q = Q at *
  generalize eL r = R at *
  generalize Es.length = m at *
  unfold Ph_law_pair_right
  rw [runM2]
  unfold dn_law_pair_right
  simp [-gLen, -gIx, gl, e1, e2, ix, iy, f1, f2, f3, f4, f5, f6, f7, f8, s1, s2, s3]
end
end K64
set_option Elab.async false
set_option linter.all false
set_option maxRecDepth 100000
set_option maxHeartbeats 4000000
namespace K64
open PySem PySem.Spec PyProof.Rows L2 Dn
theorem runM4 {N : Nat} {b : Fs} {d1 d2 d3 : PyData} {ks : List PyData} : runM b (N + 4) 4 ks [d1, d2, d3] = endM (b (.own true ks :: .val d1 :: .val d2 :: .val d3 :: List.replicate N .no)) := by simp [runM, en0]
abbrev lI (ns : List Int) : PyData := .list (iD ns)
theorem ix_end {ds : List PyData} {d : PyData} : gIx (.list (ds ++ [d])) (.int (-1)) = some d := by
  show atI (ds ++ [d]) (-1) = _
  rw [atI_lastD (by simp)]
  simp
theorem dL_end {Ls : List (List Int)} (h : Ls ≠ []) : ∃ ns ∈ Ls, gIx (dL Ls) (.int (-1)) = some (lI ns) := by
  refine ⟨Ls.getLast h, List.getLast_mem h, ?_⟩
  have e : Ls.map lI = Ls.dropLast.map lI ++ [lI (Ls.getLast h)] := by
    conv => lhs; rw [← List.dropLast_concat_getLast h, List.map_append]
    rfl
  show gIx (.list (Ls.map lI)) _ = _
  rw [e]
  exact ix_end
theorem dL_0 {Ls : List (List Int)} (h : Ls ≠ []) : ∃ ns ∈ Ls, gIx (dL Ls) (.int 0) = some (lI ns) := by
  cases Ls with
  | nil => exact absurd rfl h
  | cons ns r => exact ⟨ns, by simp, ix_head⟩
section
variable {n b M : Nat} {S : Int} {T : Rat} {ql : List Rat} {Ls : List (List Int)} {ks : List PyData} {f : Nat → Rat}
theorem isLo_Ls (hb : 0 < b) (h : IsLo (Ls.map (eQ b)) f) (ms : List Int) {q : List Rat} (hq : ∀ k, k ≤ n → gS q k = f k) : (∀ k, k ≤ n → gS (eQ b ms) k ≤ gS q k) ↔ ∀ ns ∈ Ls, ∀ k, k ≤ n → gS (rR ms) k ≤ gS (rR ns) k := by
  have b0 := nat_posR hb
  have key : ∀ x y : Rat, ((b : Rat)⁻¹ * x ≤ (b : Rat)⁻¹ * y ↔ x ≤ y) := fun x y => by
    constructor
    · intro h
      have := Rat.mul_le_mul_of_nonneg_left h (Rat.le_of_lt b0)
      rwa [inv_mul hb, inv_mul hb] at this
    · exact fun h => Rat.mul_le_mul_of_nonneg_left h (inv_nn b)
  constructor
  · intro g ns hn k hk
    have h1 := g k hk
    rw [hq k hk] at h1
    have h2 := Rat.le_trans h1 (h.le _ (List.mem_map.mpr ⟨ns, hn, rfl⟩) k)
    rw [gS_eQ, gS_eQ] at h2
    exact (key _ _).mp h2
  · intro g k hk
    obtain ⟨q, hm, e⟩ := h.at_ k
    obtain ⟨ns, hn, rfl⟩ := List.mem_map.mp hm
    rw [hq k hk, e, gS_eQ, gS_eQ]
    exact (key _ _).mpr (g ns hn k hk)
theorem further_turn (hv : Env n b T) (hT : T = (b : Rat)⁻¹ * (S : Rat)) (hL : LsOk n S Ls) (hq : QOk n (420 * b) T ql) (hf : IsLo (Ls.map (eQ b)) f) (hg : ∀ k, k ≤ n → gS ql k = f k) {ms : List Int} (hm : NsOk n S ms) {X4 X5 : PyData} {s7 s8 : Sl} (ks : List PyData) :
    lp_law_further_right_1 [.own true ks, .val (dL Ls), .val (eL ql), .val (.int (b : Int)), .val X4, .val X5, .val (lI ms), s7, s8, .no] = some (.nx, [.own true ks, .val (dL Ls), .val (eL ql), .val (.int (b : Int)), .val X4, .val X5, .val (lI ms), .val (eL (eQ b ms)), .val (.bool (decide (∀ ns ∈ Ls, ∀ k, k ≤ n → gS (rR ms) k ≤ gS (rR ns) k))), .no]) := by
  have ha := v_law_amounts (ns := ms) (b := (b : Int)) (by have := hv.b0; omega) (by
    have h := lt_pow (b := 1000) hv.b2 (by decide)
    have : (2 : Int) ^ 1000 = ((2 ^ 1000 : Nat) : Int) := by rw [Int.natCast_pow]; rfl
    rw [this]
    exact Int.ofNat_lt.mpr h) (by have := hv.n7; rw [hm.len]; omega)
  rw [eQ_div] at ha
  have hr := eQ_ok hv.b0 hm
  rw [← hT] at hr
  have he := v_is_more_even hq hr.u420 hv.d0 hv.d2000 hv.T2 hv.n1 hv.n7
  have hiff := isLo_Ls (n := n) hv.b0 hf ms hg
  have hdec : decide (∀ k, k ≤ n → gS (eQ b ms) k ≤ gS ql k) = decide (∀ ns ∈ Ls, ∀ k, k ≤ n → gS (rR ms) k ≤ gS (rR ns) k) := decide_eq_decide.mpr hiff
  rw [hdec] at he
  have hc := cm_a (a := ce_law_further_right_1) (i := 9) (e := [.own true ks, .val (dL Ls), .val (eL ql), .val (.int (b : Int)), .val X4, .val X5, .val (lI ms), .val (eL (eQ b ms)), s8, .no]) (xs := Ls) (E := lI) (D := .bool) (F := fun ns => decide (∀ k, k ≤ n → gS (rR ms) k ≤ gS (rR ns) k)) (by have := hL.len; omega) rfl rfl fun ns hns => by
    have h : Ph_law_leads [lI ns, lI ms] = some (.bool (decide (∀ k, k ≤ n → gS (rR ms) k ≤ gS (rR ns) k))) := v_law_leads (hL.ok ns hns).len hm.len (by have := hv.n7; omega)
    generalize decide (∀ k, k ≤ n → gS (rR ms) k ≤ gS (rR ns) k) = t at *
    generalize lI ms = A at *
    generalize lI ns = B at *
    generalize dL Ls = X at *
    generalize eL ql = Y at *
    generalize eL (eQ b ms) = Z at *
    simp [ce_law_further_right_1, h]
  have hN := nin_false (Ls.map fun ns => decide (∀ k, k ≤ n → gS (rR ms) k ≤ gS (rR ns) k))
  have hdec2 : decide (∀ x ∈ Ls.map (fun ns => decide (∀ k, k ≤ n → gS (rR ms) k ≤ gS (rR ns) k)), x = true) = decide (∀ ns ∈ Ls, ∀ k, k ≤ n → gS (rR ms) k ≤ gS (rR ns) k) := by
    rw [decide_eq_decide]
    constructor
    · exact fun h ns hn => of_decide_eq_true (h _ (List.mem_map.mpr ⟨ns, hn, rfl⟩))
    · intro h x hx
      obtain ⟨ns, hn, rfl⟩ := List.mem_map.mp hx
      exact decide_eq_true (h ns hn)
  rw [hdec2] at hN
  have sb := same_b (decide (∀ ns ∈ Ls, ∀ k, k ≤ n → gS (rR ms) k ≤ gS (rR ns) k))
  have hi : items (dL Ls) = some (Ls.map lI) := rfl
  generalize (Ls.map fun ns => decide (∀ k, k ≤ n → gS (rR ms) k ≤ gS (rR ns) k)).map PyData.bool = BB at *
  generalize decide (∀ ns ∈ Ls, ∀ k, k ≤ n → gS (rR ms) k ≤ gS (rR ns) k) = t at *
  generalize dL Ls = X at *
  generalize Ls.map lI = W at *
  generalize eL ql = Y at *
  generalize eL (eQ b ms) = Z at *
  have ha : Ph_law_amounts [lI ms, .int (b : Int)] = some Z := ha
  generalize lI ms = A at *
  simp [-gNinL, -items, lp_law_further_right_1, ha, hi, hc, hN, he, sb]
theorem v_law_further_right (hv : Env n b T) (hT : T = (b : Rat)⁻¹ * (S : Rat)) (hS : S < 2 ^ 90) (hL : LsOk n S Ls) (hq : QOk n (420 * b) T ql) (hf : IsLo (Ls.map (eQ b)) f) (hg : ∀ k, k ≤ n → gS ql k = f k) (hk : KegOk (M + 120) ks) :
    ∃ ks', Ph_law_further_right ks [dL Ls, eL ql, .int (b : Int)] = some (.bool true, ks') ∧ KegOk M ks' := by
  have n1 := hv.n1
  have n7 := hv.n7
  have S99 : S < 2 ^ 99 := Int.lt_trans hS (by decide)
  have lo := v_law_lowest hL (by omega)
  obtain ⟨n0, hn0, i0⟩ := dL_0 hL.ne
  obtain ⟨n9, hn9, i9⟩ := dL_end hL.ne
  obtain ⟨x, k1, e1, hx, hk1⟩ := v_lift_nat (M := M + 119) (m := 6) hk (by decide) (by decide)
  obtain ⟨m1, k2, e2, o1, hk2⟩ := v_law_exchanged (M := M + 80) (m := x) hL.lo_ok n1 (by omega) S99 (by omega) (hk1.mono (by omega))
  obtain ⟨m2, k3, e3, o2, hk3⟩ := v_law_moved (M := M + 40) hL.lo_ok n1 n7 S99 hk2
  obtain ⟨m3, k4, e4, o3, hk4⟩ := v_law_moved (M := M) (hL.ok n0 hn0) n1 n7 S99 hk3
  have hall : ∀ ms ∈ [m1, m2, m3, loL Ls n, n9], NsOk n S ms := fun ms hm => by
    simp only [List.mem_cons, List.not_mem_nil, or_false] at hm
    rcases hm with rfl | rfl | rfl | rfl | rfl
    · exact o1
    · exact o2
    · exact o3
    · exact hL.lo_ok
    · exact hL.ok _ hn9
  obtain ⟨e', l1, s6, s7, s8, rfl⟩ := for_at0 (tg := g1 6) (f := lp_law_further_right_1) (E := lI) (xs := [m1, m2, m3, loL Ls n, n9]) (S := fun _ e => ∃ s6 s7 s8, e = [.own true k4, .val (dL Ls), .val (eL ql), .val (.int (b : Int)), .val (lI (loL Ls n)), .val (.list [lI m1, lI m2, lI m3]), s6, s7, s8, .no]) (e := [.own true k4, .val (dL Ls), .val (eL ql), .val (.int (b : Int)), .val (lI (loL Ls n)), .val (.list [lI m1, lI m2, lI m3]), .no, .no, .no, .no]) ⟨_, _, _, rfl⟩ fun i ms hi e ⟨s6, s7, s8, he⟩ => by
    subst he
    exact ⟨_, _, .nx, rfl, further_turn hv hT hL hq hf hg (hall ms (List.mem_of_getElem? hi)) k4, .inl rfl, _, _, _, rfl⟩
  refine ⟨k4, ?_, hk4⟩
  have e1 : Ph_law_lift ks [.int 6] = some (.int (x : Int), k1) := e1
  have l1 : forL (g1 6) lp_law_further_right_1 [lI m1, lI m2, lI m3, lI (loL Ls n), lI n9] [.own true k4, .val (dL Ls), .val (eL ql), .val (.int (b : Int)), .val (lI (loL Ls n)), .val (.list [lI m1, lI m2, lI m3]), .no, .no, .no, .no] = some (.nx, [.own true k4, .val (dL Ls), .val (eL ql), .val (.int (b : Int)), .val (lI (loL Ls n)), .val (.list [lI m1, lI m2, lI m3]), s6, s7, s8, .no]) := l1
  have e2 : Ph_law_exchanged k1 [lI (loL Ls n), .int (x : Int)] = some (lI m1, k2) := e2
  have e3 : Ph_law_moved k2 [lI (loL Ls n)] = some (lI m2, k3) := e3
  have e4 : Ph_law_moved k3 [lI n0] = some (lI m3, k4) := e4
  have lo : Ph_law_lowest [dL Ls] = some (lI (loL Ls n)) := lo
  generalize lI (loL Ls n) = LO at *
  generalize lI m1 = A1 at *
  generalize lI m2 = A2 at *
  generalize lI m3 = A3 at *
  generalize lI n0 = N0 at *
  generalize lI n9 = N9 at *
  generalize dL Ls = X at *
  generalize eL ql = Y at *
  unfold Ph_law_further_right
  rw [runM4]
  unfold dn_law_further_right
  have hok : okN 5 = true := okN_of (by decide)
  simp [-gIx, lo, i0, i9, e1, e2, e3, e4, hok, l1]
end
end K64
set_option Elab.async false
set_option linter.all false
set_option maxRecDepth 100000
set_option maxHeartbeats 4000000
namespace K64
open PySem PySem.Spec PyProof.Rows L2 Dn
def m420 (ns : List Int) : List Int := ns.map fun z => 420 * z
theorem rR_420 (ns : List Int) : rR (m420 ns) = (rR ns).map fun x => 420 * x := by
  unfold rR m420
  rw [List.map_map, List.map_map]
  refine List.map_congr_left fun z _ => ?_
  show (((420 * z : Int)) : Rat) = _
  rw [Rat.intCast_mul]
  rfl
theorem gS_420 (ns : List Int) (k : Nat) : gS (rR (m420 ns)) k = 420 * gS (rR ns) k := by
  rw [rR_420, gS_scale (by decide +kernel)]
theorem sum_420 : ∀ ns : List Int, (m420 ns).sum = 420 * ns.sum
  | [] => rfl
  | z :: ns => by
    have := sum_420 ns
    show (420 * z :: m420 ns).sum = _
    rw [List.sum_cons, List.sum_cons, this]
    omega
theorem NsOk.m420 {n : Nat} {S : Int} {ns : List Int} (h : NsOk n S ns) : NsOk n (420 * S) (m420 ns) := by
  refine ⟨by unfold K64.m420; rw [List.length_map, h.len], fun x hx => ?_, by rw [sum_420, h.sum]⟩
  obtain ⟨z, hz, rfl⟩ := List.mem_map.mp hx
  have := h.nn z hz
  omega
theorem comp420 {e : En} {s : Sl} {ns : List Int} {S : Int} {n : Nat} (he : e[10]? = some s) (ho : noOwn e [10] = true) (h : NsOk n S ns) (hn : n ≤ 1000) (hS : S < 2 ^ 90) :
    kCm (g1 10) tYs (e2 gMulI (eC (.int 420)) (eV 10)) [10] (iD ns, e) = some (iD (m420 ns), e) := by
  have hlt : 10 < e.length := by
    rcases Nat.lt_or_ge 10 e.length with h | h
    · exact h
    · rw [List.getElem?_eq_none h] at he
      cases he
  exact cm_a (a := e2 gMulI (eC (.int 420)) (eV 10)) (i := 10) (e := e) (xs := ns) (E := .int) (D := .int) (F := fun z => 420 * z) (s := s) (by have := h.len; omega) he ho fun y hy => by
    have h0 := h.nn y hy
    have h1 := h.le y hy
    have m1 : mulOk 420 y = true := mulOk_lt (sm_lt (by decide) (by decide)) (sm_lt (by omega) (by omega))
    have hg : (e.set 10 (.val (.int y)))[10]? = some (.val (.int y)) := by
      rw [List.getElem?_set_self hlt]
    unfold e2 eC eV
    simp [hg, m1]
section
variable {n b M : Nat} {S : Int} {T : Rat} {qg : List Rat} {Ls : List (List Int)} {ks : List PyData} {f : Nat → Rat}
theorem inv_420 (hb : 0 < b) (x : Rat) : (b : Rat)⁻¹ * x = ((420 * b : Nat) : Rat)⁻¹ * (420 * x) := by
  have b0 := nat_posR hb
  have h := inv_mul (b := 420 * b) (by omega) (420 * x)
  have h2 := inv_mul hb x
  rw [Rat.natCast_mul] at h
  have c : ((420 : Nat) : Rat) = 420 := rfl
  rw [c] at h
  rw [Rat.natCast_mul, c]
  generalize (420 * (b : Rat))⁻¹ = i at *
  generalize (b : Rat)⁻¹ = j at *
  generalize (b : Rat) = w at *
  have e : w * (i * (420 * x)) = w * (j * x) := by grind
  have e3 : w * (i * (420 * x) - j * x) = 0 := by grind
  rcases Rat.mul_eq_zero.mp e3 with z | z
  · rw [z] at b0; exact absurd b0 (by decide)
  · grind
theorem isHi_Ls (hb : 0 < b) (h : IsHi (Ls.map (eQ b)) f) (hq : Hul n f qg) (hd : Dsc qg) {ms : List Int} (hl : ms.length = n) : (∀ k, k ≤ n → gS qg k ≤ gS (eQ (420 * b) ms) k) ↔ ∀ ns ∈ Ls, ∀ k, k ≤ n → gS (rR (m420 ns)) k ≤ gS (rR ms) k := by
  have b0 : (0 : Rat) < ((420 * b : Nat) : Rat) := nat_posR (by omega)
  have key : ∀ x y : Rat, (((420 * b : Nat) : Rat)⁻¹ * x ≤ ((420 * b : Nat) : Rat)⁻¹ * y ↔ x ≤ y) := fun x y => by
    constructor
    · intro h
      have := Rat.mul_le_mul_of_nonneg_left h (Rat.le_of_lt b0)
      rwa [inv_mul (b := 420 * b) (by omega), inv_mul (b := 420 * b) (by omega)] at this
    · exact fun h => Rat.mul_le_mul_of_nonneg_left h (inv_nn _)
  have h1 := hq.iff (E := Dn.dsc (eQ (420 * b) ms)) (dsc_dsc _) (by rw [dsc_len]; unfold eQ; rw [List.length_map, rR_len, hl])
  rw [gS_dsc hd]
  refine Iff.trans h1 ?_
  constructor
  · intro g ns hn k hk
    have h2 : f k ≤ gS (eQ (420 * b) ms) k := g k hk
    have h3 := Rat.le_trans (h.ge _ (List.mem_map.mpr ⟨ns, hn, rfl⟩) k) h2
    rw [gS_eQ, gS_eQ, inv_420 hb] at h3
    rw [gS_420]
    exact (key _ _).mp h3
  · intro g k hk
    obtain ⟨q, hm, e⟩ := h.at_ k
    obtain ⟨ns, hn, rfl⟩ := List.mem_map.mp hm
    show f k ≤ gS (eQ (420 * b) ms) k
    rw [e, gS_eQ, gS_eQ, inv_420 hb, ← gS_420]
    exact (key _ _).mpr (g ns hn k hk)
theorem b420_int (hv : Env n b T) : ((420 * b : Nat) : Int) < 2 ^ 1000 := by
  have h := lt_pow (b := 1000) hv.d200 (by decide)
  have : (2 : Int) ^ 1000 = ((2 ^ 1000 : Nat) : Int) := by rw [Int.natCast_pow]; rfl
  rw [this]
  exact Int.ofNat_lt.mpr h
theorem mul_b (hv : Env n b T) : mulOk 420 (b : Int) = true := mulOk_lt (sm_lt (by decide) (by decide)) (lt_pow (show ((b : Int)).natAbs < 2 ^ 100 from hv.b2) (by decide))
theorem eQ_420 (hv : Env n b T) (hT : T = (b : Rat)⁻¹ * (S : Rat)) {ms : List Int} (hm : NsOk n (420 * S) ms) : QOk n (420 * b) T (eQ (420 * b) ms) := by
  have := eQ_ok (b := 420 * b) hv.d0 hm
  have e : ((420 * b : Nat) : Rat)⁻¹ * ((420 * S : Int) : Rat) = T := by
    rw [hT, inv_420 hv.b0, Rat.intCast_mul]
    rfl
  rwa [e] at this
theorem above_turn (hv : Env n b T) (hT : T = (b : Rat)⁻¹ * (S : Rat)) (hS : S < 2 ^ 80) (hL : LsOk n S Ls) (hq : QOk n (420 * b) T qg) (hf : IsHi (Ls.map (eQ b)) f) (hu : Hul n f qg) (hd : Dsc qg) {ms : List Int} (hm : NsOk n (420 * S) ms) {X4 X5 X6 : PyData} {s8 s9 : Sl} (ks : List PyData) :
    lp_law_above_right_1 [.own true ks, .val (dL Ls), .val (eL qg), .val (.int (b : Int)), .val X4, .val X5, .val X6, .val (lI ms), s8, s9, .no, .no] = some (.nx, [.own true ks, .val (dL Ls), .val (eL qg), .val (.int (b : Int)), .val X4, .val X5, .val X6, .val (lI ms), .val (eL (eQ (420 * b) ms)), .val (.bool (decide (∀ ns ∈ Ls, ∀ k, k ≤ n → gS (rR (m420 ns)) k ≤ gS (rR ms) k))), .no, .no]) := by
  have ha := v_law_amounts (ns := ms) (b := ((420 * b : Nat) : Int)) (by have := hv.d0; omega) (b420_int hv) (by have := hv.n7; rw [hm.len]; omega)
  rw [eQ_div] at ha
  have hr := eQ_420 hv hT hm
  have he := v_is_more_even hr hq hv.d0 hv.d2000 hv.T2 hv.n1 hv.n7
  have hiff := isHi_Ls (n := n) hv.b0 hf hu hd hm.len
  have hdec : decide (∀ k, k ≤ n → gS qg k ≤ gS (eQ (420 * b) ms) k) = decide (∀ ns ∈ Ls, ∀ k, k ≤ n → gS (rR (m420 ns)) k ≤ gS (rR ms) k) := decide_eq_decide.mpr hiff
  rw [hdec] at he
  have hc := cm_a (a := ce_law_above_right_4) (i := 11) (e := [.own true ks, .val (dL Ls), .val (eL qg), .val (.int (b : Int)), .val X4, .val X5, .val X6, .val (lI ms), .val (eL (eQ (420 * b) ms)), s9, .no, .no]) (xs := Ls) (E := lI) (D := .bool) (F := fun ns => decide (∀ k, k ≤ n → gS (rR (m420 ns)) k ≤ gS (rR ms) k)) (by have := hL.len; omega) rfl rfl fun ns hns => by
    have h : Ph_law_leads [lI ms, lI (m420 ns)] = some (.bool (decide (∀ k, k ≤ n → gS (rR (m420 ns)) k ≤ gS (rR ms) k))) := v_law_leads hm.len (hL.ok ns hns).m420.len (by have := hv.n7; omega)
    have hc := comp420 (e := [.own true ks, .val (dL Ls), .val (eL qg), .val (.int (b : Int)), .val X4, .val X5, .val X6, .val (lI ms), .val (eL (eQ (420 * b) ms)), s9, .no, .val (lI ns)]) (s := .no) rfl rfl (hL.ok ns hns) (by have := hv.n7; omega) (Int.lt_trans hS (by decide))
    have hi : items (lI ns) = some (iD ns) := rfl
    have hm4 : PyData.list (iD (m420 ns)) = lI (m420 ns) := rfl
    generalize decide (∀ k, k ≤ n → gS (rR (m420 ns)) k ≤ gS (rR ms) k) = t at *
    generalize iD (m420 ns) = C4 at *
    generalize lI (m420 ns) = C at *
    generalize iD ns = B2 at *
    generalize lI ms = A at *
    generalize lI ns = B at *
    generalize dL Ls = X at *
    generalize eL qg = Y at *
    generalize eL (eQ (420 * b) ms) = Z at *
    simp [-items, ce_law_above_right_4, ce_law_above_right_3, hi, hc, hm4, h]
  have hN := nin_false (Ls.map fun ns => decide (∀ k, k ≤ n → gS (rR (m420 ns)) k ≤ gS (rR ms) k))
  have hdec2 : decide (∀ x ∈ Ls.map (fun ns => decide (∀ k, k ≤ n → gS (rR (m420 ns)) k ≤ gS (rR ms) k)), x = true) = decide (∀ ns ∈ Ls, ∀ k, k ≤ n → gS (rR (m420 ns)) k ≤ gS (rR ms) k) := by
    rw [decide_eq_decide]
    constructor
    · exact fun h ns hn => of_decide_eq_true (h _ (List.mem_map.mpr ⟨ns, hn, rfl⟩))
    · intro h x hx
      obtain ⟨ns, hn, rfl⟩ := List.mem_map.mp hx
      exact decide_eq_true (h ns hn)
  rw [hdec2] at hN
  have sb := same_b (decide (∀ ns ∈ Ls, ∀ k, k ≤ n → gS (rR (m420 ns)) k ≤ gS (rR ms) k))
  have hi : items (dL Ls) = some (Ls.map lI) := rfl
  have mb := mul_b hv
  have ci : ((420 * b : Nat) : Int) = 420 * (b : Int) := Int.natCast_mul 420 b
  rw [ci] at ha
  generalize (Ls.map fun ns => decide (∀ k, k ≤ n → gS (rR (m420 ns)) k ≤ gS (rR ms) k)).map PyData.bool = BB at *
  generalize decide (∀ ns ∈ Ls, ∀ k, k ≤ n → gS (rR (m420 ns)) k ≤ gS (rR ms) k) = t at *
  generalize dL Ls = X at *
  generalize Ls.map lI = W at *
  generalize eL qg = Y at *
  generalize eL (eQ (420 * b) ms) = Z at *
  have ha : Ph_law_amounts [lI ms, .int (420 * (b : Int))] = some Z := ha
  generalize lI ms = A at *
  simp [-gNinL, -items, lp_law_above_right_1, mb, ha, hi, hc, hN, he, sb]
end
end K64
set_option Elab.async false
set_option linter.all false
set_option maxRecDepth 100000
set_option maxHeartbeats 4000000
namespace K64
open PySem PySem.Spec PyProof.Rows L2 Dn
def whI (n : Nat) (s : Int) : List Int := List.replicate (n - 1) 0 ++ [s]
theorem whI_ok {n : Nat} {s : Int} (h1 : 1 ≤ n) (hs : 0 ≤ s) : NsOk n s (whI n s) := by
  refine ⟨by unfold whI; simp; omega, fun x hx => ?_, ?_⟩
  · unfold whI at hx
    rcases List.mem_append.mp hx with hx | hx
    · rw [List.eq_of_mem_replicate hx]; exact Int.le_refl _
    · rw [List.mem_singleton.mp hx]; exact hs
  · unfold whI
    rw [List.sum_append]
    simp
section
variable {n b M : Nat} {S : Int} {T : Rat} {qg : List Rat} {Ls : List (List Int)} {ks : List PyData} {f : Nat → Rat}
theorem v_law_above_right (hv : Env n b T) (hT : T = (b : Rat)⁻¹ * (S : Rat)) (hS : S < 2 ^ 80) (hL : LsOk n S Ls) (hq : QOk n (420 * b) T qg) (hf : IsHi (Ls.map (eQ b)) f) (hu : Hul n f qg) (hd : Dsc qg) (hk : KegOk (M + 80) ks) :
    ∃ ks', Ph_law_above_right ks [dL Ls, eL qg, .int (b : Int)] = some (.bool true, ks') ∧ KegOk M ks' := by
  have n1 := hv.n1
  have n7 := hv.n7
  have S90 : S < 2 ^ 90 := Int.lt_trans hS (by decide)
  have S99 : S < 2 ^ 99 := Int.lt_trans hS (by decide)
  have T99 : 420 * S < 2 ^ 99 := by omega
  have S0 : 0 ≤ S := by
    obtain ⟨ns, hn, _⟩ := dL_0 hL.ne
    have h := hL.ok ns hn
    rw [← h.sum]
    exact sum_nn h.nn
  have hH := scan_hull (f := hiR Ls) (hiR_0 hL.ne) n
  generalize difS (hiR Ls) (scanS (hiR Ls) n) = D at hH
  obtain ⟨hi1, hi2⟩ := v_law_highest hL S90 n7 hH
  have oh : NsOk n (420 * S) (hiL D n) := nsOk_of (by unfold hiL; simp) (fun x hx => by
    rw [hi2] at hx
    obtain ⟨y, hy, rfl⟩ := List.mem_map.mp hx
    exact Rat.mul_nonneg (by decide +kernel) (hH.nn (fun k hk => hL.hi_mono hk) y hy)) (by
    rw [hi2, pS_scale, hH.end, hL.hi_n, Rat.intCast_mul]
    rfl)
  obtain ⟨n0, hn0, i0⟩ := dL_0 hL.ne
  obtain ⟨n9, hn9, i9⟩ := dL_end hL.ne
  generalize hHH : hiL D n = H at *
  obtain ⟨m1, k1, e1, o1, hk1⟩ := v_law_moved (M := M + 40) oh n1 n7 T99 hk
  obtain ⟨m2, k2, e2, o2, hk2⟩ := v_law_moved (M := M) (hL.ok n9 hn9) n1 n7 S99 hk1
  have ow := whI_ok (n := n) n1 (s := 420 * S) (by omega)
  have hall : ∀ ms ∈ [m1, whI n (420 * S), H, m420 n0, m420 m2], NsOk n (420 * S) ms := fun ms hm => by
    simp only [List.mem_cons, List.not_mem_nil, or_false] at hm
    rcases hm with rfl | rfl | rfl | rfl | rfl
    · exact o1
    · exact ow
    · exact oh
    · exact (hL.ok _ hn0).m420
    · exact o2.m420
  let made : PyData := .list [lI m1, lI (whI n (420 * S)), lI H, lI (m420 n0), lI (m420 m2)]
  obtain ⟨e', l1, s7, s8, s9, rfl⟩ := for_at0 (tg := g1 7) (f := lp_law_above_right_1) (E := lI) (xs := [m1, whI n (420 * S), H, m420 n0, m420 m2]) (S := fun _ e => ∃ s7 s8 s9, e = [.own true k2, .val (dL Ls), .val (eL qg), .val (.int (b : Int)), .val (lI H), .val (lI (whI n (420 * S))), .val made, s7, s8, s9, .no, .no]) (e := [.own true k2, .val (dL Ls), .val (eL qg), .val (.int (b : Int)), .val (lI H), .val (lI (whI n (420 * S))), .val made, .no, .no, .no, .no, .no]) ⟨_, _, _, rfl⟩ fun i ms hi e ⟨s7, s8, s9, he⟩ => by
    subst he
    exact ⟨_, _, .nx, rfl, above_turn hv hT hS hL hq hf hu hd (hall ms (List.mem_of_getElem? hi)) k2, .inl rfl, _, _, _, rfl⟩
  refine ⟨k2, ?_, hk2⟩
  have l1 : forL (g1 7) lp_law_above_right_1 [lI m1, lI (whI n (420 * S)), lI H, lI (m420 n0), lI (m420 m2)] [.own true k2, .val (dL Ls), .val (eL qg), .val (.int (b : Int)), .val (lI H), .val (lI (whI n (420 * S))), .val (.list [lI m1, lI (whI n (420 * S)), lI H, lI (m420 n0), lI (m420 m2)]), .no, .no, .no, .no, .no] = some (.nx, [.own true k2, .val (dL Ls), .val (eL qg), .val (.int (b : Int)), .val (lI H), .val (lI (whI n (420 * S))), .val (.list [lI m1, lI (whI n (420 * S)), lI H, lI (m420 n0), lI (m420 m2)]), s7, s8, s9, .no, .no]) := l1
  have lh : gLen [lI H] = some (.int (n : Int)) := by simp [oh.len]
  have sh : gSum [lI H] = some (.int (420 * S)) := by
    have := gSum_iD H
    rw [oh.sum] at this
    exact this
  have hrep : ∀ e : En, kRep2 [.int 0] (.int ((n : Int) - 1), e) = some (List.replicate (n - 1) (.int 0), e) := fun e => by
    rw [kRep2_n (by omega) (by simp) (by omega), show (n : Int) - 1 = ((n - 1 : Nat) : Int) by omega, reps_one]
  have hadd : gAdd (.list (List.replicate (n - 1) (.int 0))) (.list [.int (420 * S)]) = some (lI (whI n (420 * S))) := by
    show (if okN _ then _ else _) = _
    rw [okN_of (by simp; omega), if_pos rfl]
    unfold lI iD whI
    rw [List.map_append, List.map_replicate]
    rfl
  have hc1 := comp420 (e := [.own true k1, .val (dL Ls), .val (eL qg), .val (.int (b : Int)), .val (lI H), .val (lI (whI n (420 * S))), .no, .no, .no, .no, .no, .no]) (s := .no) rfl rfl (hL.ok n0 hn0) (by omega) S90
  have hc2 := comp420 (e := [.own true k2, .val (dL Ls), .val (eL qg), .val (.int (b : Int)), .val (lI H), .val (lI (whI n (420 * S))), .own false [lI m1, lI (whI n (420 * S)), lI H, lI (m420 n0)], .no, .no, .no, .no, .no]) (s := .no) rfl rfl o2 (by omega) S90
  have e1 : Ph_law_moved ks [lI H] = some (lI m1, k1) := e1
  have e2 : Ph_law_moved k1 [lI n9] = some (lI m2, k2) := e2
  have hi1 : Ph_law_highest [dL Ls] = some (lI H) := hi1
  have q0 : items (lI n0) = some (iD n0) := rfl
  have q2 : items (lI m2) = some (iD m2) := rfl
  have p0 : PyData.list (iD (m420 n0)) = lI (m420 n0) := rfl
  have p2 : PyData.list (iD (m420 m2)) = lI (m420 m2) := rfl
  have il : items (.list [lI m1, lI (whI n (420 * S)), lI H, lI (m420 n0), lI (m420 m2)]) = some [lI m1, lI (whI n (420 * S)), lI H, lI (m420 n0), lI (m420 m2)] := rfl
  clear hall hH hi2 oh o1 o2 ow hn0 hn9
  clear_value made
  have ok4 : ∀ d e, kApp2 6 d e (some (.own false [lI m1, lI (whI n (420 * S)), lI H, lI (m420 n0)])) = some (.nx, e.set 6 (.own false ([lI m1, lI (whI n (420 * S)), lI H, lI (m420 n0)] ++ [d]))) := fun d e => kApp2_ok (by simp)
  generalize hW : lI (whI n (420 * S)) = W at *
  generalize iD (m420 n0) = C0 at *
  generalize iD (m420 m2) = C2 at *
  generalize lI (m420 n0) = P0 at *
  generalize lI (m420 m2) = P2 at *
  generalize iD n0 = B0 at *
  generalize iD m2 = B2 at *
  generalize lI m1 = A1 at *
  generalize lI m2 = A2 at *
  generalize lI n0 = N0 at *
  generalize lI n9 = N9 at *
  generalize lI H = HH at *
  generalize dL Ls = X at *
  generalize eL qg = Y at *
  generalize List.replicate (n - 1) (PyData.int 0) = RP at *
  unfold Ph_law_above_right
  rw [runM4]
  unfold dn_law_above_right
  simp [-gIx, -gLen, -gSum, -gAdd, -items, ce_law_above_right_1, ce_law_above_right_2, hi1, lh, sh, hrep, hadd, e1, i0, q0, hc1, p0, i9, e2, q2, hc2, p2, ok4, il, l1]
end
end K64
set_option Elab.async false
set_option linter.all false
set_option maxRecDepth 100000
set_option maxHeartbeats 4000000
namespace K64
open PySem PySem.Spec PyProof.Rows L2 Dn
noncomputable def W1 : Fs := sOwn (lA Ph_law_well (lCons (eA Ph_law_cell (lCons (eV 0) (lCons (eC (.int 0)) (lNil)))) (lCons (eC (.int 0)) (lNil)))) 1
noncomputable def W2 : Fs := sSet (e2 gIx (eF (lLst (lCons (eC (.int 1)) (lCons (eC (.int 2)) (lCons (e2 gAdd (eC (.int 1)) (eM 1 Ph_law_lift (lCons (eC (.int 12)) (lNil)))) (lCons (e2 gAdd (eC (.int 1)) (eM 1 Ph_law_lift (lCons (e2 gPow (eC (.int 10)) (eC (.int 15))) (lNil)))) (lNil))))))) (eM 1 Ph_law_lift (lCons (eC (.int 4)) (lNil)))) (g1 2)
noncomputable def W3 : Fs := sSet (eM 1 Ph_law_numbers (lCons (e2 gAdd (eC (.int 1)) (eM 1 Ph_law_lift (lCons (eC (.int 7)) (lNil)))) (lNil))) (g1 3)
noncomputable def W4 : Fs := sOwn (lLst (lCons (eV 3) (lNil))) 4
noncomputable def W5 : Fs := sFor (iR2 (lCons (eC (.int 1)) (lCons (eA gLen (lCons (eV 0) (lNil))) (lNil)))) (g1 5) (lp_law_1)
noncomputable def W6 : Fs := sFrz 4 (sSet (eF (lCm (iSeq (eV 4)) (g1 11) (tYs) (ce_law_1) [11])) (g1 6))
noncomputable def W7 : Fs := sPar 7 8 (lCons (eA Ph_law_folded (lCons (eC (.int 0)) (lCons (eV 6) (lNil)))) (lCons (eA Ph_law_folded (lCons (eC (.int 1)) (lCons (eV 6) (lNil)))) (lNil)))
noncomputable def W8 : Fs := sIf (tB' (e2 gEq (eA gLen (lCons (eV 6) (lNil))) (eC (.int 1)))) (sPar 7 8 (lCons (eA Ph_meet (lCons (e2 gIx (eV 6) (eC (.int 0))) (lCons (e2 gIx (eV 6) (eC (.int 0))) (lNil)))) (lCons (eA Ph_join (lCons (e2 gIx (eV 6) (eC (.int 0))) (lCons (e2 gIx (eV 6) (eC (.int 0))) (lNil)))) (lNil)))) (sNx)
noncomputable def W9 : Fs := sFrz 4 (sIf (tNo (tTr (eA Ph_law_same (lCons (eV 7) (lCons (eA Ph_law_amounts (lCons (eA Ph_law_lowest (lCons (eV 4) (lNil))) (lCons (eV 2) (lNil)))) (lNil)))))) (sRt (eC (.bool false))) (sNx))
noncomputable def W10 : Fs := sFrz 4 (sIf (tNo (tTr (eA Ph_law_same (lCons (eV 8) (lCons (eA Ph_law_amounts (lCons (eA Ph_law_highest (lCons (eV 4) (lNil))) (lCons (e2 gMulI (eC (.int 420)) (eV 2)) (lNil)))) (lNil)))))) (sRt (eC (.bool false))) (sNx))
noncomputable def W11 : Fs := sIf (tB' (e2 gGt (eA gLen (lCons (eV 6) (lNil))) (eC (.int 1)))) (sSeq (sSet (eRevL (eV 6)) (g1 9)) (sIf (tOrr (tNo (tTr (eA Ph_law_same (lCons (eA Ph_law_folded (lCons (eC (.int 0)) (lCons (eV 9) (lNil)))) (lCons (eV 7) (lNil)))))) (tNo (tTr (eA Ph_law_same (lCons (eA Ph_law_folded (lCons (eC (.int 1)) (lCons (eV 9) (lNil)))) (lCons (eV 8) (lNil))))))) (sRt (eC (.bool false))) (sNx))) (sNx)
noncomputable def W12 : Fs := sFor (iSeq (eV 6)) (g1 10) (lp_law_2)
noncomputable def W13 : Fs := sFrz 4 (sIf (tOrr (tNo (tTr (eM 1 Ph_law_further_right (lCons (eV 4) (lCons (eV 7) (lCons (eV 2) (lNil))))))) (tNo (tTr (eM 1 Ph_law_above_right (lCons (eV 4) (lCons (eV 8) (lCons (eV 2) (lNil)))))))) (sRt (eC (.bool false))) (sNx))
noncomputable def W14 : Fs := sRt (eM 1 Ph_law_pair_right (lCons (eV 6) (lNil)))
theorem W_cut : dn_law = sSeq W1 (sSeq W2 (sSeq W3 (sSeq W4 (sSeq W5 (sSeq W6 (sSeq W7 (sSeq W8 (sSeq W9 (sSeq W10 (sSeq W11 (sSeq W12 (sSeq W13 (W14))))))))))))) := rfl
section
variable {Z B BA L4 ES Q7 Q8 A1 A2 A3 A4 R9 E0 : PyData} {ks k1 k2 k3 k4 : List PyData} {s2 s3 s4 s5 s6 s7 s8 s9 s10 : Sl} {z x y i p : Int}
theorem w1 (h1 : Ph_law_cell [Z, .int 0] = some (.int z)) (h2 : Ph_law_well [.int z, .int 0] = some ks) : W1 [.val Z, .no, .no, .no, .no, .no, .no, .no, .no, .no, .no, .no] = some (.nx, [.val Z, .own false ks, .no, .no, .no, .no, .no, .no, .no, .no, .no, .no]) := by
  unfold W1
  simp [h1, h2]
theorem w2 (hp : gPow (.int 10) (.int 15) = some (.int p)) (h1 : Ph_law_lift ks [.int 12] = some (.int x, k1)) (h2 : Ph_law_lift k1 [.int p] = some (.int y, k2)) (h3 : Ph_law_lift k2 [.int 4] = some (.int i, k3)) (h4 : gIx (.list [.int 1, .int 2, .int (1 + x), .int (1 + y)]) (.int i) = some B) : W2 [.val Z, .own false ks, .no, .no, .no, .no, .no, .no, .no, .no, .no, .no] = some (.nx, [.val Z, .own false k3, .val B, .no, .no, .no, .no, .no, .no, .no, .no, .no]) := by
  unfold W2
  simp [-gPow, -gIx, hp, h1, h2, h3, h4]
theorem w3 (h1 : Ph_law_lift ks [.int 7] = some (.int x, k1)) (h2 : Ph_law_numbers k1 [.int (1 + x)] = some (BA, k2)) : W3 [.val Z, .own false ks, .val B, .no, .no, .no, .no, .no, .no, .no, .no, .no] = some (.nx, [.val Z, .own false k2, .val B, .val BA, .no, .no, .no, .no, .no, .no, .no, .no]) := by
  unfold W3
  simp [h1, h2]
theorem w4 : W4 [.val Z, .own false ks, .val B, .val BA, .no, .no, .no, .no, .no, .no, .no, .no] = some (.nx, [.val Z, .own false ks, .val B, .val BA, .own false [BA], .no, .no, .no, .no, .no, .no, .no]) := by
  unfold W4
  simp
theorem lp1 {ds : List PyData} (hl : ds.length ≤ 1000000) (h1 : gIx Z (.int i) = some (.int z)) (h2 : Ph_law_well [.int z, .int i] = some k1) (h3 : Ph_law_moved k1 [BA] = some (A1, k2)) : lp_law_1 [.val Z, .own false ks, .val B, .val BA, .own false ds, .val (.int i), .no, .no, .no, .no, .no, .no] = some (.nx, [.val Z, .own false ks, .val B, .val BA, .own false (ds ++ [A1]), .val (.int i), .no, .no, .no, .no, .no, .no]) := by
  have ap := fun d e => @kApp2_ok e d 4 false ds hl
  unfold lp_law_1
  simp [-gIx, h1, h2, h3, ap]
theorem w6 {ds es : List PyData} (hc : kCm (g1 11) tYs ce_law_1 [11] (ds, [.val Z, .own false ks, .val B, .val BA, .val (.list ds), s5, .no, .no, .no, .no, .no, .no]) = some (es, [.val Z, .own false ks, .val B, .val BA, .val (.list ds), s5, .no, .no, .no, .no, .no, .no])) : W6 [.val Z, .own false ks, .val B, .val BA, .own false ds, s5, .no, .no, .no, .no, .no, .no] = some (.nx, [.val Z, .own false ks, .val B, .val BA, .val (.list ds), s5, .val (.list es), .no, .no, .no, .no, .no]) := by
  unfold W6
  simp [hc]
theorem w7 (h1 : Ph_law_folded [.int 0, ES] = some Q7) (h2 : Ph_law_folded [.int 1, ES] = some Q8) : W7 [.val Z, .own false ks, .val B, .val BA, .val L4, s5, .val ES, .no, .no, .no, .no, .no] = some (.nx, [.val Z, .own false ks, .val B, .val BA, .val L4, s5, .val ES, .val Q7, .val Q8, .no, .no, .no]) := by
  unfold W7
  simp [h1, h2]
theorem w8n (hl : gLen [ES] = some (.int i)) (hi : i ≠ 1) : W8 [.val Z, .own false ks, .val B, .val BA, .val L4, s5, .val ES, .val Q7, .val Q8, .no, .no, .no] = some (.nx, [.val Z, .own false ks, .val B, .val BA, .val L4, s5, .val ES, .val Q7, .val Q8, .no, .no, .no]) := by
  unfold W8
  simp [-gLen, hl, hi]
theorem w8y (hl : gLen [ES] = some (.int 1)) (h0 : gIx ES (.int 0) = some E0) (h1 : Ph_meet [E0, E0] = some A1) (h2 : Ph_join [E0, E0] = some A2) : W8 [.val Z, .own false ks, .val B, .val BA, .val L4, s5, .val ES, .val Q7, .val Q8, .no, .no, .no] = some (.nx, [.val Z, .own false ks, .val B, .val BA, .val L4, s5, .val ES, .val A1, .val A2, .no, .no, .no]) := by
  unfold W8
  simp [-gLen, -gIx, hl, h0, h1, h2]
theorem w9 (h1 : Ph_law_lowest [L4] = some A1) (h2 : Ph_law_amounts [A1, B] = some Q7) (h3 : Ph_law_same [Q7, Q7] = some (.bool true)) : W9 [.val Z, .own false ks, .val B, .val BA, .val L4, s5, .val ES, .val Q7, .val Q8, .no, .no, .no] = some (.nx, [.val Z, .own false ks, .val B, .val BA, .val L4, s5, .val ES, .val Q7, .val Q8, .no, .no, .no]) := by
  unfold W9
  simp [h1, h2, h3]
theorem w10 (h0 : gMulI (.int 420) B = some A2) (h1 : Ph_law_highest [L4] = some A1) (h2 : Ph_law_amounts [A1, A2] = some Q8) (h3 : Ph_law_same [Q8, Q8] = some (.bool true)) : W10 [.val Z, .own false ks, .val B, .val BA, .val L4, s5, .val ES, .val Q7, .val Q8, .no, .no, .no] = some (.nx, [.val Z, .own false ks, .val B, .val BA, .val L4, s5, .val ES, .val Q7, .val Q8, .no, .no, .no]) := by
  unfold W10
  simp [-gMulI, h0, h1, h2, h3]
theorem w11n (hl : gLen [ES] = some (.int i)) (hi : ¬ 1 < i) : W11 [.val Z, .own false ks, .val B, .val BA, .val L4, s5, .val ES, .val Q7, .val Q8, .no, .no, .no] = some (.nx, [.val Z, .own false ks, .val B, .val BA, .val L4, s5, .val ES, .val Q7, .val Q8, .no, .no, .no]) := by
  unfold W11
  simp [-gLen, hl, hi]
theorem w11y {es : List PyData} (hl : gLen [.list es] = some (.int i)) (hi : 1 < i) (h1 : Ph_law_folded [.int 0, .list es.reverse] = some Q7) (h2 : Ph_law_folded [.int 1, .list es.reverse] = some Q8) (h3 : Ph_law_same [Q7, Q7] = some (.bool true)) (h4 : Ph_law_same [Q8, Q8] = some (.bool true)) : W11 [.val Z, .own false ks, .val B, .val BA, .val L4, s5, .val (.list es), .val Q7, .val Q8, .no, .no, .no] = some (.nx, [.val Z, .own false ks, .val B, .val BA, .val L4, s5, .val (.list es), .val Q7, .val Q8, .val (.list es.reverse), .no, .no]) := by
  have hr : ∀ e, kRevL (.list es, e) = some (.list es.reverse, e) := fun _ => rfl
  unfold W11
  generalize PyData.list es.reverse = R at *
  generalize PyData.list es = E at *
  simp [-gLen, hl, hi, hr, h1, h2, h3, h4]
theorem lp2 (h1 : Ph_is_more_even [Q8, E0] = some (.bool true)) (h2 : Ph_is_more_even [E0, Q7] = some (.bool true)) (h3 : Ph_law_same [.bool true, .bool true] = some (.bool true)) : lp_law_2 [.val Z, .own false ks, .val B, .val BA, .val L4, s5, .val ES, .val Q7, .val Q8, s9, .val E0, .no] = some (.nx, [.val Z, .own false ks, .val B, .val BA, .val L4, s5, .val ES, .val Q7, .val Q8, s9, .val E0, .no]) := by
  unfold lp_law_2
  simp [h1, h2, h3]
theorem w13 (h1 : Ph_law_further_right ks [L4, Q7, B] = some (.bool true, k1)) (h2 : Ph_law_above_right k1 [L4, Q8, B] = some (.bool true, k2)) : W13 [.val Z, .own false ks, .val B, .val BA, .val L4, s5, .val ES, .val Q7, .val Q8, s9, s10, .no] = some (.nx, [.val Z, .own false k2, .val B, .val BA, .val L4, s5, .val ES, .val Q7, .val Q8, s9, s10, .no]) := by
  unfold W13
  simp [h1, h2]
theorem w14 (h : Ph_law_pair_right ks [ES] = some (.bool true, k1)) : endP (W14 [.val Z, .own false ks, .val B, .val BA, .val L4, s5, .val ES, .val Q7, .val Q8, s9, s10, .no]) = some (.bool true) := by
  unfold W14
  simp [h]
end
end K64
set_option Elab.async false
set_option linter.all false
set_option maxRecDepth 100000
set_option maxHeartbeats 4000000
namespace K64
open PySem PySem.Spec PyProof.Rows L2 Dn
section
variable {n b : Nat} {S : Int} {T : Rat} {Es Fs : List (List Rat)} {Ls : List (List Int)} {q r : List Rat}
def LoOk (n b : Nat) (T : Rat) (Es : List (List Rat)) (q : List Rat) : Prop := QOk n (420 * b) T q ∧ ∃ f, IsLo Es f ∧ q = stp f n
def HiOk (n b : Nat) (T : Rat) (Es : List (List Rat)) (q : List Rat) : Prop := QOk n (420 * b) T q ∧ ∃ f, IsHi Es f ∧ Hul n f q ∧ Dsc q
theorem LoOk.uniq (h : LoOk n b T Es q) (h2 : LoOk n b T Fs r) (hm : ∀ x, x ∈ Es ↔ x ∈ Fs) : q = r := by
  obtain ⟨_, f, a, rfl⟩ := h
  obtain ⟨_, g, c, rfl⟩ := h2
  rw [a.uniq c hm]
theorem HiOk.uniq (h : HiOk n b T Es q) (h2 : HiOk n b T Fs r) (hm : ∀ x, x ∈ Es ↔ x ∈ Fs) : q = r := by
  obtain ⟨_, f, a, u, _⟩ := h
  obtain ⟨_, g, c, v, _⟩ := h2
  rw [a.uniq c hm] at u
  exact u.uniq v
theorem InvM.ok (h : InvM n b T Es q) (hl : 2 ≤ Es.length) : LoOk n b T Es q := by
  obtain ⟨a, f, c, _, e⟩ := h
  exact ⟨a, f, c, e hl⟩
theorem InvJ.ok (h : InvJ n b T Es q) (hl : 2 ≤ Es.length) : HiOk n b T Es q := by
  obtain ⟨a, f, c, u, e⟩ := h
  have := e hl
  rw [this.eq] at u
  exact ⟨a, f, c, u, this⟩
theorem lo_one (h : QOk n b T q) : LoOk n b T [q] (stp (gS q) n) := ⟨by rw [stp_gS h.len]; exact h.dsc.u420, gS q, isLo_one q, rfl⟩
theorem hi_one (h : QOk n b T q) : HiOk n b T [q] (dsc q) := ⟨h.dsc.u420, gS q, isHi_one q, dsc_hul h.len, dsc_dsc q⟩
theorem EsOk.rev (h : EsOk n b T Es) : EsOk n b T Es.reverse := ⟨by simpa using h.ne, fun q hq => h.ok q (List.mem_reverse.mp hq), by rw [List.length_reverse]; exact h.len⟩
theorem esOk_of (hb : 0 < b) (hT : T = (b : Rat)⁻¹ * (S : Rat)) (h : LsOk n S Ls) : EsOk n b T (Ls.map (eQ b)) := by
  refine ⟨fun z => h.ne (List.map_eq_nil_iff.mp z), fun q hq => ?_, by rw [List.length_map]; exact h.len⟩
  obtain ⟨ns, hn, rfl⟩ := List.mem_map.mp hq
  rw [hT]
  exact eQ_ok hb (h.ok ns hn)
theorem isLo_L (h : Ls ≠ []) (b : Nat) : IsLo (Ls.map (eQ b)) fun k => (b : Rat)⁻¹ * loR Ls k := by
  refine ⟨fun q hq k => ?_, fun k => ?_⟩
  · obtain ⟨ns, hn, rfl⟩ := List.mem_map.mp hq
    rw [gS_eQ]
    exact Rat.mul_le_mul_of_nonneg_left (loR_le h hn k) (inv_nn b)
  · obtain ⟨ns, hn, e⟩ := loR_at h k
    exact ⟨_, List.mem_map.mpr ⟨ns, hn, rfl⟩, by rw [gS_eQ, e]⟩
theorem isHi_L (h : Ls ≠ []) (b : Nat) : IsHi (Ls.map (eQ b)) fun k => (b : Rat)⁻¹ * hiR Ls k := by
  refine ⟨fun q hq k => ?_, fun k => ?_⟩
  · obtain ⟨ns, hn, rfl⟩ := List.mem_map.mp hq
    rw [gS_eQ]
    exact Rat.mul_le_mul_of_nonneg_left (hiR_ge hn k) (inv_nn b)
  · obtain ⟨ns, hn, e⟩ := hiR_at h k
    exact ⟨_, List.mem_map.mpr ⟨ns, hn, rfl⟩, by rw [gS_eQ, e]⟩
theorem lo_is (h : Ls ≠ []) (hq : LoOk n b T (Ls.map (eQ b)) q) : eQ b (loL Ls n) = q := by
  obtain ⟨_, f, a, rfl⟩ := hq
  unfold eQ
  rw [loL_R, stp_scale, (isLo_L h b).uniq a fun _ => Iff.rfl]
theorem hi_is (hb : 0 < b) (h : Ls ≠ []) (hq : HiOk n b T (Ls.map (eQ b)) q) {D : List Rat} (hD : Hull n (hiR Ls) D) (hr : rR (hiL D n) = D.map fun x => 420 * x) : eQ (420 * b) (hiL D n) = q := by
  obtain ⟨_, f, a, u, _⟩ := hq
  have e : eQ (420 * b) (hiL D n) = D.map fun x => (b : Rat)⁻¹ * x := by
    unfold eQ
    rw [hr, List.map_map]
    refine List.map_congr_left fun x _ => ?_
    exact (inv_420 hb x).symm
  rw [e]
  have h2 := hD.hul.scale (c := (b : Rat)⁻¹) (Rat.inv_pos.mpr (nat_posR hb))
  rw [(isHi_L h b).uniq a fun _ => Iff.rfl] at h2
  exact h2.uniq u
theorem LoOk.facts (h : LoOk n b T Es q) (he : EsOk n b T Es) : ∃ f, IsLo Es f ∧ ∀ k, k ≤ n → gS q k = f k := by
  obtain ⟨_, f, a, rfl⟩ := h
  exact ⟨f, a, (a.stp_ok he.ok).2.2⟩
theorem lo_leads (h : LoOk n b T Es q) (he : EsOk n b T Es) {e : List Rat} (hm : e ∈ Es) : ∀ k, k ≤ n → gS q k ≤ gS e k := fun k hk => by
  obtain ⟨f, a, c⟩ := h.facts he
  rw [c k hk]
  exact a.le e hm k
theorem hi_leads (h : HiOk n b T Es q) {e : List Rat} (hm : e ∈ Es) : ∀ k, k ≤ n → gS e k ≤ gS q k := fun k hk => by
  obtain ⟨_, f, a, u, d⟩ := h
  rw [gS_dsc d]
  exact Rat.le_trans (a.ge e hm k) (u.up k hk)
theorem sum_lt : ∀ {ms : List Int}, (∀ x ∈ ms, x < 10 ^ 20) → ms.sum ≤ (ms.length : Int) * 10 ^ 20
  | [], _ => by simp
  | x :: ms, h => by
    have h1 := h x (by simp)
    have h2 := sum_lt (ms := ms) fun y hy => h y (List.mem_cons_of_mem _ hy)
    rw [List.sum_cons, List.length_cons]
    have e : ((ms.length + 1 : Nat) : Int) * 10 ^ 20 = (ms.length : Int) * 10 ^ 20 + 10 ^ 20 := by
      rw [Int.natCast_add, Int.add_mul]
      rfl
    rw [e]
    omega
theorem T_le (hb : 0 < b) (h0 : 0 ≤ S) (hS : S < 2 ^ 80) : (b : Rat)⁻¹ * (S : Rat) ≤ (NB : Rat) := by
  have e := inv_mul hb (S : Rat)
  have x0 : 0 ≤ (b : Rat)⁻¹ * (S : Rat) := Rat.mul_nonneg (inv_nn b) (Rat.intCast_le_intCast.mpr h0)
  have b1 : (1 : Rat) ≤ (b : Rat) := Rat.natCast_le_natCast.mpr hb
  have h1 := Rat.mul_le_mul_of_nonneg_right b1 x0
  have h2 : (S : Rat) ≤ ((NB : Nat) : Rat) := by
    have : S ≤ ((NB : Nat) : Int) := by
      unfold NB
      have : (2 : Int) ^ 80 = 1208925819614629174706176 := by decide
      omega
    exact Rat.intCast_le_intCast.mpr this
  rw [e] at h1
  grind
end
theorem log_bits {z : Int} (h : Builtin.Int.intBits z ≤ 1048576) : z.natAbs.log2 ≤ 1048576 := by
  unfold Builtin.Int.intBits at h
  split at h
  · rename_i h0
    have : z = 0 := by simpa using h0
    subst this
    decide
  · omega
theorem v_law_cell0 {ns : List Int} (hb : ∀ z ∈ ns, Builtin.Int.intBits z ≤ 1048576) : ∃ z : Int, Ph_law_cell [.list (ns.map .int), .int 0] = some (.int z) ∧ z.natAbs.log2 ≤ 1048576 := by
  cases ns with
  | nil =>
    refine ⟨0, ?_, by decide⟩
    unfold Ph_law_cell
    rw [run2]
    unfold dn_law_cell
    simp
  | cons z r =>
    refine ⟨z, ?_, log_bits (hb z (by simp))⟩
    have h0 : gIx (.list ((z :: r).map .int)) (.int 0) = some (.int z) := ix_head
    have hl : gLen [.list ((z :: r).map .int)] = some (.int ((r.length + 1 : Nat) : Int)) := by simp
    have hp : (0 : Int) < ((r.length + 1 : Nat) : Int) := by omega
    generalize PyData.list ((z :: r).map .int) = Z at *
    generalize ((r.length + 1 : Nat) : Int) = L at *
    unfold Ph_law_cell
    rw [run2]
    unfold dn_law_cell
    simp [-gIx, -gLen, hl, h0, hp]
theorem below_of {x y i : Nat} (hx : x < 12) (hy : y < 1000000000000000) (hi : i < 4) : ∃ b : Nat, gIx (.list [.int 1, .int 2, .int (1 + (x : Int)), .int (1 + (y : Int))]) (.int (i : Int)) = some (.int (b : Int)) ∧ 0 < b ∧ b < 2 ^ 100 := by
  have h100 : (2 : Nat) ^ 100 = 1267650600228229401496703205376 := by decide
  rcases (show i = 0 ∨ i = 1 ∨ i = 2 ∨ i = 3 by omega) with rfl | rfl | rfl | rfl
  · exact ⟨1, rfl, by decide, by omega⟩
  · exact ⟨2, rfl, by decide, by omega⟩
  · exact ⟨1 + x, by rw [Int.natCast_add]; rfl, by omega, by omega⟩
  · exact ⟨1 + y, by rw [Int.natCast_add]; rfl, by omega, by omega⟩
end K64
set_option Elab.async false
set_option linter.all false
set_option maxRecDepth 100000
set_option maxHeartbeats 4000000
namespace K64
open PySem PySem.Spec PyProof.Rows L2 Dn
theorem seq_nx {f g : Fs} {x : Sl} {e e' : En} (h : f (x :: e) = some (.nx, e')) : sSeq f g (x :: e) = g e' := by
  unfold sSeq
  rw [h]
  rfl
theorem law_true (ns : List Int) (hl : ns.length ≤ 63) (hb : ∀ z ∈ ns, Builtin.Int.intBits z ≤ 1048576) : Ph_law [.list (ns.map .int)] = some (.bool true) := by
  obtain ⟨z, c1, hz⟩ := v_law_cell0 hb
  obtain ⟨k0, c2, u0⟩ := v_law_well (z := z) (k := 0) hz ⟨by omega, by omega⟩
  have e1 := w1 c1 c2
  obtain ⟨P, hP, p15⟩ : ∃ P : Nat, P = 1000000000000000 ∧ gPow (.int 10) (.int 15) = some (.int (P : Int)) := by
    have : powOk 10 15 = true := by decide +kernel
    exact ⟨_, rfl, by simp [gPow, this]⟩
  obtain ⟨x, k1, l1, hx, u1⟩ := v_lift_nat (M := 999999) (m := 12) u0 (by decide) (by decide)
  obtain ⟨y, k2, l2, hy, u2⟩ := v_lift_nat (M := 999998) (m := P) u1 (by omega) (by omega)
  obtain ⟨i, k3, l3, hi, u3⟩ := v_lift_nat (M := 999997) (m := 4) u2 (by decide) (by decide)
  obtain ⟨b, c3, b0, b2⟩ := below_of hx (show y < 1000000000000000 by omega) hi
  have e2 := w2 (Z := .list (ns.map .int)) p15 l1 l2 l3 c3
  obtain ⟨m, k4, l4, hm, u4⟩ := v_lift_nat (M := 999996) (m := 7) u3 (by decide) (by decide)
  obtain ⟨n, hn⟩ : ∃ n : Nat, n = 1 + m := ⟨_, rfl⟩
  obtain ⟨base, k5, l5, bl, bb, u5⟩ := v_law_numbers (M := 1000) (n := n) (by omega) (u4.mono (by decide))
  have n1 : 1 ≤ n := by omega
  have n7 : n ≤ 7 := by omega
  have l5 : Ph_law_numbers k4 [.int (1 + (m : Int))] = some (lI base, k5) := by
    have : (n : Int) = 1 + (m : Int) := by omega
    rw [← this]
    exact l5
  have e3 := w3 (Z := .list (ns.map .int)) (B := .int (b : Int)) l4 l5
  obtain ⟨S, hS⟩ : ∃ S : Int, S = base.sum := ⟨_, rfl⟩
  have S0 : 0 ≤ S := by rw [hS]; exact sum_nn fun x hx => (bb x hx).1
  have S80 : S < 2 ^ 80 := by
    have h1 := sum_lt fun x hx => (bb x hx).2
    rw [bl] at h1
    have h2 : (2 : Int) ^ 80 = 1208925819614629174706176 := by decide
    have h3 : (10 : Int) ^ 20 = 100000000000000000000 := by decide
    rw [h3] at h1
    omega
  have ob : NsOk n S base := ⟨bl, fun x hx => (bb x hx).1, hS.symm⟩
  obtain ⟨T, hT⟩ : ∃ T : Rat, T = (b : Rat)⁻¹ * (S : Rat) := ⟨_, rfl⟩
  have hv : Env n b T := ⟨n1, n7, b0, b2, by rw [hT]; exact T_le b0 S0 S80⟩
  have ix : ∀ i, (h : i < ns.length) → gIx (.list (ns.map .int)) (.int (i : Int)) = some (.int ns[i]) := fun i h => by
    have := atI_get (l := ns.map PyData.int) (i := i) (by simpa using h)
    rw [List.getElem_map] at this
    exact this
  have hlp := for_ix (tg := g1 5) (f := lp_law_1) (E := fun i => .int ((1 + i : Nat) : Int)) (n := ns.length - 1)
    (S := fun j e => ∃ Ls s5, e = [.val (.list (ns.map .int)), .own false k5, .val (.int (b : Int)), .val (lI base), .own false (Ls.map lI), s5, .no, .no, .no, .no, .no, .no] ∧ LsOk n S Ls ∧ Ls.length = j + 1)
    (e := [.val (.list (ns.map .int)), .own false k5, .val (.int (b : Int)), .val (lI base), .own false [lI base], .no, .no, .no, .no, .no, .no, .no]) ⟨[base], _, rfl, ⟨by simp, fun x hx => by rw [List.mem_singleton.mp hx]; exact ob, by simp⟩, rfl⟩ fun j hj e ⟨Ls, s5, he, hL, hlen⟩ => by
      subst he
      have hjl : 1 + j < ns.length := by omega
      obtain ⟨kj, f1, g1⟩ := v_law_well (z := ns[1 + j]) (k := ((1 + j : Nat) : Int)) (log_bits (hb _ (List.getElem_mem hjl))) ⟨by omega, by omega⟩
      obtain ⟨ms, kj2, f2, om, g2⟩ := v_law_moved (M := 0) ob n1 n7 (Int.lt_trans S80 (by decide)) (g1.mono (by decide))
      have fin := lp1 (B := .int (b : Int)) (ks := k5) (ds := Ls.map lI) (by rw [List.length_map]; omega) (ix (1 + j) hjl) f1 f2
      have e3 : Ls.map lI ++ [lI ms] = (Ls ++ [ms]).map lI := by simp
      rw [e3] at fin
      exact ⟨_, _, .nx, rfl, fin, .inl rfl, Ls ++ [ms], _, rfl, ⟨by simp, fun x hx => by
        rcases List.mem_append.mp hx with hx | hx
        · exact hL.ok x hx
        · rw [List.mem_singleton.mp hx]; exact om, by rw [List.length_append, hlen]; simp; omega⟩, by rw [List.length_append, hlen]; rfl⟩
  obtain ⟨e', lp, Ls, s5, rfl, hL, hlen⟩ := hlp
  have e5 : W5 [.val (.list (ns.map .int)), .own false k5, .val (.int (b : Int)), .val (lI base), .own false [lI base], .no, .no, .no, .no, .no, .no, .no] = some (.nx, [.val (.list (ns.map .int)), .own false k5, .val (.int (b : Int)), .val (lI base), .own false (Ls.map lI), s5, .no, .no, .no, .no, .no, .no]) := by
    have hr := fun e => @kR2_len 1 ns.length e (by omega) (by omega)
    have c1 : ((1 : Nat) : Int) = 1 := rfl
    rw [c1] at hr
    have hg : gLen [.list (ns.map .int)] = some (.int (ns.length : Int)) := by simp
    generalize PyData.list (ns.map .int) = Z at *
    generalize lI base = BA at *
    generalize (List.range (ns.length - 1)).map (fun (i : Nat) => PyData.int ((1 + i : Nat) : Int)) = RG at *
    unfold W5
    simp [-gLen, hg, hr, lp]
  obtain ⟨Es, hEs⟩ : ∃ Es, Es = Ls.map (eQ b) := ⟨_, rfl⟩
  have hE : EsOk n b T Es := by rw [hEs]; exact esOk_of b0 hT hL
  have b1000 : (b : Int) < 2 ^ 1000 := by
    have h := lt_pow (b := 1000) b2 (by decide)
    have : (2 : Int) ^ 1000 = ((2 ^ 1000 : Nat) : Int) := by rw [Int.natCast_pow]; rfl
    rw [this]
    exact Int.ofNat_lt.mpr h
  have am : ∀ ms : List Int, ms.length = n → Ph_law_amounts [lI ms, .int (b : Int)] = some (eL (eQ b ms)) := fun ms hm => by
    have ha := v_law_amounts (ns := ms) (b := (b : Int)) (by omega) b1000 (by omega)
    rw [eQ_div] at ha
    exact ha
  have hc := cm_a (a := ce_law_1) (i := 11) (e := [.val (.list (ns.map .int)), .own false k5, .val (.int (b : Int)), .val (lI base), .val (dL Ls), s5, .no, .no, .no, .no, .no, .no]) (xs := Ls) (E := lI) (D := eL) (F := eQ b) (by have := hL.len; omega) rfl rfl fun ms hm => by
    have h := am ms (hL.ok ms hm).len
    generalize lI ms = A at *
    generalize eL (eQ b ms) = Q at *
    generalize dL Ls = X at *
    generalize PyData.list (ns.map .int) = Z at *
    generalize lI base = BA at *
    simp [ce_law_1, h]
  have e6 := w6 hc
  rw [← hEs] at e6
  obtain ⟨q1, a1, i1⟩ := fold_meet hv hE
  obtain ⟨q2, a2, i2⟩ := fold_join hv hE
  have e7 := w7 (Z := .list (ns.map .int)) (B := .int (b : Int)) (BA := lI base) (L4 := dL Ls) (ks := k5) (s5 := s5) a1 a2
  have gl : gLen [dE Es] = some (.int (Es.length : Int)) := by simp
  obtain ⟨ql, qg, e8, hlo, hhi⟩ : ∃ ql qg, W8 [.val (.list (ns.map .int)), .own false k5, .val (.int (b : Int)), .val (lI base), .val (dL Ls), s5, .val (dE Es), .val (eL q1), .val (eL q2), .no, .no, .no] = some (.nx, [.val (.list (ns.map .int)), .own false k5, .val (.int (b : Int)), .val (lI base), .val (dL Ls), s5, .val (dE Es), .val (eL ql), .val (eL qg), .no, .no, .no]) ∧ LoOk n b T Es ql ∧ HiOk n b T Es qg := by
    by_cases one : Es.length = 1
    · obtain ⟨q, rfl⟩ := List.length_eq_one_iff.mp one
      have hq := hE.ok q (by simp)
      refine ⟨_, _, w8y gl ix_head (one_meet hv hq) (one_join hv hq), lo_one hq, hi_one hq⟩
    · have l2 : 2 ≤ Es.length := by
        have := List.length_pos_iff.mpr hE.ne
        omega
      exact ⟨q1, q2, w8n gl (by omega), i1.ok l2, i2.ok l2⟩
  have loA := lo_is (n := n) (T := T) hL.ne (by rw [← hEs]; exact hlo)
  have s7 := sameD hv hlo.1
  have s8 := sameD hv hhi.1
  have e9 := w9 (Z := .list (ns.map .int)) (B := .int (b : Int)) (BA := lI base) (L4 := dL Ls) (ES := dE Es) (Q8 := eL qg) (ks := k5) (s5 := s5) (v_law_lowest hL (by omega)) (by have := am (loL Ls n) hL.lo_ok.len; rw [loA] at this; exact this) s7
  have hH := scan_hull (f := hiR Ls) (hiR_0 hL.ne) n
  generalize difS (hiR Ls) (scanS (hiR Ls) n) = D at hH
  obtain ⟨hi1, hi2⟩ := v_law_highest hL (Int.lt_trans S80 (by decide)) n7 hH
  have hiA := hi_is (n := n) (T := T) b0 hL.ne (by rw [← hEs]; exact hhi) hH hi2
  have am2 : Ph_law_amounts [lI (hiL D n), .int (420 * (b : Int))] = some (eL qg) := by
    have ha := v_law_amounts (ns := hiL D n) (b := ((420 * b : Nat) : Int)) (by omega) (b420_int hv) (by unfold hiL; simp; omega)
    rw [eQ_div, hiA, Int.natCast_mul 420 b] at ha
    exact ha
  have gm : gMulI (.int 420) (.int (b : Int)) = some (.int (420 * (b : Int))) := by
    have := mul_b hv
    simp [this]
  have e10 := w10 (Z := .list (ns.map .int)) (BA := lI base) (L4 := dL Ls) (ES := dE Es) (Q7 := eL ql) (ks := k5) (s5 := s5) gm hi1 am2 s8
  obtain ⟨s9, e11⟩ : ∃ s9, W11 [.val (.list (ns.map .int)), .own false k5, .val (.int (b : Int)), .val (lI base), .val (dL Ls), s5, .val (dE Es), .val (eL ql), .val (eL qg), .no, .no, .no] = some (.nx, [.val (.list (ns.map .int)), .own false k5, .val (.int (b : Int)), .val (lI base), .val (dL Ls), s5, .val (dE Es), .val (eL ql), .val (eL qg), s9, .no, .no]) := by
    by_cases one : 2 ≤ Es.length
    · obtain ⟨r1, f1, j1⟩ := fold_meet hv hE.rev
      obtain ⟨r2, f2, j2⟩ := fold_join hv hE.rev
      have lr : 2 ≤ Es.reverse.length := by rw [List.length_reverse]; exact one
      have mm : ∀ x, x ∈ Es.reverse ↔ x ∈ Es := fun x => List.mem_reverse
      rw [(j1.ok lr).uniq hlo mm] at f1
      rw [(j2.ok lr).uniq hhi mm] at f2
      have rv : dE Es.reverse = .list (Es.map eL).reverse := by
        unfold dE
        rw [List.map_reverse]
      rw [rv] at f1 f2
      exact ⟨_, w11y gl (by omega) f1 f2 s7 s8⟩
    · exact ⟨_, w11n gl (by omega)⟩
  have hlp2 := for_at0 (tg := g1 10) (f := lp_law_2) (E := eL) (xs := Es) (S := fun _ e => ∃ s10, e = [.val (.list (ns.map .int)), .own false k5, .val (.int (b : Int)), .val (lI base), .val (dL Ls), s5, .val (dE Es), .val (eL ql), .val (eL qg), s9, s10, .no]) (e := [.val (.list (ns.map .int)), .own false k5, .val (.int (b : Int)), .val (lI base), .val (dL Ls), s5, .val (dE Es), .val (eL ql), .val (eL qg), s9, .no, .no]) ⟨_, rfl⟩ fun j q hj e ⟨s10, he⟩ => by
    subst he
    have hm := List.mem_of_getElem? hj
    have hq := (hE.ok q hm).u420
    have g1 := v_is_more_even hhi.1 hq hv.d0 hv.d2000 hv.T2 n1 n7
    have g2 := v_is_more_even hq hlo.1 hv.d0 hv.d2000 hv.T2 n1 n7
    rw [decide_eq_true (hi_leads hhi hm)] at g1
    rw [decide_eq_true (lo_leads hlo hE hm)] at g2
    exact ⟨_, _, .nx, rfl, lp2 g1 g2 (same_b true), .inl rfl, _, rfl⟩
  obtain ⟨e', lq, s10, rfl⟩ := hlp2
  have e12 : W12 [.val (.list (ns.map .int)), .own false k5, .val (.int (b : Int)), .val (lI base), .val (dL Ls), s5, .val (dE Es), .val (eL ql), .val (eL qg), s9, .no, .no] = some (.nx, [.val (.list (ns.map .int)), .own false k5, .val (.int (b : Int)), .val (lI base), .val (dL Ls), s5, .val (dE Es), .val (eL ql), .val (eL qg), s9, s10, .no]) := by
    have hi : items (dE Es) = some (Es.map eL) := rfl
    generalize PyData.list (ns.map .int) = Z at *
    generalize lI base = BA at *
    generalize dL Ls = X at *
    generalize eL ql = Y at *
    generalize eL qg = Y2 at *
    generalize dE Es = X2 at *
    generalize Es.map eL = X3 at *
    unfold W12
    simp [-items, hi, lq]
  obtain ⟨f, hf, hg⟩ := hlo.facts hE
  obtain ⟨_, g, hgi, hgu, hgd⟩ := hhi
  rw [hEs] at hf hgi
  obtain ⟨k6, f6, u6⟩ := v_law_further_right (M := 200) hv hT (Int.lt_trans S80 (by decide)) hL hlo.1 hf hg (u5.mono (by decide))
  obtain ⟨k7, f7, u7⟩ := v_law_above_right (M := 100) hv hT S80 hL (by assumption) hgi hgu hgd (u6.mono (by decide))
  obtain ⟨k8, f8, -⟩ := v_law_pair_right (M := 0) hv hE (u7.mono (by decide))
  unfold Ph_law
  rw [run1, W_cut]
  show endP (sSeq W1 _ [.val (.list (ns.map .int)), .no, .no, .no, .no, .no, .no, .no, .no, .no, .no, .no]) = _
  rw [seq_nx e1, seq_nx e2, seq_nx e3, seq_nx w4, seq_nx e5, seq_nx e6, seq_nx e7, seq_nx e8, seq_nx e9, seq_nx e10, seq_nx e11, seq_nx e12, seq_nx (w13 f6 f7)]
  exact w14 f8
end K64
set_option Elab.async false
set_option linter.all false
set_option maxRecDepth 100000
set_option maxHeartbeats 4000000
namespace K64
open PySem PySem.Spec PyProof.Rows Dn
open L2 hiding FnOk Room hu_of pe_call pe_callS pe_callK Dp DpAll
noncomputable def wd_mk {P : Program} {K : PySem.W.Frag} {h : Heap} {mg : Str → Option Value} {base : Heap} (NSB : base.NoSeer) (X : K.In h) (G : h.Ns mainGlobals mg)
    {f0 : Addr} {od0 an0 : Option Addr} {sl0 : Array (Option Value)} {oc0 kV0 dc0 pm0 cd0 ct0 : Value}
    (a0 : PySem.W.nsIn K mainGlobals "_law_well" = some (some (.ref f0))) (l0 : K.lookup f0 = some ⟨oc0, od0, .func (PySem.W.fnOf "_law_well" "_law_well" (defArgs (topS 32)) (defBody (topS 32)) (defScope (topS 32)) .none kV0 dc0 pm0 an0 cd0 ct0), sl0⟩) (c0 : PySem.W.codeIn K cd0 "_law_well" = true) (k0 : PySem.W.keepIn K (.ref f0) = true)
    {f1 : Addr} {od1 an1 : Option Addr} {sl1 : Array (Option Value)} {oc1 kV1 dc1 pm1 cd1 ct1 : Value}
    (a1 : PySem.W.nsIn K mainGlobals "_law_cell" = some (some (.ref f1))) (l1 : K.lookup f1 = some ⟨oc1, od1, .func (PySem.W.fnOf "_law_cell" "_law_cell" (defArgs (topS 34)) (defBody (topS 34)) (defScope (topS 34)) .none kV1 dc1 pm1 an1 cd1 ct1), sl1⟩) (c1 : PySem.W.codeIn K cd1 "_law_cell" = true) (k1 : PySem.W.keepIn K (.ref f1) = true)
    {f2 : Addr} {od2 an2 : Option Addr} {sl2 : Array (Option Value)} {oc2 kV2 dc2 pm2 cd2 ct2 : Value}
    (a2 : PySem.W.nsIn K mainGlobals "_law_lift" = some (some (.ref f2))) (l2 : K.lookup f2 = some ⟨oc2, od2, .func (PySem.W.fnOf "_law_lift" "_law_lift" (defArgs (topS 33)) (defBody (topS 33)) (defScope (topS 33)) .none kV2 dc2 pm2 an2 cd2 ct2), sl2⟩) (c2 : PySem.W.codeIn K cd2 "_law_lift" = true) (k2 : PySem.W.keepIn K (.ref f2) = true)
    {f3 : Addr} {od3 an3 : Option Addr} {sl3 : Array (Option Value)} {oc3 kV3 dc3 pm3 cd3 ct3 : Value}
    (a3 : PySem.W.nsIn K mainGlobals "_law_numbers" = some (some (.ref f3))) (l3 : K.lookup f3 = some ⟨oc3, od3, .func (PySem.W.fnOf "_law_numbers" "_law_numbers" (defArgs (topS 39)) (defBody (topS 39)) (defScope (topS 39)) .none kV3 dc3 pm3 an3 cd3 ct3), sl3⟩) (c3 : PySem.W.codeIn K cd3 "_law_numbers" = true) (k3 : PySem.W.keepIn K (.ref f3) = true)
    {f4 : Addr} {od4 an4 : Option Addr} {sl4 : Array (Option Value)} {oc4 kV4 dc4 pm4 cd4 ct4 : Value}
    (a4 : PySem.W.nsIn K mainGlobals "_law_turned" = some (some (.ref f4))) (l4 : K.lookup f4 = some ⟨oc4, od4, .func (PySem.W.fnOf "_law_turned" "_law_turned" (defArgs (topS 38)) (defBody (topS 38)) (defScope (topS 38)) .none kV4 dc4 pm4 an4 cd4 ct4), sl4⟩) (c4 : PySem.W.codeIn K cd4 "_law_turned" = true) (k4 : PySem.W.keepIn K (.ref f4) = true)
    {f5 : Addr} {od5 an5 : Option Addr} {sl5 : Array (Option Value)} {oc5 kV5 dc5 pm5 cd5 ct5 : Value}
    (a5 : PySem.W.nsIn K mainGlobals "_law_moved" = some (some (.ref f5))) (l5 : K.lookup f5 = some ⟨oc5, od5, .func (PySem.W.fnOf "_law_moved" "_law_moved" (defArgs (topS 41)) (defBody (topS 41)) (defScope (topS 41)) .none kV5 dc5 pm5 an5 cd5 ct5), sl5⟩) (c5 : PySem.W.codeIn K cd5 "_law_moved" = true) (k5 : PySem.W.keepIn K (.ref f5) = true)
    {f6 : Addr} {od6 an6 : Option Addr} {sl6 : Array (Option Value)} {oc6 kV6 dc6 pm6 cd6 ct6 : Value}
    (a6 : PySem.W.nsIn K mainGlobals "_law_divisor" = some (some (.ref f6))) (l6 : K.lookup f6 = some ⟨oc6, od6, .func (PySem.W.fnOf "_law_divisor" "_law_divisor" (defArgs (topS 35)) (defBody (topS 35)) (defScope (topS 35)) .none kV6 dc6 pm6 an6 cd6 ct6), sl6⟩) (c6 : PySem.W.codeIn K cd6 "_law_divisor" = true) (k6 : PySem.W.keepIn K (.ref f6) = true)
    {f7 : Addr} {od7 an7 : Option Addr} {sl7 : Array (Option Value)} {oc7 kV7 dc7 pm7 cd7 ct7 : Value}
    (a7 : PySem.W.nsIn K mainGlobals "_law_fraction" = some (some (.ref f7))) (l7 : K.lookup f7 = some ⟨oc7, od7, .func (PySem.W.fnOf "_law_fraction" "_law_fraction" (defArgs (topS 36)) (defBody (topS 36)) (defScope (topS 36)) .none kV7 dc7 pm7 an7 cd7 ct7), sl7⟩) (c7 : PySem.W.codeIn K cd7 "_law_fraction" = true) (k7 : PySem.W.keepIn K (.ref f7) = true)
    {f8 : Addr} {od8 an8 : Option Addr} {sl8 : Array (Option Value)} {oc8 kV8 dc8 pm8 cd8 ct8 : Value}
    (a8 : PySem.W.nsIn K mainGlobals "_law_amounts" = some (some (.ref f8))) (l8 : K.lookup f8 = some ⟨oc8, od8, .func (PySem.W.fnOf "_law_amounts" "_law_amounts" (defArgs (topS 44)) (defBody (topS 44)) (defScope (topS 44)) .none kV8 dc8 pm8 an8 cd8 ct8), sl8⟩) (c8 : PySem.W.codeIn K cd8 "_law_amounts" = true) (k8 : PySem.W.keepIn K (.ref f8) = true)
    {f9 : Addr} {od9 an9 : Option Addr} {sl9 : Array (Option Value)} {oc9 kV9 dc9 pm9 cd9 ct9 : Value}
    (a9 : PySem.W.nsIn K mainGlobals "is_integer" = some (some (.ref f9))) (l9 : K.lookup f9 = some ⟨oc9, od9, .func (PySem.W.fnOf "is_integer" "is_integer" (defArgs (topS 9)) (defBody (topS 9)) (defScope (topS 9)) .none kV9 dc9 pm9 an9 cd9 ct9), sl9⟩) (c9 : PySem.W.codeIn K cd9 "is_integer" = true) (k9 : PySem.W.keepIn K (.ref f9) = true)
    {f10 : Addr} {od10 an10 : Option Addr} {sl10 : Array (Option Value)} {oc10 kV10 dc10 pm10 cd10 ct10 : Value}
    (a10 : PySem.W.nsIn K mainGlobals "is_fraction" = some (some (.ref f10))) (l10 : K.lookup f10 = some ⟨oc10, od10, .func (PySem.W.fnOf "is_fraction" "is_fraction" (defArgs (topS 11)) (defBody (topS 11)) (defScope (topS 11)) .none kV10 dc10 pm10 an10 cd10 ct10), sl10⟩) (c10 : PySem.W.codeIn K cd10 "is_fraction" = true) (k10 : PySem.W.keepIn K (.ref f10) = true)
    {f11 : Addr} {od11 an11 : Option Addr} {sl11 : Array (Option Value)} {oc11 kV11 dc11 pm11 cd11 ct11 : Value}
    (a11 : PySem.W.nsIn K mainGlobals "is_amount" = some (some (.ref f11))) (l11 : K.lookup f11 = some ⟨oc11, od11, .func (PySem.W.fnOf "is_amount" "is_amount" (defArgs (topS 12)) (defBody (topS 12)) (defScope (topS 12)) .none kV11 dc11 pm11 an11 cd11 ct11), sl11⟩) (c11 : PySem.W.codeIn K cd11 "is_amount" = true) (k11 : PySem.W.keepIn K (.ref f11) = true)
    {f12 : Addr} {od12 an12 : Option Addr} {sl12 : Array (Option Value)} {oc12 kV12 dc12 pm12 cd12 ct12 : Value}
    (a12 : PySem.W.nsIn K mainGlobals "need_amounts" = some (some (.ref f12))) (l12 : K.lookup f12 = some ⟨oc12, od12, .func (PySem.W.fnOf "need_amounts" "need_amounts" (defArgs (topS 20)) (defBody (topS 20)) (defScope (topS 20)) .none kV12 dc12 pm12 an12 cd12 ct12), sl12⟩) (c12 : PySem.W.codeIn K cd12 "need_amounts" = true) (k12 : PySem.W.keepIn K (.ref f12) = true)
    {f13 : Addr} {od13 an13 : Option Addr} {sl13 : Array (Option Value)} {oc13 kV13 dc13 pm13 cd13 ct13 : Value}
    (a13 : PySem.W.nsIn K mainGlobals "need_both" = some (some (.ref f13))) (l13 : K.lookup f13 = some ⟨oc13, od13, .func (PySem.W.fnOf "need_both" "need_both" (defArgs (topS 21)) (defBody (topS 21)) (defScope (topS 21)) .none kV13 dc13 pm13 an13 cd13 ct13), sl13⟩) (c13 : PySem.W.codeIn K cd13 "need_both" = true) (k13 : PySem.W.keepIn K (.ref f13) = true)
    {f14 : Addr} {od14 an14 : Option Addr} {sl14 : Array (Option Value)} {oc14 kV14 dc14 pm14 cd14 ct14 : Value}
    (a14 : PySem.W.nsIn K mainGlobals "need_fraction" = some (some (.ref f14))) (l14 : K.lookup f14 = some ⟨oc14, od14, .func (PySem.W.fnOf "need_fraction" "need_fraction" (defArgs (topS 13)) (defBody (topS 13)) (defScope (topS 13)) .none kV14 dc14 pm14 an14 cd14 ct14), sl14⟩) (c14 : PySem.W.codeIn K cd14 "need_fraction" = true) (k14 : PySem.W.keepIn K (.ref f14) = true)
    {f15 : Addr} {od15 an15 : Option Addr} {sl15 : Array (Option Value)} {oc15 kV15 dc15 pm15 cd15 ct15 : Value}
    (a15 : PySem.W.nsIn K mainGlobals "fraction" = some (some (.ref f15))) (l15 : K.lookup f15 = some ⟨oc15, od15, .func (PySem.W.fnOf "fraction" "fraction" (defArgs (topS 14)) (defBody (topS 14)) (defScope (topS 14)) .none kV15 dc15 pm15 an15 cd15 ct15), sl15⟩) (c15 : PySem.W.codeIn K cd15 "fraction" = true) (k15 : PySem.W.keepIn K (.ref f15) = true)
    {f16 : Addr} {od16 an16 : Option Addr} {sl16 : Array (Option Value)} {oc16 kV16 dc16 pm16 cd16 ct16 : Value}
    (a16 : PySem.W.nsIn K mainGlobals "sum_of" = some (some (.ref f16))) (l16 : K.lookup f16 = some ⟨oc16, od16, .func (PySem.W.fnOf "sum_of" "sum_of" (defArgs (topS 15)) (defBody (topS 15)) (defScope (topS 15)) .none kV16 dc16 pm16 an16 cd16 ct16), sl16⟩) (c16 : PySem.W.codeIn K cd16 "sum_of" = true) (k16 : PySem.W.keepIn K (.ref f16) = true)
    {f17 : Addr} {od17 an17 : Option Addr} {sl17 : Array (Option Value)} {oc17 kV17 dc17 pm17 cd17 ct17 : Value}
    (a17 : PySem.W.nsIn K mainGlobals "on_one_below" = some (some (.ref f17))) (l17 : K.lookup f17 = some ⟨oc17, od17, .func (PySem.W.fnOf "on_one_below" "on_one_below" (defArgs (topS 17)) (defBody (topS 17)) (defScope (topS 17)) .none kV17 dc17 pm17 an17 cd17 ct17), sl17⟩) (c17 : PySem.W.codeIn K cd17 "on_one_below" = true) (k17 : PySem.W.keepIn K (.ref f17) = true)
    {f18 : Addr} {od18 an18 : Option Addr} {sl18 : Array (Option Value)} {oc18 kV18 dc18 pm18 cd18 ct18 : Value}
    (a18 : PySem.W.nsIn K mainGlobals "on_integers" = some (some (.ref f18))) (l18 : K.lookup f18 = some ⟨oc18, od18, .func (PySem.W.fnOf "on_integers" "on_integers" (defArgs (topS 22)) (defBody (topS 22)) (defScope (topS 22)) .none kV18 dc18 pm18 an18 cd18 ct18), sl18⟩) (c18 : PySem.W.codeIn K cd18 "on_integers" = true) (k18 : PySem.W.keepIn K (.ref f18) = true)
    {f19 : Addr} {od19 an19 : Option Addr} {sl19 : Array (Option Value)} {oc19 kV19 dc19 pm19 cd19 ct19 : Value}
    (a19 : PySem.W.nsIn K mainGlobals "falling" = some (some (.ref f19))) (l19 : K.lookup f19 = some ⟨oc19, od19, .func (PySem.W.fnOf "falling" "falling" (defArgs (topS 23)) (defBody (topS 23)) (defScope (topS 23)) .none kV19 dc19 pm19 an19 cd19 ct19), sl19⟩) (c19 : PySem.W.codeIn K cd19 "falling" = true) (k19 : PySem.W.keepIn K (.ref f19) = true)
    {f20 : Addr} {od20 an20 : Option Addr} {sl20 : Array (Option Value)} {oc20 kV20 dc20 pm20 cd20 ct20 : Value}
    (a20 : PySem.W.nsIn K mainGlobals "sums_of_greatest" = some (some (.ref f20))) (l20 : K.lookup f20 = some ⟨oc20, od20, .func (PySem.W.fnOf "sums_of_greatest" "sums_of_greatest" (defArgs (topS 27)) (defBody (topS 27)) (defScope (topS 27)) .none kV20 dc20 pm20 an20 cd20 ct20), sl20⟩) (c20 : PySem.W.codeIn K cd20 "sums_of_greatest" = true) (k20 : PySem.W.keepIn K (.ref f20) = true)
    {f21 : Addr} {od21 an21 : Option Addr} {sl21 : Array (Option Value)} {oc21 kV21 dc21 pm21 cd21 ct21 : Value}
    (a21 : PySem.W.nsIn K mainGlobals "meet" = some (some (.ref f21))) (l21 : K.lookup f21 = some ⟨oc21, od21, .func (PySem.W.fnOf "meet" "meet" (defArgs (topS 28)) (defBody (topS 28)) (defScope (topS 28)) .none kV21 dc21 pm21 an21 cd21 ct21), sl21⟩) (c21 : PySem.W.codeIn K cd21 "meet" = true) (k21 : PySem.W.keepIn K (.ref f21) = true)
    {f22 : Addr} {od22 an22 : Option Addr} {sl22 : Array (Option Value)} {oc22 kV22 dc22 pm22 cd22 ct22 : Value}
    (a22 : PySem.W.nsIn K mainGlobals "bent_hull" = some (some (.ref f22))) (l22 : K.lookup f22 = some ⟨oc22, od22, .func (PySem.W.fnOf "bent_hull" "bent_hull" (defArgs (topS 29)) (defBody (topS 29)) (defScope (topS 29)) .none kV22 dc22 pm22 an22 cd22 ct22), sl22⟩) (c22 : PySem.W.codeIn K cd22 "bent_hull" = true) (k22 : PySem.W.keepIn K (.ref f22) = true)
    {f23 : Addr} {od23 an23 : Option Addr} {sl23 : Array (Option Value)} {oc23 kV23 dc23 pm23 cd23 ct23 : Value}
    (a23 : PySem.W.nsIn K mainGlobals "join" = some (some (.ref f23))) (l23 : K.lookup f23 = some ⟨oc23, od23, .func (PySem.W.fnOf "join" "join" (defArgs (topS 30)) (defBody (topS 30)) (defScope (topS 30)) .none kV23 dc23 pm23 an23 cd23 ct23), sl23⟩) (c23 : PySem.W.codeIn K cd23 "join" = true) (k23 : PySem.W.keepIn K (.ref f23) = true)
    {f24 : Addr} {od24 an24 : Option Addr} {sl24 : Array (Option Value)} {oc24 kV24 dc24 pm24 cd24 ct24 : Value}
    (a24 : PySem.W.nsIn K mainGlobals "_law_folded" = some (some (.ref f24))) (l24 : K.lookup f24 = some ⟨oc24, od24, .func (PySem.W.fnOf "_law_folded" "_law_folded" (defArgs (topS 48)) (defBody (topS 48)) (defScope (topS 48)) .none kV24 dc24 pm24 an24 cd24 ct24), sl24⟩) (c24 : PySem.W.codeIn K cd24 "_law_folded" = true) (k24 : PySem.W.keepIn K (.ref f24) = true)
    {f25 : Addr} {od25 an25 : Option Addr} {sl25 : Array (Option Value)} {oc25 kV25 dc25 pm25 cd25 ct25 : Value}
    (a25 : PySem.W.nsIn K mainGlobals "_law_same" = some (some (.ref f25))) (l25 : K.lookup f25 = some ⟨oc25, od25, .func (PySem.W.fnOf "_law_same" "_law_same" (defArgs (topS 37)) (defBody (topS 37)) (defScope (topS 37)) .none kV25 dc25 pm25 an25 cd25 ct25), sl25⟩) (c25 : PySem.W.codeIn K cd25 "_law_same" = true) (k25 : PySem.W.keepIn K (.ref f25) = true)
    {f26 : Addr} {od26 an26 : Option Addr} {sl26 : Array (Option Value)} {oc26 kV26 dc26 pm26 cd26 ct26 : Value}
    (a26 : PySem.W.nsIn K mainGlobals "_law_sums" = some (some (.ref f26))) (l26 : K.lookup f26 = some ⟨oc26, od26, .func (PySem.W.fnOf "_law_sums" "_law_sums" (defArgs (topS 42)) (defBody (topS 42)) (defScope (topS 42)) .none kV26 dc26 pm26 an26 cd26 ct26), sl26⟩) (c26 : PySem.W.codeIn K cd26 "_law_sums" = true) (k26 : PySem.W.keepIn K (.ref f26) = true)
    {f27 : Addr} {od27 an27 : Option Addr} {sl27 : Array (Option Value)} {oc27 kV27 dc27 pm27 cd27 ct27 : Value}
    (a27 : PySem.W.nsIn K mainGlobals "_law_steps" = some (some (.ref f27))) (l27 : K.lookup f27 = some ⟨oc27, od27, .func (PySem.W.fnOf "_law_steps" "_law_steps" (defArgs (topS 45)) (defBody (topS 45)) (defScope (topS 45)) .none kV27 dc27 pm27 an27 cd27 ct27), sl27⟩) (c27 : PySem.W.codeIn K cd27 "_law_steps" = true) (k27 : PySem.W.keepIn K (.ref f27) = true)
    {f28 : Addr} {od28 an28 : Option Addr} {sl28 : Array (Option Value)} {oc28 kV28 dc28 pm28 cd28 ct28 : Value}
    (a28 : PySem.W.nsIn K mainGlobals "_law_lowest" = some (some (.ref f28))) (l28 : K.lookup f28 = some ⟨oc28, od28, .func (PySem.W.fnOf "_law_lowest" "_law_lowest" (defArgs (topS 46)) (defBody (topS 46)) (defScope (topS 46)) .none kV28 dc28 pm28 an28 cd28 ct28), sl28⟩) (c28 : PySem.W.codeIn K cd28 "_law_lowest" = true) (k28 : PySem.W.keepIn K (.ref f28) = true)
    {f29 : Addr} {od29 an29 : Option Addr} {sl29 : Array (Option Value)} {oc29 kV29 dc29 pm29 cd29 ct29 : Value}
    (a29 : PySem.W.nsIn K mainGlobals "_law_highest" = some (some (.ref f29))) (l29 : K.lookup f29 = some ⟨oc29, od29, .func (PySem.W.fnOf "_law_highest" "_law_highest" (defArgs (topS 47)) (defBody (topS 47)) (defScope (topS 47)) .none kV29 dc29 pm29 an29 cd29 ct29), sl29⟩) (c29 : PySem.W.codeIn K cd29 "_law_highest" = true) (k29 : PySem.W.keepIn K (.ref f29) = true)
    {f30 : Addr} {od30 an30 : Option Addr} {sl30 : Array (Option Value)} {oc30 kV30 dc30 pm30 cd30 ct30 : Value}
    (a30 : PySem.W.nsIn K mainGlobals "gap_between" = some (some (.ref f30))) (l30 : K.lookup f30 = some ⟨oc30, od30, .func (PySem.W.fnOf "gap_between" "gap_between" (defArgs (topS 24)) (defBody (topS 24)) (defScope (topS 24)) .none kV30 dc30 pm30 an30 cd30 ct30), sl30⟩) (c30 : PySem.W.codeIn K cd30 "gap_between" = true) (k30 : PySem.W.keepIn K (.ref f30) = true)
    {f31 : Addr} {od31 an31 : Option Addr} {sl31 : Array (Option Value)} {oc31 kV31 dc31 pm31 cd31 ct31 : Value}
    (a31 : PySem.W.nsIn K mainGlobals "first_gap" = some (some (.ref f31))) (l31 : K.lookup f31 = some ⟨oc31, od31, .func (PySem.W.fnOf "first_gap" "first_gap" (defArgs (topS 25)) (defBody (topS 25)) (defScope (topS 25)) .none kV31 dc31 pm31 an31 cd31 ct31), sl31⟩) (c31 : PySem.W.codeIn K cd31 "first_gap" = true) (k31 : PySem.W.keepIn K (.ref f31) = true)
    {f32 : Addr} {od32 an32 : Option Addr} {sl32 : Array (Option Value)} {oc32 kV32 dc32 pm32 cd32 ct32 : Value}
    (a32 : PySem.W.nsIn K mainGlobals "is_more_even" = some (some (.ref f32))) (l32 : K.lookup f32 = some ⟨oc32, od32, .func (PySem.W.fnOf "is_more_even" "is_more_even" (defArgs (topS 26)) (defBody (topS 26)) (defScope (topS 26)) .none kV32 dc32 pm32 an32 cd32 ct32), sl32⟩) (c32 : PySem.W.codeIn K cd32 "is_more_even" = true) (k32 : PySem.W.keepIn K (.ref f32) = true)
    {f33 : Addr} {od33 an33 : Option Addr} {sl33 : Array (Option Value)} {oc33 kV33 dc33 pm33 cd33 ct33 : Value}
    (a33 : PySem.W.nsIn K mainGlobals "_law_exchanged" = some (some (.ref f33))) (l33 : K.lookup f33 = some ⟨oc33, od33, .func (PySem.W.fnOf "_law_exchanged" "_law_exchanged" (defArgs (topS 40)) (defBody (topS 40)) (defScope (topS 40)) .none kV33 dc33 pm33 an33 cd33 ct33), sl33⟩) (c33 : PySem.W.codeIn K cd33 "_law_exchanged" = true) (k33 : PySem.W.keepIn K (.ref f33) = true)
    {f34 : Addr} {od34 an34 : Option Addr} {sl34 : Array (Option Value)} {oc34 kV34 dc34 pm34 cd34 ct34 : Value}
    (a34 : PySem.W.nsIn K mainGlobals "_law_leads" = some (some (.ref f34))) (l34 : K.lookup f34 = some ⟨oc34, od34, .func (PySem.W.fnOf "_law_leads" "_law_leads" (defArgs (topS 43)) (defBody (topS 43)) (defScope (topS 43)) .none kV34 dc34 pm34 an34 cd34 ct34), sl34⟩) (c34 : PySem.W.codeIn K cd34 "_law_leads" = true) (k34 : PySem.W.keepIn K (.ref f34) = true)
    {f35 : Addr} {od35 an35 : Option Addr} {sl35 : Array (Option Value)} {oc35 kV35 dc35 pm35 cd35 ct35 : Value}
    (a35 : PySem.W.nsIn K mainGlobals "_law_further_right" = some (some (.ref f35))) (l35 : K.lookup f35 = some ⟨oc35, od35, .func (PySem.W.fnOf "_law_further_right" "_law_further_right" (defArgs (topS 49)) (defBody (topS 49)) (defScope (topS 49)) .none kV35 dc35 pm35 an35 cd35 ct35), sl35⟩) (c35 : PySem.W.codeIn K cd35 "_law_further_right" = true) (k35 : PySem.W.keepIn K (.ref f35) = true)
    {f36 : Addr} {od36 an36 : Option Addr} {sl36 : Array (Option Value)} {oc36 kV36 dc36 pm36 cd36 ct36 : Value}
    (a36 : PySem.W.nsIn K mainGlobals "_law_above_right" = some (some (.ref f36))) (l36 : K.lookup f36 = some ⟨oc36, od36, .func (PySem.W.fnOf "_law_above_right" "_law_above_right" (defArgs (topS 50)) (defBody (topS 50)) (defScope (topS 50)) .none kV36 dc36 pm36 an36 cd36 ct36), sl36⟩) (c36 : PySem.W.codeIn K cd36 "_law_above_right" = true) (k36 : PySem.W.keepIn K (.ref f36) = true)
    {f37 : Addr} {od37 an37 : Option Addr} {sl37 : Array (Option Value)} {oc37 kV37 dc37 pm37 cd37 ct37 : Value}
    (a37 : PySem.W.nsIn K mainGlobals "_law_pair_right" = some (some (.ref f37))) (l37 : K.lookup f37 = some ⟨oc37, od37, .func (PySem.W.fnOf "_law_pair_right" "_law_pair_right" (defArgs (topS 51)) (defBody (topS 51)) (defScope (topS 51)) .none kV37 dc37 pm37 an37 cd37 ct37), sl37⟩) (c37 : PySem.W.codeIn K cd37 "_law_pair_right" = true) (k37 : PySem.W.keepIn K (.ref f37) = true)
    {f38 : Addr} {od38 an38 : Option Addr} {sl38 : Array (Option Value)} {oc38 kV38 dc38 pm38 cd38 ct38 : Value}
    (a38 : PySem.W.nsIn K mainGlobals "law" = some (some (.ref f38))) (l38 : K.lookup f38 = some ⟨oc38, od38, .func (PySem.W.fnOf "law" "law" (defArgs (topS 52)) (defBody (topS 52)) (defScope (topS 52)) .none kV38 dc38 pm38 an38 cd38 ct38), sl38⟩) (c38 : PySem.W.codeIn K cd38 "law" = true) (k38 : PySem.W.keepIn K (.ref f38) = true)
    (sTr : P.given.tree = none)
    (z0 : PySem.W.nsIn K mainGlobals "max" = some none)
    (z1 : PySem.W.nsIn K mainGlobals "int" = some none)
    (z2 : PySem.W.nsIn K mainGlobals "len" = some none)
    (z3 : PySem.W.nsIn K mainGlobals "range" = some none)
    (z4 : PySem.W.nsIn K mainGlobals "list" = some none)
    (z5 : PySem.W.nsIn K mainGlobals "min" = some none)
    (z6 : PySem.W.nsIn K mainGlobals "tuple" = some none)
    (z7 : PySem.W.nsIn K mainGlobals "isinstance" = some none)
    (z8 : PySem.W.nsIn K mainGlobals "bool" = some none)
    (z9 : PySem.W.nsIn K mainGlobals "sorted" = some none)
    (z10 : PySem.W.nsIn K mainGlobals "sum" = some none)
    (z11 : PySem.W.nsIn K mainGlobals "zip" = some none)
    (z12 : PySem.W.nsIn K mainGlobals "repr" = some none)
    (z13 : PySem.W.nsIn K mainGlobals "enumerate" = some none)
    {gt0 : Tok} (gc0 : PySem.W.nsIn K mainGlobals "MOST_AMOUNTS" = some (some (.int 7 gt0)))
    (y0 : PySem.W.nsIn K mainGlobals "gcd" = some (some (.builtin "math.gcd")))
    (y1 : PySem.W.nsIn K mainGlobals "lcm" = some (some (.builtin "math.lcm"))) : Wd P K mg base where
  a_law_well := f0
  fd_law_well := PySem.W.fnOf "_law_well" "_law_well" (defArgs (topS 32)) (defBody (topS 32)) (defScope (topS 32)) .none kV0 dc0 pm0 an0 cd0 ct0
  F_law_well := fun_mk l0 c0 k0
  m_law_well := PySem.W.mg_of X G a0
  n_law_well := (fun_mk (st := (topS 32)) l0 c0 k0).binds (ps := ["_law_cell_here", "_law_place"]) fun _ _ _ _ _ _ us hl => match us, hl with | [_, _], _ => rfl
  a_law_cell := f1
  fd_law_cell := PySem.W.fnOf "_law_cell" "_law_cell" (defArgs (topS 34)) (defBody (topS 34)) (defScope (topS 34)) .none kV1 dc1 pm1 an1 cd1 ct1
  F_law_cell := fun_mk l1 c1 k1
  m_law_cell := PySem.W.mg_of X G a1
  n_law_cell := (fun_mk (st := (topS 34)) l1 c1 k1).binds (ps := ["_law_script", "_law_place"]) fun _ _ _ _ _ _ us hl => match us, hl with | [_, _], _ => rfl
  a_law_lift := f2
  fd_law_lift := PySem.W.fnOf "_law_lift" "_law_lift" (defArgs (topS 33)) (defBody (topS 33)) (defScope (topS 33)) .none kV2 dc2 pm2 an2 cd2 ct2
  F_law_lift := fun_mk l2 c2 k2
  m_law_lift := PySem.W.mg_of X G a2
  n_law_lift := (fun_mk (st := (topS 33)) l2 c2 k2).binds (ps := ["_law_well_here", "_law_many"]) fun _ _ _ _ _ _ us hl => match us, hl with | [_, _], _ => rfl
  a_law_numbers := f3
  fd_law_numbers := PySem.W.fnOf "_law_numbers" "_law_numbers" (defArgs (topS 39)) (defBody (topS 39)) (defScope (topS 39)) .none kV3 dc3 pm3 an3 cd3 ct3
  F_law_numbers := fun_mk l3 c3 k3
  m_law_numbers := PySem.W.mg_of X G a3
  n_law_numbers := (fun_mk (st := (topS 39)) l3 c3 k3).binds (ps := ["_law_well_here", "_law_casks"]) fun _ _ _ _ _ _ us hl => match us, hl with | [_, _], _ => rfl
  a_law_turned := f4
  fd_law_turned := PySem.W.fnOf "_law_turned" "_law_turned" (defArgs (topS 38)) (defBody (topS 38)) (defScope (topS 38)) .none kV4 dc4 pm4 an4 cd4 ct4
  F_law_turned := fun_mk l4 c4 k4
  m_law_turned := PySem.W.mg_of X G a4
  n_law_turned := (fun_mk (st := (topS 38)) l4 c4 k4).binds (ps := ["_law_well_here", "_law_entries"]) fun _ _ _ _ _ _ us hl => match us, hl with | [_, _], _ => rfl
  a_law_moved := f5
  fd_law_moved := PySem.W.fnOf "_law_moved" "_law_moved" (defArgs (topS 41)) (defBody (topS 41)) (defScope (topS 41)) .none kV5 dc5 pm5 an5 cd5 ct5
  F_law_moved := fun_mk l5 c5 k5
  m_law_moved := PySem.W.mg_of X G a5
  n_law_moved := (fun_mk (st := (topS 41)) l5 c5 k5).binds (ps := ["_law_well_here", "_law_numbers_here"]) fun _ _ _ _ _ _ us hl => match us, hl with | [_, _], _ => rfl
  a_law_divisor := f6
  fd_law_divisor := PySem.W.fnOf "_law_divisor" "_law_divisor" (defArgs (topS 35)) (defBody (topS 35)) (defScope (topS 35)) .none kV6 dc6 pm6 an6 cd6 ct6
  F_law_divisor := fun_mk l6 c6 k6
  m_law_divisor := PySem.W.mg_of X G a6
  n_law_divisor := (fun_mk (st := (topS 35)) l6 c6 k6).binds (ps := ["_law_great", "_law_small"]) fun _ _ _ _ _ _ us hl => match us, hl with | [_, _], _ => rfl
  a_law_fraction := f7
  fd_law_fraction := PySem.W.fnOf "_law_fraction" "_law_fraction" (defArgs (topS 36)) (defBody (topS 36)) (defScope (topS 36)) .none kV7 dc7 pm7 an7 cd7 ct7
  F_law_fraction := fun_mk l7 c7 k7
  m_law_fraction := PySem.W.mg_of X G a7
  n_law_fraction := (fun_mk (st := (topS 36)) l7 c7 k7).binds (ps := ["_law_above", "_law_below"]) fun _ _ _ _ _ _ us hl => match us, hl with | [_, _], _ => rfl
  a_law_amounts := f8
  fd_law_amounts := PySem.W.fnOf "_law_amounts" "_law_amounts" (defArgs (topS 44)) (defBody (topS 44)) (defScope (topS 44)) .none kV8 dc8 pm8 an8 cd8 ct8
  F_law_amounts := fun_mk l8 c8 k8
  m_law_amounts := PySem.W.mg_of X G a8
  n_law_amounts := (fun_mk (st := (topS 44)) l8 c8 k8).binds (ps := ["_law_numbers_here", "_law_below"]) fun _ _ _ _ _ _ us hl => match us, hl with | [_, _], _ => rfl
  a_is_integer := f9
  fd_is_integer := PySem.W.fnOf "is_integer" "is_integer" (defArgs (topS 9)) (defBody (topS 9)) (defScope (topS 9)) .none kV9 dc9 pm9 an9 cd9 ct9
  F_is_integer := fun_mk l9 c9 k9
  m_is_integer := PySem.W.mg_of X G a9
  n_is_integer := (fun_mk (st := (topS 9)) l9 c9 k9).binds (ps := ["value"]) fun _ _ _ _ _ _ us hl => match us, hl with | [_], _ => rfl
  a_is_fraction := f10
  fd_is_fraction := PySem.W.fnOf "is_fraction" "is_fraction" (defArgs (topS 11)) (defBody (topS 11)) (defScope (topS 11)) .none kV10 dc10 pm10 an10 cd10 ct10
  F_is_fraction := fun_mk l10 c10 k10
  m_is_fraction := PySem.W.mg_of X G a10
  n_is_fraction := (fun_mk (st := (topS 11)) l10 c10 k10).binds (ps := ["value"]) fun _ _ _ _ _ _ us hl => match us, hl with | [_], _ => rfl
  a_is_amount := f11
  fd_is_amount := PySem.W.fnOf "is_amount" "is_amount" (defArgs (topS 12)) (defBody (topS 12)) (defScope (topS 12)) .none kV11 dc11 pm11 an11 cd11 ct11
  F_is_amount := fun_mk l11 c11 k11
  m_is_amount := PySem.W.mg_of X G a11
  n_is_amount := (fun_mk (st := (topS 12)) l11 c11 k11).binds (ps := ["value"]) fun _ _ _ _ _ _ us hl => match us, hl with | [_], _ => rfl
  a_need_amounts := f12
  fd_need_amounts := PySem.W.fnOf "need_amounts" "need_amounts" (defArgs (topS 20)) (defBody (topS 20)) (defScope (topS 20)) .none kV12 dc12 pm12 an12 cd12 ct12
  F_need_amounts := fun_mk l12 c12 k12
  m_need_amounts := PySem.W.mg_of X G a12
  n_need_amounts := (fun_mk (st := (topS 20)) l12 c12 k12).binds (ps := ["value"]) fun _ _ _ _ _ _ us hl => match us, hl with | [_], _ => rfl
  a_need_both := f13
  fd_need_both := PySem.W.fnOf "need_both" "need_both" (defArgs (topS 21)) (defBody (topS 21)) (defScope (topS 21)) .none kV13 dc13 pm13 an13 cd13 ct13
  F_need_both := fun_mk l13 c13 k13
  m_need_both := PySem.W.mg_of X G a13
  n_need_both := (fun_mk (st := (topS 21)) l13 c13 k13).binds (ps := ["one", "other"]) fun _ _ _ _ _ _ us hl => match us, hl with | [_, _], _ => rfl
  a_need_fraction := f14
  fd_need_fraction := PySem.W.fnOf "need_fraction" "need_fraction" (defArgs (topS 13)) (defBody (topS 13)) (defScope (topS 13)) .none kV14 dc14 pm14 an14 cd14 ct14
  F_need_fraction := fun_mk l14 c14 k14
  m_need_fraction := PySem.W.mg_of X G a14
  n_need_fraction := (fun_mk (st := (topS 13)) l14 c14 k14).binds (ps := ["value"]) fun _ _ _ _ _ _ us hl => match us, hl with | [_], _ => rfl
  a_fraction := f15
  fd_fraction := PySem.W.fnOf "fraction" "fraction" (defArgs (topS 14)) (defBody (topS 14)) (defScope (topS 14)) .none kV15 dc15 pm15 an15 cd15 ct15
  F_fraction := fun_mk l15 c15 k15
  m_fraction := PySem.W.mg_of X G a15
  n_fraction := (fun_mk (st := (topS 14)) l15 c15 k15).binds (ps := ["above", "below"]) fun _ _ _ _ _ _ us hl => match us, hl with | [_, _], _ => rfl
  a_sum_of := f16
  fd_sum_of := PySem.W.fnOf "sum_of" "sum_of" (defArgs (topS 15)) (defBody (topS 15)) (defScope (topS 15)) .none kV16 dc16 pm16 an16 cd16 ct16
  F_sum_of := fun_mk l16 c16 k16
  m_sum_of := PySem.W.mg_of X G a16
  n_sum_of := (fun_mk (st := (topS 15)) l16 c16 k16).binds (ps := ["fractions"]) fun _ _ _ _ _ _ us hl => match us, hl with | [_], _ => rfl
  a_on_one_below := f17
  fd_on_one_below := PySem.W.fnOf "on_one_below" "on_one_below" (defArgs (topS 17)) (defBody (topS 17)) (defScope (topS 17)) .none kV17 dc17 pm17 an17 cd17 ct17
  F_on_one_below := fun_mk l17 c17 k17
  m_on_one_below := PySem.W.mg_of X G a17
  n_on_one_below := (fun_mk (st := (topS 17)) l17 c17 k17).binds (ps := ["fractions"]) fun _ _ _ _ _ _ us hl => match us, hl with | [_], _ => rfl
  a_on_integers := f18
  fd_on_integers := PySem.W.fnOf "on_integers" "on_integers" (defArgs (topS 22)) (defBody (topS 22)) (defScope (topS 22)) .none kV18 dc18 pm18 an18 cd18 ct18
  F_on_integers := fun_mk l18 c18 k18
  m_on_integers := PySem.W.mg_of X G a18
  n_on_integers := (fun_mk (st := (topS 22)) l18 c18 k18).binds (ps := ["one", "other"]) fun _ _ _ _ _ _ us hl => match us, hl with | [_, _], _ => rfl
  a_falling := f19
  fd_falling := PySem.W.fnOf "falling" "falling" (defArgs (topS 23)) (defBody (topS 23)) (defScope (topS 23)) .none kV19 dc19 pm19 an19 cd19 ct19
  F_falling := fun_mk l19 c19 k19
  m_falling := PySem.W.mg_of X G a19
  n_falling := (fun_mk (st := (topS 23)) l19 c19 k19).binds (ps := ["numbers"]) fun _ _ _ _ _ _ us hl => match us, hl with | [_], _ => rfl
  a_sums_of_greatest := f20
  fd_sums_of_greatest := PySem.W.fnOf "sums_of_greatest" "sums_of_greatest" (defArgs (topS 27)) (defBody (topS 27)) (defScope (topS 27)) .none kV20 dc20 pm20 an20 cd20 ct20
  F_sums_of_greatest := fun_mk l20 c20 k20
  m_sums_of_greatest := PySem.W.mg_of X G a20
  n_sums_of_greatest := (fun_mk (st := (topS 27)) l20 c20 k20).binds (ps := ["one", "other"]) fun _ _ _ _ _ _ us hl => match us, hl with | [_, _], _ => rfl
  a_meet := f21
  fd_meet := PySem.W.fnOf "meet" "meet" (defArgs (topS 28)) (defBody (topS 28)) (defScope (topS 28)) .none kV21 dc21 pm21 an21 cd21 ct21
  F_meet := fun_mk l21 c21 k21
  m_meet := PySem.W.mg_of X G a21
  n_meet := (fun_mk (st := (topS 28)) l21 c21 k21).binds (ps := ["one", "other"]) fun _ _ _ _ _ _ us hl => match us, hl with | [_, _], _ => rfl
  a_bent_hull := f22
  fd_bent_hull := PySem.W.fnOf "bent_hull" "bent_hull" (defArgs (topS 29)) (defBody (topS 29)) (defScope (topS 29)) .none kV22 dc22 pm22 an22 cd22 ct22
  F_bent_hull := fun_mk l22 c22 k22
  m_bent_hull := PySem.W.mg_of X G a22
  n_bent_hull := (fun_mk (st := (topS 29)) l22 c22 k22).binds (ps := ["points"]) fun _ _ _ _ _ _ us hl => match us, hl with | [_], _ => rfl
  a_join := f23
  fd_join := PySem.W.fnOf "join" "join" (defArgs (topS 30)) (defBody (topS 30)) (defScope (topS 30)) .none kV23 dc23 pm23 an23 cd23 ct23
  F_join := fun_mk l23 c23 k23
  m_join := PySem.W.mg_of X G a23
  n_join := (fun_mk (st := (topS 30)) l23 c23 k23).binds (ps := ["one", "other"]) fun _ _ _ _ _ _ us hl => match us, hl with | [_, _], _ => rfl
  a_law_folded := f24
  fd_law_folded := PySem.W.fnOf "_law_folded" "_law_folded" (defArgs (topS 48)) (defBody (topS 48)) (defScope (topS 48)) .none kV24 dc24 pm24 an24 cd24 ct24
  F_law_folded := fun_mk l24 c24 k24
  m_law_folded := PySem.W.mg_of X G a24
  n_law_folded := (fun_mk (st := (topS 48)) l24 c24 k24).binds (ps := ["_law_door", "_law_entries"]) fun _ _ _ _ _ _ us hl => match us, hl with | [_, _], _ => rfl
  a_law_same := f25
  fd_law_same := PySem.W.fnOf "_law_same" "_law_same" (defArgs (topS 37)) (defBody (topS 37)) (defScope (topS 37)) .none kV25 dc25 pm25 an25 cd25 ct25
  F_law_same := fun_mk l25 c25 k25
  m_law_same := PySem.W.mg_of X G a25
  n_law_same := (fun_mk (st := (topS 37)) l25 c25 k25).binds (ps := ["_law_told", "_law_due"]) fun _ _ _ _ _ _ us hl => match us, hl with | [_, _], _ => rfl
  a_law_sums := f26
  fd_law_sums := PySem.W.fnOf "_law_sums" "_law_sums" (defArgs (topS 42)) (defBody (topS 42)) (defScope (topS 42)) .none kV26 dc26 pm26 an26 cd26 ct26
  F_law_sums := fun_mk l26 c26 k26
  m_law_sums := PySem.W.mg_of X G a26
  n_law_sums := (fun_mk (st := (topS 42)) l26 c26 k26).binds (ps := ["_law_numbers_here"]) fun _ _ _ _ _ _ us hl => match us, hl with | [_], _ => rfl
  a_law_steps := f27
  fd_law_steps := PySem.W.fnOf "_law_steps" "_law_steps" (defArgs (topS 45)) (defBody (topS 45)) (defScope (topS 45)) .none kV27 dc27 pm27 an27 cd27 ct27
  F_law_steps := fun_mk l27 c27 k27
  m_law_steps := PySem.W.mg_of X G a27
  n_law_steps := (fun_mk (st := (topS 45)) l27 c27 k27).binds (ps := ["_law_sums_here"]) fun _ _ _ _ _ _ us hl => match us, hl with | [_], _ => rfl
  a_law_lowest := f28
  fd_law_lowest := PySem.W.fnOf "_law_lowest" "_law_lowest" (defArgs (topS 46)) (defBody (topS 46)) (defScope (topS 46)) .none kV28 dc28 pm28 an28 cd28 ct28
  F_law_lowest := fun_mk l28 c28 k28
  m_law_lowest := PySem.W.mg_of X G a28
  n_law_lowest := (fun_mk (st := (topS 46)) l28 c28 k28).binds (ps := ["_law_lists"]) fun _ _ _ _ _ _ us hl => match us, hl with | [_], _ => rfl
  a_law_highest := f29
  fd_law_highest := PySem.W.fnOf "_law_highest" "_law_highest" (defArgs (topS 47)) (defBody (topS 47)) (defScope (topS 47)) .none kV29 dc29 pm29 an29 cd29 ct29
  F_law_highest := fun_mk l29 c29 k29
  m_law_highest := PySem.W.mg_of X G a29
  n_law_highest := (fun_mk (st := (topS 47)) l29 c29 k29).binds (ps := ["_law_lists"]) fun _ _ _ _ _ _ us hl => match us, hl with | [_], _ => rfl
  a_gap_between := f30
  fd_gap_between := PySem.W.fnOf "gap_between" "gap_between" (defArgs (topS 24)) (defBody (topS 24)) (defScope (topS 24)) .none kV30 dc30 pm30 an30 cd30 ct30
  F_gap_between := fun_mk l30 c30 k30
  m_gap_between := PySem.W.mg_of X G a30
  n_gap_between := (fun_mk (st := (topS 24)) l30 c30 k30).binds (ps := ["first", "second"]) fun _ _ _ _ _ _ us hl => match us, hl with | [_, _], _ => rfl
  a_first_gap := f31
  fd_first_gap := PySem.W.fnOf "first_gap" "first_gap" (defArgs (topS 25)) (defBody (topS 25)) (defScope (topS 25)) .none kV31 dc31 pm31 an31 cd31 ct31
  F_first_gap := fun_mk l31 c31 k31
  m_first_gap := PySem.W.mg_of X G a31
  n_first_gap := (fun_mk (st := (topS 25)) l31 c31 k31).binds (ps := ["one", "other"]) fun _ _ _ _ _ _ us hl => match us, hl with | [_, _], _ => rfl
  a_is_more_even := f32
  fd_is_more_even := PySem.W.fnOf "is_more_even" "is_more_even" (defArgs (topS 26)) (defBody (topS 26)) (defScope (topS 26)) .none kV32 dc32 pm32 an32 cd32 ct32
  F_is_more_even := fun_mk l32 c32 k32
  m_is_more_even := PySem.W.mg_of X G a32
  n_is_more_even := (fun_mk (st := (topS 26)) l32 c32 k32).binds (ps := ["one", "other"]) fun _ _ _ _ _ _ us hl => match us, hl with | [_, _], _ => rfl
  a_law_exchanged := f33
  fd_law_exchanged := PySem.W.fnOf "_law_exchanged" "_law_exchanged" (defArgs (topS 40)) (defBody (topS 40)) (defScope (topS 40)) .none kV33 dc33 pm33 an33 cd33 ct33
  F_law_exchanged := fun_mk l33 c33 k33
  m_law_exchanged := PySem.W.mg_of X G a33
  n_law_exchanged := (fun_mk (st := (topS 40)) l33 c33 k33).binds (ps := ["_law_well_here", "_law_numbers_here", "_law_turns"]) fun _ _ _ _ _ _ us hl => match us, hl with | [_, _, _], _ => rfl
  a_law_leads := f34
  fd_law_leads := PySem.W.fnOf "_law_leads" "_law_leads" (defArgs (topS 43)) (defBody (topS 43)) (defScope (topS 43)) .none kV34 dc34 pm34 an34 cd34 ct34
  F_law_leads := fun_mk l34 c34 k34
  m_law_leads := PySem.W.mg_of X G a34
  n_law_leads := (fun_mk (st := (topS 43)) l34 c34 k34).binds (ps := ["_law_first", "_law_second"]) fun _ _ _ _ _ _ us hl => match us, hl with | [_, _], _ => rfl
  a_law_further_right := f35
  fd_law_further_right := PySem.W.fnOf "_law_further_right" "_law_further_right" (defArgs (topS 49)) (defBody (topS 49)) (defScope (topS 49)) .none kV35 dc35 pm35 an35 cd35 ct35
  F_law_further_right := fun_mk l35 c35 k35
  m_law_further_right := PySem.W.mg_of X G a35
  n_law_further_right := (fun_mk (st := (topS 49)) l35 c35 k35).binds (ps := ["_law_well_here", "_law_lists", "_law_least", "_law_below"]) fun _ _ _ _ _ _ us hl => match us, hl with | [_, _, _, _], _ => rfl
  a_law_above_right := f36
  fd_law_above_right := PySem.W.fnOf "_law_above_right" "_law_above_right" (defArgs (topS 50)) (defBody (topS 50)) (defScope (topS 50)) .none kV36 dc36 pm36 an36 cd36 ct36
  F_law_above_right := fun_mk l36 c36 k36
  m_law_above_right := PySem.W.mg_of X G a36
  n_law_above_right := (fun_mk (st := (topS 50)) l36 c36 k36).binds (ps := ["_law_well_here", "_law_lists", "_law_greatest", "_law_below"]) fun _ _ _ _ _ _ us hl => match us, hl with | [_, _, _, _], _ => rfl
  a_law_pair_right := f37
  fd_law_pair_right := PySem.W.fnOf "_law_pair_right" "_law_pair_right" (defArgs (topS 51)) (defBody (topS 51)) (defScope (topS 51)) .none kV37 dc37 pm37 an37 cd37 ct37
  F_law_pair_right := fun_mk l37 c37 k37
  m_law_pair_right := PySem.W.mg_of X G a37
  n_law_pair_right := (fun_mk (st := (topS 51)) l37 c37 k37).binds (ps := ["_law_well_here", "_law_entries"]) fun _ _ _ _ _ _ us hl => match us, hl with | [_, _], _ => rfl
  a_law := f38
  fd_law := PySem.W.fnOf "law" "law" (defArgs (topS 52)) (defBody (topS 52)) (defScope (topS 52)) .none kV38 dc38 pm38 an38 cd38 ct38
  F_law := fun_mk l38 c38 k38
  m_law := PySem.W.mg_of X G a38
  n_law := (fun_mk (st := (topS 52)) l38 c38 k38).binds (ps := ["_law_script"]) fun _ _ _ _ _ _ us hl => match us, hl with | [_], _ => rfl
  seer := ⟨NSB, sTr⟩
  b_max := PySem.W.mg_none_of X G z0
  b_int := PySem.W.mg_none_of X G z1
  b_len := PySem.W.mg_none_of X G z2
  b_range := PySem.W.mg_none_of X G z3
  b_list := PySem.W.mg_none_of X G z4
  b_min := PySem.W.mg_none_of X G z5
  b_tuple := PySem.W.mg_none_of X G z6
  b_isinstance := PySem.W.mg_none_of X G z7
  b_bool := PySem.W.mg_none_of X G z8
  b_sorted := PySem.W.mg_none_of X G z9
  b_sum := PySem.W.mg_none_of X G z10
  b_zip := PySem.W.mg_none_of X G z11
  b_repr := PySem.W.mg_none_of X G z12
  b_enumerate := PySem.W.mg_none_of X G z13
  gc_MOST_AMOUNTS := ⟨_, PySem.W.mg_of X G gc0⟩
  b_gcd := PySem.W.mg_of X G y0
  b_lcm := PySem.W.mg_of X G y1
theorem all_mk {l : PySem.W.OpenLaw} {w : World} {K : PySem.W.Frag} {h : Heap} {mg : Str → Option Value} {fa : Addr} (hfa : mg "law" = some (.ref fa)) (X : K.In h) (G : h.Ns mainGlobals mg)
    {f0 : Addr} {od0 an0 : Option Addr} {sl0 : Array (Option Value)} {oc0 kV0 dc0 pm0 cd0 ct0 : Value}
    (a0 : PySem.W.nsIn K mainGlobals "_law_well" = some (some (.ref f0))) (l0 : K.lookup f0 = some ⟨oc0, od0, .func (PySem.W.fnOf "_law_well" "_law_well" (defArgs (topS 32)) (defBody (topS 32)) (defScope (topS 32)) .none kV0 dc0 pm0 an0 cd0 ct0), sl0⟩) (c0 : PySem.W.codeIn K cd0 "_law_well" = true) (k0 : PySem.W.keepIn K (.ref f0) = true)
    {f1 : Addr} {od1 an1 : Option Addr} {sl1 : Array (Option Value)} {oc1 kV1 dc1 pm1 cd1 ct1 : Value}
    (a1 : PySem.W.nsIn K mainGlobals "_law_cell" = some (some (.ref f1))) (l1 : K.lookup f1 = some ⟨oc1, od1, .func (PySem.W.fnOf "_law_cell" "_law_cell" (defArgs (topS 34)) (defBody (topS 34)) (defScope (topS 34)) .none kV1 dc1 pm1 an1 cd1 ct1), sl1⟩) (c1 : PySem.W.codeIn K cd1 "_law_cell" = true) (k1 : PySem.W.keepIn K (.ref f1) = true)
    {f2 : Addr} {od2 an2 : Option Addr} {sl2 : Array (Option Value)} {oc2 kV2 dc2 pm2 cd2 ct2 : Value}
    (a2 : PySem.W.nsIn K mainGlobals "_law_lift" = some (some (.ref f2))) (l2 : K.lookup f2 = some ⟨oc2, od2, .func (PySem.W.fnOf "_law_lift" "_law_lift" (defArgs (topS 33)) (defBody (topS 33)) (defScope (topS 33)) .none kV2 dc2 pm2 an2 cd2 ct2), sl2⟩) (c2 : PySem.W.codeIn K cd2 "_law_lift" = true) (k2 : PySem.W.keepIn K (.ref f2) = true)
    {f3 : Addr} {od3 an3 : Option Addr} {sl3 : Array (Option Value)} {oc3 kV3 dc3 pm3 cd3 ct3 : Value}
    (a3 : PySem.W.nsIn K mainGlobals "_law_numbers" = some (some (.ref f3))) (l3 : K.lookup f3 = some ⟨oc3, od3, .func (PySem.W.fnOf "_law_numbers" "_law_numbers" (defArgs (topS 39)) (defBody (topS 39)) (defScope (topS 39)) .none kV3 dc3 pm3 an3 cd3 ct3), sl3⟩) (c3 : PySem.W.codeIn K cd3 "_law_numbers" = true) (k3 : PySem.W.keepIn K (.ref f3) = true)
    {f4 : Addr} {od4 an4 : Option Addr} {sl4 : Array (Option Value)} {oc4 kV4 dc4 pm4 cd4 ct4 : Value}
    (a4 : PySem.W.nsIn K mainGlobals "_law_turned" = some (some (.ref f4))) (l4 : K.lookup f4 = some ⟨oc4, od4, .func (PySem.W.fnOf "_law_turned" "_law_turned" (defArgs (topS 38)) (defBody (topS 38)) (defScope (topS 38)) .none kV4 dc4 pm4 an4 cd4 ct4), sl4⟩) (c4 : PySem.W.codeIn K cd4 "_law_turned" = true) (k4 : PySem.W.keepIn K (.ref f4) = true)
    {f5 : Addr} {od5 an5 : Option Addr} {sl5 : Array (Option Value)} {oc5 kV5 dc5 pm5 cd5 ct5 : Value}
    (a5 : PySem.W.nsIn K mainGlobals "_law_moved" = some (some (.ref f5))) (l5 : K.lookup f5 = some ⟨oc5, od5, .func (PySem.W.fnOf "_law_moved" "_law_moved" (defArgs (topS 41)) (defBody (topS 41)) (defScope (topS 41)) .none kV5 dc5 pm5 an5 cd5 ct5), sl5⟩) (c5 : PySem.W.codeIn K cd5 "_law_moved" = true) (k5 : PySem.W.keepIn K (.ref f5) = true)
    {f6 : Addr} {od6 an6 : Option Addr} {sl6 : Array (Option Value)} {oc6 kV6 dc6 pm6 cd6 ct6 : Value}
    (a6 : PySem.W.nsIn K mainGlobals "_law_divisor" = some (some (.ref f6))) (l6 : K.lookup f6 = some ⟨oc6, od6, .func (PySem.W.fnOf "_law_divisor" "_law_divisor" (defArgs (topS 35)) (defBody (topS 35)) (defScope (topS 35)) .none kV6 dc6 pm6 an6 cd6 ct6), sl6⟩) (c6 : PySem.W.codeIn K cd6 "_law_divisor" = true) (k6 : PySem.W.keepIn K (.ref f6) = true)
    {f7 : Addr} {od7 an7 : Option Addr} {sl7 : Array (Option Value)} {oc7 kV7 dc7 pm7 cd7 ct7 : Value}
    (a7 : PySem.W.nsIn K mainGlobals "_law_fraction" = some (some (.ref f7))) (l7 : K.lookup f7 = some ⟨oc7, od7, .func (PySem.W.fnOf "_law_fraction" "_law_fraction" (defArgs (topS 36)) (defBody (topS 36)) (defScope (topS 36)) .none kV7 dc7 pm7 an7 cd7 ct7), sl7⟩) (c7 : PySem.W.codeIn K cd7 "_law_fraction" = true) (k7 : PySem.W.keepIn K (.ref f7) = true)
    {f8 : Addr} {od8 an8 : Option Addr} {sl8 : Array (Option Value)} {oc8 kV8 dc8 pm8 cd8 ct8 : Value}
    (a8 : PySem.W.nsIn K mainGlobals "_law_amounts" = some (some (.ref f8))) (l8 : K.lookup f8 = some ⟨oc8, od8, .func (PySem.W.fnOf "_law_amounts" "_law_amounts" (defArgs (topS 44)) (defBody (topS 44)) (defScope (topS 44)) .none kV8 dc8 pm8 an8 cd8 ct8), sl8⟩) (c8 : PySem.W.codeIn K cd8 "_law_amounts" = true) (k8 : PySem.W.keepIn K (.ref f8) = true)
    {f9 : Addr} {od9 an9 : Option Addr} {sl9 : Array (Option Value)} {oc9 kV9 dc9 pm9 cd9 ct9 : Value}
    (a9 : PySem.W.nsIn K mainGlobals "is_integer" = some (some (.ref f9))) (l9 : K.lookup f9 = some ⟨oc9, od9, .func (PySem.W.fnOf "is_integer" "is_integer" (defArgs (topS 9)) (defBody (topS 9)) (defScope (topS 9)) .none kV9 dc9 pm9 an9 cd9 ct9), sl9⟩) (c9 : PySem.W.codeIn K cd9 "is_integer" = true) (k9 : PySem.W.keepIn K (.ref f9) = true)
    {f10 : Addr} {od10 an10 : Option Addr} {sl10 : Array (Option Value)} {oc10 kV10 dc10 pm10 cd10 ct10 : Value}
    (a10 : PySem.W.nsIn K mainGlobals "is_fraction" = some (some (.ref f10))) (l10 : K.lookup f10 = some ⟨oc10, od10, .func (PySem.W.fnOf "is_fraction" "is_fraction" (defArgs (topS 11)) (defBody (topS 11)) (defScope (topS 11)) .none kV10 dc10 pm10 an10 cd10 ct10), sl10⟩) (c10 : PySem.W.codeIn K cd10 "is_fraction" = true) (k10 : PySem.W.keepIn K (.ref f10) = true)
    {f11 : Addr} {od11 an11 : Option Addr} {sl11 : Array (Option Value)} {oc11 kV11 dc11 pm11 cd11 ct11 : Value}
    (a11 : PySem.W.nsIn K mainGlobals "is_amount" = some (some (.ref f11))) (l11 : K.lookup f11 = some ⟨oc11, od11, .func (PySem.W.fnOf "is_amount" "is_amount" (defArgs (topS 12)) (defBody (topS 12)) (defScope (topS 12)) .none kV11 dc11 pm11 an11 cd11 ct11), sl11⟩) (c11 : PySem.W.codeIn K cd11 "is_amount" = true) (k11 : PySem.W.keepIn K (.ref f11) = true)
    {f12 : Addr} {od12 an12 : Option Addr} {sl12 : Array (Option Value)} {oc12 kV12 dc12 pm12 cd12 ct12 : Value}
    (a12 : PySem.W.nsIn K mainGlobals "need_amounts" = some (some (.ref f12))) (l12 : K.lookup f12 = some ⟨oc12, od12, .func (PySem.W.fnOf "need_amounts" "need_amounts" (defArgs (topS 20)) (defBody (topS 20)) (defScope (topS 20)) .none kV12 dc12 pm12 an12 cd12 ct12), sl12⟩) (c12 : PySem.W.codeIn K cd12 "need_amounts" = true) (k12 : PySem.W.keepIn K (.ref f12) = true)
    {f13 : Addr} {od13 an13 : Option Addr} {sl13 : Array (Option Value)} {oc13 kV13 dc13 pm13 cd13 ct13 : Value}
    (a13 : PySem.W.nsIn K mainGlobals "need_both" = some (some (.ref f13))) (l13 : K.lookup f13 = some ⟨oc13, od13, .func (PySem.W.fnOf "need_both" "need_both" (defArgs (topS 21)) (defBody (topS 21)) (defScope (topS 21)) .none kV13 dc13 pm13 an13 cd13 ct13), sl13⟩) (c13 : PySem.W.codeIn K cd13 "need_both" = true) (k13 : PySem.W.keepIn K (.ref f13) = true)
    {f14 : Addr} {od14 an14 : Option Addr} {sl14 : Array (Option Value)} {oc14 kV14 dc14 pm14 cd14 ct14 : Value}
    (a14 : PySem.W.nsIn K mainGlobals "need_fraction" = some (some (.ref f14))) (l14 : K.lookup f14 = some ⟨oc14, od14, .func (PySem.W.fnOf "need_fraction" "need_fraction" (defArgs (topS 13)) (defBody (topS 13)) (defScope (topS 13)) .none kV14 dc14 pm14 an14 cd14 ct14), sl14⟩) (c14 : PySem.W.codeIn K cd14 "need_fraction" = true) (k14 : PySem.W.keepIn K (.ref f14) = true)
    {f15 : Addr} {od15 an15 : Option Addr} {sl15 : Array (Option Value)} {oc15 kV15 dc15 pm15 cd15 ct15 : Value}
    (a15 : PySem.W.nsIn K mainGlobals "fraction" = some (some (.ref f15))) (l15 : K.lookup f15 = some ⟨oc15, od15, .func (PySem.W.fnOf "fraction" "fraction" (defArgs (topS 14)) (defBody (topS 14)) (defScope (topS 14)) .none kV15 dc15 pm15 an15 cd15 ct15), sl15⟩) (c15 : PySem.W.codeIn K cd15 "fraction" = true) (k15 : PySem.W.keepIn K (.ref f15) = true)
    {f16 : Addr} {od16 an16 : Option Addr} {sl16 : Array (Option Value)} {oc16 kV16 dc16 pm16 cd16 ct16 : Value}
    (a16 : PySem.W.nsIn K mainGlobals "sum_of" = some (some (.ref f16))) (l16 : K.lookup f16 = some ⟨oc16, od16, .func (PySem.W.fnOf "sum_of" "sum_of" (defArgs (topS 15)) (defBody (topS 15)) (defScope (topS 15)) .none kV16 dc16 pm16 an16 cd16 ct16), sl16⟩) (c16 : PySem.W.codeIn K cd16 "sum_of" = true) (k16 : PySem.W.keepIn K (.ref f16) = true)
    {f17 : Addr} {od17 an17 : Option Addr} {sl17 : Array (Option Value)} {oc17 kV17 dc17 pm17 cd17 ct17 : Value}
    (a17 : PySem.W.nsIn K mainGlobals "on_one_below" = some (some (.ref f17))) (l17 : K.lookup f17 = some ⟨oc17, od17, .func (PySem.W.fnOf "on_one_below" "on_one_below" (defArgs (topS 17)) (defBody (topS 17)) (defScope (topS 17)) .none kV17 dc17 pm17 an17 cd17 ct17), sl17⟩) (c17 : PySem.W.codeIn K cd17 "on_one_below" = true) (k17 : PySem.W.keepIn K (.ref f17) = true)
    {f18 : Addr} {od18 an18 : Option Addr} {sl18 : Array (Option Value)} {oc18 kV18 dc18 pm18 cd18 ct18 : Value}
    (a18 : PySem.W.nsIn K mainGlobals "on_integers" = some (some (.ref f18))) (l18 : K.lookup f18 = some ⟨oc18, od18, .func (PySem.W.fnOf "on_integers" "on_integers" (defArgs (topS 22)) (defBody (topS 22)) (defScope (topS 22)) .none kV18 dc18 pm18 an18 cd18 ct18), sl18⟩) (c18 : PySem.W.codeIn K cd18 "on_integers" = true) (k18 : PySem.W.keepIn K (.ref f18) = true)
    {f19 : Addr} {od19 an19 : Option Addr} {sl19 : Array (Option Value)} {oc19 kV19 dc19 pm19 cd19 ct19 : Value}
    (a19 : PySem.W.nsIn K mainGlobals "falling" = some (some (.ref f19))) (l19 : K.lookup f19 = some ⟨oc19, od19, .func (PySem.W.fnOf "falling" "falling" (defArgs (topS 23)) (defBody (topS 23)) (defScope (topS 23)) .none kV19 dc19 pm19 an19 cd19 ct19), sl19⟩) (c19 : PySem.W.codeIn K cd19 "falling" = true) (k19 : PySem.W.keepIn K (.ref f19) = true)
    {f20 : Addr} {od20 an20 : Option Addr} {sl20 : Array (Option Value)} {oc20 kV20 dc20 pm20 cd20 ct20 : Value}
    (a20 : PySem.W.nsIn K mainGlobals "sums_of_greatest" = some (some (.ref f20))) (l20 : K.lookup f20 = some ⟨oc20, od20, .func (PySem.W.fnOf "sums_of_greatest" "sums_of_greatest" (defArgs (topS 27)) (defBody (topS 27)) (defScope (topS 27)) .none kV20 dc20 pm20 an20 cd20 ct20), sl20⟩) (c20 : PySem.W.codeIn K cd20 "sums_of_greatest" = true) (k20 : PySem.W.keepIn K (.ref f20) = true)
    {f21 : Addr} {od21 an21 : Option Addr} {sl21 : Array (Option Value)} {oc21 kV21 dc21 pm21 cd21 ct21 : Value}
    (a21 : PySem.W.nsIn K mainGlobals "meet" = some (some (.ref f21))) (l21 : K.lookup f21 = some ⟨oc21, od21, .func (PySem.W.fnOf "meet" "meet" (defArgs (topS 28)) (defBody (topS 28)) (defScope (topS 28)) .none kV21 dc21 pm21 an21 cd21 ct21), sl21⟩) (c21 : PySem.W.codeIn K cd21 "meet" = true) (k21 : PySem.W.keepIn K (.ref f21) = true)
    {f22 : Addr} {od22 an22 : Option Addr} {sl22 : Array (Option Value)} {oc22 kV22 dc22 pm22 cd22 ct22 : Value}
    (a22 : PySem.W.nsIn K mainGlobals "bent_hull" = some (some (.ref f22))) (l22 : K.lookup f22 = some ⟨oc22, od22, .func (PySem.W.fnOf "bent_hull" "bent_hull" (defArgs (topS 29)) (defBody (topS 29)) (defScope (topS 29)) .none kV22 dc22 pm22 an22 cd22 ct22), sl22⟩) (c22 : PySem.W.codeIn K cd22 "bent_hull" = true) (k22 : PySem.W.keepIn K (.ref f22) = true)
    {f23 : Addr} {od23 an23 : Option Addr} {sl23 : Array (Option Value)} {oc23 kV23 dc23 pm23 cd23 ct23 : Value}
    (a23 : PySem.W.nsIn K mainGlobals "join" = some (some (.ref f23))) (l23 : K.lookup f23 = some ⟨oc23, od23, .func (PySem.W.fnOf "join" "join" (defArgs (topS 30)) (defBody (topS 30)) (defScope (topS 30)) .none kV23 dc23 pm23 an23 cd23 ct23), sl23⟩) (c23 : PySem.W.codeIn K cd23 "join" = true) (k23 : PySem.W.keepIn K (.ref f23) = true)
    {f24 : Addr} {od24 an24 : Option Addr} {sl24 : Array (Option Value)} {oc24 kV24 dc24 pm24 cd24 ct24 : Value}
    (a24 : PySem.W.nsIn K mainGlobals "_law_folded" = some (some (.ref f24))) (l24 : K.lookup f24 = some ⟨oc24, od24, .func (PySem.W.fnOf "_law_folded" "_law_folded" (defArgs (topS 48)) (defBody (topS 48)) (defScope (topS 48)) .none kV24 dc24 pm24 an24 cd24 ct24), sl24⟩) (c24 : PySem.W.codeIn K cd24 "_law_folded" = true) (k24 : PySem.W.keepIn K (.ref f24) = true)
    {f25 : Addr} {od25 an25 : Option Addr} {sl25 : Array (Option Value)} {oc25 kV25 dc25 pm25 cd25 ct25 : Value}
    (a25 : PySem.W.nsIn K mainGlobals "_law_same" = some (some (.ref f25))) (l25 : K.lookup f25 = some ⟨oc25, od25, .func (PySem.W.fnOf "_law_same" "_law_same" (defArgs (topS 37)) (defBody (topS 37)) (defScope (topS 37)) .none kV25 dc25 pm25 an25 cd25 ct25), sl25⟩) (c25 : PySem.W.codeIn K cd25 "_law_same" = true) (k25 : PySem.W.keepIn K (.ref f25) = true)
    {f26 : Addr} {od26 an26 : Option Addr} {sl26 : Array (Option Value)} {oc26 kV26 dc26 pm26 cd26 ct26 : Value}
    (a26 : PySem.W.nsIn K mainGlobals "_law_sums" = some (some (.ref f26))) (l26 : K.lookup f26 = some ⟨oc26, od26, .func (PySem.W.fnOf "_law_sums" "_law_sums" (defArgs (topS 42)) (defBody (topS 42)) (defScope (topS 42)) .none kV26 dc26 pm26 an26 cd26 ct26), sl26⟩) (c26 : PySem.W.codeIn K cd26 "_law_sums" = true) (k26 : PySem.W.keepIn K (.ref f26) = true)
    {f27 : Addr} {od27 an27 : Option Addr} {sl27 : Array (Option Value)} {oc27 kV27 dc27 pm27 cd27 ct27 : Value}
    (a27 : PySem.W.nsIn K mainGlobals "_law_steps" = some (some (.ref f27))) (l27 : K.lookup f27 = some ⟨oc27, od27, .func (PySem.W.fnOf "_law_steps" "_law_steps" (defArgs (topS 45)) (defBody (topS 45)) (defScope (topS 45)) .none kV27 dc27 pm27 an27 cd27 ct27), sl27⟩) (c27 : PySem.W.codeIn K cd27 "_law_steps" = true) (k27 : PySem.W.keepIn K (.ref f27) = true)
    {f28 : Addr} {od28 an28 : Option Addr} {sl28 : Array (Option Value)} {oc28 kV28 dc28 pm28 cd28 ct28 : Value}
    (a28 : PySem.W.nsIn K mainGlobals "_law_lowest" = some (some (.ref f28))) (l28 : K.lookup f28 = some ⟨oc28, od28, .func (PySem.W.fnOf "_law_lowest" "_law_lowest" (defArgs (topS 46)) (defBody (topS 46)) (defScope (topS 46)) .none kV28 dc28 pm28 an28 cd28 ct28), sl28⟩) (c28 : PySem.W.codeIn K cd28 "_law_lowest" = true) (k28 : PySem.W.keepIn K (.ref f28) = true)
    {f29 : Addr} {od29 an29 : Option Addr} {sl29 : Array (Option Value)} {oc29 kV29 dc29 pm29 cd29 ct29 : Value}
    (a29 : PySem.W.nsIn K mainGlobals "_law_highest" = some (some (.ref f29))) (l29 : K.lookup f29 = some ⟨oc29, od29, .func (PySem.W.fnOf "_law_highest" "_law_highest" (defArgs (topS 47)) (defBody (topS 47)) (defScope (topS 47)) .none kV29 dc29 pm29 an29 cd29 ct29), sl29⟩) (c29 : PySem.W.codeIn K cd29 "_law_highest" = true) (k29 : PySem.W.keepIn K (.ref f29) = true)
    {f30 : Addr} {od30 an30 : Option Addr} {sl30 : Array (Option Value)} {oc30 kV30 dc30 pm30 cd30 ct30 : Value}
    (a30 : PySem.W.nsIn K mainGlobals "gap_between" = some (some (.ref f30))) (l30 : K.lookup f30 = some ⟨oc30, od30, .func (PySem.W.fnOf "gap_between" "gap_between" (defArgs (topS 24)) (defBody (topS 24)) (defScope (topS 24)) .none kV30 dc30 pm30 an30 cd30 ct30), sl30⟩) (c30 : PySem.W.codeIn K cd30 "gap_between" = true) (k30 : PySem.W.keepIn K (.ref f30) = true)
    {f31 : Addr} {od31 an31 : Option Addr} {sl31 : Array (Option Value)} {oc31 kV31 dc31 pm31 cd31 ct31 : Value}
    (a31 : PySem.W.nsIn K mainGlobals "first_gap" = some (some (.ref f31))) (l31 : K.lookup f31 = some ⟨oc31, od31, .func (PySem.W.fnOf "first_gap" "first_gap" (defArgs (topS 25)) (defBody (topS 25)) (defScope (topS 25)) .none kV31 dc31 pm31 an31 cd31 ct31), sl31⟩) (c31 : PySem.W.codeIn K cd31 "first_gap" = true) (k31 : PySem.W.keepIn K (.ref f31) = true)
    {f32 : Addr} {od32 an32 : Option Addr} {sl32 : Array (Option Value)} {oc32 kV32 dc32 pm32 cd32 ct32 : Value}
    (a32 : PySem.W.nsIn K mainGlobals "is_more_even" = some (some (.ref f32))) (l32 : K.lookup f32 = some ⟨oc32, od32, .func (PySem.W.fnOf "is_more_even" "is_more_even" (defArgs (topS 26)) (defBody (topS 26)) (defScope (topS 26)) .none kV32 dc32 pm32 an32 cd32 ct32), sl32⟩) (c32 : PySem.W.codeIn K cd32 "is_more_even" = true) (k32 : PySem.W.keepIn K (.ref f32) = true)
    {f33 : Addr} {od33 an33 : Option Addr} {sl33 : Array (Option Value)} {oc33 kV33 dc33 pm33 cd33 ct33 : Value}
    (a33 : PySem.W.nsIn K mainGlobals "_law_exchanged" = some (some (.ref f33))) (l33 : K.lookup f33 = some ⟨oc33, od33, .func (PySem.W.fnOf "_law_exchanged" "_law_exchanged" (defArgs (topS 40)) (defBody (topS 40)) (defScope (topS 40)) .none kV33 dc33 pm33 an33 cd33 ct33), sl33⟩) (c33 : PySem.W.codeIn K cd33 "_law_exchanged" = true) (k33 : PySem.W.keepIn K (.ref f33) = true)
    {f34 : Addr} {od34 an34 : Option Addr} {sl34 : Array (Option Value)} {oc34 kV34 dc34 pm34 cd34 ct34 : Value}
    (a34 : PySem.W.nsIn K mainGlobals "_law_leads" = some (some (.ref f34))) (l34 : K.lookup f34 = some ⟨oc34, od34, .func (PySem.W.fnOf "_law_leads" "_law_leads" (defArgs (topS 43)) (defBody (topS 43)) (defScope (topS 43)) .none kV34 dc34 pm34 an34 cd34 ct34), sl34⟩) (c34 : PySem.W.codeIn K cd34 "_law_leads" = true) (k34 : PySem.W.keepIn K (.ref f34) = true)
    {f35 : Addr} {od35 an35 : Option Addr} {sl35 : Array (Option Value)} {oc35 kV35 dc35 pm35 cd35 ct35 : Value}
    (a35 : PySem.W.nsIn K mainGlobals "_law_further_right" = some (some (.ref f35))) (l35 : K.lookup f35 = some ⟨oc35, od35, .func (PySem.W.fnOf "_law_further_right" "_law_further_right" (defArgs (topS 49)) (defBody (topS 49)) (defScope (topS 49)) .none kV35 dc35 pm35 an35 cd35 ct35), sl35⟩) (c35 : PySem.W.codeIn K cd35 "_law_further_right" = true) (k35 : PySem.W.keepIn K (.ref f35) = true)
    {f36 : Addr} {od36 an36 : Option Addr} {sl36 : Array (Option Value)} {oc36 kV36 dc36 pm36 cd36 ct36 : Value}
    (a36 : PySem.W.nsIn K mainGlobals "_law_above_right" = some (some (.ref f36))) (l36 : K.lookup f36 = some ⟨oc36, od36, .func (PySem.W.fnOf "_law_above_right" "_law_above_right" (defArgs (topS 50)) (defBody (topS 50)) (defScope (topS 50)) .none kV36 dc36 pm36 an36 cd36 ct36), sl36⟩) (c36 : PySem.W.codeIn K cd36 "_law_above_right" = true) (k36 : PySem.W.keepIn K (.ref f36) = true)
    {f37 : Addr} {od37 an37 : Option Addr} {sl37 : Array (Option Value)} {oc37 kV37 dc37 pm37 cd37 ct37 : Value}
    (a37 : PySem.W.nsIn K mainGlobals "_law_pair_right" = some (some (.ref f37))) (l37 : K.lookup f37 = some ⟨oc37, od37, .func (PySem.W.fnOf "_law_pair_right" "_law_pair_right" (defArgs (topS 51)) (defBody (topS 51)) (defScope (topS 51)) .none kV37 dc37 pm37 an37 cd37 ct37), sl37⟩) (c37 : PySem.W.codeIn K cd37 "_law_pair_right" = true) (k37 : PySem.W.keepIn K (.ref f37) = true)
    {f38 : Addr} {od38 an38 : Option Addr} {sl38 : Array (Option Value)} {oc38 kV38 dc38 pm38 cd38 ct38 : Value}
    (a38 : PySem.W.nsIn K mainGlobals "law" = some (some (.ref f38))) (l38 : K.lookup f38 = some ⟨oc38, od38, .func (PySem.W.fnOf "law" "law" (defArgs (topS 52)) (defBody (topS 52)) (defScope (topS 52)) .none kV38 dc38 pm38 an38 cd38 ct38), sl38⟩) (c38 : PySem.W.codeIn K cd38 "law" = true) (k38 : PySem.W.keepIn K (.ref f38) = true)
    (sTr : l.prog.given.tree = none)
    (z0 : PySem.W.nsIn K mainGlobals "max" = some none)
    (z1 : PySem.W.nsIn K mainGlobals "int" = some none)
    (z2 : PySem.W.nsIn K mainGlobals "len" = some none)
    (z3 : PySem.W.nsIn K mainGlobals "range" = some none)
    (z4 : PySem.W.nsIn K mainGlobals "list" = some none)
    (z5 : PySem.W.nsIn K mainGlobals "min" = some none)
    (z6 : PySem.W.nsIn K mainGlobals "tuple" = some none)
    (z7 : PySem.W.nsIn K mainGlobals "isinstance" = some none)
    (z8 : PySem.W.nsIn K mainGlobals "bool" = some none)
    (z9 : PySem.W.nsIn K mainGlobals "sorted" = some none)
    (z10 : PySem.W.nsIn K mainGlobals "sum" = some none)
    (z11 : PySem.W.nsIn K mainGlobals "zip" = some none)
    (z12 : PySem.W.nsIn K mainGlobals "repr" = some none)
    (z13 : PySem.W.nsIn K mainGlobals "enumerate" = some none)
    {gt0 : Tok} (gc0 : PySem.W.nsIn K mainGlobals "MOST_AMOUNTS" = some (some (.int 7 gt0)))
    (y0 : PySem.W.nsIn K mainGlobals "gcd" = some (some (.builtin "math.gcd")))
    (y1 : PySem.W.nsIn K mainGlobals "lcm" = some (some (.builtin "math.lcm"))) :
    Dn.LawAtN l w K CX0 9 63 "_law_script" mg fa h := by
  have e := hfa.symm.trans (PySem.W.mg_of X G a38)
  cases e
  exact ⟨_, @spP tb0 K 1 Ph_law, fun s v => .of_eq rfl, fun H a ns hl hb hS => @Dn.spP_script tb0 K Ph_law H a ns _ (fun p hp => (nomatch hp)) hS (law_true ns hl hb), fun base _ _ hNS => @ok_law tb0 _ _ _ _ _ (wd_mk hNS X G a0 l0 c0 k0 a1 l1 c1 k1 a2 l2 c2 k2 a3 l3 c3 k3 a4 l4 c4 k4 a5 l5 c5 k5 a6 l6 c6 k6 a7 l7 c7 k7 a8 l8 c8 k8 a9 l9 c9 k9 a10 l10 c10 k10 a11 l11 c11 k11 a12 l12 c12 k12 a13 l13 c13 k13 a14 l14 c14 k14 a15 l15 c15 k15 a16 l16 c16 k16 a17 l17 c17 k17 a18 l18 c18 k18 a19 l19 c19 k19 a20 l20 c20 k20 a21 l21 c21 k21 a22 l22 c22 k22 a23 l23 c23 k23 a24 l24 c24 k24 a25 l25 c25 k25 a26 l26 c26 k26 a27 l27 c27 k27 a28 l28 c28 k28 a29 l29 c29 k29 a30 l30 c30 k30 a31 l31 c31 k31 a32 l32 c32 k32 a33 l33 c33 k33 a34 l34 c34 k34 a35 l35 c35 k35 a36 l36 c36 k36 a37 l37 c37 k37 a38 l38 c38 k38 sTr z0 z1 z2 z3 z4 z5 z6 z7 z8 z9 z10 z11 z12 z13 gc0 y0 y1)⟩
end K64
open PySem PySem.W PyProof.Rows
set_option maxHeartbeats 0 in
theorem PySem.Challenge.cw_caskyears_k64_whole_meets_and_joins_holds : PySem.Challenge.rw_caskyears_k64_whole_meets_and_joins.Holds := by
  w_on; o_law; k_head; (case hw => w_witness2)
  k_fill
  refine Dn.walk_ofTsN (l := PySem.Challenge.rw_caskyears_k64_whole_meets_and_joins) (n := 63) (k := 9) (x := "_law_script") (CX := fun _ => L2.CX0) rfl (by decide) rfl ⟨⟨rfl, by decide, by decide⟩, rfl⟩ (by first | rfl | decide +kernel) (fun w h Y => PySem.W.kIn_of Y) ?F (fun _ _ _ _ _ h => h)
  case F =>
    intro w mg fa h Y KX G hmg
    refine' K64.all_mk hmg KX G ?a0 ?l0 ?c0 ?k0 ?a1 ?l1 ?c1 ?k1 ?a2 ?l2 ?c2 ?k2 ?a3 ?l3 ?c3 ?k3 ?a4 ?l4 ?c4 ?k4 ?a5 ?l5 ?c5 ?k5 ?a6 ?l6 ?c6 ?k6 ?a7 ?l7 ?c7 ?k7 ?a8 ?l8 ?c8 ?k8 ?a9 ?l9 ?c9 ?k9 ?a10 ?l10 ?c10 ?k10 ?a11 ?l11 ?c11 ?k11 ?a12 ?l12 ?c12 ?k12 ?a13 ?l13 ?c13 ?k13 ?a14 ?l14 ?c14 ?k14 ?a15 ?l15 ?c15 ?k15 ?a16 ?l16 ?c16 ?k16 ?a17 ?l17 ?c17 ?k17 ?a18 ?l18 ?c18 ?k18 ?a19 ?l19 ?c19 ?k19 ?a20 ?l20 ?c20 ?k20 ?a21 ?l21 ?c21 ?k21 ?a22 ?l22 ?c22 ?k22 ?a23 ?l23 ?c23 ?k23 ?a24 ?l24 ?c24 ?k24 ?a25 ?l25 ?c25 ?k25 ?a26 ?l26 ?c26 ?k26 ?a27 ?l27 ?c27 ?k27 ?a28 ?l28 ?c28 ?k28 ?a29 ?l29 ?c29 ?k29 ?a30 ?l30 ?c30 ?k30 ?a31 ?l31 ?c31 ?k31 ?a32 ?l32 ?c32 ?k32 ?a33 ?l33 ?c33 ?k33 ?a34 ?l34 ?c34 ?k34 ?a35 ?l35 ?c35 ?k35 ?a36 ?l36 ?c36 ?k36 ?a37 ?l37 ?c37 ?k37 ?a38 ?l38 ?c38 ?k38 ?sTr ?z0 ?z1 ?z2 ?z3 ?z4 ?z5 ?z6 ?z7 ?z8 ?z9 ?z10 ?z11 ?z12 ?z13 ?gc0 ?y0 ?y1
    (case a0 => k_is); (case l0 => k_is); (case c0 => k_is); (case k0 => k_is); (case a1 => k_is); (case l1 => k_is); (case c1 => k_is); (case k1 => k_is); (case a2 => k_is); (case l2 => k_is); (case c2 => k_is); (case k2 => k_is); (case a3 => k_is); (case l3 => k_is); (case c3 => k_is); (case k3 => k_is); (case a4 => k_is); (case l4 => k_is); (case c4 => k_is); (case k4 => k_is); (case a5 => k_is); (case l5 => k_is); (case c5 => k_is); (case k5 => k_is); (case a6 => k_is); (case l6 => k_is); (case c6 => k_is); (case k6 => k_is); (case a7 => k_is); (case l7 => k_is); (case c7 => k_is); (case k7 => k_is); (case a8 => k_is); (case l8 => k_is); (case c8 => k_is); (case k8 => k_is); (case a9 => k_is); (case l9 => k_is); (case c9 => k_is); (case k9 => k_is); (case a10 => k_is); (case l10 => k_is); (case c10 => k_is); (case k10 => k_is); (case a11 => k_is); (case l11 => k_is); (case c11 => k_is); (case k11 => k_is); (case a12 => k_is); (case l12 => k_is); (case c12 => k_is); (case k12 => k_is); (case a13 => k_is); (case l13 => k_is); (case c13 => k_is); (case k13 => k_is); (case a14 => k_is); (case l14 => k_is); (case c14 => k_is); (case k14 => k_is); (case a15 => k_is); (case l15 => k_is); (case c15 => k_is); (case k15 => k_is); (case a16 => k_is); (case l16 => k_is); (case c16 => k_is); (case k16 => k_is); (case a17 => k_is); (case l17 => k_is); (case c17 => k_is); (case k17 => k_is); (case a18 => k_is); (case l18 => k_is); (case c18 => k_is); (case k18 => k_is); (case a19 => k_is); (case l19 => k_is); (case c19 => k_is); (case k19 => k_is); (case a20 => k_is); (case l20 => k_is); (case c20 => k_is); (case k20 => k_is); (case a21 => k_is); (case l21 => k_is); (case c21 => k_is); (case k21 => k_is); (case a22 => k_is); (case l22 => k_is); (case c22 => k_is); (case k22 => k_is); (case a23 => k_is); (case l23 => k_is); (case c23 => k_is); (case k23 => k_is); (case a24 => k_is); (case l24 => k_is); (case c24 => k_is); (case k24 => k_is); (case a25 => k_is); (case l25 => k_is); (case c25 => k_is); (case k25 => k_is); (case a26 => k_is); (case l26 => k_is); (case c26 => k_is); (case k26 => k_is); (case a27 => k_is); (case l27 => k_is); (case c27 => k_is); (case k27 => k_is); (case a28 => k_is); (case l28 => k_is); (case c28 => k_is); (case k28 => k_is); (case a29 => k_is); (case l29 => k_is); (case c29 => k_is); (case k29 => k_is); (case a30 => k_is); (case l30 => k_is); (case c30 => k_is); (case k30 => k_is); (case a31 => k_is); (case l31 => k_is); (case c31 => k_is); (case k31 => k_is); (case a32 => k_is); (case l32 => k_is); (case c32 => k_is); (case k32 => k_is); (case a33 => k_is); (case l33 => k_is); (case c33 => k_is); (case k33 => k_is); (case a34 => k_is); (case l34 => k_is); (case c34 => k_is); (case k34 => k_is); (case a35 => k_is); (case l35 => k_is); (case c35 => k_is); (case k35 => k_is); (case a36 => k_is); (case l36 => k_is); (case c36 => k_is); (case k36 => k_is); (case a37 => k_is); (case l37 => k_is); (case c37 => k_is); (case k37 => k_is); (case a38 => k_is); (case l38 => k_is); (case c38 => k_is); (case k38 => k_is); (case sTr => rfl); (case z0 => k_is); (case z1 => k_is); (case z2 => k_is); (case z3 => k_is); (case z4 => k_is); (case z5 => k_is); (case z6 => k_is); (case z7 => k_is); (case z8 => k_is); (case z9 => k_is); (case z10 => k_is); (case z11 => k_is); (case z12 => k_is); (case z13 => k_is); (case gc0 => k_is); (case y0 => k_is); (case y1 => k_is)
