import PyProof.Rows.All
import HandS.ForMost
import HandS.ForExc
import HandS.SortKw
import HandS.TryOnly
import HandS.EndTab
import HandS.EndBits
import HandS.Wide
import HandS.Gcd
import HandS.IsInst
import HandS.Evl
import HandS.Lambda
import HandS.TupAny
import HandS.TupMul
import KE.KMathG
import KE.KMathGC
import HandS.ExcSuper
import HandS.ExcField
import HandS.ExcInit
import KE.KExcSuper
import HandS.Zip
import KE.KExcIs
import HandS.ExcIs
import PyProof.ReprRoads
import HandS.WideBits
import HandS.Style
import HandS.Sort
import HandS.Conv
import KE.KxIndex
import HandS.Text
import PyProof.Rows.StrOr
import KE.SortKeyHeap
import KE.DataFind
import HandS.Deep
import HandS.Dict
import HandS.More
import PyProof.Rows.SortShellSt
import PyProof.NoPylong
import HandS.Iter
import KE.KDictZip
import HandS.Codes
import PyProof.ListIndex
import PySem.Challenge.RW_caskyears_k11_levelled_pairs
set_option Elab.async false
set_option linter.all false
set_option maxRecDepth 100000
set_option maxHeartbeats 1000000
namespace Dn
open PySem PySem.Spec PyProof.Rows L2
/-- room, and no repr around -/
structure Room (k : Nat) (A : Around) : Prop extends L2.Room k A where
  gd : A.guards = some []
theorem Room.mono {j k : Nat} {A : Around} (r : Room k A) (h : j ≤ k) : Room j A := ⟨r.toRoom.mono h, r.gd⟩
theorem Room.deeper {k : Nat} {A : Around} (r : Room (k + 1) A) (env : Env) : Room k (A.deeper env) := ⟨r.toRoom.deeper env, r.gd⟩
structure FnOk (P : Program) (w : World) (K : PySem.W.Frag) (mg : Str → Option Value) (base : Heap) (CX : CXT) (k : Nat) (f : Addr) (fd : FuncData) (ps : List Str) (sp : Sp) : Prop where
  len : ∀ vs H Q E, sp vs H Q E → vs.length = ps.length
  run : ∀ {A : Around} {outer : List Env} {s : Shared} {H : Hp} {args : Args} {us : List Value} {vs : List V} {Q : VK} {E : XK}, Room k A → Env0 P w K mg base A outer s H → BindsTo s fd args (ps.zip us) → Vals vs us → sp vs H Q E →
    codeAny (model P w) A (.call (.ref f) args) (CR CX outer P w H s Q E) s
section
variable {P : Program} {w : World} {K K2 : PySem.W.Frag} {mg : Str → Option Value} {base : Heap} {CX : CXT} {k : Nat} {f : Addr} {fd : FuncData} {N ps : List Str} {sp : Sp} {x qual : Str} {st : Stmt}
theorem FnOk.wide (F : FnOk P w K mg base CX k f fd ps sp) (hK : K.In base) : FnOk P w K2 mg base CX k f fd ps sp :=
  ⟨F.len, fun hr e hb hv hs => F.run hr ⟨e.frames, ⟨hK, e.mod.glob, e.mod.blt, e.mod.nolimit⟩, e.bs, e.bsz, e.funs, e.frf, e.hok, e.bare⟩ hb hv hs⟩
/-- a body that does what it should keeps the def's promise -/
theorem fn_body (Fn : Fun K x qual st f fd) (S : FnScope N ps (defScope st)) (len : ∀ vs H Q E, sp vs H Q E → vs.length = ps.length)
    (body : ∀ (cdv : Value) (A : Around) (outer : List Env) (s : Shared) (H : Hp) (vs : List V) (Q : VK) (E : XK), fd.code = cdv → Room k (A.deeper (envOfC qual (defScope st) s.heap.objs.size f cdv)) → sp vs H Q E →
      ∃ t, PSs (cxOf CX P w K mg base N qual (defScope st) f cdv A outer s H E) (defBody st) t ∧ t { nx := fun _ H' => Q .non H', rt := Q } (start N vs) H) : FnOk P w K mg base CX (k + 1) f fd ps sp := by
  obtain ⟨oc, od, kV, doc, pm, an, cdv, ct, osl, rfl, there, code⟩ := Fn.ex
  refine ⟨len, fun {A outer s H args us vs Q E} room e0 binds vals want => ?_⟩
  have many := len _ _ _ _ want
  have old : ∀ b o, base.get? b = some o → s.heap.get? b = some o := fun b o e => (e0.bs b o e).1
  have inK : K.In s.heap := e0.mod.kin.keeps old
  have sort : ∀ y ∈ ps.zip us, (defScope st).names.lookup y.1 = some .local ∨ ((defScope st).names.lookup y.1 = some .cell ∧ ((cellsFrom (s.heap.objs.size + 1) (defScope st).names []).lookup y.1).isSome = true) := by
    rintro ⟨n, v⟩ hy
    have := S.par n (List.of_mem_zip hy).1
    exact this.imp id fun q => ⟨q, PySem.W.cellsFrom_some _ _ _ (.inl q)⟩
  refine codeAny_call_function room.depth (inK _ _ there) rfl S.co S.gen rfl (PySem.W.codeRec_of inK code) (binds _ _ _ _ (wpAny_newFunctionEnv_cells S.kind sort ?_))
  rintro env rfl s1 x1
  refine ⟨(e0.mod.nolimit.keeps old).keeps x1.toInCall.keep, codeAny_func ?_⟩
  obtain ⟨t, ht, hq⟩ := body cdv A outer s H vs Q E rfl (room.deeper _) want
  refine wpAny_mono (ht.run [] s1 (start N vs) H _ (inv_start S room.hd e0 many vals x1) hq) (fun fl s' done => ?_) fun _ _ z => z
  match fl, done with
  | .ret u, ⟨v, _, H', J, rv, q⟩ => exact ⟨v, H', J.os, J.bare, J.base, J.hok, rv, q⟩
  | .next, ⟨_, H', J, q⟩ => exact ⟨.non, H', J.os, J.bare, J.base, J.hok, rfl, q⟩
  | .brk, ⟨_, _, _, q⟩ => exact q.elim
  | .cont, ⟨_, _, _, q⟩ => exact q.elim
end
end Dn
namespace L2
open PySem PySem.Spec PyProof.Rows Dn
variable {P : Program} {w : World} {K : PySem.W.Frag} {mg : Str → Option Value} {base : Heap} {x qual : Str} {st : Stmt} {f : Addr} {fd : FuncData} {N ps : List Str} {k : Nat} {sp : Sp}
theorem Fun.okG (F : Fun K x qual st f fd) (S : FnScope N ps (defScope st)) (len : ∀ vs H Q E, sp vs H Q E → vs.length = ps.length)
    (body : ∀ (cdv : Value) (A : Around) (outer : List Env) (s : Shared) (H : Hp) (vs : List V) (Q : VK) (E : XK), Dn.Room k (A.deeper (envOfC qual (defScope st) s.heap.objs.size f cdv)) → sp vs H Q E →
      ∃ t, PSs (cxOf CX0 P w K mg base N qual (defScope st) f cdv A outer s H E).nox (defBody st) t ∧ t { nx := fun _ H' => Q .non H', rt := Q } (start N vs) H) : Dn.FnOk P w K mg base CX0 (k + 1) f fd ps sp :=
  fn_body F S len fun cdv A outer s H vs Q E _ hr want => let ⟨t, h, q⟩ := body cdv A outer s H vs Q E hr want; ⟨t, h.nox, q⟩
theorem Fun.okXG (F : Fun K x qual st f fd) (S : FnScope N ps (defScope st)) (len : ∀ vs H Q E, sp vs H Q E → vs.length = ps.length)
    (body : ∀ (cdv : Value) (A : Around) (outer : List Env) (s : Shared) (H : Hp) (vs : List V) (Q : VK) (E : XK), Dn.Room k (A.deeper (envOfC qual (defScope st) s.heap.objs.size f cdv)) → sp vs H Q E →
      ∃ t, PSs (cxOf (L2.CX P w) P w K mg base N qual (defScope st) f cdv A outer s H E) (defBody st) t ∧ t { nx := fun _ H' => Q .non H', rt := Q } (start N vs) H) : Dn.FnOk P w K mg base (L2.CX P w) (k + 1) f fd ps sp :=
  fn_body F S len fun cdv A outer s H vs Q E _ hr want => body cdv A outer s H vs Q E hr want
end L2
namespace Dn
open PySem PySem.Spec PyProof.Rows L2
section
variable {X : Cx} {CX : CXT} {k : Nat} {f : Addr} {fd : FuncData} {ps ks : List Str} {sp : Sp} {dvs : List V} {ds : List Value} {E : XK} {Es : L2.St → XK} {x : Str} {p pos : Pos} {e : Expr} {es : List Expr} {kws : List Keyword} {t tk : TA} {g : List Value → List Value → List Value} {gV : List V → List V → List V}
/-- behind the callee's code -/
theorem ran {pins : List (Addr × Obj)} {σ : L2.St} {H : Hp} {s : Shared} {Q : VK} {E : XK} {args : List Value} {kw : List (Str × Value)} (I : Inv X pins σ H s) (out : ∀ e s', CX X.stack H s E e s' → X.xe e s')
    (C : codeAny (model X.prog X.w) X.A (.call (.ref f) ⟨args, kw⟩) (CR CX X.stack X.prog X.w H s Q E) s) : wpAny (model X.prog X.w) X.A (call (.ref f) args kw) (EP X pins σ Q) X.xe s :=
  wpAny_call (codeAny_mono C fun r s' q => match r, q with
    | .error e, q => out e s' q
    | .ok (.ret _), q => I.after q
    | .ok .next, q => False.elim q
    | .ok .brk, q => False.elim q
    | .ok .cont, q => False.elim q)
theorem run_plain {pins : List (Addr × Obj)} {σ : L2.St} {H : Hp} {s : Shared} {Q : VK} {us : List Value} {vs : List V} (F : FnOk X.prog X.w X.K X.mg X.base CX k f fd ps sp) (hr : Room k X.A) (hb : Binds X.K fd ps ds) (hd : Vals dvs ds) (I : Inv X pins σ H s) (out : ∀ e s', CX X.stack H s E e s' → X.xe e s')
    (r : Vals vs us) (h : sp (vs ++ dvs) H Q E) : wpAny (model X.prog X.w) X.A (call (.ref f) us) (EP X pins σ Q) X.xe s := by
  have both : Vals (vs ++ dvs) (us ++ ds) := r.append hd
  exact ran I out (F.run hr I.env0 (hb s us I.kIn (by rw [← both.length]; exact F.len _ _ _ _ h)) both h)
theorem run_words {pins : List (Addr × Obj)} {σ : L2.St} {H : Hp} {s : Shared} {Q : VK} {us ws : List Value} {vs zs : List V} (F : FnOk X.prog X.w X.K X.mg X.base CX k f fd ps sp) (hr : Room k X.A) (hb : KBinds X.K fd ps ks g gV) (I : Inv X pins σ H s) (out : ∀ e s', CX X.stack H s E e s' → X.xe e s')
    (r : Vals vs us) (rz : Vals zs ws) (h : sp (gV vs zs) H Q E) : wpAny (model X.prog X.w) X.A (call (.ref f) us (ks.zip ws)) (EP X pins σ Q) X.xe s := by
  have both := hb.rel r rz
  exact ran I out (F.run hr I.env0 (hb.to s us ws I.kIn (by rw [← both.length]; exact F.len _ _ _ _ h)) both h)
theorem pe_call (F : FnOk X.prog X.w X.K X.mg X.base CX k f fd ps sp) (hr : Room k X.A) (hg : Gl X x) (hm : X.mg x = some (.ref f)) (hk : PySem.W.keepIn X.K (.ref f) = true) (hb : Binds X.K fd ps ds) (hd : Vals dvs ds) (hx : Passes CX X E)
    (ha : PA X (e :: es) t) (hdb : (x == ("__debug__" : Str)) = false := by decide) (he : starEach (e :: es) X.env = (false, eval e X.env) :: starEach es X.env := by rfl) (hpl : (backTo pos (starEach es X.env)).any (·.1) = false := by rfl) :
    PE X (.Call (.Name x p) (e :: es) [] pos) (tCall sp dvs E t) := ⟨fun pins s σ H Q I h => wpAny_Call_Name_kw (ld_glob I hg hm
  (PySem.W.callWith_K (h₀ := X.base) I.ok.mod.kin hk (thn (ha.run pos pins s σ H _ I h) fun _ s1 ⟨_, _, I1, r, q⟩ => ⟨I1.kIn, run_plain F hr hb hd I1 (fun e s' c => hx pins σ _ s1 e s' I1 c) r q⟩) he hpl) hdb)⟩
theorem pe_callS (F : FnOk X.prog X.w X.K X.mg X.base CX k f fd ps sp) (hr : Room k X.A) (hg : Gl X x) (hm : X.mg x = some (.ref f)) (hk : PySem.W.keepIn X.K (.ref f) = true) (hb : Binds X.K fd ps []) (hx : ∀ σ, PassesAt CX X σ (Es σ))
    (ha : PA X (e :: es) t) (hdb : (x == ("__debug__" : Str)) = false := by decide) (he : starEach (e :: es) X.env = (false, eval e X.env) :: starEach es X.env := by rfl) (hpl : (backTo pos (starEach es X.env)).any (·.1) = false := by rfl) :
    PE X (.Call (.Name x p) (e :: es) [] pos) (tCallS sp Es t) := ⟨fun pins s σ H Q I h => wpAny_Call_Name_kw (ld_glob I hg hm
  (PySem.W.callWith_K (h₀ := X.base) I.ok.mod.kin hk (thn (ha.run pos pins s σ H _ I h) fun _ s1 ⟨_, _, I1, r, q⟩ => ⟨I1.kIn, run_plain (dvs := []) F hr hb .nil I1 (fun e s' c => hx σ pins _ s1 e s' I1 c) r (by rw [List.append_nil]; exact q)⟩) he hpl) hdb)⟩
end
end Dn
set_option Elab.async false
set_option linter.all false
set_option maxRecDepth 100000
namespace Dn
open PySem PySem.Spec PyProof.Rows L2
open PySem.W (Frag)
theorem sqT_mono {K : Frag} {H H' : Hp} {a : Addr} {xs : List V} (e : Same H H') (h : SqT K H a xs) : SqT K H' a xs := by
  rcases h with (h | ⟨o, h⟩) | h
  · exact .inl (.inl (e _ _ h))
  · exact .inl (.inr ⟨o, e _ _ h⟩)
  · exact .inr h
/-- tables of code objects that a def writes when it makes a lambda; where the error classes stand -/
class Tb where
  T : List (Addr × Str)
  ca : Str → Addr := fun _ => 0
  sl : Bool := true
  old : Addr → Prop := fun _ => False
/-- the object of a caught error at a -/
def excO (a C dd : Addr) : HO := .ext fun h => ∃ o vs, h.get? a = some o ∧ o.cls = .ref C ∧ o.dict = some dd ∧ o.data = .fields vs
/-- a caught error as data: no dict has the key None twice -/
abbrev encE (cl : Str) (d : PyData) : PyData := .dict [(.none, .str cl), (.none, d)]
/-- keys as data -/
def kD : Key → PyData
  | .inl i => .int i
  | .inr s => .str s
/-- data whose lists are plain ones at no place of `old` -/
inductive DpN (K : Frag) (old : Addr → Prop) (H : Hp) : V → PyData → Prop
  | non : DpN K old H .non .none
  | bl (b : Bool) : DpN K old H (.bl b) (.bool b)
  | int (i : Int) : DpN K old H (.int i) (.int i)
  | str (x : Str) : DpN K old H (.str x) (.str x)
  | lst {a : Addr} {xs : List V} {ds : List PyData} : H a = some (.lst xs) → ¬ old a → xs.length = ds.length → (∀ (i : Nat) (v : V) (d : PyData), xs[i]? = some v → ds[i]? = some d → DpN K old H v d) → DpN K old H (.ref a) (.list ds)
  | tup {a : Addr} {xs : List V} {ds : List PyData} : SqT K H a xs → xs.length = ds.length → (∀ (i : Nat) (v : V) (d : PyData), xs[i]? = some v → ds[i]? = some d → DpN K old H v d) → DpN K old H (.ref a) (.tuple ds)
theorem DpN.up {K : Frag} {old : Addr → Prop} {H H' : Hp} (e : Same H H') {v : V} {d : PyData} (h : DpN K old H v d) : DpN K old H' v d := by
  induction h with
  | non => exact .non
  | bl b => exact .bl b
  | int i => exact .int i
  | str x => exact .str x
  | lst h1 h2 h3 _ ih => exact .lst (e _ _ h1) h2 h3 ih
  | tup h1 h3 _ ih => exact .tup (sqT_mono e h1) h3 ih
/-- data marked as new -/
abbrev nwD (d : PyData) : PyData := .dict [(.none, .bool true), (.none, d)]
mutual
inductive Dp [Tb] (K : Frag) (H : Hp) : V → PyData → Prop
  | non : Dp K H .non .none
  | bl (b : Bool) : Dp K H (.bl b) (.bool b)
  | int (i : Int) : Dp K H (.int i) (.int i)
  | str (x : Str) : Dp K H (.str x) (.str x)
  | lst {a : Addr} {xs : List V} {ds : List PyData} (hs : SqL K H a xs) (ha : DpAll K H xs ds) (st : Tb.sl = false → H a = some (.lst xs) := by intro _; first | exact upd_same | assumption) : Dp K H (.ref a) (.list ds)
  | tup {a : Addr} {xs : List V} {ds : List PyData} : SqT K H a xs → DpAll K H xs ds → Dp K H (.ref a) (.tuple ds)
  | dct {a : Addr} {o : Obj} {ks : List (Key × V)} {kvs : List (PyData × PyData)} : H a = some (.frz o (.dK ks)) → DpKv K H ks kvs → Dp K H (.ref a) (.dict kvs)
  | exc {a dd : Addr} {v : V} {d : PyData} {cl : Str} : H a = some (excO a (Tb.ca cl) dd) → H dd = some (.xd [("value", v)]) → Dp K H v d → Dp K H (.ref a) (.dict [(.none, .str cl), (.none, d)])
  | rng {a : Addr} {lo hi : Int} : H a = some (.rng lo hi) → Dp K H (.ref a) (.dict [(.none, .int lo), (.none, .int hi)])
  | nw {a : Addr} {d : PyData} : DpN K Tb.old H (.ref a) d → Dp K H (.ref a) (.dict [(.none, .bool true), (.none, d)])
inductive DpAll [Tb] (K : Frag) (H : Hp) : List V → List PyData → Prop
  | nil : DpAll K H [] []
  | cons {v : V} {vs : List V} {d : PyData} {ds : List PyData} : Dp K H v d → DpAll K H vs ds → DpAll K H (v :: vs) (d :: ds)
inductive DpKv [Tb] (K : Frag) (H : Hp) : List (Key × V) → List (PyData × PyData) → Prop
  | nil : DpKv K H [] []
  | cons {k : Key} {v : V} {ks : List (Key × V)} {d : PyData} {kvs : List (PyData × PyData)} : Dp K H v d → DpKv K H ks kvs → DpKv K H ((k, v) :: ks) ((kD k, d) :: kvs)
end
section
variable [Tb]
theorem Dp.lstS {K : Frag} {H : Hp} {a : Addr} {xs : List V} {ds : List PyData} (h : H a = some (.lst xs)) (ha : DpAll K H xs ds) : Dp K H (.ref a) (.list ds) := .lst (SqL.of h) ha fun _ => h
mutual
theorem dpMono {K : Frag} {H H' : Hp} (e : Same H H') : ∀ {v : V} {d : PyData}, Dp K H v d → Dp K H' v d
  | _, _, .non => .non
  | _, _, .bl b => .bl b
  | _, _, .int i => .int i
  | _, _, .str x => .str x
  | _, _, .lst hs ha st => .lst (e.seq hs) (dpMonoAll e ha) (fun z => e _ _ (st z))
  | _, _, .tup hs ha => .tup (sqT_mono e hs) (dpMonoAll e ha)
  | _, _, .dct hs ha => .dct (e _ _ hs) (dpMonoKv e ha)
  | _, _, .exc h1 h2 h3 => .exc (e _ _ h1) (e _ _ h2) (dpMono e h3)
  | _, _, .rng h => .rng (e _ _ h)
  | _, _, .nw h => .nw (h.up e)
theorem dpMonoAll {K : Frag} {H H' : Hp} (e : Same H H') : ∀ {vs : List V} {ds : List PyData}, DpAll K H vs ds → DpAll K H' vs ds
  | _, _, .nil => .nil
  | _, _, .cons h1 h2 => .cons (dpMono e h1) (dpMonoAll e h2)
theorem dpMonoKv {K : Frag} {H H' : Hp} (e : Same H H') : ∀ {vs : List (Key × V)} {ds : List (PyData × PyData)}, DpKv K H vs ds → DpKv K H' vs ds
  | _, _, .nil => .nil
  | _, _, .cons h1 h2 => .cons (dpMono e h1) (dpMonoKv e h2)
end
mutual
/-- data without dicts and errors is the kit's data -/
theorem Dp.l2 {K : Frag} {H : Hp} : ∀ (d : PyData) {v : V}, d.canLay0 = true → Dp K H v d → L2.Dp K H v d
  | .none, _, _, h => by cases h; exact .non
  | .bool b, _, _, h => by cases h; exact .bl b
  | .int i, _, _, h => by cases h; exact .int i
  | .str x, _, _, h => by cases h; exact .str x
  | .list ds, _, hc, h => by
    cases h with
    | lst hs ha => exact .lst hs (DpAll.l2 ds (by simpa [PyData.canLay0] using hc) ha)
  | .tuple ds, _, hc, h => by
    cases h with
    | tup hs ha => exact .tup hs (DpAll.l2 ds (by simpa [PyData.canLay0] using hc) ha)
  | .dict _, _, hc, h => by simp [PyData.canLay0] at hc
theorem DpAll.l2 {K : Frag} {H : Hp} : ∀ (ds : List PyData) {vs : List V}, PyData.canLayAll0 ds = true → DpAll K H vs ds → L2.DpAll K H vs ds
  | [], _, _, h => by cases h; exact .nil
  | d :: ds, _, hc, h => by
    have hc' : d.canLay0 = true ∧ PyData.canLayAll0 ds = true := by simpa [PyData.canLayAll0] using hc
    cases h with
    | cons h1 h2 => exact .cons (Dp.l2 d hc'.1 h1) (DpAll.l2 ds hc'.2 h2)
end
theorem Dp.sh {K : Frag} {H : Hp} {d : PyData} {v : V} (h : Dp K H v d) (hs : SeqAt.shaped d = true) : L2.Dp K H v d := h.l2 d (SeqAt.canLay_of_shaped hs)
theorem Dp.up {K : Frag} {H H' : Hp} {v : V} {d : PyData} (h : Dp K H v d) (e : Same H H') : Dp K H' v d := dpMono e h
theorem DpAll.up {K : Frag} {H H' : Hp} {vs : List V} {ds : List PyData} (h : DpAll K H vs ds) (e : Same H H') : DpAll K H' vs ds := dpMonoAll e h
theorem DpAll.len {K : Frag} {H : Hp} : ∀ {vs : List V} {ds : List PyData}, DpAll K H vs ds → vs.length = ds.length
  | [], ds, h => by cases h; rfl
  | v :: vs, ds, h => by
    cases h with
    | cons _ h2 => simp only [List.length_cons, DpAll.len h2]
theorem DpAll.at {K : Frag} {H : Hp} : ∀ {vs : List V} {ds : List PyData} {i : Nat} {d : PyData}, DpAll K H vs ds → ds[i]? = some d → ∃ v, vs[i]? = some v ∧ Dp K H v d
  | [], ds, i, d, h, e => by cases h; simp at e
  | v :: vs, ds, 0, d, h, e => by
    cases h with
    | cons h1 h2 => simp at e; subst e; exact ⟨v, rfl, h1⟩
  | v :: vs, ds, i + 1, d, h, e => by
    cases h with
    | cons h1 h2 =>
      simp at e
      obtain ⟨u, h3, h4⟩ := DpAll.at h2 e
      exact ⟨u, by simpa using h3, h4⟩
theorem DpAll.at' {K : Frag} {H : Hp} {vs : List V} {ds : List PyData} {i : Nat} {v : V} (h : DpAll K H vs ds) (e : vs[i]? = some v) : ∃ d, ds[i]? = some d ∧ Dp K H v d := by
  have hl := h.len
  have hi : i < vs.length := (List.getElem?_eq_some_iff.mp e).1
  have hd : ds[i]? = some (ds[i]'(by omega)) := List.getElem?_eq_getElem _
  obtain ⟨u, h1, h2⟩ := h.at hd
  rw [e] at h1
  cases h1
  exact ⟨_, hd, h2⟩
theorem DpAll.app {K : Frag} {H : Hp} : ∀ {vs ws : List V} {ds es : List PyData}, DpAll K H vs ds → DpAll K H ws es → DpAll K H (vs ++ ws) (ds ++ es)
  | [], ws, ds, es, h, h' => by cases h; exact h'
  | v :: vs, ws, ds, es, h, h' => by
    cases h with
    | cons h1 h2 => exact .cons h1 (DpAll.app h2 h')
theorem DpAll.set {K : Frag} {H : Hp} {v : V} {d : PyData} (hv : Dp K H v d) : ∀ {vs : List V} {ds : List PyData} (i : Nat), DpAll K H vs ds → DpAll K H (vs.set i v) (ds.set i d)
  | [], ds, i, h => by cases h; exact .nil
  | u :: vs, ds, 0, h => by
    cases h with
    | cons h1 h2 => exact .cons hv h2
  | u :: vs, ds, i + 1, h => by
    cases h with
    | cons h1 h2 => exact .cons h1 (DpAll.set hv i h2)
theorem DpAll.take {K : Frag} {H : Hp} : ∀ {vs : List V} {ds : List PyData} (n : Nat), DpAll K H vs ds → DpAll K H (vs.take n) (ds.take n)
  | [], ds, n, h => by cases h; simp; exact .nil
  | u :: vs, ds, 0, h => by simp; exact .nil
  | u :: vs, ds, n + 1, h => by
    cases h with
    | cons h1 h2 => exact .cons h1 (DpAll.take n h2)
theorem DpAll.drop {K : Frag} {H : Hp} : ∀ {vs : List V} {ds : List PyData} (n : Nat), DpAll K H vs ds → DpAll K H (vs.drop n) (ds.drop n)
  | vs, ds, 0, h => by simpa using h
  | [], ds, n + 1, h => by cases h; simp; exact .nil
  | u :: vs, ds, n + 1, h => by
    cases h with
    | cons h1 h2 => simpa using DpAll.drop n h2
theorem DpAll.of_ints {K : Frag} {H : Hp} : ∀ (ns : List Int), DpAll K H (ns.map V.int) (ns.map .int)
  | [] => .nil
  | n :: ns => .cons (.int n) (DpAll.of_ints ns)
end
inductive Sl where
  | no
  | val (d : PyData)
  | own (p : Bool) (ds : List PyData)
abbrev En := List Sl
/-- fixed through a def's body: the heap at its entry, what its data may lean on there, what must stay, the parameters' values -/
structure C3 where
  H0 : Hp
  F0 : Hp
  G : Hp
  pv : List V
def Hold (c : C3) (i : Nat) (p : Bool) (a : Addr) : Prop := if p = true then c.pv[i]? = some (.ref a) else c.H0 a = none
def NT (o : HO) : Prop := ∀ ps, o ≠ .tbl ps
def NoT (F : Hp) : Prop := ∀ b ps, F b ≠ some (.tbl ps)
theorem NT.lst {xs : List V} : NT (.lst xs) := fun _ h => by cases h
theorem NT.tup {xs : List V} : NT (.tup xs) := fun _ h => by cases h
theorem NoT.upd {F : Hp} {p : Addr} {o : HO} (h : NoT F) (ho : NT o) : NoT (upd F p o) := fun b ps e => by
  by_cases hb : b = p
  · subst hb
    rw [upd_same] at e
    exact ho ps (Option.some.inj e)
  · rw [upd_ne hb] at e
    exact h b ps e
theorem tabs_grow {T : List (Addr × Str)} {H : Hp} {p : Addr} {o : HO} (h : LamX.Tabs T H) (hp : H p = none) : LamX.Tabs T (upd H p o) := h.ext fun b u e => by rw [upd_ne (ne_of_none e hp)]; exact e
theorem tabs_but {T : List (Addr × Str)} {H H' : Hp} {a : Addr} {xs : List V} (h : LamX.Tabs T H) (ha : H a = some (.lst xs)) (k : ∀ b, b ≠ a → H' b = H b) : LamX.Tabs T H' := fun p hp => by
  obtain ⟨ps, h1, h2, h3⟩ := h p hp
  have ne : ∀ {b : Addr} {o : HO}, H b = some o → (∀ xs, o ≠ .lst xs) → H' b = some o := fun {b o} e n => by
    rw [k b (fun z => by subst z; rw [ha] at e; cases e; exact n _ rfl)]
    exact e
  refine ⟨ps, ne h1 (fun _ z => by cases z), h2, fun pos cv hc => ?_⟩
  obtain ⟨c, e1, e2⟩ := h3 pos cv hc
  exact ⟨c, e1, ne e2 fun _ z => by unfold LamX.CodeO at z; cases z⟩
theorem tabs_wr {T : List (Addr × Str)} {H : Hp} {a : Addr} {xs : List V} {o : HO} (h : LamX.Tabs T H) (ha : H a = some (.lst xs)) : LamX.Tabs T (upd H a o) := tabs_but h ha fun _ hb => upd_ne hb
/-- a heap without its tables -/
def noT (H : Hp) : Hp := fun b => match H b with
  | some (.tbl _) => none
  | o => o
theorem noT_of {H : Hp} {b : Addr} {o : HO} (e : H b = some o) (n : NT o) : noT H b = some o := by
  unfold noT
  rw [e]
  cases o with
  | tbl ps => exact absurd rfl (n ps)
  | _ => rfl
theorem noT_get {H : Hp} {b : Addr} {o : HO} (e : noT H b = some o) : H b = some o ∧ NT o := by
  unfold noT at e
  split at e
  · cases e
  · rename_i x
    refine ⟨e, fun ps z => ?_⟩
    subst z
    exact x _ e
theorem noT_sub {H : Hp} : Same (noT H) H := fun _ _ e => (noT_get e).1
theorem noT_no {H : Hp} : NoT (noT H) := fun _ ps e => (noT_get e).2 ps rfl
structure Bs [Tb] (F H : Hp) : Prop where
  sub : Same F H
  nf : NoT F
  tab : LamX.Tabs Tb.T H
structure Kp (H H' : Hp) : Prop where
  keep : ∀ b o, NT o → H b = some o → H' b = some o
  dom : ∀ b, H b ≠ none → H' b ≠ none
structure KpM (a : Addr) (H H' : Hp) : Prop where
  keep : ∀ b o, NT o → b ≠ a → H b = some o → H' b = some o
  dom : ∀ b, H b ≠ none → H' b ≠ none
theorem Kp.of {H H' : Hp} (h : Same H H') : Kp H H' := ⟨fun b o _ e => h b o e, fun b hb => by
  cases e : H b with
  | none => exact absurd e hb
  | some o => rw [h b o e]; simp⟩
theorem Kp.trans {H H1 H2 : Hp} (a : Kp H H1) (b : Kp H1 H2) : Kp H H2 := ⟨fun x o n e => b.keep x o n (a.keep x o n e), fun x h => b.dom x (a.dom x h)⟩
variable [Tb]
structure Rl (K : Frag) (c : C3) (F : Hp) (σ : L2.St) (H : Hp) (env : En) : Prop where
  sub : Same F H
  f0 : Same c.F0 F
  gd : Same c.G H
  g0 : Same c.G c.H0
  new : ∀ a, F a ≠ none → c.F0 a ≠ none ∨ c.H0 a = none
  dom : ∀ a, c.H0 a ≠ none → H a ≠ none
  len : env.length = σ.length
  val : ∀ (i : Nat) (d : PyData), env[i]? = some (.val d) → ∃ v, σ[i]? = some (some v) ∧ Dp K F v d
  own : ∀ (i : Nat) (p : Bool) (ds : List PyData), env[i]? = some (.own p ds) → ∃ (a : Addr) (xs : List V), σ[i]? = some (some (.ref a)) ∧ F a = none ∧ H a = some (.lst xs) ∧ DpAll K F xs ds ∧ c.G a = none ∧ Hold c i p a ∧
    ∀ (j : Nat) (q : Bool) (es : List PyData), j ≠ i → env[j]? = some (.own q es) → σ[j]? ≠ some (some (.ref a))
  tab : LamX.Tabs Tb.T H
  nf : NoT F
  ng : NoT c.G
theorem Rl.base {K : Frag} {c : C3} {F H : Hp} {σ : L2.St} {env : En} (R : Rl K c F σ H env) : Bs F H := ⟨R.sub, R.nf, R.tab⟩
section
variable {K : Frag} {c : C3} {F F' H H' : Hp} {σ : L2.St} {env env' : En}
/-- the heap grows by one new object, which data may lean on -/
theorem Rl.laid {p : Addr} {o : HO} (R : Rl K c F σ H env) (hp : H p = none) (ho : NT o := by intro _ h; cases h) : Same F (upd F p o) ∧ Rl K c (upd F p o) σ (upd H p o) env := by
  have hF : F p = none := R.sub.free hp
  have hH0 : c.H0 p = none := by
    cases e : c.H0 p with
    | none => rfl
    | some u => exact absurd hp (R.dom p (by rw [e]; simp))
  have sF : Same F (upd F p o) := fun b u e => by rw [upd_ne (ne_of_none e hF)]; exact e
  refine ⟨sF, ⟨fun b u e => ?_, R.f0.trans sF, fun b u e => ?_, R.g0, fun a h => ?_, fun a h => ?_, R.len, fun i d h => ?_, fun i q ds h => ?_, tabs_grow R.tab hp, R.nf.upd ho, R.ng⟩⟩
  · by_cases hb : b = p
    · subst hb; rw [upd_same] at e ⊢; exact e
    · rw [upd_ne hb] at e ⊢; exact R.sub b u e
  · have := R.gd b u e
    rw [upd_ne (ne_of_none this hp)]; exact this
  · by_cases hb : a = p
    · subst hb; exact .inr hH0
    · rw [upd_ne hb] at h; exact R.new a h
  · by_cases hb : a = p
    · subst hb; rw [upd_same]; simp
    · rw [upd_ne hb]; exact R.dom a h
  · obtain ⟨v, e1, e2⟩ := R.val i d h
    exact ⟨v, e1, e2.up sF⟩
  · obtain ⟨a, xs, e1, e2, e3, e4, e5, e6, e7⟩ := R.own i q ds h
    have ne : a ≠ p := ne_of_none e3 hp
    exact ⟨a, xs, e1, by rw [upd_ne ne]; exact e2, by rw [upd_ne ne]; exact e3, e4.up sF, e5, e6, e7⟩
/-- the heap grows by one new object that nothing leans on yet -/
theorem Rl.grow {p : Addr} {o : HO} (R : Rl K c F σ H env) (hp : H p = none) : Rl K c F σ (upd H p o) env := by
  refine ⟨fun b u e => ?_, R.f0, fun b u e => ?_, R.g0, R.new, fun a h => ?_, R.len, R.val, fun i q ds h => ?_, tabs_grow R.tab hp, R.nf, R.ng⟩
  · have := R.sub b u e
    rw [upd_ne (ne_of_none this hp)]; exact this
  · have := R.gd b u e
    rw [upd_ne (ne_of_none this hp)]; exact this
  · by_cases hb : a = p
    · subst hb; rw [upd_same]; simp
    · rw [upd_ne hb]; exact R.dom a h
  · obtain ⟨a, xs, e1, e2, e3, e4, e5, e6, e7⟩ := R.own i q ds h
    have ne : a ≠ p := ne_of_none e3 hp
    exact ⟨a, xs, e1, e2, by rw [upd_ne ne]; exact e3, e4, e5, e6, e7⟩
theorem Rl.h0 {p : Addr} (R : Rl K c F σ H env) (hp : H p = none) : c.H0 p = none := by
  cases e : c.H0 p with
  | none => rfl
  | some u => exact absurd hp (R.dom p (by rw [e]; simp))
theorem Rl.gn {p : Addr} (R : Rl K c F σ H env) (hp : H p = none) : c.G p = none := R.gd.free hp
end
abbrev Fe := En → Option (PyData × En)
abbrev Ft := En → Option (Bool × En)
abbrev Fl := En → Option (List PyData × En)
def Ge (K : Frag) (f : Fe) : TE := fun σ H Q => ∃ c F env d env', Rl K c F σ H env ∧ f env = some (d, env') ∧ ∀ v F' H', Same F F' → Rl K c F' σ H' env' → Dp K F' v d → Q v H'
def Gt (K : Frag) (f : Ft) : TT := fun σ H Q => ∃ c F env b env', Rl K c F σ H env ∧ f env = some (b, env') ∧ ∀ F' H', Same F F' → Rl K c F' σ H' env' → Q b H'
/-- a list that is new, and that nothing leans on -/
def Gf (K : Frag) (f : Fl) : TE := fun σ H Q => ∃ c F env ds env', Rl K c F σ H env ∧ f env = some (ds, env') ∧ ∀ p xs F' H', Same F F' → H' p = none → Rl K c F' σ H' env' → DpAll K F' xs ds → Q (.ref p) (upd H' p (.lst xs))
/-- arguments, from the left -/
def Ga (K : Frag) (f : Fl) : TA := fun σ H Q => ∃ c F env ds env', Rl K c F σ H env ∧ f env = some (ds, env') ∧ ∀ vs F' H', Same F F' → Rl K c F' σ H' env' → DpAll K F' vs ds → Q vs H'
theorem _root_.L2.PE.imp {X : Cx} {e : Expr} {t u : TE} (h : PE X e t) (w : ∀ σ H Q, u σ H Q → t σ H Q) : PE X e u := ⟨fun pins s σ H Q I q => h.run pins s σ H Q I (w σ H Q q)⟩
theorem _root_.L2.PT.imp {X : Cx} {e : Expr} {t u : TT} (h : PT X e t) (w : ∀ σ H Q, u σ H Q → t σ H Q) : PT X e u := ⟨fun pins s σ H Q I q => h.run pins s σ H Q I (w σ H Q q)⟩
theorem _root_.L2.PW.imp {X : Cx} {e : Expr} {t u : TT} (h : PW X e t) (w : ∀ σ H Q, u σ H Q → t σ H Q) : PW X e u := ⟨fun wh pins s σ H Q I q => h.run wh pins s σ H Q I (w σ H Q q)⟩
theorem _root_.L2.PA.imp {X : Cx} {es : List Expr} {t u : TA} (h : PA X es t) (w : ∀ σ H Q, u σ H Q → t σ H Q) : PA X es u := ⟨fun pos pins s σ H Q I q => h.run pos pins s σ H Q I (w σ H Q q)⟩
theorem _root_.L2.PS.imp {X : Cx} {e : Stmt} {t u : TS} (h : PS X e t) (w : ∀ D σ H, u D σ H → t D σ H) : PS X e u := ⟨fun pins s σ H D I q => h.run pins s σ H D I (w D σ H q)⟩
theorem _root_.L2.PSs.imp {X : Cx} {e : List Stmt} {t u : TS} (h : PSs X e t) (w : ∀ D σ H, u D σ H → t D σ H) : PSs X e u := ⟨fun pins s σ H D I q => h.run pins s σ H D I (w D σ H q)⟩
theorem _root_.L2.PI.imp {X : Cx} {tg it : Expr} {t u : TI} (h : PI X tg it t) (w : ∀ σ H R, u σ H R → t σ H R) : PI X tg it u := ⟨fun pins s σ H R I q => h.run pins s σ H R I (w σ H R q)⟩
theorem _root_.L2.PG.imp {X : Cx} {tg : Expr} {t u : TG} (h : PG X tg t) (w : ∀ v σ H Q, u v σ H Q → t v σ H Q) : PG X tg u := ⟨fun pins s σ H v v' Q I r q => h.run pins s σ H v v' Q I r (w v σ H Q q)⟩
theorem _root_.L2.PTs.imp {X : Cx} {es : List Expr} {t u : TT} (h : PTs X es t) (w : ∀ σ H Q, u σ H Q → t σ H Q) : PTs X es u := ⟨fun pins s σ H Q I q => h.run pins s σ H Q I (w σ H Q q)⟩
/-- run one, then go on -/
theorem Ge.go {K : Frag} {f : Fe} {σ : L2.St} {H : Hp} {Q : VK} {c : C3} {F : Hp} {env env' : En} {d : PyData} (R : Rl K c F σ H env) (e : f env = some (d, env')) (k : ∀ v F' H', Same F F' → Rl K c F' σ H' env' → Dp K F' v d → Q v H') : Ge K f σ H Q := ⟨c, F, env, d, env', R, e, k⟩
def eC (d : PyData) : Fe := fun env => some (d, env)
def eV (i : Nat) : Fe := fun env => match env[i]? with
  | some (.val d) => some (d, env)
  | _ => none
/-- the contents of a list that this def owns, as data: read at once -/
def e1 (g : PyData → Option PyData) (a : Fe) : Fe := fun env => (a env).bind fun p => (g p.1).map fun z => (z, p.2)
def e2 (g : PyData → PyData → Option PyData) (a b : Fe) : Fe := fun env => (a env).bind fun p => (b p.2).bind fun q => (g p.1 q.1).map fun z => (z, q.2)
def eA (g : List PyData → Option PyData) (a : Fl) : Fe := fun env => (a env).bind fun p => (g p.1).map fun z => (z, p.2)
def lNil : Fl := fun env => some ([], env)
def lCons (a : Fe) (b : Fl) : Fl := fun env => (a env).bind fun p => (b p.2).map fun q => (p.1 :: q.1, q.2)
section
variable {X : Cx} {a b e : Expr} {es : List Expr} {fa fb f : Fe} {pos : Pos}
theorem de_c {d : PyData} {v : V} (h : PE X e (tC v)) (hv : ∀ F, Dp X.K F v d) : PE X e (Ge X.K (eC d)) := h.imp fun σ H Q ⟨c, F, env, d', env', R, e, k⟩ => by
  cases e
  exact k v F H (Same.refl F) R (hv F)
theorem de_int {i j} : PE X (.Constant (.int i) j pos) (Ge X.K (eC (.int i))) := de_c pe_int fun _ => .int i
theorem de_bl {b j} : PE X (.Constant (.bool b) j pos) (Ge X.K (eC (.bool b))) := de_c pe_bl fun _ => .bl b
theorem de_non {j} : PE X (.Constant .none j pos) (Ge X.K (eC .none)) := de_c pe_non fun _ => .non
theorem de_str {x j} : PE X (.Constant (.str x) j pos) (Ge X.K (eC (.str x))) := de_c pe_str fun _ => .str x
theorem de_v (i : Nat) {x : Str} (hN : X.N[i]? = some x := by rfl) (hv : Vis X.env.scope x := by first | exact Or.inl rfl | exact Or.inr (Or.inl rfl) | exact Or.inr (Or.inr rfl)) (hd : (x == ("__debug__" : Str)) = false := by decide)
    (hcd : (x == ("__classdict__" : Str)) = false := by decide) : PE X (.Name x pos) (Ge X.K (eV i)) := (pe_var hN hv hd hcd).imp fun σ H Q ⟨c, F, env, d, env', R, e, k⟩ => by
  unfold eV at e
  split at e
  · rename_i d' h
    cases e
    obtain ⟨v, e1, e2⟩ := R.val i _ h
    exact ⟨v, e1, k v F H (Same.refl F) R e2⟩
  · cases e
/-- an operation by values: it leaves the heap, or lays one new object -/
def Op1 (K : Frag) (r : V → Hp → VK → Prop) (g : PyData → Option PyData) : Prop := ∀ c F σ H env x d z (Q : VK), Rl K c F σ H env → Dp K F x d → g d = some z → (∀ v F' H', Same F F' → Rl K c F' σ H' env → Dp K F' v z → Q v H') → r x H Q
def Op2 (K : Frag) (r : R2) (g : PyData → PyData → Option PyData) : Prop := ∀ c F σ H env x y d e z (Q : VK), Rl K c F σ H env → Dp K F x d → Dp K F y e → g d e = some z → (∀ v F' H', Same F F' → Rl K c F' σ H' env → Dp K F' v z → Q v H') → r x y H Q
def OpA (K : Frag) (r : List V → Hp → VK → Prop) (g : List PyData → Option PyData) : Prop := ∀ c F σ H env xs ds z (Q : VK), Rl K c F σ H env → DpAll K F xs ds → g ds = some z → (∀ v F' H', Same F F' → Rl K c F' σ H' env → Dp K F' v z → Q v H') → r xs H Q
theorem go2 {K : Frag} {r : R2} {g : PyData → PyData → Option PyData} (o : Op2 K r g) {σ : L2.St} {H : Hp} {Q : VK} (h : Ge K (e2 g fa fb) σ H Q) : tOp r (Ge K fa) (Ge K fb) σ H Q := by
  obtain ⟨c, F, env, d, env', R, e, k⟩ := h
  unfold e2 at e
  simp only [Option.bind_eq_some_iff, Option.map_eq_some_iff] at e
  obtain ⟨⟨d1, n1⟩, h1, ⟨d2, n2⟩, h2, z, h3, h4⟩ := e
  obtain ⟨rfl, rfl⟩ := Prod.mk.inj h4
  refine ⟨c, F, env, d1, n1, R, h1, fun v1 F1 H1 s1 R1 p1 => ⟨c, F1, n1, d2, n2, R1, h2, fun v2 F2 H2 s2 R2 p2 => ?_⟩⟩
  exact o c F2 σ H2 n2 v1 v2 d1 d2 z Q R2 (p1.up s2) p2 h3 fun v F3 H3 s3 R3 p3 => k v F3 H3 ((s1.trans s2).trans s3) R3 p3
theorem go1 {K : Frag} {r : V → Hp → VK → Prop} {g : PyData → Option PyData} (o : Op1 K r g) {σ : L2.St} {H : Hp} {Q : VK} (h : Ge K (e1 g fa) σ H Q) : tUn r (Ge K fa) σ H Q := by
  obtain ⟨c, F, env, d, env', R, e, k⟩ := h
  unfold e1 at e
  simp only [Option.bind_eq_some_iff, Option.map_eq_some_iff] at e
  obtain ⟨⟨d1, n1⟩, h1, z, h3, h4⟩ := e
  obtain ⟨rfl, rfl⟩ := Prod.mk.inj h4
  refine ⟨c, F, env, d1, n1, R, h1, fun v1 F1 H1 s1 R1 p1 => ?_⟩
  exact o c F1 σ H1 n1 v1 d1 z Q R1 p1 h3 fun v F3 H3 s3 R3 p3 => k v F3 H3 (s1.trans s3) R3 p3
theorem goA {K : Frag} {r : List V → Hp → VK → Prop} {g : List PyData → Option PyData} {fl : Fl} (o : OpA K r g) {σ : L2.St} {H : Hp} {Q : VK} (h : Ge K (eA g fl) σ H Q) : tCB r (Ga K fl) σ H Q := by
  obtain ⟨c, F, env, d, env', R, e, k⟩ := h
  unfold eA at e
  simp only [Option.bind_eq_some_iff, Option.map_eq_some_iff] at e
  obtain ⟨⟨d1, n1⟩, h1, z, h3, h4⟩ := e
  obtain ⟨rfl, rfl⟩ := Prod.mk.inj h4
  refine ⟨c, F, env, d1, n1, R, h1, fun v1 F1 H1 s1 R1 p1 => ?_⟩
  exact o c F1 σ H1 n1 v1 d1 z Q R1 p1 h3 fun v F3 H3 s3 R3 p3 => k v F3 H3 (s1.trans s3) R3 p3
theorem da_nil : PA X [] (Ga X.K lNil) := pa_nil.imp fun σ H Q ⟨c, F, env, d, env', R, e, k⟩ => by
  cases e
  exact k [] F H (Same.refl F) R .nil
theorem da_cons {fl : Fl} (ha : PE X e (Ge X.K f)) (hr : PA X es (Ga X.K fl)) (hs : starEach (e :: es) X.env = (false, eval e X.env) :: starEach es X.env := by rfl) : PA X (e :: es) (Ga X.K (lCons f fl)) := (pa_cons ha hr hs).imp fun σ H Q h => by
  obtain ⟨c, F, env, d, env', R, e, k⟩ := h
  unfold lCons at e
  simp only [Option.bind_eq_some_iff, Option.map_eq_some_iff] at e
  obtain ⟨⟨d1, n1⟩, h1, ⟨d2, n2⟩, h2, h4⟩ := e
  obtain ⟨rfl, rfl⟩ := Prod.mk.inj h4
  refine ⟨c, F, env, d1, n1, R, h1, fun v1 F1 H1 s1 R1 p1 => ⟨c, F1, n1, d2, n2, R1, h2, fun v2 F2 H2 s2 R2 p2 => ?_⟩⟩
  exact k (v1 :: v2) F2 H2 (s1.trans s2) R2 (.cons (p1.up s2) p2)
theorem de_op {op : Operator} {r : R2} {g : PyData → PyData → Option PyData} (ho : OpR X (binaryOp op) r) (o : Op2 X.K r g) (ha : PE X a (Ge X.K fa)) (hb : PE X b (Ge X.K fb)) : PE X (.BinOp a op b pos) (Ge X.K (e2 g fa fb)) := (pe_op ho ha hb).imp fun _ _ _ h => go2 o h
theorem de_un {op : UnaryOp} {r : V → Hp → VK → Prop} {g : PyData → Option PyData} (ho : UnR X (unaryOp op) r) (o : Op1 X.K r g) (ha : PE X a (Ge X.K fa)) : PE X (.UnaryOp op a pos) (Ge X.K (e1 g fa)) := (pe_un ho ha).imp fun _ _ _ h => go1 o h
theorem de_cmp {op : CmpOp} {r : R2} {g : PyData → PyData → Option PyData} (ho : OpR X (compareOp op) r) (o : Op2 X.K r g) (ha : PE X a (Ge X.K fa)) (hb : PE X b (Ge X.K fb)) (hm : behindInMarks op b = false) : PE X (.Compare a [op] [b] pos) (Ge X.K (e2 g fa fb)) :=
  (pe_cmpR ho ha hb hm).imp fun _ _ _ h => go2 o h
theorem de_ix {r : R2} {g : PyData → PyData → Option PyData} (hr : IxR X r) (o : Op2 X.K r g) (ha : PE X a (Ge X.K fa)) (hb : PE X b (Ge X.K fb)) (hs : PlainIx b) : PE X (.Subscript a b pos) (Ge X.K (e2 g fa fb)) := (pe_ix hr ha hb hs).imp fun _ _ _ h => go2 o h
end
section
variable {K : Frag}
@[simp] def gI (f : Int → Int → PyData) (C : Int → Int → Bool) : PyData → PyData → Option PyData
  | .int i, .int j => if C i j then some (f i j) else none
  | _, _ => none
end
end Dn
set_option Elab.async false
set_option linter.all false
set_option maxRecDepth 100000
namespace Dn
open PySem PySem.Spec PyProof.Rows L2
open PySem.W (Frag)
variable [Tb]
/-- a rule of either of two -/
theorem OpR.or {X : Cx} {f : Value → Value → Sem Value} {r r' : R2} (h : OpR X f r) (h' : OpR X f r') : OpR X f (fun x y H Q => r x y H Q ∨ r' x y H Q) := by
  intro pins s σ H x y v u Q I rx ry q
  rcases q with q | q
  · exact h pins s σ H x y v u Q I rx ry q
  · exact h' pins s σ H x y v u Q I rx ry q
theorem CallR.or {X : Cx} {f : Value} {r r' : List V → Hp → VK → Prop} (h : CallR X f r) (h' : CallR X f r') : CallR X f (fun x H Q => r x H Q ∨ r' x H Q) := by
  intro pins s σ H x u Q I rx q
  rcases q with q | q
  · exact h pins s σ H x u Q I rx q
  · exact h' pins s σ H x u Q I rx q
/-- sizes of lists that a denotation lets by -/
def okN (n : Nat) : Bool := decide (n ≤ 1000000)
theorem okN_line {n : Nat} (h : okN n = true) : n ≤ sizeLine := Nat.le_trans (of_decide_eq_true h) (by decide)
theorem okN_lt {n : Nat} (h : okN n = true) : n < sizeLine := Nat.lt_of_le_of_lt (of_decide_eq_true h) (by decide)
theorem okN_of {n : Nat} (h : n ≤ 1000000) : okN n = true := decide_eq_true h
section
variable {X : Cx} {K : Frag}
def rCatG (K : Frag) : R2 := fun x y H Q => ∃ l b xs zs, x = .ref l ∧ y = .ref b ∧ SqL K H l xs ∧ SqL K H b zs ∧ xs.length + zs.length ≤ sizeLine ∧ ∀ p, H p = none → Q (.ref p) (upd H p (.lst (xs ++ zs)))
theorem op_catG : OpR X (binaryOp .Add) (rCatG X.K) := by
  intro pins s σ H x y v u Q I rx ry h
  obtain ⟨l, b, xs, zs, rfl, rfl, hH, hB, hz, q⟩ := h
  cases rx
  cases ry
  obtain ⟨its, r, ⟨⟨cls, dd, data, sl⟩, n, ho, hc, _, hd⟩, z1⟩ := I.list hH
  obtain ⟨its2, r2, ⟨⟨cls2, dd2, data2, sl2⟩, n2, ho2, hc2, _, hd2⟩, z2⟩ := I.list hB
  simp only at hc hd hc2 hd2
  subst hc hd hc2 hd2
  have l1 := r.length
  have l2 := r2.length
  have e : its.toArray ++ its2.toArray = (its ++ its2).toArray := by simp
  refine PySem.concat_meets ⟨_, ho, rfl⟩ ⟨_, ho2, rfl⟩ noFill_list_add seq_list_add PySem.F.slot_list_add PySem.F.entry_list_add (PySem.F.args_list_add_2 _ _) (list_addW l b its.toArray its2.toArray n n2 dd dd2 sl sl2 (by rw [List.size_toArray, List.size_toArray]; omega)) ⟨ho, ho2, ?_⟩
  rw [e]
  exact ⟨.ref _, _, I.lnew (t' := s.toks) (r.append r2) (by rw [List.length_append]; omega), rfl, q _ I.fresh⟩
def mulOk (i j : Int) : Bool := decide (i.natAbs.log2 + j.natAbs.log2 < 134000000)
theorem mulOk_ok {i j : Int} (h : mulOk i j = true) : IntMulOk i j := by
  have b : ∀ x : Int, Builtin.Int.intBits x ≤ x.natAbs.log2 + 1 := fun x => by
    unfold Builtin.Int.intBits
    split <;> omega
  have h1 := b i
  have h2 := b j
  have h3 : i.natAbs.log2 + j.natAbs.log2 < 134000000 := of_decide_eq_true h
  have e : bitsLine = 134217728 := by decide
  unfold IntMulOk
  intro z
  rw [Bool.and_eq_true] at z
  have z2 := z.2
  unfold Builtin.Int.intTooBig at z2
  have z3 := of_decide_eq_true z2
  rw [e] at z3
  omega
theorem op_mulG : OpR X (binaryOp .Mult) (rI (fun i j => mulOk i j = true) fun i j => .int (i * j)) := opI fun _ _ _ _ _ _ _ hc q => mul_int q (mulOk_ok hc)
def divOk (j : Int) : Bool := decide (j ≠ 0) && decide (j.natAbs.log2 < 9000)
/-- not far longer than the divisor (classical: never computed) -/
noncomputable def divNear (i j : Int) : Bool := @decide (j ≠ 0 ∧ i.natAbs.log2 < j.natAbs.log2 + 4400) (Classical.propDecidable _)
theorem noPy_near {x y : Int} (h0 : y ≠ 0) (h : x.natAbs.log2 < y.natAbs.log2 + 4400) : Builtin.divisionGoesByPylong x y = false := by
  have key : (if x == 0 then 0 else x.natAbs.log2 / 30 + 1) ≤ (if y == 0 then 0 else y.natAbs.log2 / 30 + 1) + 150 := by
    have e1 : (y == 0) = false := by simpa using h0
    rw [e1]
    by_cases hx : (x == 0) = true
    · rw [if_pos hx]; omega
    · rw [if_neg hx]
      show _ ≤ y.natAbs.log2 / 30 + 1 + 150
      omega
  show (_ && decide ((if x == 0 then 0 else x.natAbs.log2 / 30 + 1) > (if y == 0 then 0 else y.natAbs.log2 / 30 + 1) + 150)) = false
  rw [decide_eq_false (Nat.not_lt.mpr key), Bool.and_false]
theorem op_fdivG : OpR X (binaryOp .FloorDiv) (rI (fun i j => (divOk j || divNear i j) = true) fun i j => .int (i.fdiv j)) := opI fun i j _ _ _ _ _ hc q => by
  rw [Bool.or_eq_true] at hc
  rcases hc with hc | hc
  · unfold divOk at hc
    rw [Bool.and_eq_true] at hc
    exact floordiv_int (of_decide_eq_true hc.1) q (.inl (PyProof.noPylong_of_log2 (of_decide_eq_true hc.2)))
  · have hc' := @of_decide_eq_true _ (Classical.propDecidable _) hc
    exact floordiv_int hc'.1 q (.inl (noPy_near hc'.1 hc'.2))
/-- (in Nat: the kernel must not take a large literal apart) -/
def powOk (i n : Int) : Bool := decide (0 ≤ n) && decide ((i.natAbs.log2 + 1) * n.toNat ≤ 100000000)
theorem op_powG : OpR X (binaryOp .Pow) (rI (fun i n => powOk i n = true) fun i n => .int (i ^ n.toNat)) := opI fun i n _ _ _ _ _ hc q => by
  unfold powOk at hc
  rw [Bool.and_eq_true] at hc
  have h0 : 0 ≤ n := of_decide_eq_true hc.1
  have h1 : ((i.natAbs.log2 : Int) + 1) * n ≤ 100000000 := by
    have h2 : (i.natAbs.log2 + 1) * n.toNat ≤ 100000000 := of_decide_eq_true hc.2
    have h3 : (((i.natAbs.log2 + 1) * n.toNat : Nat) : Int) ≤ 100000000 := by omega
    rw [Int.natCast_mul, Int.toNat_of_nonneg h0] at h3
    exact h3
  have b : (Builtin.Int.intBits i : Int) ≤ (i.natAbs.log2 : Int) + 1 := by
    unfold Builtin.Int.intBits
    split <;> omega
  refine pow_int h0 ?_ q
  have h2 := Int.mul_le_mul_of_nonneg_right b h0
  have : (2 ^ 27 : Int) = 134217728 := by decide
  omega
@[simp] def gAdd : PyData → PyData → Option PyData
  | .int i, .int j => some (.int (i + j))
  | .list a, .list b => if okN (a.length + b.length) then some (.list (a ++ b)) else none
  | .tuple a, .tuple b => if okN (a.length + b.length) then some (.tuple (a ++ b)) else none
  | .str a, .str b => if okN (a.length + b.length) then some (.str (a ++ b)) else none
  | _, _ => none
def rAddG (K : Frag) : R2 := fun x y H Q => rI0 (fun i j => .int (i + j)) x y H Q ∨ rCatG K x y H Q ∨ rCatA K x y H Q ∨ (∃ i j, x = .str i ∧ y = .str j ∧ i.length + j.length ≤ sizeLine ∧ Q (.str (i ++ j)) H)
theorem op_addG : OpR X (binaryOp .Add) (rAddG X.K) := OpR.or op_add (OpR.or op_catG (OpR.or op_catA op_add_str))
theorem o2_add : Op2 K (rAddG K) gAdd := by
  intro c F σ H env x y d e z Q R hx hy h k
  unfold gAdd at h
  split at h
  · cases h; cases hx; cases hy
    exact .inl ⟨_, _, rfl, rfl, k _ F H (Same.refl F) R (.int _)⟩
  · rename_i a b
    split at h
    · rename_i hz
      cases h
      cases hx with
      | @lst a1 xs _ hs ha =>
        cases hy with
        | @lst a2 ys _ hs2 ha2 =>
          refine .inr (.inl ⟨a1, a2, xs, ys, rfl, rfl, R.sub.seq hs, R.sub.seq hs2, ?_, fun p hp => ?_⟩)
          · rw [ha.len, ha2.len]; exact okN_line hz
          · obtain ⟨sF, R'⟩ := R.laid (o := .lst (xs ++ ys)) hp
            exact k _ _ _ sF R' (.lstS upd_same ((ha.app ha2).up sF))
    · cases h
  · rename_i a b
    split at h
    · rename_i hz
      cases h
      cases hx with
      | @tup a1 xs _ hs ha =>
        cases hy with
        | @tup a2 ys _ hs2 ha2 =>
          refine .inr (.inr (.inl ⟨a1, a2, xs, ys, rfl, rfl, sqT_mono R.sub hs, sqT_mono R.sub hs2, ?_, fun e => ?_, fun e e' => ?_, fun _ _ p hp => ?_⟩))
          · rw [ha.len, ha2.len]; exact okN_line hz
          · subst e
            cases ha
            exact k _ F H (Same.refl F) R (.tup hs2 ha2)
          · subst e'
            cases ha2
            exact k _ F H (Same.refl F) R (.tup hs (by rw [List.append_nil]; exact ha))
          · obtain ⟨sF, R'⟩ := R.laid (o := .tup (xs ++ ys)) hp
            exact k _ _ _ sF R' (.tup (SqT.of upd_same) ((ha.app ha2).up sF))
    · cases h
  · rename_i a b
    split at h
    · rename_i hz
      cases h; cases hx; cases hy
      exact .inr (.inr (.inr ⟨a, b, rfl, rfl, okN_line hz, k _ F H (Same.refl F) R (.str _)⟩))
    · cases h
  · cases h
@[simp] def gSub : PyData → PyData → Option PyData
  | .int i, .int j => some (.int (i - j))
  | _, _ => none
theorem o2_sub : Op2 K (rI0 fun i j => .int (i - j)) gSub := by
  intro c F σ H env x y d e z Q R hx hy h k
  unfold gSub at h
  split at h
  · cases h; cases hx; cases hy
    exact ⟨_, _, rfl, rfl, k _ F H (Same.refl F) R (.int _)⟩
  · cases h
@[simp] def gMulI : PyData → PyData → Option PyData
  | .int i, .int j => if mulOk i j then some (.int (i * j)) else none
  | _, _ => none
theorem o2_mulI : Op2 K (rI (fun i j => mulOk i j = true) fun i j => .int (i * j)) gMulI := by
  intro c F σ H env x y d e z Q R hx hy h k
  unfold gMulI at h
  split at h
  · split at h
    · cases h; cases hx; cases hy
      exact ⟨_, _, rfl, rfl, by assumption, k _ F H (Same.refl F) R (.int _)⟩
    · cases h
  · cases h
@[simp] noncomputable def gFdiv : PyData → PyData → Option PyData
  | .int i, .int j => if divOk j || divNear i j then some (.int (i.fdiv j)) else none
  | _, _ => none
theorem o2_fdiv : Op2 K (rI (fun i j => (divOk j || divNear i j) = true) fun i j => .int (i.fdiv j)) gFdiv := by
  intro c F σ H env x y d e z Q R hx hy h k
  unfold gFdiv at h
  split at h
  · split at h
    · cases h; cases hx; cases hy
      exact ⟨_, _, rfl, rfl, by assumption, k _ F H (Same.refl F) R (.int _)⟩
    · cases h
  · cases h
@[simp] def gMod : PyData → PyData → Option PyData
  | .int i, .int j => if j ≠ 0 then some (.int (i.fmod j)) else none
  | _, _ => none
theorem o2_mod : Op2 K (rI (fun _ j => j ≠ 0) fun i j => .int (i.fmod j)) gMod := by
  intro c F σ H env x y d e z Q R hx hy h k
  unfold gMod at h
  split at h
  · split at h
    · cases h; cases hx; cases hy
      exact ⟨_, _, rfl, rfl, by assumption, k _ F H (Same.refl F) R (.int _)⟩
    · cases h
  · cases h
@[simp] def gPow : PyData → PyData → Option PyData
  | .int i, .int j => if powOk i j then some (.int (i ^ j.toNat)) else none
  | _, _ => none
theorem o2_pow : Op2 K (rI (fun i n => powOk i n = true) fun i n => .int (i ^ n.toNat)) gPow := by
  intro c F σ H env x y d e z Q R hx hy h k
  unfold gPow at h
  split at h
  · split at h
    · cases h; cases hx; cases hy
      exact ⟨_, _, rfl, rfl, by assumption, k _ F H (Same.refl F) R (.int _)⟩
    · cases h
  · cases h
@[simp] def gNeg : PyData → Option PyData
  | .int i => some (.int (-i))
  | _ => none
theorem o1_neg : Op1 K (rU fun i => .int (-i)) gNeg := by
  intro c F σ H env x d z Q R hx h k
  unfold gNeg at h
  split at h
  · cases h; cases hx
    exact ⟨_, rfl, k _ F H (Same.refl F) R (.int _)⟩
  · cases h
@[simp] def gEq : PyData → PyData → Option PyData
  | .int i, .int j => some (.bool (decide (i = j)))
  | d, e => if SeqAt.shaped d && SeqAt.shaped e then some (.bool (PyData.eqv d e)) else none
@[simp] def gNe : PyData → PyData → Option PyData
  | .int i, .int j => some (.bool (!decide (i = j)))
  | d, e => if SeqAt.shaped d && SeqAt.shaped e then some (.bool (!PyData.eqv d e)) else none
theorem eqv_int (i j : Int) : PyData.eqv (.int i) (.int j) = decide (i = j) := by
  simp only [PyData.eqv, Bool.beq_eq_decide_eq]
theorem shaped_int (i : Int) : SeqAt.shaped (.int i) = true := by
  simp [SeqAt.shaped, PyData.canLay0, PyData.depth]
theorem o2_eq : Op2 K (rEqD K) gEq := by
  intro c F σ H env x y d e z Q R hx hy h k
  unfold gEq at h
  split at h
  · cases h
    exact ⟨_, _, (hx.up R.sub).sh (shaped_int _), (hy.up R.sub).sh (shaped_int _), shaped_int _, shaped_int _, by rw [eqv_int]; exact k _ F H (Same.refl F) R (.bl _)⟩
  · split at h
    · rename_i hs
      cases h
      rw [Bool.and_eq_true] at hs
      exact ⟨_, _, (hx.up R.sub).sh hs.1, (hy.up R.sub).sh hs.2, hs.1, hs.2, k _ F H (Same.refl F) R (.bl _)⟩
    · cases h
theorem o2_ne : Op2 K (rNeD K) gNe := by
  intro c F σ H env x y d e z Q R hx hy h k
  unfold gNe at h
  split at h
  · cases h
    exact ⟨_, _, (hx.up R.sub).sh (shaped_int _), (hy.up R.sub).sh (shaped_int _), shaped_int _, shaped_int _, by rw [eqv_int]; exact k _ F H (Same.refl F) R (.bl _)⟩
  · split at h
    · rename_i hs
      cases h
      rw [Bool.and_eq_true] at hs
      exact ⟨_, _, (hx.up R.sub).sh hs.1, (hy.up R.sub).sh hs.2, hs.1, hs.2, k _ F H (Same.refl F) R (.bl _)⟩
    · cases h
@[simp] def gB (f : Int → Int → Bool) : PyData → PyData → Option PyData
  | .int i, .int j => some (.bool (f i j))
  | _, _ => none
theorem o2_B {f : Int → Int → Bool} : Op2 K (rI0 fun i j => .bl (f i j)) (gB f) := by
  intro c F σ H env x y d e z Q R hx hy h k
  unfold gB at h
  split at h
  · cases h; cases hx; cases hy
    exact ⟨_, _, rfl, rfl, k _ F H (Same.refl F) R (.bl _)⟩
  · cases h
abbrev gLt := gB fun i j => decide (i < j)
abbrev gLe := gB fun i j => decide (i ≤ j)
abbrev gGt := gB fun i j => decide (j < i)
/-- x is None: the right side is written -/
@[simp] def isNone : PyData → Bool
  | .none => true
  | _ => false
@[simp] def gIsN (d _e : PyData) : Option PyData := some (.bool (isNone d))
@[simp] def gNotN (d _e : PyData) : Option PyData := some (.bool (!isNone d))
theorem isNone_v {F : Hp} {v : V} {d : PyData} (h : Dp K F v d) : decide (v = .non) = isNone d := by
  cases h <;> simp
@[simp] def gIx : PyData → PyData → Option PyData
  | .list ds, .int i => atI ds i
  | .tuple ds, .int i => atI ds i
  | _, _ => none
theorem atI_dp {F : Hp} {vs : List V} {ds : List PyData} {i : Int} {d : PyData} (h : DpAll K F vs ds) (e : atI ds i = some d) : ∃ v, atI vs i = some v ∧ Dp K F v d := by
  unfold atI at e ⊢
  rw [h.len]
  cases hj : ixN ds.length i with
  | none => rw [hj] at e; cases e
  | some j =>
    rw [hj] at e
    exact h.at e
theorem o2_ix : Op2 K (rIx K) gIx := by
  intro c F σ H env x y d e z Q R hx hy h k
  unfold gIx at h
  split at h
  · cases hy
    cases hx with
    | lst hs ha =>
      obtain ⟨v, h1, h2⟩ := atI_dp ha h
      exact .inl ⟨_, _, _, v, rfl, rfl, R.sub.seq hs, h1, k _ F H (Same.refl F) R h2⟩
  · cases hy
    cases hx with
    | tup hs ha =>
      obtain ⟨v, h1, h2⟩ := atI_dp ha h
      exact .inr (.inl ⟨_, _, _, v, rfl, rfl, sqT_mono R.sub hs, h1, k _ F H (Same.refl F) R h2⟩)
  · cases h
@[simp] def gLen : List PyData → Option PyData
  | [.list ds] => some (.int ds.length)
  | [.tuple ds] => some (.int ds.length)
  | [.str z] => if okN z.length then some (.int z.length) else none
  | _ => none
def rLenG (K : Frag) : List V → Hp → VK → Prop := fun xs H Q => (∃ p ys, xs = [.ref p] ∧ (SqL K H p ys ∨ SqT K H p ys) ∧ Q (.int ys.length) H) ∨ (∃ z, xs = [.str z] ∧ z.length ≤ sizeLine ∧ Q (.int z.length) H)
theorem call_lenG : CallR X (.builtin "len") (rLenG X.K) := CallR.or call_len_seq call_len_str
theorem oA_len : OpA K (rLenG K) gLen := by
  intro c F σ H env xs ds z Q R hx h k
  unfold gLen at h
  split at h
  · cases h
    cases hx with
    | cons h1 h2 =>
      cases h2
      cases h1 with
      | lst hs ha =>
        refine .inl ⟨_, _, rfl, .inl (R.sub.seq hs), ?_⟩
        rw [ha.len]
        exact k _ F H (Same.refl F) R (.int _)
  · cases h
    cases hx with
    | cons h1 h2 =>
      cases h2
      cases h1 with
      | tup hs ha =>
        refine .inl ⟨_, _, rfl, .inr (sqT_mono R.sub hs), ?_⟩
        rw [ha.len]
        exact k _ F H (Same.refl F) R (.int _)
  · split at h
    · rename_i hz
      cases h
      cases hx with
      | cons h1 h2 =>
        cases h2
        cases h1
        exact .inr ⟨_, rfl, okN_line hz, k _ F H (Same.refl F) R (.int _)⟩
    · cases h
  · cases h
@[simp] def gAbs : List PyData → Option PyData
  | [.int i] => some (.int (if i < 0 then -i else i))
  | _ => none
@[simp] def gMax2 : List PyData → Option PyData
  | [.int i, .int j] => some (.int (if j > i then j else i))
  | _ => none
@[simp] def gMin2 : List PyData → Option PyData
  | [.int i, .int j] => some (.int (if j < i then j else i))
  | _ => none
theorem oA_max2 : OpA K (fun xs H Q => ∃ i j, xs = [.int i, .int j] ∧ Q (.int (if j > i then j else i)) H) gMax2 := by
  intro c F σ H env xs ds z Q R hx h k
  unfold gMax2 at h
  split at h
  · cases h
    cases hx with
    | cons h1 h2 =>
      cases h2 with
      | cons h2 h3 =>
        cases h3; cases h1; cases h2
        exact ⟨_, _, rfl, k _ F H (Same.refl F) R (.int _)⟩
  · cases h
theorem oA_min2 : OpA K (fun xs H Q => ∃ i j, xs = [.int i, .int j] ∧ Q (.int (if j < i then j else i)) H) gMin2 := by
  intro c F σ H env xs ds z Q R hx h k
  unfold gMin2 at h
  split at h
  · cases h
    cases hx with
    | cons h1 h2 =>
      cases h2 with
      | cons h2 h3 =>
        cases h3; cases h1; cases h2
        exact ⟨_, _, rfl, k _ F H (Same.refl F) R (.int _)⟩
  · cases h
@[simp] def gInt : List PyData → Option PyData
  | [.int i] => some (.int i)
  | [.bool b] => some (.int (if b then 1 else 0))
  | _ => none
theorem oA_int : OpA K (fun xs H Q => (∃ i, xs = [.int i] ∧ Q (.int i) H) ∨ ∃ k, xs = [.bl k] ∧ Q (.int (if k then 1 else 0)) H) gInt := by
  intro c F σ H env xs ds z Q R hx h k
  unfold gInt at h
  split at h
  · cases h
    cases hx with
    | cons h1 h2 =>
      cases h2; cases h1
      exact .inl ⟨_, rfl, k _ F H (Same.refl F) R (.int _)⟩
  · cases h
    cases hx with
    | cons h1 h2 =>
      cases h2; cases h1
      exact .inr ⟨_, rfl, k _ F H (Same.refl F) R (.int _)⟩
  · cases h
@[simp] def gStrI : List PyData → Option PyData
  | [.int i] => if decide (i.natAbs.log2 < 1920) then some (.str (toString i : String)) else none
  | _ => none
theorem oA_strI : OpA K (fun xs H Q => ∃ i, xs = [.int i] ∧ i.natAbs.log2 < 1920 ∧ Q (.str (toString i : String)) H) gStrI := by
  intro c F σ H env xs ds z Q R hx h k
  unfold gStrI at h
  split at h
  · split at h
    · rename_i hz
      cases h
      cases hx with
      | cons h1 h2 =>
        cases h2; cases h1
        exact ⟨_, rfl, of_decide_eq_true hz, k _ F H (Same.refl F) R (.str _)⟩
    · cases h
  · cases h
@[simp] def gGcd : List PyData → Option PyData
  | [.int i, .int j] => some (.int ((Nat.gcd i.natAbs j.natAbs : Nat) : Int))
  | _ => none
theorem oA_gcd : OpA K rGcd gGcd := by
  intro c F σ H env xs ds z Q R hx h k
  unfold gGcd at h
  split at h
  · cases h
    cases hx with
    | cons h1 h2 =>
      cases h2 with
      | cons h2 h3 =>
        cases h3; cases h1; cases h2
        exact ⟨_, _, rfl, k _ F H (Same.refl F) R (.int _)⟩
  · cases h
def lcmOk (i j : Int) : Bool := decide (i.natAbs < 2 ^ 6000) && decide (j.natAbs < 2 ^ 6000)
@[simp] def gLcm : List PyData → Option PyData
  | [.int i, .int j] => if lcmOk i j then some (.int ((Nat.lcm i.natAbs j.natAbs : Nat) : Int)) else none
  | _ => none
/-- all ints of a list, if all are -/
def intsOf : List PyData → Option (List Int)
  | [] => some []
  | .int i :: ds => (intsOf ds).map (i :: ·)
  | _ :: _ => none
def boolsOf : List PyData → Option (List Bool)
  | [] => some []
  | .bool i :: ds => (boolsOf ds).map (i :: ·)
  | _ :: _ => none
@[simp] def gSum : List PyData → Option PyData
  | [.list ds] => (intsOf ds).map fun ns => .int ns.sum
  | _ => none
@[simp] def gAll : List PyData → Option PyData
  | [.list ds] => (boolsOf ds).map fun bs => .bool (bs.all id)
  | _ => none
@[simp] def gAny : List PyData → Option PyData
  | [.list ds] => (boolsOf ds).map fun bs => .bool (bs.any id)
  | _ => none
@[simp] def gTup : List PyData → Option PyData
  | [.list ds] => some (.tuple ds)
  | [.tuple ds] => some (.tuple ds)
  | _ => none
theorem oA_tup : OpA K (fun xs H Q => ∃ p ys, xs = [.ref p] ∧ ((SqL K H p ys ∧ ∀ l, H l = none → Q (.ref l) (upd H l (.tup ys))) ∨ (SqT K H p ys ∧ Q (.ref p) H))) gTup := by
  intro c F σ H env xs ds z Q R hx h k
  unfold gTup at h
  split at h
  · cases h
    cases hx with
    | cons h1 h2 =>
      cases h2
      cases h1 with
      | @lst a ys _ hs ha =>
        refine ⟨a, ys, rfl, .inl ⟨R.sub.seq hs, fun l hl => ?_⟩⟩
        obtain ⟨sF, R'⟩ := R.laid (o := .tup ys) hl
        exact k _ _ _ sF R' (.tup (SqT.of upd_same) (ha.up sF))
  · cases h
    cases hx with
    | cons h1 h2 =>
      cases h2
      cases h1 with
      | @tup a ys _ hs ha => exact ⟨a, ys, rfl, .inr ⟨sqT_mono R.sub hs, k _ F H (Same.refl F) R (.tup hs ha)⟩⟩
  · cases h
/-- isinstance(x, T) of data, T a built-in type -/
@[simp] def isT (T : String) : PyData → Bool
  | .none => T == "NoneType" || T == "object"
  | .bool _ => T == "bool" || T == "int" || T == "object"
  | .int _ => T == "int" || T == "object"
  | .str _ => T == "str" || T == "object"
  | .list _ => T == "list" || T == "object"
  | .tuple _ => T == "tuple" || T == "object"
  | .dict _ => T == "dict" || T == "object"
def tyN : PyData → String
  | .none => "NoneType"
  | .bool _ => "bool"
  | .int _ => "int"
  | .str _ => "str"
  | .list _ => "list"
  | .tuple _ => "tuple"
  | .dict _ => "dict"
/-- what is no caught error -/
@[simp] def tyOk : PyData → Bool
  | .dict ((.none, _) :: _) => false
  | _ => true
@[simp] theorem tyOk_tuple {d : PyData} (h : isT "tuple" d = true) : tyOk d = true := by
  cases d <;> first | rfl | (exfalso; revert h; simp only [isT]; decide)
@[simp] theorem tyOk_list {d : PyData} (h : isT "list" d = true) : tyOk d = true := by
  cases d <;> first | rfl | (exfalso; revert h; simp only [isT]; decide)
theorem tyX_of {F H : Hp} (e : Same F H) {v : V} {d : PyData} (h : Dp K F v d) (hk : tyOk d = true) : TyX K H v (.type (tyN d)) := by
  cases h with
  | dct hs _ => exact .fDict (e _ _ hs)
  | exc _ _ _ => cases hk
  | rng _ => cases hk
  | nw _ => cases hk
  | non => exact .base .non
  | bl b => exact .base (.bl b)
  | int i => exact .base (.int i)
  | str x => exact .base (.str x)
  | lst hs ha =>
    rcases e.seq hs with (h | ⟨o, h⟩) | ⟨o, its, n, h1, h2, _⟩
    · exact .base (.lst h)
    · exact .base (.frz h)
    · exact .kList h1 h2
  | tup hs ha =>
    rcases sqT_mono e hs with (h | ⟨o, h⟩) | ⟨o, its, n, h1, h2, _⟩
    · exact .base (.tup h)
    · exact .fTuple h
    · exact .kTuple h1 h2
/-- T's answers, by the library's own table -/
def IsTOk (T : String) : Prop := ∀ d : PyData, kitB (tyN d) T = some (isT T d)
theorem isT_int : IsTOk "int" := fun d => by cases d <;> (simp only [tyN, isT]; decide +kernel)
theorem isT_bool : IsTOk "bool" := fun d => by cases d <;> (simp only [tyN, isT]; decide +kernel)
theorem isT_list : IsTOk "list" := fun d => by cases d <;> (simp only [tyN, isT]; decide +kernel)
theorem isT_tuple : IsTOk "tuple" := fun d => by cases d <;> (simp only [tyN, isT]; decide +kernel)
end
end Dn
set_option Elab.async false
set_option linter.all false
set_option maxRecDepth 100000
namespace Dn
open PySem PySem.Spec PyProof.Rows L2
open PySem.W (Frag)
variable [Tb]
section
variable {K : Frag} {c : C3} {F F' H H' : Hp} {σ : L2.St} {env env' : En}
theorem get_set_ne {α : Type} {l : List α} {i j : Nat} {a : α} (h : i ≠ j) : (l.set i a)[j]? = l[j]? := List.getElem?_set_ne h
theorem get_set_self {α : Type} {l : List α} {i : Nat} {a b : α} (h : (l.set i a)[i]? = some b) : b = a := by
  rw [List.getElem?_set] at h
  rw [if_pos rfl] at h
  split at h
  · exact (Option.some.inj h).symm
  · cases h
theorem lt_of_set {α : Type} {l : List α} {i : Nat} {a b : α} (h : (l.set i a)[i]? = some b) : i < l.length := by
  have := (List.getElem?_eq_some_iff.mp h).1
  simpa using this
/-- a slot takes data -/
theorem Rl.put {v : V} {d : PyData} (R : Rl K c F σ H env) (h : Dp K F v d) (i : Nat) : Rl K c F (σ.set i (some v)) H (env.set i (.val d)) := by
  refine ⟨R.sub, R.f0, R.gd, R.g0, R.new, R.dom, by simp [R.len], fun j e hj => ?_, fun j p ds hj => ?_, R.tab, R.nf, R.ng⟩
  · by_cases hij : i = j
    · subst hij
      have := get_set_self hj
      cases this
      have hi := lt_of_set hj
      exact ⟨v, by rw [List.getElem?_set_self (by rw [← R.len]; exact hi)], h⟩
    · rw [get_set_ne hij] at hj
      obtain ⟨u, h1, h2⟩ := R.val j e hj
      exact ⟨u, by rw [get_set_ne hij]; exact h1, h2⟩
  · by_cases hij : i = j
    · subst hij
      cases get_set_self hj
    · rw [get_set_ne hij] at hj
      obtain ⟨a, xs, e1, e2, e3, e4, e5, e6, e7⟩ := R.own j p ds hj
      refine ⟨a, xs, by rw [get_set_ne hij]; exact e1, e2, e3, e4, e5, e6, fun k q es hk hq => ?_⟩
      by_cases hik : i = k
      · subst hik
        cases get_set_self hq
      · rw [get_set_ne hik] at hq ⊢
        exact e7 k q es hk hq
/-- a slot takes a list that is new, and owns it -/
theorem Rl.putOwn {p : Addr} {xs : List V} {ds : List PyData} (R : Rl K c F σ H env) (hp : H p = none) (h : DpAll K F xs ds) (i : Nat) : Rl K c F (σ.set i (some (.ref p))) (upd H p (.lst xs)) (env.set i (.own false ds)) := by
  have R1 := R.grow (o := .lst xs) hp
  have hF : F p = none := R.sub.free hp
  refine ⟨R1.sub, R1.f0, R1.gd, R1.g0, R1.new, R1.dom, by simp [R.len], fun j e hj => ?_, fun j q es hj => ?_, R1.tab, R1.nf, R1.ng⟩
  · by_cases hij : i = j
    · subst hij
      cases get_set_self hj
    · rw [get_set_ne hij] at hj
      obtain ⟨u, h1, h2⟩ := R.val j e hj
      exact ⟨u, by rw [get_set_ne hij]; exact h1, h2⟩
  · have other : ∀ (k : Nat) (q : Bool) (es : List PyData) (a : Addr), env[k]? = some (.own q es) → σ[k]? = some (some (.ref a)) → a ≠ p := fun k q es a h1 h2 => by
      obtain ⟨a', ys, e1, e2, e3, _⟩ := R.own k q es h1
      rw [h2] at e1
      cases e1
      exact ne_of_none e3 hp
    by_cases hij : i = j
    · subst hij
      have := get_set_self hj
      cases this
      have hi := lt_of_set hj
      refine ⟨p, xs, by rw [List.getElem?_set_self (by rw [← R.len]; exact hi)], hF, upd_same, h, R.gn hp, ?_, fun k q es hk hq => ?_⟩
      · exact R.h0 hp
      · have hik : i ≠ k := fun z => hk z.symm
        rw [get_set_ne hik] at hq ⊢
        intro z
        exact other k q es p hq z rfl
    · rw [get_set_ne hij] at hj
      obtain ⟨a, ys, e1, e2, e3, e4, e5, e6, e7⟩ := R1.own j q es hj
      have ap := other j q es a hj e1
      refine ⟨a, ys, by rw [get_set_ne hij]; exact e1, e2, e3, e4, e5, e6, fun k q es hk hq => ?_⟩
      by_cases hik : i = k
      · subst hik
        have := get_set_self hq
        cases this
        have hi := lt_of_set hq
        rw [List.getElem?_set_self (by rw [← R.len]; exact hi)]
        intro z
        cases z
        exact ap rfl
      · rw [get_set_ne hik] at hq ⊢
        exact e7 k q es hk hq
/-- the contents of an owned list change -/
theorem Rl.write {p : Bool} {ds es : List PyData} {i : Nat} {a : Addr} {ys : List V} (R : Rl K c F σ H env) (hi : env[i]? = some (.own p ds)) (ha : σ[i]? = some (some (.ref a))) (h : DpAll K F ys es) : Rl K c F σ (upd H a (.lst ys)) (env.set i (.own p es)) := by
  obtain ⟨a', xs, e1, e2, e3, e4, e5, e6, e7⟩ := R.own i p ds hi
  rw [ha] at e1
  cases e1
  refine ⟨fun b u e => ?_, R.f0, fun b u e => ?_, R.g0, R.new, fun b hb => ?_, by simp [R.len], fun j e hj => ?_, fun j q fs hj => ?_, tabs_wr R.tab e3, R.nf, R.ng⟩
  · rw [upd_ne (ne_of_none e e2)]; exact R.sub b u e
  · rw [upd_ne (ne_of_none e e5)]; exact R.gd b u e
  · by_cases hba : b = a
    · subst hba; rw [upd_same]; simp
    · rw [upd_ne hba]; exact R.dom b hb
  · by_cases hij : i = j
    · subst hij
      cases get_set_self hj
    · rw [get_set_ne hij] at hj
      exact R.val j e hj
  · by_cases hij : i = j
    · subst hij
      have := get_set_self hj
      cases this
      refine ⟨a, ys, ha, e2, upd_same, h, e5, e6, fun k q es hk hq => ?_⟩
      have hik : i ≠ k := fun z => hk z.symm
      rw [get_set_ne hik] at hq
      exact e7 k q es hk hq
    · rw [get_set_ne hij] at hj
      obtain ⟨b, zs, f1, f2, f3, f4, f5, f6, f7⟩ := R.own j q fs hj
      have hne : b ≠ a := fun z => by
        subst z
        exact e7 j q fs (fun z => hij z.symm) hj f1
      refine ⟨b, zs, f1, f2, by rw [upd_ne hne]; exact f3, f4, f5, f6, fun k q es hk hq => ?_⟩
      by_cases hik : i = k
      · subst hik
        rw [ha]
        intro z
        cases z
        exact hne rfl
      · rw [get_set_ne hik] at hq
        exact f7 k q es hk hq
/-- an owned list of this def's own becomes data for good -/
theorem Rl.freeze {ds : List PyData} {i : Nat} (R : Rl K c F σ H env) (hi : env[i]? = some (.own false ds)) : ∃ F', Same F F' ∧ Rl K c F' σ H (env.set i (.val (.list ds))) := by
  obtain ⟨a, xs, e1, e2, e3, e4, e5, e6, e7⟩ := R.own i false ds hi
  have e6' : c.H0 a = none := e6
  have sF : Same F (upd F a (.lst xs)) := fun b u e => by rw [upd_ne (ne_of_none e e2)]; exact e
  refine ⟨upd F a (.lst xs), sF, ⟨fun b u e => ?_, R.f0.trans sF, R.gd, R.g0, fun b hb => ?_, R.dom, by simp [R.len], fun j e hj => ?_, fun j q fs hj => ?_, R.tab, R.nf.upd NT.lst, R.ng⟩⟩
  · by_cases hba : b = a
    · subst hba; rw [upd_same] at e; cases e; exact e3
    · rw [upd_ne hba] at e; exact R.sub b u e
  · by_cases hba : b = a
    · subst hba; exact .inr e6'
    · rw [upd_ne hba] at hb; exact R.new b hb
  · by_cases hij : i = j
    · subst hij
      have := get_set_self hj
      cases this
      exact ⟨.ref a, e1, .lstS upd_same (e4.up sF)⟩
    · rw [get_set_ne hij] at hj
      obtain ⟨u, h1, h2⟩ := R.val j e hj
      exact ⟨u, h1, h2.up sF⟩
  · by_cases hij : i = j
    · subst hij
      cases get_set_self hj
    · rw [get_set_ne hij] at hj
      obtain ⟨b, zs, f1, f2, f3, f4, f5, f6, f7⟩ := R.own j q fs hj
      have hne : b ≠ a := fun z => by
        subst z
        exact e7 j q fs (fun z => hij z.symm) hj f1
      refine ⟨b, zs, f1, by rw [upd_ne hne]; exact f2, f3, f4.up sF, f5, f6, fun k q es hk hq => ?_⟩
      by_cases hik : i = k
      · subst hik
        cases get_set_self hq
      · rw [get_set_ne hik] at hq
        exact f7 k q es hk hq
/-- an object that nothing knows is watched: it stays while other things run -/
def wat (c : C3) (p : Addr) (o : HO) : C3 := { c with H0 := upd c.H0 p o, G := upd c.G p o }
theorem Rl.watch' {p : Addr} {o : HO} (R : Rl K c F σ H env) (hp : H p = none) (ho : NT o := by intro _ h; cases h) : Rl K (wat c p o) F σ (upd H p o) env := by
  have R1 := R.grow (o := o) hp
  have hF : F p = none := R.sub.free hp
  refine ⟨R1.sub, R1.f0, fun b u e => ?_, fun b u e => ?_, fun b hb => ?_, fun b hb => ?_, R1.len, R1.val, fun i q ds h => ?_, R1.tab, R1.nf, R.ng.upd ho⟩
  · by_cases hbp : b = p
    · subst hbp
      rw [upd_same]
      exact (show upd c.G b o b = some u from e) ▸ upd_same.symm
    · have e' : c.G b = some u := by
        rw [← upd_ne (H := c.G) (o := o) hbp]; exact e
      rw [upd_ne hbp]
      exact R.gd b u e'
  · by_cases hbp : b = p
    · subst hbp
      have e' : upd c.G b o b = some u := e
      rw [upd_same] at e'
      show upd c.H0 b o b = some u
      rw [upd_same]; exact e'
    · have e' : upd c.G p o b = some u := e
      rw [upd_ne hbp] at e'
      show upd c.H0 p o b = some u
      rw [upd_ne hbp]; exact R.g0 b u e'
  · have hbp : b ≠ p := fun z => by subst z; exact hb hF
    rcases R.new b hb with z | z
    · exact .inl z
    · refine .inr ?_
      show upd c.H0 p o b = none
      rw [upd_ne hbp]; exact z
  · by_cases hbp : b = p
    · subst hbp; rw [upd_same]; simp
    · rw [upd_ne hbp]
      refine R.dom b fun z => hb ?_
      show upd c.H0 p o b = none
      rw [upd_ne hbp]; exact z
  · obtain ⟨a, xs, e1, e2, e3, e4, e5, e6, e7⟩ := R.own i q ds h
    have ne : a ≠ p := ne_of_none e3 hp
    refine ⟨a, xs, e1, e2, by rw [upd_ne ne]; exact e3, e4, ?_, ?_, e7⟩
    · show upd c.G p o a = none
      rw [upd_ne ne]; exact e5
    · cases q with
      | true => exact e6
      | false =>
        show upd c.H0 p o a = none
        rw [upd_ne ne]; exact e6
theorem Rl.watched {p : Addr} {o : HO} (R : Rl K (wat c p o) F σ H env) : H p = some o := R.gd p o (show upd c.G p o p = some o from upd_same)
/-- .. and changed, and forgotten -/
theorem Rl.unwatch {p : Addr} {o o' : HO} (R : Rl K (wat c p o) F σ H env) (hG : c.G p = none) (hF0 : c.F0 p = none) (hH0 : c.H0 p = none) (hng : NoT c.G) (hl : ∃ xs, o = .lst xs := by exact ⟨_, rfl⟩) : F p = none ∧ Rl K c F σ (upd H p o') env := by
  have hF : F p = none := by
    cases e : F p with
    | none => rfl
    | some u =>
      rcases R.new p (by rw [e]; simp) with z | z
      · exact absurd hF0 z
      · have z' : upd c.H0 p o p = none := z
        rw [upd_same] at z'; cases z'
  refine ⟨hF, ⟨fun b u e => ?_, R.f0, fun b u e => ?_, fun b u e => ?_, fun b hb => ?_, fun b hb => ?_, R.len, R.val, fun i q ds h => ?_, (by obtain ⟨xs, rfl⟩ := hl; exact tabs_wr R.tab R.watched), R.nf, hng⟩⟩
  · rw [upd_ne (ne_of_none e hF)]; exact R.sub b u e
  · have hbp : b ≠ p := ne_of_none e hG
    rw [upd_ne hbp]
    refine R.gd b u ?_
    show upd c.G p o b = some u
    rw [upd_ne hbp]; exact e
  · have hbp : b ≠ p := ne_of_none e hG
    have := R.g0 b u (by show upd c.G p o b = some u; rw [upd_ne hbp]; exact e)
    have t : upd c.H0 p o b = some u := this
    rw [upd_ne hbp] at t; exact t
  · have hbp : b ≠ p := fun z => by subst z; exact hb hF
    rcases R.new b hb with z | z
    · exact .inl z
    · have z' : upd c.H0 p o b = none := z
      rw [upd_ne hbp] at z'; exact .inr z'
  · by_cases hbp : b = p
    · subst hbp; exact absurd hH0 hb
    · rw [upd_ne hbp]
      refine R.dom b fun z => hb ?_
      have z' : upd c.H0 p o b = none := z
      rw [upd_ne hbp] at z'; exact z'
  · obtain ⟨a, xs, e1, e2, e3, e4, e5, e6, e7⟩ := R.own i q ds h
    have ne : a ≠ p := fun z => by
      subst z
      have z' : upd c.G a o a = none := e5
      rw [upd_same] at z'; cases z'
    refine ⟨a, xs, e1, e2, by rw [upd_ne ne]; exact e3, e4, ?_, ?_, e7⟩
    · have z' : upd c.G p o a = none := e5
      rw [upd_ne ne] at z'; exact z'
    · cases q with
      | true => exact e6
      | false =>
        have z' : upd c.H0 p o a = none := e6
        rw [upd_ne ne] at z'; exact z'
end
def eF (f : Fl) : Fe := fun env => (f env).map fun p => (.list p.1, p.2)
section
variable {X : Cx} {a b e : Expr} {es : List Expr} {fa fb f : Fe} {fl fm : Fl} {pos : Pos}
theorem gf_ge {K : Frag} {σ : L2.St} {H : Hp} {Q : VK} (h : Ge K (eF fl) σ H Q) : Gf K fl σ H Q := by
  obtain ⟨c, F, env, d, env', R, e, k⟩ := h
  unfold eF at e
  simp only [Option.map_eq_some_iff] at e
  obtain ⟨⟨ds, n⟩, h1, h2⟩ := e
  obtain ⟨rfl, rfl⟩ := Prod.mk.inj h2
  refine ⟨c, F, env, ds, n, R, h1, fun p xs F' H' s hp R' hx => ?_⟩
  obtain ⟨sF, R2⟩ := R'.laid (o := .lst xs) hp
  exact k _ _ _ (s.trans sF) R2 (.lstS upd_same (hx.up sF))
theorem de_f (h : PE X e (Gf X.K fl)) : PE X e (Ge X.K (eF fl)) := h.imp fun _ _ _ => gf_ge
/-- a list display -/
def lLst (f : Fl) : Fl := fun env => (f env).bind fun p => if okN p.1.length then some p else none
theorem df_lst (ha : PA X es (Ga X.K fl)) : PE X (.List es pos) (Gf X.K (lLst fl)) := (pe_lst ha).imp fun σ H Q h => by
  obtain ⟨c, F, env, ds, env', R, e, k⟩ := h
  unfold lLst at e
  simp only [Option.bind_eq_some_iff] at e
  obtain ⟨⟨d1, n1⟩, h1, h2⟩ := e
  split at h2
  · rename_i hz
    cases h2
    exact ⟨c, F, env, _, _, R, h1, fun vs F' H' s R' hd => ⟨by rw [hd.len]; exact okN_line hz, fun p hp => k p vs F' H' s hp R' hd⟩⟩
  · cases h2
def eTup (f : Fl) : Fe := fun env => (f env).bind fun p => if okN p.1.length then some (.tuple p.1, p.2) else none
theorem de_tup {x1} (ha : PA X es (Ga X.K fl)) : PE X (.Tuple es x1 pos) (Ge X.K (eTup fl)) := (pe_tup ha).imp fun σ H Q h => by
  obtain ⟨c, F, env, ds, env', R, e, k⟩ := h
  unfold eTup at e
  simp only [Option.bind_eq_some_iff] at e
  obtain ⟨⟨d1, n1⟩, h1, h2⟩ := e
  split at h2
  · rename_i hz
    cases h2
    refine ⟨c, F, env, d1, n1, R, h1, fun vs F' H' s R' hd => ⟨by rw [hd.len]; exact okN_line hz, fun p hp => ?_⟩⟩
    obtain ⟨sF, R2⟩ := R'.laid (o := .tup vs) hp
    exact k _ _ _ (s.trans sF) R2 (.tup (SqT.of upd_same) (hd.up sF))
  · cases h2
/-- [..] * n -/
def reps (n : Int) (ds : List PyData) : List PyData := (List.replicate n.toNat ds).flatten
/-- (decided by no reckoning: the kernel must not try) -/
noncomputable def smallI (i : Int) : Bool := @decide (-(2 ^ 62) ≤ i ∧ i < 2 ^ 62) (Classical.propDecidable _)
theorem smallI_b {n : Int} (h : smallI n = true) : -(2 ^ 62) ≤ n ∧ n < 2 ^ 62 := by
  unfold smallI at h
  exact @of_decide_eq_true _ (Classical.propDecidable _) h
noncomputable def lRep (fl : Fl) (fb : Fe) : Fl := fun env => (fl env).bind fun p => (fb p.2).bind fun q => match q.1 with
  | .int n => if smallI n && okN (p.1.length * n.toNat) then some (reps n p.1, q.2) else none
  | _ => none
theorem dp_reps {K : Frag} {F : Hp} {xs : List V} {ds : List PyData} (h : DpAll K F xs ds) : ∀ n : Nat, DpAll K F (List.replicate n xs).flatten (List.replicate n ds).flatten
  | 0 => .nil
  | n + 1 => by
    rw [List.replicate_succ, List.replicate_succ, List.flatten_cons, List.flatten_cons]
    exact h.app (dp_reps h n)
theorem df_rep (ha : PE X a (Gf X.K fl)) (hb : PE X b (Ge X.K fb)) : PE X (.BinOp a .Mult b pos) (Gf X.K (lRep fl fb)) := (pe_op op_rep ha hb).imp fun σ H Q h => by
  obtain ⟨c, F, env, ds, env', R, e, k⟩ := h
  unfold lRep at e
  simp only [Option.bind_eq_some_iff] at e
  obtain ⟨⟨d1, n1⟩, h1, ⟨d2, n2⟩, h2, h3⟩ := e
  simp only at h3
  split at h3
  · rename_i n
    split at h3
    · rename_i hz
      rw [Bool.and_eq_true] at hz
      obtain ⟨b1, b2⟩ := smallI_b hz.1
      cases h3
      refine ⟨c, F, env, d1, n1, R, h1, fun p xs F1 H1 s1 hp R1 hx => ?_⟩
      obtain ⟨sF, R2⟩ := R1.laid (o := .lst xs) hp
      refine ⟨c, _, n1, .int n, env', R2, h2, fun v F2 H2 s2 R3 hv => ?_⟩
      cases hv
      refine ⟨p, n, xs, rfl, rfl, R3.sub p _ (s2 p _ upd_same), by omega, by omega, ?_, fun q hq => ?_⟩
      · rw [hx.len]; exact okN_line hz.2
      · exact k q _ F2 H2 ((s1.trans sF).trans s2) hq R3 (dp_reps (hx.up (sF.trans s2)) n.toNat)
    · cases h3
  · cases h3
abbrev Fo := En → Option (Option Int × En)
def Go (K : Frag) (f : Fo) : TO := fun σ H Q => ∃ c F env o env', Rl K c F σ H env ∧ f env = some (o, env') ∧ ∀ F' H', Same F F' → Rl K c F' σ H' env' → Q o H'
def oNo : Fo := fun env => some (none, env)
def oSo (f : Fe) : Fo := fun env => (f env).bind fun p => match p.1 with
  | .int i => some (some i, p.2)
  | _ => none
theorem PO.imp {X : Cx} {e : Option Expr} {t u : TO} (h : PO X e t) (w : ∀ σ H Q, u σ H Q → t σ H Q) : PO X e u := ⟨fun pins s σ H Q I q => h.run pins s σ H Q I (w σ H Q q)⟩
theorem do_no : PO X none (Go X.K oNo) := PO.imp po_none fun σ H Q ⟨c, F, env, o, env', R, e, k⟩ => by
  cases e
  exact k F H (Same.refl F) R
theorem do_so (h : PE X e (Ge X.K f)) : PO X (some e) (Go X.K (oSo f)) := PO.imp (po_some h) fun σ H Q ⟨c, F, env, o, env', R, e, k⟩ => by
  unfold oSo at e
  simp only [Option.bind_eq_some_iff] at e
  obtain ⟨⟨d1, n1⟩, h1, h2⟩ := e
  simp only at h2
  split at h2
  · cases h2
    refine ⟨c, F, env, _, _, R, h1, fun v F' H' s R' hv => ?_⟩
    cases hv
    exact ⟨_, rfl, k F' H' s R'⟩
  · cases h2
def cutD (xs : List PyData) (lo hi : Option Int) : List PyData := (xs.drop (HT.sIx xs.length 0 lo)).take (HT.sIx xs.length xs.length hi - HT.sIx xs.length 0 lo)
theorem cut_dp {K : Frag} {F : Hp} {xs : List V} {ds : List PyData} (h : DpAll K F xs ds) (lo hi : Option Int) : DpAll K F (cutV xs lo hi) (cutD ds lo hi) := by
  unfold cutV cutD
  rw [h.len]
  exact (h.drop _).take _
@[simp] def gCut : PyData → Option Int → Option Int → Option PyData
  | .list ds, lo, hi => some (.list (cutD ds lo hi))
  | .tuple ds, lo, hi => some (.tuple (cutD ds lo hi))
  | _, _, _ => none
def eCut (fa : Fe) (lo hi : Fo) : Fe := fun env => (fa env).bind fun p => (lo p.2).bind fun q => (hi q.2).bind fun r => (gCut p.1 q.1 r.1).map fun z => (z, r.2)
theorem cutD_whole {ds : List PyData} {lo hi : Option Int} (h : HT.sIx ds.length 0 lo = 0 ∧ HT.sIx ds.length ds.length hi = ds.length) : cutD ds lo hi = ds := by
  unfold cutD
  rw [h.1, h.2]
  simp
theorem de_cut {lo hi : Option Expr} {fo fh : Fo} {p2} (ha : PE X a (Ge X.K fa)) (hl : PO X lo (Go X.K fo)) (hh : PO X hi (Go X.K fh)) : PE X (.Subscript a (.Slice lo hi none p2) pos) (Ge X.K (eCut fa fo fh)) :=
  (pe_slice (SlR.or sl_list sl_tupA) ha hl hh).imp fun σ H Q h => by
  obtain ⟨c, F, env, d, env', R, e, k⟩ := h
  unfold eCut at e
  simp only [Option.bind_eq_some_iff, Option.map_eq_some_iff] at e
  obtain ⟨⟨d1, n1⟩, h1, ⟨d2, n2⟩, h2, ⟨d3, n3⟩, h3, z, h4, h5⟩ := e
  obtain ⟨rfl, rfl⟩ := Prod.mk.inj h5
  refine ⟨c, F, env, d1, n1, R, h1, fun v1 F1 H1 s1 R1 p1 => ⟨c, F1, n1, d2, n2, R1, h2, fun F2 H2 s2 R2 => ⟨c, F2, n2, d3, _, R2, h3, fun F3 H3 s3 R3 => ?_⟩⟩⟩
  have p3 := p1.up (s2.trans s3)
  have s13 := (s1.trans s2).trans s3
  dsimp only at h4 k
  unfold gCut at h4
  split at h4
  · cases h4
    cases p3 with
    | @lst a1 xs _ hs ha =>
      refine .inl ⟨a1, xs, rfl, R3.sub.seq hs, fun q hq => ?_⟩
      obtain ⟨sF, R4⟩ := R3.laid (o := .lst (cutV xs d2 d3)) hq
      exact k _ _ _ (s13.trans sF) R4 (.lstS upd_same ((cut_dp ha d2 d3).up sF))
  · cases h4
    cases p3 with
    | @tup a1 xs _ hs ha =>
      refine .inr ⟨a1, xs, rfl, sqT_mono R3.sub hs, fun hw => ?_, fun _ q hq => ?_⟩
      · rw [ha.len] at hw
        rw [cutD_whole hw] at k
        exact k _ F3 H3 s13 R3 (.tup hs ha)
      · obtain ⟨sF, R4⟩ := R3.laid (o := .tup (cutV xs d2 d3)) hq
        exact k _ _ _ (s13.trans sF) R4 (.tup (SqT.of upd_same) ((cut_dp ha d2 d3).up sF))
  · cases h4
end
def tB' (f : Fe) : Ft := fun env => (f env).bind fun p => match p.1 with
  | .bool b => some (b, p.2)
  | _ => none
def tNo (f : Ft) : Ft := fun env => (f env).map fun p => (!p.1, p.2)
def tOrr (f g : Ft) : Ft := fun env => (f env).bind fun p => if p.1 then some (true, p.2) else g p.2
@[simp] def truth : PyData → Option Bool
  | .none => some false
  | .bool b => some b
  | .int i => some (i != 0)
  | .str x => if okN x.length then some ((x.length : Int) != 0) else none
  | .list ds => some (!ds.isEmpty)
  | .tuple ds => some (!ds.isEmpty)
  | .dict _ => none
def tTr (f : Fe) : Ft := fun env => (f env).bind fun p => (truth p.1).map fun b => (b, p.2)
section
variable {X : Cx} {a b e : Expr} {rest : List Expr} {fa fb f : Fe} {ta tb : Ft} {pos : Pos}
theorem bool_of {K : Frag} {σ : L2.St} {H : Hp} {Q : Bool → Hp → Prop} (h : Gt K (tB' f) σ H Q) : Ge K f σ H fun x H1 => ∃ k, x = .bl k ∧ Q k H1 := by
  obtain ⟨c, F, env, d, env', R, e, k⟩ := h
  unfold tB' at e
  simp only [Option.bind_eq_some_iff] at e
  obtain ⟨⟨d1, n1⟩, h1, h2⟩ := e
  simp only at h2
  split at h2
  · cases h2
    refine ⟨c, F, env, _, _, R, h1, fun v F' H' s R' hv => ?_⟩
    cases hv
    exact ⟨_, rfl, k F' H' s R'⟩
  · cases h2
theorem dt_cmp {op : CmpOp} {r : R2} {g : PyData → PyData → Option PyData} (ho : OpR X (compareOp op) r) (o : Op2 X.K r g) (ha : PE X a (Ge X.K fa)) (hb : PE X b (Ge X.K fb)) (hm : behindInMarks op b = false) : PT X (.Compare a [op] [b] pos) (Gt X.K (tB' (e2 g fa fb))) :=
  (pt_cmpR ho ha hb hm).imp fun σ H Q h => go2 o (bool_of h)
theorem dt_not (h : PT X a (Gt X.K ta)) : PT X (.UnaryOp .Not a pos) (Gt X.K (tNo ta)) := (pt_not h).imp fun σ H Q h => by
  obtain ⟨c, F, env, d, env', R, e, k⟩ := h
  unfold tNo at e
  simp only [Option.map_eq_some_iff] at e
  obtain ⟨⟨d1, n1⟩, h1, h2⟩ := e
  obtain ⟨rfl, rfl⟩ := Prod.mk.inj h2
  exact ⟨c, F, env, d1, n1, R, h1, k⟩
theorem dw_or1 (h : PT X a (Gt X.K ta)) : PW X (.BoolOp .Or [a] pos) (Gt X.K ta) := pw_or1 h
theorem dw_or (h : PT X a (Gt X.K ta)) (h2 : PW X (.BoolOp .Or (b :: rest) pos) (Gt X.K tb)) : PW X (.BoolOp .Or (a :: b :: rest) pos) (Gt X.K (tOrr ta tb)) := (pw_or h h2).imp fun σ H Q h => by
  obtain ⟨c, F, env, d, env', R, e, k⟩ := h
  unfold tOrr at e
  simp only [Option.bind_eq_some_iff] at e
  obtain ⟨⟨d1, n1⟩, h1, h2⟩ := e
  refine ⟨c, F, env, d1, n1, R, h1, fun F1 H1 s1 R1 => ?_⟩
  cases d1 with
  | false => exact iteF ⟨c, F1, n1, d, env', R1, h2, fun F2 H2 s2 R2 => k F2 H2 (s1.trans s2) R2⟩
  | true =>
    cases h2
    exact iteT (k F1 H1 s1 R1)
/-- a value's truth -/
theorem dt_tru (h : PE X e (Ge X.K f)) (he : ∀ whole, isTrue e X.env whole = (do let v ← whole; standAt e.pos; holding [v] (truthy v)) := by intro _; rfl) : PT X e (Gt X.K (tTr f)) := (pt_truth h he).imp fun σ H Q h => by
  obtain ⟨c, F, env, d, env', R, e, k⟩ := h
  unfold tTr at e
  simp only [Option.bind_eq_some_iff, Option.map_eq_some_iff] at e
  obtain ⟨⟨d1, n1⟩, h1, b, h2, h3⟩ := e
  obtain ⟨rfl, rfl⟩ := Prod.mk.inj h3
  refine ⟨c, F, env, d1, n1, R, h1, fun v F' H' s R' hv => ⟨b, ?_, k F' H' s R'⟩⟩
  cases hv with
  | non => simp [truth] at h2; simp [TruV, h2]
  | bl x => simp [truth] at h2; simp [TruV, h2]
  | int i => simp [truth] at h2; simp [TruV, h2]
  | str x =>
    simp only [truth] at h2
    by_cases hz : okN x.length = true
    · rw [if_pos hz] at h2
      exact ⟨okN_line hz, (Option.some.inj h2).symm⟩
    · rw [if_neg hz] at h2
      cases h2
  | @lst _ _ _ds hs ha =>
    have h2' : (!_ds.isEmpty) = b := Option.some.inj h2
    subst h2'
    refine .inl ⟨_, R'.sub.seq hs, ?_⟩
    have := ha.len
    cases ha <;> rfl
  | @tup _ _ _ds hs ha =>
    have h2' : (!_ds.isEmpty) = b := Option.some.inj h2
    subst h2'
    refine .inr (.inl ⟨_, sqT_mono R'.sub hs, ?_⟩)
    cases ha <;> rfl
  | dct _ _ => cases h2
  | exc _ _ _ => cases h2
  | rng _ => cases h2
  | nw _ => cases h2
/-- and, or, not as values -/
def eAn (f g : Fe) : Fe := fun env => (f env).bind fun p => match p.1 with
  | .bool true => g p.2
  | .bool false => some (.bool false, p.2)
  | _ => none
def eOr (f g : Fe) : Fe := fun env => (f env).bind fun p => match p.1 with
  | .bool false => g p.2
  | .bool true => some (.bool true, p.2)
  | _ => none
def eNo (f : Fe) : Fe := fun env => (f env).bind fun p => match p.1 with
  | .bool b => some (.bool (!b), p.2)
  | _ => none
theorem de_one {op} (h : PE X a (Ge X.K fa)) : PE X (.BoolOp op [a] pos) (Ge X.K fa) := pe_one h
theorem de_and (h : PE X a (Ge X.K fa)) (h2 : PE X (.BoolOp .And (b :: rest) pos) (Ge X.K fb)) : PE X (.BoolOp .And (a :: b :: rest) pos) (Ge X.K (eAn fa fb)) := (pe_and h h2).imp fun σ H Q h => by
  obtain ⟨c, F, env, d, env', R, e, k⟩ := h
  unfold eAn at e
  simp only [Option.bind_eq_some_iff] at e
  obtain ⟨⟨d1, n1⟩, h1, h2⟩ := e
  refine ⟨c, F, env, d1, n1, R, h1, fun v F1 H1 s1 R1 hv => ?_⟩
  simp only at h2
  split at h2
  · cases hv
    exact ⟨true, rfl, iteT ⟨c, F1, n1, d, env', R1, h2, fun v F2 H2 s2 R2 => k v F2 H2 (s1.trans s2) R2⟩⟩
  · cases hv
    cases h2
    exact ⟨false, rfl, iteF (k _ F1 H1 s1 R1 (.bl _))⟩
  · cases h2
theorem de_or (h : PE X a (Ge X.K fa)) (h2 : PE X (.BoolOp .Or (b :: rest) pos) (Ge X.K fb)) : PE X (.BoolOp .Or (a :: b :: rest) pos) (Ge X.K (eOr fa fb)) := (pe_or h h2).imp fun σ H Q h => by
  obtain ⟨c, F, env, d, env', R, e, k⟩ := h
  unfold eOr at e
  simp only [Option.bind_eq_some_iff] at e
  obtain ⟨⟨d1, n1⟩, h1, h2⟩ := e
  refine ⟨c, F, env, d1, n1, R, h1, fun v F1 H1 s1 R1 hv => ?_⟩
  simp only at h2
  split at h2
  · cases hv
    exact ⟨false, rfl, iteF ⟨c, F1, n1, d, env', R1, h2, fun v F2 H2 s2 R2 => k v F2 H2 (s1.trans s2) R2⟩⟩
  · cases hv
    cases h2
    exact ⟨true, rfl, iteT (k _ F1 H1 s1 R1 (.bl _))⟩
  · cases h2
theorem de_not (h : PE X a (Ge X.K fa)) : PE X (.UnaryOp .Not a pos) (Ge X.K (eNo fa)) := (pe_not h).imp fun σ H Q h => by
  obtain ⟨c, F, env, d, env', R, e, k⟩ := h
  unfold eNo at e
  simp only [Option.bind_eq_some_iff] at e
  obtain ⟨⟨d1, n1⟩, h1, h2⟩ := e
  refine ⟨c, F, env, d1, n1, R, h1, fun v F1 H1 s1 R1 hv => ?_⟩
  simp only at h2
  split at h2
  · cases hv
    cases h2
    exact ⟨_, rfl, k _ F1 H1 s1 R1 (.bl _)⟩
  · cases h2
/-- a < b < c -/
def eCh (g g' : PyData → PyData → Option PyData) (fa fb fc : Fe) : Fe := fun env => (fa env).bind fun p => (fb p.2).bind fun q => (g p.1 q.1).bind fun z => match z with
  | .bool true => (fc q.2).bind fun r => (g' q.1 r.1).map fun y => (y, r.2)
  | .bool false => some (.bool false, q.2)
  | _ => none
theorem goCh {K : Frag} {r r' : R2} {g g' : PyData → PyData → Option PyData} (o : Op2 K r g) (o' : Op2 K r' g') {fc : Fe} {σ : L2.St} {H : Hp} {Q : VK} (h : Ge K (eCh g g' fa fb fc) σ H Q) : tChain r r' (Ge K fa) (Ge K fb) (Ge K fc) σ H Q := by
  obtain ⟨c, F, env, d, env', R, e, k⟩ := h
  unfold eCh at e
  simp only [Option.bind_eq_some_iff] at e
  obtain ⟨⟨d1, n1⟩, h1, ⟨d2, n2⟩, h2, z, h3, h4⟩ := e
  refine ⟨c, F, env, d1, n1, R, h1, fun v1 F1 H1 s1 R1 p1 => ⟨c, F1, n1, d2, n2, R1, h2, fun v2 F2 H2 s2 R2 p2 => ?_⟩⟩
  refine o c F2 σ H2 n2 v1 v2 d1 d2 z _ R2 (p1.up s2) p2 h3 fun v F3 H3 s3 R3 p3 => ?_
  simp only at h4
  split at h4
  · cases p3
    simp only [Option.bind_eq_some_iff, Option.map_eq_some_iff] at h4
    obtain ⟨⟨d4, n4⟩, h5, y, h6, h7⟩ := h4
    obtain ⟨rfl, rfl⟩ := Prod.mk.inj h7
    refine ⟨true, rfl, iteT ⟨c, F3, n2, d4, _, R3, h5, fun v4 F4 H4 s4 R4 p4 => ?_⟩⟩
    exact o' c F4 σ H4 _ v2 v4 d2 d4 y Q R4 (p2.up (s3.trans s4)) p4 h6 fun v5 F5 H5 s5 R5 p5 => k v5 F5 H5 ((((s1.trans s2).trans s3).trans s4).trans s5) R5 p5
  · cases p3
    cases h4
    exact ⟨false, rfl, iteF (k _ F3 H3 ((s1.trans s2).trans s3) R3 (.bl _))⟩
  · cases h4
theorem de_chain {op op' : CmpOp} {r r' : R2} {g g' : PyData → PyData → Option PyData} {c' : Expr} {fc : Fe} (ho : OpR X (compareOp op) r) (o : Op2 X.K r g) (ho' : OpR X (compareOp op') r') (o' : Op2 X.K r' g') (ha : PE X a (Ge X.K fa)) (hb : PE X b (Ge X.K fb)) (hc : PE X c' (Ge X.K fc))
    (hm : lastMarks [op, op'] [b, c'] = false := by with_unfolding_all rfl) : PE X (.Compare a [op, op'] [b, c'] pos) (Ge X.K (eCh g g' fa fb fc)) := (pe_chain ho ho' ha hb hc hm).imp fun _ _ _ h => goCh o o' h
theorem dt_chain {op op' : CmpOp} {r r' : R2} {g g' : PyData → PyData → Option PyData} {c' : Expr} {fc : Fe} (ho : OpR X (compareOp op) r) (o : Op2 X.K r g) (ho' : OpR X (compareOp op') r') (o' : Op2 X.K r' g') (ha : PE X a (Ge X.K fa)) (hb : PE X b (Ge X.K fb)) (hc : PE X c' (Ge X.K fc))
    (hm : lastMarks [op, op'] [b, c'] = false := by with_unfolding_all rfl) : PT X (.Compare a [op, op'] [b, c'] pos) (Gt X.K (tB' (eCh g g' fa fb fc))) := (pt_chain ho ho' ha hb hc hm).imp fun _ _ _ h => goCh o o' (bool_of h)
/-- is None -/
def eIsN (f : Fe) : Fe := fun env => (f env).map fun p => (.bool (isNone p.1), p.2)
def eNotN (f : Fe) : Fe := fun env => (f env).map fun p => (.bool (!isNone p.1), p.2)
theorem goIsN {K : Frag} {σ : L2.St} {H : Hp} {Q : VK} (h : Ge K (eIsN f) σ H Q) : tIsN (Ge K f) σ H Q := by
  obtain ⟨c, F, env, d, env', R, e, k⟩ := h
  unfold eIsN at e
  simp only [Option.map_eq_some_iff] at e
  obtain ⟨⟨d1, n1⟩, h1, h2⟩ := e
  obtain ⟨rfl, rfl⟩ := Prod.mk.inj h2
  refine ⟨c, F, env, d1, n1, R, h1, fun v F1 H1 s1 R1 hv => ?_⟩
  show Q (.bl (decide (v = .non))) H1
  rw [isNone_v hv]
  exact k _ F1 H1 s1 R1 (.bl _)
theorem dt_isN {j pos'} (ha : PE X a (Ge X.K fa)) : PT X (.Compare a [.Is] [.Constant .none j pos'] pos) (Gt X.K (tB' (eIsN fa))) := (pt_cmp (pc_isN ha)).imp fun _ _ _ h => goIsN (bool_of h)
variable {es : List Expr} {fl : Fl} {x : Str} {p : Pos} {id T : String} {r : List V → Hp → VK → Prop} {g : List PyData → Option PyData}
theorem de_B (hc : CallR X (.builtin id) r) (o : OpA X.K r g) (hg : Gl X x) (hm : X.mg x = none) (hv : bootBuiltins x = some (.builtin id)) (ha : PA X (e :: es) (Ga X.K fl)) (hn : x ≠ "__name__" := by decide) (hdb : (x == ("__debug__" : Str)) = false := by decide)
    (he : starEach (e :: es) X.env = (false, eval e X.env) :: starEach es X.env := by rfl) (hpl : (backTo pos (starEach es X.env)).any (·.1) = false := by rfl) : PE X (.Call (.Name x p) (e :: es) [] pos) (Ge X.K (eA g fl)) := (pe_callB hc hg hm hv ha hn hdb he hpl).imp fun _ _ _ h => goA o h
theorem de_T (hc : CallR X (.type T) r) (o : OpA X.K r g) (hg : Gl X x) (hm : X.mg x = none) (hv : bootBuiltins x = some (.type T)) (ha : PA X (e :: es) (Ga X.K fl)) (hn : x ≠ "__name__" := by decide) (hdb : (x == ("__debug__" : Str)) = false := by decide)
    (he : starEach (e :: es) X.env = (false, eval e X.env) :: starEach es X.env := by rfl) (hpl : (backTo pos (starEach es X.env)).any (·.1) = false := by rfl) : PE X (.Call (.Name x p) (e :: es) [] pos) (Ge X.K (eA g fl)) := (pe_callTy hc hg hm hv ha hn hdb he hpl).imp fun _ _ _ h => goA o h
theorem de_M (hc : CallR X (.builtin id) r) (o : OpA X.K r g) (hg : Gl X x) (hm : X.mg x = some (.builtin id)) (ha : PA X (e :: es) (Ga X.K fl)) (hdb : (x == ("__debug__" : Str)) = false := by decide)
    (he : starEach (e :: es) X.env = (false, eval e X.env) :: starEach es X.env := by rfl) (hpl : (backTo pos (starEach es X.env)).any (·.1) = false := by rfl) : PE X (.Call (.Name x p) (e :: es) [] pos) (Ge X.K (eA g fl)) := (pe_callBfun hc hg hm ha hdb he hpl).imp fun _ _ _ h => goA o h
/-- isinstance(e, T) -/
def eIs (T : String) (f : Fe) : Fe := fun env => (f env).bind fun p => if tyOk p.1 then some (.bool (isT T p.1), p.2) else none
theorem de_isi {y : Str} {q : Pos} (hT : IsTOk T) (hg : Gl X "isinstance") (hm : X.mg "isinstance" = none) (hgy : Gl X y) (hmy : X.mg y = none) (hvy : bootBuiltins y = some (.type T)) (ha : PE X e (Ge X.K f)) (hny : y ≠ "__name__" := by decide) (hdy : (y == ("__debug__" : Str)) = false := by decide)
    (he0 : starEach (Expr.Name y q :: []) X.env = (false, eval (Expr.Name y q) X.env) :: starEach [] X.env := by rfl)
    (he : starEach (e :: Expr.Name y q :: []) X.env = (false, eval e X.env) :: starEach [Expr.Name y q] X.env := by rfl) (hpl : (backTo pos (starEach [Expr.Name y q] X.env)).any (·.1) = false := by rfl) :
    PE X (.Call (.Name "isinstance" p) [e, .Name y q] [] pos) (Ge X.K (eIs T f)) := (pe_callB call_isi hg hm (by decide +kernel) (pa_cons ha (pa_cons (pe_bltn (v := .ty T) hgy hmy hvy rfl hny hdy) pa_nil he0) he) (by decide) (by decide) he hpl).imp fun σ H Q h => by
  obtain ⟨c, F, env, d, env', R, e, k⟩ := h
  unfold eIs at e
  simp only [Option.bind_eq_some_iff] at e
  obtain ⟨⟨d1, n1⟩, h1, h2⟩ := e
  dsimp only at h2
  split at h2
  · rename_i hk
    obtain ⟨rfl, rfl⟩ := Prod.mk.inj (Option.some.inj h2)
    refine ⟨c, F, env, d1, n1, R, h1, fun v F1 H1 s1 R1 hv => ?_⟩
    exact ⟨v, .ty T, .type (tyN d1), .type T, isT T d1, rfl, .ty T, tyX_of R1.sub hv hk, kit_ty (hT d1), k _ F1 H1 s1 R1 (.bl _)⟩
  · cases h2
end
end Dn
set_option Elab.async false
set_option linter.all false
set_option maxRecDepth 100000
set_option maxHeartbeats 2000000
namespace PySem
namespace CaskX
open PySem.W PySem.Calls PyProof.Rows PySem.HandSPX
def iA (p1 p2 : Pos) : Arguments := { posonlyargs := [], args := [{ arg := "self", annotation := none, pos := p1 }, { arg := "value", annotation := none, pos := p2 }], vararg := none, kwonlyargs := [], kw_defaults := [], kwarg := none, defaults := [] }
def iB (m : Str) (q0 q1 q2 q3 q4 q5 r1 r2 r3 r4 : Pos) : List Stmt :=
  [.Expr (.Call (.Attribute (.Call (.Name "super" q0) [] [] q1) "__init__" q2) [.Constant (.str m) 0 q3] [] q4) q5, .Assign [.Attribute (.Name "self" r1) "value" r2] (.Name "value" r3) r4]
def iS : Scope := { kind := .function, names := [(PySem.Str.ofString "self", .local), (PySem.Str.ofString "value", .local), (PySem.Str.ofString "__class__", .free), (PySem.Str.ofString "super", .globalImplicit)], isGenerator := false, isCoroutine := false, more := [] }
/-- what the written part says of a class at C, of the class at D whose __init__ it has, of this __init__, at fI -/
structure CaskTxt (prog : Program) (K : Frag) (mg : Str → Option Value) (C D fI : Addr) : Prop where
  cls : ∃ nm q N bs bm sn sub ab col dd k0 k1 k2 k3 k5, K.lookup C = some (excClassObj nm q C N bs bm true sn sub ab col dd k0 k1 k2 k3 k5 "ValueError.__new__") ∧ refsVE bm
  sa : findIn K (.ref C) "__setattr__" = some (some (.builtin "object.__setattr__"))
  ga : findIn K (.ref C) "__getattribute__" = some (some (.builtin "BaseException.__getattribute__"))
  gg : findIn K (.ref C) "__getattr__" = some none
  noN : findIn K (.ref C) "value" = some none
  iC : findIn K (.ref C) "__init__" = some (some (.ref fI))
  tC : typeIn K (.ref fI) = some (.type "function")
  kC : keepIn K (.ref C) = true
  exC : subIn K (.ref C) (.type "BaseException") = some true
  tyC : typeIn K (.ref C) = some (.type "type")
  hdC : hasDictIn K C = true
  opq : nsIn K cStatics "thirdparty.any" = some none
  veC : subIn K (.ref C) (.type "ValueError") = some true
  sup : ks_superIn K C D "__init__" = some (some (.builtin "ValueError.__init__"))
  dC : mroIn K C (.ref D) = some true
  dcl : ∃ cd, clsIn K D = some cd
  nosup : mg "super" = none
  top : (prog.main.scope.names.lookup ("super" : Str)).isSome = false
  fn : ∃ (oc : Value) (od : Option Addr) (doc pm : Value) (an : Option Addr) (cda cc : Addr) (ct : Value) (osl : Array (Option Value)) (p1 p2 q0 q1 q2 q3 q4 q5 r1 r2 r3 r4 : Pos) (m : Str) (vs : Array Value) (file : Str) (tf : Tok) (ccl cl : Value) (cdd cld : Option Addr) (ccs csl : Array (Option Value)),
    K.lookup fI = some ⟨oc, od, .func (ksFn "__init__" "CaskError.__init__" (iA p1 p2) (iB m q0 q1 q2 q3 q4 q5 r1 r2 r3 r4) iS .none .none doc pm an (.ref cda) ct cc), osl⟩ ∧ codeIn K (.ref cda) "CaskError.__init__" = true ∧
    K.lookup cda = some ⟨ccl, cdd, .fields vs, ccs⟩ ∧ vs[2]? = some (.str file tf) ∧ ((prog.main.file : Str) == file) = true ∧ K.lookup cc = some ⟨cl, cld, .cell (some (.ref D)), csl⟩ ∧
    ∃ pl : Env → Sem Bool, ∀ env : Env, eval (.Call (.Attribute (.Call (.Name "super" q0) [] [] q1) "__init__" q2) [.Constant (.str m) 0 q3] [] q4) env = (do
      let ov ← attributeBase (.Call (.Name "super" q0) [] [] q1) "__init__" env (eval (.Call (.Name "super" q0) [] [] q1) env)
      standAt q2.atName
      let (f, first) ← holding [ov] (getMethod ov "__init__" (pl env))
      callWith q4 f first (backTo q4 (starEach [.Constant (.str m) 0 q3] env)) [])
theorem kept_but {K : Frag} {h h' : Heap} {x : Addr} (X : K.In h) (hx : K.lookup x = none) (k : ∀ b o, b ≠ x → h.get? b = some o → h'.get? b = some o) : K.In h' := fun a o e =>
  k a o (fun z => by rw [z, hx] at e; cases e) (X a o e)
theorem one_size (v : Value) : [v].length ≤ sizeLine := by
  rw [sizeLine_eq]
  exact (by decide : 1 ≤ 16777216)
/-- what __init__ leaves of a fresh exception at x -/
structure InitEnd (h h' : Heap) (x C dx t1 : Addr) (v : Value) : Prop where
  keep : ∀ b o, b ≠ x → h.get? b = some o → h'.get? b = some o
  obj : h'.get? x = some { cls := .ref C, dict := some dx, data := .fields #[.ref t1, .none, .none, .none, .bool false, .none] }
  dbig : h.objs.size ≤ dx
  dne : dx ≠ x
  ns : h'.Ns1 dx (fun y => if y = "value" then some v else none)
/-- a made exception -/
structure OwnMade (h h' : Heap) (e C d : Addr) (v : Value) : Prop where
  keep : ∀ b o, h.get? b = some o → h'.get? b = some o
  new : h.objs.size ≤ e
  obj : ∃ oe vs, h'.get? e = some oe ∧ oe.cls = .ref C ∧ oe.dict = some d ∧ oe.data = .fields vs ∧ vs[1]? = some .none
  dbig : h.objs.size ≤ d
  dne : d ≠ e
  ns : h'.Ns1 d (fun y => if y = "value" then some v else none)
section
variable {prog : Program} {w : World} {A : Around} {E : Value → Shared → Prop} {R : Result → Shared → Prop} {s : Shared} {K : Frag} {mg : Str → Option Value} {C D fI : Addr}
/-- the method-wrapper of ValueError.__init__, called -/
theorem call_mw {h : Heap} {g : Array GenState} {d : Drawn} {t : Nat} {os : OsState} {nm q : Str} {N : Addr} {bs bm : List Value} {hdct : Bool} {sn : List Str} {sub : List Value} {ab : Bool} {col : Option Bool} {dd : Option Addr} {k0 k1 k2 k3 k5 : Option Value} {u e t0 : Addr} {rest : List Value} {Q : Value → Shared → Prop}
    (hC : h.get? C = some (excClassObj nm q C N bs bm hdct sn sub ab col dd k0 k1 k2 k3 k5 "ValueError.__new__")) (he : h.get? e = some (excO C t0)) (hu : h.get? u = some (kxs_mw "ValueError.__init__" e)) (hrest : rest.length ≤ sizeLine)
    (hq : ∀ h' t1, (∀ b o, b ≠ e → h.get? b = some o → h'.get? b = some o) → h'.get? e = some (excO C t1) → Q .none ⟨h', g, d, t, os⟩) :
    wpAny (model prog w) A (call (.ref u) rest) Q E ⟨h, g, d, t, os⟩ := by
  refine wpAny_call (codeAny_of_tree ?_)
  show wpAny _ A.in1 (callAny (.ref u) ⟨rest, []⟩) _ _ _
  simp only [callAny]
  refine wpAny_bind (wpAny_load hu ?_)
  simp only [kxs_mw, show (Value.type "method-wrapper" == Value.type "method" || Value.type "method-wrapper" == Value.type "builtin_function_or_method" || Value.type "method-wrapper" == Value.type "method-wrapper") = true by decide, if_true]
  refine W.KFB.if_so (by decide) ?_
  refine wpAny_bind (ESX.check_bound F.excBase_ValueError hC he rfl ?_)
  refine wpAny_bind (wpAny_pure (wpAny_pure ?_))
  refine ⟨Code.quiet_builtin _ (by decide +kernel), codeAny_builtin F.excBase_ValueError.initEntry ?_⟩
  rw [Around.under_plainId F.excBase_ValueError.init.plain _]
  wp_walk
  refine hq _ h.objs.size (fun b o hb ho => ?_) ?_
  · rw [Heap.get?_update_other _ _ (Ne.symm hb)]
    exact Heap.get?_push_of_some _ ho
  · rw [Heap.get?_update_self _ (Heap.get?_push_of_some _ he) rfl]
    rfl
theorem cask_init (T : CaskTxt prog K mg C D fI) {x t0 : Addr} {v : Value} (X : K.In s.heap) (G : s.heap.Ns mainGlobals mg) (Bt : ∃ mb, s.heap.Ns builtinsNs mb ∧ ∀ x : Str, x ≠ "__name__" → mb x = bootBuiltins x) (hlim : s.heap.NoLimit)
    (hx : s.heap.get? x = some (excO C t0)) (hnx : K.lookup x = none) (hroom : A.depth < recursionLimit)
    (hq : ∀ h' tk dx t1, InitEnd s.heap h' x C dx t1 v → R (.ok (.ret .none)) { s with heap := h', toks := tk }) :
    codeAny (model prog w) A (.call (.ref fI) ⟨[.ref x, v], []⟩) R s := by
  obtain ⟨oc, od, doc, pm, an, cda, cc, ct, osl, p1, p2, q0, q1, q2, q3, q4, q5, r1, r2, r3, r4, m, vs, file, tf, ccl, cl, cdd, cld, ccs, csl, ho, hcd, hcode, hvs, hfile, hcell, pl, hev⟩ := T.fn
  obtain ⟨nm, q, N, bs, bm, sn, sub, ab, col, dd, k0, k1, k2, k3, k5, hC, hbm⟩ := T.cls
  have hcl : clsIn K C = some { name := nm, bases := bs, mro := .ref C :: bm, ns := N, qualname := q, hasDict := true, slotNames := sn, subclasses := sub, abstract := ab, collection := col, hasDel := false } := by unfold clsIn; rw [hC] <;> rfl
  obtain ⟨cdD, hD⟩ := T.dcl
  obtain ⟨mb, B1, B2⟩ := Bt
  refine ks_codeAny_call_defAt (fd := ksFn "__init__" "CaskError.__init__" (iA p1 p2) (iB m q0 q1 q2 q3 q4 q5 r1 r2 r3 r4) iS .none .none doc pm an (.ref cda) ct cc) (body := iB m q0 q1 q2 q3 q4 q5 r1 r2 r3 r4) (binds := [("self", .ref x), ("value", v)]) hroom (X _ _ ho) rfl hlim (codeRec_of X hcd) rfl
    (BindsTo.of_eq (by first | rfl | with_unfolding_all rfl)) (show ∀ y ∈ iS.names, y.2 ≠ .cell by decide) (fun y hy => by
      simp only [List.mem_cons, List.not_mem_nil, or_false] at hy
      rcases hy with rfl | rfl <;> rfl) (fun h₁ hns hk₁ => ?_)
  have X₁ : K.In h₁ := X.keeps hk₁
  have hx₁ := hk₁ _ _ hx
  have hxL : s.heap.objs.size ≠ x := Nat.ne_of_gt (Heap.lt_size hx)
  obtain ⟨hp, g, d, t, os⟩ := s
  let env := ksEnv "CaskError.__init__" iS hp.objs.size fI (.ref cda) cc
  let body := iB m q0 q1 q2 q3 q4 q5 r1 r2 r3 r4
  show _root_.PySem.wpAt (model prog w) (A.deeper env) (.func body env) (execs body env) _ _ _
  refine ks_wpAt_execs_cons (ks_wpAt_Expr_any (ks_wpAt_MethodCall (he := hev env) ?_) (by with_unfolding_all rfl) (by with_unfolding_all rfl))
  obtain ⟨oD, hD1, hD2⟩ : ∃ oD, h₁.get? D = some oD ∧ oD.data = .cls cdD := by
    unfold clsIn at hD
    split at hD
    · rename_i c d cd' sl ho
      cases hD
      exact ⟨_, X₁ _ _ ho, rfl⟩
    · cases hD
  have I₁ : InstAt h₁ x (excO C t0) C none := ⟨hx₁, rfl, rfl, trivial⟩
  refine ks_wpAt_super_base (vs := vs) (file := file) (tf := tf) rfl rfl (by decide) rfl (X₁ _ _ ho) rfl rfl rfl (X₁ _ _ hcode) rfl hvs hfile T.top ?_
  refine ks_loadName_global rfl rfl (loadGlobal_builtin (G.keeps hk₁) T.nosup (B1.keeps hk₁) ((B2 "super" (by decide)).trans (by decide +kernel)) ⟨rfl, ?_⟩)
  refine wpAny_loadName_free rfl rfl rfl ⟨_, X₁ _ _ hcell, rfl⟩ ?_
  refine wpAny_loadName_local (v := .ref x) rfl rfl hns (by first | rfl | with_unfolding_all rfl | kernel_rfl) ?_
  refine ks_wpAny_isType_cls hD1 hD2 ⟨rfl, ?_⟩
  refine ks_wpAny_call_super hD1 hD2 I₁.at_ I₁.cls (fun c e => ?_) (looks_mroIn X₁ T.dC) (fun h₂ hso k₂ => ?_)
  · cases e
  have X₂ : K.In h₂ := X₁.keeps k₂
  have hx₂ := k₂ _ _ hx₁
  have I₂ : InstAt h₂ x (excO C t0) C none := ⟨hx₂, rfl, rfl, trivial⟩
  have hm := T.sup
  unfold ks_superIn at hm
  rw [hcl] at hm
  refine kxs_getMethod kxs_ValueError hso (looks_opaque X₂ T.opq) (l₀ := .ref C :: bm) (fun A Q E s k q => wpAny_bind ((looks_clsIn X₂ hcl) A _ E s k (wpAny_pure q))) rfl X₂ hm (I₂.type.andThen (looks_subIn X₂ T.veC)) (ks_ne X₂ I₂ hcl) (by decide) ?_
  -- the wrapper is called
  have hu : (h₂.push (kxs_mw "ValueError.__init__" x)).get? h₂.objs.size = some (kxs_mw "ValueError.__init__" x) := Heap.get?_push_at rfl rfl
  have k₃ : ∀ b o, h₂.get? b = some o → (h₂.push (kxs_mw "ValueError.__init__" x)).get? b = some o := fun b o e => Heap.get?_push_of_some _ e
  have hx₃ := k₃ _ _ hx₂
  have X₃ : K.In (h₂.push (kxs_mw "ValueError.__init__" x)) := X₂.keeps k₃
  refine kxs_callWith (i := "ValueError.__init__") (x := x) (by first | rfl | with_unfolding_all rfl) ?_
  refine evalArgs_plain (spliced_more (wpAny_Constant_str (spliced_none ⟨hu, ?_⟩)) (by first | rfl | with_unfolding_all rfl))
  refine call_mw (X₃ _ _ hC) hx₃ hu (one_size _) fun h₄ t1 k₄ hx₄ => ?_
  -- self.value = value
  have k04 : ∀ b o, b ≠ x → hp.get? b = some o → h₄.get? b = some o := fun b o hb e => k₄ b o hb (k₃ _ _ (k₂ _ _ (hk₁ b o e)))
  have X₄ : K.In h₄ := kept_but X₃ hnx k₄
  have hns4 := hns.at (h' := h₄) fun o q => k₄ _ _ hxL (k₃ _ _ (k₂ _ _ q))
  refine ks_wpAt_execs_cons (wpAt_of_wpAny (plainObj_wpAny_Assign_Attribute ?_ (by first | rfl | with_unfolding_all rfl)))
  refine wpAny_Name (wpAny_loadName_local (v := v) rfl rfl hns4 (by first | rfl | with_unfolding_all rfl | kernel_rfl) ?_) (by decide)
  refine wpAny_Name (wpAny_loadName_local (v := .ref x) rfl rfl hns4 (by first | rfl | with_unfolding_all rfl | kernel_rfl) ?_) (by decide)
  refine set_plain X₄ (ox := excO C t1) (od := none) ⟨hx₄, rfl, rfl, trivial⟩ T.sa ?_
  refine exc_osa X₄ hx₄ hcl (show refsVE (.ref C :: bm) = true from hbm) rfl T.noN (fun h₅ tk₅ dx k₅ dn dne hx₅ hn₅ => ?_)
  have zz : hp.objs.size ≤ dx := by
    have z1 : hp.objs.size < h₁.objs.size := hns.lt
    have z4 : hp.objs.size < h₄.objs.size := hns4.lt
    exact Nat.le_of_lt (Nat.lt_of_lt_of_le z4 dn)
  refine wpAt_of_wpAny (wpAny_execs_nil (hq h₅ tk₅ dx t1 ⟨fun b o hb e => k₅ b o hb (k04 b o hb e), hx₅, zz, dne, hn₅⟩))
theorem cask_made (T : CaskTxt prog K mg C D fI) {v : Value} (X : K.In s.heap) (G : s.heap.Ns mainGlobals mg) (Bt : ∃ mb, s.heap.Ns builtinsNs mb ∧ ∀ x : Str, x ≠ "__name__" → mb x = bootBuiltins x) (hlim : s.heap.NoLimit) (hroom : A.depth + 1 < recursionLimit)
    (hq : ∀ h' tk e d, OwnMade s.heap h' e C d v → R (.ok (.ret (.ref e))) { s with heap := h', toks := tk }) :
    codeAny (model prog w) A (.call (.ref C) ⟨[v], []⟩) R s := by
  obtain ⟨nm, q, N, bs, bm, sn, sub, ab, col, dd, k0, k1, k2, k3, k5, hC, hbm⟩ := T.cls
  obtain ⟨hp, g, dr, tk, os⟩ := s
  have k : ∀ b o, hp.get? b = some o → ((hp.push (kdv_tup [v])).push (excO C hp.objs.size)).get? b = some o := fun b o e => Heap.get?_push_of_some _ (Heap.get?_push_of_some _ e)
  have hget : ((hp.push (kdv_tup [v])).push (excO C hp.objs.size)).get? (hp.objs.size + 1) = some (excO C hp.objs.size) := by heap_get
  have hnx : K.lookup (hp.objs.size + 1) = none := by
    cases e : K.lookup (hp.objs.size + 1) with
    | none => rfl
    | some o =>
      have z : hp.get? (hp.objs.size + 1) = some o := X _ _ e
      exact absurd (Nat.lt_of_succ_lt (Heap.lt_size z)) (Nat.lt_irrefl _)
  obtain ⟨mb, B1, B2⟩ := Bt
  refine call_own F.excBase_ValueError (fun X => refsVE_contains X bm hbm) (X _ _ hC) (looks_findIn X T.iC) (fun self => bind_fn X self T.tC) (one_size v) ?_
  refine cask_init (s := ⟨(hp.push (kdv_tup [v])).push (excO C hp.objs.size), g, dr, tk, os⟩) T (X.keeps k) (G.keeps k) ⟨mb, B1.keeps k, B2⟩ (hlim.keeps k) hget hnx ?_ fun h' tk' dx t1 ⟨k', hx, dn, dne, hns⟩ => ?_
  · show A.depth + 1 < recursionLimit
    exact hroom
  · have old : ∀ b o, hp.get? b = some o → h'.get? b = some o := fun b o e => k' b o (Nat.ne_of_lt (Nat.lt_succ_of_lt (Heap.lt_size e))) (k b o e)
    have z : hp.objs.size + 1 + 1 ≤ dx := by
      first
        | (simpa only [Heap.size_push] using dn)
        | exact dn
        | (have q := dn; rw [Heap.size_push, Heap.size_push] at q; exact q)
    exact ⟨rfl, hq h' tk' (hp.objs.size + 1) dx ⟨old, Nat.le_succ _, ⟨_, _, hx, rfl, rfl, rfl, rfl⟩, Nat.le_trans (Nat.le_trans (Nat.le_succ _) (Nat.le_succ _)) z, dne, hns⟩⟩
end
end CaskX
end PySem
namespace L2
open PySem PySem.Spec PyProof.Rows
theorem relO_cask {v : V} {v' : Value} (r : RelV v v') (f : Str) : RelO (List.lookup f [(("value" : Str), v)]) (if f = "value" then some v' else none) := by
  by_cases hw : f = "value"
  · subst hw
    rw [if_pos rfl]
    have q : List.lookup ("value" : Str) [(("value" : Str), v)] = some v := by simp [List.lookup]
    rw [q]
    exact r
  · rw [if_neg hw]
    have qw : (f == ("value" : Str)) = false := by simpa using hw
    have q2 : List.lookup f [(("value" : Str), v)] = none := by simp [List.lookup, qw]
    rw [q2]
    trivial
section
variable {X : Cx} {C D fI : Addr}
/-- C(e) -/
def tMkCask (C : Addr) (ta : TA) : St → Hp → XK → Prop := fun σ H Q => ta σ H fun vs H1 => ∃ v, vs = [v] ∧ ∀ d, H1 d = none → Q (.ref C) (some d) (upd H1 d (.xd [(("value" : Str), v)]))
theorem pmk_cask {x : Str} {a : Expr} {ta : TA} {p pos : Pos} {k : Nat} (T : PySem.CaskX.CaskTxt X.prog X.K X.mg C D fI) (gC : X.mg x = some (.ref C)) (hr : Room k X.A) (ha : PA X [a] ta) (hg : Gl X x := by rfl) (hdb : (x == ("__debug__" : Str)) = false := by decide)
    (he : starEach (a :: []) X.env = (false, eval a X.env) :: starEach [] X.env := by rfl) (hpl : (backTo pos (starEach [] X.env)).any (·.1) = false := by rfl) :
    PMk X (.Call (.Name x p) [a] [] pos) (tMkCask C ta) := by
  intro pins s σ H Q I h
  refine wpAny_Call_Name_kw (ld_glob I hg gC ?_ hdb)
  refine PySem.W.callWith_K (h₀ := X.base) I.ok.mod.kin T.kC (thn (ha.run pos pins s σ H _ I h) fun us s1 hh => ?_) he hpl
  obtain ⟨vs, H1, I1, r1, v, ev, q1⟩ := hh
  subst ev
  refine ⟨I1.kIn, ?_⟩
  cases r1 with
  | cons rv rn =>
    rename_i v' us'
    cases rn
    show wpAny _ _ (call (.ref C) [v']) _ _ _
    have hlim := I1.nolimit
    have hG : s1.heap.Ns mainGlobals X.mg := I1.ok.mod.glob.keeps I1.bk
    have hB : ∃ mb, s1.heap.Ns builtinsNs mb ∧ ∀ x : Str, x ≠ "__name__" → mb x = bootBuiltins x := by
      obtain ⟨mb, h1, h2⟩ := I1.ok.mod.blt
      exact ⟨mb, h1.keeps I1.bk, h2⟩
    obtain ⟨hp, g, dr, tk, os⟩ := s1
    refine wpAny_call (PySem.CaskX.cask_made T I1.kIn hG hB hlim (by have := hr.dp; omega) fun h' tk' e d M => ?_)
    show MkP X pins σ Q (.ref e) ⟨h', g, dr, tk', os⟩
    obtain ⟨oe, fv, hoe, hc, hd, hdat, h1⟩ := M.obj
    have hns := M.ns
    obtain ⟨G', g1, g2⟩ := restrict h' fun b => decide (b ≠ e)
    have gk : ∀ b, b ≠ e → G'.get? b = h'.get? b := fun b hb => g1 b (decide_eq_true hb)
    have ge : G'.get? e = none := g2 e (by simp)
    have old : ∀ b o, hp.get? b = some o → G'.get? b = some o := fun b o q => (gk b (Nat.ne_of_lt (Nat.lt_of_lt_of_le (Heap.lt_size q) M.new))).trans (M.keep b o q)
    have ob : ObjOk X.prog X.w (upd H1 d (.xd [(("value" : Str), v)])) G' d (.xd [(("value" : Str), v)]) :=
      ⟨_, hns.at (fun o q => (gk d M.dne).trans q), fun f => relO_cask rv f⟩
    have J : Inv X pins σ (upd H1 d (.xd [(("value" : Str), v)])) ⟨G', g, dr, tk', os⟩ := I1.laid (t' := tk') old M.dbig ob
    refine ⟨e, oe, fv, ⟨G', g, dr, tk', os⟩, _, .ref C, some d, rfl, J, fun b o q => ?_, ge, hoe, ⟨hc, hd⟩, hdat, h1, ?_, rfl, I1.bare, raises_own T.exC T.tyC, q1 d (I1.hok.fresh M.dbig)⟩
    · by_cases hb : b = e
      · have q' : G'.get? b = some o := q
        rw [hb, ge] at q'; cases q'
      · exact (gk b hb).symm.trans q
    · rw [upd_ne (Ne.symm M.dne)]
      exact I1.hok.fresh M.new
end
end L2
set_option Elab.async false
set_option linter.all false
set_option maxRecDepth 100000
namespace Dn
open PySem PySem.Spec PyProof.Rows L2
open PySem.W (Frag)
variable [Tb]
def wipeE (env : En) : List Nat → En
  | [] => env
  | v :: vs => (wipeE env vs).set v .no
def restE (e1 e2 : En) : List Nat → En
  | [] => e2
  | v :: vs => match e1[v]? with
    | some s => (restE e1 e2 vs).set v s
    | none => restE e1 e2 vs
def noOwn (env : En) (vs : List Nat) : Bool := vs.all fun i => match env[i]? with
  | some (.own _ _) => false
  | _ => true
theorem wipe_get {σ : L2.St} {j : Nat} : ∀ {vs : List Nat}, (wipe σ vs)[j]? = if j ∈ vs then σ[j]?.map (fun _ => none) else σ[j]?
  | [] => by simp [wipe]
  | v :: vs => by
    unfold wipe
    by_cases h : v = j
    · subst h
      rw [List.getElem?_set, if_pos rfl, if_pos List.mem_cons_self, wipe_length]
      by_cases hl : v < σ.length
      · rw [if_pos hl, List.getElem?_eq_getElem hl]; rfl
      · rw [if_neg hl, List.getElem?_eq_none (by omega)]; rfl
    · rw [List.getElem?_set_ne h, wipe_get (vs := vs)]
      by_cases hm : j ∈ vs
      · rw [if_pos hm, if_pos (List.mem_cons_of_mem _ hm)]
      · rw [if_neg hm, if_neg (by simp only [List.mem_cons, not_or]; exact ⟨fun z => h z.symm, hm⟩)]
theorem wipe_set {σ : L2.St} {i : Nat} {x : Option V} {vs : List Nat} (h : i ∈ vs) : wipe (σ.set i x) vs = wipe σ vs := by
  apply List.ext_getElem?
  intro j
  rw [wipe_get, wipe_get]
  by_cases hj : j ∈ vs
  · rw [if_pos hj, if_pos hj, List.getElem?_set]
    by_cases hij : i = j
    · subst hij
      rw [if_pos rfl]
      by_cases hl : i < σ.length
      · rw [if_pos hl, List.getElem?_eq_getElem hl]; rfl
      · rw [if_neg hl, List.getElem?_eq_none (by omega)]
    · rw [if_neg hij]
  · rw [if_neg hj, if_neg hj, List.getElem?_set_ne]
    intro z; subst z; exact hj h
theorem wipe_wipe {σ : L2.St} {vs ws : List Nat} (h : ∀ i ∈ ws, i ∈ vs) : wipe (wipe σ ws) vs = wipe σ vs := by
  apply List.ext_getElem?
  intro j
  rw [wipe_get, wipe_get, wipe_get]
  by_cases hj : j ∈ vs
  · rw [if_pos hj, if_pos hj]
    by_cases hw : j ∈ ws
    · rw [if_pos hw, Option.map_map]; rfl
    · rw [if_neg hw]
  · rw [if_neg hj, if_neg hj, if_neg fun z => hj (h j z)]
theorem restE_len {e1 e2 : En} : ∀ vs : List Nat, (restE e1 e2 vs).length = e2.length
  | [] => rfl
  | v :: vs => by
    unfold restE
    cases h : e1[v]? with
    | none => exact restE_len vs
    | some s => simp [restE_len vs]
theorem restE_get {e1 e2 : En} (hl : e1.length = e2.length) {j : Nat} : ∀ {vs : List Nat}, (restE e1 e2 vs)[j]? = if j ∈ vs then e1[j]? else e2[j]?
  | [] => by simp [restE]
  | v :: vs => by
    unfold restE
    by_cases h : v = j
    · subst h
      rw [if_pos List.mem_cons_self]
      cases hv : e1[v]? with
      | none =>
        dsimp only
        rw [restE_get hl]
        by_cases hm : v ∈ vs
        · rw [if_pos hm, hv]
        · rw [if_neg hm]
          have := List.getElem?_eq_none_iff.mp hv
          exact List.getElem?_eq_none (by omega)
      | some s =>
        dsimp only
        have := (List.getElem?_eq_some_iff.mp hv).1
        rw [List.getElem?_set_self (by rw [restE_len]; omega)]
    · have hne : (if j ∈ v :: vs then e1[j]? else e2[j]?) = if j ∈ vs then e1[j]? else e2[j]? := by
        by_cases hm : j ∈ vs
        · rw [if_pos hm, if_pos (List.mem_cons_of_mem _ hm)]
        · rw [if_neg hm, if_neg (by simp only [List.mem_cons, not_or]; exact ⟨fun z => h z.symm, hm⟩)]
      rw [hne]
      cases hv : e1[v]? with
      | none => exact restE_get hl
      | some s =>
        dsimp only
        rw [List.getElem?_set_ne h]
        exact restE_get hl
section
variable {K : Frag} {c : C3} {F F' F1 F2 H H' H1 H2 : Hp} {σ : L2.St} {env env' e1 e2 : En}
theorem Rl.forget (R : Rl K c F σ H env) (i : Nat) : Rl K c F (σ.set i none) H (env.set i .no) := by
  refine ⟨R.sub, R.f0, R.gd, R.g0, R.new, R.dom, by simp [R.len], fun j e hj => ?_, fun j p ds hj => ?_, R.tab, R.nf, R.ng⟩
  · by_cases hij : i = j
    · subst hij
      cases get_set_self hj
    · rw [get_set_ne hij] at hj
      obtain ⟨u, h1, h2⟩ := R.val j e hj
      exact ⟨u, by rw [get_set_ne hij]; exact h1, h2⟩
  · by_cases hij : i = j
    · subst hij
      cases get_set_self hj
    · rw [get_set_ne hij] at hj
      obtain ⟨a, xs, e1, e2, e3, e4, e5, e6, e7⟩ := R.own j p ds hj
      refine ⟨a, xs, by rw [get_set_ne hij]; exact e1, e2, e3, e4, e5, e6, fun k q es hk hq => ?_⟩
      by_cases hik : i = k
      · subst hik
        cases get_set_self hq
      · rw [get_set_ne hik] at hq ⊢
        exact e7 k q es hk hq
theorem Rl.wipe' (R : Rl K c F σ H env) : ∀ vs : List Nat, Rl K c F (wipe σ vs) H (wipeE env vs)
  | [] => R
  | v :: vs => (R.wipe' vs).forget v
theorem Rl.rest (R1 : Rl K c F1 σ H1 e1) (hno : noOwn e1 vs = true) (s : Same F1 F2) (R2 : Rl K c F2 (wipe σ vs) H2 e2) : Rl K c F2 σ H2 (restE e1 e2 vs) := by
  have hl : e1.length = e2.length := by rw [R1.len, R2.len, wipe_length]
  have out : ∀ i, i ∉ vs → (wipe σ vs)[i]? = σ[i]? := fun i h => by rw [wipe_get, if_neg h]
  have noo : ∀ i p ds, i ∈ vs → e1[i]? ≠ some (.own p ds) := fun i p ds hi z => by
    have := List.all_eq_true.mp hno i hi
    rw [z] at this
    cases this
  refine ⟨R2.sub, R2.f0, R2.gd, R2.g0, R2.new, R2.dom, by rw [restE_len, R2.len, wipe_length], fun j d hj => ?_, fun j p ds hj => ?_, R2.tab, R2.nf, R2.ng⟩
  · rw [restE_get hl] at hj
    by_cases hm : j ∈ vs
    · rw [if_pos hm] at hj
      obtain ⟨u, h1, h2⟩ := R1.val j d hj
      exact ⟨u, h1, h2.up s⟩
    · rw [if_neg hm] at hj
      obtain ⟨u, h1, h2⟩ := R2.val j d hj
      exact ⟨u, by rw [← out j hm]; exact h1, h2⟩
  · rw [restE_get hl] at hj
    by_cases hm : j ∈ vs
    · rw [if_pos hm] at hj
      exact absurd hj (noo j p ds hm)
    · rw [if_neg hm] at hj
      obtain ⟨a, xs, f1, f2, f3, f4, f5, f6, f7⟩ := R2.own j p ds hj
      refine ⟨a, xs, by rw [← out j hm]; exact f1, f2, f3, f4, f5, f6, fun k q es hk hq => ?_⟩
      rw [restE_get hl] at hq
      by_cases hkm : k ∈ vs
      · rw [if_pos hkm] at hq
        exact absurd hq (noo k q es hkm)
      · rw [if_neg hkm] at hq
        rw [← out k hkm]
        exact f7 k q es hk hq
/-- behind a call that changed nothing known -/
theorem Rl.after (R : Rl K c F σ H env) (s : Same F F') (sub : Bs F' H') (keep : Kp H H') (new : ∀ b, F' b ≠ none → F b ≠ none ∨ H b = none) : Rl K c F' σ H' env := by
  refine ⟨sub.sub, R.f0.trans s, fun b o e => keep.keep b o (fun ps z => R.ng b ps (by rw [e, z])) (R.gd b o e), R.g0, fun a ha => ?_, fun a ha => ?_, R.len, fun i d h => ?_, fun i p ds h => ?_, sub.tab, sub.nf, R.ng⟩
  · rcases new a ha with z | z
    · exact R.new a z
    · exact .inr (R.h0 z)
  · exact keep.dom a (R.dom a ha)
  · obtain ⟨v, h1, h2⟩ := R.val i d h
    exact ⟨v, h1, h2.up s⟩
  · obtain ⟨a, xs, e1, e2, e3, e4, e5, e6, e7⟩ := R.own i p ds h
    refine ⟨a, xs, e1, ?_, keep.keep a _ NT.lst e3, e4.up s, e5, e6, e7⟩
    cases e : F' a with
    | none => rfl
    | some o =>
      rcases new a (by rw [e]; simp) with z | z
      · exact absurd e2 z
      · rw [e3] at z; cases z
/-- behind a call that changed the list that slot i owns -/
theorem Rl.afterM {i : Nat} {p : Bool} {ks ks' : List PyData} {a : Addr} {xs' : List V} (R : Rl K c F σ H env) (hi : env[i]? = some (.own p ks)) (ha : σ[i]? = some (some (.ref a))) (s : Same F F') (sub : Bs F' H') (keep : KpM a H H')
    (new : ∀ b, F' b ≠ none → F b ≠ none ∨ H b = none) (hx : H' a = some (.lst xs')) (hd : DpAll K F' xs' ks') : Rl K c F' σ H' (env.set i (.own p ks')) := by
  obtain ⟨a', xs, e1, e2, e3, e4, e5, e6, e7⟩ := R.own i p ks hi
  rw [ha] at e1
  cases e1
  have nF : ∀ b ys, F b = none → H b = some (.lst ys) → F' b = none := fun b ys h1 h2 => by
    cases e : F' b with
    | none => rfl
    | some o =>
      rcases new b (by rw [e]; simp) with z | z
      · exact absurd h1 z
      · rw [h2] at z; cases z
  refine ⟨sub.sub, R.f0.trans s, fun b o e => ?_, R.g0, fun b hb => ?_, fun b hb => ?_, by simp [R.len], fun j d h => ?_, fun j q ds h => ?_, sub.tab, sub.nf, R.ng⟩
  · exact keep.keep b o (fun ps z => R.ng b ps (by rw [e, z])) (ne_of_none e e5) (R.gd b o e)
  · rcases new b hb with z | z
    · exact R.new b z
    · exact .inr (R.h0 z)
  · exact keep.dom b (R.dom b hb)
  · by_cases hij : i = j
    · subst hij
      cases get_set_self h
    · rw [get_set_ne hij] at h
      obtain ⟨v, h1, h2⟩ := R.val j d h
      exact ⟨v, h1, h2.up s⟩
  · by_cases hij : i = j
    · subst hij
      have := get_set_self h
      cases this
      refine ⟨a, xs', ha, nF a xs e2 e3, hx, hd, e5, e6, fun k q es hk hq => ?_⟩
      have hik : i ≠ k := fun z => hk z.symm
      rw [get_set_ne hik] at hq
      exact e7 k q es hk hq
    · rw [get_set_ne hij] at h
      obtain ⟨b, zs, f1, f2, f3, f4, f5, f6, f7⟩ := R.own j q ds h
      have hne : b ≠ a := fun z => by
        subst z
        exact e7 j q ds (fun z => hij z.symm) h f1
      refine ⟨b, zs, f1, nF b zs f2 f3, keep.keep b _ NT.lst hne f3, f4.up s, f5, f6, fun k q es hk hq => ?_⟩
      by_cases hik : i = k
      · subst hik
        rw [ha]
        intro z
        cases z
        exact hne rfl
      · rw [get_set_ne hik] at hq
        exact f7 k q es hk hq
end
abbrev Tg := PyData → En → Option En
abbrev Tgs := List PyData → En → Option En
def tG (K : Frag) (t : Tg) (S : List Nat) : TG := fun v σ H Q => ∃ c F env d env', Rl K c F σ H env ∧ Dp K F v d ∧ t d env = some env' ∧ ∀ σ', Rl K c F σ' H env' → (∀ vs : List Nat, (∀ i ∈ S, i ∈ vs) → wipe σ' vs = wipe σ vs) → Q σ' H
def tGs (K : Frag) (t : Tgs) (S : List Nat) : TGs := fun xs σ H Q => ∃ c F env ds env', Rl K c F σ H env ∧ DpAll K F xs ds ∧ t ds env = some env' ∧ ∀ σ', Rl K c F σ' H env' → (∀ vs : List Nat, (∀ i ∈ S, i ∈ vs) → wipe σ' vs = wipe σ vs) → Q σ' H
def g1 (i : Nat) : Tg := fun d env => some (env.set i (.val d))
def gsN : Tgs := fun ds env => match ds with
  | [] => some env
  | _ => none
def gsC (t : Tg) (u : Tgs) : Tgs := fun ds env => match ds with
  | d :: ds => (t d env).bind fun e => u ds e
  | [] => none
def g2 (n : Nat) (t : Tgs) : Tg := fun d env => match d with
  | .tuple ds => if ds.length = n then t ds env else none
  | _ => none
theorem PGs.imp {X : Cx} {ts : List Expr} {t u : TGs} (h : PGs X ts t) (w : ∀ v σ H Q, u v σ H Q → t v σ H Q) : PGs X ts u := ⟨fun pins s σ H v v' Q I r q => h.run pins s σ H v v' Q I r (w v σ H Q q)⟩
section
variable {X : Cx} {pos : Pos}
theorem dg_name (i : Nat) {x : Str} (hN : X.N.Nodup) (hi : X.N[i]? = some x := by rfl) (hx : Loc X.env.scope x := by first | exact Or.inl rfl | exact Or.inr rfl) (hf : X.fn x = true ∨ X.env.scope.names.lookup x = some .local := by first | exact .inl rfl | exact .inr rfl | assumption) : PG X (.Name x pos) (tG X.K (g1 i) [i]) :=
  (pg_name hN hi hx hf).imp fun v σ H Q ⟨c, F, env, d, env', R, hd, e, k⟩ => by
    cases e
    exact k _ (R.put hd i) fun vs h => wipe_set (h i (by simp))
theorem dgs_nil : PGs X [] (tGs X.K gsN []) := PGs.imp pgs_nil fun v σ H Q ⟨c, F, env, d, env', R, hd, e, k⟩ => by
  unfold gsN at e
  split at e
  · cases e
    cases hd
    exact ⟨rfl, k σ R fun _ _ => rfl⟩
  · cases e
theorem dgs_cons {e : Expr} {es : List Expr} {t : Tg} {u : Tgs} {S T : List Nat} (h1 : PG X e (tG X.K t S)) (h2 : PGs X es (tGs X.K u T))
    (hs : (assignEach (e :: es) X.env).map (·.2) = assign e X.env :: (assignEach es X.env).map (·.2) := by rfl) : PGs X (e :: es) (tGs X.K (gsC t u) (S ++ T)) := PGs.imp (pgs_cons h1 h2 hs) fun v σ H Q ⟨c, F, env, ds, env', R, hd, e, k⟩ => by
  unfold gsC at e
  split at e
  · rename_i d ds
    simp only [Option.bind_eq_some_iff] at e
    obtain ⟨e1, h3, h4⟩ := e
    cases hd with
    | @cons v vs _ _ hv hvs =>
      refine ⟨v, vs, rfl, c, F, env, d, e1, R, hv, h3, fun σ1 R1 w1 => ⟨c, F, e1, ds, env', R1, hvs, h4, fun σ2 R2 w2 => k σ2 R2 fun vs' hv' => ?_⟩⟩
      rw [w2 vs' fun i hi => hv' i (List.mem_append_right _ hi), w1 vs' fun i hi => hv' i (List.mem_append_left _ hi)]
  · cases e
theorem dg_tup {es : List Expr} {k0 : Nat} {t : Tgs} {n : Nat} {S : List Nat} (hc : X.calm = true) (h : PGs X es (tGs X.K t S))
    (hn : (assignEach es X.env).length = n := by rfl) (hst : (assignEach es X.env).findIdx? (·.1) = none := by rfl) : PG X (.Tuple es k0 pos) (tG X.K (g2 n t) S) := (pg_tup hc h hn hst).imp fun v σ H Q ⟨c, F, env, d, env', R, hd, e, k⟩ => by
  unfold g2 at e
  split at e
  · split at e
    · cases hd with
      | tup hs ha => exact ⟨_, _, rfl, sqT_mono R.sub hs, by rw [ha.len]; assumption, c, F, env, _, env', R, ha, e, k⟩
    · cases e
  · cases e
end
/-- a value that a def hands back: data, a new list, a new list of new lists -/
inductive Tv where
  | v (d : PyData)
  | l (ds : List PyData)
  | ll (dss : List (List PyData))
def dataT : Tv → PyData
  | .v d => d
  | .l ds => .list ds
  | .ll dss => .list (dss.map .list)
/-- a new list of new lists: its address, theirs, what they hold -/
def TrL (K : Frag) (F H0 H : Hp) (l : Addr) (dss : List (List PyData)) : Prop := F l = none ∧ H0 l = none ∧ ∃ (as : List Addr) (xss : List (List V)), H l = some (.lst (as.map .ref)) ∧ as.Nodup ∧ l ∉ as ∧ as.length = dss.length ∧ xss.length = dss.length ∧
  ∀ (i : Nat) (a : Addr) (xs : List V) (ds : List PyData), as[i]? = some a → xss[i]? = some xs → dss[i]? = some ds → F a = none ∧ H0 a = none ∧ H a = some (.lst xs) ∧ DpAll K F xs ds
def TrV (K : Frag) (F H0 H : Hp) (v : V) : Tv → Prop
  | .v d => Dp K F v d
  | .l ds => ∃ p xs, v = .ref p ∧ F p = none ∧ H0 p = none ∧ H p = some (.lst xs) ∧ DpAll K F xs ds
  | .ll dss => ∃ p, v = .ref p ∧ TrL K F H0 H p dss
inductive Flw where
  | nx
  | rt (d : PyData)
  | rl (ds : List PyData)
  | bk
  | ct
  | ex (cl : Str) (d : PyData)
  | tr (t : Tv)
abbrev Fs := En → Option (Flw × En)
/-- what is wished of an exception that goes out; where its class stands -/
structure XC where
  W : L2.WX
  ca : Str → Addr
  nl : Bool
def xc0 (ca : Str → Addr) : XC := ⟨fun _ _ _ _ => False, ca, false⟩
/-- an exception's dict -/
abbrev xdO (v : V) : HO := .xd [(("value" : Str), v)]
/-- what v holds leans on no list that stood in H0 -/
def ExN (K : Frag) (H0 F : Hp) (v : V) (d : PyData) : Prop := ∃ N, Same N F ∧ Dp K N v d ∧ ∀ b xs, N b = some (.lst xs) → H0 b = none
theorem ExN.up {K : Frag} {H0 H1 F F' : Hp} {v : V} {d : PyData} (h : ExN K H0 F v d) (s : Same F F') (k : ∀ b, H0 b = none → H1 b = none) : ExN K H1 F' v d := by
  obtain ⟨N, h1, h2, h3⟩ := h
  exact ⟨N, h1.trans s, h2, fun b xs e => k b (h3 b xs e)⟩
def NwIf (nl : Bool) (K : Frag) (H0 F : Hp) (v : V) (d : PyData) : Prop := nl = true → ExN K H0 F v d
def Fin (K : Frag) (xc : XC) (c : C3) (F : Hp) (fl : Flw) (env : En) (D : Ends) : Prop := match fl with
  | .nx => ∀ σ F' H, Same F F' → Rl K c F' σ H env → D.nx σ H
  | .rt d => ∀ σ F' H v, Same F F' → Rl K c F' σ H env → Dp K F' v d → D.rt v H
  | .rl ds => ∀ σ F' H p xs, Same F F' → H p = none → Rl K c F' σ H env → DpAll K F' xs ds → D.rt (.ref p) (upd H p (.lst xs))
  | .bk => ∀ σ F' H, Same F F' → Rl K c F' σ H env → D.bk σ H
  | .ct => ∀ σ F' H, Same F F' → Rl K c F' σ H env → D.ct σ H
  | .ex cl d => ∀ σ F' H v dd, Same F F' → Rl K c F' σ H env → H dd = none → Dp K F' v d → NwIf xc.nl K c.H0 F' v d → xc.W (.ref (xc.ca cl)) (some dd) σ (upd H dd (xdO v))
  | .tr t => ∀ σ F' H v, Same F F' → Rl K c F' σ H env → TrV K F' c.H0 H v t → D.rt v H
theorem Fin.up {K : Frag} {xc : XC} {c : C3} {F F' : Hp} {fl : Flw} {env : En} {D : Ends} (h : Fin K xc c F fl env D) (s : Same F F') : Fin K xc c F' fl env D := by
  cases fl with
  | nx => exact fun σ G H s' R => h σ G H (s.trans s') R
  | rt d => exact fun σ G H v s' R => h σ G H v (s.trans s') R
  | rl ds => exact fun σ G H p xs s' hp R hx => h σ G H p xs (s.trans s') hp R hx
  | bk => exact fun σ G H s' R => h σ G H (s.trans s') R
  | ct => exact fun σ G H s' R => h σ G H (s.trans s') R
  | ex cl d => exact fun σ G H v dd s' R hd hv hn => h σ G H v dd (s.trans s') R hd hv hn
  | tr t => exact fun σ G H v s' R hv => h σ G H v (s.trans s') R hv
def Gs (K : Frag) (xc : XC) (f : Fs) : TS := fun D σ H => ∃ c F env fl env', Rl K c F σ H env ∧ f env = some (fl, env') ∧ Fin K xc c F fl env' D
def sNx : Fs := fun env => some (.nx, env)
def sSeq (a b : Fs) : Fs := fun env => (a env).bind fun p => match p.1 with
  | .nx => b p.2
  | _ => some p
def sSet (e : Fe) (g : Tg) : Fs := fun env => (e env).bind fun p => (g p.1 p.2).map fun z => (.nx, z)
def sOwn (e : Fl) (i : Nat) : Fs := fun env => (e env).map fun p => (.nx, p.2.set i (.own false p.1))
def sEx (e : Fe) : Fs := fun env => (e env).map fun p => (.nx, p.2)
def sRt (e : Fe) : Fs := fun env => (e env).map fun p => (.rt p.1, p.2)
def sIf (t : Ft) (a b : Fs) : Fs := fun env => (t env).bind fun p => if p.1 then a p.2 else b p.2
def sNever : Fs := fun _ => none
/-- xs.append(e), xs[i] = e of an owned list -/
def isOwn (env : En) (i : Nat) : Bool := match env[i]? with
  | some (.own _ _) => true
  | _ => false
def sApp (i : Nat) (e : Fe) : Fs := fun env => if isOwn env i then (e env).bind fun p => match p.2[i]? with
  | some (.own b ds) => if okN ds.length then some (.nx, p.2.set i (.own b (ds ++ [p.1]))) else none
  | _ => none else none
theorem own_of {K : Frag} {c : C3} {F H : Hp} {σ : L2.St} {env : En} {i : Nat} (R : Rl K c F σ H env) (h : isOwn env i = true) : ∃ a xs, σ[i]? = some (some (.ref a)) ∧ H a = some (.lst xs) := by
  unfold isOwn at h
  split at h
  · rename_i b ds hi
    obtain ⟨a, xs, e1, e2, e3, _⟩ := R.own i b ds hi
    exact ⟨a, xs, e1, e3⟩
  · cases h
def sPut (i : Nat) (ix e : Fe) : Fs := fun env => (e env).bind fun p => if isOwn p.2 i then (ix p.2).bind fun q => match q.1, q.2[i]? with
  | .int k, some (.own b ds) => (ixN ds.length k).map fun j => (.nx, q.2.set i (.own b (ds.set j p.1)))
  | _, _ => none else none
/-- read an owned list's item, its length, it as data for good -/
def eIxO (i : Nat) (ix : Fe) : Fe := fun env => if isOwn env i then (ix env).bind fun q => match q.1, q.2[i]? with
  | .int k, some (.own _ ds) => (atI ds k).map fun d => (d, q.2)
  | _, _ => none else none
def eLenO (i : Nat) : Fe := fun env => match env[i]? with
  | some (.own _ ds) => some (.int ds.length, env)
  | _ => none
def sFrz (i : Nat) (a : Fs) : Fs := fun env => match env[i]? with
  | some (.own false ds) => a (env.set i (.val (.list ds)))
  | _ => a env
section
variable {X : Cx} {xc : XC} {e ix : Expr} {fe fi : Fe} {fl : Fl} {st : Stmt} {rest : List Stmt} {f g : Fs} {pos : Pos}
theorem dss_nil : PSs X [] (Gs X.K xc sNx) := PSs.imp pss_nil fun D σ H ⟨c, F, env, fl, env', R, e, k⟩ => by
  cases e
  exact k σ F H (Same.refl F) R
theorem dss_one (h : PS X st (Gs X.K xc f)) : PSs X [st] (Gs X.K xc f) := pss_one h
theorem dss_cons (h : PS X st (Gs X.K xc f)) (h2 : PSs X rest (Gs X.K xc g)) : PSs X (st :: rest) (Gs X.K xc (sSeq f g)) := PSs.imp (pss_cons h h2) fun D σ H ⟨c, F, env, fl, env', R, e, k⟩ => by
  unfold sSeq at e
  simp only [Option.bind_eq_some_iff] at e
  obtain ⟨⟨f1, n1⟩, h1, h2⟩ := e
  refine ⟨c, F, env, f1, n1, R, h1, ?_⟩
  cases f1 with
  | nx => exact fun σ' F' H' s R' => ⟨c, F', n1, fl, env', R', h2, k.up s⟩
  | rt d => cases h2; exact k
  | rl d => cases h2; exact k
  | bk => cases h2; exact k
  | ct => cases h2; exact k
  | ex cl d => cases h2; exact k
  | tr t => cases h2; exact k
theorem ds_expr (he : PE X e (Ge X.K fe)) (hs : swapsWith e none pos.line X.env = pure false := by rfl) : PS X (.Expr e pos) (Gs X.K xc (sEx fe)) := PS.imp (ps_expr he hs) fun D σ H ⟨c, F, env, fl, env', R, e, k⟩ => by
  unfold sEx at e
  simp only [Option.map_eq_some_iff] at e
  obtain ⟨⟨d1, n1⟩, h1, h2⟩ := e
  obtain ⟨rfl, rfl⟩ := Prod.mk.inj h2
  exact ⟨c, F, env, d1, n1, R, h1, fun v F' H' s R' hv => k σ F' H' s R'⟩
theorem ds_ret (he : PE X e (Ge X.K fe)) : PS X (.Return (some e) pos) (Gs X.K xc (sRt fe)) := PS.imp (ps_ret he) fun D σ H ⟨c, F, env, fl, env', R, e, k⟩ => by
  unfold sRt at e
  simp only [Option.map_eq_some_iff] at e
  obtain ⟨⟨d1, n1⟩, h1, h2⟩ := e
  obtain ⟨rfl, rfl⟩ := Prod.mk.inj h2
  exact ⟨c, F, env, d1, n1, R, h1, fun v F' H' s R' hv => k σ F' H' v s R' hv⟩
/-- return of a new list -/
def sRl (f : Fl) : Fs := fun env => (f env).map fun p => (.rl p.1, p.2)
theorem ds_retL (he : PE X e (Gf X.K fl)) : PS X (.Return (some e) pos) (Gs X.K xc (sRl fl)) := PS.imp (ps_ret he) fun D σ H ⟨c, F, env, fl, env', R, e, k⟩ => by
  unfold sRl at e
  simp only [Option.map_eq_some_iff] at e
  obtain ⟨⟨d1, n1⟩, h1, h2⟩ := e
  obtain ⟨rfl, rfl⟩ := Prod.mk.inj h2
  exact ⟨c, F, env, d1, n1, R, h1, fun p xs F' H' s hp R' hx => k σ F' H' p xs s hp R' hx⟩
theorem ds_never : PS X st (Gs X.K xc sNever) := PS.imp ps_never fun D σ H ⟨c, F, env, fl, env', R, e, k⟩ => by cases e
theorem ds_if {t : Expr} {a b : List Stmt} {ft : Ft} (ht : PT X t (Gt X.K ft)) (ha : PSs X a (Gs X.K xc f)) (hb : PSs X b (Gs X.K xc g)) : PS X (.If t a b pos) (Gs X.K xc (sIf ft f g)) := PS.imp (ps_if ht ha hb) fun D σ H ⟨c, F, env, fl, env', R, e, k⟩ => by
  unfold sIf at e
  simp only [Option.bind_eq_some_iff] at e
  obtain ⟨⟨b1, n1⟩, h1, h2⟩ := e
  refine ⟨c, F, env, b1, n1, R, h1, fun F' H' s R' => ?_⟩
  cases b1 with
  | true => exact iteT ⟨c, F', n1, fl, env', R', h2, k.up s⟩
  | false => exact iteF ⟨c, F', n1, fl, env', R', h2, k.up s⟩
theorem ds_set (i : Nat) {x : Str} {pos' : Pos} (hN : X.N.Nodup) (he : PE X e (Ge X.K fe)) (hi : X.N[i]? = some x := by rfl) (hx : Loc X.env.scope x := by first | exact Or.inl rfl | exact Or.inr rfl) (hs : swapsWith e (some (.Name x pos')) pos.line X.env = pure false := by rfl)
    (hf : X.fn x = true ∨ X.env.scope.names.lookup x = some .local := by first | exact .inl rfl | exact .inr rfl | assumption) : PS X (.Assign [.Name x pos'] e pos) (Gs X.K xc (sSet fe (g1 i))) := PS.imp (ps_set hN hi hx he hs hf) fun D σ H ⟨c, F, env, fl, env', R, e, k⟩ => by
  unfold sSet g1 at e
  simp only [Option.bind_eq_some_iff, Option.map_some, Option.some.injEq] at e
  obtain ⟨⟨d1, n1⟩, h1, h2⟩ := e
  obtain ⟨rfl, rfl⟩ := Prod.mk.inj h2
  exact ⟨c, F, env, d1, n1, R, h1, fun v F' H' s R' hv => k _ F' H' s (R'.put hv i)⟩
theorem ds_own (i : Nat) {x : Str} {pos' : Pos} (hN : X.N.Nodup) (he : PE X e (Gf X.K fl)) (hi : X.N[i]? = some x := by rfl) (hx : Loc X.env.scope x := by first | exact Or.inl rfl | exact Or.inr rfl) (hs : swapsWith e (some (.Name x pos')) pos.line X.env = pure false := by rfl)
    (hf : X.fn x = true ∨ X.env.scope.names.lookup x = some .local := by first | exact .inl rfl | exact .inr rfl | assumption) : PS X (.Assign [.Name x pos'] e pos) (Gs X.K xc (sOwn fl i)) := PS.imp (ps_set hN hi hx he hs hf) fun D σ H ⟨c, F, env, fl, env', R, e, k⟩ => by
  unfold sOwn at e
  simp only [Option.map_eq_some_iff] at e
  obtain ⟨⟨d1, n1⟩, h1, h2⟩ := e
  obtain ⟨rfl, rfl⟩ := Prod.mk.inj h2
  exact ⟨c, F, env, d1, n1, R, h1, fun p xs F' H' s hp R' hx => k _ F' _ s (R'.putOwn hp hx i)⟩
/-- a, b = e1, e2 at once -/
def sPar (i j : Nat) (f : Fl) : Fs := fun env => (f env).bind fun p => match p.1 with
  | [d, e] => some (.nx, (p.2.set i (.val d)).set j (.val e))
  | _ => none
theorem ds_par (i j : Nat) {x y : Str} {a b : Expr} {px py pt : Pos} {kt k2 pt2} (hc : X.calm = true) (hN : X.N.Nodup) (ha : PA X [a, b] (Ga X.K fl)) (hi : X.N[i]? = some x := by rfl) (hj : X.N[j]? = some y := by rfl) (hij : i ≠ j := by decide)
    (hx : X.env.scope.names.lookup x = some .local := by rfl) (hy : X.env.scope.names.lookup y = some .local := by rfl)
    (hw : swappedStores [.Tuple [.Name x px, .Name y py] kt pt] (.Tuple [a, b] k2 pt2) X.env = pure (some [x, y]) := by rfl)
    (hs : swapsWithSole [.Tuple [.Name x px, .Name y py] kt pt] (.Tuple [a, b] k2 pt2) pos.line X.env = pure false := by rfl) :
    PS X (.Assign [.Tuple [.Name x px, .Name y py] kt pt] (.Tuple [a, b] k2 pt2) pos) (Gs X.K xc (sPar i j fl)) := PS.imp (ps_par hc hN hi hj hij hx hy ha hw hs) fun D σ H ⟨c, F, env, fl, env', R, e, k⟩ => by
  unfold sPar at e
  simp only [Option.bind_eq_some_iff] at e
  obtain ⟨⟨d1, n1⟩, h1, h2⟩ := e
  dsimp only at h2
  split at h2
  · cases h2
    refine ⟨c, F, env, _, _, R, h1, fun vs F' H' s R' hv => ?_⟩
    cases hv with
    | cons h3 h4 =>
      cases h4 with
      | cons h4 h5 =>
        cases h5
        exact ⟨_, _, rfl, k _ F' H' s ((R'.put h3 i).put h4 j)⟩
  · cases h2
theorem ds_app (i : Nat) {x : Str} {p2 apos cpos : Pos} (he : PE X e (Ge X.K fe)) (hN : X.N[i]? = some x := by rfl) (hv : Vis X.env.scope x := by first | exact Or.inl rfl | exact Or.inr (Or.inl rfl) | exact Or.inr (Or.inr rfl)) (hd : (x == ("__debug__" : Str)) = false := by decide)
    (hcd : (x == ("__classdict__" : Str)) = false := by decide) (hs : swapsWith (.Call (.Attribute (.Name x p2) "append" apos) [e] [] cpos) none pos.line X.env = pure false := by rfl)
    (hbase : attributeBase (.Name x p2) "append" X.env (eval (.Name x p2) X.env) = eval (.Name x p2) X.env := by rfl)
    (hfew : ((backTo cpos (starEach (e :: []) X.env)).all (fun x => !x.1) && (backToKw cpos (keywordEach [] X.env)).all (fun x => x.1.isSome)
      && decide ((e :: []).length + ([] : List Keyword).length + (if ([] : List Keyword).isEmpty then 0 else 1) < 30)) = true := by rfl)
    (hline : (apos.endLine == cpos.line) = true := by rfl) (hs2 : starEach (e :: []) X.env = (false, eval e X.env) :: starEach [] X.env := by rfl) (hplain : (backTo cpos (starEach [] X.env)).any (·.1) = false := by rfl) :
    PS X (.Expr (.Call (.Attribute (.Name x p2) "append" apos) [e] [] cpos) pos) (Gs X.K xc (sApp i fe)) :=
  PS.imp (ps_expr (pe_bm PySem.F.plainAttrs_list PySem.F.slot_list_append PySem.F.type_list_append mt_append (pe_var hN hv hd hcd) (pa_cons he pa_nil hs2) hbase hfew hline hs2 hplain) hs) fun D σ H ⟨c, F, env, fl, env', R, e, k⟩ => by
  unfold sApp at e
  by_cases ho : isOwn env i = true
  · rw [if_pos ho] at e
    simp only [Option.bind_eq_some_iff] at e
    obtain ⟨⟨d1, n1⟩, h1, h2⟩ := e
    dsimp only at h2
    split at h2
    · rename_i b ds hi
      split at h2
      · rename_i hz
        cases h2
        obtain ⟨a, ys, ha, hy⟩ := own_of R ho
        refine ⟨.ref a, ha, .inl ⟨rfl, ys, SqL.of hy⟩, c, F, env, d1, n1, R, h1, fun v F' H' s R' hv => ?_⟩
        obtain ⟨a', xs, e1, e2, e3, e4, e5, e6, e7⟩ := R'.own i b ds hi
        rw [ha] at e1
        cases e1
        refine ⟨a, xs, v, rfl, rfl, e3, ?_, ?_⟩
        · rw [e4.len]; exact okN_lt hz
        · exact k σ F' _ s (R'.write hi ha (e4.app (.cons hv .nil)))
      · cases h2
    · cases h2
  · rw [if_neg ho] at e
    cases e
theorem ds_put (i : Nat) {x : Str} {p2 apos : Pos} (he : PE X e (Ge X.K fe)) (hix : PE X ix (Ge X.K fi)) (hN : X.N[i]? = some x := by rfl) (hv : Vis X.env.scope x := by first | exact Or.inl rfl | exact Or.inr (Or.inl rfl) | exact Or.inr (Or.inr rfl)) (hd : (x == ("__debug__" : Str)) = false := by decide)
    (hcd : (x == ("__classdict__" : Str)) = false := by decide)
    (ha : ∀ v, assign (.Subscript (.Name x p2) ix apos) X.env v = (do
      let ov ← holding [v] (eval (.Name x p2) X.env)
      let iv ← holding [v, ov] (eval ix X.env)
      standAt apos
      holding [v, ov, iv] (setItem ov iv v)
      release [v, ov, iv] []) := by intro _; rfl)
    (hs : swapsWithSole [.Subscript (.Name x p2) ix apos] e pos.line X.env = pure false := by rfl) (hw : swappedStores [.Subscript (.Name x p2) ix apos] e X.env = pure none := by rfl)
    (h1 : (assignEach [.Subscript (.Name x p2) ix apos] X.env).map (·.2) = [assign (.Subscript (.Name x p2) ix apos) X.env] := by rfl) :
    PS X (.Assign [.Subscript (.Name x p2) ix apos] e pos) (Gs X.K xc (sPut i fi fe)) :=
  PS.imp (ps_asg he (pg_sub (pe_var hN hv hd hcd) hix set_list ha) hs hw h1) fun D σ H ⟨c, F, env, fl, env', R, e, k⟩ => by
  unfold sPut at e
  simp only [Option.bind_eq_some_iff] at e
  obtain ⟨⟨d1, n1⟩, h1, h2⟩ := e
  by_cases ho : isOwn n1 i = true
  · dsimp only at h2
    rw [if_pos ho] at h2
    simp only [Option.bind_eq_some_iff] at h2
    obtain ⟨⟨d2, n2⟩, h2, h3⟩ := h2
    dsimp only at h3
    split at h3
    · rename_i kk b ds hi
      simp only [Option.map_eq_some_iff] at h3
      obtain ⟨j, hj, h4⟩ := h3
      obtain ⟨rfl, rfl⟩ := Prod.mk.inj h4
      refine ⟨c, F, env, d1, n1, R, h1, fun v F1 H1 s1 R1 p1 => ?_⟩
      obtain ⟨a, ys, ha, hy⟩ := own_of R1 ho
      refine ⟨.ref a, ha, c, F1, n1, _, n2, R1, h2, fun w F2 H2 s2 R2 p2 => ?_⟩
      cases p2
      obtain ⟨a', xs, e1, e2, e3, e4, e5, e6, e7⟩ := R2.own i b ds hi
      rw [ha] at e1
      cases e1
      refine ⟨a, xs, kk, j, rfl, rfl, e3, by rw [e4.len]; exact hj, ?_⟩
      exact k σ F2 _ (s1.trans s2) (R2.write hi ha (e4.set (p1.up s2) j))
    · cases h3
  · dsimp only at h2
    rw [if_neg ho] at h2
    cases h2
theorem de_ixO (i : Nat) {x : Str} {p2 : Pos} (hix : PE X ix (Ge X.K fi)) (hN : X.N[i]? = some x := by rfl) (hv : Vis X.env.scope x := by first | exact Or.inl rfl | exact Or.inr (Or.inl rfl) | exact Or.inr (Or.inr rfl)) (hd : (x == ("__debug__" : Str)) = false := by decide)
    (hcd : (x == ("__classdict__" : Str)) = false := by decide) (hs : PlainIx ix := by exact fun _ _ => rfl) : PE X (.Subscript (.Name x p2) ix pos) (Ge X.K (eIxO i fi)) :=
  PE.imp (pe_ix ix_list (pe_var hN hv hd hcd) hix hs) fun σ H Q ⟨c, F, env, d, env', R, e, k⟩ => by
  unfold eIxO at e
  by_cases ho : isOwn env i = true
  · rw [if_pos ho] at e
    simp only [Option.bind_eq_some_iff] at e
    obtain ⟨⟨d1, n1⟩, h1, h2⟩ := e
    dsimp only at h2
    split at h2
    · rename_i kk b ds hi
      simp only [Option.map_eq_some_iff] at h2
      obtain ⟨y, hy, h3⟩ := h2
      obtain ⟨rfl, rfl⟩ := Prod.mk.inj h3
      obtain ⟨a, ys, ha, hys⟩ := own_of R ho
      refine ⟨.ref a, ha, c, F, env, _, _, R, h1, fun w F2 H2 s2 R2 p2 => ?_⟩
      cases p2
      obtain ⟨a', xs, e1, e2, e3, e4, e5, e6, e7⟩ := R2.own i b ds hi
      rw [ha] at e1
      cases e1
      obtain ⟨u, h4, h5⟩ := atI_dp e4 hy
      exact ⟨a, xs, kk, u, rfl, rfl, SqL.of e3, h4, k u F2 H2 s2 R2 h5⟩
    · cases h2
  · rw [if_neg ho] at e
    cases e
theorem de_lenO (i : Nat) {x : Str} {p p2 : Pos} (hg : Gl X "len") (hm : X.mg "len" = none) (hN : X.N[i]? = some x := by rfl) (hv : Vis X.env.scope x := by first | exact Or.inl rfl | exact Or.inr (Or.inl rfl) | exact Or.inr (Or.inr rfl)) (hd : (x == ("__debug__" : Str)) = false := by decide)
    (hcd : (x == ("__classdict__" : Str)) = false := by decide) (he : starEach (Expr.Name x p2 :: []) X.env = (false, eval (Expr.Name x p2) X.env) :: starEach [] X.env := by rfl) (hpl : (backTo pos (starEach [] X.env)).any (·.1) = false := by rfl) :
    PE X (.Call (.Name "len" p) [.Name x p2] [] pos) (Ge X.K (eLenO i)) :=
  PE.imp (pe_callB call_len_seq hg hm PySem.boot_len (pa_cons (pe_var hN hv hd hcd) pa_nil he) (by decide) (by decide) he hpl) fun σ H Q ⟨c, F, env, d, env', R, e, k⟩ => by
  unfold eLenO at e
  split at e
  · rename_i b ds hi
    cases e
    obtain ⟨a, xs, e1, e2, e3, e4, e5, e6, e7⟩ := R.own i b ds hi
    refine ⟨.ref a, e1, a, xs, rfl, .inl (SqL.of e3), ?_⟩
    rw [e4.len]
    exact k _ F H (Same.refl F) R (.int _)
  · cases e
theorem ds_frz (i : Nat) (h : PS X st (Gs X.K xc f)) : PS X st (Gs X.K xc (sFrz i f)) := PS.imp h fun D σ H ⟨c, F, env, fl, env', R, e, k⟩ => by
  unfold sFrz at e
  split at e
  · rename_i ds hi
    obtain ⟨F', s, R'⟩ := R.freeze hi
    exact ⟨c, F', _, fl, env', R', e, k.up s⟩
  · exact ⟨c, F, env, fl, env', R, e, k⟩
def sAug (i : Nat) (g : PyData → PyData → Option PyData) (e : Fe) : Fs := fun env => match env[i]? with
  | some (.val d) => (e env).bind fun p => (g d p.1).map fun z => (.nx, p.2.set i (.val z))
  | _ => none
end
end Dn
set_option Elab.async false
set_option linter.all false
set_option maxRecDepth 100000
set_option maxHeartbeats 2000000
namespace Zm
open PySem
/-- what zip asks of an iterator at it, over the items xs at l -/
structure Nx (it l : Addr) (xs : Array Value) (I : Heap → Nat → Prop) (S : Heap → Prop) : Prop where
  item : ∀ {prog : Program} {w : World} {A : Around} {E : Value → Shared → Prop} {s : Shared} {k : Nat} {x : Value} {Q : Value → Shared → Prop}, I s.heap k → S s.heap → xs[k]? = some x →
    (∀ g, I g (k + 1) → Heap.SameBut it s.heap g → Q x { s with heap := g }) → wpAny (model prog w) A (Builtin.SmallTypes.nextOf (.ref it)) Q E s
  over : ∀ {prog : Program} {w : World} {A : Around} {E : Value → Shared → Prop} {s : Shared} {k : Nat} {Q : Value → Shared → Prop}, A.handled = none → I s.heap k → S s.heap → xs[k]? = none →
    (∀ g e, Heap.ExtBut it s.heap g → (∃ o, g.get? e = some o ∧ o.cls = .type "StopIteration") → E (.ref e) { s with heap := g }) → wpAny (model prog w) A (Builtin.SmallTypes.nextOf (.ref it)) Q E s
  it' : ∀ {g g' : Heap} {k : Nat} {c : Addr}, I g k → Heap.ExtBut c g g' → it ≠ c → I g' k
  sq' : ∀ {g g' : Heap} {c : Addr}, S g → Heap.ExtBut c g g' → l ≠ c → S g'
  at' : ∀ {g g' : Heap} {k : Nat}, I g k → (∀ o, g.get? it = some o → g'.get? it = some o) → I g' k
  lt : ∀ {g : Heap} {k : Nat}, I g k → it < g.objs.size
theorem nxL (it l : Addr) (xs : Array Value) : Nx it l xs (fun g k => g.IsListIter it l k) (fun g => g.IsList l xs) where
  item := fun a b c d => wpAny_nextOf_list_item a b c d
  over := fun hh a b c d => wpAny_nextOf_list_end hh a b c d
  it' := fun a b c => a.extBut b c
  sq' := fun a b c => a.extBut b c
  at' := fun a b => a.at b
  lt := fun ⟨_, a, _⟩ => Heap.lt_size a
theorem nxT (it l : Addr) (xs : Array Value) : Nx it l xs (fun g k => g.IsTupleIter it l k) (fun g => g.IsTuple l xs) where
  item := fun a b c d => RZ.nextOf_tuple_item a b c d
  over := fun hh a b c d => RZ.nextOf_tuple_end hh a b c d
  it' := fun a b c => a.extBut b c
  sq' := fun a b c => a.extBut b c
  at' := fun a b => a.at b
  lt := fun ⟨_, a, _⟩ => Heap.lt_size a
section
variable {prog : Program} {w : World} {A : Around} {E : Value → Shared → Prop} {s : Shared} {z TI TO i1 i2 l1 l2 : Addr} {xs ys : Array Value} {I J : Heap → Nat → Prop} {S T : Heap → Prop}
theorem turn_item {k m : Nat} {x y a b : Value} {Q : Value → Shared → Prop} (N1 : Nx i1 l1 xs I S) (N2 : Nx i2 l2 ys J T) (D : ZipApart z TI TO i1 i2 l1 l2) (cz : IsZip s.heap z TI TO .none) (cI : IsPair s.heap TI (.ref i1) (.ref i2)) (cO : IsPair s.heap TO a b)
    (a1 : I s.heap k) (a2 : J s.heap m) (b1 : S s.heap) (b2 : T s.heap) (hx : xs[k]? = some x) (hy : ys[m]? = some y)
    (hq : ∀ g, IsZip g z TI TO (rawInt s.heap.objs.size) → IsPair g TO x y → I g (k + 1) → J g (m + 1) → IsPair g s.heap.objs.size x y → g.objs.size = s.heap.objs.size + 1 → (∀ c o, c ≠ z → c ≠ TO → c ≠ i1 → c ≠ i2 → s.heap.get? c = some o → g.get? c = some o) → Q (.ref s.heap.objs.size) { s with heap := g }) :
    wpAny (model prog w) A (Builtin.«zip.__next__» ⟨[.ref z], []⟩) (fun fl s' => ∃ v, fl = .done (.ret v) ∧ Q v s') E s := by
  show wpAny _ _ (field (.ref z) 2 >>= _) _ _ _; refine wpAny_bind (wpAny_field cz rfl (x := .bool false) rfl ?_)
  show wpAny _ _ (field (.ref z) 3 >>= _) _ _ _; refine wpAny_bind (wpAny_field cz rfl (x := .ref TI) rfl ?_); refine wpAny_bind (wpAny_seqItems cI rfl ?_)
  show wpAny _ _ (Builtin.SmallTypes.ownedTupleIsFree (.ref z) >>= _) _ _ _; refine wpAny_bind ?_; unfold Builtin.SmallTypes.ownedTupleIsFree
  refine wpAny_bind (wpAny_field cz rfl (x := .none) rfl (wpAny_pure ?_)); simp only [if_true]; refine wpAny_bind (wpAny_rule ?_); refine wpAny_bind (wpAny_field cz rfl (x := .ref TO) rfl ?_)
  refine wpAny_bind (wpAny_setField_rec cz (by simp) fun g1 cz1 u1 => ?_); replace cz1 : IsZip g1 z TI TO .ellipsis := cz1
  refine wpAny_bind ?_; simp only [List.zipIdx_cons, List.zipIdx_nil, List.forIn_cons, List.forIn_nil]
  -- the first one's next
  refine wpAny_bind (wpAny_bind (wpAny_onRaise ?_)); show wpAny _ _ (Builtin.SmallTypes.nextOf (.ref i1) >>= _) _ _ _
  refine wpAny_bind (N1.item (N1.it' a1 u1.extBut D.i1z) (N1.sq' b1 u1.extBut D.l1z) hx fun g2 a1' u2 => wpAny_pure ?_)
  have cO2 : IsPair g2 TO a b := u2.extBut _ _ D.TOi1 (u1.extBut _ _ D.TOz cO)
  refine wpAny_bind (wpAny_seqItems cO2 rfl ?_); refine wpAny_bind (wpAny_updateSeq_pair cO2 fun g3 cO3 u3 => ?_); replace cO3 : IsPair g3 TO x b := cO3; refine wpAny_bind (wpAny_letGo (wpAny_pure ?_))
  -- the second one's next
  refine wpAny_bind (wpAny_bind (wpAny_onRaise ?_)); show wpAny _ _ (Builtin.SmallTypes.nextOf (.ref i2) >>= _) _ _ _
  refine wpAny_bind (N2.item (N2.it' (N2.it' (N2.it' a2 u1.extBut D.i2z) u2.extBut D.i12.symm) u3.extBut D.TOi2.symm) (N2.sq' (N2.sq' (N2.sq' b2 u1.extBut D.l2z) u2.extBut D.l2i1) u3.extBut D.l2TO) hy fun g4 a2' u4 => wpAny_pure ?_)
  have cO4 : IsPair g4 TO x b := u4.extBut _ _ D.TOi2 cO3
  refine wpAny_bind (wpAny_seqItems cO4 rfl ?_); refine wpAny_bind (wpAny_updateSeq_pair cO4 fun g5 cO5 u5 => ?_); replace cO5 : IsPair g5 TO x y := cO5; refine wpAny_bind (wpAny_letGo (wpAny_pure (wpAny_pure ?_)))
  -- the pair handed out
  refine wpAny_bind (wpAny_seqItems cO5 rfl ?_); refine wpAny_bind (wpAny_newTuple ?_)
  have e5 : g5.objs.size = s.heap.objs.size := by rw [u5.1, u4.1, u3.1, u2.1, u1.1]
  have cz5 : IsZip g5 z TI TO .ellipsis := u5.extBut _ _ D.TOz.symm (u4.extBut _ _ D.i2z.symm (u3.extBut _ _ D.TOz.symm (u2.extBut _ _ D.i1z.symm cz1)))
  have old : ∀ c o, c ≠ z → c ≠ TO → c ≠ i1 → c ≠ i2 → s.heap.get? c = some o → g5.get? c = some o := fun c o n1 n2 n3 n4 e => u5.extBut _ _ n2 (u4.extBut _ _ n4 (u3.extBut _ _ n2 (u2.extBut _ _ n3 (u1.extBut _ _ n1 e))))
  have a15 : I g5 (k + 1) := N1.it' (N1.it' (N1.it' a1' u3.extBut D.TOi1.symm) u4.extBut D.i12) u5.extBut D.TOi1.symm
  have a25 : J g5 (m + 1) := N2.it' a2' u5.extBut D.TOi2.symm
  have lz : z < g5.objs.size := Heap.lt_size cz5
  show wpAny _ _ (Builtin.SmallTypes.ownedTupleHandOut (.ref z) (.ref g5.objs.size) >>= _) _ _ _; refine wpAny_bind ?_; unfold Builtin.SmallTypes.ownedTupleHandOut
  have cz6 : IsZip (g5.push { cls := .type "tuple", data := .seq #[x, y] }) z TI TO .ellipsis := Heap.get?_push_of_some _ cz5
  refine wpAny_bind (wpAny_setField_rec cz6 (by simp) fun g7 cz7 u7 => ?_); replace cz7 : IsZip g7 z TI TO (rawInt g5.objs.size) := cz7
  refine wpAny_setField_rec cz7 (by simp) fun g8 cz8 u8 => ?_; replace cz8 : IsZip g8 z TI TO (rawInt g5.objs.size) := cz8
  have up : ∀ c o, c ≠ z → g5.get? c = some o → g8.get? c = some o := fun c o n1 e => u8.extBut _ _ n1 (u7.extBut _ _ n1 (Heap.get?_push_of_some _ e))
  have cT : IsPair g8 g5.objs.size x y := u8.extBut _ _ (Nat.ne_of_gt lz) (u7.extBut _ _ (Nat.ne_of_gt lz) (Heap.get?_push_size _ rfl))
  have e8 : g8.objs.size = g5.objs.size + 1 := by rw [u8.1, u7.1, Heap.size_push]
  rw [e5] at cz8 cT e8; refine wpAny_pure ⟨_, rfl, ?_⟩; show Q (.ref g5.objs.size) _; rw [e5]
  exact hq g8 cz8 (up _ _ D.TOz cO5) (N1.at' a15 fun o e => up _ o D.i1z e) (N2.at' a25 fun o e => up _ o D.i2z e) cT e8 fun c o n1 n2 n3 n4 e => up c o n1 (old c o n1 n2 n3 n4 e)
theorem turn_over {k m : Nat} {a b : Value} {Q : Fin → Shared → Prop} (N1 : Nx i1 l1 xs I S) (N2 : Nx i2 l2 ys J T) (hh : A.handled = none) (D : ZipApart z TI TO i1 i2 l1 l2) (cz : IsZip s.heap z TI TO .none) (cI : IsPair s.heap TI (.ref i1) (.ref i2)) (cO : IsPair s.heap TO a b)
    (a1 : I s.heap k) (a2 : J s.heap m) (b1 : S s.heap) (b2 : T s.heap) (he : xs[k]? = none ∨ ys[m]? = none)
    (hq : ∀ g e, (∀ c o, c ≠ z → c ≠ TO → c ≠ i1 → c ≠ i2 → s.heap.get? c = some o → g.get? c = some o) → (∃ o, g.get? e = some o ∧ o.cls = .type "StopIteration") → E (.ref e) { s with heap := g }) :
    wpAny (model prog w) A (Builtin.«zip.__next__» ⟨[.ref z], []⟩) Q E s := by
  show wpAny _ _ (field (.ref z) 2 >>= _) _ _ _; refine wpAny_bind (wpAny_field cz rfl (x := .bool false) rfl ?_)
  show wpAny _ _ (field (.ref z) 3 >>= _) _ _ _; refine wpAny_bind (wpAny_field cz rfl (x := .ref TI) rfl ?_); refine wpAny_bind (wpAny_seqItems cI rfl ?_)
  show wpAny _ _ (Builtin.SmallTypes.ownedTupleIsFree (.ref z) >>= _) _ _ _; refine wpAny_bind ?_; unfold Builtin.SmallTypes.ownedTupleIsFree
  refine wpAny_bind (wpAny_field cz rfl (x := .none) rfl (wpAny_pure ?_)); simp only [if_true]; refine wpAny_bind (wpAny_rule ?_); refine wpAny_bind (wpAny_field cz rfl (x := .ref TO) rfl ?_)
  refine wpAny_bind (wpAny_setField_rec cz (by simp) fun g1 cz1 u1 => ?_); replace cz1 : IsZip g1 z TI TO .ellipsis := cz1
  refine wpAny_bind ?_; simp only [List.zipIdx_cons, List.zipIdx_nil, List.forIn_cons, List.forIn_nil]
  refine wpAny_bind (wpAny_bind (wpAny_onRaise ?_)); show wpAny _ _ (Builtin.SmallTypes.nextOf (.ref i1) >>= _) _ _ _
  cases hx : xs[k]? with
  | none =>
    refine wpAny_bind (N1.over hh (N1.it' a1 u1.extBut D.i1z) (N1.sq' b1 u1.extBut D.l1z) hx fun g2 e u2 ⟨oe, q1, q2⟩ => ?_)
    have cz2 : IsZip g2 z TI TO .ellipsis := u2 _ _ D.i1z.symm cz1
    have nez : e ≠ z := fun q => by subst q; rw [cz2] at q1; cases q1; simp at q2
    refine wpAny_setField_rec cz2 (by simp) fun g3 _ u3 => hq g3 e (fun c o n1 _ n3 _ q => u3.extBut _ _ n1 (u2 _ _ n3 (u1.extBut _ _ n1 q))) ⟨oe, u3.extBut _ _ nez q1, q2⟩
  | some x =>
    have hy : ys[m]? = none := he.elim (fun q => by rw [hx] at q; cases q) id
    refine wpAny_bind (N1.item (N1.it' a1 u1.extBut D.i1z) (N1.sq' b1 u1.extBut D.l1z) hx fun g2 a1' u2 => wpAny_pure ?_)
    have cO2 : IsPair g2 TO a b := u2.extBut _ _ D.TOi1 (u1.extBut _ _ D.TOz cO)
    refine wpAny_bind (wpAny_seqItems cO2 rfl ?_); refine wpAny_bind (wpAny_updateSeq_pair cO2 fun g3 cO3 u3 => ?_); refine wpAny_bind (wpAny_letGo (wpAny_pure ?_))
    refine wpAny_bind (wpAny_bind (wpAny_onRaise ?_)); show wpAny _ _ (Builtin.SmallTypes.nextOf (.ref i2) >>= _) _ _ _
    refine wpAny_bind (N2.over hh (N2.it' (N2.it' (N2.it' a2 u1.extBut D.i2z) u2.extBut D.i12.symm) u3.extBut D.TOi2.symm) (N2.sq' (N2.sq' (N2.sq' b2 u1.extBut D.l2z) u2.extBut D.l2i1) u3.extBut D.l2TO) hy fun g4 e u4 ⟨oe, q1, q2⟩ => ?_)
    have cz4 : IsZip g4 z TI TO .ellipsis := u4 _ _ D.i2z.symm (u3.extBut _ _ D.TOz.symm (u2.extBut _ _ D.i1z.symm cz1))
    have nez : e ≠ z := fun q => by subst q; rw [cz4] at q1; cases q1; simp at q2
    refine wpAny_setField_rec cz4 (by simp) fun g5 _ u5 => hq g5 e (fun c o n1 n2 n3 n4 q => u5.extBut _ _ n1 (u4 _ _ n4 (u3.extBut _ _ n2 (u2.extBut _ _ n3 (u1.extBut _ _ n1 q))))) ⟨oe, u5.extBut _ _ nez q1, q2⟩
theorem next_item {k m : Nat} {x y a b : Value} {Q : Option Value → Shared → Prop} (N1 : Nx i1 l1 xs I S) (N2 : Nx i2 l2 ys J T) (D : ZipApart z TI TO i1 i2 l1 l2) (cz : IsZip s.heap z TI TO .none) (cI : IsPair s.heap TI (.ref i1) (.ref i2)) (cO : IsPair s.heap TO a b)
    (a1 : I s.heap k) (a2 : J s.heap m) (b1 : S s.heap) (b2 : T s.heap) (hx : xs[k]? = some x) (hy : ys[m]? = some y)
    (hq : ∀ g, IsZip g z TI TO (rawInt s.heap.objs.size) → IsPair g TO x y → I g (k + 1) → J g (m + 1) → IsPair g s.heap.objs.size x y → g.objs.size = s.heap.objs.size + 1 → (∀ c o, c ≠ z → c ≠ TO → c ≠ i1 → c ≠ i2 → s.heap.get? c = some o → g.get? c = some o) → Q (some (.ref s.heap.objs.size)) { s with heap := g }) : wpAny (model prog w) A (pyNext (.ref z)) Q E s := by
  have ty : s.TypeIs (.ref z) "zip" := ⟨_, cz, rfl⟩
  unfold pyNext
  exact wpAny_bind (wpAny_attempt (wpAny_callSpecial?_slot (name := Str.ofString "__next__") ty F.slot_zip_next (wpAny_call_entry F.slot_zip_next ty F.entry_zip_next (turn_item N1 N2 D cz cI cO a1 a2 b1 b2 hx hy fun g c1 c2 c3 c4 c5 c6 c7 => wpAny_pure (hq g c1 c2 c3 c4 c5 c6 c7)) (F.args_zip_next_1 _))))
theorem next_over {k m : Nat} {a b : Value} {Q : Option Value → Shared → Prop} (N1 : Nx i1 l1 xs I S) (N2 : Nx i2 l2 ys J T) (hh : A.handled = none) (D : ZipApart z TI TO i1 i2 l1 l2) (cz : IsZip s.heap z TI TO .none) (cI : IsPair s.heap TI (.ref i1) (.ref i2)) (cO : IsPair s.heap TO a b)
    (a1 : I s.heap k) (a2 : J s.heap m) (b1 : S s.heap) (b2 : T s.heap) (he : xs[k]? = none ∨ ys[m]? = none)
    (hq : ∀ g, (∀ c o, c ≠ z → c ≠ TO → c ≠ i1 → c ≠ i2 → s.heap.get? c = some o → g.get? c = some o) → Q none { s with heap := g }) : wpAny (model prog w) A (pyNext (.ref z)) Q E s := by
  have ty : s.TypeIs (.ref z) "zip" := ⟨_, cz, rfl⟩
  unfold pyNext
  refine wpAny_bind (wpAny_attempt (wpAny_callSpecial?_slot (name := Str.ofString "__next__") ty F.slot_zip_next (wpAny_call_entry F.slot_zip_next ty F.entry_zip_next (turn_over N1 N2 hh D cz cI cO a1 a2 b1 b2 he fun g e kp ⟨o, q1, q2⟩ => ?_) (F.args_zip_next_1 _))))
  exact wpAny_bind (wpAny_isInstance (T := "StopIteration") (b := true) ⟨o, q1, q2⟩ isSubtype_stop (wpAny_pure (hq _ kp)))
end
abbrev mk1 (h : Heap) (l1 : Addr) : Heap := h.push { cls := .type "tuple_iterator", data := .fields #[.ref l1, .int 0 0] }
abbrev mk2 (h : Heap) (l1 l2 : Addr) : Heap := (mk1 h l1).push { cls := .type "list_iterator", data := .fields #[.ref l2, .int 0 0] }
abbrev mk3 (h : Heap) (l1 l2 : Addr) : Heap := (mk2 h l1 l2).push { cls := .type "tuple", data := .seq #[.ref h.objs.size, .ref (mk1 h l1).objs.size] }
abbrev mk4 (h : Heap) (l1 l2 : Addr) : Heap := (mk3 h l1 l2).push { cls := .type "tuple", data := .seq #[.none, .none] }
abbrev mk5 (h : Heap) (l1 l2 : Addr) : Heap := (mk4 h l1 l2).push { cls := .type "zip", data := .fields #[.none, .bool false, .bool false, .ref (mk2 h l1 l2).objs.size, .ref (mk3 h l1 l2).objs.size] }
theorem meets_new (l1 l2 : Addr) (xs ys : Array Value) : Meets (Builtin.«zip.__new__» ⟨[.type "zip", .ref l1, .ref l2], []⟩) (fun _ R s => s.heap.IsTuple l1 xs ∧ s.heap.IsList l2 ys ∧ R (.ok (.ret (.ref (mk4 s.heap l1 l2).objs.size))) { s with heap := mk5 s.heap l1 l2 }) :=
  .of_wp fun prog w A R s h => by
    obtain ⟨hp, g, d, tk, os⟩ := s; obtain ⟨c1, c2, h⟩ := h; have hsub := sub_zip
    have hL1 : Heap.IsTuple (Shared.heap ⟨hp, g, d, tk, os⟩) l1 xs := c1
    have hL2 : Heap.IsList (Shared.heap ⟨mk1 hp l1, g, d, tk, os⟩) l2 ys := Heap.IsList.push c2 _
    wp_walk using wpAny_pyIter_tuple hL1, wpAny_pyIter_list hL2
    exact ⟨_, rfl, h⟩
end Zm
set_option Elab.async false
set_option linter.all false
set_option maxRecDepth 100000
set_option maxHeartbeats 2000000
namespace Zm
open PySem
section
variable {prog : Program} {w : World} {A : Around} {E : Value → Shared → Prop} {s : Shared}
theorem call_mixed {l1 l2 : Addr} {xs ys : Array Value} {Q : Value → Shared → Prop} (c1 : s.heap.IsTuple l1 xs) (c2 : s.heap.IsList l2 ys)
    (h : ∀ g, IsZip g (s.heap.objs.size + 4) (s.heap.objs.size + 2) (s.heap.objs.size + 3) .none → IsPair g (s.heap.objs.size + 2) (.ref s.heap.objs.size) (.ref (s.heap.objs.size + 1)) → IsPair g (s.heap.objs.size + 3) .none .none →
      g.IsTupleIter s.heap.objs.size l1 0 → g.IsListIter (s.heap.objs.size + 1) l2 0 → g.objs.size = s.heap.objs.size + 5 → (∀ c o, s.heap.get? c = some o → g.get? c = some o) → Q (.ref (s.heap.objs.size + 4)) { s with heap := g }) :
    wpAny (model prog w) A (call (.type "zip") [.ref l1, .ref l2]) Q E s := by
  refine callType_new F.called_zip (by decide) (F.typeCall_zip_2 _ _) (F.newCall_zip_2 _ _) (fun o => F.args_object_init_3 o _ _) F.entry_zip_new (meets_new l1 l2 xs ys) ⟨c1, c2, ?_⟩
  have k1 : (mk1 s.heap l1).objs.size = s.heap.objs.size + 1 := Heap.size_push ..
  have k2 : (mk2 s.heap l1 l2).objs.size = s.heap.objs.size + 2 := by rw [Heap.size_push, k1]
  have k3 : (mk3 s.heap l1 l2).objs.size = s.heap.objs.size + 3 := by rw [Heap.size_push, k2]
  have k4 : (mk4 s.heap l1 l2).objs.size = s.heap.objs.size + 4 := by rw [Heap.size_push, k3]
  have k5 : (mk5 s.heap l1 l2).objs.size = s.heap.objs.size + 5 := by rw [Heap.size_push, k4]
  have p5 : (mk5 s.heap l1 l2).get? (mk4 s.heap l1 l2).objs.size = some _ := Heap.get?_push_size _ rfl
  have p4 : (mk5 s.heap l1 l2).get? (mk3 s.heap l1 l2).objs.size = some _ := Heap.get?_push_of_some _ (Heap.get?_push_size _ rfl)
  have p3 : (mk5 s.heap l1 l2).get? (mk2 s.heap l1 l2).objs.size = some _ := Heap.get?_push_of_some _ (Heap.get?_push_of_some _ (Heap.get?_push_size _ rfl))
  have p2 : (mk5 s.heap l1 l2).get? (mk1 s.heap l1).objs.size = some _ := Heap.get?_push_of_some _ (Heap.get?_push_of_some _ (Heap.get?_push_of_some _ (Heap.get?_push_size _ rfl)))
  have p1 : (mk5 s.heap l1 l2).get? s.heap.objs.size = some _ := Heap.get?_push_of_some _ (Heap.get?_push_of_some _ (Heap.get?_push_of_some _ (Heap.get?_push_of_some _ (Heap.get?_push_size _ rfl))))
  show _ ∧ _
  rw [k2, k3, k4] at p5; rw [k1, k2] at p3; rw [k3] at p4; rw [k1] at p2; rw [k4]
  exact ⟨⟨_, p5, rfl⟩, h _ p5 p3 p4 ⟨_, p1, rfl, rfl⟩ ⟨_, p2, rfl, rfl⟩ k5 fun c o q => Heap.get?_push_of_some _ (Heap.get?_push_of_some _ (Heap.get?_push_of_some _ (Heap.get?_push_of_some _ (Heap.get?_push_of_some _ q))))⟩
end
open PySem.Spec PyProof.Rows L2
/-- the tuple at a, the list at b, their items in new pairs -/
def ItM (K : PySem.W.Frag) (a b : Addr) : It :=
  ⟨fun i H => ∃ (xs ys : List V) (x y : V), SqT K H a xs ∧ SqL K H b ys ∧ xs[i]? = some x ∧ ys[i]? = some y,
   fun i H v G => ∃ N x y, v = .ref N ∧ H N = none ∧ G = upd H N (.tup [x, y]) ∧ (∀ xs, SqT K H a xs → xs[i]? = some x) ∧ ∀ ys, SqL K H b ys → ys[i]? = some y,
   fun i H => ∃ xs ys : List V, SqT K H a xs ∧ SqL K H b ys ∧ (xs.length ≤ i ∨ ys.length ≤ i)⟩
theorem turns {P : Program} {w : World} {K : PySem.W.Frag} {elts : List Expr} {kk : Nat} {tpos : Pos} {a b z TI TO i1 i2 : Addr} (D : ZipApart z TI TO i1 i2 a b) :
    Turn P w K (.Tuple elts kk tpos) (ItM K a b) [z, TI, TO, i1, i2] z (fun i g => IsZip g z TI TO .none ∧ IsPair g TI (.ref i1) (.ref i2) ∧ (∃ x y, IsPair g TO x y) ∧ g.IsTupleIter i1 a i ∧ g.IsListIter i2 b i) where
  mem := by simp
  obj := fun i g ⟨cz, cI, ⟨x, y, cO⟩, ⟨o1, e1, _, d1⟩, ⟨o2, e2, _, d2⟩⟩ c hc => by
    rcases (show c = z ∨ c = TI ∨ c = TO ∨ c = i1 ∨ c = i2 by simpa using hc) with rfl | rfl | rfl | rfl | rfl
    · exact ⟨_, cz, fun v q => nomatch q⟩
    · exact ⟨_, cI, fun v q => nomatch q⟩
    · exact ⟨_, cO, fun v q => nomatch q⟩
    · exact ⟨o1, e1, fun v q => by rw [d1] at q; cases q⟩
    · exact ⟨o2, e2, fun v q => by rw [d2] at q; cases q⟩
  keep := fun i g g' ⟨cz, cI, ⟨x, y, cO⟩, a1, a2⟩ k => ⟨k z (by simp) _ cz, k TI (by simp) _ cI, ⟨x, y, k TO (by simp) _ cO⟩, a1.at fun o q => k i1 (by simp) o q, a2.at fun o q => k i2 (by simp) o q⟩
  item := by
    intro X hP hw hK hc i pins s σ H E I hf st hg
    subst hP hw hK
    obtain ⟨cz, cI, ⟨x0, y0, cO⟩, a1, a2⟩ := st
    obtain ⟨xs, ys, x, y, qx, qy, hx, hy⟩ := hg
    obtain ⟨its, rv, p, _⟩ := I.tuple qx
    obtain ⟨jts, rv2, p2, _⟩ := I.list qy
    obtain ⟨u, hu, ru⟩ := rv.get hx
    obtain ⟨u2, hu2, ru2⟩ := rv2.get hy
    have lz : z < s.heap.objs.size := Heap.lt_size cz
    refine next_item (nxT i1 a its.toArray) (nxL i2 b jts.toArray) D cz cI cO a1 a2 p p2.isList (x := u) (y := u2) (by simpa using hu) (by simpa using hu2) fun g z' TO' a1' a2' cT hsz kp => ?_
    refine ⟨_, rfl, wpAny_letOwnedTupleGo_zip (s := { s with heap := g }) z' fun g' z'' sb => ?_⟩
    have cT2 : g'.get? s.heap.objs.size = some { cls := .type "tuple", data := .seq #[u, u2] } := (sb.2 _ (Nat.ne_of_gt lz)).trans cT
    have new : ObjOk X.prog X.w (upd H s.heap.objs.size (.tup [x, y])) g' s.heap.objs.size (.tup [x, y]) := ⟨by show 2 ≤ sizeLine; decide, [u, u2], .cons ru (.cons ru2 .nil), ⟨_, cT2, rfl, _, rfl⟩⟩
    have all : ∀ c o, c ∉ [z, TI, TO, i1, i2] → s.heap.get? c = some o → g'.get? c = some o := fun c o hb q => by
      simp only [List.mem_cons, List.not_mem_nil, or_false, not_or] at hb
      exact (sb.2 c hb.1).trans (kp c o hb.1 hb.2.2.1 hb.2.2.2.1 hb.2.2.2.2 q)
    have I1 : Inv X pins σ (upd H s.heap.objs.size (.tup [x, y])) { s with heap := g' } := I.turnedNew (t' := s.toks) (ch := [z, TI, TO, i1, i2]) all hf (Nat.le_refl _) new
    refine ⟨.ref s.heap.objs.size, _, I1, rfl, ⟨_, x, y, rfl, I.hok.fresh (Nat.le_refl _), rfl, fun l hl => (I.tuple_inj hl qx) ▸ hx, fun l hl => (I.list_inj hl qy) ▸ hy⟩, ⟨z'', (sb.2 _ D.TIz).trans (kp _ _ D.TIz D.TITO D.TIi1 D.TIi2 cI), ⟨u, u2, (sb.2 _ D.TOz).trans TO'⟩, a1'.at fun o q => (sb.2 _ D.i1z).trans q, a2'.at fun o q => (sb.2 _ D.i2z).trans q⟩, fun c hcm => ?_⟩
    have lc : c < s.heap.objs.size := by
      rcases (show c = z ∨ c = TI ∨ c = TO ∨ c = i1 ∨ c = i2 by simpa using hcm) with rfl | rfl | rfl | rfl | rfl
      · exact lz
      · exact Heap.lt_size cI
      · exact Heap.lt_size cO
      · exact (nxT c a its.toArray).lt a1
      · exact (nxL c b jts.toArray).lt a2
    rw [upd_ne (Nat.ne_of_lt lc)]; exact (hf c hcm).1
  done := by
    intro X hP hw hK hc i pins s σ H E I hf st hg
    subst hP hw hK
    obtain ⟨cz, cI, ⟨x0, y0, cO⟩, a1, a2⟩ := st
    obtain ⟨xs, ys, qx, qy, he⟩ := hg
    obtain ⟨its, rv, p, _⟩ := I.tuple qx
    obtain ⟨jts, rv2, p2, _⟩ := I.list qy
    have n1 := rv.length
    have n2 := rv2.length
    have hn : its.toArray[i]? = none ∨ jts.toArray[i]? = none := he.elim (fun q => .inl (by simp; omega)) fun q => .inr (by simp; omega)
    exact next_over (nxT i1 a its.toArray) (nxL i2 b jts.toArray) (I.ok.hd hc) D cz cI cO a1 a2 p p2.isList hn fun g kp => ⟨rfl, I.turnedL (t' := s.toks) (ch := [z, TI, TO, i1, i2]) (fun c o hb q => by
      simp only [List.mem_cons, List.not_mem_nil, or_false, not_or] at hb
      exact kp c o hb.1 hb.2.2.1 hb.2.2.2.1 hb.2.2.2.2 q) hf⟩
  self := fun A i s Q E st h => wpAny_pyIter_zip st.1 h
def iMix (K : PySem.W.Frag) (ta : TA) : TI := fun σ H R => ta σ H fun vs G => ∃ a b xs ys, vs = [.ref a, .ref b] ∧ SqT K G a xs ∧ SqL K G b ys ∧ R (ItM K a b) G
theorem pi_mixed {X : Cx} {e e2 : Expr} {ta : TA} {p pos tpos : Pos} {elts : List Expr} {kk : Nat} (hg : Gl X "zip") (hm : X.mg "zip" = none) (ha : PA X [e, e2] ta)
    (hs : starEach [e, e2] X.env = (false, eval e X.env) :: starEach [e2] X.env := by rfl) (hpl : (backTo pos (starEach [e2] X.env)).any (·.1) = false := by rfl) : PI X (.Tuple elts kk tpos) (.Call (.Name "zip" p) [e, e2] [] pos) (iMix X.K ta) := by
  refine ⟨fun pins s σ H R I h => Call_ (ld_blt I hg hm PyProof.Rows.boot_zip (PyProof.Rows.callWith_type1 (thn (ha.run pos pins s σ H _ I h) fun us r ⟨vs, G, I1, r1, a, b, xs, ys, ex, qx, qy, q⟩ => ?_) hs hpl))⟩
  subst ex
  obtain ⟨u, u2, rfl, q1, q2⟩ := vals2 r1
  cases q1
  cases q2
  obtain ⟨its, rv, p1, _⟩ := I1.tuple qx
  obtain ⟨jts, rv2, p2, _⟩ := I1.list qy
  obtain ⟨o1, ho1, _⟩ := id p1
  refine call_mixed (show r.heap.IsTuple a its.toArray from p1) p2.isList fun g cz cI cO a1 a2 hsz kp => wpAny_pyIter_zip cz ?_
  have I2 : Inv X pins σ G { r with heap := g } := I1.kept (t' := r.toks) kp
  refine ⟨r.heap.objs.size + 4, [r.heap.objs.size + 4, r.heap.objs.size + 2, r.heap.objs.size + 3, r.heap.objs.size, r.heap.objs.size + 1], _, _, G, rfl, I2, turns (PySem.W.ktu_apart r.heap.objs.size a b (Heap.lt_size ho1) p2.lt), ⟨cz, cI, ⟨_, _, cO⟩, a1, a2⟩, fun c hc => ?_, q⟩
  have le : r.heap.objs.size ≤ c := by
    rcases (show c = r.heap.objs.size + 4 ∨ c = r.heap.objs.size + 2 ∨ c = r.heap.objs.size + 3 ∨ c = r.heap.objs.size ∨ c = r.heap.objs.size + 1 by simpa using hc) with rfl | rfl | rfl | rfl | rfl
    · exact Nat.le_add_right _ 4
    · exact Nat.le_add_right _ 2
    · exact Nat.le_add_right _ 3
    · exact Nat.le_refl _
    · exact Nat.le_add_right _ 1
  exact I1.fpOk le (I1.hok.fresh le)
end Zm
set_option Elab.async false
set_option linter.all false
set_option maxRecDepth 100000
set_option maxHeartbeats 2000000
namespace Zl
open PySem Zm
abbrev mj1 (h : Heap) (l1 : Addr) : Heap := h.push { cls := .type "list_iterator", data := .fields #[.ref l1, .int 0 0] }
abbrev mj2 (h : Heap) (l1 l2 : Addr) : Heap := (mj1 h l1).push { cls := .type "tuple_iterator", data := .fields #[.ref l2, .int 0 0] }
abbrev mj3 (h : Heap) (l1 l2 : Addr) : Heap := (mj2 h l1 l2).push { cls := .type "tuple", data := .seq #[.ref h.objs.size, .ref (mj1 h l1).objs.size] }
abbrev mj4 (h : Heap) (l1 l2 : Addr) : Heap := (mj3 h l1 l2).push { cls := .type "tuple", data := .seq #[.none, .none] }
abbrev mj5 (h : Heap) (l1 l2 : Addr) : Heap := (mj4 h l1 l2).push { cls := .type "zip", data := .fields #[.none, .bool false, .bool false, .ref (mj2 h l1 l2).objs.size, .ref (mj3 h l1 l2).objs.size] }
theorem meets_new (l1 l2 : Addr) (xs ys : Array Value) : Meets (Builtin.«zip.__new__» ⟨[.type "zip", .ref l1, .ref l2], []⟩) (fun _ R s => s.heap.IsList l1 xs ∧ s.heap.IsTuple l2 ys ∧ R (.ok (.ret (.ref (mj4 s.heap l1 l2).objs.size))) { s with heap := mj5 s.heap l1 l2 }) :=
  .of_wp fun prog w A R s h => by
    obtain ⟨hp, g, d, tk, os⟩ := s; obtain ⟨c1, c2, h⟩ := h; have hsub := sub_zip
    have hL1 : Heap.IsList (Shared.heap ⟨hp, g, d, tk, os⟩) l1 xs := c1
    have hL2 : Heap.IsTuple (Shared.heap ⟨mj1 hp l1, g, d, tk, os⟩) l2 ys := Heap.IsTuple.push c2 _
    wp_walk using wpAny_pyIter_list hL1, wpAny_pyIter_tuple hL2
    exact ⟨_, rfl, h⟩
section
variable {prog : Program} {w : World} {A : Around} {E : Value → Shared → Prop} {s : Shared}
theorem call_mixed {l1 l2 : Addr} {xs ys : Array Value} {Q : Value → Shared → Prop} (c1 : s.heap.IsList l1 xs) (c2 : s.heap.IsTuple l2 ys)
    (h : ∀ g, IsZip g (s.heap.objs.size + 4) (s.heap.objs.size + 2) (s.heap.objs.size + 3) .none → IsPair g (s.heap.objs.size + 2) (.ref s.heap.objs.size) (.ref (s.heap.objs.size + 1)) → IsPair g (s.heap.objs.size + 3) .none .none →
      g.IsListIter s.heap.objs.size l1 0 → g.IsTupleIter (s.heap.objs.size + 1) l2 0 → g.objs.size = s.heap.objs.size + 5 → (∀ c o, s.heap.get? c = some o → g.get? c = some o) → Q (.ref (s.heap.objs.size + 4)) { s with heap := g }) :
    wpAny (model prog w) A (call (.type "zip") [.ref l1, .ref l2]) Q E s := by
  refine callType_new F.called_zip (by decide) (F.typeCall_zip_2 _ _) (F.newCall_zip_2 _ _) (fun o => F.args_object_init_3 o _ _) F.entry_zip_new (meets_new l1 l2 xs ys) ⟨c1, c2, ?_⟩
  have k1 : (mj1 s.heap l1).objs.size = s.heap.objs.size + 1 := Heap.size_push ..
  have k2 : (mj2 s.heap l1 l2).objs.size = s.heap.objs.size + 2 := by rw [Heap.size_push, k1]
  have k3 : (mj3 s.heap l1 l2).objs.size = s.heap.objs.size + 3 := by rw [Heap.size_push, k2]
  have k4 : (mj4 s.heap l1 l2).objs.size = s.heap.objs.size + 4 := by rw [Heap.size_push, k3]
  have k5 : (mj5 s.heap l1 l2).objs.size = s.heap.objs.size + 5 := by rw [Heap.size_push, k4]
  have p5 : (mj5 s.heap l1 l2).get? (mj4 s.heap l1 l2).objs.size = some _ := Heap.get?_push_size _ rfl
  have p4 : (mj5 s.heap l1 l2).get? (mj3 s.heap l1 l2).objs.size = some _ := Heap.get?_push_of_some _ (Heap.get?_push_size _ rfl)
  have p3 : (mj5 s.heap l1 l2).get? (mj2 s.heap l1 l2).objs.size = some _ := Heap.get?_push_of_some _ (Heap.get?_push_of_some _ (Heap.get?_push_size _ rfl))
  have p2 : (mj5 s.heap l1 l2).get? (mj1 s.heap l1).objs.size = some _ := Heap.get?_push_of_some _ (Heap.get?_push_of_some _ (Heap.get?_push_of_some _ (Heap.get?_push_size _ rfl)))
  have p1 : (mj5 s.heap l1 l2).get? s.heap.objs.size = some _ := Heap.get?_push_of_some _ (Heap.get?_push_of_some _ (Heap.get?_push_of_some _ (Heap.get?_push_of_some _ (Heap.get?_push_size _ rfl))))
  show _ ∧ _
  rw [k2, k3, k4] at p5; rw [k1, k2] at p3; rw [k3] at p4; rw [k1] at p2; rw [k4]
  exact ⟨⟨_, p5, rfl⟩, h _ p5 p3 p4 ⟨_, p1, rfl, rfl⟩ ⟨_, p2, rfl, rfl⟩ k5 fun c o q => Heap.get?_push_of_some _ (Heap.get?_push_of_some _ (Heap.get?_push_of_some _ (Heap.get?_push_of_some _ (Heap.get?_push_of_some _ q))))⟩
end
open PySem.Spec PyProof.Rows L2
/-- the list at a, the tuple at b, their items in new pairs -/
def ItL (K : PySem.W.Frag) (a b : Addr) : It :=
  ⟨fun i H => ∃ (xs ys : List V) (x y : V), SqL K H a xs ∧ SqT K H b ys ∧ xs[i]? = some x ∧ ys[i]? = some y,
   fun i H v G => ∃ N x y, v = .ref N ∧ H N = none ∧ G = upd H N (.tup [x, y]) ∧ (∀ xs, SqL K H a xs → xs[i]? = some x) ∧ ∀ ys, SqT K H b ys → ys[i]? = some y,
   fun i H => ∃ xs ys : List V, SqL K H a xs ∧ SqT K H b ys ∧ (xs.length ≤ i ∨ ys.length ≤ i)⟩
theorem turns {P : Program} {w : World} {K : PySem.W.Frag} {elts : List Expr} {kk : Nat} {tpos : Pos} {a b z TI TO i1 i2 : Addr} (D : ZipApart z TI TO i1 i2 a b) :
    Turn P w K (.Tuple elts kk tpos) (ItL K a b) [z, TI, TO, i1, i2] z (fun i g => IsZip g z TI TO .none ∧ IsPair g TI (.ref i1) (.ref i2) ∧ (∃ x y, IsPair g TO x y) ∧ g.IsListIter i1 a i ∧ g.IsTupleIter i2 b i) where
  mem := by simp
  obj := fun i g ⟨cz, cI, ⟨x, y, cO⟩, ⟨o1, e1, _, d1⟩, ⟨o2, e2, _, d2⟩⟩ c hc => by
    rcases (show c = z ∨ c = TI ∨ c = TO ∨ c = i1 ∨ c = i2 by simpa using hc) with rfl | rfl | rfl | rfl | rfl
    · exact ⟨_, cz, fun v q => nomatch q⟩
    · exact ⟨_, cI, fun v q => nomatch q⟩
    · exact ⟨_, cO, fun v q => nomatch q⟩
    · exact ⟨o1, e1, fun v q => by rw [d1] at q; cases q⟩
    · exact ⟨o2, e2, fun v q => by rw [d2] at q; cases q⟩
  keep := fun i g g' ⟨cz, cI, ⟨x, y, cO⟩, a1, a2⟩ k => ⟨k z (by simp) _ cz, k TI (by simp) _ cI, ⟨x, y, k TO (by simp) _ cO⟩, a1.at fun o q => k i1 (by simp) o q, a2.at fun o q => k i2 (by simp) o q⟩
  item := by
    intro X hP hw hK hc i pins s σ H E I hf st hg
    subst hP hw hK
    obtain ⟨cz, cI, ⟨x0, y0, cO⟩, a1, a2⟩ := st
    obtain ⟨xs, ys, x, y, qx, qy, hx, hy⟩ := hg
    obtain ⟨its, rv, p, _⟩ := I.list qx
    obtain ⟨jts, rv2, p2, _⟩ := I.tuple qy
    obtain ⟨u, hu, ru⟩ := rv.get hx
    obtain ⟨u2, hu2, ru2⟩ := rv2.get hy
    have lz : z < s.heap.objs.size := Heap.lt_size cz
    refine next_item (nxL i1 a its.toArray) (nxT i2 b jts.toArray) D cz cI cO a1 a2 p.isList p2 (x := u) (y := u2) (by simpa using hu) (by simpa using hu2) fun g z' TO' a1' a2' cT hsz kp => ?_
    refine ⟨_, rfl, wpAny_letOwnedTupleGo_zip (s := { s with heap := g }) z' fun g' z'' sb => ?_⟩
    have cT2 : g'.get? s.heap.objs.size = some { cls := .type "tuple", data := .seq #[u, u2] } := (sb.2 _ (Nat.ne_of_gt lz)).trans cT
    have new : ObjOk X.prog X.w (upd H s.heap.objs.size (.tup [x, y])) g' s.heap.objs.size (.tup [x, y]) := ⟨by show 2 ≤ sizeLine; decide, [u, u2], .cons ru (.cons ru2 .nil), ⟨_, cT2, rfl, _, rfl⟩⟩
    have all : ∀ c o, c ∉ [z, TI, TO, i1, i2] → s.heap.get? c = some o → g'.get? c = some o := fun c o hb q => by
      simp only [List.mem_cons, List.not_mem_nil, or_false, not_or] at hb
      exact (sb.2 c hb.1).trans (kp c o hb.1 hb.2.2.1 hb.2.2.2.1 hb.2.2.2.2 q)
    have I1 : Inv X pins σ (upd H s.heap.objs.size (.tup [x, y])) { s with heap := g' } := I.turnedNew (t' := s.toks) (ch := [z, TI, TO, i1, i2]) all hf (Nat.le_refl _) new
    refine ⟨.ref s.heap.objs.size, _, I1, rfl, ⟨_, x, y, rfl, I.hok.fresh (Nat.le_refl _), rfl, fun l hl => (I.list_inj hl qx) ▸ hx, fun l hl => (I.tuple_inj hl qy) ▸ hy⟩, ⟨z'', (sb.2 _ D.TIz).trans (kp _ _ D.TIz D.TITO D.TIi1 D.TIi2 cI), ⟨u, u2, (sb.2 _ D.TOz).trans TO'⟩, a1'.at fun o q => (sb.2 _ D.i1z).trans q, a2'.at fun o q => (sb.2 _ D.i2z).trans q⟩, fun c hcm => ?_⟩
    have lc : c < s.heap.objs.size := by
      rcases (show c = z ∨ c = TI ∨ c = TO ∨ c = i1 ∨ c = i2 by simpa using hcm) with rfl | rfl | rfl | rfl | rfl
      · exact lz
      · exact Heap.lt_size cI
      · exact Heap.lt_size cO
      · exact (nxL c a its.toArray).lt a1
      · exact (nxT c b jts.toArray).lt a2
    rw [upd_ne (Nat.ne_of_lt lc)]; exact (hf c hcm).1
  done := by
    intro X hP hw hK hc i pins s σ H E I hf st hg
    subst hP hw hK
    obtain ⟨cz, cI, ⟨x0, y0, cO⟩, a1, a2⟩ := st
    obtain ⟨xs, ys, qx, qy, he⟩ := hg
    obtain ⟨its, rv, p, _⟩ := I.list qx
    obtain ⟨jts, rv2, p2, _⟩ := I.tuple qy
    have n1 := rv.length
    have n2 := rv2.length
    have hn : its.toArray[i]? = none ∨ jts.toArray[i]? = none := he.elim (fun q => .inl (by simp; omega)) fun q => .inr (by simp; omega)
    exact next_over (nxL i1 a its.toArray) (nxT i2 b jts.toArray) (I.ok.hd hc) D cz cI cO a1 a2 p.isList p2 hn fun g kp => ⟨rfl, I.turnedL (t' := s.toks) (ch := [z, TI, TO, i1, i2]) (fun c o hb q => by
      simp only [List.mem_cons, List.not_mem_nil, or_false, not_or] at hb
      exact kp c o hb.1 hb.2.2.1 hb.2.2.2.1 hb.2.2.2.2 q) hf⟩
  self := fun A i s Q E st h => wpAny_pyIter_zip st.1 h
def iMixL (K : PySem.W.Frag) (ta : TA) : TI := fun σ H R => ta σ H fun vs G => ∃ a b xs ys, vs = [.ref a, .ref b] ∧ SqL K G a xs ∧ SqT K G b ys ∧ R (ItL K a b) G
theorem pi_mixedL {X : Cx} {e e2 : Expr} {ta : TA} {p pos tpos : Pos} {elts : List Expr} {kk : Nat} (hg : Gl X "zip") (hm : X.mg "zip" = none) (ha : PA X [e, e2] ta)
    (hs : starEach [e, e2] X.env = (false, eval e X.env) :: starEach [e2] X.env := by rfl) (hpl : (backTo pos (starEach [e2] X.env)).any (·.1) = false := by rfl) : PI X (.Tuple elts kk tpos) (.Call (.Name "zip" p) [e, e2] [] pos) (iMixL X.K ta) := by
  refine ⟨fun pins s σ H R I h => Call_ (ld_blt I hg hm PyProof.Rows.boot_zip (PyProof.Rows.callWith_type1 (thn (ha.run pos pins s σ H _ I h) fun us r ⟨vs, G, I1, r1, a, b, xs, ys, ex, qx, qy, q⟩ => ?_) hs hpl))⟩
  subst ex
  obtain ⟨u, u2, rfl, q1, q2⟩ := vals2 r1
  cases q1
  cases q2
  obtain ⟨its, rv, p1, _⟩ := I1.list qx
  obtain ⟨jts, rv2, p2, _⟩ := I1.tuple qy
  obtain ⟨o2, ho2, _⟩ := id p2
  refine call_mixed p1.isList (show r.heap.IsTuple b jts.toArray from p2) fun g cz cI cO a1 a2 hsz kp => wpAny_pyIter_zip cz ?_
  have I2 : Inv X pins σ G { r with heap := g } := I1.kept (t' := r.toks) kp
  refine ⟨r.heap.objs.size + 4, [r.heap.objs.size + 4, r.heap.objs.size + 2, r.heap.objs.size + 3, r.heap.objs.size, r.heap.objs.size + 1], _, _, G, rfl, I2, turns (PySem.W.ktu_apart r.heap.objs.size a b p1.lt (Heap.lt_size ho2)), ⟨cz, cI, ⟨_, _, cO⟩, a1, a2⟩, fun c hc => ?_, q⟩
  have le : r.heap.objs.size ≤ c := by
    rcases (show c = r.heap.objs.size + 4 ∨ c = r.heap.objs.size + 2 ∨ c = r.heap.objs.size + 3 ∨ c = r.heap.objs.size ∨ c = r.heap.objs.size + 1 by simpa using hc) with rfl | rfl | rfl | rfl | rfl
    · exact Nat.le_add_right _ 4
    · exact Nat.le_add_right _ 2
    · exact Nat.le_add_right _ 3
    · exact Nat.le_refl _
    · exact Nat.le_add_right _ 1
  exact I1.fpOk le (I1.hok.fresh le)
end Zl
set_option Elab.async false
set_option linter.all false
set_option maxRecDepth 100000
namespace Dn
open PySem PySem.Spec PyProof.Rows L2
open PySem.W (Frag)
variable [Tb]
abbrev Fi := Fl
/-- what an iterator yields: data, a new tuple of data, or a new pair of a number and a new tuple of data -/
inductive Yd (K : Frag) (F H : Hp) (x : V) (H' : Hp) (d : PyData) : Prop where
  | inl (h : H' = H ∧ Dp K F x d)
  | inr (h : ∃ T xs es, H T = none ∧ H' = upd H T (.tup xs) ∧ x = .ref T ∧ d = .tuple es ∧ DpAll K F xs es)
  | in3 (h : ∃ T T2 xs es, ∃ i : Int, H T = none ∧ H T2 = none ∧ T ≠ T2 ∧ H' = upd (upd H T (.tup xs)) T2 (.tup [.int i, .ref T]) ∧ x = .ref T2 ∧ d = .tuple [.int i, .tuple es] ∧ DpAll K F xs es)
structure Wk (K : Frag) (F : Hp) (J : It) (ds : List PyData) : Prop where
  go : ∀ i H, Same F H → i < ds.length → J.go i H
  stop : ∀ i H, Same F H → ds.length ≤ i → J.stop i H
  yld : ∀ i H x H' d, Same F H → ds[i]? = some d → J.yld i H x H' → Yd K F H x H' d
theorem Wk.up {K : Frag} {F F' : Hp} {J : It} {ds : List PyData} (w : Wk K F J ds) (s : Same F F') : Wk K F' J ds :=
  ⟨fun i H h => w.go i H (s.trans h), fun i H h => w.stop i H (s.trans h), fun i H x H' d h e y => by
    rcases w.yld i H x H' d (s.trans h) e y with ⟨h1, h2⟩ | ⟨T, xs, es, h1, h2, h3, h4, h5⟩ | ⟨T, T2, xs, es, j, h1, h2, h3, h4, h5, h6, h7⟩
    · exact .inl ⟨h1, h2.up s⟩
    · exact .inr ⟨T, xs, es, h1, h2, h3, h4, h5.up s⟩
    · exact .in3 ⟨T, T2, xs, es, j, h1, h2, h3, h4, h5, h6, h7.up s⟩⟩
def tI (K : Frag) (f : Fi) : TI := fun σ H R => ∃ c F env ds env', Rl K c F σ H env ∧ f env = some (ds, env') ∧ ∀ J F' H', Same F F' → Rl K c F' σ H' env' → Wk K F' J ds → R J H'
/-- the items of data that is walked -/
@[simp] def items : PyData → Option (List PyData)
  | .list ds => some ds
  | .tuple ds => some ds
  | _ => none
def iSeq (f : Fe) : Fi := fun env => (f env).bind fun p => (items p.1).map fun ds => (ds, p.2)
def rng (lo hi : Int) : List PyData := (List.range (hi - lo).toNat).map fun (i : Nat) => .int (lo + i)
noncomputable def iR1 (f : Fl) : Fi := fun env => (f env).bind fun p => match p.1 with
  | [.int n] => if smallI n then some (rng 0 n, p.2) else none
  | _ => none
noncomputable def iR2 (f : Fl) : Fi := fun env => (f env).bind fun p => match p.1 with
  | [.int m, .int n] => if smallI m && smallI n then some (rng m n, p.2) else none
  | _ => none
def zipD (xs ys : List PyData) : List PyData := List.zipWith (fun a b => .tuple [a, b]) xs ys
def iZp (f : Fl) : Fi := fun env => (f env).bind fun p => match p.1 with
  | [.list xs, .list ys] => some (zipD xs ys, p.2)
  | [.tuple xs, .list ys] => some (zipD xs ys, p.2)
  | [.list xs, .tuple ys] => some (zipD xs ys, p.2)
  | [.tuple xs, .tuple ys] => some (zipD xs ys, p.2)
  | _ => none
def enumD (n : Int) : List PyData → List PyData
  | [] => []
  | d :: ds => .tuple [.int n, d] :: enumD (n + 1) ds
def iEn (f : Fl) : Fi := fun env => (f env).bind fun p => match p.1 with
  | [.list xs] => some (enumD 0 xs, p.2)
  | _ => none
section
variable {X : Cx} {tg l : Expr} {f : Fe} {fl : Fl}
/-- a list or a tuple -/
def iLT (K : Frag) (tl : TE) : TI := fun σ H R => tl σ H fun x H1 => (∃ a, x = .ref a ∧ (∃ xs, SqL K H1 a xs) ∧ R (Itl K a) H1) ∨ (∃ a, x = .ref a ∧ (∃ xs, SqT K H1 a xs) ∧ R (Itt K a) H1)
theorem pi_lt {tl : TE} (hl : PE X l tl) : PI X tg l (iLT X.K tl) := by
  refine ⟨fun pins s σ H R I h => ?_⟩
  refine thn (hl.run pins s σ H _ I h) fun v s1 ⟨x, H1, I1, r1, q1⟩ => ?_
  rcases q1 with ⟨a, e, ⟨xs, hq⟩, q⟩ | ⟨a, e, ⟨xs, hq⟩, q⟩
  · subst e
    cases r1
    obtain ⟨its, rv, p, hz⟩ := I1.list hq
    refine wpAny_pyIter_list p.isList ?_
    refine ⟨s1.heap.objs.size, [s1.heap.objs.size], _, _, H1, rfl, I1.kept (t' := s1.toks) fun b o e => Heap.get?_push_of_some _ e, turn_list a _, ⟨_, Heap.get?_push_size _ rfl, rfl, rfl⟩, fun b hb => ?_, q⟩
    have e : b = s1.heap.objs.size := by simpa using hb
    subst e
    exact I1.fpOk (Nat.le_refl _) (I1.hok.fresh (Nat.le_refl _))
  · subst e
    cases r1
    obtain ⟨its, rv, p, hz⟩ := I1.tuple hq
    refine wpAny_pyIter_tuple (show s1.heap.IsTuple a its.toArray from p) ?_
    refine ⟨s1.heap.objs.size, [s1.heap.objs.size], _, _, H1, rfl, I1.kept (t' := s1.toks) fun b o e => Heap.get?_push_of_some _ e, turn_tuple a _, ⟨_, Heap.get?_push_size _ rfl, rfl, rfl⟩, fun b hb => ?_, q⟩
    have e : b = s1.heap.objs.size := by simpa using hb
    subst e
    exact I1.fpOk (Nat.le_refl _) (I1.hok.fresh (Nat.le_refl _))
theorem len_get {α : Type} {l : List α} {i : Nat} (h : i < l.length) : ∃ a, l[i]? = some a := ⟨_, List.getElem?_eq_getElem h⟩
theorem wk_list {K : Frag} {F : Hp} {a : Addr} {xs : List V} {ds : List PyData} (hs : SqL K F a xs) (ha : DpAll K F xs ds) : Wk K F (Itl K a) ds where
  go := fun i H s h => by
    obtain ⟨x, hx⟩ := len_get (show i < xs.length by rw [ha.len]; exact h)
    exact ⟨xs, x, s.seq hs, hx⟩
  stop := fun i H s h => ⟨xs, s.seq hs, by rw [ha.len]; exact h⟩
  yld := fun i H x H' d s e y => by
    obtain ⟨h1, h2⟩ := y
    obtain ⟨v, h3, h4⟩ := ha.at e
    have h5 := h2 xs (s.seq hs)
    rw [h3] at h5
    cases h5
    exact .inl ⟨h1, h4⟩
theorem wk_tup {K : Frag} {F : Hp} {a : Addr} {xs : List V} {ds : List PyData} (hs : SqT K F a xs) (ha : DpAll K F xs ds) : Wk K F (Itt K a) ds where
  go := fun i H s h => by
    obtain ⟨x, hx⟩ := len_get (show i < xs.length by rw [ha.len]; exact h)
    exact ⟨xs, x, sqT_mono s hs, hx⟩
  stop := fun i H s h => ⟨xs, sqT_mono s hs, by rw [ha.len]; exact h⟩
  yld := fun i H x H' d s e y => by
    obtain ⟨h1, h2⟩ := y
    obtain ⟨v, h3, h4⟩ := ha.at e
    have h5 := h2 xs (sqT_mono s hs)
    rw [h3] at h5
    cases h5
    exact .inl ⟨h1, h4⟩
theorem di_seq (h : PE X l (Ge X.K f)) : PI X tg l (tI X.K (iSeq f)) := PI.imp (pi_lt h) fun σ H R ⟨c, F, env, ds, env', R0, e, k⟩ => by
  unfold iSeq at e
  simp only [Option.bind_eq_some_iff, Option.map_eq_some_iff] at e
  obtain ⟨⟨d1, n1⟩, h1, es, h2, h3⟩ := e
  obtain ⟨rfl, rfl⟩ := Prod.mk.inj h3
  refine ⟨c, F, env, d1, n1, R0, h1, fun v F' H' s R' hv => ?_⟩
  cases hv with
  | lst hs ha => cases h2; exact .inl ⟨_, rfl, ⟨_, R'.sub.seq hs⟩, k _ F' H' s R' (wk_list hs ha)⟩
  | tup hs ha => cases h2; exact .inr ⟨_, rfl, ⟨_, sqT_mono R'.sub hs⟩, k _ F' H' s R' (wk_tup hs ha)⟩
  | non => cases h2
  | bl _ => cases h2
  | int _ => cases h2
  | str _ => cases h2
  | dct _ _ => cases h2
  | exc _ _ _ => cases h2
  | rng _ => cases h2
  | nw _ => cases h2
theorem wk_rng {K : Frag} {F : Hp} {lo hi : Int} : Wk K F (Itr lo (hi - lo).toNat) (rng lo hi) where
  go := fun i H s h => by
    have h' : i < (rng lo hi).length := h
    simp only [rng, List.length_map, List.length_range] at h'
    exact h'
  stop := fun i H s h => by
    have h' : (rng lo hi).length ≤ i := h
    simp only [rng, List.length_map, List.length_range] at h'
    exact h'
  yld := fun i H x H' d s e y => by
    obtain ⟨h1, h2⟩ := y
    subst h2
    simp only [rng, List.getElem?_map, Option.map_eq_some_iff] at e
    obtain ⟨j, h3, h4⟩ := e
    have h5 : i < (hi - lo).toNat := by
      by_cases hh : i < (hi - lo).toNat
      · exact hh
      · rw [List.getElem?_eq_none (by rw [List.length_range]; omega)] at h3; cases h3
    rw [List.getElem?_range h5] at h3
    cases h3
    subst h4
    exact .inl ⟨h1, .int _⟩
theorem di_r1 {a : Expr} {p pos : Pos} (hg : Gl X "range") (hm : X.mg "range" = none) (ha : PA X [a] (Ga X.K fl)) (hs : starEach [a] X.env = [(false, eval a X.env)] := by rfl) : PI X tg (.Call (.Name "range" p) [a] [] pos) (tI X.K (iR1 fl)) :=
  PI.imp (pi_range1 hg hm ha hs) fun σ H R ⟨c, F, env, ds, env', R0, e, k⟩ => by
  unfold iR1 at e
  simp only [Option.bind_eq_some_iff] at e
  obtain ⟨⟨d1, n1⟩, h1, h2⟩ := e
  dsimp only at h2
  split at h2
  · split at h2
    · rename_i hz
      cases h2
      refine ⟨c, F, env, _, _, R0, h1, fun v F' H' s R' hv => ?_⟩
      cases hv with
      | cons h3 h4 =>
        cases h4; cases h3
        obtain ⟨b1, b2⟩ := smallI_b hz
        refine ⟨_, rfl, b1, b2, ?_⟩
        have := wk_rng (K := X.K) (F := F') (lo := 0) (hi := ‹Int›)
        rw [Int.sub_zero] at this
        exact k _ F' H' s R' this
    · cases h2
  · cases h2
theorem di_r2 {a b : Expr} {p pos : Pos} (hg : Gl X "range") (hm : X.mg "range" = none) (ha : PA X [a, b] (Ga X.K fl)) (hs : starEach [a, b] X.env = [(false, eval a X.env), (false, eval b X.env)] := by rfl) (hs2 : starEach [b] X.env = [(false, eval b X.env)] := by rfl) :
    PI X tg (.Call (.Name "range" p) [a, b] [] pos) (tI X.K (iR2 fl)) :=
  PI.imp (pi_range2 hg hm ha hs hs2) fun σ H R ⟨c, F, env, ds, env', R0, e, k⟩ => by
  unfold iR2 at e
  simp only [Option.bind_eq_some_iff] at e
  obtain ⟨⟨d1, n1⟩, h1, h2⟩ := e
  dsimp only at h2
  split at h2
  · split at h2
    · rename_i hz
      rw [Bool.and_eq_true] at hz
      cases h2
      refine ⟨c, F, env, _, _, R0, h1, fun v F' H' s R' hv => ?_⟩
      cases hv with
      | cons h3 h4 =>
        cases h4 with
        | cons h4 h5 =>
          cases h5; cases h3; cases h4
          obtain ⟨b1, b2⟩ := smallI_b hz.1
          obtain ⟨b3, b4⟩ := smallI_b hz.2
          exact ⟨_, _, rfl, ⟨b1, b2, b3, b4⟩, k _ F' H' s R' wk_rng⟩
    · cases h2
  · cases h2
theorem zip_get {xs ys : List PyData} {i : Nat} : (zipD xs ys)[i]? = (match xs[i]?, ys[i]? with | some a, some b => some (.tuple [a, b]) | _, _ => none) := by
  unfold zipD
  rw [List.getElem?_zipWith]
  cases xs[i]? <;> cases ys[i]? <;> rfl
theorem wk_zip {K : Frag} {F : Hp} {a b : Addr} {xs ys : List V} {ds es : List PyData} (hs : SqL K F a xs) (ha : DpAll K F xs ds) (hs2 : SqL K F b ys) (ha2 : DpAll K F ys es) : Wk K F (Itz K a b) (zipD ds es) where
  go := fun i H s h => by
    simp only [zipD, List.length_zipWith] at h
    obtain ⟨x, hx⟩ := len_get (show i < xs.length by rw [ha.len]; omega)
    obtain ⟨y, hy⟩ := len_get (show i < ys.length by rw [ha2.len]; omega)
    exact ⟨xs, ys, x, y, s.seq hs, s.seq hs2, hx, hy⟩
  stop := fun i H s h => by
    simp only [zipD, List.length_zipWith] at h
    have l1 := ha.len
    have l2 := ha2.len
    exact ⟨xs, ys, s.seq hs, s.seq hs2, by omega⟩
  yld := fun i H v H' d s e y => by
    obtain ⟨T, x, y, h1, h2, h3, h4, h5⟩ := y
    rw [zip_get] at e
    cases hx : ds[i]? with
    | none => rw [hx] at e; cases e
    | some d1 =>
      cases hy : es[i]? with
      | none => rw [hx, hy] at e; cases e
      | some d2 =>
        rw [hx, hy] at e
        cases e
        obtain ⟨u, f1, f2⟩ := ha.at hx
        obtain ⟨w, f3, f4⟩ := ha2.at hy
        have := h4 xs (s.seq hs)
        rw [f1] at this
        cases this
        have := h5 ys (s.seq hs2)
        rw [f3] at this
        cases this
        exact .inr ⟨T, _, _, h2, h3, h1, rfl, .cons f2 (.cons f4 .nil)⟩
theorem wk_zipM {K : Frag} {F : Hp} {a b : Addr} {xs ys : List V} {ds es : List PyData} (hs : SqT K F a xs) (ha : DpAll K F xs ds) (hs2 : SqL K F b ys) (ha2 : DpAll K F ys es) : Wk K F (Zm.ItM K a b) (zipD ds es) where
  go := fun i H s h => by
    simp only [zipD, List.length_zipWith] at h
    obtain ⟨x, hx⟩ := len_get (show i < xs.length by rw [ha.len]; omega)
    obtain ⟨y, hy⟩ := len_get (show i < ys.length by rw [ha2.len]; omega)
    exact ⟨xs, ys, x, y, sqT_mono s hs, s.seq hs2, hx, hy⟩
  stop := fun i H s h => by
    simp only [zipD, List.length_zipWith] at h
    have l1 := ha.len
    have l2 := ha2.len
    exact ⟨xs, ys, sqT_mono s hs, s.seq hs2, by omega⟩
  yld := fun i H v H' d s e y => by
    obtain ⟨T, x, y, h1, h2, h3, h4, h5⟩ := y
    rw [zip_get] at e
    cases hx : ds[i]? with
    | none => rw [hx] at e; cases e
    | some d1 =>
      cases hy : es[i]? with
      | none => rw [hx, hy] at e; cases e
      | some d2 =>
        rw [hx, hy] at e
        cases e
        obtain ⟨u, f1, f2⟩ := ha.at hx
        obtain ⟨w, f3, f4⟩ := ha2.at hy
        have := h4 xs (sqT_mono s hs)
        rw [f1] at this
        cases this
        have := h5 ys (s.seq hs2)
        rw [f3] at this
        cases this
        exact .inr ⟨T, _, _, h2, h3, h1, rfl, .cons f2 (.cons f4 .nil)⟩
theorem wk_zipL {K : Frag} {F : Hp} {a b : Addr} {xs ys : List V} {ds es : List PyData} (hs : SqL K F a xs) (ha : DpAll K F xs ds) (hs2 : SqT K F b ys) (ha2 : DpAll K F ys es) : Wk K F (Zl.ItL K a b) (zipD ds es) where
  go := fun i H s h => by
    simp only [zipD, List.length_zipWith] at h
    obtain ⟨x, hx⟩ := len_get (show i < xs.length by rw [ha.len]; omega)
    obtain ⟨y, hy⟩ := len_get (show i < ys.length by rw [ha2.len]; omega)
    exact ⟨xs, ys, x, y, s.seq hs, sqT_mono s hs2, hx, hy⟩
  stop := fun i H s h => by
    simp only [zipD, List.length_zipWith] at h
    have l1 := ha.len
    have l2 := ha2.len
    exact ⟨xs, ys, s.seq hs, sqT_mono s hs2, by omega⟩
  yld := fun i H v H' d s e y => by
    obtain ⟨T, x, y, h1, h2, h3, h4, h5⟩ := y
    rw [zip_get] at e
    cases hx : ds[i]? with
    | none => rw [hx] at e; cases e
    | some d1 =>
      cases hy : es[i]? with
      | none => rw [hx, hy] at e; cases e
      | some d2 =>
        rw [hx, hy] at e
        cases e
        obtain ⟨u, f1, f2⟩ := ha.at hx
        obtain ⟨w, f3, f4⟩ := ha2.at hy
        have := h4 xs (s.seq hs)
        rw [f1] at this
        cases this
        have := h5 ys (sqT_mono s hs2)
        rw [f3] at this
        cases this
        exact .inr ⟨T, _, _, h2, h3, h1, rfl, .cons f2 (.cons f4 .nil)⟩
theorem wk_zipT {K : Frag} {F : Hp} {a b : Addr} {xs ys : List V} {ds es : List PyData} (hs : SqT K F a xs) (ha : DpAll K F xs ds) (hs2 : SqT K F b ys) (ha2 : DpAll K F ys es) : Wk K F (RZ.ItzT K a b) (zipD ds es) where
  go := fun i H s h => by
    simp only [zipD, List.length_zipWith] at h
    obtain ⟨x, hx⟩ := len_get (show i < xs.length by rw [ha.len]; omega)
    obtain ⟨y, hy⟩ := len_get (show i < ys.length by rw [ha2.len]; omega)
    exact ⟨xs, ys, x, y, sqT_mono s hs, sqT_mono s hs2, hx, hy⟩
  stop := fun i H s h => by
    simp only [zipD, List.length_zipWith] at h
    have l1 := ha.len
    have l2 := ha2.len
    exact ⟨xs, ys, sqT_mono s hs, sqT_mono s hs2, by omega⟩
  yld := fun i H v H' d s e y => by
    obtain ⟨T, x, y, h1, h2, h3, h4, h5⟩ := y
    rw [zip_get] at e
    cases hx : ds[i]? with
    | none => rw [hx] at e; cases e
    | some d1 =>
      cases hy : es[i]? with
      | none => rw [hx, hy] at e; cases e
      | some d2 =>
        rw [hx, hy] at e
        cases e
        obtain ⟨u, f1, f2⟩ := ha.at hx
        obtain ⟨w, f3, f4⟩ := ha2.at hy
        have := h4 xs (sqT_mono s hs)
        rw [f1] at this
        cases this
        have := h5 ys (sqT_mono s hs2)
        rw [f3] at this
        cases this
        exact .inr ⟨T, _, _, h2, h3, h1, rfl, .cons f2 (.cons f4 .nil)⟩
theorem _root_.L2.PI.or {X : Cx} {tg it : Expr} {t u : TI} (h : PI X tg it t) (h2 : PI X tg it u) : PI X tg it (fun σ H R => t σ H R ∨ u σ H R) := ⟨fun pins s σ H R I q => q.elim (fun q => h.run pins s σ H R I q) fun q => h2.run pins s σ H R I q⟩
theorem di_zip {e e2 : Expr} {p pos tpos : Pos} {elts : List Expr} {kk : Nat} (hg : Gl X "zip") (hm : X.mg "zip" = none) (ha : PA X [e, e2] (Ga X.K fl))
    (hs : starEach [e, e2] X.env = (false, eval e X.env) :: starEach [e2] X.env := by rfl) (hpl : (backTo pos (starEach [e2] X.env)).any (·.1) = false := by rfl) :
    PI X (.Tuple elts kk tpos) (.Call (.Name "zip" p) [e, e2] [] pos) (tI X.K (iZp fl)) := PI.imp (PI.or (PI.or (RZ.pi_zipA hg hm ha hs hpl) (Zm.pi_mixed hg hm ha hs hpl)) (Zl.pi_mixedL hg hm ha hs hpl)) fun σ H R ⟨c, F, env, ds, env', R0, e, k⟩ => by
  unfold iZp at e
  simp only [Option.bind_eq_some_iff] at e
  obtain ⟨⟨d1, n1⟩, h1, h2⟩ := e
  dsimp only at h2
  split at h2
  · cases h2
    refine .inl (.inl ⟨c, F, env, _, _, R0, h1, fun v F' H' s R' hv => ?_⟩)
    cases hv with
    | cons h3 h4 =>
      cases h4 with
      | cons h4 h5 =>
        cases h5
        cases h3 with
        | lst hs ha =>
          cases h4 with
          | lst hs2 ha2 => exact ⟨_, _, _, _, rfl, .inl ⟨R'.sub.seq hs, R'.sub.seq hs2, k _ F' H' s R' (wk_zip hs ha hs2 ha2)⟩⟩
  · cases h2
    refine .inl (.inr ⟨c, F, env, _, _, R0, h1, fun v F' H' s R' hv => ?_⟩)
    cases hv with
    | cons h3 h4 =>
      cases h4 with
      | cons h4 h5 =>
        cases h5
        cases h3 with
        | tup hs ha =>
          cases h4 with
          | lst hs2 ha2 => exact ⟨_, _, _, _, rfl, sqT_mono R'.sub hs, R'.sub.seq hs2, k _ F' H' s R' (wk_zipM hs ha hs2 ha2)⟩
  · cases h2
    refine .inr ⟨c, F, env, _, _, R0, h1, fun v F' H' s R' hv => ?_⟩
    cases hv with
    | cons h3 h4 =>
      cases h4 with
      | cons h4 h5 =>
        cases h5
        cases h3 with
        | lst hs ha =>
          cases h4 with
          | tup hs2 ha2 => exact ⟨_, _, _, _, rfl, R'.sub.seq hs, sqT_mono R'.sub hs2, k _ F' H' s R' (wk_zipL hs ha hs2 ha2)⟩
  · cases h2
    refine .inl (.inl ⟨c, F, env, _, _, R0, h1, fun v F' H' s R' hv => ?_⟩)
    cases hv with
    | cons h3 h4 =>
      cases h4 with
      | cons h4 h5 =>
        cases h5
        cases h3 with
        | tup hs ha =>
          cases h4 with
          | tup hs2 ha2 => exact ⟨_, _, _, _, rfl, .inr ⟨sqT_mono R'.sub hs, sqT_mono R'.sub hs2, k _ F' H' s R' (wk_zipT hs ha hs2 ha2)⟩⟩
  · cases h2
end
def forL (g : Tg) (b : Fs) : List PyData → En → Option (Flw × En)
  | [], env => some (.nx, env)
  | d :: ds, env => (g d env).bind fun e1 => (b e1).bind fun p => match p.1 with
    | .nx => forL g b ds p.2
    | .ct => forL g b ds p.2
    | .bk => some (.nx, p.2)
    | .rt r => some (.rt r, p.2)
    | .rl r => some (.rl r, p.2)
    | .ex cl r => some (.ex cl r, p.2)
    | .tr r => some (.tr r, p.2)
def sFor (it : Fi) (g : Tg) (b : Fs) : Fs := fun env => (it env).bind fun p => forL g b p.1 p.2
def whL (t : Ft) (b : Fs) : Nat → En → Option (Flw × En)
  | 0, _ => none
  | n + 1, env => (t env).bind fun q => if q.1 then (b q.2).bind fun p => match p.1 with
      | .nx => whL t b n p.2
      | .ct => whL t b n p.2
      | .bk => some (.nx, p.2)
      | .rt r => some (.rt r, p.2)
      | .rl r => some (.rl r, p.2)
      | .ex cl r => some (.ex cl r, p.2)
      | .tr r => some (.tr r, p.2)
    else some (.nx, q.2)
open Classical in
/-- a while, by as many turns as it needs -/
noncomputable def sWh (t : Ft) (b : Fs) : Fs := fun env => if h : ∃ n r, whL t b n env = some r then some (Classical.choose (Classical.choose_spec h)) else none
theorem whL_mono {t : Ft} {b : Fs} : ∀ {n m : Nat} {env : En} {r : Flw × En}, whL t b n env = some r → n ≤ m → whL t b m env = some r
  | 0, m, env, r, h, _ => by cases h
  | n + 1, 0, env, r, h, hm => by omega
  | n + 1, m + 1, env, r, h, hm => by
    unfold whL at h ⊢
    simp only [Option.bind_eq_some_iff] at h ⊢
    obtain ⟨q, h1, h2⟩ := h
    refine ⟨q, h1, ?_⟩
    by_cases hq : q.1 = true
    · rw [if_pos hq] at h2 ⊢
      simp only [Option.bind_eq_some_iff] at h2 ⊢
      obtain ⟨p, h3, h4⟩ := h2
      refine ⟨p, h3, ?_⟩
      split
      · rename_i hp; rw [hp] at h4; exact whL_mono h4 (by omega)
      · rename_i hp; rw [hp] at h4; exact whL_mono h4 (by omega)
      · rename_i hp; rw [hp] at h4; exact h4
      · rename_i hp; rw [hp] at h4; exact h4
      · rename_i hp; rw [hp] at h4; exact h4
      · rename_i hp; rw [hp] at h4; exact h4
      · rename_i hp; rw [hp] at h4; exact h4
    · rw [if_neg hq] at h2 ⊢
      exact h2
theorem sWh_of {t : Ft} {b : Fs} {n : Nat} {env : En} {r : Flw × En} (h : whL t b n env = some r) : sWh t b env = some r := by
  have hx : ∃ n r, whL t b n env = some r := ⟨n, r, h⟩
  have hc := Classical.choose_spec (Classical.choose_spec hx)
  have e : Classical.choose (Classical.choose_spec hx) = r := by
    have a := whL_mono hc (Nat.le_max_left _ n)
    have b' := whL_mono h (Nat.le_max_right (Classical.choose hx) n)
    rw [a] at b'
    exact Option.some.inj b'
  unfold sWh
  rw [dif_pos hx, e]
theorem sWh_inv {t : Ft} {b : Fs} {env : En} {r : Flw × En} (h : sWh t b env = some r) : ∃ n, whL t b n env = some r := by
  unfold sWh at h
  split at h
  · rename_i hx
    have hc := Classical.choose_spec (Classical.choose_spec hx)
    rw [Option.some.inj h] at hc
    exact ⟨_, hc⟩
  · cases h
section
variable {X : Cx} {xc : XC} {pos : Pos}
theorem get_drop {α : Type} {l : List α} {i : Nat} {a : α} (h : l[i]? = some a) : l.drop i = a :: l.drop (i + 1) := by
  have hi := (List.getElem?_eq_some_iff.mp h).1
  have e := (List.getElem?_eq_some_iff.mp h).2
  rw [List.drop_eq_getElem_cons hi, e]
theorem Rl.yield {K : Frag} {c : C3} {F H H' : Hp} {σ : L2.St} {env : En} {x : V} {d : PyData} (R : Rl K c F σ H env) (h : Yd K F H x H' d) :
    ∃ F', Same F F' ∧ Rl K c F' σ H' env ∧ Dp K F' x d := by
  rcases h with ⟨rfl, h⟩ | ⟨T, xs, es, h1, rfl, rfl, rfl, h2⟩ | ⟨T, T2, xs, es, j, h1, h2, h3, rfl, rfl, rfl, h4⟩
  · exact ⟨F, Same.refl F, R, h⟩
  · obtain ⟨s, R'⟩ := R.laid (o := .tup xs) h1
    exact ⟨_, s, R', .tup (SqT.of upd_same) (h2.up s)⟩
  · obtain ⟨s, R'⟩ := R.laid (o := .tup xs) h1
    obtain ⟨s2, R2⟩ := R'.laid (o := .tup [.int j, .ref T]) (by rw [upd_ne (Ne.symm h3)]; exact h2)
    have t1 : Dp K _ (.ref T) (.tuple es) := .tup (SqT.of upd_same) (h4.up s)
    exact ⟨_, s.trans s2, R2, .tup (SqT.of upd_same) (.cons (.int j) (.cons (t1.up s2) .nil))⟩
theorem ds_for {tg iter : Expr} {body : List Stmt} {fi : Fi} {g : Tg} {S : List Nat} {fb : Fs} (hc : X.calm = true) (hi : PI X tg iter (tI X.K fi)) (hg : PG X tg (tG X.K g S)) (hb : PSs X body (Gs X.K xc fb)) (hp : PassesOwn (model X.prog X.w) X.A X.env X.xe := by first | exact PassesOwn.never | exact passes_of rfl | assumption)
    (hs : ∀ x, foldedSetIterable iter X.env x = pure x := by intro _; rfl) : PS X (.For tg iter body [] pos) (Gs X.K xc (sFor fi g fb)) := PS.imp (ps_for hp hc hi hg hb hs) fun D σ H ⟨c, F, env, fl, env', R, e, k⟩ => by
  unfold sFor at e
  simp only [Option.bind_eq_some_iff] at e
  obtain ⟨⟨ds, n1⟩, h1, h2⟩ := e
  refine ⟨c, F, env, ds, n1, R, h1, fun J F1 H1 s1 R1 w => ?_⟩
  refine ⟨fun i m σ H => ∃ F' en, Same F1 F' ∧ Rl X.K c F' σ H en ∧ i ≤ ds.length ∧ m = ds.length - i ∧ forL g fb (ds.drop i) en = some (fl, env'), ⟨ds.length, F1, n1, Same.refl F1, R1, Nat.zero_le _, by omega, by simpa using h2⟩, ?_⟩
  rintro i m σ2 H2 ⟨F2, en, s2, R2, hi, rfl, hl⟩
  by_cases hlt : i < ds.length
  · obtain ⟨d, hd⟩ := len_get hlt
    rw [get_drop hd] at hl
    unfold forL at hl
    simp only [Option.bind_eq_some_iff] at hl
    obtain ⟨e1, h3, p, h4, h5⟩ := hl
    refine .inr ⟨w.go i H2 (s2.trans R2.sub) hlt, _, fun σ' H' hN => ⟨ds.length - (i + 1), by omega, hN⟩, fun x H' y => ?_⟩
    obtain ⟨F3, s3, R3, hx⟩ := R2.yield ((w.up s2).yld i H2 x H' d R2.sub hd y)
    refine ⟨c, F3, en, d, e1, R3, hx, h3, fun σ4 R4 _ => ⟨c, F3, e1, p.1, p.2, R4, h4, ?_⟩⟩
    have s13 := s2.trans s3
    split at h5
    · rename_i hp
      rw [hp]
      exact fun σ' F' H' s R' => ⟨F', p.2, s13.trans s, R', hlt, rfl, h5⟩
    · rename_i hp
      rw [hp]
      exact fun σ' F' H' s R' => ⟨F', p.2, s13.trans s, R', hlt, rfl, h5⟩
    · rename_i hp
      rw [hp]
      cases h5
      exact fun σ' F' H' s R' => k σ' F' H' ((s1.trans s13).trans s) R'
    · rename_i r hp
      rw [hp]
      cases h5
      exact fun σ' F' H' v s R' hv => k σ' F' H' v ((s1.trans s13).trans s) R' hv
    · rename_i r hp
      rw [hp]
      cases h5
      exact fun σ' F' H' p xs s hp R' hx => k σ' F' H' p xs ((s1.trans s13).trans s) hp R' hx
    · rename_i cl r hp
      rw [hp]
      cases h5
      exact fun σ' F' H' v dd s R' hd hv hn => k σ' F' H' v dd ((s1.trans s13).trans s) R' hd hv hn
    · rename_i r hp
      rw [hp]
      cases h5
      exact fun σ' F' H' v s R' hv => k σ' F' H' v ((s1.trans s13).trans s) R' hv
  · have ei : ds.drop i = [] := List.drop_eq_nil_of_le (by omega)
    rw [ei] at hl
    cases hl
    exact .inl ⟨w.stop i H2 (s2.trans R2.sub) (by omega), k σ2 F2 H2 (s1.trans s2) R2⟩
theorem ds_while {t : Expr} {body : List Stmt} {ft : Ft} {fb : Fs} (ht : PT X t (Gt X.K ft)) (hb : PSs X body (Gs X.K xc fb)) (hp : PassesOwn (model X.prog X.w) X.A X.env X.xe := by first | exact PassesOwn.never | exact passes_of rfl | assumption) : PS X (.While t body [] pos) (Gs X.K xc (sWh ft fb)) := PS.imp (ps_while hp ht hb) fun D σ H ⟨c, F, env, fl, env', R, e, k⟩ => by
  obtain ⟨n, hn⟩ := sWh_inv e
  refine ⟨fun m σ H => ∃ F' en, Same F F' ∧ Rl X.K c F' σ H en ∧ whL ft fb m en = some (fl, env'), ⟨n, F, env, Same.refl F, R, hn⟩, ?_⟩
  rintro m σ2 H2 ⟨F2, en, s2, R2, hl⟩
  cases m with
  | zero => cases hl
  | succ m =>
    unfold whL at hl
    simp only [Option.bind_eq_some_iff] at hl
    obtain ⟨⟨q1, q2⟩, h1, h2⟩ := hl
    refine ⟨c, F2, en, q1, q2, R2, h1, fun F3 H3 s3 R3 => ?_⟩
    have s13 := s2.trans s3
    cases q1 with
    | true =>
      rw [if_pos rfl] at h2
      simp only [Option.bind_eq_some_iff] at h2
      obtain ⟨p, h4, h5⟩ := h2
      refine iteT ⟨_, fun σ' H' hN => ⟨m, Nat.lt_succ_self m, hN⟩, c, F3, q2, p.1, p.2, R3, h4, ?_⟩
      split at h5
      · rename_i hp
        rw [hp]
        exact fun σ' F' H' s R' => ⟨F', p.2, s13.trans s, R', h5⟩
      · rename_i hp
        rw [hp]
        exact fun σ' F' H' s R' => ⟨F', p.2, s13.trans s, R', h5⟩
      · rename_i hp
        rw [hp]
        cases h5
        exact fun σ' F' H' s R' => k σ' F' H' (s13.trans s) R'
      · rename_i r hp
        rw [hp]
        cases h5
        exact fun σ' F' H' v s R' hv => k σ' F' H' v (s13.trans s) R' hv
      · rename_i r hp
        rw [hp]
        cases h5
        exact fun σ' F' H' p xs s hp R' hx => k σ' F' H' p xs (s13.trans s) hp R' hx
      · rename_i cl r hp
        rw [hp]
        cases h5
        exact fun σ' F' H' v dd s R' hd hv hn => k σ' F' H' v dd (s13.trans s) R' hd hv hn
      · rename_i r hp
        rw [hp]
        cases h5
        exact fun σ' F' H' v s R' hv => k σ' F' H' v (s13.trans s) R' hv
    | false =>
      rw [if_neg Bool.false_ne_true] at h2
      cases h2
      exact iteF (k σ2 F3 H3 s13 R3)
end
def compL (g : Tg) (t : Ft) (e : Fe) (vs : List Nat) : List PyData → En → Option (List PyData × En)
  | [], env => some ([], env)
  | d :: ds, env => (g d env).bind fun e1 => (t e1).bind fun p => if p.1 then (e p.2).bind fun q => (compL g t e vs ds (wipeE q.2 vs)).map fun r => (q.1 :: r.1, r.2) else compL g t e vs ds (wipeE p.2 vs)
def tYs : Ft := fun env => some (true, env)
def lCm (it : Fi) (g : Tg) (t : Ft) (e : Fe) (vs : List Nat) : Fl := fun env => (it env).bind fun p => if okN p.1.length && noOwn p.2 vs then (compL g t e vs p.1 (wipeE p.2 vs)).map fun r => (r.1, restE p.2 r.2 vs) else none
section
variable {X : Cx} {xc : XC} {pos : Pos}
theorem dts_nil : PTs X [] (Gt X.K tYs) := PTs.imp pts_nil fun σ H Q ⟨c, F, env, b, env', R, e, k⟩ => by
  cases e
  exact k F H (Same.refl F) R
def delA (H : Hp) (p : Addr) : Hp := fun b => if b = p then none else H b
theorem delA_same {H : Hp} {p : Addr} : delA H p p = none := if_pos rfl
theorem delA_ne {H : Hp} {p b : Addr} (h : b ≠ p) : delA H p b = H b := if_neg h
theorem upd_delA {H : Hp} {p : Addr} {o : HO} (h : H p = some o) : upd (delA H p) p o = H := by
  funext b
  by_cases hb : b = p
  · subst hb; rw [upd_same, h]
  · rw [upd_ne hb, delA_ne hb]
theorem Rl.rewatch {K : Frag} {c : C3} {F H : Hp} {σ : L2.St} {env : En} {p : Addr} {o o' : HO} (R : Rl K (wat c p o) F σ H env) (hF0 : c.F0 p = none) (hl : ∃ xs, o = .lst xs := by exact ⟨_, rfl⟩) (ho' : NT o' := by intro _ h; cases h) : Rl K (wat c p o') F σ (upd H p o') env := by
  have hF : F p = none := by
    cases e : F p with
    | none => rfl
    | some u =>
      rcases R.new p (by rw [e]; simp) with z | z
      · exact absurd hF0 z
      · have z' : upd c.H0 p o p = none := z
        rw [upd_same] at z'; cases z'
  have w : ∀ {b : Addr} {f : Hp}, b ≠ p → upd f p o b = upd f p o' b := fun hb => by rw [upd_ne hb, upd_ne hb]
  refine ⟨fun b u e => ?_, R.f0, fun b u e => ?_, fun b u e => ?_, fun b hb => ?_, fun b hb => ?_, R.len, R.val, fun i q ds h => ?_, (by obtain ⟨xs, rfl⟩ := hl; exact tabs_wr R.tab R.watched), R.nf, (fun b ps e => by
    by_cases hbp : b = p
    · subst hbp
      have e' : upd c.G b o' b = some (.tbl ps) := e
      rw [upd_same] at e'
      exact ho' ps (Option.some.inj e')
    · refine R.ng b ps ?_
      show upd c.G p o b = _
      rw [w hbp]; exact e)⟩
  · rw [upd_ne (ne_of_none e hF)]; exact R.sub b u e
  · by_cases hbp : b = p
    · subst hbp
      have e' : upd c.G b o' b = some u := e
      rw [upd_same] at e' ⊢; exact e'
    · rw [upd_ne hbp]
      refine R.gd b u ?_
      show upd c.G p o b = some u
      rw [w hbp]; exact e
  · by_cases hbp : b = p
    · subst hbp
      have e' : upd c.G b o' b = some u := e
      show upd c.H0 b o' b = some u
      rw [upd_same] at e' ⊢; exact e'
    · have := R.g0 b u (by show upd c.G p o b = some u; rw [w hbp]; exact e)
      show upd c.H0 p o' b = some u
      rw [← w hbp]; exact this
  · have hbp : b ≠ p := fun z => by subst z; exact hb hF
    rcases R.new b hb with z | z
    · exact .inl z
    · refine .inr ?_
      show upd c.H0 p o' b = none
      rw [← w hbp]; exact z
  · by_cases hbp : b = p
    · subst hbp; rw [upd_same]; simp
    · rw [upd_ne hbp]
      refine R.dom b ?_
      show upd c.H0 p o b ≠ none
      rw [w hbp]; exact hb
  · obtain ⟨a, xs, e1, e2, e3, e4, e5, e6, e7⟩ := R.own i q ds h
    have ne : a ≠ p := fun z => by
      subst z
      have z' : upd c.G a o a = none := e5
      rw [upd_same] at z'; cases z'
    refine ⟨a, xs, e1, e2, by rw [upd_ne ne]; exact e3, e4, ?_, ?_, e7⟩
    · show upd c.G p o' a = none
      rw [← w ne]; exact e5
    · cases q with
      | true => exact e6
      | false =>
        show upd c.H0 p o' a = none
        rw [← w ne]; exact e6
theorem Rl.unw {K : Frag} {c : C3} {F H : Hp} {σ : L2.St} {env : En} {p : Addr} {o : HO} (R : Rl K (wat c p o) F σ H env) (hG : c.G p = none) (hF0 : c.F0 p = none) (hH0 : c.H0 p = none) (hng : NoT c.G) (hl : ∃ xs, o = .lst xs := by exact ⟨_, rfl⟩) : Rl K c F σ (delA H p) env := by
  obtain ⟨hF, R'⟩ := R.unwatch (o' := o) hG hF0 hH0 hng hl
  refine ⟨fun b u e => ?_, R'.f0, fun b u e => ?_, R'.g0, R'.new, fun b hb => ?_, R'.len, R'.val, fun i q ds h => ?_, (by obtain ⟨xs, rfl⟩ := hl; exact tabs_but R.tab R.watched fun _ hb => delA_ne hb), R.nf, hng⟩
  · have ne := ne_of_none e hF
    have := R'.sub b u e
    rw [upd_ne ne] at this
    rw [delA_ne ne]; exact this
  · have ne := ne_of_none e hG
    have := R'.gd b u e
    rw [upd_ne ne] at this
    rw [delA_ne ne]; exact this
  · have ne : b ≠ p := fun z => by subst z; exact hb hH0
    have := R'.dom b hb
    rw [upd_ne ne] at this
    rw [delA_ne ne]; exact this
  · obtain ⟨a, xs, e1, e2, e3, e4, e5, e6, e7⟩ := R.own i q ds h
    have ne : a ≠ p := fun z => by
      subst z
      have z' : upd c.G a o a = none := e5
      rw [upd_same] at z'; cases z'
    obtain ⟨a', xs', f1, f2, f3, f4, f5, f6, f7⟩ := R'.own i q ds h
    rw [e1] at f1
    cases f1
    exact ⟨a, xs, e1, e2, by rw [delA_ne ne]; exact e3, e4, f5, f6, e7⟩
theorem read_comp {K : Frag} {fi : Fi} {g : Tg} {S : List Nat} {t : Ft} {fe : Fe} {vs : List Nat} (hS : ∀ i ∈ S, i ∈ vs) {σ : L2.St} {H : Hp} {Q : VK} (h : Gf K (lCm fi g t fe vs) σ H Q) : tLc (tI K fi) (tG K g S) (Gt K t) (Ge K fe) vs σ H Q := by
  obtain ⟨c, F, env, ds, env', R, e, k⟩ := h
  unfold lCm at e
  simp only [Option.bind_eq_some_iff] at e
  obtain ⟨⟨ds0, n1⟩, h1, h2⟩ := e
  dsimp only at h2
  split at h2
  · rename_i hz
    rw [Bool.and_eq_true] at hz
    simp only [Option.map_eq_some_iff] at h2
    obtain ⟨⟨res, en'⟩, h3, h4⟩ := h2
    obtain ⟨rfl, rfl⟩ := Prod.mk.inj h4
    refine ⟨c, F, env, ds0, n1, R, h1, fun J F1 H1 s1 R1 w D hD => ?_⟩
    have zz : ds0.length < sizeLine := okN_lt hz.1
    have hG : c.G D = none := R1.gn hD
    have hH0 : c.H0 D = none := R1.h0 hD
    have hF0 : c.F0 D = none := (R1.f0.trans R1.sub).free hD
    refine ⟨fun i m H => ∃ F' en xs acc rest, Same F1 F' ∧ Rl K (wat c D (.lst xs)) F' (wipe σ vs) H en ∧ DpAll K F' xs acc ∧ acc.length ≤ i ∧ i ≤ ds0.length ∧ m = ds0.length - i ∧
        compL g t fe vs (ds0.drop i) en = some (rest, en') ∧ acc ++ rest = res, ⟨ds0.length, F1, wipeE n1 vs, [], [], res, Same.refl F1, (R1.watch' hD).wipe' vs, .nil, Nat.le_refl _, Nat.zero_le _, by omega, by simpa using h3, rfl⟩, ?_⟩
    rintro i m H2 ⟨F2, en, xs, acc, rest, s2, R2, hx, hai, hi, rfl, hl, hres⟩
    by_cases hlt : i < ds0.length
    · obtain ⟨d, hd⟩ := len_get hlt
      rw [get_drop hd] at hl
      unfold compL at hl
      simp only [Option.bind_eq_some_iff] at hl
      obtain ⟨e1, h5, ⟨b6, p6⟩, h6, h7⟩ := hl
      refine .inr ⟨w.go i H2 (s2.trans R2.sub) hlt, _, fun H' hN => ⟨ds0.length - (i + 1), by omega, hN⟩, fun x H' y => ?_⟩
      obtain ⟨F3, s3, R3, hx3⟩ := R2.yield ((w.up s2).yld i H2 x H' d R2.sub hd y)
      refine ⟨_, F3, en, d, e1, R3, hx3, h5, fun σ4 R4 w4 => ⟨?_, _, F3, e1, b6, p6, R4, h6, fun F5 H5 s5 R5 => ?_⟩⟩
      · rw [w4 vs hS, wipe_wipe fun _ h => h]
      have w4' : wipe σ4 vs = wipe σ vs := by rw [w4 vs hS, wipe_wipe fun _ h => h]
      have s25 := (s2.trans s3).trans s5
      cases b6 with
      | true =>
        rw [if_pos rfl] at h7
        simp only [Option.bind_eq_some_iff, Option.map_eq_some_iff] at h7
        obtain ⟨⟨d8, n8⟩, h8, ⟨r9, n9⟩, h9, h10⟩ := h7
        obtain ⟨rfl, rfl⟩ := Prod.mk.inj h10
        refine iteT ⟨_, F5, p6, d8, n8, R5, h8, fun v F6 H6 s6 R6 hv => ⟨xs, R6.watched, ?_, ?_⟩⟩
        · rw [hx.len]; omega
        · have R7 := (R6.rewatch (o' := .lst (xs ++ [v])) hF0).wipe' vs
          rw [w4'] at R7
          exact ⟨F6, _, xs ++ [v], acc ++ [d8], r9, s25.trans s6, R7, (hx.up ((s3.trans s5).trans s6)).app (.cons hv .nil), by simp; omega, hlt, rfl, h9, by rw [← hres]; simp⟩
      | false =>
        rw [if_neg Bool.false_ne_true] at h7
        refine iteF ?_
        have R7 := R5.wipe' vs
        rw [w4'] at R7
        exact ⟨F5, _, xs, acc, rest, s25, R7, hx.up (s3.trans s5), by omega, hlt, rfl, h7, hres⟩
    · have ei : ds0.drop i = [] := List.drop_eq_nil_of_le (by omega)
      rw [ei] at hl
      cases hl
      refine .inl ⟨w.stop i H2 (s2.trans R2.sub) (by omega), ?_⟩
      rw [List.append_nil] at hres
      subst hres
      have R3 := R2.unw hG hF0 hH0 R1.ng
      have R4 := R1.rest hz.2 s2 R3
      have := k D xs F2 (delA H2 D) (s1.trans s2) delA_same R4 hx
      rw [upd_delA R2.watched] at this
      exact this
  · cases h2
theorem df_comp {elt tg iter : Expr} {ifs : List Expr} {scope : Scope} {own : List (Str × Nat)} {fi : Fi} {g : Tg} {S : List Nat} {t : Ft} {fe : Fe} (hc : X.calm = true) (hN : X.N.Nodup) (hi : PI X tg iter (tI X.K fi)) (ok : BlkOk X.N X.env.scope scope own)
    (hg : ∀ (s : Shared) (H : Hp) (C : Addr) (cl : List (Str × Addr)) (fp : List Addr), PG (X.blk s H scope (compEnvC scope cl C X.env) fp) tg (tG X.K g S)) (ht : ∀ (s : Shared) (H : Hp) (C : Addr) (cl : List (Str × Addr)) (fp : List Addr), PTs (X.blk s H scope (compEnvC scope cl C X.env) fp) ifs (Gt X.K t))
    (he : ∀ (s : Shared) (H : Hp) (C : Addr) (cl : List (Str × Addr)) (fp : List Addr), PE (X.blk s H scope (compEnvC scope cl C X.env) fp) elt (Ge X.K fe)) (hS : ∀ i ∈ S, i ∈ own.map (·.2) := by decide) (hs : ∀ x, foldedSetIterable iter X.env x = pure x := by intro _; rfl) :
    PE X (.ListComp elt [⟨tg, iter, ifs, 0⟩] scope pos) (Gf X.K (lCm fi g t fe (own.map (·.2)))) := PE.imp (pe_lc hc hN hi ok hg ht he hs) fun _ _ _ => read_comp hS
/-- y = [..] on one line, y a local name: data, or owned -/
theorem ds_setComp (i : Nat) {y : Str} {py : Pos} {elt tg iter : Expr} {ifs : List Expr} {scope : Scope} {own : List (Str × Nat)} {spos : Pos} {fi : Fi} {g : Tg} {S : List Nat} {t : Ft} {fe : Fe} (hc : X.calm = true) (hN : X.N.Nodup)
    (hsw : swapsWith (.ListComp elt [⟨tg, iter, ifs, 0⟩] scope pos) (some (.Name y py)) spos.line X.env = pure true) (hi : PI X tg iter (tI X.K fi)) (ok : BlkOk X.N X.env.scope scope own)
    (hg : ∀ (s : Shared) (H : Hp) (C : Addr) (cl : List (Str × Addr)) (fp : List Addr), PG (X.blk s H scope (compEnvC scope cl C X.env) fp) tg (tG X.K g S)) (ht : ∀ (s : Shared) (H : Hp) (C : Addr) (cl : List (Str × Addr)) (fp : List Addr), PTs (X.blk s H scope (compEnvC scope cl C X.env) fp) ifs (Gt X.K t))
    (he : ∀ (s : Shared) (H : Hp) (C : Addr) (cl : List (Str × Addr)) (fp : List Addr), PE (X.blk s H scope (compEnvC scope cl C X.env) fp) elt (Ge X.K fe)) (hS : ∀ i ∈ S, i ∈ own.map (·.2) := by decide) (hy : X.N[i]? = some y := by rfl) (hyl : X.env.scope.names.lookup y = some .local := by rfl) (hs : ∀ x, foldedSetIterable iter X.env x = pure x := by intro _; rfl) :
    PS X (.Assign [.Name y py] (.ListComp elt [⟨tg, iter, ifs, 0⟩] scope pos) spos) (Gs X.K xc (sSet (eF (lCm fi g t fe (own.map (·.2)))) (g1 i))) :=
  PS.imp (ps_setLc hc hN hy hyl hsw hi ok hg ht he hs) fun D σ H ⟨c, F, env, fl, env', R, e, k⟩ => by
  simp only [sSet, eF, g1, Option.bind_eq_some_iff, Option.map_eq_some_iff, Option.map_some, Option.some.injEq] at e
  obtain ⟨⟨d1, n1⟩, ⟨⟨ds, n2⟩, h1, h2⟩, h3⟩ := e
  obtain ⟨rfl, rfl⟩ := Prod.mk.inj h2
  obtain ⟨rfl, rfl⟩ := Prod.mk.inj h3
  refine read_comp hS ⟨c, F, env, ds, n2, R, h1, fun p xs F' H' s hp R' hx => ?_⟩
  obtain ⟨sF, R2⟩ := R'.laid (o := .lst xs) hp
  exact k _ _ _ (s.trans sF) (R2.put (.lstS upd_same (hx.up sF)) i)
theorem ds_ownComp (i : Nat) {y : Str} {py : Pos} {elt tg iter : Expr} {ifs : List Expr} {scope : Scope} {own : List (Str × Nat)} {spos : Pos} {fi : Fi} {g : Tg} {S : List Nat} {t : Ft} {fe : Fe} (hc : X.calm = true) (hN : X.N.Nodup)
    (hsw : swapsWith (.ListComp elt [⟨tg, iter, ifs, 0⟩] scope pos) (some (.Name y py)) spos.line X.env = pure true) (hi : PI X tg iter (tI X.K fi)) (ok : BlkOk X.N X.env.scope scope own)
    (hg : ∀ (s : Shared) (H : Hp) (C : Addr) (cl : List (Str × Addr)) (fp : List Addr), PG (X.blk s H scope (compEnvC scope cl C X.env) fp) tg (tG X.K g S)) (ht : ∀ (s : Shared) (H : Hp) (C : Addr) (cl : List (Str × Addr)) (fp : List Addr), PTs (X.blk s H scope (compEnvC scope cl C X.env) fp) ifs (Gt X.K t))
    (he : ∀ (s : Shared) (H : Hp) (C : Addr) (cl : List (Str × Addr)) (fp : List Addr), PE (X.blk s H scope (compEnvC scope cl C X.env) fp) elt (Ge X.K fe)) (hS : ∀ i ∈ S, i ∈ own.map (·.2) := by decide) (hy : X.N[i]? = some y := by rfl) (hyl : X.env.scope.names.lookup y = some .local := by rfl) (hs : ∀ x, foldedSetIterable iter X.env x = pure x := by intro _; rfl) :
    PS X (.Assign [.Name y py] (.ListComp elt [⟨tg, iter, ifs, 0⟩] scope pos) spos) (Gs X.K xc (sOwn (lCm fi g t fe (own.map (·.2))) i)) :=
  PS.imp (ps_setLc hc hN hy hyl hsw hi ok hg ht he hs) fun D σ H ⟨c, F, env, fl, env', R, e, k⟩ => by
  simp only [sOwn, Option.map_eq_some_iff] at e
  obtain ⟨⟨ds, n2⟩, h1, h3⟩ := e
  obtain ⟨rfl, rfl⟩ := Prod.mk.inj h3
  exact read_comp hS ⟨c, F, env, ds, n2, R, h1, fun p xs F' H' s hp R' hx => k _ F' _ s (R'.putOwn hp hx i)⟩
end
/-- a def of plain data: what it computes -/
def spP (K : Frag) (n : Nat) (f : List PyData → Option PyData) : Sp := fun vs H Q _ => ∃ (F : Hp) (ds : List PyData) (d : PyData), vs.length = n ∧ Bs F H ∧ DpAll K F vs ds ∧ f ds = some d ∧
  ∀ v F' H', Same F F' → Bs F' H' → Kp H H' → (∀ b, F' b ≠ none → F b ≠ none ∨ H b = none) → Dp K F' v d → Q v H'
/-- a def whose first parameter is a list that it changes -/
def spM (K : Frag) (n : Nat) (f : List PyData → List PyData → Option (PyData × List PyData)) : Sp := fun vs H Q _ => ∃ (F : Hp) (a : Addr) (ws xs : List V) (ks ds ks' : List PyData) (d : PyData), vs = .ref a :: ws ∧ vs.length = n ∧ Bs F H ∧ F a = none ∧ H a = some (.lst xs) ∧ DpAll K F xs ks ∧ DpAll K F ws ds ∧ f ks ds = some (d, ks') ∧
  ∀ v F' H' xs', Same F F' → Bs F' H' → KpM a H H' → (∀ b, F' b ≠ none → F b ≠ none ∨ H b = none) → H' a = some (.lst xs') → DpAll K F' xs' ks' → Dp K F' v d → Q v H'
/-- a def that hands back a new list -/
def spL (K : Frag) (n : Nat) (f : List PyData → Option (List PyData)) : Sp := fun vs H Q _ => ∃ (F : Hp) (ds es : List PyData), vs.length = n ∧ Bs F H ∧ DpAll K F vs ds ∧ f ds = some es ∧
  ∀ p xs F' H', Same F F' → Bs F' H' → Kp H H' → (∀ b, F' b ≠ none → F b ≠ none ∨ H b = none) → H' p = none → DpAll K F' xs es → Q (.ref p) (upd H' p (.lst xs))
def en0 (N : Nat) (ds : List PyData) : En := ds.map .val ++ List.replicate (N - ds.length) .no
def endP : Option (Flw × En) → Option PyData
  | some (.rt d, _) => some d
  | some (.rl ds, _) => some (.list ds)
  | some (.nx, _) => some .none
  | _ => none
def runP (b : Fs) (N n : Nat) : List PyData → Option PyData := fun ds => if ds.length = n then endP (b (en0 N ds)) else none
def endL : Option (Flw × En) → Option (List PyData)
  | some (.rl ds, _) => some ds
  | _ => none
def runL (b : Fs) (N n : Nat) : List PyData → Option (List PyData) := fun ds => if ds.length = n then endL (b (en0 N ds)) else none
def endM : Option (Flw × En) → Option (PyData × List PyData)
  | some (.rt d, .own true ks :: _) => some (d, ks)
  | some (.rl d, .own true ks :: _) => some (.list d, ks)
  | some (.nx, .own true ks :: _) => some (.none, ks)
  | _ => none
def runM (b : Fs) (N n : Nat) : List PyData → List PyData → Option (PyData × List PyData) := fun ks ds => if ds.length + 1 = n then endM (b (.own true ks :: en0 (N - 1) ds)) else none
theorem en0_val {N : Nat} {ds : List PyData} {i : Nat} {d : PyData} (h : (en0 N ds)[i]? = some (.val d)) : ds[i]? = some d := by
  unfold en0 at h
  by_cases hi : i < ds.length
  · rw [List.getElem?_append_left (by simpa using hi), List.getElem?_map] at h
    cases e : ds[i]? with
    | none => rw [e] at h; cases h
    | some x => rw [e] at h; cases h; rfl
  · rw [List.getElem?_append_right (by simpa using hi), List.getElem?_replicate] at h
    split at h <;> cases h
theorem en0_own {N : Nat} {ds es : List PyData} {i : Nat} {p : Bool} (h : (en0 N ds)[i]? = some (.own p es)) : False := by
  unfold en0 at h
  by_cases hi : i < ds.length
  · rw [List.getElem?_append_left (by simpa using hi), List.getElem?_map] at h
    cases e : ds[i]? with
    | none => rw [e] at h; cases h
    | some x => rw [e] at h; cases h
  · rw [List.getElem?_append_right (by simpa using hi), List.getElem?_replicate] at h
    split at h <;> cases h
theorem start_get {N : List Str} {vs : List V} {i : Nat} {v : V} (h : vs[i]? = some v) : (L2.start N vs)[i]? = some (some v) := by
  unfold L2.start
  have hi := (List.getElem?_eq_some_iff.mp h).1
  rw [List.getElem?_append_left (by simpa using hi), List.getElem?_map, h]
  rfl
section
variable {P : Program} {w : World} {K : Frag} {mg : Str → Option Value} {base : Heap} {x qual : Str} {st : Stmt} {f : Addr} {fd : FuncData} {N ps : List Str} {k n : Nat} {fb : Fs}
theorem start_len (hn : vs.length ≤ N.length) : (L2.start N vs).length = N.length := by
  unfold L2.start
  rw [List.length_append, List.length_map, List.length_replicate]
  omega
theorem readP {ca : Str → Addr} (S : FnScope N ps (defScope st)) (hn : ps.length = n) {vs : List V} {H : Hp} {Q : VK} {E : XK} (h : spP K n (runP fb N.length n) vs H Q E) :
    Gs K (xc0 ca) fb { nx := fun _ H' => Q .non H', rt := Q } (L2.start N vs) H := by
  obtain ⟨F, ds, d, h1, h2, h3, h4, h5⟩ := h
  have hl := h3.len
  have hN : ps.length ≤ N.length := by
    have := congrArg List.length S.pre
    rw [List.length_take] at this
    omega
  unfold runP at h4
  rw [if_pos (by omega)] at h4
  cases e : fb (en0 N.length ds) with
  | none => rw [e] at h4; cases h4
  | some r =>
    obtain ⟨fl, env'⟩ := r
    rw [e] at h4
    have R : Rl K ⟨H, F, noT H, vs⟩ F (L2.start N vs) H (en0 N.length ds) := by
      refine ⟨h2.sub, Same.refl F, noT_sub, noT_sub, fun a h => .inl h, fun a h => h, ?_, fun i d h => ?_, fun i p es h => (en0_own h).elim, h2.tab, h2.nf, noT_no⟩
      · rw [start_len (by omega)]
        unfold en0
        rw [List.length_append, List.length_map, List.length_replicate]
        omega
      · obtain ⟨v, e1, e2⟩ := h3.at (en0_val h)
        exact ⟨v, start_get e1, e2⟩
    refine ⟨⟨H, F, noT H, vs⟩, F, en0 N.length ds, fl, env', R, e, ?_⟩
    have fin : ∀ {σ' : L2.St} {F' H' : Hp}, Rl K ⟨H, F, noT H, vs⟩ F' σ' H' env' → Same F F' ∧ Bs F' H' ∧ Kp H H' ∧ ∀ b, F' b ≠ none → F b ≠ none ∨ H b = none := fun R' => ⟨R'.f0, R'.base, ⟨fun b o n e => R'.gd b o (noT_of e n), R'.dom⟩, R'.new⟩
    cases fl with
    | nx =>
      cases h4
      intro σ' F' H' s' R'
      obtain ⟨a1, a2, a3, a4⟩ := fin R'
      exact h5 .non F' H' a1 a2 a3 a4 .non
    | rt d' =>
      cases h4
      intro σ' F' H' v s' R' hv
      obtain ⟨a1, a2, a3, a4⟩ := fin R'
      exact h5 v F' H' a1 a2 a3 a4 hv
    | rl es =>
      cases h4
      intro σ' F' H' p xs s' hp R' hx
      obtain ⟨sF, R2⟩ := R'.laid (o := .lst xs) hp
      obtain ⟨a1, a2, a3, a4⟩ := fin R2
      exact h5 (.ref p) _ _ a1 a2 a3 a4 (.lstS upd_same (hx.up sF))
    | bk => cases h4
    | ct => cases h4
    | ex => cases h4
    | tr => cases h4
theorem okP {ca : Str → Addr} (Fn : L2.Fun K x qual st f fd) (S : FnScope N ps (defScope st)) (hn : ps.length = n)
    (hb : ∀ (cdv : Value) (A : Around) (outer : List Env) (s : Shared) (H : Hp) (E : XK), Room k (A.deeper (envOfC qual (defScope st) s.heap.objs.size f cdv)) → PSs (cxOf CX0 P w K mg base N qual (defScope st) f cdv A outer s H E).nox (defBody st) (Gs K (xc0 ca) fb)) :
    FnOk P w K mg base CX0 (k + 1) f fd ps (spP K n (runP fb N.length n)) := by
  refine Fn.okG S (fun vs H Q E h => ?_) (fun cdv A outer s H vs Q E hr h => ⟨Gs K (xc0 ca) fb, hb cdv A outer s H E hr, readP S hn h⟩)
  obtain ⟨F, ds, d, h1, _⟩ := h
  rw [h1, hn]
theorem okM {ca : Str → Addr} (Fn : L2.Fun K x qual st f fd) (S : FnScope N ps (defScope st)) (hn : ps.length = n)
    (hb : ∀ (cdv : Value) (A : Around) (outer : List Env) (s : Shared) (H : Hp) (E : XK), Room k (A.deeper (envOfC qual (defScope st) s.heap.objs.size f cdv)) → PSs (cxOf CX0 P w K mg base N qual (defScope st) f cdv A outer s H E).nox (defBody st) (Gs K (xc0 ca) fb)) :
    FnOk P w K mg base CX0 (k + 1) f fd ps (spM K n (runM fb N.length n)) := by
  refine Fn.okG S (fun vs H Q E h => ?_) (fun cdv A outer s H vs Q E hr h => ⟨Gs K (xc0 ca) fb, hb cdv A outer s H E hr, ?_⟩)
  · obtain ⟨F, a, ws, xs, ks, ds, ks', d, h0, h1, _⟩ := h
    rw [h1, hn]
  · obtain ⟨F, a, ws, xs, ks, ds, ks', d, rfl, h1, h2, hFa, hHa, hxs, hws, h4, h5⟩ := h
    have hl := hws.len
    have h1' : ws.length + 1 = n := h1
    have hN : ps.length ≤ N.length := by
      have := congrArg List.length S.pre
      rw [List.length_take] at this
      omega
    unfold runM at h4
    rw [if_pos (by omega)] at h4
    cases e : fb (.own true ks :: en0 (N.length - 1) ds) with
    | none => rw [e] at h4; cases h4
    | some r =>
      obtain ⟨fl, env'⟩ := r
      rw [e] at h4
      have keepD : Same (delA (noT H) a) H := fun b o e => by
        by_cases hb : b = a
        · subst hb; rw [delA_same] at e; cases e
        · rw [delA_ne hb] at e; exact noT_sub b o e
      have R : Rl K ⟨H, F, delA (noT H) a, .ref a :: ws⟩ F (L2.start N (.ref a :: ws)) H (.own true ks :: en0 (N.length - 1) ds) := by
        refine ⟨h2.sub, Same.refl F, keepD, keepD, fun a h => .inl h, fun a h => h, ?_, fun i d h => ?_, fun i p es h => ?_, h2.tab, h2.nf, fun b ps e => ?_⟩
        · rw [start_len (by rw [h1]; omega)]
          unfold en0
          rw [List.length_cons, List.length_append, List.length_map, List.length_replicate]
          omega
        · cases i with
          | zero => cases h
          | succ i =>
            rw [List.getElem?_cons_succ] at h
            obtain ⟨v, e1, e2⟩ := hws.at (en0_val h)
            exact ⟨v, start_get (by rw [List.getElem?_cons_succ]; exact e1), e2⟩
        · cases i with
          | zero =>
            cases h
            refine ⟨a, xs, start_get rfl, hFa, hHa, hxs, delA_same, ?_, fun j q es hj hq => ?_⟩
            · show (V.ref a :: ws)[0]? = some (.ref a)
              rfl
            · cases j with
              | zero => exact absurd rfl hj
              | succ j =>
                rw [List.getElem?_cons_succ] at hq
                exact (en0_own hq).elim
          | succ i =>
            rw [List.getElem?_cons_succ] at h
            exact (en0_own h).elim
        · have e' : delA (noT H) a b = some (.tbl ps) := e
          by_cases hb : b = a
          · subst hb; rw [delA_same] at e'; cases e'
          · rw [delA_ne hb] at e'; exact noT_no b ps e'
      refine ⟨⟨H, F, delA (noT H) a, .ref a :: ws⟩, F, _, fl, env', R, e, ?_⟩
      have fin : ∀ {σ' : L2.St} {F' H' : Hp} {ks' : List PyData} {tl : En}, Rl K ⟨H, F, delA (noT H) a, .ref a :: ws⟩ F' σ' H' (.own true ks' :: tl) → Same F F' ∧ Bs F' H' ∧ KpM a H H' ∧ (∀ b, F' b ≠ none → F b ≠ none ∨ H b = none) ∧ ∃ xs', H' a = some (.lst xs') ∧ DpAll K F' xs' ks' := fun R' => by
        refine ⟨R'.f0, R'.base, ⟨fun b o n hb e => R'.gd b o (by show delA (noT H) a b = some o; rw [delA_ne hb]; exact noT_of e n), R'.dom⟩, R'.new, ?_⟩
        obtain ⟨a', xs', e1, e2, e3, e4, e5, e6, e7⟩ := R'.own 0 true _ rfl
        have e6' : (V.ref a :: ws)[0]? = some (.ref a') := e6
        cases e6'
        exact ⟨xs', e3, e4⟩
      cases fl with
      | nx =>
        cases env' with
        | nil => cases h4
        | cons s0 tl =>
          cases s0 with
          | own b ks2 =>
            cases b with
            | true =>
              cases h4
              intro σ' F' H' s' R'
              obtain ⟨a1, a2, a3, a4, xs', a5, a6⟩ := fin R'
              exact h5 .non F' H' xs' a1 a2 a3 a4 a5 a6 .non
            | false => cases h4
          | no => cases h4
          | val _ => cases h4
      | rt d' =>
        cases env' with
        | nil => cases h4
        | cons s0 tl =>
          cases s0 with
          | own b ks2 =>
            cases b with
            | true =>
              cases h4
              intro σ' F' H' v s' R' hv
              obtain ⟨a1, a2, a3, a4, xs', a5, a6⟩ := fin R'
              exact h5 v F' H' xs' a1 a2 a3 a4 a5 a6 hv
            | false => cases h4
          | no => cases h4
          | val _ => cases h4
      | rl es =>
        cases env' with
        | nil => cases h4
        | cons s0 tl =>
          cases s0 with
          | own b ks2 =>
            cases b with
            | true =>
              cases h4
              intro σ' F' H' p xs s' hp R' hx
              obtain ⟨sF, R2⟩ := R'.laid (o := .lst xs) hp
              obtain ⟨a1, a2, a3, a4, xs', a5, a6⟩ := fin R2
              exact h5 (.ref p) _ _ xs' a1 a2 a3 a4 a5 a6 (.lstS upd_same (hx.up sF))
            | false => cases h4
          | no => cases h4
          | val _ => cases h4
      | bk => cases h4
      | ct => cases h4
      | ex => cases h4
      | tr => cases h4
theorem okL {ca : Str → Addr} (Fn : L2.Fun K x qual st f fd) (S : FnScope N ps (defScope st)) (hn : ps.length = n)
    (hb : ∀ (cdv : Value) (A : Around) (outer : List Env) (s : Shared) (H : Hp) (E : XK), Room k (A.deeper (envOfC qual (defScope st) s.heap.objs.size f cdv)) → PSs (cxOf CX0 P w K mg base N qual (defScope st) f cdv A outer s H E).nox (defBody st) (Gs K (xc0 ca) fb)) :
    FnOk P w K mg base CX0 (k + 1) f fd ps (spL K n (runL fb N.length n)) := by
  refine Fn.okG S (fun vs H Q E h => ?_) (fun cdv A outer s H vs Q E hr h => ⟨Gs K (xc0 ca) fb, hb cdv A outer s H E hr, ?_⟩)
  · obtain ⟨F, ds, d, h1, _⟩ := h
    rw [h1, hn]
  · obtain ⟨F, ds, d, h1, h2, h3, h4, h5⟩ := h
    have hl := h3.len
    have hN : ps.length ≤ N.length := by
      have := congrArg List.length S.pre
      rw [List.length_take] at this
      omega
    unfold runL at h4
    rw [if_pos (by omega)] at h4
    cases e : fb (en0 N.length ds) with
    | none => rw [e] at h4; cases h4
    | some r =>
      obtain ⟨fl, env'⟩ := r
      rw [e] at h4
      have R : Rl K ⟨H, F, noT H, vs⟩ F (L2.start N vs) H (en0 N.length ds) := by
        refine ⟨h2.sub, Same.refl F, noT_sub, noT_sub, fun a h => .inl h, fun a h => h, ?_, fun i d h => ?_, fun i p es h => (en0_own h).elim, h2.tab, h2.nf, noT_no⟩
        · rw [start_len (by omega)]
          unfold en0
          rw [List.length_append, List.length_map, List.length_replicate]
          omega
        · obtain ⟨v, e1, e2⟩ := h3.at (en0_val h)
          exact ⟨v, start_get e1, e2⟩
      refine ⟨⟨H, F, noT H, vs⟩, F, en0 N.length ds, fl, env', R, e, ?_⟩
      have fin : ∀ {σ' : L2.St} {F' H' : Hp}, Rl K ⟨H, F, noT H, vs⟩ F' σ' H' env' → Same F F' ∧ Bs F' H' ∧ Kp H H' ∧ ∀ b, F' b ≠ none → F b ≠ none ∨ H b = none := fun R' => ⟨R'.f0, R'.base, ⟨fun b o n e => R'.gd b o (noT_of e n), R'.dom⟩, R'.new⟩
      cases fl with
      | rl es =>
        cases h4
        intro σ' F' H' p xs s' hp R' hx
        obtain ⟨a1, a2, a3, a4⟩ := fin R'
        exact h5 p xs F' H' a1 a2 a3 a4 hp hx
      | nx => cases h4
      | rt d' => cases h4
      | bk => cases h4
      | ct => cases h4
      | ex => cases h4
      | tr => cases h4
theorem okNone {f : Addr} {fd : FuncData} {ps : List Str} {k : Nat} {sp : Sp} (hl : ∀ vs H Q E, sp vs H Q E → vs.length = ps.length) (h : ∀ vs H Q E, sp vs H Q E → False) : FnOk P w K mg base CX0 k f fd ps sp :=
  ⟨hl, fun _ _ _ _ hs => (h _ _ _ _ hs).elim⟩
theorem hu64 {A : Around} (hr : Room k A) : A.units + 64 < cLine := by
  have := hr.un
  omega
end
def eM (i : Nat) (g : List PyData → List PyData → Option (PyData × List PyData)) (fl : Fl) : Fe := fun env => if isOwn env i then (fl env).bind fun p => match p.2[i]? with
  | some (.own b ks) => (g ks p.1).map fun q => (q.1, p.2.set i (.own b q.2))
  | _ => none else none
section
variable {X : Cx} {xc : XC} {k n : Nat} {f : Addr} {fd : FuncData} {ps : List Str} {x : Str} {p pos : Pos} {e : Expr} {es : List Expr} {fl : Fl} {g : List PyData → Option PyData} {gM : List PyData → List PyData → Option (PyData × List PyData)}
theorem runP_len {b : Fs} {N n : Nat} (ds : List PyData) (z : PyData) (h : runP b N n ds = some z) : ds.length = n := by
  unfold runP at h
  split at h
  · assumption
  · cases h
theorem runM_len {b : Fs} {N n : Nat} (ks ds : List PyData) (z : PyData × List PyData) (h : runM b N n ks ds = some z) : ds.length + 1 = n := by
  unfold runM at h
  split at h
  · assumption
  · cases h
theorem oA_call {K : Frag} {E : XK} (hl : ∀ ds z, g ds = some z → ds.length = n) : OpA K (fun vs H Q => spP K n g (vs ++ []) H Q E) g := by
  intro c F σ H env xs ds z Q R hx h k
  show spP K n g (xs ++ []) H Q E
  rw [List.append_nil]
  exact ⟨F, ds, z, by rw [hx.len]; exact hl ds z h, R.base, hx, h, fun v F' H' a1 a2 a3 a4 hv => k v F' H' a1 (R.after a1 a2 a3 a4) hv⟩
theorem de_call (Fk : FnOk X.prog X.w X.K X.mg X.base CX0 k f fd ps (spP X.K n g)) (hl : ∀ ds z, g ds = some z → ds.length = n) (hr : Room k X.A) (hg : Gl X x) (hm : X.mg x = some (.ref f)) (hk : PySem.W.keepIn X.K (.ref f) = true) (hb : Binds X.K fd ps []) (ha : PA X (e :: es) (Ga X.K fl))
    (hdb : (x == ("__debug__" : Str)) = false := by decide) (he : starEach (e :: es) X.env = (false, eval e X.env) :: starEach es X.env := by rfl) (hpl : (backTo pos (starEach es X.env)).any (·.1) = false := by rfl) :
    PE X (.Call (.Name x p) (e :: es) [] pos) (Ge X.K (eA g fl)) := PE.imp (pe_call Fk hr hg hm hk hb .nil pass0 ha hdb he hpl) fun _ _ _ h => goA (oA_call hl) h
theorem de_callM (i : Nat) {y : Str} {p2 : Pos} (Fk : FnOk X.prog X.w X.K X.mg X.base CX0 k f fd ps (spM X.K n gM)) (hl : ∀ ks ds z, gM ks ds = some z → ds.length + 1 = n) (hr : Room k X.A) (hg : Gl X x) (hm : X.mg x = some (.ref f)) (hk : PySem.W.keepIn X.K (.ref f) = true) (hb : Binds X.K fd ps []) (ha : PA X es (Ga X.K fl))
    (hN : X.N[i]? = some y := by rfl) (hv : Vis X.env.scope y := by first | exact Or.inl rfl | exact Or.inr (Or.inl rfl) | exact Or.inr (Or.inr rfl)) (hd : (y == ("__debug__" : Str)) = false := by decide) (hcd : (y == ("__classdict__" : Str)) = false := by decide)
    (hdb : (x == ("__debug__" : Str)) = false := by decide) (he : starEach (.Name y p2 :: es) X.env = (false, eval (.Name y p2) X.env) :: starEach es X.env := by rfl) (hpl : (backTo pos (starEach es X.env)).any (·.1) = false := by rfl) :
    PE X (.Call (.Name x p) (.Name y p2 :: es) [] pos) (Ge X.K (eM i gM fl)) := PE.imp (pe_call Fk hr hg hm hk hb .nil pass0 (pa_cons (pe_var hN hv hd hcd) ha he) hdb he hpl) fun σ H Q ⟨c, F, env, d, env', R, e, k⟩ => by
  unfold eM at e
  by_cases ho : isOwn env i = true
  · rw [if_pos ho] at e
    simp only [Option.bind_eq_some_iff] at e
    obtain ⟨⟨d1, n1⟩, h1, h2⟩ := e
    dsimp only at h2
    split at h2
    · rename_i b ks hi
      simp only [Option.map_eq_some_iff] at h2
      obtain ⟨⟨z, ks'⟩, h3, h4⟩ := h2
      obtain ⟨rfl, rfl⟩ := Prod.mk.inj h4
      obtain ⟨a, ys, ha, hys⟩ := own_of R ho
      refine ⟨.ref a, ha, c, F, env, d1, n1, R, h1, fun ws F1 H1 s1 R1 hw => ?_⟩
      obtain ⟨a', xs, e1, e2, e3, e4, e5, e6, e7⟩ := R1.own i b ks hi
      rw [ha] at e1
      cases e1
      show spM X.K n gM ((.ref a :: ws) ++ []) H1 Q E0
      rw [List.append_nil]
      refine ⟨F1, a, ws, xs, ks, d1, ks', z, rfl, ?_, R1.base, e2, e3, e4, hw, h3, fun v F' H' xs' a1 a2 a3 a4 a5 a6 hv => ?_⟩
      · rw [List.length_cons, hw.len]; exact hl ks d1 _ h3
      · exact k v F' H' (s1.trans a1) (R1.afterM hi ha a1 a2 a3 a4 a5 a6) hv
    · cases h2
  · rw [if_neg ho] at e
    cases e
end
end Dn
namespace Dn
open PySem PySem.Spec PyProof.Rows L2
open PySem.W (Frag)
variable [Tb]
def eOne (c : En → Bool) (f g : Fe) : Fe := fun env => if c env then f env else g env
section
variable {X : Cx} {xc : XC} {e a b l : Expr} {es : List Expr} {f g fa fb fi : Fe} {fl fm : Fl} {pos : Pos}
theorem de_either (c : En → Bool) (h1 : PE X e (Ge X.K f)) (h2 : PE X e (Ge X.K g)) : PE X e (Ge X.K (eOne c f g)) := ⟨fun pins s σ H Q I ⟨c0, F, env, d, env', R, e, k⟩ => by
  unfold eOne at e
  split at e
  · exact h1.run pins s σ H Q I ⟨c0, F, env, d, env', R, e, k⟩
  · exact h2.run pins s σ H Q I ⟨c0, F, env, d, env', R, e, k⟩⟩
/-- len(x), x[i] of a name that owns its list, or holds data -/
abbrev eLenV (i : Nat) : Fe := eOne (fun env => isOwn env i) (eLenO i) (eA gLen (lCons (eV i) lNil))
abbrev eIxV (i : Nat) (fi : Fe) : Fe := eOne (fun env => isOwn env i) (eIxO i fi) (e2 gIx (eV i) fi)
theorem de_lenV (i : Nat) {x : Str} {p p2 : Pos} (hg : Gl X "len") (hm : X.mg "len" = none) (hN : X.N[i]? = some x := by rfl) (hv : Vis X.env.scope x := by first | exact Or.inl rfl | exact Or.inr (Or.inl rfl) | exact Or.inr (Or.inr rfl)) (hd : (x == ("__debug__" : Str)) = false := by decide)
    (hcd : (x == ("__classdict__" : Str)) = false := by decide) (he : starEach (Expr.Name x p2 :: []) X.env = (false, eval (Expr.Name x p2) X.env) :: starEach [] X.env := by rfl) (hpl : (backTo pos (starEach [] X.env)).any (·.1) = false := by rfl) :
    PE X (.Call (.Name "len" p) [.Name x p2] [] pos) (Ge X.K (eLenV i)) :=
  de_either _ (de_lenO i hg hm hN hv hd hcd he hpl) (de_B call_lenG oA_len hg hm PySem.boot_len (da_cons (de_v i hN hv hd hcd) da_nil he) (by decide) (by decide) he hpl)
theorem de_ixV (i : Nat) {x : Str} {p2 : Pos} {ix : Expr} (hix : PE X ix (Ge X.K fi)) (hN : X.N[i]? = some x := by rfl) (hv : Vis X.env.scope x := by first | exact Or.inl rfl | exact Or.inr (Or.inl rfl) | exact Or.inr (Or.inr rfl)) (hd : (x == ("__debug__" : Str)) = false := by decide)
    (hcd : (x == ("__classdict__" : Str)) = false := by decide) (hs : PlainIx ix := by exact fun _ _ => rfl) : PE X (.Subscript (.Name x p2) ix pos) (Ge X.K (eIxV i fi)) :=
  de_either _ (de_ixO i hix hN hv hd hcd hs) (de_ix ix_seq o2_ix (de_v i hN hv hd hcd) hix hs)
/-- list(x) -/
def lOf (f : Fl) : Fl := fun env => (f env).bind fun p => match p.1 with
  | [.list ds] => some (ds, p.2)
  | [.tuple ds] => some (ds, p.2)
  | _ => none
theorem df_listOf {p : Pos} (hg : Gl X "list") (hm : X.mg "list" = none) (ha : PA X [a] (Ga X.K fl)) (he : starEach (a :: []) X.env = (false, eval a X.env) :: starEach [] X.env := by rfl) (hpl : (backTo pos (starEach [] X.env)).any (·.1) = false := by rfl) :
    PE X (.Call (.Name "list" p) [a] [] pos) (Gf X.K (lOf fl)) := PE.imp (pe_callTy call_list_of hg hm (by decide +kernel) ha (by decide) (by decide) he hpl) fun σ H Q ⟨c, F, env, ds, env', R, e, k⟩ => by
  unfold lOf at e
  simp only [Option.bind_eq_some_iff] at e
  obtain ⟨⟨d1, n1⟩, h1, h2⟩ := e
  dsimp only at h2
  split at h2
  · cases h2
    refine ⟨c, F, env, _, _, R, h1, fun vs F' H' s R' hv => ?_⟩
    cases hv with
    | cons h3 h4 =>
      cases h4
      cases h3 with
      | lst hs ha => exact ⟨_, _, rfl, .inl (R'.sub.seq hs), fun l hl => k l _ F' H' s hl R' ha⟩
  · cases h2
    refine ⟨c, F, env, _, _, R, h1, fun vs F' H' s R' hv => ?_⟩
    cases hv with
    | cons h3 h4 =>
      cases h4
      cases h3 with
      | tup hs ha => exact ⟨_, _, rfl, .inr (sqT_mono R'.sub hs), fun l hl => k l _ F' H' s hl R' ha⟩
  · cases h2
end
end Dn
namespace Dn
open PySem PySem.Spec PyProof.Rows L2
open PySem.W (Frag)
variable [Tb]
section
variable {X : Cx} {xc : XC} {k k2 n m : Nat} {f f2 : Addr} {fd fd2 : FuncData} {ps ps2 : List Str} {x : Str} {p pos : Pos} {e a : Expr} {es : List Expr} {fl fm : Fl} {g : List PyData → Option (List PyData)} {gM : List PyData → List PyData → Option (PyData × List PyData)}
theorem runL_len {b : Fs} {N n : Nat} (ds : List PyData) (z : List PyData) (h : runL b N n ds = some z) : ds.length = n := by
  unfold runL at h
  split at h
  · assumption
  · cases h
def lA (g : List PyData → Option (List PyData)) (a : Fl) : Fl := fun env => (a env).bind fun p => (g p.1).map fun z => (z, p.2)
theorem df_call (Fk : FnOk X.prog X.w X.K X.mg X.base CX0 k f fd ps (spL X.K n g)) (hl : ∀ ds z, g ds = some z → ds.length = n) (hr : Room k X.A) (hg : Gl X x) (hm : X.mg x = some (.ref f)) (hk : PySem.W.keepIn X.K (.ref f) = true) (hb : Binds X.K fd ps []) (ha : PA X (e :: es) (Ga X.K fl))
    (hdb : (x == ("__debug__" : Str)) = false := by decide) (he : starEach (e :: es) X.env = (false, eval e X.env) :: starEach es X.env := by rfl) (hpl : (backTo pos (starEach es X.env)).any (·.1) = false := by rfl) :
    PE X (.Call (.Name x p) (e :: es) [] pos) (Gf X.K (lA g fl)) := PE.imp (pe_call Fk hr hg hm hk hb .nil pass0 ha hdb he hpl) fun σ H Q ⟨c, F, env, ds, env', R, e, k⟩ => by
  unfold lA at e
  simp only [Option.bind_eq_some_iff, Option.map_eq_some_iff] at e
  obtain ⟨⟨d1, n1⟩, h1, z, h2, h3⟩ := e
  obtain ⟨rfl, rfl⟩ := Prod.mk.inj h3
  refine ⟨c, F, env, d1, n1, R, h1, fun vs F1 H1 s1 R1 hv => ?_⟩
  show spL X.K n g (vs ++ []) H1 Q E0
  rw [List.append_nil]
  exact ⟨F1, d1, z, by rw [hv.len]; exact hl d1 z h2, R1.base, hv, h2, fun p xs F' H' a1 a2 a3 a4 hp hx => k p xs F' H' (s1.trans a1) hp (R1.after a1 a2 a3 a4) hx⟩
/-- a def that changes its first argument, a new list -/
def eMF (g : List PyData → List PyData → Option (PyData × List PyData)) (fl : Fl) : Fe := fun env => (fl env).bind fun p => (g p.1 []).map fun q => (q.1, p.2)
end
end Dn
set_option Elab.async false
set_option linter.all false
set_option maxRecDepth 100000
namespace Dn
open PySem PySem.Spec PyProof.Rows L2
instance (priority := low) tb0 : Tb := { T := [], ca := fun _ => 0 }
variable {a b c : Fe} {f g : Fs} {t u : Ft} {l m : Fl} {x y z : Sl} {e : En} {d d' : PyData} {i j n : Nat}
def kP {α β : Type} (e : β) (a : α) : α × β := (a, e)
@[simp] theorem kP_e {α β : Type} {e : β} {a : α} : kP e a = (a, e) := rfl
@[simp] theorem ev_C : eC d (x :: e) = some (d, x :: e) := rfl
def kV (s : Option Sl) (e : En) : Option (PyData × En) := match s with
  | some (.val d) => some (d, e)
  | _ => none
@[simp] theorem ev_V : eV i (x :: e) = kV ((x :: e)[i]?) (x :: e) := rfl
@[simp] theorem kV_val : kV (some (.val d)) e = some (d, e) := rfl
def kE1 (g : PyData → Option PyData) (p : PyData × En) : Option (PyData × En) := (g p.1).map (kP p.2)
@[simp] theorem ev_1 {g : PyData → Option PyData} : e1 g a (x :: e) = (a (x :: e)).bind (kE1 g) := rfl
@[simp] theorem kE1_e {g : PyData → Option PyData} : kE1 g (d, e) = (g d).map (kP e) := rfl
def kE2b (g : PyData → PyData → Option PyData) (d : PyData) (p : PyData × En) : Option (PyData × En) := (g d p.1).map (kP p.2)
def kE2 (g : PyData → PyData → Option PyData) (b : Fe) (p : PyData × En) : Option (PyData × En) := (b p.2).bind (kE2b g p.1)
@[simp] theorem ev_2 {g : PyData → PyData → Option PyData} : e2 g a b (x :: e) = (a (x :: e)).bind (kE2 g b) := rfl
@[simp] theorem kE2_e {g : PyData → PyData → Option PyData} : kE2 g b (d, e) = (b e).bind (kE2b g d) := rfl
@[simp] theorem kE2b_e {g : PyData → PyData → Option PyData} : kE2b g d (d', e) = (g d d').map (kP e) := rfl
def kEA (g : List PyData → Option PyData) (p : List PyData × En) : Option (PyData × En) := (g p.1).map (kP p.2)
@[simp] theorem ev_A {g : List PyData → Option PyData} : eA g l (x :: e) = (l (x :: e)).bind (kEA g) := rfl
@[simp] theorem kEA_e {g : List PyData → Option PyData} {ds : List PyData} : kEA g (ds, e) = (g ds).map (kP e) := rfl
@[simp] theorem ev_Nil : lNil (x :: e) = some ([], x :: e) := rfl
def kCons2 (d : PyData) (q : List PyData × En) : List PyData × En := (d :: q.1, q.2)
def kCons (b : Fl) (p : PyData × En) : Option (List PyData × En) := (b p.2).map (kCons2 p.1)
@[simp] theorem ev_Cons : lCons a l (x :: e) = (a (x :: e)).bind (kCons l) := rfl
@[simp] theorem kCons_e : kCons l (d, e) = (l e).map (kCons2 d) := rfl
@[simp] theorem kCons2_e {ds : List PyData} : kCons2 d (ds, e) = (d :: ds, e) := rfl
def kF (p : List PyData × En) : PyData × En := (.list p.1, p.2)
@[simp] theorem ev_F : eF l (x :: e) = (l (x :: e)).map kF := rfl
@[simp] theorem kF_e {ds : List PyData} : kF (ds, e) = (.list ds, e) := rfl
def kLst (p : List PyData × En) : Option (List PyData × En) := if okN p.1.length then some p else none
@[simp] theorem ev_Lst : lLst l (x :: e) = (l (x :: e)).bind kLst := (rfl)
def kTup (p : List PyData × En) : Option (PyData × En) := if okN p.1.length then some (.tuple p.1, p.2) else none
@[simp] theorem ev_Tup : eTup l (x :: e) = (l (x :: e)).bind kTup := (rfl)
theorem kTup_e {ds : List PyData} : kTup (ds, e) = if okN ds.length then some (.tuple ds, e) else none := rfl
@[simp] theorem okN_0 : okN 0 = true := by decide
@[simp] theorem okN_1 : okN 1 = true := by decide
@[simp] theorem okN_2 : okN 2 = true := by decide
@[simp] theorem okN_3 : okN 3 = true := by decide
@[simp] theorem okN_4 : okN 4 = true := by decide
@[simp] theorem kLst_0 : kLst ([], e) = some ([], e) := rfl
@[simp] theorem kLst_1 {d1 : PyData} : kLst ([d1], e) = some ([d1], e) := rfl
@[simp] theorem kLst_2 {d1 d2 : PyData} : kLst ([d1, d2], e) = some ([d1, d2], e) := rfl
@[simp] theorem kLst_3 {d1 d2 d3 : PyData} : kLst ([d1, d2, d3], e) = some ([d1, d2, d3], e) := rfl
@[simp] theorem kLst_4 {d1 d2 d3 d4 : PyData} : kLst ([d1, d2, d3, d4], e) = some ([d1, d2, d3, d4], e) := rfl
@[simp] theorem kLst_5 {d1 d2 d3 d4 d5 : PyData} : kLst ([d1, d2, d3, d4, d5], e) = some ([d1, d2, d3, d4, d5], e) := rfl
@[simp] theorem kLst_6 {d1 d2 d3 d4 d5 d6 : PyData} : kLst ([d1, d2, d3, d4, d5, d6], e) = some ([d1, d2, d3, d4, d5, d6], e) := rfl
@[simp] theorem kTup_0 : kTup ([], e) = some (.tuple [], e) := rfl
@[simp] theorem kTup_1 {d1 : PyData} : kTup ([d1], e) = some (.tuple [d1], e) := rfl
@[simp] theorem kTup_2 {d1 d2 : PyData} : kTup ([d1, d2], e) = some (.tuple [d1, d2], e) := rfl
@[simp] theorem kTup_3 {d1 d2 d3 : PyData} : kTup ([d1, d2, d3], e) = some (.tuple [d1, d2, d3], e) := rfl
@[simp] theorem kTup_4 {d1 d2 d3 d4 : PyData} : kTup ([d1, d2, d3, d4], e) = some (.tuple [d1, d2, d3, d4], e) := rfl
theorem smallI_of {n : Int} (h : -1000000 ≤ n) (h2 : n ≤ 1000000) : smallI n = true := by
  unfold smallI
  exact @decide_eq_true _ (Classical.propDecidable _) ⟨by omega, by omega⟩
noncomputable def kRep2 (ds : List PyData) (q : PyData × En) : Option (List PyData × En) := match q.1 with
  | .int n => if smallI n && okN (ds.length * n.toNat) then some (reps n ds, q.2) else none
  | _ => none
noncomputable def kRep (b : Fe) (p : List PyData × En) : Option (List PyData × En) := (b p.2).bind (kRep2 p.1)
@[simp] theorem ev_Rep : lRep l b (x :: e) = (l (x :: e)).bind (kRep b) := (rfl)
@[simp] theorem kRep_e {ds : List PyData} : kRep b (ds, e) = (b e).bind (kRep2 ds) := rfl
theorem kRep2_n {ds : List PyData} {n : Int} (h : n ≤ 1000) (hd : ds.length ≤ 1000) (h0 : -1000 ≤ n) : kRep2 ds (.int n, e) = some (reps n ds, e) := by
  unfold kRep2
  have h1 : ds.length * n.toNat ≤ 1000 * 1000 := Nat.mul_le_mul hd (by omega)
  have : okN (ds.length * n.toNat) = true := okN_of (by omega)
  simp [this, smallI_of (show -1000000 ≤ n by omega) (show n ≤ 1000000 by omega)]
@[simp] theorem ev_No : oNo (x :: e) = some (none, x :: e) := rfl
def kSo (p : PyData × En) : Option (Option Int × En) := match p.1 with
  | .int i => some (some i, p.2)
  | _ => none
@[simp] theorem ev_So : oSo a (x :: e) = (a (x :: e)).bind kSo := rfl
@[simp] theorem kSo_e {n : Int} : kSo (.int n, e) = some (some n, e) := rfl
def kCut3 (d : PyData) (o : Option Int) (r : Option Int × En) : Option (PyData × En) := (gCut d o r.1).map (kP r.2)
def kCut2 (hi : Fo) (d : PyData) (q : Option Int × En) : Option (PyData × En) := (hi q.2).bind (kCut3 d q.1)
def kCut (lo hi : Fo) (p : PyData × En) : Option (PyData × En) := (lo p.2).bind (kCut2 hi p.1)
@[simp] theorem ev_Cut {lo hi : Fo} : eCut a lo hi (x :: e) = (a (x :: e)).bind (kCut lo hi) := (rfl)
@[simp] theorem kCut_e {lo hi : Fo} : kCut lo hi (d, e) = (lo e).bind (kCut2 hi d) := rfl
@[simp] theorem kCut2_e {hi : Fo} {o : Option Int} : kCut2 hi d (o, e) = (hi e).bind (kCut3 d o) := rfl
@[simp] theorem kCut3_e {o o' : Option Int} : kCut3 d o (o', e) = (gCut d o o').map (kP e) := rfl
def kTB (p : PyData × En) : Option (Bool × En) := match p.1 with
  | .bool b => some (b, p.2)
  | _ => none
@[simp] theorem ev_B : tB' a (x :: e) = (a (x :: e)).bind kTB := rfl
@[simp] theorem kTB_e {v : Bool} : kTB (.bool v, e) = some (v, e) := rfl
def kNo (p : Bool × En) : Bool × En := (!p.1, p.2)
@[simp] theorem ev_tNo : tNo t (x :: e) = (t (x :: e)).map kNo := rfl
@[simp] theorem kNo_e {v : Bool} : kNo (v, e) = (!v, e) := rfl
def kOrr (u : Ft) (p : Bool × En) : Option (Bool × En) := if p.1 then some (true, p.2) else u p.2
@[simp] theorem ev_tOrr : tOrr t u (x :: e) = (t (x :: e)).bind (kOrr u) := rfl
@[simp] theorem kOrr_t : kOrr u (true, e) = some (true, e) := rfl
@[simp] theorem kOrr_f : kOrr u (false, e) = u e := rfl
def kTr (p : PyData × En) : Option (Bool × En) := (truth p.1).map (kP p.2)
@[simp] theorem ev_tTr : tTr a (x :: e) = (a (x :: e)).bind kTr := (rfl)
@[simp] theorem kTr_e : kTr (d, e) = (truth d).map (kP e) := (rfl)
def keAn (b : Fe) (p : PyData × En) : Option (PyData × En) := match p.1 with
  | .bool true => b p.2
  | .bool false => some (.bool false, p.2)
  | _ => none
@[simp] theorem ev_eAn : eAn a b (x :: e) = (a (x :: e)).bind (keAn b) := rfl
@[simp] theorem keAn_t : keAn b (.bool true, e) = b e := rfl
@[simp] theorem keAn_f : keAn b (.bool false, e) = some (.bool false, e) := rfl
def keOr (b : Fe) (p : PyData × En) : Option (PyData × En) := match p.1 with
  | .bool false => b p.2
  | .bool true => some (.bool true, p.2)
  | _ => none
@[simp] theorem ev_eOr : eOr a b (x :: e) = (a (x :: e)).bind (keOr b) := rfl
@[simp] theorem keOr_f : keOr b (.bool false, e) = b e := rfl
@[simp] theorem keOr_t : keOr b (.bool true, e) = some (.bool true, e) := rfl
def keNo (p : PyData × En) : Option (PyData × En) := match p.1 with
  | .bool b => some (.bool (!b), p.2)
  | _ => none
@[simp] theorem ev_eNo : eNo a (x :: e) = (a (x :: e)).bind keNo := rfl
@[simp] theorem keNo_e {v : Bool} : keNo (.bool v, e) = some (.bool (!v), e) := rfl
def kCh4 (g' : PyData → PyData → Option PyData) (d : PyData) (r : PyData × En) : Option (PyData × En) := (g' d r.1).map (kP r.2)
def kCh3 (g' : PyData → PyData → Option PyData) (fc : Fe) (d : PyData) (e : En) (z : PyData) : Option (PyData × En) := match z with
  | .bool true => (fc e).bind (kCh4 g' d)
  | .bool false => some (.bool false, e)
  | _ => none
def kCh2 (g g' : PyData → PyData → Option PyData) (fc : Fe) (d : PyData) (q : PyData × En) : Option (PyData × En) := (g d q.1).bind (kCh3 g' fc q.1 q.2)
def kCh1 (g g' : PyData → PyData → Option PyData) (fb fc : Fe) (p : PyData × En) : Option (PyData × En) := (fb p.2).bind (kCh2 g g' fc p.1)
@[simp] theorem ev_Ch {g g' : PyData → PyData → Option PyData} : eCh g g' a b c (x :: e) = (a (x :: e)).bind (kCh1 g g' b c) := by
  unfold eCh kCh1 kCh2 kCh3 kCh4
  rfl
@[simp] theorem kCh1_e {g g' : PyData → PyData → Option PyData} : kCh1 g g' b c (d, e) = (b e).bind (kCh2 g g' c d) := rfl
@[simp] theorem kCh2_e {g g' : PyData → PyData → Option PyData} : kCh2 g g' c d (d', e) = (g d d').bind (kCh3 g' c d' e) := rfl
@[simp] theorem kCh3_t {g' : PyData → PyData → Option PyData} : kCh3 g' c d e (.bool true) = (c e).bind (kCh4 g' d) := rfl
@[simp] theorem kCh3_f {g' : PyData → PyData → Option PyData} : kCh3 g' c d e (.bool false) = some (.bool false, e) := rfl
@[simp] theorem kCh4_e {g' : PyData → PyData → Option PyData} : kCh4 g' d (d', e) = (g' d d').map (kP e) := rfl
def kIsN (p : PyData × En) : PyData × En := (.bool (isNone p.1), p.2)
def kNotN (p : PyData × En) : PyData × En := (.bool (!isNone p.1), p.2)
def kIs (T : String) (p : PyData × En) : Option (PyData × En) := if tyOk p.1 then some (.bool (isT T p.1), p.2) else none
@[simp] theorem ev_IsN : eIsN a (x :: e) = (a (x :: e)).map kIsN := rfl
@[simp] theorem ev_NotN : eNotN a (x :: e) = (a (x :: e)).map kNotN := rfl
@[simp] theorem ev_Is {T : String} : eIs T a (x :: e) = (a (x :: e)).bind (kIs T) := rfl
@[simp] theorem kIsN_e : kIsN (d, e) = (.bool (isNone d), e) := rfl
@[simp] theorem kNotN_e : kNotN (d, e) = (.bool (!isNone d), e) := rfl
@[simp] theorem kIs_e {T : String} : kIs T (d, e) = if tyOk d then some (.bool (isT T d), e) else none := rfl
@[simp] theorem ev_g1 : g1 i d e = some (e.set i (.val d)) := rfl
@[simp] theorem ev_gsN : gsN [] e = some e := rfl
@[simp] theorem ev_gsC {tg : Tg} {us : Tgs} {ds : List PyData} : gsC tg us (d :: ds) e = (tg d e).bind (us ds) := rfl
@[simp] theorem ev_g2 {n : Nat} {us : Tgs} {ds : List PyData} : g2 n us (.tuple ds) e = if ds.length = n then us ds e else none := rfl
@[simp] theorem ev_Nx : sNx (x :: e) = some (.nx, x :: e) := rfl
def kSeq (b : Fs) (p : Flw × En) : Option (Flw × En) := match p.1 with
  | .nx => b p.2
  | _ => some p
@[simp] theorem ev_Seq : sSeq f g (x :: e) = (f (x :: e)).bind (kSeq g) := rfl
@[simp] theorem kSeq_nx : kSeq g (.nx, e) = g e := rfl
@[simp] theorem kSeq_rt : kSeq g (.rt d, e) = some (.rt d, e) := rfl
@[simp] theorem kSeq_rl {ds : List PyData} : kSeq g (.rl ds, e) = some (.rl ds, e) := rfl
@[simp] theorem kSeq_bk : kSeq g (.bk, e) = some (.bk, e) := rfl
@[simp] theorem kSeq_ct : kSeq g (.ct, e) = some (.ct, e) := rfl
@[simp] theorem kSeq_ex {cl : Str} : kSeq g (.ex cl d, e) = some (.ex cl d, e) := rfl
@[simp] theorem kSeq_tr {t : Tv} : kSeq g (.tr t, e) = some (.tr t, e) := rfl
def kNxt (e : En) : Flw × En := (.nx, e)
@[simp] theorem kNxt_e : kNxt e = (.nx, e) := rfl
def kSet (tg : Tg) (p : PyData × En) : Option (Flw × En) := (tg p.1 p.2).map kNxt
@[simp] theorem ev_Set {tg : Tg} : sSet a tg (x :: e) = (a (x :: e)).bind (kSet tg) := rfl
@[simp] theorem kSet_e {tg : Tg} : kSet tg (d, e) = (tg d e).map kNxt := rfl
def kOwn (i : Nat) (p : List PyData × En) : Flw × En := (.nx, p.2.set i (.own false p.1))
@[simp] theorem ev_Own : sOwn l i (x :: e) = (l (x :: e)).map (kOwn i) := rfl
@[simp] theorem kOwn_e {ds : List PyData} : kOwn i (ds, e) = (.nx, e.set i (.own false ds)) := rfl
def kEx (p : PyData × En) : Flw × En := (.nx, p.2)
@[simp] theorem ev_Ex : sEx a (x :: e) = (a (x :: e)).map kEx := rfl
@[simp] theorem kEx_e : kEx (d, e) = (.nx, e) := rfl
def kRt (p : PyData × En) : Flw × En := (.rt p.1, p.2)
@[simp] theorem ev_Rt : sRt a (x :: e) = (a (x :: e)).map kRt := rfl
@[simp] theorem kRt_e : kRt (d, e) = (.rt d, e) := rfl
def kRl (p : List PyData × En) : Flw × En := (.rl p.1, p.2)
@[simp] theorem ev_Rl : sRl l (x :: e) = (l (x :: e)).map kRl := rfl
@[simp] theorem kRl_e {ds : List PyData} : kRl (ds, e) = (.rl ds, e) := rfl
@[simp] theorem ev_Never : sNever (x :: e) = none := rfl
def kIf (f g : Fs) (p : Bool × En) : Option (Flw × En) := if p.1 then f p.2 else g p.2
@[simp] theorem ev_If : sIf t f g (x :: e) = (t (x :: e)).bind (kIf f g) := rfl
@[simp] theorem kIf_t : kIf f g (true, e) = f e := rfl
@[simp] theorem kIf_f : kIf f g (false, e) = g e := rfl
def kIsOwn (s : Option Sl) : Bool := match s with
  | some (.own _ _) => true
  | _ => false
@[simp] theorem ev_isOwn : isOwn (x :: e) i = kIsOwn ((x :: e)[i]?) := rfl
@[simp] theorem kIsOwn_own {p : Bool} {ds : List PyData} : kIsOwn (some (.own p ds)) = true := rfl
@[simp] theorem kIsOwn_val : kIsOwn (some (.val d)) = false := rfl
@[simp] theorem kIsOwn_no : kIsOwn (some .no) = false := rfl
def kApp2 (i : Nat) (d : PyData) (e : En) (s : Option Sl) : Option (Flw × En) := match s with
  | some (.own b ds) => if okN ds.length then some (.nx, e.set i (.own b (ds ++ [d]))) else none
  | _ => none
def kApp (i : Nat) (p : PyData × En) : Option (Flw × En) := kApp2 i p.1 p.2 p.2[i]?
@[simp] theorem ev_App : sApp i a (x :: e) = if isOwn (x :: e) i then (a (x :: e)).bind (kApp i) else none := (rfl)
@[simp] theorem kApp_e : kApp i (d, e) = kApp2 i d e e[i]? := (rfl)
theorem kApp2_e {p : Bool} {ds : List PyData} : kApp2 i d e (some (.own p ds)) = if okN ds.length then some (.nx, e.set i (.own p (ds ++ [d]))) else none := rfl
theorem kApp2_ok {p : Bool} {ds : List PyData} (h : ds.length ≤ 1000000) : kApp2 i d e (some (.own p ds)) = some (.nx, e.set i (.own p (ds ++ [d]))) := by
  rw [kApp2_e, if_pos (okN_of h)]
def kPut3 (i : Nat) (d : PyData) (k : PyData) (e : En) (s : Option Sl) : Option (Flw × En) := match k, s with
  | .int k, some (.own b ds) => (ixN ds.length k).map fun j => (.nx, e.set i (.own b (ds.set j d)))
  | _, _ => none
def kPut2 (i : Nat) (d : PyData) (q : PyData × En) : Option (Flw × En) := kPut3 i d q.1 q.2 q.2[i]?
def kPut (i : Nat) (ix : Fe) (p : PyData × En) : Option (Flw × En) := if isOwn p.2 i then (ix p.2).bind (kPut2 i p.1) else none
@[simp] theorem ev_Put {ix : Fe} : sPut i ix a (x :: e) = (a (x :: e)).bind (kPut i ix) := rfl
@[simp] theorem kPut_e {ix : Fe} : kPut i ix (d, e) = if isOwn e i then (ix e).bind (kPut2 i d) else none := rfl
@[simp] theorem kPut2_e : kPut2 i d (d', e) = kPut3 i d d' e e[i]? := rfl
theorem kPut3_e {p : Bool} {ds : List PyData} {k : Int} : kPut3 i d (.int k) e (some (.own p ds)) = (ixN ds.length k).map fun j => (.nx, e.set i (.own p (ds.set j d))) := rfl
theorem kPut3_ok {p : Bool} {ds : List PyData} {k : Nat} (h : k < ds.length) : kPut3 i d (.int (k : Int)) e (some (.own p ds)) = some (.nx, e.set i (.own p (ds.set k d))) := by
  rw [kPut3_e]
  unfold ixN
  rw [if_pos (by omega), if_pos (by omega)]
  simp
def kIxO2 (k : PyData) (e : En) (s : Option Sl) : Option (PyData × En) := match k, s with
  | .int k, some (.own _ ds) => (atI ds k).map (kP e)
  | _, _ => none
def kIxO (i : Nat) (q : PyData × En) : Option (PyData × En) := kIxO2 q.1 q.2 q.2[i]?
@[simp] theorem ev_IxO {ix : Fe} : eIxO i ix (x :: e) = if isOwn (x :: e) i then (ix (x :: e)).bind (kIxO i) else none := rfl
@[simp] theorem kIxO_e : kIxO i (d, e) = kIxO2 d e e[i]? := rfl
@[simp] theorem kIxO2_e {p : Bool} {ds : List PyData} {k : Int} : kIxO2 (.int k) e (some (.own p ds)) = (atI ds k).map (kP e) := rfl
def kLenO (e : En) (s : Option Sl) : Option (PyData × En) := match s with
  | some (.own _ ds) => some (.int ds.length, e)
  | _ => none
@[simp] theorem ev_LenO : eLenO i (x :: e) = kLenO (x :: e) ((x :: e)[i]?) := rfl
@[simp] theorem kLenO_e {p : Bool} {ds : List PyData} : kLenO e (some (.own p ds)) = some (.int ds.length, e) := rfl
def kFrz (i : Nat) (f : Fs) (e : En) (s : Option Sl) : Option (Flw × En) := match s with
  | some (.own false ds) => f (e.set i (.val (.list ds)))
  | _ => f e
@[simp] theorem ev_Frz : sFrz i f (x :: e) = kFrz i f (x :: e) ((x :: e)[i]?) := rfl
@[simp] theorem kFrz_own {ds : List PyData} : kFrz i f e (some (.own false ds)) = f (e.set i (.val (.list ds))) := rfl
@[simp] theorem kFrz_par {ds : List PyData} : kFrz i f e (some (.own true ds)) = f e := rfl
@[simp] theorem kFrz_val : kFrz i f e (some (.val d)) = f e := rfl
@[simp] theorem kFrz_no : kFrz i f e (some .no) = f e := rfl
def kPar (i j : Nat) (p : List PyData × En) : Option (Flw × En) := match p.1 with
  | [d, d'] => some (.nx, (p.2.set i (.val d)).set j (.val d'))
  | _ => none
@[simp] theorem ev_Par : sPar i j l (x :: e) = (l (x :: e)).bind (kPar i j) := rfl
@[simp] theorem kPar_e : kPar i j ([d, d'], e) = some (.nx, (e.set i (.val d)).set j (.val d')) := rfl
def kAug2 (i : Nat) (g : PyData → PyData → Option PyData) (d : PyData) (p : PyData × En) : Option (Flw × En) := (g d p.1).map fun z => (.nx, p.2.set i (.val z))
def kAug (i : Nat) (g : PyData → PyData → Option PyData) (a : Fe) (e : En) (s : Option Sl) : Option (Flw × En) := match s with
  | some (.val d) => (a e).bind (kAug2 i g d)
  | _ => none
@[simp] theorem ev_Aug {g : PyData → PyData → Option PyData} : sAug i g a (x :: e) = kAug i g a (x :: e) ((x :: e)[i]?) := rfl
@[simp] theorem kAug_e {g : PyData → PyData → Option PyData} : kAug i g a e (some (.val d)) = (a e).bind (kAug2 i g d) := rfl
@[simp] theorem kAug2_e {g : PyData → PyData → Option PyData} : kAug2 i g d (d', e) = (g d d').map fun z => (.nx, e.set i (.val z)) := rfl
def kM2 (i : Nat) (e : En) (b : Bool) (q : PyData × List PyData) : PyData × En := (q.1, e.set i (.own b q.2))
def kM1 (i : Nat) (g : List PyData → List PyData → Option (PyData × List PyData)) (ds : List PyData) (e : En) (s : Option Sl) : Option (PyData × En) := match s with
  | some (.own b ks) => (g ks ds).map (kM2 i e b)
  | _ => none
def kM (i : Nat) (g : List PyData → List PyData → Option (PyData × List PyData)) (p : List PyData × En) : Option (PyData × En) := kM1 i g p.1 p.2 p.2[i]?
@[simp] theorem ev_M {g : List PyData → List PyData → Option (PyData × List PyData)} : eM i g l (x :: e) = if isOwn (x :: e) i then (l (x :: e)).bind (kM i g) else none := rfl
@[simp] theorem kM_e {g : List PyData → List PyData → Option (PyData × List PyData)} {ds : List PyData} : kM i g (ds, e) = kM1 i g ds e e[i]? := rfl
@[simp] theorem kM1_e {g : List PyData → List PyData → Option (PyData × List PyData)} {ds ks : List PyData} {p : Bool} : kM1 i g ds e (some (.own p ks)) = (g ks ds).map (kM2 i e p) := rfl
@[simp] theorem kM2_e {ks : List PyData} {p : Bool} : kM2 i e p (d, ks) = (d, e.set i (.own p ks)) := rfl
def kMF2 (e : En) (q : PyData × List PyData) : PyData × En := (q.1, e)
def kMF (g : List PyData → List PyData → Option (PyData × List PyData)) (p : List PyData × En) : Option (PyData × En) := (g p.1 []).map (kMF2 p.2)
@[simp] theorem ev_MF {g : List PyData → List PyData → Option (PyData × List PyData)} : eMF g l (x :: e) = (l (x :: e)).bind (kMF g) := rfl
@[simp] theorem kMF_e {g : List PyData → List PyData → Option (PyData × List PyData)} {ds : List PyData} : kMF g (ds, e) = (g ds []).map (kMF2 e) := rfl
@[simp] theorem kMF2_e {ks : List PyData} : kMF2 e (d, ks) = (d, e) := rfl
def kLA (g : List PyData → Option (List PyData)) (p : List PyData × En) : Option (List PyData × En) := (g p.1).map (kP p.2)
@[simp] theorem ev_LA {g : List PyData → Option (List PyData)} : lA g l (x :: e) = (l (x :: e)).bind (kLA g) := rfl
@[simp] theorem kLA_e {g : List PyData → Option (List PyData)} {ds : List PyData} : kLA g (ds, e) = (g ds).map (kP e) := rfl
def kOne (a b : Fe) (e : En) (v : Bool) : Option (PyData × En) := match v with
  | true => a e
  | false => b e
@[simp] theorem ev_One {q : En → Bool} : eOne q a b (x :: e) = kOne a b (x :: e) (q (x :: e)) := by
  unfold eOne kOne
  cases q (x :: e) <;> rfl
@[simp] theorem kOne_t : kOne a b e true = a e := rfl
@[simp] theorem kOne_f : kOne a b e false = b e := rfl
def kOf (p : List PyData × En) : Option (List PyData × En) := match p.1 with
  | [.list ds] => some (ds, p.2)
  | [.tuple ds] => some (ds, p.2)
  | _ => none
@[simp] theorem ev_Of : lOf l (x :: e) = (l (x :: e)).bind kOf := rfl
@[simp] theorem kOf_l {ds : List PyData} : kOf ([.list ds], e) = some (ds, e) := rfl
@[simp] theorem kOf_t {ds : List PyData} : kOf ([.tuple ds], e) = some (ds, e) := rfl
def kSq2 (e : En) (ds : List PyData) : List PyData × En := (ds, e)
def kSq (p : PyData × En) : Option (List PyData × En) := (items p.1).map (kSq2 p.2)
@[simp] theorem ev_Sq : iSeq a (x :: e) = (a (x :: e)).bind kSq := rfl
@[simp] theorem kSq_e : kSq (d, e) = (items d).map (kSq2 e) := rfl
@[simp] theorem kSq2_e {ds : List PyData} : kSq2 e ds = (ds, e) := rfl
noncomputable def kR1 (p : List PyData × En) : Option (List PyData × En) := match p.1 with
  | [.int n] => if smallI n then some (rng 0 n, p.2) else none
  | _ => none
noncomputable def kR2 (p : List PyData × En) : Option (List PyData × En) := match p.1 with
  | [.int m, .int n] => if smallI m && smallI n then some (rng m n, p.2) else none
  | _ => none
@[simp] theorem ev_R1 : iR1 l (x :: e) = (l (x :: e)).bind kR1 := (rfl)
@[simp] theorem ev_R2 : iR2 l (x :: e) = (l (x :: e)).bind kR2 := (rfl)
theorem kR1_e {n : Int} : kR1 ([.int n], e) = if smallI n then some (rng 0 n, e) else none := rfl
theorem kR1_ok {n : Int} (h : -1000000 ≤ n) (h2 : n ≤ 1000000) : kR1 ([.int n], e) = some (rng 0 n, e) := by
  rw [kR1_e, if_pos (smallI_of h h2)]
theorem kR2_ok {m n : Int} (h : -1000000 ≤ m) (h2 : m ≤ 1000000) (h3 : -1000000 ≤ n) (h4 : n ≤ 1000000) : kR2 ([.int m, .int n], e) = some (rng m n, e) := by
  show (if smallI m && smallI n then some (rng m n, e) else none) = _
  rw [smallI_of h h2, smallI_of h3 h4]
  rfl
def kZp (p : List PyData × En) : Option (List PyData × En) := match p.1 with
  | [.list xs, .list ys] => some (zipD xs ys, p.2)
  | [.tuple xs, .list ys] => some (zipD xs ys, p.2)
  | [.list xs, .tuple ys] => some (zipD xs ys, p.2)
  | [.tuple xs, .tuple ys] => some (zipD xs ys, p.2)
  | _ => none
@[simp] theorem ev_Zp : iZp l (x :: e) = (l (x :: e)).bind kZp := rfl
@[simp] theorem kZp_e {xs ys : List PyData} : kZp ([.list xs, .list ys], e) = some (zipD xs ys, e) := rfl
@[simp] theorem kZp_t {xs ys : List PyData} : kZp ([.tuple xs, .list ys], e) = some (zipD xs ys, e) := rfl
@[simp] theorem kZp_lt {xs ys : List PyData} : kZp ([.list xs, .tuple ys], e) = some (zipD xs ys, e) := rfl
@[simp] theorem kZp_tt {xs ys : List PyData} : kZp ([.tuple xs, .tuple ys], e) = some (zipD xs ys, e) := rfl
def kEn (p : List PyData × En) : Option (List PyData × En) := match p.1 with
  | [.list xs] => some (enumD 0 xs, p.2)
  | _ => none
@[simp] theorem ev_En : iEn l (x :: e) = (l (x :: e)).bind kEn := rfl
@[simp] theorem kEn_e {xs : List PyData} : kEn ([.list xs], e) = some (enumD 0 xs, e) := rfl
def kFor (tg : Tg) (f : Fs) (p : List PyData × En) : Option (Flw × En) := forL tg f p.1 p.2
@[simp] theorem ev_For {it : Fi} {tg : Tg} : sFor it tg f (x :: e) = (it (x :: e)).bind (kFor tg f) := rfl
@[simp] theorem kFor_e {tg : Tg} {ds : List PyData} : kFor tg f (ds, e) = forL tg f ds e := rfl
def kCm3 (e1 : En) (vs : List Nat) (r : List PyData × En) : List PyData × En := (r.1, restE e1 r.2 vs)
def kCm2 (tg : Tg) (t : Ft) (a : Fe) (vs : List Nat) (e : En) (ds : List PyData) (ok : Bool) : Option (List PyData × En) := match ok with
  | true => (compL tg t a vs ds (wipeE e vs)).map (kCm3 e vs)
  | false => none
def kCm (tg : Tg) (t : Ft) (a : Fe) (vs : List Nat) (p : List PyData × En) : Option (List PyData × En) := kCm2 tg t a vs p.2 p.1 (okN p.1.length && noOwn p.2 vs)
@[simp] theorem ev_Cm {it : Fi} {tg : Tg} {vs : List Nat} : lCm it tg t a vs (x :: e) = (it (x :: e)).bind (kCm tg t a vs) := by
  unfold lCm kCm kCm2 kCm3
  congr
  funext p
  cases okN p.1.length && noOwn p.2 vs <;> rfl
@[simp] theorem ev_Ys : tYs (x :: e) = some (true, x :: e) := rfl
/-- a comprehension, from what its loop gives -/
theorem kCm_ok {tg : Tg} {vs : List Nat} {ds rs : List PyData} {e1 e' : En} (hn : ds.length ≤ 1000000) (ho : noOwn e vs = true) (hw : wipeE e vs = e1) (h : compL tg t a vs ds e1 = some (rs, e')) : kCm tg t a vs (ds, e) = some (rs, restE e e' vs) := by
  unfold kCm
  show kCm2 tg t a vs e ds (okN ds.length && noOwn e vs) = _
  rw [okN_of hn, ho]
  show (compL tg t a vs ds (wipeE e vs)).map (kCm3 e vs) = _
  rw [hw, h]
  rfl
/-- with a test -/
theorem comp_filter {α β : Type} {tg : Tg} {vs : List Nat} {e : En} {E : α → PyData} {D : β → PyData} {F : α → β} {p : α → Bool} : ∀ {xs : List α} (h : ∀ y ∈ xs, ∃ e1 e2, tg (E y) e = some e1 ∧ t e1 = some (p y, e2) ∧ (p y = false → wipeE e2 vs = e) ∧ (p y = true → ∃ e3, a e2 = some (D (F y), e3) ∧ wipeE e3 vs = e)), compL tg t a vs (xs.map E) e = some (((xs.filter p).map F).map D, e)
  | [], _ => rfl
  | d :: ds, h => by
    obtain ⟨e1, e2, h1, h2, h3, h4⟩ := h d List.mem_cons_self
    have ih := comp_filter (e := e) (F := F) (p := p) (xs := ds) fun d hd => h d (List.mem_cons_of_mem _ hd)
    rw [List.map_cons]
    unfold compL
    rw [h1]
    show (t e1).bind _ = _
    rw [h2]
    cases hp : p d with
    | true =>
      obtain ⟨e3, h5, h6⟩ := h4 hp
      show (a e2).bind _ = _
      rw [h5]
      show (compL tg t a vs (ds.map E) (wipeE e3 vs)).map _ = _
      rw [h6, ih, List.filter_cons_of_pos hp]
      rfl
    | false =>
      show compL tg t a vs (ds.map E) (wipeE e2 vs) = _
      rw [h3 hp, ih, List.filter_cons_of_neg (by rw [hp]; exact Bool.false_ne_true)]
def kTurn (tg : Tg) (f : Fs) (ds : List PyData) (p : Flw × En) : Option (Flw × En) := match p.1 with
  | .nx => forL tg f ds p.2
  | .ct => forL tg f ds p.2
  | .bk => some (.nx, p.2)
  | .rt r => some (.rt r, p.2)
  | .rl r => some (.rl r, p.2)
  | .ex cl r => some (.ex cl r, p.2)
  | .tr r => some (.tr r, p.2)
theorem for_cons {tg : Tg} {ds : List PyData} : forL tg f (d :: ds) e = (tg d e).bind fun e1 => (f e1).bind (kTurn tg f ds) := by
  conv => lhs; unfold forL
  rfl
@[simp] theorem kTurn_nx {tg : Tg} {ds : List PyData} : kTurn tg f ds (.nx, e) = forL tg f ds e := rfl
@[simp] theorem kTurn_ct {tg : Tg} {ds : List PyData} : kTurn tg f ds (.ct, e) = forL tg f ds e := rfl
@[simp] theorem endP_rt : endP (some (.rt d, e)) = some d := rfl
@[simp] theorem endP_rl {ds : List PyData} : endP (some (.rl ds, e)) = some (.list ds) := rfl
@[simp] theorem endP_nx : endP (some (.nx, e)) = some .none := rfl
@[simp] theorem endL_rl {ds : List PyData} : endL (some (.rl ds, e)) = some ds := rfl
@[simp] theorem endM_rt {ks : List PyData} : endM (some (.rt d, .own true ks :: e)) = some (d, ks) := rfl
@[simp] theorem endM_rl {ks ds : List PyData} : endM (some (.rl ds, .own true ks :: e)) = some (.list ds, ks) := rfl
@[simp] theorem endM_nx {ks : List PyData} : endM (some (.nx, .own true ks :: e)) = some (.none, ks) := rfl
theorem run1 {N : Nat} {b : Fs} {d1 : PyData} : runP b (N + 1) 1 [d1] = endP (b (.val d1 :: List.replicate N .no)) := by simp [runP, en0]
theorem run2 {N : Nat} {b : Fs} {d1 d2 : PyData} : runP b (N + 2) 2 [d1, d2] = endP (b (.val d1 :: .val d2 :: List.replicate N .no)) := by simp [runP, en0]
theorem run3 {N : Nat} {b : Fs} {d1 d2 d3 : PyData} : runP b (N + 3) 3 [d1, d2, d3] = endP (b (.val d1 :: .val d2 :: .val d3 :: List.replicate N .no)) := by simp [runP, en0]
theorem runL2 {N : Nat} {b : Fs} {d1 d2 : PyData} : runL b (N + 2) 2 [d1, d2] = endL (b (.val d1 :: .val d2 :: List.replicate N .no)) := by simp [runL, en0]
theorem runM2 {N : Nat} {b : Fs} {d1 : PyData} {ks : List PyData} : runM b (N + 2) 2 ks [d1] = endM (b (.own true ks :: .val d1 :: List.replicate N .no)) := by simp [runM, en0]
theorem runM3 {N : Nat} {b : Fs} {d1 d2 : PyData} {ks : List PyData} : runM b (N + 3) 3 ks [d1, d2] = endM (b (.own true ks :: .val d1 :: .val d2 :: List.replicate N .no)) := by simp [runM, en0]
@[simp] theorem rep_0 {α : Type} {a : α} : List.replicate 0 a = [] := rfl
@[simp] theorem atI_0 {α : Type} {a : α} {l : List α} : atI (a :: l) 0 = some a := by simp [atI, ixN]
@[simp] theorem atI_1 {α : Type} {a b : α} {l : List α} : atI (a :: b :: l) 1 = some b := by
  have h : (1 : Int) < ((a :: b :: l).length : Int) := by simp; omega
  unfold atI ixN
  rw [if_pos (by decide), if_pos h]
  rfl
@[simp] theorem atI_2 {α : Type} {a b c : α} {l : List α} : atI (a :: b :: c :: l) 2 = some c := by
  have h : (2 : Int) < ((a :: b :: c :: l).length : Int) := by simp; omega
  unfold atI ixN
  rw [if_pos (by decide), if_pos h]
  rfl
end Dn
set_option Elab.async false
set_option linter.all false
set_option maxRecDepth 100000
namespace Dn
open PySem PySem.Spec PyProof.Rows L2
open PySem.W (Frag)
variable [Tb]
theorem sqL_noT {K : Frag} {H : Hp} {a : Addr} {xs : List V} (h : SqL K H a xs) : SqL K (noT H) a xs := by
  rcases h with (h | ⟨o, h⟩) | h
  · exact .inl (.inl (noT_of h NT.lst))
  · exact .inl (.inr ⟨o, noT_of h fun _ z => by cases z⟩)
  · exact .inr h
theorem spP_script {K : Frag} {f : List PyData → Option PyData} {H : Hp} {a : Addr} {ns : List Int} {E : XK} (hT : LamX.Tabs Tb.T H) (hS : SqL K H a (ns.map V.int)) (h : f [.list (ns.map .int)] = some (.bool true)) (hsl : Tb.sl = true) :
    spP K 1 f [.ref a] H (fun v _ => v = .bl true) E :=
  ⟨noT H, [.list (ns.map .int)], .bool true, rfl, ⟨noT_sub, noT_no, hT⟩, .cons (.lst (sqL_noT hS) (DpAll.of_ints _) (fun z => by rw [hsl] at z; cases z)) .nil, h, fun v F' H' _ _ _ _ hd => by cases hd; rfl⟩
end Dn
set_option Elab.async false
set_option linter.all false
set_option maxRecDepth 100000
namespace Dn
open PySem PySem.Spec PyProof.Rows L2
open PySem.W (Frag)
variable [Tb]
inductive Xo where
  | ok (d : PyData)
  | ex (cl : Str) (d : PyData)
abbrev FeX := En → Option (Xo × En)
def FinO (K : Frag) (xc : XC) (c : C3) (F : Hp) (σ : L2.St) (o : Xo) (env : En) (Q : VK) : Prop := match o with
  | .ok d => ∀ v F' H', Same F F' → Rl K c F' σ H' env → Dp K F' v d → Q v H'
  | .ex cl d => ∀ F' H v dd, Same F F' → Rl K c F' σ H env → H dd = none → Dp K F' v d → NwIf xc.nl K c.H0 F' v d → xc.W (.ref (xc.ca cl)) (some dd) σ (upd H dd (xdO v))
def GeX (K : Frag) (xc : XC) (f : FeX) : TE := fun σ H Q => ∃ c F env o env', Rl K c F σ H env ∧ f env = some (o, env') ∧ FinO K xc c F σ o env' Q
theorem FinO.up {K : Frag} {xc : XC} {c : C3} {F F' : Hp} {σ : L2.St} {o : Xo} {env : En} {Q : VK} (h : FinO K xc c F σ o env Q) (s : Same F F') : FinO K xc c F' σ o env Q := by
  cases o with
  | ok d => exact fun v G H s' R hv => h v G H (s.trans s') R hv
  | ex cl d => exact fun G H v dd s' R hd hv hn => h G H v dd (s.trans s') R hd hv hn
def endX : Option (Flw × En) → Option Xo
  | some (.rt d, _) => some (.ok d)
  | some (.rl ds, _) => some (.ok (.list ds))
  | some (.nx, _) => some (.ok .none)
  | some (.ex cl d, _) => some (.ex cl d)
  | _ => none
def runX (b : Fs) (N n : Nat) : List PyData → Option Xo := fun ds => if ds.length = n then endX (b (en0 N ds)) else none
theorem runX_len {b : Fs} {N n : Nat} (ds : List PyData) (z : Xo) (h : runX b N n ds = some z) : ds.length = n := by
  unfold runX at h
  split at h
  · assumption
  · cases h
def sRaise (cl : Str) (f : Fe) : Fs := fun env => (f env).map fun p => (.ex cl p.1, p.2)
def xA (g : List PyData → Option Xo) (fl : Fl) : FeX := fun env => (fl env).bind fun p => (g p.1).map fun z => (z, p.2)
/-- (a written constant, f) -/
def xTup (k : PyData) (f : FeX) : FeX := fun env => (f env).map fun p => (match p.1 with
  | .ok d => .ok (.tuple [k, d])
  | .ex cl d => .ex cl d, p.2)
def sSetX (f : FeX) (i : Nat) : Fs := fun env => (f env).map fun p => match p.1 with
  | .ok d => (.nx, p.2.set i (.val d))
  | .ex cl d => (.ex cl d, p.2)
def sRtX (f : FeX) : Fs := fun env => (f env).map fun p => match p.1 with
  | .ok d => (.rt d, p.2)
  | .ex cl d => (.ex cl d, p.2)
def sExX (f : FeX) : Fs := fun env => (f env).map fun p => match p.1 with
  | .ok d => (.nx, p.2)
  | .ex cl d => (.ex cl d, p.2)
section
variable {X : Cx} {xc : XC} {k n : Nat} {f C D fI : Addr} {fd : FuncData} {ps : List Str} {x : Str} {p pos pos2 : Pos} {e a : Expr} {es : List Expr} {fl : Fl} {fe : Fe} {fx : FeX} {g : List PyData → Option Xo}
theorem ds_retX (he : PE X e (GeX X.K xc fx)) : PS X (.Return (some e) pos) (Gs X.K xc (sRtX fx)) := PS.imp (ps_ret he) fun D σ H ⟨c, F, env, fl, env', R, e, kk⟩ => by
  unfold sRtX at e
  simp only [Option.map_eq_some_iff] at e
  obtain ⟨⟨o1, n1⟩, h1, h2⟩ := e
  refine ⟨c, F, env, o1, n1, R, h1, ?_⟩
  cases o1 with
  | ok d =>
    obtain ⟨rfl, rfl⟩ := Prod.mk.inj h2
    exact fun v F' H' s R' hv => kk σ F' H' v s R' hv
  | ex cl d =>
    obtain ⟨rfl, rfl⟩ := Prod.mk.inj h2
    exact fun F' H' v dd s R' hd hv hn => kk σ F' H' v dd s R' hd hv hn
theorem ds_exprX (he : PE X e (GeX X.K xc fx)) (hs : swapsWith e none pos.line X.env = pure false := by rfl) : PS X (.Expr e pos) (Gs X.K xc (sExX fx)) := PS.imp (ps_expr he hs) fun D σ H ⟨c, F, env, fl, env', R, e, kk⟩ => by
  unfold sExX at e
  simp only [Option.map_eq_some_iff] at e
  obtain ⟨⟨o1, n1⟩, h1, h2⟩ := e
  refine ⟨c, F, env, o1, n1, R, h1, ?_⟩
  cases o1 with
  | ok d =>
    obtain ⟨rfl, rfl⟩ := Prod.mk.inj h2
    exact fun v F' H' s R' hv => kk σ F' H' s R'
  | ex cl d =>
    obtain ⟨rfl, rfl⟩ := Prod.mk.inj h2
    exact fun F' H' v dd s R' hd hv hn => kk σ F' H' v dd s R' hd hv hn
end
end Dn
set_option Elab.async false
set_option linter.all false
set_option maxRecDepth 100000
namespace Dn
open PySem PySem.Spec PyProof.Rows L2
open PySem.W (Frag)
variable [Tb]
/-- a slot forgets -/
theorem Rl.junk {K : Frag} {c : C3} {F H : Hp} {σ : L2.St} {env : En} (R : Rl K c F σ H env) (i : Nat) (x : Option V) : Rl K c F (σ.set i x) H (env.set i .no) := by
  have R1 := R.forget i
  refine ⟨R1.sub, R1.f0, R1.gd, R1.g0, R1.new, R1.dom, by simp [R.len], fun j e hj => ?_, fun j p ds hj => ?_, R1.tab, R1.nf, R1.ng⟩
  · by_cases hij : i = j
    · subst hij
      cases get_set_self hj
    · obtain ⟨u, h1, h2⟩ := R1.val j e hj
      rw [get_set_ne hij] at h1
      exact ⟨u, by rw [get_set_ne hij]; exact h1, h2⟩
  · by_cases hij : i = j
    · subst hij
      cases get_set_self hj
    · obtain ⟨a, xs, e1, e2, e3, e4, e5, e6, e7⟩ := R1.own j p ds hj
      rw [get_set_ne hij] at e1
      refine ⟨a, xs, by rw [get_set_ne hij]; exact e1, e2, e3, e4, e5, e6, fun k q es hk hq => ?_⟩
      have z := e7 k q es hk hq
      by_cases hik : i = k
      · subst hik
        cases get_set_self hq
      · rw [get_set_ne hik] at z ⊢
        exact z
/-- an error of the class at S is what «except S» names -/
theorem exm_self {K : PySem.W.Frag} {S : Addr} (h1 : PySem.W.subIn K (.ref S) (.type "BaseException") = some true) (h2 : PySem.W.isClsIn K S = true) (h3 : PySem.W.typeIn K (.ref S) = some (.type "type")) (h4 : PySem.W.subIn K (.ref S) (.ref S) = some true) :
    PySem.W.exmOne K (.ref S) (.ref S) = some true := by
  have e1 : (PySem.W.subIn K (.ref S) (.type "BaseException") == some true) = true := by rw [h1] <;> rfl
  have e2 : ((PySem.W.clsIn K S).isSome && PySem.W.typeIn K (.ref S) == some (.type "type")) = true := by
    have h2' : (PySem.W.clsIn K S).isSome = true := h2
    rw [h2', h3] <;> rfl
  show (if (PySem.W.subIn K (.ref S) (.type "BaseException") == some true) = true then (if ((PySem.W.clsIn K S).isSome && PySem.W.typeIn K (.ref S) == some (.type "type")) = true then PySem.W.subIn K (.ref S) (.ref S) else none) else none) = some true
  rw [if_pos e1, if_pos e2]
  exact h4
end Dn
set_option Elab.async false
set_option linter.all false
set_option maxRecDepth 100000
set_option maxHeartbeats 1000000
namespace L2
open PySem PySem.Spec PyProof.Rows
/-- the object of an error -/
def excV (a : Addr) (cls : Value) (d : Option Addr) : HO := .ext fun h => ∃ o vs, h.get? a = some o ∧ o.cls = cls ∧ o.dict = d ∧ o.data = .fields vs
section
variable {X : Cx} {pins : List (Addr × Obj)} {σ : L2.St} {H : Hp} {s : Shared} {a : Addr}
/-- an object that stands there becomes known -/
theorem Inv.know {o : HO} (I : Inv X pins σ H s) (na : H a = none) (fresh : X.s_0.heap.get? a = none) (nL : a ≠ X.env.locals) (nc : ∀ x c, X.env.cells.lookup x = some c → c ≠ a) (np : ∀ p ∈ X.pn ++ pins, p.1 ≠ a) (new : ObjOk X.prog X.w (upd H a o) s.heap a o) : Inv X pins σ (upd H a o) s := by
  have B := I.base
  have ne : ∀ {b u}, H b = some u → b ≠ a := fun {b u} e z => by rw [z, na] at e; cases e
  refine ⟨I.ok, I.os, I.bare, ⟨B.keep, B.slot, fun b ob e n hx => ?_, B.there, fun b xs e => ?_, fun b ob u e => ?_, fun b ps e => ?_⟩, I.loc, I.cell, ?_, fun x c e => ?_, fun p hp => ?_, fun b u e => ?_, I.len⟩
  · have hb : b ≠ a := fun z => by rw [z, fresh] at e; cases e
    rw [upd_ne hb]
    exact B.free b ob e n hx
  · have := B.tups b xs e
    rw [upd_ne (ne this)]; exact this
  · have := B.frzs b ob u e
    rw [upd_ne (ne this)]; exact this
  · obtain ⟨more, this⟩ := B.tbls b ps e
    exact ⟨more, by rw [upd_ne (ne this)]; exact this⟩
  · rw [upd_ne (Ne.symm nL)]; exact I.free
  · rw [upd_ne (nc x c e)]; exact I.freeC x c e
  · have := I.pin p hp
    rw [upd_ne (np p hp)]; exact this
  · by_cases hb : b = a
    · subst hb
      rw [upd_same] at e
      cases e
      exact new
    · rw [upd_ne hb] at e
      exact (I.hok b u e).stay (fun c v _ q => q) (fun c q => by rw [upd_ne (ne q)]; exact q) fun c xs q => by rw [upd_ne (ne q)]; exact q
end
/-- the wish of a body whose errors are all caught and kept: slot j holds the error, slot i is gone -/
def wKeep (K : PySem.W.Frag) (c : Value) (i j : Nat) (nx : L2.St → Hp → Prop) : WX := fun cls d σ H =>
  PySem.W.exmOne K cls c = some true ∧ ∀ a, H a = none → nx (((σ.set i (some (.ref a))).set j (some (.ref a))).set i none) (upd H a (excV a cls d))
/-- no wish but one way on -/
def onlyNx (p : L2.St → Hp → Prop) : Ends := { nx := p, rt := fun _ _ => False, bk := fun _ _ => False, ct := fun _ _ => False }
section
variable {X : Cx} {pins : List (Addr × Obj)} {σ : L2.St} {H : Hp} {sI s' : Shared} {B : Heap} {a : Addr} {cls : Value} {d : Option Addr}
/-- what stands above the ground is new to us -/
structure Above (X : Cx) (pins : List (Addr × Obj)) (a : Addr) : Prop where
  start : X.s_0.heap.get? a = none
  pin : ∀ p ∈ X.pn ++ pins, p.1 ≠ a
theorem Above.of (I : Inv X pins σ H sI) (hex : X.ex = []) (ground : ∀ b o, sI.heap.get? b = some o → b ∉ frs X.stack → B.get? b = some o) (off : a ∉ frs X.stack) (gone : B.get? a = none) : Above X pins a := by
  have here : ∀ o, sI.heap.get? a ≠ some o := fun o e => by
    have z := ground a o e off
    rw [gone] at z
    cases z
  refine ⟨?_, fun p hp z => here p.2 (by rw [← z]; exact (I.pin p hp).1)⟩
  cases e : X.s_0.heap.get? a with
  | none => rfl
  | some o =>
    obtain ⟨u, hu⟩ := I.base.there a o e (by rw [hex]; exact List.not_mem_nil)
    exact absurd hu (here u)
end
section
variable {X : Cx} {x n y : Str} {c : Value} {i j : Nat} {np py pn hpos spos : Pos}
/-- the suite y = e, then e is forgotten -/
theorem keep_suite {pins : List (Addr × Obj)} {σ : L2.St} {H : Hp} {s4 : Shared} {a : Addr} {oe : Obj} {vs : Array Value} {cls : Value} {d : Option Addr} {R : Flow → Shared → Prop} {E : Value → Shared → Prop} (ok : X.Ok) (hN : X.N.Nodup) (hi : X.N[i]? = some n) (hln : X.env.kindOf n = some .local)
    (hj : X.N[j]? = some y) (hy : Loc X.env.scope y) (hv : Vis X.env.scope n) (hd : (n == ("__debug__" : Str)) = false) (hcd : (n == ("__classdict__" : Str)) = false)
    (hsw : swapsWith (.Name n pn) (some (.Name y py)) spos.line X.env = pure false) (hfy : X.fn y = true ∨ X.env.scope.names.lookup y = some .local)
    (S : Inv (X.suite a ((a, oe) :: (X.pn ++ pins))) [] (σ.set i (some (.ref a))) H s4) (hil : i < σ.length) (na : H a = none) (nL : a ≠ X.env.locals) (ab : Above X pins a) (hz : Zc cls d oe) (hvs : oe.data = .fields vs)
    (k : ∀ s7, Inv X pins (((σ.set i (some (.ref a))).set j (some (.ref a))).set i none) (upd H a (excV a cls d)) s7 → R .next s7) :
    wpAny (model X.prog X.w) (X.A.mark (some (.ref a))) (execs [.Assign [.Name y py] (.Name n pn) spos] X.env) (fun f s6 => match f with
      | .next => wpAny (model X.prog X.w) X.A (do bindName X.env n .none; unbindBehindTheSuite X.env n hpos) (fun _ s7 => R .next s7) E s6
      | _ => False) (fun _ _ => False) s4 := by
  have rule : PSs (X.suite a ((a, oe) :: (X.pn ++ pins))) [.Assign [.Name y py] (.Name n pn) spos] (tAsg (tVar i) (gName j)) :=
    pss_one (ps_set (X := X.suite a ((a, oe) :: (X.pn ++ pins))) hN hj hy (pe_var (X := X.suite a ((a, oe) :: (X.pn ++ pins))) hi hv hd hcd) hsw hfy)
  have ran := rule.run [] s4 _ H (onlyNx fun σ6 H6 => σ6 = (σ.set i (some (.ref a))).set j (some (.ref a)) ∧ H6 = H) S ⟨.ref a, List.getElem?_set_self hil, rfl, rfl⟩
  refine wpAny_mono ran (fun f s6 q => ?_) (fun _ _ z => z)
  cases f with
  | next =>
    obtain ⟨σ6, H6, S6, e1, e2⟩ := q
    subst e1 e2
    obtain ⟨ga, _, _, _, nce⟩ := S6.pin (a, oe) (List.mem_append_left _ List.mem_cons_self)
    have J6 := S6.unsuite ok
    have fact : ObjOk X.prog X.w (upd H6 a (excV a cls d)) s6.heap a (excV a cls d) := ⟨⟨oe, vs, ga, hz.1, hz.2, hvs⟩, ⟨oe, ga⟩, fun h1 h2 ⟨o, us, e, z⟩ kept => ⟨o, us, kept _ e, z⟩⟩
    have K6 := J6.know na ab.start nL (fun w q e z => by
      obtain ⟨v, o, ho, hdo⟩ := J6.cell w q e
      rw [z, ga] at ho
      cases ho
      exact nce v hdo) ab.pin fact
    exact gone_ok K6 hN hi hln k
  | brk => obtain ⟨_, _, _, z⟩ := q; exact z.elim
  | cont => obtain ⟨_, _, _, z⟩ := q; exact z.elim
  | ret u => obtain ⟨_, _, _, _, _, z⟩ := q; exact z.elim
end
end L2
namespace L2
open PySem PySem.Spec PyProof.Rows
section
variable {X : Cx} {x n y : Str} {c : Value} {i j : Nat} {body : List Stmt} {np py pn pos hpos spos : Pos} {tb : WX → TS}
/-- the catch -/
theorem catch_keep {pins : List (Addr × Obj)} {D : Ends} {s' : Shared} {u : Value} {q : Value → Shared → Prop} (ok : X.Ok) (stk : X.stack = X.env :: X.outer) (hf : X.env.frame = some X.env.locals) (hN : X.N.Nodup) (hi : X.N[i]? = some n) (hln : X.env.kindOf n = some .local) (hc : Names X x c)
    (hex : X.ex = []) (hj : X.N[j]? = some y) (hy : Loc X.env.scope y) (hv : Vis X.env.scope n) (hd : (n == ("__debug__" : Str)) = false) (hcd : (n == ("__classdict__" : Str)) = false)
    (hsw : swapsWith (.Name n pn) (some (.Name y py)) spos.line X.env = pure false) (hfy : X.fn y = true ∨ X.env.scope.names.lookup y = some .local)
    (air : XE (X.tr (X.pn ++ pins) q) (wKeep X.K c i j D.nx) u s') :
    wpAny (model X.prog X.w) X.A (noteFrame u X.env) (fun _ s2 => wpAny (model X.prog X.w) X.A (setFlight u none) (fun _ s3 => wpAny (model X.prog X.w) X.A (handleBy u X.env [.ExceptHandler (some (.Name x np)) (some n) [.Assign [.Name y py] (.Name n pn) spos] hpos]) (SP X pins D) X.xe s3) X.xe s2) X.xe s' := by
  obtain ⟨a, B, sI, _, σ1, H1, cls, d, rfl, J0, ground, up, sky, na, os, ag, yes, go⟩ := air
  have J : Inv X pins σ1 H1 sI := J0.ofTry ok
  refine Sky.land Zc.steady (by rw [ok.frames, stk]) hf (by rw [← stk]; exact sky) fun h1 fly up1 => ?_
  have J1 := J.landed (s' := { s' with heap := h1 }) ground fly.1 (up.trans up1) os ag
  obtain ⟨o1, vs1, g1, z1, f1⟩ := fly.there
  have off : a ∉ frs X.stack := fun hm => by
    rw [stk] at hm
    obtain ⟨_, o, e, no⟩ := fly.2.2.1.mem hm
    rw [g1] at e
    cases e
    exact no _ f1
  have nL : a ≠ X.env.locals := fun z => off (by rw [stk]; exact List.mem_filterMap.mpr ⟨X.env, List.mem_cons_self, by rw [hf, z]⟩)
  have nF : a ∉ X.fs := fun hm => off (by
    rw [stk]
    obtain ⟨e, he, w⟩ := List.mem_filterMap.mp hm
    exact List.mem_filterMap.mpr ⟨e, List.mem_cons_of_mem _ he, w⟩)
  have ab := Above.of J hex ground off fly.2.1
  have V1 := J1.suite g1 f1 na nL nF
  have type : PySem.W.Looks (model X.prog X.w) h1 (typeOf (.ref a)) cls := fun _ _ _ _ k w => wpAny_typeOf_ref (k _ _ g1) (by rw [z1.1]; exact w)
  refine wpAny_handleBy_cons (codeAny_handlers_test ?_) (by intro z; cases z)
  have named : ∀ {Q E : Value → Shared → Prop}, Q c { s' with heap := h1 } → wpAny (model X.prog X.w) (X.A.mark (some (.ref a))) (eval (.Name x np) X.env) Q E { s' with heap := h1 } := fun {Q E} w => by
    obtain ⟨hg, hdb, hm | ⟨hm, hb, hn⟩⟩ := hc
    · exact ld_glob (X := X.suite a ((a, o1) :: (X.pn ++ pins))) V1 hg hm w hdb
    · exact ld_blt (X := X.suite a ((a, o1) :: (X.pn ++ pins))) V1 hg hm hb w hn hdb
  refine named ((PySem.W.exm_one (M := model X.prog X.w) J1.kIn type yes).here ?_)
  refine codeAny_handlers_suite_as ?_
  refine HandSPX.lands_againZ fly fun h2 fly2 up2 => ?_
  obtain ⟨o2, vs2, g2, z2, f2⟩ := fly2.there
  have V2 := (J.landed (s' := { s' with heap := h2 }) ground fly2.1 ((up.trans up1).trans up2) os ag).suite g2 f2 na nL nF
  have hil : i < σ1.length := by rw [J.len]; exact (List.getElem?_eq_some_iff.mp hi).1
  refine store_ok (X := X.suite a ((a, o2) :: (X.pn ++ pins))) (v := .ref a) V2 hN hi (.inl hln) rfl (fun s5 V5 => ?_) (.inr hln)
  have got := keep_suite (hpos := hpos) (R := SP X pins D) (E := X.xe) ok hN hi hln hj hy hv hd hcd hsw hfy V5 hil na nL ab z2 f2 fun s7 V7 => ⟨_, _, V7, go a na⟩
  refine wpAny_mono got (fun f s6 w => ?_) (fun _ _ z => z.elim)
  cases f with
  | next => exact w
  | brk => exact w.elim
  | cont => exact w.elim
  | ret u => exact w.elim
theorem ps_try_keep (stk : X.stack = X.env :: X.outer) (hf : X.env.frame = some X.env.locals) (hN : X.N.Nodup) (hi : X.N[i]? = some n) (hln : X.env.kindOf n = some .local) (hc : Names X x c)
    (hb : ∀ (W : WX) (pn : List (Addr × Obj)) (xe : Value → Shared → Prop), Takes (X.tr pn xe) W → PassesOwn (model X.prog X.w) X.A X.env xe → PSs (X.tr pn xe) body (tb W))
    (hex : X.ex = []) (hj : X.N[j]? = some y) (hy : Loc X.env.scope y) (hv : Vis X.env.scope n) (hd : (n == ("__debug__" : Str)) = false) (hcd : (n == ("__classdict__" : Str)) = false)
    (hsw : swapsWith (.Name n pn) (some (.Name y py)) spos.line X.env = pure false) (hfy : X.fn y = true ∨ X.env.scope.names.lookup y = some .local) :
    PS X (.Try body [.ExceptHandler (some (.Name x np)) (some n) [.Assign [.Name y py] (.Name n pn) spos] hpos] [] [] pos) (fun D σ H => tb (wKeep X.K c i j D.nx) D σ H) := by
  refine ⟨fun pins s σ H D I h => wpAny_Try_except ?_⟩
  have went := (hb (wKeep X.K c i j D.nx) (X.pn ++ pins) _ (fun u s' air => catch_keep (np := np) (hpos := hpos) I.ok stk hf hN hi hln hc hex hj hy hv hd hcd hsw hfy air) PassesOwn.looking).run [] s σ H D (I.toTry _) h
  refine wpAny_mono went (fun f s1 q => ?_) (fun _ _ z => z)
  cases f with
  | next =>
    obtain ⟨σ2, H2, V, w⟩ := q
    exact wpAny_execs_nil ⟨σ2, H2, V.ofTry I.ok, w⟩
  | brk => obtain ⟨σ2, H2, V, w⟩ := q; exact ⟨σ2, H2, V.ofTry I.ok, w⟩
  | cont => obtain ⟨σ2, H2, V, w⟩ := q; exact ⟨σ2, H2, V.ofTry I.ok, w⟩
  | ret u => obtain ⟨v, σ2, H2, V, r, w⟩ := q; exact ⟨v, σ2, H2, V.ofTry I.ok, r, w⟩
end
end L2
set_option Elab.async false
set_option linter.all false
set_option maxRecDepth 100000
set_option maxHeartbeats 1000000
namespace L2
open PySem PySem.Spec PyProof.Rows
/-- a caught error at a: of the class at C, its dict at dd holds v -/
def ErrAt (H : Hp) (a C : Addr) (v : V) : Prop := ∃ dd, H a = some (Dn.excO a C dd) ∧ H dd = some (.xd [("value", v)])
theorem ErrAt.inst {P : Program} {w : World} {H : Hp} {h : Heap} {a C : Addr} {v : V} (x : ErrAt H a C v) (ok : HOk P w H h) : ∃ oe od u, PySem.W.InstAt h a oe C (some od) ∧ PySem.W.lookIn "value" od = some (some u) ∧ RelV v u := by
  obtain ⟨dd, e1, e2⟩ := x
  obtain ⟨⟨oe, vs, ga, c1, c2, c3⟩, _⟩ := (show ObjOk P w H h a (.ext _) from ok a _ e1)
  obtain ⟨mA, ns, rl⟩ := (show ObjOk P w H h dd (.xd [("value", v)]) from ok dd _ e2)
  obtain ⟨od, go, look⟩ := lookIn_ns ns
  obtain ⟨u, hu, ru⟩ := RelO.some_of (v := v) (o := mA "value") (by
    have l : List.lookup ("value" : Str) ([(("value" : Str), v)] : List (Str × V)) = some v := by simp [List.lookup]
    rw [← l]; exact rl "value")
  exact ⟨oe, od, u, ⟨ga, c1, by unfold PySem.W.notCls; rw [c3] <;> rfl, by rw [c2]; exact go⟩, by rw [look, hu], ru⟩
/-- e.value of a caught error -/
def tErrV (K : PySem.W.Frag) (te : TE) : TE := fun σ H Q => te σ H fun x H1 => ∃ (a C : Addr) (v : V), x = .ref a ∧ ErrAt H1 a C v ∧ XfC K C ∧ PySem.W.findIn K (.ref C) "value" = some none ∧ Q v H1
theorem pe_errV {X : Cx} {e : Expr} {te : TE} {pos : Pos} (he : PE X e te) (hb : attributeBase e "value" X.env (eval e X.env) = eval e X.env := by rfl) : PE X (.Attribute e "value" pos) (tErrV X.K te) := by
  refine ⟨fun pins s σ H Q I h => attr_of hb (thn (he.run pins s σ H _ I h) fun u s1 q => ?_)⟩
  obtain ⟨x, H1, I1, rx, a, C, v, ex, er, T, no, q⟩ := q
  subst ex
  cases (show u = Value.ref a from rx)
  obtain ⟨oe, od, u, J, look, ru⟩ := er.inst I1.hok
  exact HandSPX.exc_get I1.kIn J T.ga T.gg T.exC (PySem.W.findObj_own T.hdC no rfl look) (handed_of ru) ⟨v, H1, I1.tok _, ru, q⟩
/-- isinstance(e, c) of a caught error, c an own class -/
def rErrIs (K : PySem.W.Frag) : List V → Hp → VK → Prop := fun xs H Q => ∃ (a C D : Addr) (v : V) (b : Bool), xs = [.ref a, .ref D] ∧ ErrAt H a C v ∧ ExcC K C ∧ PySem.W.kitOne K (.ref C) (.ref D) = some b ∧ Q (.bl b) H
theorem call_errIs {X : Cx} : CallR X (.builtin "isinstance") (rErrIs X.K) := by
  intro pins s σ H xs us Q I r h
  obtain ⟨a, C, D, v, b, rfl, er, T, one, q⟩ := h
  obtain ⟨u1, u2, rfl, r1, r2⟩ := vals2 r
  cases (show u1 = Value.ref a from r1)
  cases (show u2 = Value.ref D from r2)
  obtain ⟨oe, od, u, J, _, _⟩ := er.inst I.hok
  have hcl : (PySem.W.clsIn X.K C).isSome = true := by
    obtain ⟨cd, hc, _⟩ := PySem.W.any_some T.hd
    rw [hc]; rfl
  exact PySem.W.kia_one (PySem.W.kitx_exc hcl T.hg T.hk T.hs T.ha T.hn T.ht T.hm) I.kIn J one (fun z => nomatch z) fun tk => ⟨.bl b, H, I.tok tk, rfl, q⟩
end L2
namespace Dn
open PySem PySem.Spec PyProof.Rows L2
open PySem.W (Frag)
variable [Tb]
def sTryK (cls : List Str) (i j : Nat) (b : Fs) : Fs := fun env => (b env).bind fun p => match p.1 with
  | .ex c d => if c ∈ cls ∧ i < p.2.length then some (.nx, ((p.2.set i .no).set j (.val (encE c d))).set i .no) else none
  | _ => some p
theorem nt_exc {a C dd : Addr} : NT (excO a C dd) := fun ps z => by
  have z' : HO.ext _ = HO.tbl ps := z
  cases z'
section
variable {X : Cx} {xc : XC} {n y base : Str} {C : Addr} {cls : List Str} {i j : Nat} {body : List Stmt} {fb : Fs} {np py pn pos spos hpos : Pos}
theorem ds_tryK (cls : List Str) (i j : Nat) (hN : X.N.Nodup) (hc : Names X base (.ref C)) (hca : xc.ca = Tb.ca) (hm : ∀ c ∈ cls, PySem.W.exmOne X.K (.ref (Tb.ca c)) (.ref C) = some true)
    (hb : ∀ (W : WX) (pn : List (Addr × Obj)) (xe : Value → Shared → Prop), Takes (X.tr pn xe) W → PassesOwn (model X.prog X.w) X.A X.env xe → PSs (X.tr pn xe) body (Gs X.K ⟨W, xc.ca, xc.nl⟩ fb))
    (hs : X.stack = X.env :: X.outer := by rfl) (hf : X.env.frame = some X.env.locals := by rfl) (hi : X.N[i]? = some n := by rfl) (hln : X.env.kindOf n = some .local := by rfl) (hex : X.ex = [] := by rfl) (hj : X.N[j]? = some y := by rfl)
    (hy : Loc X.env.scope y := by first | exact Or.inl rfl | exact Or.inr rfl) (hv : Vis X.env.scope n := by first | exact Or.inl rfl | exact Or.inr (Or.inl rfl) | exact Or.inr (Or.inr rfl)) (hd : (n == ("__debug__" : Str)) = false := by decide) (hcd : (n == ("__classdict__" : Str)) = false := by decide)
    (hsw : swapsWith (.Name n pn) (some (.Name y py)) spos.line X.env = pure false := by rfl) (hfy : X.fn y = true ∨ X.env.scope.names.lookup y = some .local := by first | exact .inl rfl | exact .inr rfl | assumption) :
    PS X (.Try body [.ExceptHandler (some (.Name base np)) (some n) [.Assign [.Name y py] (.Name n pn) spos] hpos] [] [] pos) (Gs X.K xc (sTryK cls i j fb)) :=
  PS.imp (ps_try_keep (tb := fun W => Gs X.K ⟨W, xc.ca, xc.nl⟩ fb) hs hf hN hi hln hc hb hex hj hy hv hd hcd hsw hfy) fun D σ H ⟨c, F, env, fl, env', R, e0, kk⟩ => by
  unfold sTryK at e0
  simp only [Option.bind_eq_some_iff] at e0
  obtain ⟨⟨f1, n1⟩, h1, h2⟩ := e0
  refine ⟨c, F, env, f1, n1, R, h1, ?_⟩
  cases f1 with
  | nx => cases h2; exact kk
  | rt d => cases h2; exact kk
  | rl d => cases h2; exact kk
  | bk => cases h2; exact kk
  | ct => cases h2; exact kk
  | tr t => cases h2; exact kk
  | ex c' d =>
    dsimp only at h2
    split at h2
    · rename_i hcl
      cases h2
      intro σ' F' H' v dd s R' hdd hv _
      have eca : xc.ca c' = Tb.ca c' := by rw [hca]
      refine ⟨by show PySem.W.exmOne X.K (.ref (xc.ca c')) _ = _; rw [eca]; exact hm c' hcl.1, fun a ha => ?_⟩
      obtain ⟨s1, R1⟩ := R'.laid (o := .xd [("value", v)]) hdd
      obtain ⟨s2, R2⟩ := R1.laid (o := excO a (Tb.ca c') dd) ha nt_exc
      have ne : dd ≠ a := ne_of_none (upd_same (H := H') (a := dd)) ha
      have hval : Dp X.K (upd (upd F' dd (.xd [("value", v)])) a (excO a (Tb.ca c') dd)) (.ref a) (encE c' d) := .exc upd_same (by rw [upd_ne ne]; exact upd_same) (hv.up (s1.trans s2))
      have R3 := (((R2.junk i (some (.ref a))).put hval j).junk i none)
      have := kk _ _ _ (s.trans (s1.trans s2)) R3
      show D.nx _ (upd (upd H' dd (.xd [("value", v)])) a (excV a (.ref (xc.ca c')) (some dd)))
      rw [eca]
      exact this
    · cases h2
/-- e.value -/
def eVal (cls : List Str) (f : Fe) : Fe := fun env => (f env).bind fun p => match p.1 with
  | .dict [(.none, .str cl), (.none, d)] => if cl ∈ cls then some (d, p.2) else none
  | _ => none
theorem kv_key {K : Frag} {F : Hp} {ks : List (Key × V)} {d0 v0 : PyData} {kvs : List (PyData × PyData)} (h : DpKv K F ks ((d0, v0) :: kvs)) : d0 ≠ .none := by
  intro e
  cases h with
  | @cons k _ _ _ _ _ _ => cases k <;> cases e
theorem dp_err {K : Frag} {F : Hp} {v : V} {cl : Str} {d : PyData} (h : Dp K F v (encE cl d)) : ∃ a u, v = .ref a ∧ ErrAt F a (Tb.ca cl) u ∧ Dp K F u d := by
  cases h with
  | @dct a _ ks _ h1 h2 => exact absurd rfl (kv_key h2)
  | @exc a dd u _ _ h1 h2 h3 => exact ⟨a, u, rfl, ⟨dd, h1, h2⟩, h3⟩
theorem ErrAt.up {F H : Hp} {a C : Addr} {v : V} (h : ErrAt F a C v) (s : Same F H) : ErrAt H a C v := by
  obtain ⟨dd, h1, h2⟩ := h
  exact ⟨dd, s _ _ h1, s _ _ h2⟩
theorem de_val {e : Expr} {f : Fe} (cls : List Str) (hX : ∀ cl ∈ cls, XfC X.K (Tb.ca cl) ∧ PySem.W.findIn X.K (.ref (Tb.ca cl)) "value" = some none) (he : PE X e (Ge X.K f)) (hb : attributeBase e "value" X.env (eval e X.env) = eval e X.env := by rfl) :
    PE X (.Attribute e "value" pos) (Ge X.K (eVal cls f)) := PE.imp (pe_errV he hb) fun σ H Q ⟨c, F, env, d, env', R, e, k⟩ => by
  unfold eVal at e
  simp only [Option.bind_eq_some_iff] at e
  obtain ⟨⟨d1, n1⟩, h1, h2⟩ := e
  dsimp only at h2
  split at h2
  · split at h2
    · rename_i cl d2 hcl
      cases h2
      refine ⟨c, F, env, _, _, R, h1, fun v F' H' s R' hv => ?_⟩
      obtain ⟨a, u, rfl, er, hu⟩ := dp_err hv
      exact ⟨a, _, u, rfl, ErrAt.up er R'.sub, (hX cl hcl).1, (hX cl hcl).2, k u F' H' s R' hu⟩
    · cases h2
  · cases h2
omit [Tb] in
theorem lookup_mem {cl : Str} {b : Bool} : ∀ {tbl : List (Str × Bool)}, tbl.lookup cl = some b → (cl, b) ∈ tbl
  | [], h => by cases h
  | (z1, z2) :: zs, h => by
    rw [List.lookup_cons] at h
    split at h
    · rename_i hz
      cases h
      rw [beq_iff_eq] at hz
      rw [hz]
      exact List.mem_cons_self
    · exact List.mem_cons_of_mem _ (lookup_mem h)
/-- isinstance(e, C) of None or a caught error -/
def eIsC (tbl : List (Str × Bool)) (f : Fe) : Fe := fun env => (f env).bind fun p => match p.1 with
  | .none => some (.bool false, p.2)
  | .dict [(.none, .str cl), (.none, _)] => (tbl.lookup cl).map fun b => (.bool b, p.2)
  | _ => none
theorem de_isC {e : Expr} {f : Fe} {D : Addr} {x : Str} {p q : Pos} (tbl : List (Str × Bool)) (hX : ∀ cl b, (cl, b) ∈ tbl → ExcC X.K (Tb.ca cl) ∧ PySem.W.kitOne X.K (.ref (Tb.ca cl)) (.ref D) = some b) (hN0 : PySem.W.kitOne X.K (.type "NoneType") (.ref D) = some false)
    (hg : Gl X "isinstance") (hm : X.mg "isinstance" = none) (hgx : Gl X x) (hmx : X.mg x = some (.ref D)) (he : PE X e (Ge X.K f)) (hdx : (x == ("__debug__" : Str)) = false := by decide)
    (he0 : starEach (Expr.Name x q :: []) X.env = (false, eval (Expr.Name x q) X.env) :: starEach [] X.env := by rfl)
    (he1 : starEach (e :: Expr.Name x q :: []) X.env = (false, eval e X.env) :: starEach [Expr.Name x q] X.env := by rfl) (hpl : (backTo pos (starEach [Expr.Name x q] X.env)).any (·.1) = false := by rfl) :
    PE X (.Call (.Name "isinstance" p) [e, .Name x q] [] pos) (Ge X.K (eIsC tbl f)) :=
  PE.imp (pe_callB (CallR.or call_isi call_errIs) hg hm (by decide +kernel) (pa_cons he (pa_cons (pe_glob (v := .ref D) hgx hmx rfl hdx) pa_nil he0) he1) (by decide) (by decide) he1 hpl) fun σ H Q h => by
  obtain ⟨c, F, env, d, env', R, e, k⟩ := h
  unfold eIsC at e
  simp only [Option.bind_eq_some_iff] at e
  obtain ⟨⟨d1, n1⟩, h1, h2⟩ := e
  dsimp only at h2
  split at h2
  · cases h2
    refine ⟨c, F, env, _, _, R, h1, fun v F' H' s R' hv => ?_⟩
    cases hv
    exact .inl ⟨.non, .ref D, .type "NoneType", .ref D, false, rfl, .own D, .base .non, hN0, k _ F' H' s R' (.bl false)⟩
  · rename_i d2 cl hh
    simp only [Option.map_eq_some_iff] at h2
    obtain ⟨b, hb, h3⟩ := h2
    cases h3
    refine ⟨c, F, env, _, _, R, h1, fun v F' H' s R' hv => ?_⟩
    obtain ⟨a, u, rfl, er, hu⟩ := dp_err hv
    have hmem : (cl, b) ∈ tbl := lookup_mem hb
    obtain ⟨q1, q2⟩ := hX cl b hmem
    exact .inr ⟨a, _, D, u, b, rfl, ErrAt.up er R'.sub, q1, q2, k _ F' H' s R' (.bl b)⟩
  · cases h2
end
end Dn
set_option Elab.async false
set_option linter.all false
set_option maxRecDepth 100000
set_option maxHeartbeats 1000000
namespace Dn
open PySem PySem.Spec PyProof.Rows L2
open PySem.W (Frag)
variable [Tb]
def flatV : PyData → Bool
  | .none => true
  | .bool _ => true
  | .int _ => true
  | .str _ => true
  | _ => false
mutual
/-- tuples of flat values and of dicts of such -/
def tdOk : PyData → Bool
  | .none => true
  | .bool _ => true
  | .int _ => true
  | .str _ => true
  | .list _ => false
  | .tuple ds => tdAll ds
  | .dict kvs => kvs.all fun p => flatV p.2 && !(isNone p.1)
def tdAll : List PyData → Bool
  | [] => true
  | d :: ds => tdOk d && tdAll ds
end
/-- no dict but one of flat values, or such within tuples, and no error -/
def repOk0 (d : PyData) : Bool := SeqAt.shaped d || tdOk d
omit [Tb] in
theorem repOk0_sh {d : PyData} (h : SeqAt.shaped d = true) : repOk0 d = true := by unfold repOk0; rw [h]; rfl
omit [Tb] in
theorem repOk0_td {d : PyData} (h : tdOk d = true) : repOk0 d = true := by unfold repOk0; rw [h, Bool.or_true]
def repOk (d : PyData) : Bool := repOk0 d && d.showable && decide (d.depth ≤ 64) && decide (d.shown.length ≤ sizeLine)
theorem flat_reads {K : Frag} {F : Hp} {h : Heap} {v : V} {d : PyData} {u : Value} (hd : Dp K F v d) (hf : flatV d = true) (r : RelV v u) : Reads h u d [] := by
  cases hd with
  | non => cases (show u = Value.none from r); exact .none
  | bl b => cases (show u = Value.bool b from r); exact .bool b
  | int i => obtain ⟨t, e⟩ := (show ∃ t, u = Value.int i t from r); cases e; exact .int i t
  | str x => obtain ⟨t, e⟩ := (show ∃ t, u = Value.str x t from r); cases e; exact .str x t
  | lst _ _ => cases hf
  | tup _ _ => cases hf
  | dct _ _ => cases hf
  | exc _ _ _ => cases hf
  | rng _ => cases hf
  | nw _ => cases hf
theorem kv_reads {P : Program} {w : World} {K : Frag} {F : Hp} {h : Heap} : ∀ {es : List DictEntry} {vs : List (Key × Value)} {ks : List (Key × V)} {kvs : List (PyData × PyData)}, Pairs (mixKind P w) es vs → KV ks vs → DpKv K F ks kvs → (∀ p ∈ kvs, flatV p.2 = true) → ReadsAll h (es.map (·.key)) (kvs.map (·.1)) [] ∧ ReadsAll h (es.map (·.val)) (kvs.map (·.2)) []
  | [], _, _, _, hp, hk, hd, _ => by
    cases hp
    cases hk
    cases hd
    exact ⟨.nil, .nil⟩
  | e :: es, _, _, _, hp, hk, hd, hf => by
    cases hp with
    | cons p1 p1' p2 =>
      cases hk with
      | cons k1 k2 =>
        cases hd with
        | @cons k v _ d _ d1 d2 =>
          obtain ⟨q1, q2⟩ := kv_reads p2 k2 d2 fun p hp => hf p (List.mem_cons_of_mem _ hp)
          obtain ⟨e1, e2⟩ := k1
          have hv := flat_reads (h := h) d1 (hf _ List.mem_cons_self) e2
          have key : Reads h e.key (kD k) [] := by
            have e1' : k = _ := e1
            have p1'' : keyIs _ e.key = true := p1
            rw [← e1'] at p1''
            rcases keyIs_shape p1'' with ⟨i, t, rfl, z⟩ | ⟨x, t, rfl, z⟩
            · rw [z]; exact .int i t
            · rw [z]; exact .str x t
          refine ⟨.cons (as := []) (bs := []) key q1, .cons (as := []) (bs := []) ?_ q2⟩
          show Reads h e.val d []
          rw [p1']
          exact hv
/-- what repr shows of data -/
def rRepS (K : Frag) : List V → Hp → VK → Prop := fun xs H Q => ∃ x d, xs = [x] ∧ Dp K H x d ∧ repOk d = true ∧ Q (.str d.shown) H
mutual
theorem td_reads {X : Cx} {pins : List (Addr × Obj)} {σ : L2.St} {H : Hp} {s : Shared} (I : Inv X pins σ H s) : ∀ (d : PyData) (v : V) (u : Value), Dp X.K H v d → tdOk d = true → RelV v u → ∃ as, Reads s.heap u d as ∧ sysModules ∉ as
  | .none, _, _, h, _, r => ⟨_, flat_reads h rfl r, by simp⟩
  | .bool b, _, _, h, _, r => ⟨_, flat_reads h rfl r, by simp⟩
  | .int i, _, _, h, _, r => ⟨_, flat_reads h rfl r, by simp⟩
  | .str x, _, _, h, _, r => ⟨_, flat_reads h rfl r, by simp⟩
  | .list ds, _, _, _, ok, _ => by simp only [tdOk] at ok; cases ok
  | .tuple ds, _, _, h, ok, r => by
    simp only [tdOk] at ok
    cases h with
    | tup hs ha =>
      cases r
      obtain ⟨its, rv, ⟨o, ho, hc, n, hd⟩, _⟩ := I.tuple hs
      obtain ⟨as, hr, hn⟩ := td_readsAll I ds _ its ha ok rv
      exact ⟨_, Reads.tuple ho hc hd hr, hn⟩
  | .dict kvs, v, u, h, ok, r => by
    simp only [tdOk] at ok
    have all : ∀ p ∈ kvs, flatV p.2 = true ∧ isNone p.1 = false := fun p hp => by
      have := List.all_eq_true.mp ok p hp
      simpa [Bool.and_eq_true] using this
    cases h with
    | @dct a _ ks _ h1 h2 =>
      cases (show u = Value.ref a from r)
      obtain ⟨_, ns, vs, kv, o, es, ep, go, ex, dt, _, pr, _⟩ := (show ObjOk X.prog X.w H s.heap a (.dK ks) from (I.hok a _ h1).2)
      obtain ⟨q1, q2⟩ := kv_reads (h := s.heap) pr kv h2 fun p hp => (all p hp).1
      refine ⟨_, .dict go ex.1 dt q1 q2, fun z => ?_⟩
      have z' : sysModules ∈ [a] := by simpa using z
      have e := List.mem_singleton.mp z'
      rw [← e] at ns
      simp at ns
    | exc _ _ _ => exact absurd (all _ List.mem_cons_self).2 (by simp)
    | rng _ => exact absurd (all _ List.mem_cons_self).2 (by simp)
    | nw _ => exact absurd (all _ List.mem_cons_self).2 (by simp)
theorem td_readsAll {X : Cx} {pins : List (Addr × Obj)} {σ : L2.St} {H : Hp} {s : Shared} (I : Inv X pins σ H s) : ∀ (ds : List PyData) (vs : List V) (us : List Value), DpAll X.K H vs ds → tdAll ds = true → Vals vs us → ∃ as, ReadsAll s.heap us ds as ∧ sysModules ∉ as
  | [], _, _, h, _, r => by
    cases h
    cases r
    exact ⟨_, ReadsAll.nil, by simp⟩
  | d :: ds, _, _, h, ok, r => by
    simp only [tdAll, Bool.and_eq_true] at ok
    cases h with
    | cons h1 h2 =>
      cases r with
      | cons r1 r2 =>
        obtain ⟨as, q1, n1⟩ := td_reads I d _ _ h1 ok.1 r1
        obtain ⟨bs, q2, n2⟩ := td_readsAll I ds _ _ h2 ok.2 r2
        exact ⟨_, ReadsAll.cons q1 q2, fun z => (List.mem_append.mp z).elim n1 n2⟩
end
theorem rep_reads {X : Cx} {pins : List (Addr × Obj)} {σ : L2.St} {H : Hp} {s : Shared} {v : V} {d : PyData} {u : Value} (I : Inv X pins σ H s) (h : Dp X.K H v d) (ok : repOk0 d = true) (r : RelV v u) : ∃ as, Reads s.heap u d as ∧ (d.hasDict = true → sysModules ∉ as) := by
  by_cases hs : SeqAt.shaped d = true
  · obtain ⟨as, hr⟩ := L2.Dp.reads I d v u (h.sh hs) r
    exact ⟨as, hr, fun z => by
      rw [PyData.hasDict_of_canLay d (SeqAt.canLay_of_shaped hs)] at z
      cases z⟩
  · have ok' : tdOk d = true := by
      unfold repOk0 at ok
      rw [Bool.or_eq_true] at ok
      exact ok.resolve_left hs
    obtain ⟨as, hr, hn⟩ := td_reads I d v u h ok' r
    exact ⟨as, hr, fun _ => hn⟩
theorem call_rep {X : Cx} (hg : X.A.guards = some []) (hu : X.A.units + 80 < cLine) : CallR X (.builtin "repr") (rRepS X.K) := by
  intro pins s σ H xs us Q I rs h
  obtain ⟨x, d, rfl, hd, ok, q⟩ := h
  obtain ⟨u, rfl, r⟩ := vals1 rs
  unfold repOk at ok
  simp only [Bool.and_eq_true, decide_eq_true_eq] at ok
  obtain ⟨⟨⟨o1, o2⟩, o3⟩, o4⟩ := ok
  obtain ⟨as, hr, hsm⟩ := rep_reads I hd o1 r
  cases u with
  | ref a => exact repr_of_reads' hr o2 hsm hg (by omega) (fun _ _ e => e) (fun h' u tk k => ⟨.str d.shown, H, I.kept (h' := h') (t' := tk) k, ⟨u, rfl⟩, q⟩) o4
  | none =>
    cases hr
    exact PySem.P.repr_of_none ⟨.str _, H, I.tok _, ⟨_, rfl⟩, q⟩
  | bool b =>
    cases hr
    exact PySem.P.repr_of_bool ⟨.str _, H, I.tok _, ⟨_, rfl⟩, q⟩
  | int i t =>
    cases hr
    exact PySem.P.repr_of_int (by simpa [PyData.showable] using o2) ⟨.str _, H, I.tok _, ⟨_, rfl⟩, q⟩
  | str y t =>
    cases hr
    exact PySem.P.repr_of_str ⟨.str _, H, I.tok _, ⟨_, rfl⟩, q⟩ (by simpa only [PyData.shown] using o4)
  | _ => cases hr
/-- repr(a) == repr(b) -/
@[simp] def gRepEq (d e : PyData) : Option PyData := if repOk d && repOk e then some (.bool (decide (d.shown = e.shown))) else none
section
variable {X : Cx} {a b : Expr} {fa fb : Fe} {p1 p2 c1 c2 pos : Pos}
theorem de_repEq (hg : Gl X "repr") (hm : X.mg "repr" = none) (gd : X.A.guards = some []) (hu : X.A.units + 80 < cLine) (ha : PE X a (Ge X.K fa)) (hb : PE X b (Ge X.K fb))
    (sa : starEach (a :: []) X.env = (false, eval a X.env) :: starEach [] X.env := by rfl) (sb : starEach (b :: []) X.env = (false, eval b X.env) :: starEach [] X.env := by rfl)
    (pl1 : (backTo c1 (starEach [] X.env)).any (·.1) = false := by rfl) (pl2 : (backTo c2 (starEach [] X.env)).any (·.1) = false := by rfl) :
    PE X (.Compare (.Call (.Name "repr" p1) [a] [] c1) [.Eq] [.Call (.Name "repr" p2) [b] [] c2] pos) (Ge X.K (e2 gRepEq fa fb)) :=
  PE.imp (pe_cmpR op_eq (pe_callB (call_rep gd hu) hg hm (by decide +kernel) (pa_cons ha pa_nil sa) (by decide) (by decide) sa pl1) (pe_callB (call_rep gd hu) hg hm (by decide +kernel) (pa_cons hb pa_nil sb) (by decide) (by decide) sb pl2) (nomark _)) fun σ H Q h => by
  obtain ⟨c, F, env, d, env', R, e, k⟩ := h
  unfold e2 gRepEq at e
  simp only [Option.bind_eq_some_iff, Option.map_eq_some_iff] at e
  obtain ⟨⟨d1, n1⟩, h1, ⟨d2, n2⟩, h2, z, h3, h4⟩ := e
  obtain ⟨rfl, rfl⟩ := Prod.mk.inj h4
  dsimp only at h3
  split at h3
  · rename_i ok
    rw [Bool.and_eq_true] at ok
    cases h3
    refine ⟨c, F, env, d1, n1, R, h1, fun v F1 H1 s1 R1 hv => ⟨v, d1, rfl, hv.up R1.sub, ok.1, ?_⟩⟩
    refine ⟨c, F1, n1, d2, n2, R1, h2, fun v2 F2 H2 s2 R2 hv2 => ⟨v2, d2, rfl, hv2.up R2.sub, ok.2, rfl, ?_⟩⟩
    have e : decide (V.str d1.shown = V.str d2.shown) = decide (d1.shown = d2.shown) := by simp
    rw [e]
    exact k _ F2 H2 (s1.trans s2) R2 (.bl _)
  · cases h3
end
end Dn
set_option Elab.async false
set_option linter.all false
set_option maxRecDepth 100000
namespace Dn
open PySem PySem.Spec PyProof.Rows L2
open PySem.W (Frag)
variable [Tb]
/-- the parameters' values: p by place, q by name, which of them is each parameter's -/
def kG {α : Type} (p q : Nat) (pm : List Nat) (d : α) (us ws : List α) : List α := if us.length = p ∧ ws.length = q then pm.map fun i => (us ++ ws).getD i d else []
theorem vals_getD {vs : List V} {us : List Value} (r : Vals vs us) (i : Nat) : RelV (vs.getD i .non) (us.getD i .none) := by
  induction r generalizing i with
  | nil => exact rfl
  | cons h _ ih =>
    cases i with
    | zero => exact h
    | succ i => exact ih i
theorem vals_map {vs : List V} {us : List Value} (r : Vals vs us) : ∀ pm : List Nat, Vals (pm.map fun i => vs.getD i .non) (pm.map fun i => us.getD i .none)
  | [] => .nil
  | i :: pm => .cons (vals_getD r i) (vals_map r pm)
theorem kbinds_of {K : Frag} {fd : FuncData} {ps ks : List Str} {p q : Nat} {pm : List Nat} (h : ∀ (s : Shared) (us ws : List Value), K.In s.heap → us.length = p → ws.length = q → BindsTo s fd ⟨us, ks.zip ws⟩ (ps.zip (pm.map fun i => (us ++ ws).getD i .none))) (hps : 0 < ps.length) :
    KBinds K fd ps ks (kG p q pm .none) (kG p q pm .non) := by
  refine ⟨fun s us ws X hl => ?_, fun {vs us zs ws} r1 r2 => ?_⟩
  · unfold kG at hl ⊢
    by_cases hc : us.length = p ∧ ws.length = q
    · rw [if_pos hc]
      exact h s us ws X hc.1 hc.2
    · rw [if_neg hc] at hl
      simp at hl
      omega
  · unfold kG
    rw [r1.length, r2.length]
    by_cases hc : us.length = p ∧ ws.length = q
    · rw [if_pos hc, if_pos hc]
      exact vals_map (r1.append r2) pm
    · rw [if_neg hc, if_neg hc]
      exact .nil
theorem dp_getD {K : Frag} {F : Hp} {vs : List V} {ds : List PyData} (h : DpAll K F vs ds) (i : Nat) : Dp K F (vs.getD i .non) (ds.getD i .none) := by
  by_cases hi : i < ds.length
  · obtain ⟨v, h1, h2⟩ := h.at (List.getElem?_eq_getElem hi)
    rw [List.getD_eq_getElem?_getD, List.getD_eq_getElem?_getD, h1, List.getElem?_eq_getElem hi]
    exact h2
  · rw [List.getD_eq_getElem?_getD, List.getD_eq_getElem?_getD, List.getElem?_eq_none (by rw [h.len]; omega), List.getElem?_eq_none (by omega)]
    exact .non
theorem dp_map {K : Frag} {F : Hp} {vs : List V} {ds : List PyData} (h : DpAll K F vs ds) : ∀ pm : List Nat, DpAll K F (pm.map fun i => vs.getD i .non) (pm.map fun i => ds.getD i .none)
  | [] => .nil
  | i :: pm => .cons (dp_getD h i) (dp_map h pm)
theorem dp_kG {K : Frag} {F : Hp} {p q : Nat} {pm : List Nat} {vs ws : List V} {ds es : List PyData} (h : DpAll K F vs ds) (h2 : DpAll K F ws es) : DpAll K F (kG p q pm .non vs ws) (kG p q pm .none ds es) := by
  unfold kG
  rw [h.len, h2.len]
  by_cases hc : ds.length = p ∧ es.length = q
  · rw [if_pos hc, if_pos hc]
    exact dp_map (h.app h2) pm
  · rw [if_neg hc, if_neg hc]
    exact .nil
/-- the arguments, put in the parameters' order -/
def lK (p q : Nat) (pm : List Nat) (fl fk : Fl) : Fl := fun env => (fl env).bind fun a => (fk a.2).map fun b => (kG p q pm .none a.1 b.1, b.2)
theorem _root_.L2.PK.imp {X : Cx} {es : List Keyword} {t u : TA} (h : PK X es t) (w : ∀ σ H Q, u σ H Q → t σ H Q) : PK X es u := ⟨fun pos pins s σ H Q I q => h.run pos pins s σ H Q I (w σ H Q q)⟩
section
variable {X : Cx} {xc : XC} {CX : CXT} {k n p q : Nat} {pm : List Nat} {f : Addr} {fd : FuncData} {ps ks : List Str} {sp : Sp} {E : XK} {x : Str} {np pos kpos : Pos} {e : Expr} {es : List Expr} {kws : List Keyword} {t tk : TA} {fe : Fe} {fl fk : Fl} {nm : Option Str} {g : List PyData → Option PyData} {gx : List PyData → Option Xo}
theorem dk_nil : PK X [] (Ga X.K lNil) := PK.imp pk_nil fun σ H Q ⟨c, F, env, d, env', R, e, k⟩ => by
  cases e
  exact k [] F H (Same.refl F) R .nil
theorem dk_cons (ha : PE X e (Ge X.K fe)) (hr : PK X kws (Ga X.K fl)) : PK X (⟨nm, e, kpos⟩ :: kws) (Ga X.K (lCons fe fl)) := PK.imp (pk_cons ha hr) fun σ H Q h => by
  obtain ⟨c, F, env, d, env', R, e, k⟩ := h
  unfold lCons at e
  simp only [Option.bind_eq_some_iff, Option.map_eq_some_iff] at e
  obtain ⟨⟨d1, n1⟩, h1, ⟨d2, n2⟩, h2, h4⟩ := e
  obtain ⟨rfl, rfl⟩ := Prod.mk.inj h4
  refine ⟨c, F, env, d1, n1, R, h1, fun v1 F1 H1 s1 R1 p1 => ⟨c, F1, n1, d2, n2, R1, h2, fun v2 F2 H2 s2 R2 p2 => ?_⟩⟩
  exact k (v1 :: v2) F2 H2 (s1.trans s2) R2 (.cons (p1.up s2) p2)
def tCallKS (sp : Sp) (gV : List V → List V → List V) (E : L2.St → XK) (t tk : TA) : TE := fun σ H Q => t σ H fun vs H1 => tk σ H1 fun zs H2 => sp (gV vs zs) H2 Q (E σ)
theorem run_fnkS {E : L2.St → XK} {g : List Value → List Value → List Value} {gV : List V → List V → List V} {pins : List (Addr × Obj)} {σ : L2.St} {H : Hp} {s : Shared} {Q : VK} {us ws : List Value} {vs zs : List V} (F : FnOk X.prog X.w X.K X.mg X.base CX k f fd ps sp) (hr : Room k X.A) (hb : KBinds X.K fd ps ks g gV) (hx : PassesAt CX X σ (E σ))
    (I : Inv X pins σ H s) (r : Vals vs us) (rz : Vals zs ws) (h : sp (gV vs zs) H Q (E σ)) : wpAny (model X.prog X.w) X.A (call (.ref f) us (ks.zip ws)) (EP X pins σ Q) X.xe s := by
  exact run_words F hr hb I (fun e s' c => hx pins H s e s' I c) r rz h
theorem pe_callKS0 {E : L2.St → XK} {g : List Value → List Value → List Value} {gV : List V → List V → List V} (F : FnOk X.prog X.w X.K X.mg X.base CX k f fd ps sp) (hr : Room k X.A) (hg : Gl X x) (hm : X.mg x = some (.ref f)) (hk : PySem.W.keepIn X.K (.ref f) = true) (hb : KBinds X.K fd ps ks g gV) (hx : ∀ σ, PassesAt CX X σ (E σ))
    (hkw : PK X kws tk) (hall : (backToKw pos (keywordEach kws X.env)).all (·.1.isSome) = true := by rfl) (hks : (backToKw pos (keywordEach kws X.env)).filterMap (·.1) = ks := by rfl)
    (hdb : (x == ("__debug__" : Str)) = false := by decide) (hpl : ((backTo pos (starEach [] X.env)).any (·.1) || (backToKw pos (keywordEach kws X.env)).any (·.1.isNone)) = false := by rfl) :
    PE X (.Call (.Name x np) [] kws pos) (tCallKS sp gV E tNil tk) := by
  refine ⟨fun pins s σ H Q I h => ?_⟩
  refine wpAny_Call_Name_kw (ld_glob I hg hm ?_ hdb)
  refine PySem.W.callWith_KW0 (h₀ := X.base) I.ok.mod.kin hk hall (thn (hkw.run pos pins s σ H _ I h) fun ws s2 ⟨zs, H2, I2, rz, q2⟩ => ⟨I2.kIn, ?_⟩) hpl
  rw [hks]
  exact run_fnkS (us := []) (vs := []) F hr hb (hx σ) I2 .nil rz q2
end
end Dn
set_option Elab.async false
set_option linter.all false
set_option maxRecDepth 100000
namespace Dn
open PySem PySem.Spec PyProof.Rows L2
variable [Tb]
@[simp] def gBits : PyData → Option PyData
  | .int i => some (.int (Builtin.Int.intBits i : Nat))
  | _ => none
variable {a : Fe} {f g : Fs} {l m : Fl} {x y : Sl} {e : En} {d d' : PyData} {i j p q n : Nat} {pm : List Nat} {fx : FeX}
def kK2 (p q : Nat) (pm : List Nat) (ds : List PyData) (b : List PyData × En) : List PyData × En := (kG p q pm .none ds b.1, b.2)
def kK (p q : Nat) (pm : List Nat) (m : Fl) (a : List PyData × En) : Option (List PyData × En) := (m a.2).map (kK2 p q pm a.1)
@[simp] theorem ev_K : lK p q pm l m (x :: e) = (l (x :: e)).bind (kK p q pm m) := rfl
@[simp] theorem kK_e {ds : List PyData} : kK p q pm m (ds, e) = (m e).map (kK2 p q pm ds) := rfl
@[simp] theorem kK2_e {ds es : List PyData} : kK2 p q pm ds (es, e) = (kG p q pm .none ds es, e) := rfl
def kXA (g : List PyData → Option Xo) (p : List PyData × En) : Option (Xo × En) := (g p.1).map (kP p.2)
@[simp] theorem ev_xA {g : List PyData → Option Xo} : xA g l (x :: e) = (l (x :: e)).bind (kXA g) := rfl
@[simp] theorem kXA_e {g : List PyData → Option Xo} {ds : List PyData} : kXA g (ds, e) = (g ds).map (kP e) := rfl
def kXT (k : PyData) (p : Xo × En) : Xo × En := (match p.1 with
  | .ok d => .ok (.tuple [k, d])
  | .ex cl d => .ex cl d, p.2)
@[simp] theorem ev_xT {k : PyData} : xTup k fx (x :: e) = (fx (x :: e)).map (kXT k) := rfl
@[simp] theorem kXT_ok {k : PyData} : kXT k (.ok d, e) = (.ok (.tuple [k, d]), e) := rfl
@[simp] theorem kXT_ex {k : PyData} {cl : Str} : kXT k (.ex cl d, e) = (.ex cl d, e) := rfl
def kSX (i : Nat) (p : Xo × En) : Flw × En := match p.1 with
  | .ok d => (.nx, p.2.set i (.val d))
  | .ex cl d => (.ex cl d, p.2)
@[simp] theorem ev_setX : sSetX fx i (x :: e) = (fx (x :: e)).map (kSX i) := rfl
@[simp] theorem kSX_ok : kSX i (.ok d, e) = (.nx, e.set i (.val d)) := rfl
@[simp] theorem kSX_ex {cl : Str} : kSX i (.ex cl d, e) = (.ex cl d, e) := rfl
def kRX (p : Xo × En) : Flw × En := match p.1 with
  | .ok d => (.rt d, p.2)
  | .ex cl d => (.ex cl d, p.2)
@[simp] theorem ev_rtX : sRtX fx (x :: e) = (fx (x :: e)).map kRX := rfl
@[simp] theorem kRX_ok : kRX (.ok d, e) = (.rt d, e) := rfl
@[simp] theorem kRX_ex {cl : Str} : kRX (.ex cl d, e) = (.ex cl d, e) := rfl
def kEX (p : Xo × En) : Flw × En := match p.1 with
  | .ok d => (.nx, p.2)
  | .ex cl d => (.ex cl d, p.2)
@[simp] theorem ev_exX : sExX fx (x :: e) = (fx (x :: e)).map kEX := rfl
@[simp] theorem kEX_ok : kEX (.ok d, e) = (.nx, e) := rfl
@[simp] theorem kEX_ex {cl : Str} : kEX (.ex cl d, e) = (.ex cl d, e) := rfl
def kRz (cl : Str) (p : PyData × En) : Flw × En := (.ex cl p.1, p.2)
@[simp] theorem ev_raise {cl : Str} : sRaise cl a (x :: e) = (a (x :: e)).map (kRz cl) := rfl
@[simp] theorem kRz_e {cl : Str} : kRz cl (d, e) = (.ex cl d, e) := rfl
@[simp] theorem kTurn_ex {tg : Tg} {ds : List PyData} {cl : Str} : kTurn tg f ds (.ex cl d, e) = some (.ex cl d, e) := rfl
@[simp] theorem kTurn_rt {tg : Tg} {ds : List PyData} : kTurn tg f ds (.rt d, e) = some (.rt d, e) := rfl
@[simp] theorem endX_rt : endX (some (.rt d, e)) = some (.ok d) := rfl
@[simp] theorem endX_rl {ds : List PyData} : endX (some (.rl ds, e)) = some (.ok (.list ds)) := rfl
@[simp] theorem endX_nx : endX (some (.nx, e)) = some (.ok .none) := rfl
@[simp] theorem endX_ex {cl : Str} : endX (some (.ex cl d, e)) = some (.ex cl d) := rfl
theorem runX2 {N : Nat} {b : Fs} {d1 d2 : PyData} : runX b (N + 2) 2 [d1, d2] = endX (b (.val d1 :: .val d2 :: List.replicate N .no)) := by simp [runX, en0]
theorem runX3 {N : Nat} {b : Fs} {d1 d2 d3 : PyData} : runX b (N + 3) 3 [d1, d2, d3] = endX (b (.val d1 :: .val d2 :: .val d3 :: List.replicate N .no)) := by simp [runX, en0]
end Dn
set_option Elab.async false
set_option linter.all false
set_option maxRecDepth 100000
namespace Dn
open PySem PySem.Spec PyProof.Rows L2 HT
variable [Tb]
section
variable {X : Cx} {a : Expr} {fa : Fe} {pos : Pos}
noncomputable def eRevT (fa : Fe) : Fe := fun env => (fa env).bind fun p => match p.1 with
  | .tuple ds => some (.tuple ds.reverse, p.2)
  | _ => none
theorem dp_rg {K : PySem.W.Frag} {F : Hp} (n : Int) : DpAll K F (rgV 0 n) (rng 0 n) := by
  have e1 : rgV 0 n = (((List.range (n - 0).toNat).map fun (i : Nat) => (0 : Int) + (i : Int))).map V.int := by
    unfold rgV
    rw [List.map_map]; rfl
  have e2 : rng 0 n = (((List.range (n - 0).toNat).map fun (i : Nat) => (0 : Int) + (i : Int))).map PyData.int := by
    unfold rng
    rw [List.map_map]; rfl
  rw [e1, e2]
  exact DpAll.of_ints _
noncomputable def lRg (fc : Fe) : Fl := fun env => (fc env).bind fun p => match p.1 with
  | .int n => if smallI n && okN n.toNat then some (rng 0 n, p.2) else none
  | _ => none
theorem df_listRg {c : Expr} {fc : Fe} {p p2 p3 : Pos} (hcalm : X.calm = true) (hg : Gl X "list") (hm : X.mg "list" = none) (hg2 : Gl X "range") (hm2 : X.mg "range" = none) (hc : PE X c (Ge X.K fc)) (na : starEach [c] X.env = (false, eval c X.env) :: starEach [] X.env := by rfl)
    (na2 : starEach [Expr.Call (.Name "range" p2) [c] [] p3] X.env = (false, eval (Expr.Call (.Name "range" p2) [c] [] p3) X.env) :: starEach [] X.env := by rfl) :
    PE X (.Call (.Name "list" p) [.Call (.Name "range" p2) [c] [] p3] [] pos) (Gf X.K (lRg fc)) := (pe_listRg hcalm hg hm (prg_1 hg2 hm2 hc na) na2).imp fun σ H Q h => by
  obtain ⟨c0, F, env, ds, env', R, e, k⟩ := h
  unfold lRg at e
  simp only [Option.bind_eq_some_iff] at e
  obtain ⟨⟨d1, n1⟩, h1, h2⟩ := e
  dsimp only at h2
  split at h2
  · split at h2
    · rename_i hz
      cases h2
      rw [Bool.and_eq_true] at hz
      obtain ⟨b1, b2⟩ := smallI_b hz.1
      have b3 : _ ≤ 1000000 := of_decide_eq_true hz.2
      refine ⟨c0, F, env, _, _, R, h1, fun v1 F1 H1 s1 R1 p1 => ?_⟩
      cases p1
      exact ⟨_, rfl, ⟨by decide, by decide, b1, b2, by omega⟩, fun q hq => k q _ F1 H1 s1 hq R1 (dp_rg _)⟩
    · cases h2
  · cases h2
end
end Dn
namespace Dn
open PySem PySem.Spec PyProof.Rows L2
variable [Tb]
variable {a : Fe} {l : Fl} {x : Sl} {e : En}
def kRevT (p : PyData × En) : Option (PyData × En) := match p.1 with
  | .tuple ds => some (.tuple ds.reverse, p.2)
  | _ => none
@[simp] theorem ev_RevT : eRevT a (x :: e) = (a (x :: e)).bind kRevT := rfl
@[simp] theorem kRevT_t {ds : List PyData} : kRevT (.tuple ds, e) = some (.tuple ds.reverse, e) := rfl
noncomputable def kRg (p : PyData × En) : Option (List PyData × En) := match p.1 with
  | .int n => if smallI n && okN n.toNat then some (rng 0 n, p.2) else none
  | _ => none
@[simp] theorem ev_lRg : lRg a (x :: e) = (a (x :: e)).bind kRg := rfl
end Dn
set_option Elab.async false
set_option linter.all false
set_option maxRecDepth 100000
namespace Dn
open PySem PySem.Spec PyProof.Rows L2
variable [Tb]
def lOwn (i : Nat) : Fl := fun env => match env[i]? with
  | some (.own false ds) => some (ds, env.set i .no)
  | _ => none
section
variable {X : Cx} {a : Expr} {fa : Fe} {pos : Pos}
variable {s : Sl} {e : En}
@[simp] theorem ev_lOwn {i : Nat} : lOwn i (s :: e) = match (s :: e)[i]? with
  | some (.own false ds) => some (ds, (s :: e).set i .no)
  | _ => none := rfl
end
end Dn
set_option Elab.async false
set_option linter.all false
set_option maxRecDepth 100000
namespace Dn
open PySem PySem.Spec PyProof.Rows L2
end Dn
set_option Elab.async false
set_option linter.all false
set_option maxRecDepth 100000
namespace Dn
open PySem PySem.Spec PyProof.Rows L2
end Dn
set_option Elab.async false
set_option linter.all false
set_option maxRecDepth 100000
namespace Dn
open PySem PySem.Spec PyProof.Rows L2
end Dn
set_option Elab.async false
set_option linter.all false
set_option maxRecDepth 100000
set_option maxHeartbeats 1000000
namespace Dn
open PySem PySem.Spec PyProof.Rows L2
end Dn
set_option Elab.async false
set_option linter.all false
set_option maxRecDepth 100000
namespace Dn
open PySem PySem.Spec PyProof.Rows L2
def inD (ds : List PyData) (d : PyData) : Bool := ds.any fun z => PyData.eqv z d
def tInO (neg : Bool) (i : Nat) (fa : Fe) : Ft := fun env => if isOwn env i then (fa env).bind fun p => match p.2[i]? with
  | some (.own _ ds) => if SeqAt.shaped p.1 && SeqAt.shaped (.list ds) then some (neg ^^ inD ds p.1, p.2) else none
  | _ => none else none
/-- where the first equal one stands -/
def plD (ds : List PyData) (d : PyData) : Option Nat := SeqAt.dataPlace ds d
def eIdO (i : Nat) (fa : Fe) : Fe := fun env => if isOwn env i then (fa env).bind fun p => match p.2[i]? with
  | some (.own _ ds) => if SeqAt.shaped p.1 && SeqAt.shaped (.list ds) then (plD ds p.1).map fun (j : Nat) => (PyData.int (j : Int), p.2) else none
  | _ => none else none
def plainD (ds : List PyData) (d : PyData) : Bool := PyData.plainAll ds && d.plain && decide (min (PyData.depthAll ds) d.depth ≤ 60)
def sRem (i : Nat) (fa : Fe) : Fs := fun env => if isOwn env i then (fa env).bind fun p => match p.2[i]? with
  | some (.own b ds) => if plainD ds p.1 then (plD ds p.1).map fun j => (.nx, p.2.set i (.own b (ds.eraseIdx j))) else none
  | _ => none else none
variable [Tb]
section
variable {X : Cx} {xc : XC} {a e : Expr} {fa fe : Fe} {pos : Pos}
theorem own_dp {K : PySem.W.Frag} {c : C3} {F H : Hp} {σ : L2.St} {env : En} {i : Nat} {b : Bool} {ds : List PyData} {p : Addr} (R : Rl K c F σ H env) (hi : env[i]? = some (.own b ds)) (hp : σ[i]? = some (some (.ref p))) : Dp K H (.ref p) (.list ds) := by
  obtain ⟨a', xs, e1, e2, e3, e4, _⟩ := R.own i b ds hi
  rw [hp] at e1
  cases e1
  exact .lstS e3 (e4.up R.sub)
end
section
variable {x : Sl} {e : En} {a : Fe} {d : PyData} {i : Nat}
def kIn2 (neg : Bool) (d : PyData) (e : En) (s : Option Sl) : Option (Bool × En) := match s with
  | some (.own _ ds) => if SeqAt.shaped d && SeqAt.shaped (.list ds) then some (neg ^^ inD ds d, e) else none
  | _ => none
def kIn (neg : Bool) (i : Nat) (p : PyData × En) : Option (Bool × En) := kIn2 neg p.1 p.2 p.2[i]?
omit [Tb] in
@[simp] theorem ev_InO {neg : Bool} : tInO neg i a (x :: e) = if isOwn (x :: e) i then (a (x :: e)).bind (kIn neg i) else none := rfl
omit [Tb] in
@[simp] theorem kIn_e {neg : Bool} : kIn neg i (d, e) = kIn2 neg d e e[i]? := rfl
def kId2 (d : PyData) (e : En) (s : Option Sl) : Option (PyData × En) := match s with
  | some (.own _ ds) => if SeqAt.shaped d && SeqAt.shaped (.list ds) then (plD ds d).map fun (j : Nat) => (PyData.int (j : Int), e) else none
  | _ => none
def kId (i : Nat) (p : PyData × En) : Option (PyData × En) := kId2 p.1 p.2 p.2[i]?
omit [Tb] in
@[simp] theorem ev_IdO : eIdO i a (x :: e) = if isOwn (x :: e) i then (a (x :: e)).bind (kId i) else none := rfl
omit [Tb] in
@[simp] theorem kId_e : kId i (d, e) = kId2 d e e[i]? := rfl
def kRem2 (i : Nat) (d : PyData) (e : En) (s : Option Sl) : Option (Flw × En) := match s with
  | some (.own b ds) => if plainD ds d then (plD ds d).map fun j => (.nx, e.set i (.own b (ds.eraseIdx j))) else none
  | _ => none
def kRem (i : Nat) (p : PyData × En) : Option (Flw × En) := kRem2 i p.1 p.2 p.2[i]?
omit [Tb] in
@[simp] theorem ev_Rem : sRem i a (x :: e) = if isOwn (x :: e) i then (a (x :: e)).bind (kRem i) else none := rfl
omit [Tb] in
@[simp] theorem kRem_e : kRem i (d, e) = kRem2 i d e e[i]? := rfl
end
end Dn
set_option Elab.async false
set_option linter.all false
set_option maxRecDepth 100000
namespace Dn
open PySem PySem.Spec PyProof.Rows L2
open PySem.W (Frag)
variable [Tb]
def endN : Option (Flw × En) → Option (List PyData × List PyData)
  | some (.rl ds, .own true ks :: _) => some (ds, ks)
  | _ => none
def lN (i : Nat) (g : List PyData → List PyData → Option (List PyData × List PyData)) (fl : Fl) : Fl := fun env => if isOwn env i then (fl env).bind fun p => match p.2[i]? with
  | some (.own b ks) => (g ks p.1).map fun q => (q.1, p.2.set i (.own b q.2))
  | _ => none else none
section
variable {x : Sl} {e : En} {i : Nat} {fl : Fl} {ds : List PyData} {g : List PyData → List PyData → Option (List PyData × List PyData)}
def kN3 (i : Nat) (g : List PyData → List PyData → Option (List PyData × List PyData)) (ds : List PyData) (e : En) (s : Option Sl) : Option (List PyData × En) := match s with
  | some (.own b ks) => (g ks ds).map fun q => (q.1, e.set i (.own b q.2))
  | _ => none
def kN2 (i : Nat) (g : List PyData → List PyData → Option (List PyData × List PyData)) (p : List PyData × En) : Option (List PyData × En) := kN3 i g p.1 p.2 p.2[i]?
omit [Tb] in
@[simp] theorem ev_N : lN i g fl (x :: e) = if isOwn (x :: e) i then (fl (x :: e)).bind (kN2 i g) else none := rfl
omit [Tb] in
@[simp] theorem kN2_e : kN2 i g (ds, e) = kN3 i g ds e e[i]? := rfl
omit [Tb] in
@[simp] theorem kN3_e {b : Bool} {ks : List PyData} : kN3 i g ds e (some (.own b ks)) = (g ks ds).map fun q => (q.1, e.set i (.own b q.2)) := rfl
omit [Tb] in
@[simp] theorem endN_rl {ds ks : List PyData} {tl : En} : endN (some (.rl ds, .own true ks :: tl)) = some (ds, ks) := rfl
end
end Dn
set_option Elab.async false
set_option linter.all false
set_option maxRecDepth 100000
namespace Dn
open PySem PySem.Spec PyProof.Rows L2
open PySem.W (Frag)
variable [Tb]
abbrev FlL := En → Option (List (List PyData) × En)
end Dn
set_option Elab.async false
set_option linter.all false
set_option maxRecDepth 100000
namespace Dn
open PySem PySem.Spec PyProof.Rows L2
open PySem.W (Frag)
variable [Tb]
section
variable {K : Frag} {c : C3} {F F' H0 H0' H H' : Hp} {σ : L2.St} {env env' : En} {v : V} {t : Tv}
theorem dpAll_ix : ∀ {vs : List V} {ds : List PyData}, vs.length = ds.length → (∀ (i : Nat) (v : V) (d : PyData), vs[i]? = some v → ds[i]? = some d → Dp K F v d) → DpAll K F vs ds
  | [], [], _, _ => .nil
  | [], _ :: _, h, _ => by cases h
  | _ :: _, [], h, _ => by cases h
  | v :: vs, d :: ds, h, k => .cons (k 0 v d rfl rfl) (dpAll_ix (by simpa using h) fun i u e h1 h2 => k (i + 1) u e (by simpa using h1) (by simpa using h2))
theorem TrV.h0 (h : TrV K F H0 H v t) (k : ∀ a, H0 a = none → H0' a = none) : TrV K F H0' H v t := by
  cases t with
  | v d => exact h
  | l ds =>
    obtain ⟨p, xs, h1, h2, h3, h4, h5⟩ := h
    exact ⟨p, xs, h1, h2, k p h3, h4, h5⟩
  | ll dss =>
    obtain ⟨p, h1, h2, h3, as, xss, h4, h5, h6, h7, h8, h9⟩ := h
    refine ⟨p, h1, h2, k p h3, as, xss, h4, h5, h6, h7, h8, fun i a xs ds j1 j2 j3 => ?_⟩
    obtain ⟨z1, z2, z3, z4⟩ := h9 i a xs ds j1 j2 j3
    exact ⟨z1, k a z2, z3, z4⟩
theorem TrV.mono (h : TrV K F H0 H v t) (s : Same F F') (kp : Kp H H') (n : ∀ b, F' b ≠ none → F b ≠ none ∨ H b = none) : TrV K F' H0 H' v t := by
  have nF : ∀ a o, F a = none → H a = some o → F' a = none := fun a o h1 h2 => by
    cases z : F' a with
    | none => rfl
    | some u =>
      rcases n a (by rw [z]; simp) with y | y
      · exact absurd h1 y
      · rw [h2] at y; cases y
  cases t with
  | v d => exact Dp.up h s
  | l ds =>
    obtain ⟨p, xs, h1, h2, h3, h4, h5⟩ := h
    exact ⟨p, xs, h1, nF p _ h2 h4, h3, kp.keep p _ .lst h4, h5.up s⟩
  | ll dss =>
    obtain ⟨p, h1, h2, h3, as, xss, h4, h5, h6, h7, h8, h9⟩ := h
    refine ⟨p, h1, nF p _ h2 h4, h3, as, xss, kp.keep p _ .lst h4, h5, h6, h7, h8, fun i a xs ds j1 j2 j3 => ?_⟩
    obtain ⟨z1, z2, z3, z4⟩ := h9 i a xs ds j1 j2 j3
    exact ⟨nF a _ z1 z3, z2, kp.keep a _ .lst z3, z4.up s⟩
/-- a tree is data for a while -/
theorem TrV.freeze (B : Bs F H) (h : TrV K F H0 H v t) : ∃ F', Same F F' ∧ Bs F' H ∧ (∀ b, F' b ≠ none → F b ≠ none ∨ H0 b = none) ∧ Dp K F' v (dataT t) := by
  cases t with
  | v d => exact ⟨F, Same.refl F, B, fun b h => .inl h, h⟩
  | l ds =>
    obtain ⟨p, xs, rfl, h2, h3, h4, h5⟩ := h
    have s : Same F (upd F p (.lst xs)) := fun b u e => by rw [upd_ne (ne_of_none e h2)]; exact e
    refine ⟨upd F p (.lst xs), s, ⟨fun b u e => ?_, B.nf.upd .lst, B.tab⟩, fun b hb => ?_, .lstS upd_same (h5.up s)⟩
    · by_cases hb : b = p
      · subst hb; rw [upd_same] at e; rw [h4]; exact e
      · rw [upd_ne hb] at e; exact B.sub b u e
    · by_cases hbp : b = p
      · subst hbp; exact .inr h3
      · rw [upd_ne hbp] at hb; exact .inl hb
  | ll dss =>
    obtain ⟨p, rfl, h2, h3, as, xss, h4, h5, h6, h7, h8, h9⟩ := h
    have at_ : ∀ a, a ∈ as → ∃ i xs ds, as[i]? = some a ∧ xss[i]? = some xs ∧ dss[i]? = some ds := fun a ha => by
      obtain ⟨i, hi⟩ := List.mem_iff_getElem?.mp ha
      have hil := (List.getElem?_eq_some_iff.mp hi).1
      exact ⟨i, _, _, hi, List.getElem?_eq_getElem (by omega), List.getElem?_eq_getElem (by omega)⟩
    open Classical in
    let G : Hp := fun b => if b = p ∨ b ∈ as then H b else F b
    have Gp : G p = some (.lst (as.map V.ref)) := by show (if _ then _ else _) = _; rw [if_pos (.inl rfl)]; exact h4
    have Ga : ∀ a, a ∈ as → G a = H a := fun a ha => if_pos (.inr ha)
    have s : Same F G := fun b u e => by
      show (if _ then _ else _) = _
      by_cases hb : b = p ∨ b ∈ as
      · rcases hb with rfl | hb
        · rw [h2] at e; cases e
        · obtain ⟨i, xs, ds, i1, i2, i3⟩ := at_ b hb
          rw [(h9 i b xs ds i1 i2 i3).1] at e; cases e
      · rw [if_neg hb]; exact e
    refine ⟨G, s, ⟨fun b u e => ?_, fun b ps e => ?_, B.tab⟩, fun b hb => ?_, .lstS Gp (dpAll_ix (by simp [h7]) fun i u d j1 j2 => ?_)⟩
    · have e' : (if b = p ∨ b ∈ as then H b else F b) = some u := e
      split at e'
      · exact e'
      · exact B.sub b u e'
    · have e' : (if b = p ∨ b ∈ as then H b else F b) = some (.tbl ps) := e
      split at e'
      · rename_i hb
        rcases hb with rfl | hb
        · rw [h4] at e'; cases e'
        · obtain ⟨i, xs, ds, i1, i2, i3⟩ := at_ b hb
          rw [(h9 i b xs ds i1 i2 i3).2.2.1] at e'; cases e'
      · exact B.nf b ps e'
    · have hb' : (if b = p ∨ b ∈ as then H b else F b) ≠ none := hb
      split at hb'
      · rename_i hb
        rcases hb with rfl | hb
        · exact .inr h3
        · obtain ⟨i, xs, ds, i1, i2, i3⟩ := at_ b hb
          exact .inr (h9 i b xs ds i1 i2 i3).2.1
      · exact .inl hb'
    · rw [List.getElem?_map, Option.map_eq_some_iff] at j1 j2
      obtain ⟨a, ja, rfl⟩ := j1
      obtain ⟨es, je, rfl⟩ := j2
      have hil := (List.getElem?_eq_some_iff.mp ja).1
      have jx : xss[i]? = some xss[i] := List.getElem?_eq_getElem (by omega)
      obtain ⟨z1, z2, z3, z4⟩ := h9 i a _ es ja jx je
      have : G a = some (.lst xss[i]) := (Ga a (List.mem_of_getElem? ja)).trans z3
      exact .lstS this (z4.up s)
def sideC (F H : Hp) : C3 := ⟨H, F, noT H, []⟩
def vOf : Sl → Sl
  | .own _ _ => .no
  | s => s
def valsOf (env : En) : En := env.map vOf
theorem Rl.sideK {G : Hp} (R : Rl K (sideC G H) F σ H' env) : Kp H H' := ⟨fun b o n e => R.gd b o (noT_of e n), R.dom⟩
theorem Rl.kp (R : Rl K c F σ H env) (k : Kp H H') (t : LamX.Tabs Tb.T H') : Rl K c F σ H' env :=
  ⟨fun b u e => k.keep b u (fun ps z => by rw [z] at e; exact R.nf b ps e) (R.sub b u e), R.f0, fun b u e => k.keep b u (fun ps z => by rw [z] at e; exact R.ng b ps e) (R.gd b u e), R.g0, R.new, fun a h => k.dom a (R.dom a h), R.len, R.val, fun i p ds h => by
    obtain ⟨a, xs, e1, e2, e3, e4, e5, e6, e7⟩ := R.own i p ds h
    exact ⟨a, xs, e1, e2, k.keep a _ .lst e3, e4, e5, e6, e7⟩, t, R.nf, R.ng⟩
end
abbrev FeT := En → Option (Tv × En)
end Dn
set_option Elab.async false
set_option linter.all false
set_option maxRecDepth 100000
namespace Dn
open PySem PySem.Spec PyProof.Rows L2
open PySem.W (Frag)
variable [Tb]
theorem Bs.kp {F H H' : Hp} (B : Bs F H) (k : Kp H H') (t : LamX.Tabs Tb.T H') : Bs F H' := ⟨fun b u e => k.keep b u (fun ps z => by rw [z] at e; exact B.nf b ps e) (B.sub b u e), B.nf, t⟩
end Dn
set_option Elab.async false
set_option linter.all false
set_option maxRecDepth 100000
namespace Dn
open PySem PySem.Spec PyProof.Rows L2
open PySem.W (Frag)
variable [Tb]
def fOf : Sl → Sl
  | .own _ ds => .val (.list ds)
  | s => s
/-- owned lists as data, for a while -/
def frzOf (env : En) : En := env.map fOf
theorem Rl.sideV {K : Frag} {c : C3} {F H : Hp} {σ : L2.St} {env : En} (R : Rl K c F σ H env) : ∃ F', Same F F' ∧ Bs F' H ∧ Rl K (sideC F' H) F' σ H (frzOf env) := by
  let P : Addr → Prop := fun b => ∃ (i : Nat) (p : Bool) (ds : List PyData), env[i]? = some (Sl.own p ds) ∧ σ[i]? = some (some (V.ref b))
  have own : ∀ {b : Addr}, P b → ∃ xs, F b = none ∧ H b = some (.lst xs) := fun {b} ⟨i, p, ds, h1, h2⟩ => by
    obtain ⟨a, xs, e1, e2, e3, _⟩ := R.own i p ds h1
    rw [h2] at e1
    cases e1
    exact ⟨xs, e2, e3⟩
  open Classical in
  let G : Hp := fun b => if P b then H b else F b
  have s : Same F G := fun b u e => by
    show (if _ then _ else _) = _
    rw [if_neg]
    · exact e
    · intro z
      obtain ⟨xs, h1, _⟩ := own z
      rw [h1] at e; cases e
  have B : Bs G H := ⟨fun b u e => by
    have e' : (if P b then H b else F b) = some u := e
    split at e'
    · exact e'
    · exact R.sub b u e', fun b ps e => by
    have e' : (if P b then H b else F b) = some (.tbl ps) := e
    split at e'
    · rename_i z
      obtain ⟨xs, _, h2⟩ := own z
      rw [h2] at e'; cases e'
    · exact R.nf b ps e', R.tab⟩
  refine ⟨G, s, B, B.sub, Same.refl G, noT_sub, noT_sub, fun a h => .inl h, fun a h => h, by unfold frzOf; rw [List.length_map]; exact R.len, fun i d h => ?_, fun i p ds h => ?_, R.tab, B.nf, noT_no⟩
  · unfold frzOf at h
    rw [List.getElem?_map, Option.map_eq_some_iff] at h
    obtain ⟨sl, h1, h2⟩ := h
    cases sl with
    | val e =>
      cases h2
      obtain ⟨v, e1, e2⟩ := R.val i _ h1
      exact ⟨v, e1, e2.up s⟩
    | no => cases h2
    | own p ds =>
      cases h2
      obtain ⟨a, xs, e1, e2, e3, e4, _⟩ := R.own i p ds h1
      have : G a = some (.lst xs) := by
        show (if P a then H a else F a) = _
        rw [if_pos ⟨i, p, ds, h1, e1⟩]; exact e3
      exact ⟨.ref a, e1, .lstS this (e4.up s)⟩
  · unfold frzOf at h
    rw [List.getElem?_map, Option.map_eq_some_iff] at h
    obtain ⟨sl, h1, h2⟩ := h
    cases sl <;> cases h2
end Dn
set_option Elab.async false
set_option linter.all false
set_option maxRecDepth 100000
namespace Dn
open PySem PySem.Spec PyProof.Rows L2
section
variable {s : Sl} {e : En} {i : Nat} {d : PyData} {t : Tv} {fe : Fe} {fl : Fl} {fL : FlL} {ft : FeT} {g : List PyData → Option Tv} {ds : List PyData} {dss : List (List PyData)}
@[simp] theorem kTurn_tr {tg : Tg} {f : Fs} : kTurn tg f ds (.tr t, e) = some (.tr t, e) := rfl
end
end Dn
set_option Elab.async false
set_option linter.all false
set_option maxRecDepth 100000
namespace Dn
open PySem PySem.Spec PyProof.Rows L2
open PySem.W (Frag)
def g2L (n : Nat) (t : Tgs) : Tg := fun d env => match d with
  | .list ds => if ds.length = n then t ds env else none
  | _ => none
@[simp] theorem g2L_l {n : Nat} {t : Tgs} {ds : List PyData} {e : En} : g2L n t (.list ds) e = if ds.length = n then t ds e else none := rfl
end Dn
set_option Elab.async false
set_option linter.all false
set_option maxRecDepth 100000
namespace Dn
open PySem PySem.Spec PyProof.Rows L2
open PySem.W (Frag)
variable [Tb]
def letters (x : Str) : List PyData := x.cps.toList.map fun c => .str ⟨#[c]⟩
def iStrS (f : Fe) : Fi := fun env => (f env).bind fun p => match p.1 with
  | .str x => some (letters x, p.2)
  | _ => none
section
variable {K : Frag}
@[simp] def gInC : PyData → PyData → Option PyData
  | .str ⟨⟨[c]⟩⟩, .str z => some (.bool (decide (c ∈ z.cps.toList)))
  | _, _ => none
@[simp] def gLtS : PyData → PyData → Option PyData
  | .str i, .str j => some (.bool (decide (i.cps.toList < j.cps.toList)))
  | _, _ => none
@[simp] def gGtS : PyData → PyData → Option PyData
  | .str i, .str j => some (.bool (decide (j.cps.toList < i.cps.toList)))
  | _, _ => none
end
def strsOf : List PyData → Option (List Str)
  | [] => some []
  | .str x :: ds => (strsOf ds).map (x :: ·)
  | _ => none
def leS (a b : Str) : Bool := !ltCps b.cps.toList a.cps.toList
noncomputable def srtS (xs : List Str) : List Str := xs.mergeSort leS
noncomputable def lSrtS (f : Fl) : Fl := fun env => (f env).bind fun p => match p.1 with
  | [.list ds] => match strsOf ds with
    | some xs => if decide (xs.length < 64) then some ((srtS xs).map .str, p.2) else none
    | none => none
  | _ => none
section
variable {e : En} {f fa fb : Fe}
def kStrS (p : PyData × En) : Option (List PyData × En) := match p.1 with
  | .str x => some (letters x, p.2)
  | _ => none
@[simp] theorem iStrS_k {x : Sl} : iStrS f (x :: e) = (f (x :: e)).bind kStrS := rfl
@[simp] theorem kStrS_e {x : Str} : kStrS (.str x, e) = some (letters x, e) := rfl
noncomputable def kSrtS (p : List PyData × En) : Option (List PyData × En) := match p.1 with
  | [.list ds] => match strsOf ds with
    | some xs => if decide (xs.length < 64) then some ((srtS xs).map .str, p.2) else none
    | none => none
  | _ => none
@[simp] theorem lSrtS_k {f : Fl} {x : Sl} : lSrtS f (x :: e) = (f (x :: e)).bind kSrtS := rfl
end
end Dn
set_option Elab.async false
set_option linter.all false
set_option maxRecDepth 100000
set_option maxHeartbeats 2000000
namespace Dn
open PySem PySem.Spec PyProof.Rows L2
end Dn
set_option Elab.async false
set_option linter.all false
set_option maxRecDepth 100000
namespace Dn
open PySem PySem.Spec PyProof.Rows L2
open PySem.W (Frag)
variable [Tb]
def getK (kd : List (Str × PyData)) (k : Str) : Option PyData := (kd.find? fun p => decide (p.1 = k)).map (·.2)
def putD (kd : List (Str × PyData)) (k : Str) (d : PyData) : List (Str × PyData) := if (kd.any fun p => decide (p.1 = k)) = true then kd.map (fun p => if p.1 = k then (p.1, d) else p) else kd ++ [(k, d)]
inductive Kd (K : Frag) (F : Hp) : List (Key × V) → List (Str × PyData) → Prop where
  | nil : Kd K F [] []
  | cons {k : Str} {v : V} {d : PyData} {kvs : List (Key × V)} {kd : List (Str × PyData)} (h : Dp K F v d) (t : Kd K F kvs kd) : Kd K F ((.inr k, v) :: kvs) ((k, d) :: kd)
section
variable {K : Frag} {F F' : Hp} {kvs : List (Key × V)} {kd : List (Str × PyData)}
theorem Kd.up (s : Same F F') (h : Kd K F kvs kd) : Kd K F' kvs kd := by
  induction h with
  | nil => exact .nil
  | cons h _ ih => exact .cons (h.up s) ih
theorem Kd.len (h : Kd K F kvs kd) : kvs.length = kd.length := by
  induction h with
  | nil => rfl
  | cons _ _ ih => simp [ih]
theorem Kd.val (k : Str) (h : Kd K F kvs kd) : (getK kd k = none ∧ valV kvs (.inr k) = none) ∨ ∃ v d, getK kd k = some d ∧ valV kvs (.inr k) = some v ∧ Dp K F v d := by
  induction h with
  | nil => exact .inl ⟨rfl, rfl⟩
  | @cons k' v d kvs kd h t ih =>
    by_cases e : k' = k
    · subst e
      exact .inr ⟨v, d, by simp [getK], valV_pos rfl, h⟩
    · have e1 : getK ((k', d) :: kd) k = getK kd k := by simp [getK, List.find?_cons, e]
      have e2 : valV (((.inr k' : Key), v) :: kvs) (.inr k) = valV kvs (.inr k) := valV_neg (fun z => e (Sum.inr.inj z))
      rw [e1, e2]
      exact ih
theorem Kd.any (k : Str) (h : Kd K F kvs kd) : (kvs.any fun kv => decide (kv.1 = (Sum.inr k : Key))) = kd.any fun p => decide (p.1 = k) := by
  induction h with
  | nil => rfl
  | cons h _ ih =>
    simp only [List.any_cons, ih]
    congr 1
    exact decide_eq_decide.mpr ⟨fun z => Sum.inr.inj z, fun z => by rw [z]⟩
theorem Kd.put {k : Str} {v : V} {d : PyData} (h : Kd K F kvs kd) (hv : Dp K F v d) : Kd K F (putK kvs (.inr k) v) (putD kd k d) := by
  unfold putK putD
  rw [h.any k]
  split
  · rename_i hany
    clear hany
    induction h with
    | nil => exact .nil
    | @cons k' v' d' kvs kd h t ih =>
      rw [List.map_cons, List.map_cons]
      by_cases e : k' = k
      · subst e
        rw [if_pos rfl, if_pos rfl]
        exact .cons hv ih
      · rw [if_neg (fun z => e (Sum.inr.inj z)), if_neg e]
        exact .cons h ih
  · rename_i hany
    clear hany
    induction h with
    | nil => exact .cons hv .nil
    | cons h t ih => exact .cons h ih
end
theorem tabs_K {T : List (Addr × Str)} {H H' : Hp} {a : Addr} {kvs : List (Key × V)} (h : LamX.Tabs T H) (ha : H a = some (.dK kvs)) (k : ∀ b, b ≠ a → H' b = H b) : LamX.Tabs T H' := fun p hp => by
  obtain ⟨ps, h1, h2, h3⟩ := h p hp
  have ne : ∀ {b : Addr} {o : HO}, H b = some o → (∀ xs, o ≠ .dK xs) → H' b = some o := fun {b o} e n => by
    rw [k b (fun z => by subst z; rw [ha] at e; cases e; exact n _ rfl)]
    exact e
  refine ⟨ps, ne h1 (fun _ z => by cases z), h2, fun pos cv hc => ?_⟩
  obtain ⟨c, e1, e2⟩ := h3 pos cv hc
  exact ⟨c, e1, ne e2 fun _ z => by unfold LamX.CodeO at z; cases z⟩
/-- the heap while totals are kept: what lay there stays, the dict stands at D -/
structure TgI (K : Frag) (F0 H0 : Hp) (D : Addr) (F H : Hp) (kd : List (Str × PyData)) : Prop where
  s : Same F0 F
  b : Bs F H
  k : Kp H0 H
  nw : ∀ a, F a ≠ none → F0 a ≠ none ∨ H0 a = none
  d : ∃ kvs, H D = some (.dK kvs) ∧ Kd K F kvs kd
  f : F D = none
  h : H0 D = none
section
variable {K : Frag} {F0 H0 F H F' H' : Hp} {D : Addr} {kd : List (Str × PyData)}
omit [Tb] in
theorem Kp.h0 {H0 H : Hp} (k : Kp H0 H) {p : Addr} (h : H p = none) : H0 p = none := by
  cases e : H0 p with
  | none => rfl
  | some o => exact absurd h (k.dom p (by rw [e]; simp))
theorem TgI.laid (I : TgI K F0 H0 D F H kd) {p : Addr} {xs : List V} (hp : H p = none) : TgI K F0 H0 D (upd F p (.tup xs)) (upd H p (.tup xs)) kd ∧ Same F (upd F p (.tup xs)) := by
  obtain ⟨kvs, hd, hk⟩ := I.d
  have hF : F p = none := I.b.sub.free hp
  have sF : Same F (upd F p (.tup xs)) := fun b u e => by rw [upd_ne (ne_of_none e hF)]; exact e
  have hDp : D ≠ p := ne_of_none hd hp
  refine ⟨⟨I.s.trans sF, ⟨fun b u e => ?_, I.b.nf.upd .tup, tabs_grow I.b.tab hp⟩, I.k.trans (Kp.of fun b u e => by rw [upd_ne (ne_of_none e hp)]; exact e), fun a ha => ?_, ⟨kvs, by rw [upd_ne hDp]; exact hd, hk.up sF⟩, by rw [upd_ne hDp]; exact I.f, I.h⟩, sF⟩
  · by_cases hb : b = p
    · subst hb; rw [upd_same] at e ⊢; exact e
    · rw [upd_ne hb] at e ⊢; exact I.b.sub b u e
  · by_cases hb : a = p
    · subst hb; exact .inr (I.k.h0 hp)
    · rw [upd_ne hb] at ha; exact I.nw a ha
theorem TgI.call (I : TgI K F0 H0 D F H kd) (s : Same F F') (b : Bs F' H') (k : Kp H H') (n : ∀ a, F' a ≠ none → F a ≠ none ∨ H a = none) : TgI K F0 H0 D F' H' kd := by
  obtain ⟨kvs, hd, hk⟩ := I.d
  refine ⟨I.s.trans s, b, I.k.trans k, fun a ha => ?_, ⟨kvs, k.keep D _ (fun _ z => by cases z) hd, hk.up s⟩, ?_, I.h⟩
  · rcases n a ha with z | z
    · exact I.nw a z
    · exact .inr (I.k.h0 z)
  · cases e : F' D with
    | none => rfl
    | some o =>
      rcases n D (by rw [e]; simp) with z | z
      · exact absurd I.f z
      · rw [hd] at z; cases z
theorem TgI.put (I : TgI K F0 H0 D F H kd) {kvs : List (Key × V)} {k : Str} {v : V} {d : PyData} (hd : H D = some (.dK kvs)) (hk : Kd K F kvs kd) (hv : Dp K F v d) : TgI K F0 H0 D F (upd H D (.dK (putK kvs (.inr k) v))) (putD kd k d) := by
  refine ⟨I.s, ⟨fun b u e => ?_, I.b.nf, tabs_K I.b.tab hd fun _ hb => upd_ne hb⟩, ⟨fun b u n e => ?_, fun b hb => ?_⟩, I.nw, ⟨_, upd_same, hk.put hv⟩, I.f, I.h⟩
  · have ne : b ≠ D := fun z => by rw [z, I.f] at e; cases e
    rw [upd_ne ne]; exact I.b.sub b u e
  · have ne : b ≠ D := fun z => by rw [z, I.h] at e; cases e
    rw [upd_ne ne]; exact I.k.keep b u n e
  · have ne : b ≠ D := fun z => hb (by rw [z]; exact I.h)
    rw [upd_ne ne]; exact I.k.dom b hb
/-- a new list that nothing leans on -/
theorem TgI.grow (I : TgI K F0 H0 D F H kd) {p : Addr} {xs : List V} (hp : H p = none) : TgI K F0 H0 D F (upd H p (.lst xs)) kd := by
  obtain ⟨kvs, hd, hk⟩ := I.d
  have hDp : D ≠ p := ne_of_none hd hp
  refine ⟨I.s, ⟨fun b u e => ?_, I.b.nf, tabs_grow I.b.tab hp⟩, I.k.trans (Kp.of fun b u e => by rw [upd_ne (ne_of_none e hp)]; exact e), I.nw, ⟨kvs, by rw [upd_ne hDp]; exact hd, hk⟩, I.f, I.h⟩
  have := I.b.sub b u e
  rw [upd_ne (ne_of_none this hp)]; exact this
end
end Dn
set_option Elab.async false
set_option linter.all false
set_option maxRecDepth 100000
set_option maxHeartbeats 1000000
namespace Dn
open PySem PySem.Spec PyProof.Rows L2
open PySem.W (Frag)
variable [Tb]
/-- {key: e} -/
def eDict1 (key : Str) (f : Fe) : Fe := fun env => (f (valsOf env)).map fun p => (.dict [(.str key, p.1)], env)
@[simp] def gIsB : PyData → PyData → Option PyData
  | .bool a, .bool b => some (.bool (decide (a = b)))
  | _, _ => none
@[simp] def gNotB : PyData → PyData → Option PyData
  | .bool a, .bool b => some (.bool (!decide (a = b)))
  | _, _ => none
/-- isinstance(e, (T, U)) -/
def eIs2 (T U : String) (f : Fe) : Fe := fun env => (f env).bind fun p => if tyOk p.1 then some (.bool (isT T p.1 || isT U p.1), p.2) else none
end Dn
set_option Elab.async false
set_option linter.all false
set_option maxRecDepth 100000
namespace Dn
open PySem PySem.Spec PyProof.Rows L2
variable {a : Fe} {b : Fs} {x : Sl} {e : En} {d : PyData} {cl : Str} {cls : List Str} {tbl : List (Str × Bool)} {i j : Nat}
def kVal (cls : List Str) (p : PyData × En) : Option (PyData × En) := match p.1 with
  | .dict [(.none, .str cl), (.none, d)] => if cl ∈ cls then some (d, p.2) else none
  | _ => none
@[simp] theorem ev_Val : eVal cls a (x :: e) = (a (x :: e)).bind (kVal cls) := (rfl)
@[simp] theorem kVal_e : kVal cls (.dict [(.none, .str cl), (.none, d)], e) = if cl ∈ cls then some (d, e) else none := (rfl)
def kIsC (tbl : List (Str × Bool)) (p : PyData × En) : Option (PyData × En) := match p.1 with
  | .none => some (.bool false, p.2)
  | .dict [(.none, .str cl), (.none, _)] => (tbl.lookup cl).map fun b => (.bool b, p.2)
  | _ => none
@[simp] theorem ev_IsC : eIsC tbl a (x :: e) = (a (x :: e)).bind (kIsC tbl) := (rfl)
@[simp] theorem kIsC_none : kIsC tbl (.none, e) = some (.bool false, e) := (rfl)
@[simp] theorem kIsC_e : kIsC tbl (.dict [(.none, .str cl), (.none, d)], e) = (tbl.lookup cl).map fun b => (.bool b, e) := (rfl)
def kIs2 (T U : String) (p : PyData × En) : Option (PyData × En) := if tyOk p.1 then some (.bool (isT T p.1 || isT U p.1), p.2) else none
@[simp] theorem ev_Is2 {T U : String} : eIs2 T U a (x :: e) = (a (x :: e)).bind (kIs2 T U) := (rfl)
@[simp] theorem kIs2_e {T U : String} : kIs2 T U (d, e) = if tyOk d then some (.bool (isT T d || isT U d), e) else none := (rfl)
def kDict1 (key : Str) (e : En) (p : PyData × En) : PyData × En := (.dict [(.str key, p.1)], e)
@[simp] theorem ev_dict1 {key : Str} : eDict1 key a (x :: e) = (a (valsOf (x :: e))).map (kDict1 key (x :: e)) := (rfl)
@[simp] theorem kDict1_e {key : Str} {e2 : En} : kDict1 key e2 (d, e) = (.dict [(.str key, d)], e2) := (rfl)
def kTryK (cls : List Str) (i j : Nat) (p : Flw × En) : Option (Flw × En) := match p.1 with
  | .ex c d => if c ∈ cls ∧ i < p.2.length then some (.nx, ((p.2.set i .no).set j (.val (encE c d))).set i .no) else none
  | _ => some p
@[simp] theorem ev_TryK : sTryK cls i j b (x :: e) = (b (x :: e)).bind (kTryK cls i j) := (rfl)
@[simp] theorem kTryK_nx : kTryK cls i j (.nx, e) = some (.nx, e) := (rfl)
@[simp] theorem kTryK_ex {c : Str} : kTryK cls i j (.ex c d, e) = if c ∈ cls ∧ i < e.length then some (.nx, ((e.set i .no).set j (.val (encE c d))).set i .no) else none := (rfl)
theorem hu80 {k : Nat} {A : Around} (hr : Room k A) : A.units + 80 < cLine := by
  have := hr.un
  omega
end Dn
set_option Elab.async false
set_option linter.all false
set_option maxRecDepth 100000
set_option maxHeartbeats 1000000
namespace Dn
open PySem PySem.Spec PyProof.Rows L2
open PySem.W (Frag)
variable [Tb]
def tSide (f : Ft) : Ft := fun env => (f (frzOf env)).map fun p => (p.1, env)
theorem dt_side {X : Cx} {e : Expr} {f : Ft} (h : PT X e (Gt X.K f)) : PT X e (Gt X.K (tSide f)) := h.imp fun σ H Q ⟨c, F, env, b, env', R, e, k⟩ => by
  unfold tSide at e
  simp only [Option.map_eq_some_iff] at e
  obtain ⟨⟨b1, n1⟩, h1, h2⟩ := e
  obtain ⟨rfl, rfl⟩ := Prod.mk.inj h2
  obtain ⟨F', s, B, RV⟩ := R.sideV
  exact ⟨sideC F' H, F', frzOf env, b1, n1, RV, h1, fun F1 H1 s1 R1 => k F H1 (Same.refl F) (R.kp R1.sideK R1.tab)⟩
omit [Tb]
def kSide (e : En) (p : Bool × En) : Bool × En := (p.1, e)
@[simp] theorem ev_Side {f : Ft} {x : Sl} {e : En} : tSide f (x :: e) = (f (fOf x :: e.map fOf)).map (kSide (x :: e)) := rfl
@[simp] theorem kSide_e {e e2 : En} {b : Bool} : kSide e (b, e2) = (b, e) := rfl
@[simp] theorem fOf_o {p : Bool} {ds : List PyData} : fOf (.own p ds) = .val (.list ds) := rfl
@[simp] theorem fOf_v {d : PyData} : fOf (.val d) = .val d := rfl
@[simp] theorem fOf_n : fOf .no = .no := rfl
end Dn
set_option Elab.async false
set_option linter.all false
set_option maxRecDepth 100000
namespace Dn
open PySem PySem.Spec PyProof.Rows L2
open PySem.W (Frag)
variable [Tb]
def rowEntry (b : Int) (ns : List Int) (k j : Nat) : Int := if j = k then b - ns.getD k 0 else if j + 1 = k then ns.getD j 0 else 0
theorem nodup_get {α : Type} {l : List α} (h : l.Nodup) {i j : Nat} {a : α} (hi : l[i]? = some a) (hj : l[j]? = some a) : i = j := by
  obtain ⟨h1, e1⟩ := List.getElem?_eq_some_iff.mp hi
  obtain ⟨h2, e2⟩ := List.getElem?_eq_some_iff.mp hj
  exact (List.getElem_inj h).mp (e1.trans e2.symm)
end Dn
set_option Elab.async false
set_option linter.all false
set_option maxRecDepth 100000
set_option maxHeartbeats 4000000
namespace Dn
open PySem PySem.Spec PyProof.Rows L2
theorem tuple_mul1 (l : Addr) (items : Array Value) (n : Nat) (sl : Array (Option Value)) (dd : Option Addr) (u : Tok) :
    Meets (Builtin.«tuple.__mul__» ⟨[.ref l, .int 1 u], []⟩) (fun _ R s => s.heap.get? l = some { cls := .type "tuple", dict := dd, data := .seq items n, slots := sl } ∧
      R (.ok (.ret (Value.ref l))) s) :=
  .of_wp fun prog w A R s h => by
    obtain ⟨hp, g, d, tk, os⟩ := s
    obtain ⟨hl, h⟩ := h
    have f1 := AutoSeq1.idx_int
    wp_walk using wpAny_loadPart' hl
    exact ⟨_, rfl, h⟩
section
variable {X : Cx} {K : PySem.W.Frag}
def rRep1 (K : PySem.W.Frag) : R2 := fun x y H Q => ∃ l xs, x = .ref l ∧ y = .int 1 ∧ SqT K H l xs ∧ Q (.ref l) H
theorem op_rep1 : OpR X (binaryOp .Mult) (rRep1 X.K) := by
  intro pins s σ H x y v u Q I rx ry h
  obtain ⟨l, xs, rfl, rfl, hT, q⟩ := h
  cases rx
  obtain ⟨t, rfl⟩ := ry
  obtain ⟨its, r, ⟨⟨cls, dd, data, sl⟩, ho, hc, n, hd⟩, hs⟩ := I.tuple hT
  simp only at hc hd
  subst hc hd
  refine wpAny_binaryOp_repeat_ref (T := "tuple") (U := "int") (by decide) ⟨_, ho, rfl⟩ (fun s' => typeIs_int s' 1 t) noFill_tuple_mul F.fills_int_mul F.slot_int_rmul repeat_tuple F.slot_int_index.lookup
    (call_meets F.slot_int_rmul (typeIs_int s 1 t) F.entry_int_rmul (F.args_int_rmul_2 _ _) (int_rmul_tuple 1 t l its.toArray n dd sl)
      ⟨ho, rfl, ⟨_, ho, rfl⟩, call_meets F.slot_tuple_mul ⟨_, ho, rfl⟩ F.entry_tuple_mul (F.args_tuple_mul_2 _ _) (tuple_mul1 l its.toArray n sl dd t) ⟨ho, ?_⟩⟩)
  exact ⟨.ref l, H, I, rfl, q⟩
noncomputable def repTOk (k : Int) (n : Nat) : Bool := @decide (1 ≤ k ∧ k ≤ 1000 ∧ 1 ≤ n ∧ n ≤ 1000) (Classical.propDecidable _)
noncomputable def gMulT : PyData → PyData → Option PyData
  | .tuple ds, .int k => if repTOk k ds.length = true then some (.tuple (reps k ds)) else none
  | _, _ => none
theorem repT_of {k : Int} {n : Nat} (h : repTOk k n = true) : 1 ≤ k ∧ k ≤ 1000 ∧ 1 ≤ n ∧ n ≤ 1000 := by
  unfold repTOk at h
  exact @of_decide_eq_true _ (Classical.propDecidable _) h
theorem repT_ok {k : Int} {n : Nat} (h : 1 ≤ k ∧ k ≤ 1000 ∧ 1 ≤ n ∧ n ≤ 1000) : repTOk k n = true := @decide_eq_true _ (Classical.propDecidable _) h
variable [Tb]
theorem o2_mulT : Op2 K (fun x y H Q => rRep1 K x y H Q ∨ rRepT K x y H Q) gMulT := by
  intro c F σ H env x y d e z Q R hx hy h k
  unfold gMulT at h
  split at h
  · rename_i ds m
    by_cases hz : repTOk m ds.length = true
    · rw [if_pos hz] at h
      cases h
      obtain ⟨h1, h2, h3, h4⟩ := repT_of hz
      cases hy
      cases hx with
      | @tup a xs _ hs ha =>
        by_cases h5 : m = 1
        · subst h5
          refine .inl ⟨a, xs, rfl, rfl, sqT_mono R.sub hs, ?_⟩
          refine k _ F H (Same.refl F) R ?_
          have : reps 1 ds = ds := by simp [reps]
          rw [this]
          exact .tup hs ha
        · refine .inr ⟨a, m, xs, rfl, rfl, sqT_mono R.sub hs, fun z => by rw [z] at ha; have := ha.len; simp at this; omega, by omega, h2, by rw [ha.len]; exact h4, fun p hp => ?_⟩
          obtain ⟨sF, R1⟩ := R.laid (o := .tup (List.replicate m.toNat xs).flatten) hp
          refine k _ _ _ sF R1 (.tup (SqT.of upd_same) ?_)
          exact (dp_reps ha m.toNat).up sF
    · rw [if_neg hz] at h
      cases h
  · cases h
theorem op_mulT : OpR X (binaryOp .Mult) (fun x y H Q => rRep1 X.K x y H Q ∨ rRepT X.K x y H Q) := OpR.or op_rep1 op_repT
theorem gMulT_n {ds : List PyData} {n : Nat} (h1 : 1 ≤ n) (h2 : n ≤ 1000) (h3 : 1 ≤ ds.length) (h4 : ds.length ≤ 1000) : gMulT (.tuple ds) (.int (n : Int)) = some (.tuple (List.replicate n ds).flatten) := by
  show (if repTOk (n : Int) ds.length = true then some (PyData.tuple (reps (n : Int) ds)) else none) = _
  rw [if_pos (repT_ok ⟨by omega, by omega, h3, h4⟩)]
  unfold reps
  rw [Int.toNat_natCast]
end
end Dn
set_option Elab.async false
set_option linter.all false
set_option maxRecDepth 100000
namespace Dn
open PySem PySem.Spec PyProof.Rows L2
open PySem.W (Frag)
variable [Tb]
section
/-- a letter of a text -/
@[simp] def gIxS : PyData → PyData → Option PyData
  | .str z, .int i => if okN z.length then (atI z.cps.toList i).map fun c => .str ⟨#[c]⟩ else none
  | _, _ => none
end
def setAt (rows : List (List PyData)) (i j : Nat) (d : PyData) : List (List PyData) := rows.set i ((rows.getD i []).set j d)
/-- new rows that nothing leans on -/
structure TbI (K : Frag) (F0 H0 : Hp) (D : Addr) (as : List Addr) (F H : Hp) (rows : List (List PyData)) : Prop where
  s : Same F0 F
  b : Bs F H
  k : Kp H0 H
  nw : ∀ a, F a ≠ none → F0 a ≠ none ∨ H0 a = none
  d : H D = some (.lst (as.map V.ref))
  fD : F D = none
  hD : H0 D = none
  nd : as.Nodup
  nin : D ∉ as
  len : as.length = rows.length
  rw : ∀ (j : Nat) (a : Addr), as[j]? = some a → F a = none ∧ H0 a = none ∧ ∃ vs ds, H a = some (.lst vs) ∧ rows[j]? = some ds ∧ DpAll K F vs ds
section
variable {K : Frag} {F0 H0 F H F' H' : Hp} {D : Addr} {as : List Addr} {rows : List (List PyData)}
theorem TbI.laid (I : TbI K F0 H0 D as F H rows) {p : Addr} {xs : List V} (hp : H p = none) : TbI K F0 H0 D as (upd F p (.tup xs)) (upd H p (.tup xs)) rows ∧ Same F (upd F p (.tup xs)) := by
  have hF : F p = none := I.b.sub.free hp
  have sF : Same F (upd F p (.tup xs)) := fun b u e => by rw [upd_ne (ne_of_none e hF)]; exact e
  have hDp : D ≠ p := ne_of_none I.d hp
  refine ⟨⟨I.s.trans sF, ⟨fun b u e => ?_, I.b.nf.upd .tup, tabs_grow I.b.tab hp⟩, I.k.trans (Kp.of fun b u e => by rw [upd_ne (ne_of_none e hp)]; exact e), fun a ha => ?_, by rw [upd_ne hDp]; exact I.d, by rw [upd_ne hDp]; exact I.fD, I.hD, I.nd, I.nin, I.len, fun j a ha => ?_⟩, sF⟩
  · by_cases hb : b = p
    · subst hb; rw [upd_same] at e ⊢; exact e
    · rw [upd_ne hb] at e ⊢; exact I.b.sub b u e
  · by_cases hb : a = p
    · subst hb; exact .inr (I.k.h0 hp)
    · rw [upd_ne hb] at ha; exact I.nw a ha
  · obtain ⟨h1, h2, vs, ds, h3, h4, h5⟩ := I.rw j a ha
    have : a ≠ p := ne_of_none h3 hp
    exact ⟨by rw [upd_ne this]; exact h1, h2, vs, ds, by rw [upd_ne this]; exact h3, h4, h5.up sF⟩
theorem TbI.call (I : TbI K F0 H0 D as F H rows) (s : Same F F') (b : Bs F' H') (k : Kp H H') (n : ∀ a, F' a ≠ none → F a ≠ none ∨ H a = none) : TbI K F0 H0 D as F' H' rows := by
  have nF : ∀ a ys, F a = none → H a = some (.lst ys) → F' a = none := fun a ys h1 h2 => by
    cases e : F' a with
    | none => rfl
    | some o =>
      rcases n a (by rw [e]; simp) with z | z
      · exact absurd h1 z
      · rw [h2] at z; cases z
  refine ⟨I.s.trans s, b, I.k.trans k, fun a ha => ?_, k.keep D _ (fun _ z => by cases z) I.d, nF D _ I.fD I.d, I.hD, I.nd, I.nin, I.len, fun j a ha => ?_⟩
  · rcases n a ha with z | z
    · exact I.nw a z
    · exact .inr (I.k.h0 z)
  · obtain ⟨h1, h2, vs, ds, h3, h4, h5⟩ := I.rw j a ha
    exact ⟨nF a _ h1 h3, h2, vs, ds, k.keep a _ (fun _ z => by cases z) h3, h4, h5.up s⟩
theorem TbI.put (I : TbI K F0 H0 D as F H rows) {i j : Nat} {a : Addr} {vs : List V} {v : V} {d : PyData} (hi : as[i]? = some a) (hv : H a = some (.lst vs)) (hd : Dp K F v d) : TbI K F0 H0 D as F (upd H a (.lst (vs.set j v))) (setAt rows i j d) := by
  obtain ⟨h1, h2, vs', ds, h3, h4, h5⟩ := I.rw i a hi
  rw [hv] at h3
  cases h3
  have hDa : D ≠ a := fun z => I.nin (by rw [z]; exact List.mem_of_getElem? hi)
  refine ⟨I.s, ⟨fun b u e => ?_, I.b.nf, tabs_wr I.b.tab hv⟩, ⟨fun b u n e => ?_, fun b hb => ?_⟩, I.nw, by rw [upd_ne hDa]; exact I.d, I.fD, I.hD, I.nd, I.nin, by unfold setAt; rw [List.length_set]; exact I.len, fun m c hm => ?_⟩
  · have ne : b ≠ a := fun z => by rw [z, h1] at e; cases e
    rw [upd_ne ne]; exact I.b.sub b u e
  · have ne : b ≠ a := fun z => by rw [z, h2] at e; cases e
    rw [upd_ne ne]; exact I.k.keep b u n e
  · have ne : b ≠ a := fun z => hb (by rw [z]; exact h2)
    rw [upd_ne ne]; exact I.k.dom b hb
  · by_cases hma : m = i
    · subst hma
      rw [hi] at hm
      cases hm
      have hr : rows.getD m [] = ds := by rw [List.getD_eq_getElem?_getD, h4]; rfl
      have hlt : m < rows.length := (List.getElem?_eq_some_iff.mp h4).1
      exact ⟨h1, h2, _, ds.set j d, upd_same, by unfold setAt; rw [hr, List.getElem?_set_self hlt], DpAll.set hd j h5⟩
    · obtain ⟨g1, g2, ws, es, g3, g4, g5⟩ := I.rw m c hm
      have ne : c ≠ a := fun z => by subst z; exact hma (nodup_get I.nd hm hi)
      exact ⟨g1, g2, ws, es, by rw [upd_ne ne]; exact g3, by unfold setAt; rw [List.getElem?_set_ne (fun z => hma z.symm)]; exact g4, g5⟩
theorem TbI.junk (I : TbI K F0 H0 D as F H rows) {p : Addr} {xs : List V} (hp : H p = none) : TbI K F0 H0 D as F (upd H p (.lst xs)) rows := by
  have hDp : D ≠ p := ne_of_none I.d hp
  refine ⟨I.s, ⟨fun b u e => ?_, I.b.nf, tabs_grow I.b.tab hp⟩, I.k.trans (Kp.of fun b u e => by rw [upd_ne (ne_of_none e hp)]; exact e), I.nw, by rw [upd_ne hDp]; exact I.d, I.fD, I.hD, I.nd, I.nin, I.len, fun j a ha => ?_⟩
  · have := I.b.sub b u e
    rw [upd_ne (ne_of_none this hp)]; exact this
  · obtain ⟨h1, h2, vs, ds, h3, h4, h5⟩ := I.rw j a ha
    have : a ≠ p := ne_of_none h3 hp
    exact ⟨h1, h2, vs, ds, by rw [upd_ne this]; exact h3, h4, h5⟩
theorem TbI.add (I : TbI K F0 H0 D as F H rows) {q : Addr} {vs : List V} {ds : List PyData} (hq : H q = none) (hv : DpAll K F vs ds) : TbI K F0 H0 D (as ++ [q]) F (upd (upd H q (.lst vs)) D (.lst (as.map V.ref ++ [V.ref q]))) (rows ++ [ds]) := by
  have I1 := I.junk (xs := vs) hq
  have hqD : q ≠ D := fun z => by rw [z, I.d] at hq; cases hq
  have hFq : F q = none := I.b.sub.free hq
  have hHq : H0 q = none := I.k.h0 hq
  have hqa : q ∉ as := fun z => by
    obtain ⟨j, hj⟩ := List.getElem?_of_mem z
    obtain ⟨_, _, vs', _, h3, _⟩ := I.rw j q hj
    rw [h3] at hq; cases hq
  refine ⟨I.s, ⟨fun b u e => ?_, I.b.nf, tabs_wr I1.b.tab I1.d⟩, ⟨fun b u n e => ?_, fun b hb => ?_⟩, I.nw, by rw [List.map_append]; exact upd_same, I.fD, I.hD, ?_, ?_, by simp [I.len], fun m c hm => ?_⟩
  · have ne : b ≠ D := fun z => by rw [z, I.fD] at e; cases e
    rw [upd_ne ne]; exact I1.b.sub b u e
  · have ne : b ≠ D := fun z => by rw [z, I.hD] at e; cases e
    rw [upd_ne ne]; exact I1.k.keep b u n e
  · have ne : b ≠ D := fun z => hb (by rw [z]; exact I.hD)
    rw [upd_ne ne]; exact I1.k.dom b hb
  · rw [List.nodup_append]
    refine ⟨I.nd, by simp, fun a ha b hb => ?_⟩
    rw [List.mem_singleton] at hb
    subst hb
    exact fun z => hqa (by rw [← z]; exact ha)
  · intro z
    rcases List.mem_append.mp z with z | z
    · exact I.nin z
    · rw [List.mem_singleton] at z
      exact hqD z.symm
  · by_cases hlt : m < as.length
    · rw [List.getElem?_append_left hlt] at hm
      obtain ⟨h1, h2, ws, es, h3, h4, h5⟩ := I.rw m c hm
      have n1 : c ≠ D := fun z => I.nin (by rw [← z]; exact List.mem_of_getElem? hm)
      have n2 : c ≠ q := fun z => hqa (by rw [← z]; exact List.mem_of_getElem? hm)
      refine ⟨h1, h2, ws, es, by rw [upd_ne n1, upd_ne n2]; exact h3, ?_, h5⟩
      rw [List.getElem?_append_left (by rw [← I.len]; exact hlt)]
      exact h4
    · have hme : m = as.length := by
        have := (List.getElem?_eq_some_iff.mp hm).1
        rw [List.length_append, List.length_singleton] at this
        omega
      subst hme
      rw [List.getElem?_append_right (Nat.le_refl _), Nat.sub_self] at hm
      cases hm
      refine ⟨hFq, hHq, vs, ds, by rw [upd_ne hqD]; exact upd_same, ?_, hv⟩
      rw [I.len, List.getElem?_append_right (Nat.le_refl _), Nat.sub_self]
      rfl
end
section
variable {K : Frag} {P : List PyData → Option PyData} {E : XK} {F0 H0 F H : Hp} {D : Addr} {as : List Addr} {rows rows' : List (List PyData)}
/-- the rows are as wide as they are many -/
def Sq (rows : List (List PyData)) (n : Nat) : Prop := rows.length = n ∧ ∀ r ∈ rows, r.length = n
theorem TbI.at (I : TbI K F0 H0 D as F H rows) {n i : Nat} (hq : Sq rows n) (hi : i < n) : ∃ a vs, as[i]? = some a ∧ (as.map V.ref)[i]? = some (.ref a) ∧ H a = some (.lst vs) ∧ vs.length = n := by
  have hl : i < as.length := by rw [I.len, hq.1]; exact hi
  have ha : as[i]? = some as[i] := List.getElem?_eq_getElem hl
  obtain ⟨_, _, vs, ds, h3, h4, h5⟩ := I.rw i _ ha
  exact ⟨_, vs, ha, by rw [List.getElem?_map, ha]; rfl, h3, by rw [h5.len]; exact hq.2 ds (List.mem_of_getElem? h4)⟩
end
end Dn
set_option Elab.async false
set_option linter.all false
set_option maxRecDepth 100000
namespace Dn
open PySem PySem.Spec PyProof.Rows L2
open PySem.W (Frag)
end Dn
set_option Elab.async false
set_option linter.all false
set_option maxRecDepth 100000
namespace Dn
open PySem PySem.Spec PyProof.Rows L2
/-- no one looks on, and no file of the run bears _pylong -/
structure SeerK (base : Heap) (P : Program) : Prop where
  ns : base.NoSeer
  tree : P.given.tree = none
section
variable [Tb]
variable {X : Cx}
/-- (a word of its own, so that simp leaves it alone) -/
def nzI (j : Int) : Bool := decide (j ≠ 0)
@[simp] noncomputable def gFdivP : PyData → PyData → Option PyData
  | .int i, .int j => if divOk j || nzI j then some (.int (i.fdiv j)) else none
  | _, _ => none
end
section
variable {K ex : PySem.W.Frag} {h : Heap}
theorem look_app : ∀ (K ex : PySem.W.Frag) (a : Addr) (o : Obj), (K ++ ex).lookup a = some o → K.lookup a = some o ∨ (K.lookup a = none ∧ (a, o) ∈ ex)
  | [], ex, a, o, e => .inr ⟨rfl, by
    induction ex with
    | nil => cases e
    | cons p ex ih =>
      obtain ⟨b, o'⟩ := p
      rw [List.nil_append, List.lookup_cons] at e
      cases hb : a == b with
      | true =>
        rw [hb] at e
        obtain rfl : a = b := beq_iff_eq.mp hb
        cases e
        exact List.mem_cons_self
      | false =>
        rw [hb] at e
        exact List.mem_cons_of_mem _ (ih e)⟩
  | (b, o') :: K, ex, a, o, e => by
    rw [List.cons_append, List.lookup_cons] at e
    rw [List.lookup_cons]
    cases hb : a == b with
    | true => rw [hb] at e; exact .inl e
    | false =>
      rw [hb] at e
      exact look_app K ex a o e
theorem look_left : ∀ (K ex : PySem.W.Frag) (a : Addr) (o : Obj), K.lookup a = some o → (K ++ ex).lookup a = some o
  | [], _, _, _, e => by cases e
  | (b, o') :: K, ex, a, o, e => by
    rw [List.cons_append, List.lookup_cons]
    rw [List.lookup_cons] at e
    cases hb : a == b with
    | true => rw [hb] at e; exact e
    | false => rw [hb] at e; exact look_left K ex a o e
theorem look_mem : ∀ (ex : PySem.W.Frag) (a : Addr) (o : Obj), (a, o) ∈ ex → ∃ o', ex.lookup a = some o'
  | [], _, _, e => by cases e
  | (b, o') :: K, a, o, e => by
    rw [List.lookup_cons]
    cases hb : a == b with
    | true => exact ⟨_, rfl⟩
    | false =>
      rcases List.mem_cons.mp e with z | z
      · cases z
        simp at hb
      · exact look_mem K a o z
theorem app_in (hK : K.In h) (hex : ∀ p ∈ ex, h.get? p.1 = some p.2) : PySem.W.Frag.In (K ++ ex) h := fun a o e => by
  rcases look_app K ex a o e with z | ⟨_, z⟩
  · exact hK a o z
  · exact hex _ z
/-- what the new part says of a heap, too -/
theorem app_ex (hK : K.In h) (hex : ∀ p ∈ ex, h.get? p.1 = some p.2) {base : Heap} (hb : PySem.W.Frag.In (K ++ ex) base) : ∀ p ∈ ex, base.get? p.1 = some p.2 := fun p hp => by
  obtain ⟨o', ho⟩ := look_mem (K ++ ex) p.1 p.2 (List.mem_append_right _ hp)
  have h1 := app_in hK hex p.1 o' ho
  have h2 := hex _ hp
  have h3 := hb p.1 o' ho
  rw [h1] at h2
  rw [h3, h2]
theorem seer_ex (N : h.NoSeer) : ∃ ex : PySem.W.Frag, (∀ p ∈ ex, h.get? p.1 = some p.2) ∧ (∀ p ∈ ex, (∃ es n, p.2.data = .dict es n) ∨ p.2.cls = .type "module") ∧ ∀ base : Heap, (∀ p ∈ ex, base.get? p.1 = some p.2) → base.NoSeer := by
  obtain ⟨mc, ⟨o2, es2, n2, g2, d2, r2⟩, c1, c2⟩ := N.statics
  obtain ⟨mm, ⟨o1, es1, n1, g1, d1, r1⟩, m1⟩ := N.mods
  obtain ⟨mb, ⟨o0, es0, n0, g0, d0, r0⟩, b1⟩ := N.imp
  obtain ⟨mg, bm, ob, ⟨o3, es3, n3, g3, d3, r3⟩, q1, q2, q3, q4⟩ := N.main
  refine ⟨[(cStatics, o2), (sysModules, o1), (builtinsNs, o0), (mainGlobals, o3), (bm, ob)], ?_, ?_, fun base hb => ?_⟩
  · intro p hp
    simp only [List.mem_cons, List.not_mem_nil, or_false] at hp
    rcases hp with rfl | rfl | rfl | rfl | rfl
    · exact g2
    · exact g1
    · exact g0
    · exact g3
    · exact q2
  · intro p hp
    simp only [List.mem_cons, List.not_mem_nil, or_false] at hp
    rcases hp with rfl | rfl | rfl | rfl | rfl
    · exact .inl ⟨_, _, d2⟩
    · exact .inl ⟨_, _, d1⟩
    · exact .inl ⟨_, _, d0⟩
    · exact .inl ⟨_, _, d3⟩
    · exact .inr q3
  · have k2 := hb (cStatics, o2) (by simp)
    have k1 := hb (sysModules, o1) (by simp)
    have k0 := hb (builtinsNs, o0) (by simp)
    have k3 := hb (mainGlobals, o3) (by simp)
    have kb := hb (bm, ob) (by simp)
    exact { statics := ⟨mc, ⟨o2, es2, n2, k2, d2, r2⟩, c1, c2⟩
            mods := ⟨mm, ⟨o1, es1, n1, k1, d1, r1⟩, m1⟩
            imp := ⟨mb, ⟨o0, es0, n0, k0, d0, r0⟩, b1⟩
            main := ⟨mg, bm, ob, ⟨o3, es3, n3, k3, d3, r3⟩, q1, kb, q3, q4⟩ }
/-- the head for a law without tables: its def, its promise over every base in which no one sees _pylong come in -/
def LawAtN (l : PySem.W.OpenLaw) (w : World) (K : PySem.W.Frag) (CX : CXT) (k n : Nat) (x : Str) (mg : Str → Option Value) (fa : Addr) (h : Heap) : Prop :=
  ∃ (fd : FuncData) (sp : Sp), (∀ (s : Shared) (u : Value), BindsTo s fd ⟨[u], []⟩ [(x, u)]) ∧
    (∀ (H : Hp) (a : Addr) (ns : List Int), ns.length ≤ n → (∀ z ∈ ns, Builtin.Int.intBits z ≤ 1048576) → SqL K H a (ns.map V.int) → sp [.ref a] H (fun v _ => v = .bl true) fun _ _ _ => False) ∧
    ∀ base : Heap, K.In base → base.Ns mainGlobals mg → base.NoSeer → FnOk l.prog w K mg base CX k fa fd [x] sp
section
variable {P : Program} {w : World} {K : PySem.W.Frag} {mg mb : Str → Option Value} {CX : CXT} {k : Nat} {fa a : Addr} {fd : FuncData} {x : Str} {sp : Sp} {s1 : Shared} {vs : List Value} {ns : List Int}
/-- the script as an object that is read only, unless it is one of the module's own -/
def scriptH (K : PySem.W.Frag) (a : Addr) (o : Obj) (ns : List Int) : Hp := fun b => if b = a ∧ K.lookup a = none then some (.frz o (.lst (ns.map V.int))) else none
theorem scriptH_at {o : Obj} {b : Addr} {u : HO} (h : scriptH K a o ns b = some u) : b = a ∧ K.lookup a = none ∧ u = .frz o (.lst (ns.map V.int)) := by
  unfold scriptH at h
  split at h
  · rename_i c
    cases h
    exact ⟨c.1, c.2, rfl⟩
  · cases h
theorem head_call (inK : K.In s1.heap) (glob : s1.heap.Ns mainGlobals mg) (blt : s1.heap.Ns builtinsNs mb) (boot : ∀ x : Str, x ≠ "__name__" → mb x = bootBuiltins x) (lim : s1.heap.NoLimit) (gens : s1.gens = #[])
    (there : s1.heap.get? a = some { cls := .type "list", data := .seq vs.toArray }) (isI : IntsAre vs ns) (few : ns.length ≤ sizeLine) (hr : Room k callerA)
    (F : ∀ base : Heap, K.In base → base.Ns mainGlobals mg → FnOk P w K mg base CX k fa fd [x] sp) (bind : ∀ (s : Shared) (u : Value), BindsTo s fd ⟨[u], []⟩ [(x, u)])
    (want : ∀ H : Hp, SqL K H a (ns.map V.int) → sp [.ref a] H (fun v _ => v = .bl true) fun _ _ _ => False) (quiet : ∀ H e s', CX [] H s1 (fun _ _ _ => False) e s' → False) :
    codeAny (model P w) callerA (.call (.ref fa) ⟨[.ref a], []⟩) (fun r s' => r = .ok (.ret (.bool true)) ∧ OldK s1.heap s'.heap ∧ s'.os = s1.os ∧ AllBare s'.gens) s1 := by
  have reads := vals_ints isI
  obtain ⟨o, ho⟩ : ∃ o : Obj, o = { cls := .type "list", data := .seq vs.toArray } := ⟨_, rfl⟩
  rw [← ho] at there
  obtain ⟨H, hH⟩ : ∃ H : Hp, H = scriptH K a o ns := ⟨_, rfl⟩
  have only : ∀ {b u}, H b = some u → b = a ∧ K.lookup a = none ∧ u = .frz o (.lst (ns.map V.int)) := fun {b u} e => scriptH_at (by rw [← hH]; exact e)
  have dark : ∀ {b ob}, s1.heap.get? b = some ob → (∀ xs m, ob.data ≠ .seq xs m) → H b = none := fun {b ob} e no => by
    cases q : H b with
    | none => rfl
    | some u =>
      obtain ⟨rfl, _, _⟩ := only q
      rw [there] at e
      cases e
      exact (no vs.toArray 0 (by rw [ho])).elim
  have names : ∀ {b : Addr} {m : Str → Option Value}, s1.heap.Ns b m → (hidT s1.heap H).Ns b m := fun {b m} ⟨ob, es, ep, e, d, r⟩ => ⟨ob, es, ep, hidT_get e (dark e fun xs n z => by rw [d] at z; cases z), d, r⟩
  have keepK : K.In (hidT s1.heap H) := fun b ob e => hidT_get (inK b ob e) (by
    cases q : H b with
    | none => rfl
    | some u =>
      obtain ⟨rfl, no, _⟩ := only q
      rw [no] at e
      cases e)
  obtain ⟨mc, l1, l2⟩ := lim
  have okH : HOk P w H s1.heap := fun b u e => by
    obtain ⟨rfl, _, rfl⟩ := only e
    exact ⟨there, by rw [List.length_map]; exact few, vs, _, reads, by rw [there, ho]⟩
  have lies : SqL K H a (ns.map V.int) := by
    cases q : K.lookup a with
    | none => exact .inl (.inr ⟨o, by rw [hH]; unfold scriptH; rw [if_pos ⟨rfl, q⟩]⟩)
    | some ob =>
      have e := inK a ob q
      rw [there] at e
      cases e
      exact .inr ⟨o, vs.toArray, 0, q, by rw [ho], by rw [ho], by rw [ho], by rw [List.size_toArray, isI.length]; exact few, reads⟩
  have env0 : Env0 P w K mg (hidT s1.heap H) callerA [] s1 H := ⟨rfl, ⟨keepK, names glob, ⟨mb, names blt, boot⟩, ⟨mc, names l1, l2⟩⟩, fun _ _ e => of_hidT e, Nat.le_of_eq (hidT_size _ _), trivial, fun _ z => (nomatch z), okH, .of_eq gens⟩
  refine codeAny_mono ((F _ keepK (names glob)).run (us := [Value.ref a]) (vs := [V.ref a]) hr env0 (bind s1 (.ref a)) (.cons rfl .nil) (want H lies)) fun r s' q => ?_
  match r, q with
  | .error e, q => exact (quiet H e s' q).elim
  | .ok .next, q => exact False.elim q
  | .ok .brk, q => exact False.elim q
  | .ok .cont, q => exact False.elim q
  | .ok (.ret u), ⟨v, H2, os, bare, un, ok2, rv, tru⟩ =>
    have e1 : v = .bl true := tru
    subst e1
    cases (show u = Value.bool true from rv)
    refine ⟨rfl, OldK.of_keep fun b ob e => ?_, os, bare⟩
    cases q : H b with
    | none => exact un.keep b ob e q (fun z => nomatch z) (fun z => nomatch z)
    | some y =>
      obtain ⟨rfl, _, rfl⟩ := only q
      have z := ok2 b _ (un.frzs b o _ q)
      rw [there] at e
      cases e
      exact z.1
end
theorem walk_ofTsN {l : PySem.W.OpenLaw} {n k : Nat} {q : Program} {loose : List Str} {XP : (Str → Option Value) → Heap → Prop} {YP : World → Heap → Prop} {d : DefRec} {K : Params → PySem.W.Frag} {CX : World → CXT} {x : Str}
    (hn : l.most = some n) (hn2 : n ≤ sizeLine) (hdf : d.params.defaults = []) (hr : Room k callerA) (hin : importsNone q = true) (hY : ∀ (w : World) (h : Heap), YP w h → (K w.params).In h)
    (F : ∀ (w : World) (mg : Str → Option Value) (fa : Addr) (h : Heap), YP w h → (K w.params).In h → h.Ns mainGlobals mg → mg d.name = some (.ref fa) → LawAtN l w (K w.params) (CX w) k n x mg fa h)
    (hCX : ∀ (w : World) (H : Hp) (s : Shared) (e : Value) (s' : Shared), CX w [] H s (fun _ _ _ => False) e s' → False) :
    PySem.W.WalkO q loose XP YP l.row.toRowW d [] (fun f vs => PySem.call f vs) := by
  refine Att.attach_callB hn hdf fun w s₀ s1 mg mb fa o pm cd doc a vs ns G Y ho hd hcd hmg hobj hints hlen hbits hg => ?_
  have KX := hY w _ Y
  obtain ⟨ex, hex, hsort, hback⟩ := seer_ex (G.T.seer hin)
  obtain ⟨fd, sp, hb, hsp, hF⟩ := F w mg fa _ Y KX G.T.g hmg
  have down : ∀ base : Heap, PySem.W.Frag.In (K w.params ++ ex) base → (K w.params).In base := fun base hb a o e => hb a o (look_left _ _ a o e)
  refine head_call (K := K w.params ++ ex) (app_in KX hex) G.T.g G.T.b G.T.builtins G.T.nolimit hg hobj hints (Nat.le_trans hlen hn2) hr (fun base hKb hns => (hF base (down base hKb) hns (hback base (app_ex KX hex hKb))).wide (down base hKb)) hb (fun H hS => hsp H a ns hlen hbits ?_) fun H e s' => hCX w H s1 e s'
  rcases hS with z | ⟨o', its, m, e, e1, e2, e3, e4, e5⟩
  · exact .inl z
  · rcases look_app _ _ _ _ e with z | ⟨_, z⟩
    · exact .inr ⟨o', its, m, z, e1, e2, e3, e4, e5⟩
    · rcases hsort _ z with ⟨es, m', q⟩ | q
      · have q' : o'.data = .dict es m' := q
        rw [q'] at e3; cases e3
      · have q' : o'.cls = .type "module" := q
        rw [q'] at e1
        exact absurd e1 (by decide)
end
end Dn
set_option Elab.async false
set_option linter.all false
set_option maxRecDepth 100000
namespace Dn
open PySem PySem.Spec PyProof.Rows L2
variable [Tb]
def sPar3 (i j l : Nat) (f : Fl) : Fs := fun env => (f env).bind fun p => match p.1 with
  | [d, e, g] => some (.nx, ((p.2.set i (.val d)).set j (.val e)).set l (.val g))
  | _ => none
def kPar3 (i j l : Nat) : List PyData × En → Option (Flw × En) := fun p => match p.1 with
  | [d, e, g] => some (.nx, ((p.2.set i (.val d)).set j (.val e)).set l (.val g))
  | _ => none
@[simp] theorem ev_Par3 {i j l : Nat} {f : Fl} {x : Sl} {e : En} : sPar3 i j l f (x :: e) = (f (x :: e)).bind (kPar3 i j l) := rfl
@[simp] theorem kPar3_e {i j l : Nat} {d d2 d3 : PyData} {e : En} : kPar3 i j l ([d, d2, d3], e) = some (.nx, ((e.set i (.val d)).set j (.val d2)).set l (.val d3)) := rfl
noncomputable def eRevL (fa : Fe) : Fe := fun env => (fa env).bind fun p => match p.1 with
  | .list ds => some (.list ds.reverse, p.2)
  | _ => none
def kRevL (p : PyData × En) : Option (PyData × En) := match p.1 with
  | .list ds => some (.list ds.reverse, p.2)
  | _ => none
@[simp] theorem ev_RevL {a : Fe} {x : Sl} {e : En} : eRevL a (x :: e) = (a (x :: e)).bind kRevL := rfl
@[simp] theorem kRevL_l {ds : List PyData} {e : En} : kRevL (.list ds, e) = some (.list ds.reverse, e) := rfl
end Dn
set_option Elab.async false
set_option linter.all false
set_option maxRecDepth 100000
namespace Dn
open PySem PySem.Spec PyProof.Rows L2
open PySem.W (Frag)
variable [Tb]
theorem hu65 {A : Around} {k : Nat} (hr : Room k A) : A.units + 65 < cLine := by have := hr.un; omega
def ePop (i : Nat) : Fe := fun env => if isOwn env i then match env[i]? with
  | some (.own b ds) => (ds[ds.length - 1]?).map fun d => (d, env.set i (.own b ds.dropLast))
  | _ => none else none
theorem dpAll_at {K : Frag} {F : Hp} : ∀ {vs : List V} {ds : List PyData} {j : Nat} {d : PyData}, DpAll K F vs ds → ds[j]? = some d → ∃ v, vs[j]? = some v ∧ Dp K F v d
  | [], _, j, d, h, e => by cases h; simp at e
  | v :: vs, _, 0, d, h, e => by
    cases h with
    | cons h1 h2 => simp at e; subst e; exact ⟨v, rfl, h1⟩
  | v :: vs, _, j + 1, d, h, e => by
    cases h with
    | cons h1 h2 => simpa using dpAll_at h2 (by simpa using e)
section
variable {e : En} {f : Fl} {x : Sl} {i : Nat}
omit [Tb]
def kPop (i : Nat) (e : En) : Option Sl → Option (PyData × En)
  | some (.own b ds) => (ds[ds.length - 1]?).map fun d => (d, e.set i (.own b ds.dropLast))
  | _ => none
@[simp] theorem ePop_k : ePop i (x :: e) = if isOwn (x :: e) i then kPop i (x :: e) ((x :: e)[i]?) else none := rfl
end
def tNeO (i : Nat) (fb : Fe) : Ft := fun env => if isOwn env i then (fb env).bind fun p => match p.2[i]? with
  | some (.own _ ds) => if SeqAt.shaped (.list ds) && SeqAt.shaped p.1 then some (!PyData.eqv (.list ds) p.1, p.2) else none
  | _ => none else none
section
variable {X : Cx} {b : Expr} {fb : Fe} {pos : Pos}
theorem dt_neO (i : Nat) {x : Str} {p2 : Pos} (hu : X.A.units + 64 < cLine) (hb : PE X b (Ge X.K fb)) (hN : X.N[i]? = some x := by rfl) (hv : Vis X.env.scope x := by first | exact Or.inl rfl | exact Or.inr (Or.inl rfl) | exact Or.inr (Or.inr rfl)) (hd : (x == ("__debug__" : Str)) = false := by decide)
    (hcd : (x == ("__classdict__" : Str)) = false := by decide) : PT X (.Compare (.Name x p2) [.NotEq] [b] pos) (Gt X.K (tNeO i fb)) := by
  refine PT.imp (pt_cmpR (op_neD hu) (pe_var hN hv hd hcd) hb (nomark _)) fun σ H Q ⟨c, F, env, d, env', R, e, k⟩ => ?_
  unfold tNeO at e
  by_cases ho : isOwn env i = true
  · rw [if_pos ho] at e
    simp only [Option.bind_eq_some_iff] at e
    obtain ⟨⟨d1, n1⟩, h1, h2⟩ := e
    dsimp only at h2
    split at h2
    · rename_i b' ds hi
      split at h2
      · rename_i hz
        rw [Bool.and_eq_true] at hz
        cases h2
        obtain ⟨p, ys, hp, _⟩ := own_of R ho
        refine ⟨.ref p, hp, c, F, env, d1, _, R, h1, fun v F' H' s R' hv => ?_⟩
        exact ⟨_, _, (own_dp R' hi hp).sh hz.1, (hv.up R'.sub).sh hz.2, hz.1, hz.2, _, rfl, k F' H' s R'⟩
      · cases h2
    · cases h2
  · rw [if_neg ho] at e
    cases e
end
section
variable {e : En} {fb : Fe} {x : Sl} {i : Nat} {d : PyData}
omit [Tb]
def kNe2 (d : PyData) (e : En) : Option Sl → Option (Bool × En)
  | some (.own _ ds) => if SeqAt.shaped (.list ds) && SeqAt.shaped d then some (!PyData.eqv (.list ds) d, e) else none
  | _ => none
def kNe (i : Nat) (p : PyData × En) : Option (Bool × En) := kNe2 p.1 p.2 p.2[i]?
@[simp] theorem tNeO_k : tNeO i fb (x :: e) = if isOwn (x :: e) i then (fb (x :: e)).bind (kNe i) else none := rfl
@[simp] theorem kNe_e : kNe i (d, e) = kNe2 d e e[i]? := rfl
theorem shaped_nil8 : SeqAt.shaped (.list []) = true := by decide +kernel
theorem kNe2_nil {b : Bool} {ds : List PyData} (h : SeqAt.shaped (.list ds) = true) : kNe2 (.list []) e (some (.own b ds)) = some (!ds.isEmpty, e) := by
  unfold kNe2
  simp only [h, shaped_nil8, Bool.and_self, if_true]
  cases ds <;> simp [PyData.eqv, PyData.eqvAll]
end
end Dn
set_option Elab.async false
set_option linter.all false
set_option maxRecDepth 100000
namespace Dn
open PySem PySem.Spec PyProof.Rows L2
open PySem.W (Frag)
def isLs (env : En) (i : Nat) : Bool := match env[i]? with
  | some (.own _ _) => true
  | some (.val (.list _)) => true
  | _ => false
def eIdL (i : Nat) (fa : Fe) : Fe := fun env => if isLs env i then (fa env).bind fun p => match p.2[i]? with
  | some (.own _ ds) => if SeqAt.shaped p.1 && SeqAt.shaped (.list ds) then (plD ds p.1).map fun (j : Nat) => (PyData.int (j : Int), p.2) else none
  | some (.val (.list ds)) => if SeqAt.shaped p.1 && SeqAt.shaped (.list ds) then (plD ds p.1).map fun (j : Nat) => (PyData.int (j : Int), p.2) else none
  | _ => none else none
variable [Tb]
section
variable {a : Fe} {x : Sl} {e : En} {i : Nat} {d : PyData}
def kIdL2 (d : PyData) (e : En) (s : Option Sl) : Option (PyData × En) := match s with
  | some (.own _ ds) => if SeqAt.shaped d && SeqAt.shaped (.list ds) then (plD ds d).map fun (j : Nat) => (PyData.int (j : Int), e) else none
  | some (.val (.list ds)) => if SeqAt.shaped d && SeqAt.shaped (.list ds) then (plD ds d).map fun (j : Nat) => (PyData.int (j : Int), e) else none
  | _ => none
def kIdL (i : Nat) (p : PyData × En) : Option (PyData × En) := kIdL2 p.1 p.2 p.2[i]?
def isLs2 (s : Option Sl) : Bool := match s with
  | some (.own _ _) => true
  | some (.val (.list _)) => true
  | _ => false
omit [Tb] in
@[simp] theorem isLs2_own {b : Bool} {ds : List PyData} : isLs2 (some (.own b ds)) = true := rfl
omit [Tb] in
@[simp] theorem isLs2_val {ds : List PyData} : isLs2 (some (.val (.list ds))) = true := rfl
omit [Tb] in
@[simp] theorem ev_IdL : eIdL i a (x :: e) = if isLs2 (x :: e)[i]? then (a (x :: e)).bind (kIdL i) else none := rfl
omit [Tb] in
@[simp] theorem kIdL_e : kIdL i (d, e) = kIdL2 d e e[i]? := rfl
end
end Dn
set_option Elab.async false
set_option linter.all false
set_option maxRecDepth 100000
namespace Dn
open PySem PySem.Spec PyProof.Rows L2
open PySem.W (Frag)
/-- the list of rows in slot i, the places in slots ja and jb -/
def sPutP (i ja jb : Nat) (fl : Fl) : Fs := fun env => (fl env).bind fun p => match p.2[i]?, p.2[ja]?, p.2[jb]? with
  | some (.own q ds), some (.val (.int a)), some (.val (.int b)) => if 0 ≤ a ∧ 0 ≤ b ∧ a.toNat < ds.length ∧ b.toNat < p.1.length then some (.nx, p.2.set i (.own q (ds.set a.toNat (.list (p.1.set b.toNat (.tuple [.int 0, .int 1])))))) else none
  | _, _, _ => none
variable [Tb]
section
variable {i ja jb : Nat} {fl : Fl} {x : Sl} {e : En}
def kPP (i ja jb : Nat) (p : List PyData × En) : Option (Flw × En) := match p.2[i]?, p.2[ja]?, p.2[jb]? with
  | some (.own q ds), some (.val (.int a)), some (.val (.int b)) => if 0 ≤ a ∧ 0 ≤ b ∧ a.toNat < ds.length ∧ b.toNat < p.1.length then some (.nx, p.2.set i (.own q (ds.set a.toNat (.list (p.1.set b.toNat (.tuple [.int 0, .int 1])))))) else none
  | _, _, _ => none
omit [Tb] in
@[simp] theorem ev_PutP : sPutP i ja jb fl (x :: e) = (fl (x :: e)).bind (kPP i ja jb) := rfl
end
end Dn
set_option Elab.async false
set_option linter.all false
set_option maxRecDepth 100000
namespace Dn
open PySem PySem.Spec PyProof.Rows L2
open PySem.W (Frag)
def rngD (hi lo : Int) : List PyData := (List.range (hi - lo).toNat).map fun (i : Nat) => .int (hi - i)
noncomputable def iR3 (f : Fl) : Fi := fun env => (f env).bind fun p => match p.1 with
  | [.int m, .int n, .int c] => if smallI m && smallI n && decide (c = -1) then some (rngD m n, p.2) else none
  | _ => none
variable [Tb]
noncomputable def kR3 (p : List PyData × En) : Option (List PyData × En) := match p.1 with
  | [.int m, .int n, .int c] => if smallI m && smallI n && decide (c = -1) then some (rngD m n, p.2) else none
  | _ => none
@[simp] theorem ev_R3 {l : Fl} {x : Sl} {e : En} : iR3 l (x :: e) = (l (x :: e)).bind kR3 := (rfl)
end Dn
set_option Elab.async false
set_option linter.all false
set_option maxRecDepth 100000
namespace Dn
open PySem PySem.Spec PyProof.Rows L2
open PySem.W (Frag)
end Dn
set_option Elab.async false
set_option linter.all false
set_option maxRecDepth 100000
namespace Dn
open PySem PySem.Spec PyProof.Rows L2
end Dn
set_option Elab.async false
set_option linter.all false
set_option maxRecDepth 100000
namespace Dn
open PySem PySem.Spec PyProof.Rows L2
open PySem.W (Frag)
end Dn
set_option Elab.async false
set_option linter.all false
set_option maxRecDepth 100000
namespace Dn
open PySem PySem.Spec PyProof.Rows L2
end Dn
set_option Elab.async false
set_option linter.all false
set_option maxRecDepth 100000
set_option maxHeartbeats 1000000
namespace Dn
open PySem PySem.Spec PyProof.Rows L2
open PySem.W (Frag)
variable [Tb]
@[simp] def keyOf : PyData → Option Key
  | .int i => some (.inl i)
  | .str s => some (.inr s)
  | _ => none
omit [Tb] in
theorem keyOf_kD (k : Key) : keyOf (kD k) = some k := by cases k <;> rfl
abbrev Kds := List (Key × PyData)
def getY (kd : Kds) (k : Key) : Option PyData := (kd.find? fun p => decide (p.1 = k)).map (·.2)
def putY (kd : Kds) (k : Key) (d : PyData) : Kds := if (kd.any fun p => decide (p.1 = k)) = true then kd.map (fun p => if p.1 = k then (p.1, d) else p) else kd ++ [(k, d)]
def kvD (kd : Kds) : List (PyData × PyData) := kd.map fun p => (kD p.1, p.2)
def dictD (kd : Kds) : PyData := .dict (kvD kd)
/-- the keys and values of a dict as data -/
def kdsOf : List (PyData × PyData) → Option Kds
  | [] => some []
  | (k, d) :: r => (keyOf k).bind fun k => (kdsOf r).map fun kd => (k, d) :: kd
def dictOf : PyData → Option Kds
  | .dict kvs => kdsOf kvs
  | _ => none
omit [Tb] in
theorem kdsOf_kvD : ∀ kd : Kds, kdsOf (kvD kd) = some kd
  | [] => rfl
  | (k, d) :: kd => by
    show (keyOf (kD k)).bind _ = _
    rw [keyOf_kD]
    show (kdsOf (kvD kd)).map _ = _
    rw [kdsOf_kvD kd]
    rfl
omit [Tb] in
@[simp] theorem dictOf_D (kd : Kds) : dictOf (dictD kd) = some kd := kdsOf_kvD kd
inductive Ky (K : Frag) (F : Hp) : List (Key × V) → Kds → Prop where
  | nil : Ky K F [] []
  | cons {k : Key} {v : V} {d : PyData} {kvs : List (Key × V)} {kd : Kds} (h : Dp K F v d) (t : Ky K F kvs kd) : Ky K F ((k, v) :: kvs) ((k, d) :: kd)
section
variable {K : Frag} {F F' : Hp} {kvs : List (Key × V)} {kd : Kds}
theorem Ky.up (s : Same F F') (h : Ky K F kvs kd) : Ky K F' kvs kd := by
  induction h with
  | nil => exact .nil
  | cons h _ ih => exact .cons (h.up s) ih
theorem Ky.len (h : Ky K F kvs kd) : kvs.length = kd.length := by
  induction h with
  | nil => rfl
  | cons _ _ ih => simp [ih]
theorem Ky.val (k : Key) (h : Ky K F kvs kd) : (getY kd k = none ∧ valV kvs k = none) ∨ ∃ v d, getY kd k = some d ∧ valV kvs k = some v ∧ Dp K F v d := by
  induction h with
  | nil => exact .inl ⟨rfl, rfl⟩
  | @cons k' v d kvs kd h t ih =>
    by_cases e : k' = k
    · subst e
      exact .inr ⟨v, d, by simp [getY], valV_pos rfl, h⟩
    · have e1 : getY ((k', d) :: kd) k = getY kd k := by simp [getY, List.find?_cons, e]
      have e2 : valV ((k', v) :: kvs) k = valV kvs k := valV_neg e
      rw [e1, e2]
      exact ih
theorem Ky.any (k : Key) (h : Ky K F kvs kd) : (kvs.any fun kv => decide (kv.1 = k)) = kd.any fun p => decide (p.1 = k) := by
  induction h with
  | nil => rfl
  | cons h _ ih => simp only [List.any_cons, ih]
theorem Ky.put {k : Key} {v : V} {d : PyData} (h : Ky K F kvs kd) (hv : Dp K F v d) : Ky K F (putK kvs k v) (putY kd k d) := by
  unfold putK putY
  rw [h.any k]
  split
  · rename_i hany
    clear hany
    induction h with
    | nil => exact .nil
    | @cons k' v' d' kvs kd h t ih =>
      rw [List.map_cons, List.map_cons]
      by_cases e : k' = k
      · subst e
        rw [if_pos rfl, if_pos rfl]
        exact .cons hv ih
      · rw [if_neg e, if_neg e]
        exact .cons h ih
  · rename_i hany
    clear hany
    induction h with
    | nil => exact .cons hv .nil
    | cons h t ih => exact .cons h ih
theorem Ky.dp (h : Ky K F kvs kd) : DpKv K F kvs (kvD kd) := by
  induction h with
  | nil => exact .nil
  | cons h _ ih => exact .cons h ih
end
def RD (K : Frag) (c : C3) (F : Hp) (σ : L2.St) (H : Hp) (env : En) (i : Nat) (kd : Kds) : Prop :=
  ∃ D kvs, Rl K (wat c D (.dK kvs)) F σ H env ∧ σ[i]? = some (some (.ref D)) ∧ Ky K F kvs kd ∧ F D = none ∧ c.H0 D = none ∧ c.G D = none ∧ c.F0 D = none ∧ NoT c.G
abbrev FeD := En → Kds → Option (PyData × En)
abbrev FlD := En → Kds → Option (List PyData × En)
abbrev FtD := En → Kds → Option (Bool × En)
abbrev FsD := En → Kds → Option (Flw × En × Kds)
def FinD (K : Frag) (c : C3) (F : Hp) (fl : Flw) (env : En) (i : Nat) (kd : Kds) (D : Ends) : Prop := match fl with
  | .nx => ∀ σ F' H, Same F F' → RD K c F' σ H env i kd → D.nx σ H
  | .bk => ∀ σ F' H, Same F F' → RD K c F' σ H env i kd → D.bk σ H
  | .ct => ∀ σ F' H, Same F F' → RD K c F' σ H env i kd → D.ct σ H
  | _ => False
theorem FinD.up {K : Frag} {c : C3} {F F' : Hp} {fl : Flw} {env : En} {i : Nat} {kd : Kds} {D : Ends} (h : FinD K c F fl env i kd D) (s : Same F F') : FinD K c F' fl env i kd D := by
  cases fl with
  | nx => exact fun σ G H s' R => h σ G H (s.trans s') R
  | bk => exact fun σ G H s' R => h σ G H (s.trans s') R
  | ct => exact fun σ G H s' R => h σ G H (s.trans s') R
  | _ => exact h
def tL (f : Ft) : FtD := fun env _ => f env
def lL (f : Fl) : FlD := fun env _ => f env
section
variable {X : Cx} {i : Nat} {a b e f' : Expr} {es : List Expr} {f fk fd : Fe} {g : FeD} {fl : Fl} {gl : FlD} {ft : Ft} {pos : Pos}
def lConsD (f : FeD) (g : FlD) : FlD := fun env kd => (f env kd).bind fun p => (g p.2 kd).map fun q => (p.1 :: q.1, q.2)
def eAD (g : List PyData → Option PyData) (a : FlD) : FeD := fun env kd => (a env kd).bind fun p => (g p.1).map fun z => (z, p.2)
variable {fa : Addr} {fdd : FuncData} {ps : List Str} {n kk : Nat} {q : List PyData → Option PyData} {x : Str} {p : Pos}
/-- made.get(k, d) -/
def eGet2D (fk fd : Fe) : FeD := fun env kd => (fk env).bind fun p => (keyOf p.1).bind fun k => (fd p.2).map fun q => ((getY kd k).getD q.1, q.2)
/-- made[k] -/
def eIxD (fk : Fe) : FeD := fun env kd => (fk env).bind fun p => (keyOf p.1).bind fun k => (getY kd k).map fun d => (d, p.2)
end
def dSet (e : FeD) (g : Tg) : FsD := fun env kd => (e env kd).bind fun p => (g p.1 p.2).map fun z => (.nx, z, kd)
def dPut (fk : Fe) (fv : FeD) : FsD := fun env kd => (fv env kd).bind fun p => (fk p.2).bind fun q => (keyOf q.1).bind fun k => if okN kd.length then some (.nx, q.2, putY kd k p.1) else none
def forD (g : Tg) (b : FsD) : List PyData → En → Kds → Option (Flw × En × Kds)
  | [], env, kd => some (.nx, env, kd)
  | d :: ds, env, kd => (g d env).bind fun e1 => (b e1 kd).bind fun p => match p.1 with
    | .nx => forD g b ds p.2.1 p.2.2
    | .ct => forD g b ds p.2.1 p.2.2
    | .bk => some (.nx, p.2.1, p.2.2)
    | _ => none
def dFor (it : Fi) (g : Tg) (b : FsD) : FsD := fun env kd => (it env).bind fun p => forD g b p.1 p.2 kd
def rEnd (i : Nat) (g : Fs) : En → Kds → Option (Flw × En) := fun env kd => g (env.set i (.val (dictD kd)))
def sNewD (i : Nat) (r : En → Kds → Option (Flw × En)) : Fs := fun env => r (env.set i .no) []
section
variable {X : Cx} {xc : XC} {i : Nat} {e : Expr} {f : Fe} {rest : List Stmt} {r : En → Kds → Option (Flw × En)} {pos : Pos}
def sNewD' (i : Nat) (r : En → Kds → Option (Flw × En)) : Fs := fun env => if i < env.length then sNewD i r env else none
def sCpyD' (i : Nat) (f : Fl) (r : En → Kds → Option (Flw × En)) : Fs := fun env => if i < env.length then (f env).bind fun p => match p.1 with
  | [d] => (dictOf d).bind fun kd => r (p.2.set i .no) kd
  | _ => none else none
end
end Dn
set_option Elab.async false
set_option linter.all false
set_option maxRecDepth 100000
set_option maxHeartbeats 1000000
namespace Dn
open PySem PySem.Spec PyProof.Rows L2
open PySem.W (Frag)
variable [Tb]
def keysD (kd : Kds) : List PyData := kd.map fun p => kD p.1
def eGet (fa fk fd : Fe) : Fe := fun env => (fa env).bind fun p => (fk p.2).bind fun q => (fd q.2).bind fun r => (dictOf p.1).bind fun kd => (keyOf q.1).map fun ky => ((getY kd ky).getD r.1, r.2)
def iDk (f : Fe) : Fi := fun env => (f env).bind fun p => (dictOf p.1).map fun kd => (keysD kd, p.2)
section
variable {a b : Fe} {f g : FsD} {fa fb : FeD} {la : FlD} {ta : FtD} {x : Sl} {e : En} {d d' : PyData} {kd : Kds} {i : Nat} {ky : Key} {r : En → Kds → Option (Flw × En)} {gs : Fs}
@[simp] theorem tL_k {t : Ft} : tL t e kd = t e := rfl
@[simp] theorem lL_k {l : Fl} : lL l e kd = l e := rfl
def kConsD (la : FlD) (kd : Kds) (p : PyData × En) : Option (List PyData × En) := (la p.2 kd).map (kCons2 p.1)
@[simp] theorem lConsD_k : lConsD fa la e kd = (fa e kd).bind (kConsD la kd) := rfl
@[simp] theorem kConsD_k : kConsD la kd (d, e) = (la e kd).map (kCons2 d) := rfl
@[simp] theorem eAD_k {q : List PyData → Option PyData} : eAD q la e kd = (la e kd).bind (kEA q) := rfl
def kGet3 (kd : Kds) (ky : Key) (p : PyData × En) : PyData × En := ((getY kd ky).getD p.1, p.2)
def kGet2 (b : Fe) (kd : Kds) (e : En) (ky : Key) : Option (PyData × En) := (b e).map (kGet3 kd ky)
def kGet1 (b : Fe) (kd : Kds) (p : PyData × En) : Option (PyData × En) := (keyOf p.1).bind (kGet2 b kd p.2)
@[simp] theorem eGet2D_k : eGet2D a b e kd = (a e).bind (kGet1 b kd) := rfl
@[simp] theorem kGet1_k : kGet1 b kd (d, e) = (keyOf d).bind (kGet2 b kd e) := rfl
@[simp] theorem kGet2_k : kGet2 b kd e ky = (b e).map (kGet3 kd ky) := rfl
@[simp] theorem kGet3_k : kGet3 kd ky (d, e) = ((getY kd ky).getD d, e) := rfl
def kIxD2 (kd : Kds) (e : En) (ky : Key) : Option (PyData × En) := (getY kd ky).map (kP e)
def kIxD1 (kd : Kds) (p : PyData × En) : Option (PyData × En) := (keyOf p.1).bind (kIxD2 kd p.2)
@[simp] theorem eIxD_k : eIxD a e kd = (a e).bind (kIxD1 kd) := rfl
@[simp] theorem kIxD1_k : kIxD1 kd (d, e) = (keyOf d).bind (kIxD2 kd e) := rfl
@[simp] theorem kIxD2_k : kIxD2 kd e ky = (getY kd ky).map (kP e) := rfl
def kNxD (kd : Kds) (e : En) : Flw × En × Kds := (.nx, e, kd)
@[simp] theorem kNxD_k : kNxD kd e = (.nx, e, kd) := rfl
def kSetD (tg : Tg) (kd : Kds) (p : PyData × En) : Option (Flw × En × Kds) := (tg p.1 p.2).map (kNxD kd)
@[simp] theorem dSet_k {tg : Tg} : dSet fa tg e kd = (fa e kd).bind (kSetD tg kd) := rfl
@[simp] theorem kSetD_k {tg : Tg} : kSetD tg kd (d, e) = (tg d e).map (kNxD kd) := rfl
def kPutC (kd : Kds) (d : PyData) (e : En) (ky : Key) : Option (Flw × En × Kds) := if okN kd.length then some (.nx, e, putY kd ky d) else none
def kPutB (kd : Kds) (d : PyData) (p : PyData × En) : Option (Flw × En × Kds) := (keyOf p.1).bind (kPutC kd d p.2)
def kPutA (a : Fe) (kd : Kds) (p : PyData × En) : Option (Flw × En × Kds) := (a p.2).bind (kPutB kd p.1)
@[simp] theorem dPut_k : dPut a fa e kd = (fa e kd).bind (kPutA a kd) := rfl
@[simp] theorem kPutA_k : kPutA a kd (d, e) = (a e).bind (kPutB kd d) := rfl
@[simp] theorem kPutB_k : kPutB kd d (d', e) = (keyOf d').bind (kPutC kd d e) := rfl
def kForD (tg : Tg) (f : FsD) (kd : Kds) (p : List PyData × En) : Option (Flw × En × Kds) := forD tg f p.1 p.2 kd
@[simp] theorem dFor_k {it : Fi} {tg : Tg} : dFor it tg f e kd = (it e).bind (kForD tg f kd) := rfl
@[simp] theorem kForD_k {tg : Tg} {ds : List PyData} : kForD tg f kd (ds, e) = forD tg f ds e kd := rfl
@[simp] theorem rEnd_k : rEnd i gs e kd = gs (e.set i (.val (dictD kd))) := rfl
@[simp] theorem sNewD_k : sNewD' i r (x :: e) = if i < (x :: e).length then r ((x :: e).set i .no) [] else none := rfl
def kCpy (i : Nat) (r : En → Kds → Option (Flw × En)) (p : List PyData × En) : Option (Flw × En) := match p.1 with
  | [d] => (dictOf d).bind fun kd => r (p.2.set i .no) kd
  | _ => none
def kCpy2 (i : Nat) (r : En → Kds → Option (Flw × En)) (e : En) (kd : Kds) : Option (Flw × En) := r (e.set i .no) kd
@[simp] theorem sCpyD_k {l : Fl} : sCpyD' i l r (x :: e) = if i < (x :: e).length then (l (x :: e)).bind (kCpy i r) else none := rfl
@[simp] theorem kCpy_k : kCpy i r ([d], e) = (dictOf d).bind (kCpy2 i r e) := rfl
@[simp] theorem kCpy2_k : kCpy2 i r e kd = r (e.set i .no) kd := rfl
def kGd3 (d k : PyData) (p : PyData × En) : Option (PyData × En) := (dictOf d).bind fun kd => (keyOf k).map fun ky => ((getY kd ky).getD p.1, p.2)
def kGd2 (b : Fe) (d : PyData) (p : PyData × En) : Option (PyData × En) := (b p.2).bind (kGd3 d p.1)
def kGd1 (a b : Fe) (p : PyData × En) : Option (PyData × En) := (a p.2).bind (kGd2 b p.1)
@[simp] theorem eGet_k {c : Fe} : eGet c a b (x :: e) = (c (x :: e)).bind (kGd1 a b) := rfl
@[simp] theorem kGd1_k : kGd1 a b (d, e) = (a e).bind (kGd2 b d) := rfl
@[simp] theorem kGd2_k : kGd2 b d (d', e) = (b e).bind (kGd3 d d') := rfl
def kDk (p : PyData × En) : Option (List PyData × En) := (dictOf p.1).map fun kd => (keysD kd, p.2)
@[simp] theorem iDk_k : iDk a (x :: e) = (a (x :: e)).bind kDk := rfl
@[simp] theorem kDk_k : kDk (dictD kd, e) = some (keysD kd, e) := by
  unfold kDk
  rw [dictOf_D]
  rfl
end
end Dn
set_option Elab.async false
set_option linter.all false
set_option maxRecDepth 100000
set_option maxHeartbeats 1000000
namespace Dn
open PySem PySem.Spec PyProof.Rows L2
open PySem.W (Frag)
variable [Tb]
/-- what was watched is left behind -/
theorem Rl.leaveW {K : Frag} {c : C3} {F H : Hp} {σ : L2.St} {env : En} {q : Addr} {xs : List V} (R : Rl K (wat c q (.lst xs)) F σ H env) (hG : c.G q = none) (hF0 : c.F0 q = none) (hH0 : c.H0 q = none) (hng : NoT c.G) : F q = none ∧ Rl K c F σ (fun b => if b = q then none else H b) env := by
  have hq := R.watched
  have hF : F q = none := by
    cases e : F q with
    | none => rfl
    | some o =>
      rcases R.new q (by rw [e]; simp) with z | z
      · exact absurd hF0 z
      · have z' : upd c.H0 q (HO.lst xs) q = none := z
        rw [upd_same] at z'
        cases z'
  refine ⟨hF, ⟨fun b u e => ?_, R.f0, fun b u e => ?_, fun b u e => ?_, fun b hb => ?_, fun b hb => ?_, R.len, R.val, fun j p ds h => ?_, tabs_but R.tab hq fun b hb => if_neg hb, R.nf, hng⟩⟩
  · have ne : b ≠ q := fun z => by rw [z, hF] at e; cases e
    rw [if_neg ne]; exact R.sub b u e
  · have ne : b ≠ q := fun z => by rw [z, hG] at e; cases e
    rw [if_neg ne]
    refine R.gd b u ?_
    show upd c.G q (.lst xs) b = some u
    rw [upd_ne ne]; exact e
  · have ne : b ≠ q := fun z => by rw [z, hG] at e; cases e
    have : upd c.H0 q (.lst xs) b = some u := R.g0 b u (by show upd c.G q (.lst xs) b = some u; rw [upd_ne ne]; exact e)
    rw [upd_ne ne] at this
    exact this
  · have ne : b ≠ q := fun z => hb (by rw [z]; exact hF)
    rcases R.new b hb with z | z
    · exact .inl z
    · have z' : upd c.H0 q (HO.lst xs) b = none := z
      rw [upd_ne ne] at z'
      exact .inr z'
  · have ne : b ≠ q := fun z => hb (by rw [z]; exact hH0)
    rw [if_neg ne]
    refine R.dom b fun z => hb ?_
    have z' : upd c.H0 q (HO.lst xs) b = none := z
    rw [upd_ne ne] at z'
    exact z'
  · obtain ⟨a, ys, e1, e2, e3, e4, e5, e6, e7⟩ := R.own j p ds h
    have ne : a ≠ q := fun z => by
      have e5' : upd c.G q (HO.lst xs) a = none := e5
      rw [z, upd_same] at e5'
      cases e5'
    have e5' : upd c.G q (HO.lst xs) a = none := e5
    rw [upd_ne ne] at e5'
    refine ⟨a, ys, e1, e2, by rw [if_neg ne]; exact e3, e4, e5', ?_, e7⟩
    cases p with
    | true => exact e6
    | false =>
      have e6' : upd c.H0 q (HO.lst xs) a = none := e6
      rw [upd_ne ne] at e6'
      exact e6'
def eMF2 (g : List PyData → List PyData → Option (PyData × List PyData)) (fl la : Fl) : Fe := fun env => (fl env).bind fun p => (la p.2).bind fun r => (g p.1 r.1).map fun q => (q.1, r.2)
section
variable {X : Cx} {a e : Expr} {es : List Expr} {fl la : Fl} {f : Addr} {fd : FuncData} {ps : List Str} {n k : Nat} {gM : List PyData → List PyData → Option (PyData × List PyData)} {x : Str} {p pos : Pos}
theorem de_callMF2 (Fk : FnOk X.prog X.w X.K X.mg X.base CX0 k f fd ps (spM X.K n gM)) (hl : ∀ ks ds z, gM ks ds = some z → ds.length + 1 = n) (hr : Room k X.A) (hg : Gl X x) (hm : X.mg x = some (.ref f)) (hk : PySem.W.keepIn X.K (.ref f) = true) (hb : Binds X.K fd ps []) (ha : PE X a (Gf X.K fl)) (hes : PA X es (Ga X.K la))
    (hdb : (x == ("__debug__" : Str)) = false := by decide) (he : starEach (a :: es) X.env = (false, eval a X.env) :: starEach es X.env := by rfl) (hpl : (backTo pos (starEach es X.env)).any (·.1) = false := by rfl) :
    PE X (.Call (.Name x p) (a :: es) [] pos) (Ge X.K (eMF2 gM fl la)) := PE.imp (pe_call Fk hr hg hm hk hb .nil pass0 (pa_cons ha hes he) hdb he hpl) fun σ H Q ⟨c, F, env, d, env', R, e, k⟩ => by
  unfold eMF2 at e
  simp only [Option.bind_eq_some_iff, Option.map_eq_some_iff] at e
  obtain ⟨⟨d1, n1⟩, h1, ⟨d2, n2⟩, h2, ⟨z, ks'⟩, h3, h4⟩ := e
  obtain ⟨rfl, rfl⟩ := Prod.mk.inj h4
  refine ⟨c, F, env, d1, n1, R, h1, fun q xs F1 H1 s1 hq R1 hx => ?_⟩
  have R1w := R1.watch' (o := .lst xs) hq
  refine ⟨_, F1, n1, d2, n2, R1w, h2, fun ws F2 H2 s2 R2 hw => ?_⟩
  obtain ⟨hF2, R3⟩ := R2.leaveW (R1.gn hq) (R1.f0.free (R1.sub.free hq)) (R1.h0 hq) R1.ng
  show spM X.K n gM ((.ref q :: ws) ++ []) H2 Q E0
  rw [List.append_nil]
  refine ⟨F2, q, ws, xs, d1, d2, ks', z, rfl, by rw [List.length_cons, hw.len]; exact hl d1 d2 _ h3, R2.base, hF2, R2.watched, hx.up s2, hw, h3, fun v F' H' xs' a1 a2 a3 a4 a5 a6 hv => ?_⟩
  have R4 : Rl X.K c F' σ H' n2 := by
    refine R3.after a1 a2 ⟨fun b o n e => ?_, fun b hb => ?_⟩ fun b hb => ?_
    · have ne : b ≠ q := fun z => by rw [if_pos z] at e; cases e
      rw [if_neg ne] at e
      exact a3.keep b o n ne e
    · have ne : b ≠ q := fun z => hb (if_pos z)
      rw [if_neg ne] at hb
      exact a3.dom b hb
    · rcases a4 b hb with z | z
      · exact .inl z
      · refine .inr ?_
        by_cases e : b = q
        · exact if_pos e
        · rw [if_neg e]; exact z
  exact k v F' H' ((s1.trans s2).trans a1) R4 hv
end
def kMFb (g : List PyData → List PyData → Option (PyData × List PyData)) (ds : List PyData) (p : List PyData × En) : Option (PyData × En) := (g ds p.1).map (kMF2 p.2)
def kMFa (g : List PyData → List PyData → Option (PyData × List PyData)) (la : Fl) (p : List PyData × En) : Option (PyData × En) := (la p.2).bind (kMFb g p.1)
section
variable {g : List PyData → List PyData → Option (PyData × List PyData)} {fl la : Fl} {x : Sl} {e : En} {ds es : List PyData}
@[simp] theorem ev_MF2 : eMF2 g fl la (x :: e) = (fl (x :: e)).bind (kMFa g la) := rfl
@[simp] theorem kMFa_e : kMFa g la (ds, e) = (la e).bind (kMFb g ds) := rfl
@[simp] theorem kMFb_e : kMFb g ds (es, e) = (g ds es).map (kMF2 e) := rfl
end
end Dn
set_option Elab.async false
set_option linter.all false
set_option maxRecDepth 100000
set_option maxHeartbeats 4000000
namespace Dn
open PySem PySem.Spec PyProof.Rows L2
variable [Tb]
@[simp] def gRepNe (d e : PyData) : Option PyData := if repOk d && repOk e then some (.bool (!decide (d.shown = e.shown))) else none
end Dn
set_option Elab.async false
set_option linter.all false
set_option maxRecDepth 100000
set_option maxHeartbeats 1000000
namespace Dn
open PySem PySem.Spec PyProof.Rows L2
open PySem.W (Frag)
mutual
def noL : PyData → Bool
  | .none => true
  | .bool _ => true
  | .int _ => true
  | .str _ => true
  | .list _ => false
  | .tuple ds => noLs ds
  | .dict _ => false
def noLs : List PyData → Bool
  | [] => true
  | d :: ds => noL d && noLs ds
end
theorem noLs_all : ∀ {ds : List PyData}, noLs ds = true → ∀ d ∈ ds, noL d = true
  | [], _, d, h => nomatch h
  | e :: ds, h, d, hd => by
    simp only [noLs, Bool.and_eq_true] at h
    rcases List.mem_cons.mp hd with rfl | hd
    · exact h.1
    · exact noLs_all h.2 d hd
/-- a fragment without the lists that stood in H0 -/
def freshL (H0 F : Hp) : Hp := fun b => match F b with
  | some (.lst xs) => match H0 b with
    | none => some (.lst xs)
    | some _ => none
  | o => o
theorem freshL_get {H0 F : Hp} {b : Addr} {o : HO} (h : freshL H0 F b = some o) : F b = some o ∧ ((∃ xs, o = .lst xs) → H0 b = none) := by
  unfold freshL at h
  split at h
  · rename_i xs e
    split at h
    · rename_i e0
      exact ⟨by rw [e]; exact h, fun _ => e0⟩
    · cases h
  · rename_i x
    refine ⟨h, fun ⟨xs, z⟩ => ?_⟩
    subst z
    exact absurd h (x xs)
theorem freshL_of {H0 F : Hp} {b : Addr} {o : HO} (h : F b = some o) (k : (∃ xs, o = .lst xs) → H0 b = none) : freshL H0 F b = some o := by
  unfold freshL
  rw [h]
  cases o with
  | lst xs => dsimp only; rw [k ⟨xs, rfl⟩]
  | _ => rfl
theorem freshL_sub {H0 F : Hp} : Same (freshL H0 F) F := fun b o e => (freshL_get e).1
theorem freshL_mono {H0 F F' : Hp} (s : Same F F') : Same (freshL H0 F) (freshL H0 F') := fun b o e => freshL_of (s _ _ (freshL_get e).1) (freshL_get e).2
theorem freshL_h0 {H0 H1 F : Hp} (k : ∀ b, H0 b = none → H1 b = none) : Same (freshL H0 F) (freshL H1 F) := fun b o e => freshL_of (freshL_get e).1 fun z => k b ((freshL_get e).2 z)
variable [Tb]
theorem ExN.of {K : Frag} {H0 F : Hp} {v : V} {d : PyData} (h : Dp K (freshL H0 F) v d) : ExN K H0 F v d := ⟨freshL H0 F, freshL_sub, h, fun b xs e => (freshL_get e).2 ⟨xs, rfl⟩⟩
theorem ExN.dp {K : Frag} {H0 F : Hp} {v : V} {d : PyData} (h : ExN K H0 F v d) : Dp K (freshL H0 F) v d := by
  obtain ⟨N, h1, h2, h3⟩ := h
  exact h2.up fun b o e => freshL_of (h1 b o e) fun ⟨xs, z⟩ => by subst z; exact h3 b xs e
mutual
/-- data without lists leans on no list -/
theorem Dp.off {K : Frag} {F F' : Hp} (k : ∀ b o, F b = some o → (∀ xs, o ≠ .lst xs) → F' b = some o) : ∀ (d : PyData) {v : V}, noL d = true → Dp K F v d → Dp K F' v d
  | .none, _, _, h => by cases h; exact .non
  | .bool b, _, _, h => by cases h; exact .bl b
  | .int i, _, _, h => by cases h; exact .int i
  | .str x, _, _, h => by cases h; exact .str x
  | .list ds, _, hc, h => by simp [noL] at hc
  | .tuple ds, _, hc, h => by
    cases h with
    | tup hs ha =>
      refine .tup ?_ (DpAll.off k ds (by simpa [noL] using hc) ha)
      rcases hs with (e | ⟨o, e⟩) | e
      · exact .inl (.inl (k _ _ e fun _ z => by cases z))
      · exact .inl (.inr ⟨o, k _ _ e fun _ z => by cases z⟩)
      · exact .inr e
  | .dict _, _, hc, h => by simp [noL] at hc
theorem DpAll.off {K : Frag} {F F' : Hp} (k : ∀ b o, F b = some o → (∀ xs, o ≠ .lst xs) → F' b = some o) : ∀ (ds : List PyData) {vs : List V}, noLs ds = true → DpAll K F vs ds → DpAll K F' vs ds
  | [], _, _, h => by cases h; exact .nil
  | d :: ds, _, hc, h => by
    have hc' : noL d = true ∧ noLs ds = true := by simpa [noLs] using hc
    cases h with
    | cons h1 h2 => exact .cons (Dp.off k d hc'.1 h1) (DpAll.off k ds hc'.2 h2)
end
theorem Dp.noL_new {K : Frag} {H0 F : Hp} {d : PyData} {v : V} (hc : noL d = true) (h : Dp K F v d) : Dp K (freshL H0 F) v d := Dp.off (fun b o e x => freshL_of e fun ⟨xs, z⟩ => absurd z (x xs)) d hc h
def GeN (K : Frag) (f : Fe) : TE := fun σ H Q => ∃ c F env d env', Rl K c F σ H env ∧ f env = some (d, env') ∧ ∀ v F' H', Same F F' → Rl K c F' σ H' env' → Dp K F' v d → Dp K (freshL c.H0 F') v d → Q v H'
def GfN (K : Frag) (f : Fl) : TE := fun σ H Q => ∃ c F env ds env', Rl K c F σ H env ∧ f env = some (ds, env') ∧ ∀ p xs F' H', Same F F' → H' p = none → Rl K c F' σ H' env' → DpAll K F' xs ds → DpAll K (freshL c.H0 F') xs ds → Q (.ref p) (upd H' p (.lst xs))
def eNoL (f : Fe) : Fe := fun env => (f env).bind fun p => if noL p.1 then some p else none
def scal : PyData → Bool
  | .list _ => false
  | .tuple _ => false
  | .dict _ => false
  | _ => true
/-- a def that hands back what is new -/
def spA (K : Frag) (n : Nat) (f : List PyData → Option PyData) : Sp := fun vs H Q _ => ∃ (F : Hp) (ds : List PyData) (d : PyData), vs.length = n ∧ Bs F H ∧ DpAll K F vs ds ∧ f ds = some d ∧
  ∀ v F' H', Same F F' → Bs F' H' → Kp H H' → (∀ b, F' b ≠ none → F b ≠ none ∨ H b = none) → Dp K F' v d → Dp K (freshL H F') v d → Q v H'
section
variable {X : Cx} {xc : XC} {k n : Nat} {f : Addr} {fd : FuncData} {ps : List Str} {x : Str} {p pos : Pos} {e : Expr} {es : List Expr} {fe : Fe} {fl : Fl} {g : List PyData → Option PyData}
theorem deN_call (Fk : FnOk X.prog X.w X.K X.mg X.base CX0 k f fd ps (spA X.K n g)) (hl : ∀ ds z, g ds = some z → ds.length = n) (hr : Room k X.A) (hg : Gl X x) (hm : X.mg x = some (.ref f)) (hk : PySem.W.keepIn X.K (.ref f) = true) (hb : Binds X.K fd ps []) (ha : PA X (e :: es) (Ga X.K fl))
    (hdb : (x == ("__debug__" : Str)) = false := by decide) (he : starEach (e :: es) X.env = (false, eval e X.env) :: starEach es X.env := by rfl) (hpl : (backTo pos (starEach es X.env)).any (·.1) = false := by rfl) :
    PE X (.Call (.Name x p) (e :: es) [] pos) (GeN X.K (eA g fl)) := PE.imp (pe_call Fk hr hg hm hk hb .nil pass0 ha hdb he hpl) fun σ H Q ⟨c, F, env, o, env', R, e, kk⟩ => by
  unfold eA at e
  simp only [Option.bind_eq_some_iff, Option.map_eq_some_iff] at e
  obtain ⟨⟨d1, n1⟩, h1, z, h3, h4⟩ := e
  obtain ⟨rfl, rfl⟩ := Prod.mk.inj h4
  refine ⟨c, F, env, d1, n1, R, h1, fun vs F1 H1 s1 R1 hv => ⟨F1, d1, z, by rw [List.append_nil, hv.len]; exact hl _ _ h3, R1.base, by rw [List.append_nil]; exact hv, h3, ?_⟩⟩
  exact fun v F' H' a1 a2 a3 a4 hv hn => kk v F' H' (s1.trans a1) (R1.after a1 a2 a3 a4) hv (hn.up (freshL_h0 fun b hb => R1.h0 hb))
theorem deN_f (h : PE X e (GfN X.K fl)) : PE X e (GeN X.K (eF fl)) := PE.imp h fun σ H Q ⟨c, F, env, d, env', R, e, kk⟩ => by
  unfold eF at e
  simp only [Option.map_eq_some_iff] at e
  obtain ⟨⟨d1, n1⟩, h1, h2⟩ := e
  obtain ⟨rfl, rfl⟩ := Prod.mk.inj h2
  refine ⟨c, F, env, d1, n1, R, h1, fun p xs F' H' s hp R' hx hn => ?_⟩
  obtain ⟨sF, R2⟩ := R'.laid (o := .lst xs) hp
  exact kk _ _ _ (s.trans sF) R2 (.lstS upd_same (hx.up sF)) (.lstS (freshL_of upd_same fun _ => R'.h0 hp) (hn.up (freshL_mono sF)))
theorem deN_tupF (hg : Gl X "tuple") (hm : X.mg "tuple" = none) (h : PE X e (GfN X.K fl)) (he : starEach (e :: []) X.env = (false, eval e X.env) :: starEach [] X.env := by rfl) (hpl : (backTo pos (starEach [] X.env)).any (·.1) = false := by rfl) :
    PE X (.Call (.Name "tuple" p) [e] [] pos) (GeN X.K (eA gTup (lCons (eF fl) lNil))) := PE.imp (pe_callTy call_tuple_of hg hm (by decide +kernel) (pa_cons h pa_nil he) (by decide) (by decide) he hpl) fun σ H Q ⟨c, F, env, d, env', R, e, kk⟩ => by
  unfold eA lCons lNil eF at e
  simp only [Option.bind_eq_some_iff, Option.map_eq_some_iff] at e
  obtain ⟨⟨d1, n1⟩, ⟨⟨d2, n2⟩, ⟨⟨d3, n3⟩, h1, h2⟩, ⟨d4, n4⟩, h3, h4⟩, z, h5, h6⟩ := e
  cases h2
  cases h3
  cases h4
  cases h6
  cases h5
  refine ⟨c, F, env, d3, n3, R, h1, fun p xs F' H' s hp R' hx hn => ⟨p, xs, rfl, .inl ⟨SqL.of upd_same, fun l hl => ?_⟩⟩⟩
  obtain ⟨sF, R2⟩ := R'.laid (o := .lst xs) hp
  obtain ⟨sF2, R3⟩ := R2.laid (o := .tup xs) hl
  exact kk _ _ _ (s.trans (sF.trans sF2)) R3 (.tup (SqT.of upd_same) (hx.up (sF.trans sF2))) (.tup (SqT.of (freshL_of upd_same fun ⟨_, z⟩ => by cases z)) (hn.up (freshL_mono (sF.trans sF2))))
end
theorem read_compN {K : Frag} {fi : Fi} {g : Tg} {S : List Nat} {t : Ft} {fe : Fe} {vs : List Nat} (hS : ∀ i ∈ S, i ∈ vs) {σ : L2.St} {H : Hp} {Q : VK} (h : GfN K (lCm fi g t fe vs) σ H Q) : tLc (tI K fi) (tG K g S) (Gt K t) (GeN K fe) vs σ H Q := by
  obtain ⟨c, F, env, ds, env', R, e, k⟩ := h
  unfold lCm at e
  simp only [Option.bind_eq_some_iff] at e
  obtain ⟨⟨ds0, n1⟩, h1, h2⟩ := e
  dsimp only at h2
  split at h2
  · rename_i hz
    rw [Bool.and_eq_true] at hz
    simp only [Option.map_eq_some_iff] at h2
    obtain ⟨⟨res, en'⟩, h3, h4⟩ := h2
    obtain ⟨rfl, rfl⟩ := Prod.mk.inj h4
    refine ⟨c, F, env, ds0, n1, R, h1, fun J F1 H1 s1 R1 w D hD => ?_⟩
    have zz : ds0.length < sizeLine := okN_lt hz.1
    have hG : c.G D = none := R1.gn hD
    have hH0 : c.H0 D = none := R1.h0 hD
    have hF0 : c.F0 D = none := (R1.f0.trans R1.sub).free hD
    refine ⟨fun i m H => ∃ F' en xs acc rest, Same F1 F' ∧ Rl K (wat c D (.lst xs)) F' (wipe σ vs) H en ∧ DpAll K F' xs acc ∧ DpAll K (freshL c.H0 F') xs acc ∧ acc.length ≤ i ∧ i ≤ ds0.length ∧ m = ds0.length - i ∧
        compL g t fe vs (ds0.drop i) en = some (rest, en') ∧ acc ++ rest = res, ⟨ds0.length, F1, wipeE n1 vs, [], [], res, Same.refl F1, (R1.watch' hD).wipe' vs, .nil, .nil, Nat.le_refl _, Nat.zero_le _, by omega, by simpa using h3, rfl⟩, ?_⟩
    rintro i m H2 ⟨F2, en, xs, acc, rest, s2, R2, hx, hxn, hai, hi, rfl, hl, hres⟩
    by_cases hlt : i < ds0.length
    · obtain ⟨d, hd⟩ := len_get hlt
      rw [get_drop hd] at hl
      unfold compL at hl
      simp only [Option.bind_eq_some_iff] at hl
      obtain ⟨e1, h5, ⟨b6, p6⟩, h6, h7⟩ := hl
      refine .inr ⟨w.go i H2 (s2.trans R2.sub) hlt, _, fun H' hN => ⟨ds0.length - (i + 1), by omega, hN⟩, fun x H' y => ?_⟩
      obtain ⟨F3, s3, R3, hx3⟩ := R2.yield ((w.up s2).yld i H2 x H' d R2.sub hd y)
      refine ⟨_, F3, en, d, e1, R3, hx3, h5, fun σ4 R4 w4 => ⟨?_, _, F3, e1, b6, p6, R4, h6, fun F5 H5 s5 R5 => ?_⟩⟩
      · rw [w4 vs hS, wipe_wipe fun _ h => h]
      have w4' : wipe σ4 vs = wipe σ vs := by rw [w4 vs hS, wipe_wipe fun _ h => h]
      have s25 := (s2.trans s3).trans s5
      cases b6 with
      | true =>
        rw [if_pos rfl] at h7
        simp only [Option.bind_eq_some_iff, Option.map_eq_some_iff] at h7
        obtain ⟨⟨d8, n8⟩, h8, ⟨r9, n9⟩, h9, h10⟩ := h7
        obtain ⟨rfl, rfl⟩ := Prod.mk.inj h10
        refine iteT ⟨_, F5, p6, d8, n8, R5, h8, fun v F6 H6 s6 R6 hv hvn => ⟨xs, R6.watched, ?_, ?_⟩⟩
        · rw [hx.len]; omega
        · have R7 := (R6.rewatch (o' := .lst (xs ++ [v])) hF0).wipe' vs
          rw [w4'] at R7
          have hvn' : Dp K (freshL c.H0 F6) v d8 := hvn.up (freshL_h0 fun b hb => by
            have hb' : upd c.H0 D (.lst xs) b = none := hb
            by_cases hbD : b = D
            · subst hbD; exact hH0
            · rw [upd_ne hbD] at hb'; exact hb')
          exact ⟨F6, _, xs ++ [v], acc ++ [d8], r9, s25.trans s6, R7, (hx.up ((s3.trans s5).trans s6)).app (.cons hv .nil), (hxn.up (freshL_mono ((s3.trans s5).trans s6))).app (.cons hvn' .nil), by simp; omega, hlt, rfl, h9, by rw [← hres]; simp⟩
      | false =>
        rw [if_neg Bool.false_ne_true] at h7
        refine iteF ?_
        have R7 := R5.wipe' vs
        rw [w4'] at R7
        exact ⟨F5, _, xs, acc, rest, s25, R7, hx.up (s3.trans s5), hxn.up (freshL_mono (s3.trans s5)), by omega, hlt, rfl, h7, hres⟩
    · have ei : ds0.drop i = [] := List.drop_eq_nil_of_le (by omega)
      rw [ei] at hl
      cases hl
      refine .inl ⟨w.stop i H2 (s2.trans R2.sub) (by omega), ?_⟩
      rw [List.append_nil] at hres
      subst hres
      have R3 := R2.unw hG hF0 hH0 R1.ng
      have R4 := R1.rest hz.2 s2 R3
      have := k D xs F2 (delA H2 D) (s1.trans s2) delA_same R4 hx hxn
      rw [upd_delA R2.watched] at this
      exact this
  · cases h2
section
variable {X : Cx} {pos : Pos}
theorem dfN_comp {elt tg iter : Expr} {ifs : List Expr} {scope : Scope} {own : List (Str × Nat)} {fi : Fi} {g : Tg} {S : List Nat} {t : Ft} {fe : Fe} (hc : X.calm = true) (hN : X.N.Nodup) (hi : PI X tg iter (tI X.K fi)) (ok : BlkOk X.N X.env.scope scope own)
    (hg : ∀ (s : Shared) (H : Hp) (C : Addr) (cl : List (Str × Addr)) (fp : List Addr), PG (X.blk s H scope (compEnvC scope cl C X.env) fp) tg (tG X.K g S)) (ht : ∀ (s : Shared) (H : Hp) (C : Addr) (cl : List (Str × Addr)) (fp : List Addr), PTs (X.blk s H scope (compEnvC scope cl C X.env) fp) ifs (Gt X.K t))
    (he : ∀ (s : Shared) (H : Hp) (C : Addr) (cl : List (Str × Addr)) (fp : List Addr), PE (X.blk s H scope (compEnvC scope cl C X.env) fp) elt (GeN X.K fe)) (hS : ∀ i ∈ S, i ∈ own.map (·.2) := by decide) (hs : ∀ x, foldedSetIterable iter X.env x = pure x := by intro _; rfl) :
    PE X (.ListComp elt [⟨tg, iter, ifs, 0⟩] scope pos) (GfN X.K (lCm fi g t fe (own.map (·.2)))) := PE.imp (pe_lc hc hN hi ok hg ht he hs) fun _ _ _ => read_compN hS
end
def GsA (K : Frag) (f : Fs) : TS := fun D σ H => ∃ c F env d env', Rl K c F σ H env ∧ f env = some (.rt d, env') ∧ ∀ σ F' H v, Same F F' → Rl K c F' σ H env' → Dp K F' v d → Dp K (freshL c.H0 F') v d → D.rt v H
def eScal (f : Fe) : Fe := fun env => (f env).bind fun p => if scal p.1 then some p else none
theorem scal_noL {d : PyData} (h : scal d = true) : noL d = true := by
  cases d <;> first | rfl | simp [scal] at h
section
variable {X : Cx} {a1 a2 e1 e2 e3 : Expr} {t1 t2 : Ft} {f1 f2 f3 : Fe} {p1 p2 p3 q1 q2 : Pos}
theorem dssA (h1 : PT X a1 (Gt X.K t1)) (h2 : PE X e1 (GeN X.K f1)) (h3 : PT X a2 (Gt X.K t2)) (h4 : PE X e2 (GeN X.K f2)) (h5 : PE X e3 (Ge X.K f3)) :
    PSs X [.If a1 [.Return (some e1) p1] [] q1, .If a2 [.Return (some e2) p2] [] q2, .Return (some e3) p3] (GsA X.K (sSeq (sIf t1 (sRt f1) sNx) (sSeq (sIf t2 (sRt f2) sNx) (sRt (eScal f3))))) :=
  PSs.imp (pss_cons (ps_if h1 (pss_one (ps_ret h2)) pss_nil) (pss_cons (ps_if h3 (pss_one (ps_ret h4)) pss_nil) (pss_one (ps_ret h5)))) fun D σ H ⟨c, F, env, d, env', R, e, kk⟩ => by
  unfold sSeq sIf sRt sNx at e
  simp only [Option.bind_eq_some_iff] at e
  obtain ⟨⟨fl1, n1⟩, ⟨⟨b1, m1⟩, g1, g2⟩, g3⟩ := e
  refine ⟨c, F, env, b1, m1, R, g1, fun F1 H1 s1 R1 => ?_⟩
  cases b1 with
  | true =>
    refine iteT ?_
    simp only [if_true, Option.map_eq_some_iff] at g2
    obtain ⟨⟨d1, n2⟩, g4, g5⟩ := g2
    cases g5
    cases g3
    exact ⟨c, F1, m1, d1, _, R1, g4, fun v F' H' s R' hv hn => kk σ F' H' v (s1.trans s) R' hv hn⟩
  | false =>
    refine iteF ?_
    simp only [Bool.false_eq_true, if_false] at g2
    cases g2
    simp only [Option.bind_eq_some_iff] at g3
    obtain ⟨⟨fl2, n3⟩, ⟨⟨b2, m2⟩, g6, g7⟩, g8⟩ := g3
    refine ⟨c, F1, _, b2, m2, R1, g6, fun F2 H2 s2 R2 => ?_⟩
    cases b2 with
    | true =>
      refine iteT ?_
      simp only [if_true, Option.map_eq_some_iff] at g7
      obtain ⟨⟨d1, n2⟩, g4, g5⟩ := g7
      cases g5
      cases g8
      exact ⟨c, F2, m2, d1, _, R2, g4, fun v F' H' s R' hv hn => kk σ F' H' v ((s1.trans s2).trans s) R' hv hn⟩
    | false =>
      refine iteF ?_
      simp only [Bool.false_eq_true, if_false] at g7
      cases g7
      simp only [Option.map_eq_some_iff] at g8
      obtain ⟨⟨d1, n2⟩, g4, g5⟩ := g8
      cases g5
      unfold eScal at g4
      simp only [Option.bind_eq_some_iff] at g4
      obtain ⟨⟨d3, n4⟩, g9, g10⟩ := g4
      dsimp only at g10
      split at g10
      · rename_i hz
        cases g10
        exact ⟨c, F2, _, _, _, R2, g9, fun v F' H' s R' hv => kk σ F' H' v ((s1.trans s2).trans s) R' hv (Dp.noL_new (scal_noL hz) hv)⟩
      · cases g10
end
section
variable {P : Program} {w : World} {K : Frag} {mg : Str → Option Value} {base : Heap} {x qual : Str} {st : Stmt} {f : Addr} {fd : FuncData} {N ps : List Str} {k n : Nat} {fb : Fs}
def runA (b : Fs) (N n : Nat) : List PyData → Option PyData := fun ds => if ds.length = n then match b (en0 N ds) with
  | some (.rt d, _) => some d
  | _ => none else none
theorem runA_len {b : Fs} {N n : Nat} (ds : List PyData) (z : PyData) (h : runA b N n ds = some z) : ds.length = n := by
  unfold runA at h
  split at h
  · assumption
  · cases h
theorem okA (Fn : L2.Fun K x qual st f fd) (S : FnScope N ps (defScope st)) (hn : ps.length = n)
    (hb : ∀ (cdv : Value) (A : Around) (outer : List Env) (s : Shared) (H : Hp) (E : XK), Room k (A.deeper (envOfC qual (defScope st) s.heap.objs.size f cdv)) → PSs (cxOf CX0 P w K mg base N qual (defScope st) f cdv A outer s H E).nox (defBody st) (GsA K fb)) :
    FnOk P w K mg base CX0 (k + 1) f fd ps (spA K n (runA fb N.length n)) := by
  refine Fn.okG S (fun vs H Q E h => ?_) (fun cdv A outer s H vs Q E hr h => ⟨GsA K fb, hb cdv A outer s H E hr, ?_⟩)
  · obtain ⟨F, ds, d, h1, _⟩ := h
    rw [h1, hn]
  · obtain ⟨F, ds, d, h1, h2, h3, h4, h5⟩ := h
    have hl := h3.len
    have hN : ps.length ≤ N.length := by
      have := congrArg List.length S.pre
      rw [List.length_take] at this
      omega
    unfold runA at h4
    rw [if_pos (by omega)] at h4
    split at h4
    · rename_i d' env' e
      cases h4
      have R : Rl K ⟨H, F, noT H, vs⟩ F (L2.start N vs) H (en0 N.length ds) := by
        refine ⟨h2.sub, Same.refl F, noT_sub, noT_sub, fun a h => .inl h, fun a h => h, ?_, fun i d h => ?_, fun i p es h => (en0_own h).elim, h2.tab, h2.nf, noT_no⟩
        · rw [start_len (by omega)]
          unfold en0
          rw [List.length_append, List.length_map, List.length_replicate]
          omega
        · obtain ⟨v, e1, e2⟩ := h3.at (en0_val h)
          exact ⟨v, start_get e1, e2⟩
      refine ⟨⟨H, F, noT H, vs⟩, F, en0 N.length ds, _, env', R, e, fun σ' F' H' v s' R' hv hvn => ?_⟩
      exact h5 v F' H' R'.f0 R'.base ⟨fun b o n e => R'.gd b o (noT_of e n), R'.dom⟩ R'.new hv hvn
    · cases h4
end
section
variable {X : Cx} {xc : XC} {D fI : Addr} {k : Nat} {x : Str} {p pos pos2 : Pos} {a : Expr} {fe : Fe}
theorem ds_raiseN (hc : X.calm = true) (tk : Takes X xc.W) (T : PySem.CaskX.CaskTxt X.prog X.K X.mg (xc.ca x) D fI) (gC : X.mg x = some (.ref (xc.ca x))) (hr : Room k X.A) (hg : Gl X x) (ha : PE X a (GeN X.K fe)) (hdb : (x == ("__debug__" : Str)) = false := by decide)
    (he : starEach (a :: []) X.env = (false, eval a X.env) :: starEach [] X.env := by rfl) (hpl : (backTo pos (starEach [] X.env)).any (·.1) = false := by rfl) :
    PS X (.Raise (some (.Call (.Name x p) [a] [] pos)) none pos2) (Gs X.K xc (sRaise x fe)) := PS.imp (ps_raise hc tk (pmk_cask T gC hr.toRoom (pa_cons ha pa_nil he) hg hdb he hpl)) fun Dd σ H ⟨c, F, env, fl, env', R, e, kk⟩ => by
  unfold sRaise at e
  simp only [Option.map_eq_some_iff] at e
  obtain ⟨⟨d1, n1⟩, h1, h2⟩ := e
  obtain ⟨rfl, rfl⟩ := Prod.mk.inj h2
  exact ⟨c, F, env, d1, n1, R, h1, fun v F' H' s R' hv hn => ⟨v, rfl, fun dd hd => kk σ F' H' v dd s R' hd hv fun _ => .of hn⟩⟩
end
def spXn (K : Frag) (ca : Str → Addr) (n : Nat) (f : List PyData → Option Xo) : Sp := fun vs H Q E => ∃ (F : Hp) (ds : List PyData) (o : Xo), vs.length = n ∧ Bs F H ∧ DpAll K F vs ds ∧ f ds = some o ∧ (match o with
  | .ok d => ∀ v F' H', Same F F' → Bs F' H' → Kp H H' → (∀ b, F' b ≠ none → F b ≠ none ∨ H b = none) → Dp K F' v d → Q v H'
  | .ex cl d => ∀ F' H' v dd, Same F F' → Bs F' H' → Kp H H' → (∀ b, F' b ≠ none → F b ≠ none ∨ H b = none) → H' dd = none → Dp K F' v d → ExN K H F' v d → E (.ref (ca cl)) (some dd) (upd H' dd (xdO v)))
section
variable {P : Program} {w : World} {K : Frag} {mg : Str → Option Value} {base : Heap} {x qual : Str} {st : Stmt} {f : Addr} {fd : FuncData} {N ps : List Str} {k n : Nat} {fb : Fs}
theorem okXn {ca : Str → Addr} (Fn : L2.Fun K x qual st f fd) (S : FnScope N ps (defScope st)) (hn : ps.length = n)
    (hb : ∀ (cdv : Value) (A : Around) (outer : List Env) (s : Shared) (H : Hp) (E : XK), Room k (A.deeper (envOfC qual (defScope st) s.heap.objs.size f cdv)) → PSs (cxOf (L2.CX P w) P w K mg base N qual (defScope st) f cdv A outer s H E) (defBody st) (Gs K ⟨fun cls d _ H => E cls d H, ca, true⟩ fb)) :
    FnOk P w K mg base (L2.CX P w) (k + 1) f fd ps (spXn K ca n (runX fb N.length n)) := by
  refine Fn.okXG S (fun vs H Q E h => ?_) (fun cdv A outer s H vs Q E hr h => ⟨_, hb cdv A outer s H E hr, ?_⟩)
  · obtain ⟨F, ds, d, h1, _⟩ := h
    rw [h1, hn]
  · obtain ⟨F, ds, d, h1, h2, h3, h4, h5⟩ := h
    have hl := h3.len
    have hN : ps.length ≤ N.length := by
      have := congrArg List.length S.pre
      rw [List.length_take] at this
      omega
    unfold runX at h4
    rw [if_pos (by omega)] at h4
    cases e : fb (en0 N.length ds) with
    | none => rw [e] at h4; cases h4
    | some r =>
      obtain ⟨fl, env'⟩ := r
      rw [e] at h4
      have R : Rl K ⟨H, F, noT H, vs⟩ F (L2.start N vs) H (en0 N.length ds) := by
        refine ⟨h2.sub, Same.refl F, noT_sub, noT_sub, fun a h => .inl h, fun a h => h, ?_, fun i d h => ?_, fun i p es h => (en0_own h).elim, h2.tab, h2.nf, noT_no⟩
        · rw [start_len (by omega)]
          unfold en0
          rw [List.length_append, List.length_map, List.length_replicate]
          omega
        · obtain ⟨v, e1, e2⟩ := h3.at (en0_val h)
          exact ⟨v, start_get e1, e2⟩
      refine ⟨⟨H, F, noT H, vs⟩, F, en0 N.length ds, fl, env', R, e, ?_⟩
      have fin : ∀ {σ' : L2.St} {F' H' : Hp}, Rl K ⟨H, F, noT H, vs⟩ F' σ' H' env' → Same F F' ∧ Bs F' H' ∧ Kp H H' ∧ ∀ b, F' b ≠ none → F b ≠ none ∨ H b = none := fun R' => ⟨R'.f0, R'.base, ⟨fun b o n e => R'.gd b o (noT_of e n), R'.dom⟩, R'.new⟩
      cases fl with
      | nx =>
        cases h4
        intro σ' F' H' s' R'
        obtain ⟨a1, a2, a3, a4⟩ := fin R'
        exact h5 .non F' H' a1 a2 a3 a4 .non
      | rt d' =>
        cases h4
        intro σ' F' H' v s' R' hv
        obtain ⟨a1, a2, a3, a4⟩ := fin R'
        exact h5 v F' H' a1 a2 a3 a4 hv
      | rl es =>
        cases h4
        intro σ' F' H' p xs s' hp R' hx
        obtain ⟨sF, R2⟩ := R'.laid (o := .lst xs) hp
        obtain ⟨a1, a2, a3, a4⟩ := fin R2
        exact h5 (.ref p) _ _ a1 a2 a3 a4 (.lstS upd_same (hx.up sF))
      | bk => cases h4
      | ct => cases h4
      | ex cl d' =>
        cases h4
        intro σ' F' H' v dd s' R' hd hv hn
        obtain ⟨a1, a2, a3, a4⟩ := fin R'
        exact h5 F' H' v dd a1 a2 a3 a4 hd hv (hn rfl)
      | tr => cases h4
end
section
variable {X : Cx} {xc : XC} {k n p q : Nat} {pm : List Nat} {f : Addr} {fd : FuncData} {ps ks : List Str} {x : Str} {np pos : Pos} {e : Expr} {es : List Expr} {kws : List Keyword} {fl fk : Fl} {g : List PyData → Option Xo}
theorem dx_calln (Fk : FnOk X.prog X.w X.K X.mg X.base (L2.CX X.prog X.w) k f fd ps (spXn X.K xc.ca n g)) (hl : ∀ ds z, g ds = some z → ds.length = n) (hr : Room k X.A) (tk : Takes X xc.W) (hg : Gl X x) (hm : X.mg x = some (.ref f)) (hk : PySem.W.keepIn X.K (.ref f) = true) (hb : Binds X.K fd ps []) (ha : PA X (e :: es) (Ga X.K fl))
    (hdb : (x == ("__debug__" : Str)) = false := by decide) (he : starEach (e :: es) X.env = (false, eval e X.env) :: starEach es X.env := by rfl) (hpl : (backTo pos (starEach es X.env)).any (·.1) = false := by rfl) :
    PE X (.Call (.Name x np) (e :: es) [] pos) (GeX X.K xc (xA g fl)) := PE.imp (pe_callS (Es := WE xc.W) Fk hr hg hm hk hb (fun σ => passAt tk σ) ha hdb he hpl) fun σ H Q ⟨c, F, env, o, env', R, e, kk⟩ => by
  unfold xA at e
  simp only [Option.bind_eq_some_iff, Option.map_eq_some_iff] at e
  obtain ⟨⟨d1, n1⟩, h1, z, h3, h4⟩ := e
  obtain ⟨rfl, rfl⟩ := Prod.mk.inj h4
  refine ⟨c, F, env, d1, n1, R, h1, fun vs F1 H1 s1 R1 hv => ⟨F1, d1, z, by rw [hv.len]; exact hl _ _ h3, R1.base, hv, h3, ?_⟩⟩
  cases z with
  | ok d => exact fun v F' H' a1 a2 a3 a4 hv => kk v F' H' (s1.trans a1) (R1.after a1 a2 a3 a4) hv
  | ex cl d => exact fun F' H' v dd a1 a2 a3 a4 hd hv hn => kk F' H' v dd (s1.trans a1) (R1.after a1 a2 a3 a4) hd hv fun _ => hn.up (Same.refl _) fun b hb => R1.h0 hb
theorem dx_callK0n (Fk : FnOk X.prog X.w X.K X.mg X.base (L2.CX X.prog X.w) k f fd ps (spXn X.K xc.ca n g)) (hl : ∀ ds z, g ds = some z → ds.length = n) (hr : Room k X.A) (tk : Takes X xc.W) (hg : Gl X x) (hm : X.mg x = some (.ref f)) (hk : PySem.W.keepIn X.K (.ref f) = true) (hb : KBinds X.K fd ps ks (kG p q pm .none) (kG p q pm .non)) (hkw : PK X kws (Ga X.K fk))
    (hall : (backToKw pos (keywordEach kws X.env)).all (·.1.isSome) = true := by rfl) (hks : (backToKw pos (keywordEach kws X.env)).filterMap (·.1) = ks := by rfl) (hdb : (x == ("__debug__" : Str)) = false := by decide)
    (hpl : ((backTo pos (starEach [] X.env)).any (·.1) || (backToKw pos (keywordEach kws X.env)).any (·.1.isNone)) = false := by rfl) :
    PE X (.Call (.Name x np) [] kws pos) (GeX X.K xc (xA g (lK p q pm lNil fk))) := PE.imp (pe_callKS0 (E := WE xc.W) Fk hr hg hm hk hb (fun σ => passAt tk σ) hkw hall hks hdb hpl) fun σ H Q ⟨c, F, env, o, env', R, e, kk⟩ => by
  unfold xA lK lNil at e
  simp only [Option.bind_eq_some_iff, Option.map_eq_some_iff, Option.bind_some] at e
  obtain ⟨⟨d1, n1⟩, ⟨⟨d3, n3⟩, h2, h3⟩, z, h4, h5⟩ := e
  obtain ⟨rfl, rfl⟩ := Prod.mk.inj h3
  obtain ⟨rfl, rfl⟩ := Prod.mk.inj h5
  refine ⟨c, F, env, d3, n3, R, h2, fun v2 F2 H2 s2 R2 p2 => ?_⟩
  have hv := dp_kG (p := p) (q := q) (pm := pm) (F := F2) DpAll.nil p2
  refine ⟨F2, _, z, by rw [hv.len]; exact hl _ _ h4, R2.base, hv, h4, ?_⟩
  cases z with
  | ok d => exact fun v F' H' a1 a2 a3 a4 hv => kk v F' H' (s2.trans a1) (R2.after a1 a2 a3 a4) hv
  | ex cl d => exact fun F' H' v dd a1 a2 a3 a4 hd hv hn => kk F' H' v dd (s2.trans a1) (R2.after a1 a2 a3 a4) hd hv fun _ => hn.up (Same.refl _) fun b hb => R2.h0 hb
end
end Dn
set_option Elab.async false
set_option linter.all false
set_option maxRecDepth 100000
set_option maxHeartbeats 1000000
namespace Dn
open PySem PySem.Spec PyProof.Rows L2
open PySem.W (Frag)
variable [Tb]
/-- a list at a place of M, or no list whatever becomes of the lists -/
def EntK (K : Frag) (M : Addr → Prop) (H : Hp) (e : V) : Prop := (∃ b xs, e = .ref b ∧ M b ∧ H b = some (.lst xs) ∧ xs.length ≤ 1000) ∨
  ∀ H', (∀ b o, H b = some o → (∀ xs, o ≠ .lst xs) → H' b = some o) → ∃ t, TyX K H' e (.type t) ∧ PySem.W.kitOne K (.type t) (.type "list") = some false
/-- all stays but lists at M -/
def MutM (M : Addr → Prop) (H H' : Hp) : Prop := (∀ b o, H b = some o → ((∃ xs, o = .lst xs) → ¬ M b) → H' b = some o) ∧ ∀ b, H b ≠ none → H' b ≠ none
/-- thing and, of a tuple, what is in it -/
def EsK (K : Frag) (H : Hp) (vo : V) (es : List V) : Prop := (∃ p ws, vo = .ref p ∧ SqT K H p ws ∧ es = vo :: ws ∧ ∀ H', Same H H' → TyX K H' vo (.type "tuple")) ∨
  (es = [vo] ∧ ∀ H', Same H H' → ∃ t, TyX K H' vo (.type t) ∧ PySem.W.kitOne K (.type t) (.type "tuple") = some false)
def KeptP (K : Frag) (a : Addr) (vo : V) (H : Hp) (q : Hp → Prop) : Prop := ∃ (cl : Str) (u : V) (d : PyData) (N : Hp) (es : List V) (M : Addr → Prop),
  ErrAt H a (Tb.ca cl) u ∧ XfC K (Tb.ca cl) ∧ PySem.W.findIn K (.ref (Tb.ca cl)) "value" = some none ∧ Same N H ∧ Dp K N u d ∧ repOk d = true ∧ (∀ b xs, N b = some (.lst xs) → ¬ M b) ∧
  EsK K H vo es ∧ (∀ e ∈ es, EntK K M H e) ∧ es.length ≤ 1000 ∧ ∀ H', MutM M H H' → q H'
def GsK (K : Frag) : TS := fun D σ H => ∃ a vo, σ[0]? = some (some (.ref a)) ∧ σ[1]? = some (some vo) ∧ σ.length = 4 ∧ KeptP K a vo H fun H' => D.rt (.bl true) H'
def tShow (K : Frag) : TE := tCB (rRepS K) (tCons (tErrV K (tVar 0)) tNil)
def tIsk (K : Frag) (i : Nat) (T : String) : TT := fun σ H Q => tCB (rIsi K) (tCons (tVar i) (tCons (tC (.ty T)) tNil)) σ H fun x H' => ∃ k, TruV K x H' k ∧ Q k H'
def rLo (K : Frag) : List V → Hp → VK → Prop := fun xs H Q => ∃ p ys, xs = [.ref p] ∧ (SqL K H p ys ∨ SqT K H p ys) ∧ ∀ l, H l = none → Q (.ref l) (upd H l (.lst ys))
def tItk (K : Frag) : TE := tOp (rCatG K) (tLst (tCons (tVar 1) tNil)) (tCB (rLo K) (tCons (tIf (tIsk K 1 "tuple") (tVar 1) (tTup tNil)) tNil))
def tAppk (K : Frag) : TE := tBM K "list" rAppend (tVar 3) (tCons (tC (.str "late")) tNil)
theorem same_upd {H : Hp} {p : Addr} {o : HO} (h : H p = none) : Same H (upd H p o) := fun b u e => by rw [upd_ne (ne_of_none e h)]; exact e
section
variable {X : Cx} {st1 st2 st3 : Stmt}
theorem dssK (h1 : PS X st1 (tAsg (tShow X.K) (gName 2))) (h2 : PS X st2 (tFor (iLT X.K (tItk X.K)) (gName 3) (tIfS (tIsk X.K 3 "list") (tDrop (tAppk X.K)) tNext))) (h3 : PS X st3 (tRet (tOp rEq (tShow X.K) (tVar 2)))) :
    PSs X [st1, st2, st3] (GsK X.K) := PSs.imp (pss_cons h1 (pss_cons h2 (pss_one h3))) fun D σ H h => by
  obtain ⟨a, vo, s0, s1, hl, cl, u, d, N, es, M, er, xf, xn, sN, hu, ok, nM, hes, hent, hlen, kk⟩ := h
  refine ⟨.ref a, s0, a, Tb.ca cl, u, rfl, er, xf, xn, u, d, rfl, hu.up sN, ok, ?_⟩
  show tSeq (tFor (iLT X.K (tItk X.K)) (gName 3) (tIfS (tIsk X.K 3 "list") (tDrop (tAppk X.K)) tNext)) (tRet (tOp rEq (tShow X.K) (tVar 2))) D (σ.set 2 (some (.str d.shown))) H
  have t0 : (σ.set 2 (some (.str d.shown)))[0]? = some (some (.ref a)) := by rw [get_set_ne (by decide)]; exact s0
  have t1 : (σ.set 2 (some (.str d.shown)))[1]? = some (some vo) := by rw [get_set_ne (by decide)]; exact s1
  have t2 : (σ.set 2 (some (.str d.shown)))[2]? = some (some (.str d.shown)) := List.getElem?_set_self (by omega)
  have tl : (σ.set 2 (some (.str d.shown))).length = 4 := by simp [hl]
  generalize σ.set 2 (some (.str d.shown)) = τ at t0 t1 t2 tl
  -- the loop, over a list that has come
  have loop : ∀ (Z : Addr) (H4 : Hp), H Z = none → Same H H4 → H4 Z = some (.lst es) → ∃ W : Nat → Nat → L2.St → Hp → Prop, (∃ m, W 0 m τ H4) ∧ ∀ i m σ' H', W i m σ' H' →
      ((Itl X.K Z).stop i H' ∧ tRet (tOp rEq (tShow X.K) (tVar 2)) D σ' H') ∨ ((Itl X.K Z).go i H' ∧ ∃ Nx : L2.St → Hp → Prop, (∃ m' : Nat, ∀ σ'' H'', Nx σ'' H'' → m' < m ∧ W (i + 1) m' σ'' H'') ∧ ∀ x H'', (Itl X.K Z).yld i H' x H'' → ∀ D' : Ends, D'.nx = Nx →
        (tIfS (tIsk X.K 3 "list") (tDrop (tAppk X.K)) tNext) D' (σ'.set 3 (some x)) H'') := by
    intro Z H4 hZ s4 h4
    have nZ : ∀ b o, H b = some o → b ≠ Z := fun b o e z => by subst z; rw [hZ] at e; cases e
    refine ⟨fun i m σ' H' => i ≤ es.length ∧ m = es.length - i ∧ σ'[0]? = some (some (.ref a)) ∧ σ'[2]? = some (some (.str d.shown)) ∧ σ'.length = 4 ∧ H' Z = some (.lst es) ∧ MutM M H H' ∧
      ∀ e ∈ es, ∀ b xs, e = .ref b → M b → H b = some (.lst xs) → xs.length ≤ 1000 → ∃ ys, H' b = some (.lst ys) ∧ ys.length ≤ 1000 + i,
      ⟨es.length, Nat.zero_le _, by omega, t0, t2, tl, h4, ⟨fun b o e _ => s4 _ _ e, fun b hb => by
        cases e : H b with
        | none => exact absurd e hb
        | some o => rw [s4 _ _ e]; simp⟩, fun e he b xs _ _ hb hx => ⟨xs, s4 _ _ hb, by omega⟩⟩, ?_⟩
    rintro i m σ' H' ⟨hi, rfl, u0, u2, ul, hZ', mu, con⟩
    by_cases hlt : i < es.length
    · obtain ⟨e0, he0⟩ := len_get hlt
      refine .inr ⟨⟨es, e0, SqL.of hZ', he0⟩, _, ⟨es.length - (i + 1), fun σ'' H'' hw => ⟨by omega, hw⟩⟩, fun x H'' y => ?_⟩
      obtain ⟨rfl, y2⟩ := y
      have y3 := y2 es (SqL.of hZ')
      rw [he0] at y3
      cases y3
      intro D' hD'
      have v0 : (σ'.set 3 (some e0))[0]? = some (some (.ref a)) := by rw [get_set_ne (by decide)]; exact u0
      have v2 : (σ'.set 3 (some e0))[2]? = some (some (.str d.shown)) := by rw [get_set_ne (by decide)]; exact u2
      have v3 : (σ'.set 3 (some e0))[3]? = some (some e0) := List.getElem?_set_self (by omega)
      have vl : (σ'.set 3 (some e0)).length = 4 := by simp [ul]
      have mem := List.mem_of_getElem? he0
      rcases hent e0 mem with ⟨b, xs, rfl, hM, hb, hx⟩ | hno
      · obtain ⟨ys, hys, yl⟩ := con _ mem b xs rfl hM hb hx
        refine ⟨.ref b, v3, .ref b, .ty "list", .type "list", .type "list", true, rfl, .ty "list", .base (.lst hys), kit_ty (isT_list (.list [])), true, rfl, iteT ?_⟩
        refine ⟨.ref b, v3, .inl ⟨rfl, ys, SqL.of hys⟩, b, ys, .str "late", rfl, rfl, hys, ?_, ?_⟩
        · have : 1000 + i < sizeLine := Nat.lt_of_le_of_lt (show 1000 + i ≤ 2000 by omega) (by decide)
          omega
        rw [hD']
        have bZ : b ≠ Z := nZ _ _ hb
        refine ⟨hlt, rfl, v0, v2, vl, by rw [upd_ne (Ne.symm bZ)]; exact hZ', ⟨fun b' o e hn => ?_, fun b' hb' => ?_⟩, fun e he b' xs' ee hM' hb' hx' => ?_⟩
        · have hbb : b' ≠ b := fun z => by
            subst z
            rw [hb] at e
            exact hn ⟨xs, (Option.some.inj e).symm⟩ hM
          rw [upd_ne hbb]; exact mu.1 b' o e hn
        · by_cases hbb : b' = b
          · subst hbb; rw [upd_same]; simp
          · rw [upd_ne hbb]; exact mu.2 b' hb'
        · by_cases hbb : b' = b
          · subst hbb; exact ⟨_, upd_same, by simp; omega⟩
          · rw [upd_ne hbb]
            obtain ⟨zs, z1, z2⟩ := con e he b' xs' ee hM' hb' hx'
            exact ⟨zs, z1, by omega⟩
      · obtain ⟨t, ty, kt⟩ := hno H'' fun b o e hn => mu.1 b o e fun ⟨xs, z⟩ => absurd z (hn xs)
        refine ⟨e0, v3, e0, .ty "list", .type t, .type "list", false, rfl, .ty "list", ty, kt, false, rfl, iteF ?_⟩
        show D'.nx _ _
        rw [hD']
        exact ⟨hlt, rfl, v0, v2, vl, hZ', mu, fun e he b' xs' ee hM' hb' hx' => by
          obtain ⟨zs, z1, z2⟩ := con e he b' xs' ee hM' hb' hx'
          exact ⟨zs, z1, by omega⟩⟩
    · refine .inl ⟨⟨es, SqL.of hZ', by omega⟩, ?_⟩
      have er' : ErrAt H' a (Tb.ca cl) u := by
        obtain ⟨dd, e1, e2⟩ := er
        exact ⟨dd, mu.1 _ _ e1 (fun ⟨xs, z⟩ => by
          have z' : HO.ext _ = HO.lst xs := z
          cases z'), mu.1 _ _ e2 (fun ⟨xs, z⟩ => by cases z)⟩
      have sN' : Same N H' := fun b o e => mu.1 _ _ (sN _ _ e) fun ⟨xs, z⟩ => by subst z; exact nM b xs e
      refine ⟨.ref a, u0, a, Tb.ca cl, u, rfl, er', xf, xn, u, d, rfl, hu.up sN', ok, .str d.shown, u2, rfl, ?_⟩
      have e : decide (V.str d.shown = V.str d.shown) = true := by simp
      rw [e]
      exact kk H' mu
  -- the list over which it goes
  have enter : ∀ (Z : Addr) (H4 : Hp), H Z = none → Same H H4 → H4 Z = some (.lst es) → ∀ {R : It → Hp → Prop}, (∀ (J : It) (H5 : Hp), J = Itl X.K Z → H5 = H4 → R J H5) →
      ((∃ b, V.ref Z = .ref b ∧ (∃ xs, SqL X.K H4 b xs) ∧ R (Itl X.K b) H4) ∨ (∃ b, V.ref Z = .ref b ∧ (∃ xs, SqT X.K H4 b xs) ∧ R (Itt X.K b) H4)) := fun Z H4 _ _ h4 {R} k => .inl ⟨Z, rfl, ⟨es, SqL.of h4⟩, k _ _ rfl rfl⟩
  have go : ∀ (Z : Addr) (H4 : Hp), H Z = none → Same H H4 → H4 Z = some (.lst es) → ∀ (J : It) (H5 : Hp), J = Itl X.K Z → H5 = H4 → ∃ W : Nat → Nat → L2.St → Hp → Prop, (∃ m, W 0 m τ H5) ∧ ∀ i m σ' H', W i m σ' H' →
      (J.stop i H' ∧ tRet (tOp rEq (tShow X.K) (tVar 2)) D σ' H') ∨ (J.go i H' ∧ ∃ Nx : L2.St → Hp → Prop, (∀ σ'' H'', Nx σ'' H'' → ∃ m', m' < m ∧ W (i + 1) m' σ'' H'') ∧ ∀ x H'', J.yld i H' x H'' →
        gName 3 x σ' H'' fun σ2 H2 => (tIfS (tIsk X.K 3 "list") (tDrop (tAppk X.K)) tNext) { nx := Nx, rt := D.rt, bk := tRet (tOp rEq (tShow X.K) (tVar 2)) D, ct := Nx } σ2 H2) := by
    rintro Z H4 hZ s4 h4 J H5 rfl rfl
    obtain ⟨W, w0, w1⟩ := loop Z H5 hZ s4 h4
    refine ⟨W, w0, fun i m σ' H' w => ?_⟩
    rcases w1 i m σ' H' w with h | ⟨g, Nx, ⟨m', n1⟩, n2⟩
    · exact .inl h
    · exact .inr ⟨g, Nx, fun σ'' H'' hN => ⟨m', n1 σ'' H'' hN⟩, fun x H'' y => n2 x H'' y _ rfl⟩
  refine ⟨vo, t1, by show 1 ≤ sizeLine; decide, fun p1 hp1 => ?_⟩
  have e1 : Same H (upd H p1 (.lst [vo])) := same_upd hp1
  have len1 : es.length ≤ sizeLine := Nat.le_trans hlen (by decide)
  rcases hes with ⟨p, ws, rfl, hws, rfl, ty⟩ | ⟨rfl, ty⟩
  · refine ⟨.ref p, t1, .ref p, .ty "tuple", .type "tuple", .type "tuple", true, rfl, .ty "tuple", ty _ e1, kit_ty (isT_tuple (.tuple [])), true, rfl, iteT ?_⟩
    refine ⟨.ref p, t1, p, ws, rfl, .inr (sqT_mono e1 hws), fun l hl => ?_⟩
    have e2 : Same (upd H p1 (.lst [V.ref p])) (upd (upd H p1 (.lst [V.ref p])) l (.lst ws)) := same_upd hl
    refine ⟨p1, l, [.ref p], ws, rfl, rfl, SqL.of (e2 _ _ upd_same), SqL.of upd_same, by simpa [Nat.add_comm] using len1, fun Z hZ => ?_⟩
    have e3 := same_upd (o := .lst ([V.ref p] ++ ws)) hZ
    have eHZ : H Z = none := ((e1.trans e2).free hZ)
    exact enter Z _ eHZ ((e1.trans e2).trans e3) upd_same fun J H5 hJ hH => go Z _ eHZ ((e1.trans e2).trans e3) upd_same J H5 hJ hH
  · obtain ⟨t, ty1, kt⟩ := ty _ e1
    refine ⟨vo, t1, vo, .ty "tuple", .type t, .type "tuple", false, rfl, .ty "tuple", ty1, kt, false, rfl, iteF ?_⟩
    refine ⟨by show 0 ≤ sizeLine; decide, fun q hq => ?_⟩
    have e2 : Same (upd H p1 (.lst [vo])) (upd (upd H p1 (.lst [vo])) q (.tup [])) := same_upd hq
    refine ⟨q, [], rfl, .inr (SqT.of upd_same), fun l hl => ?_⟩
    have e3 := same_upd (o := .lst ([] : List V)) hl
    refine ⟨p1, l, [vo], [], rfl, rfl, SqL.of (e3 _ _ (e2 _ _ upd_same)), SqL.of upd_same, by show 1 ≤ sizeLine; decide, fun Z hZ => ?_⟩
    have e4 := same_upd (o := .lst ([vo] ++ [])) hZ
    have ee := ((e1.trans e2).trans e3).trans e4
    have eHZ : H Z = none := ((e1.trans e2).trans e3).free hZ
    exact enter Z _ eHZ ee upd_same fun J H5 hJ hH => go Z _ eHZ ee upd_same J H5 hJ hH
end
/-- the def's meaning -/
def spK (K : Frag) : Sp := fun vs H Q _ => ∃ a vo, vs = [.ref a, vo] ∧ KeptP K a vo H fun H' => Q (.bl true) H'
section
variable {P : Program} {w : World} {K : Frag} {mg : Str → Option Value} {base : Heap} {x qual : Str} {st : Stmt} {f : Addr} {fd : FuncData} {N ps : List Str} {k : Nat}
theorem okK (Fn : L2.Fun K x qual st f fd) (S : FnScope N ps (defScope st)) (hn : ps.length = 2) (hN : N.length = 4)
    (hb : ∀ (cdv : Value) (A : Around) (outer : List Env) (s : Shared) (H : Hp) (E : XK), Room k (A.deeper (envOfC qual (defScope st) s.heap.objs.size f cdv)) → PSs (cxOf CX0 P w K mg base N qual (defScope st) f cdv A outer s H E).nox (defBody st) (GsK K)) :
    FnOk P w K mg base CX0 (k + 1) f fd ps (spK K) := by
  refine Fn.okG S (fun vs H Q E h => ?_) (fun cdv A outer s H vs Q E hr h => ⟨GsK K, hb cdv A outer s H E hr, ?_⟩)
  · obtain ⟨a, vo, rfl, _⟩ := h
    exact hn.symm
  · obtain ⟨a, vo, rfl, h⟩ := h
    refine ⟨a, vo, start_get (by rfl), start_get (by rfl), by rw [start_len (by rw [hN]; simp), hN], h⟩
end
end Dn
set_option Elab.async false
set_option linter.all false
set_option maxRecDepth 100000
set_option maxHeartbeats 1000000
namespace Dn
open PySem PySem.Spec PyProof.Rows L2
open PySem.W (Frag)
variable [Tb]
def spE (K : Frag) (n : Nat) (f : List PyData → Option (Str × PyData)) : Sp := fun vs H Q _ => ∃ (F : Hp) (ds : List PyData) (cl : Str) (d : PyData), vs.length = n ∧ Bs F H ∧ DpAll K F vs ds ∧ f ds = some (cl, d) ∧
  ∀ a u F' H', Same F F' → Bs F' H' → Kp H H' → (∀ b, F' b ≠ none → F b ≠ none ∨ H b = none) → ErrAt F' a (Tb.ca cl) u → ExN K H F' u d → Q (.ref a) H'
def GsE (K : Frag) (cls : List Str) (i j : Nat) (fb : Fs) : TS := fun D σ H => ∃ c F env cl d env', Rl K c F σ H env ∧ fb (env.set j (.val .none)) = some (.ex cl d, env') ∧ cl ∈ cls ∧ i < env'.length ∧ j < env'.length ∧ i ≠ j ∧
  ∀ a u σ' F' H' e', Same F F' → Rl K c F' σ' H' e' → ErrAt F' a (Tb.ca cl) u → ExN K c.H0 F' u d → D.rt (.ref a) H'
section
variable {X : Cx} {n y base : Str} {C : Addr} {body : List Stmt} {fb : Fs} {st1 st3 : Stmt} {np py pn pos spos hpos : Pos}
theorem dssE (cls : List Str) (i j : Nat) (hN : X.N.Nodup) (h1 : PS X st1 (tAsg (tC .non) (gName j))) (h3 : PS X st3 (tRet (tVar j))) (hc : Names X base (.ref C)) (hm : ∀ c ∈ cls, PySem.W.exmOne X.K (.ref (Tb.ca c)) (.ref C) = some true)
    (hb : ∀ (W : WX) (pn : List (Addr × Obj)) (xe : Value → Shared → Prop), Takes (X.tr pn xe) W → PassesOwn (model X.prog X.w) X.A X.env xe → PSs (X.tr pn xe) body (Gs X.K ⟨W, Tb.ca, true⟩ fb))
    (hs : X.stack = X.env :: X.outer := by rfl) (hf : X.env.frame = some X.env.locals := by rfl) (hi : X.N[i]? = some n := by rfl) (hln : X.env.kindOf n = some .local := by rfl) (hex : X.ex = [] := by rfl) (hj : X.N[j]? = some y := by rfl)
    (hy : Loc X.env.scope y := by first | exact Or.inl rfl | exact Or.inr rfl) (hv : Vis X.env.scope n := by first | exact Or.inl rfl | exact Or.inr (Or.inl rfl) | exact Or.inr (Or.inr rfl)) (hd : (n == ("__debug__" : Str)) = false := by decide) (hcd : (n == ("__classdict__" : Str)) = false := by decide)
    (hsw : swapsWith (.Name n pn) (some (.Name y py)) spos.line X.env = pure false := by rfl) (hfy : X.fn y = true ∨ X.env.scope.names.lookup y = some .local := by first | exact .inl rfl | exact .inr rfl | assumption) :
    PSs X [st1, .Try body [.ExceptHandler (some (.Name base np)) (some n) [.Assign [.Name y py] (.Name n pn) spos] hpos] [] [] pos, st3] (GsE X.K cls i j fb) :=
  PSs.imp (pss_cons h1 (pss_cons (ps_try_keep (tb := fun W => Gs X.K ⟨W, Tb.ca, true⟩ fb) hs hf hN hi hln hc hb hex hj hy hv hd hcd hsw hfy) (pss_one h3))) fun D σ H ⟨c, F, env, cl, d, env', R, e, hcl, hil, hjl, hij, kk⟩ => by
  refine ⟨c, F, env.set j (.val .none), .ex cl d, env', R.put .non j, e, ?_⟩
  intro σ' F' H' v dd s R' hdd hv hn
  refine ⟨hm cl hcl, fun a ha => ?_⟩
  obtain ⟨s1, R1⟩ := R'.laid (o := .xd [("value", v)]) hdd
  obtain ⟨s2, R2⟩ := R1.laid (o := excO a (Tb.ca cl) dd) ha nt_exc
  have ne : dd ≠ a := ne_of_none (upd_same (H := H') (a := dd)) ha
  have er : ErrAt (upd (upd F' dd (.xd [("value", v)])) a (excO a (Tb.ca cl) dd)) a (Tb.ca cl) v := ⟨dd, upd_same, by rw [upd_ne ne]; exact upd_same⟩
  have hval : Dp X.K (upd (upd F' dd (.xd [("value", v)])) a (excO a (Tb.ca cl) dd)) (.ref a) (encE cl d) := .exc upd_same (by rw [upd_ne ne]; exact upd_same) (hv.up (s1.trans s2))
  have R3 := (((R2.junk i (some (.ref a))).put hval j).junk i none)
  have fin := kk a v _ _ _ _ (s.trans (s1.trans s2)) R3 er ((hn rfl).up (s1.trans s2) fun b hb => hb)
  refine ⟨.ref a, ?_, fin⟩
  have hjl' : j < σ'.length := by rw [← R'.len]; exact hjl
  rw [get_set_ne hij, List.getElem?_set_self (by simpa using hjl')]
end
def runE (cls : List Str) (i j : Nat) (b : Fs) (N n : Nat) : List PyData → Option (Str × PyData) := fun ds => if ds.length = n then match b ((en0 N ds).set j (.val .none)) with
  | some (.ex cl d, e) => if cl ∈ cls ∧ i < e.length ∧ j < e.length ∧ i ≠ j then some (cl, d) else none
  | _ => none else none
theorem runE_len {cls : List Str} {i j : Nat} {b : Fs} {N n : Nat} (ds : List PyData) (z : Str × PyData) (h : runE cls i j b N n ds = some z) : ds.length = n := by
  unfold runE at h
  split at h
  · assumption
  · cases h
section
variable {P : Program} {w : World} {K : Frag} {mg : Str → Option Value} {base : Heap} {x qual : Str} {st : Stmt} {f : Addr} {fd : FuncData} {N ps : List Str} {k n : Nat} {fb : Fs}
theorem okE {cls : List Str} {i j : Nat} (Fn : L2.Fun K x qual st f fd) (S : FnScope N ps (defScope st)) (hn : ps.length = n)
    (hb : ∀ (cdv : Value) (A : Around) (outer : List Env) (s : Shared) (H : Hp) (E : XK), Room k (A.deeper (envOfC qual (defScope st) s.heap.objs.size f cdv)) → PSs (cxOf CX0 P w K mg base N qual (defScope st) f cdv A outer s H E).nox (defBody st) (GsE K cls i j fb)) :
    FnOk P w K mg base CX0 (k + 1) f fd ps (spE K n (runE cls i j fb N.length n)) := by
  refine Fn.okG S (fun vs H Q E h => ?_) (fun cdv A outer s H vs Q E hr h => ⟨GsE K cls i j fb, hb cdv A outer s H E hr, ?_⟩)
  · obtain ⟨F, ds, cl, d, h1, _⟩ := h
    rw [h1, hn]
  · obtain ⟨F, ds, cl, d, h1, h2, h3, h4, h5⟩ := h
    have hl := h3.len
    have hN : ps.length ≤ N.length := by
      have := congrArg List.length S.pre
      rw [List.length_take] at this
      omega
    unfold runE at h4
    rw [if_pos (by omega)] at h4
    split at h4
    · rename_i cl' d' env' e
      split at h4
      · rename_i hz
        cases h4
        have R : Rl K ⟨H, F, noT H, vs⟩ F (L2.start N vs) H (en0 N.length ds) := by
          refine ⟨h2.sub, Same.refl F, noT_sub, noT_sub, fun a h => .inl h, fun a h => h, ?_, fun i d h => ?_, fun i p es h => (en0_own h).elim, h2.tab, h2.nf, noT_no⟩
          · rw [start_len (by omega)]
            unfold en0
            rw [List.length_append, List.length_map, List.length_replicate]
            omega
          · obtain ⟨v, e1, e2⟩ := h3.at (en0_val h)
            exact ⟨v, start_get e1, e2⟩
        refine ⟨⟨H, F, noT H, vs⟩, F, en0 N.length ds, cl, d, env', R, e, hz.1, hz.2.1, hz.2.2.1, hz.2.2.2, fun a u σ' F' H' e' s' R' her hne => ?_⟩
        exact h5 a u F' H' R'.f0 R'.base ⟨fun b o n e => R'.gd b o (noT_of e n), R'.dom⟩ R'.new her hne
      · cases h4
    · cases h4
end
def GeE (K : Frag) (cls : List Str) (g : List PyData → Option (Str × PyData)) (fl : Fl) : TE := fun σ H Q => ∃ c F env ds cl d env', Rl K c F σ H env ∧ fl env = some (ds, env') ∧ g ds = some (cl, d) ∧ cl ∈ cls ∧
  ∀ a u F' H', Same F F' → Rl K c F' σ H' env' → ErrAt F' a (Tb.ca cl) u → Dp K (freshL F F') u d → Q (.ref a) H'
section
variable {X : Cx} {k n : Nat} {f : Addr} {fd : FuncData} {ps : List Str} {x : Str} {p pos : Pos} {e : Expr} {es : List Expr} {fl : Fl} {g : List PyData → Option (Str × PyData)} {cls : List Str}
theorem deE_call (Fk : FnOk X.prog X.w X.K X.mg X.base CX0 k f fd ps (spE X.K n g)) (hl : ∀ ds z, g ds = some z → ds.length = n) (hr : Room k X.A) (hg : Gl X x) (hm : X.mg x = some (.ref f)) (hk : PySem.W.keepIn X.K (.ref f) = true) (hb : Binds X.K fd ps []) (ha : PA X (e :: es) (Ga X.K fl))
    (hdb : (x == ("__debug__" : Str)) = false := by decide) (he : starEach (e :: es) X.env = (false, eval e X.env) :: starEach es X.env := by rfl) (hpl : (backTo pos (starEach es X.env)).any (·.1) = false := by rfl) :
    PE X (.Call (.Name x p) (e :: es) [] pos) (GeE X.K cls g fl) := PE.imp (pe_call Fk hr hg hm hk hb .nil pass0 ha hdb he hpl) fun σ H Q ⟨c, F, env, ds, cl, d, env', R, e, e2, _, kk⟩ => by
  refine ⟨c, F, env, ds, env', R, e, fun vs F1 H1 s1 R1 hv => ⟨F1, ds, cl, d, by rw [List.append_nil, hv.len]; exact hl _ _ e2, R1.base, by rw [List.append_nil]; exact hv, e2, ?_⟩⟩
  intro a u F' H' a1 a2 a3 a4 her hne
  refine kk a u F' H' (s1.trans a1) (R1.after a1 a2 a3 a4) her (hne.dp.up (freshL_h0 fun b hb => ?_))
  exact (s1.trans R1.sub).free hb
end
def entOk (d : PyData) : Bool := tyOk d && (match d with
  | .list ds => decide (ds.length ≤ 1000)
  | _ => true)
def topOk (d : PyData) : Bool := entOk d && (match d with
  | .tuple ds => decide (ds.length ≤ 900) && ds.all entOk
  | _ => true)
theorem tyX_nl {K : Frag} {F H H' : Hp} {v : V} {d : PyData} (k : ∀ b o, H b = some o → (∀ xs, o ≠ .lst xs) → H' b = some o) (s : Same F H) (h : Dp K F v d) (hk : tyOk d = true) (hl : ∀ ds, d ≠ .list ds) : TyX K H' v (.type (tyN d)) := by
  cases h with
  | dct hs _ => exact .fDict (k _ _ (s _ _ hs) fun _ z => by cases z)
  | exc _ _ _ => cases hk
  | rng _ => cases hk
  | nw _ => cases hk
  | non => exact .base .non
  | bl b => exact .base (.bl b)
  | int i => exact .base (.int i)
  | str x => exact .base (.str x)
  | lst hs ha => exact absurd rfl (hl _)
  | tup hs ha =>
    rcases sqT_mono s hs with (h | ⟨o, h⟩) | ⟨o, its, n, h1, h2, _⟩
    · exact .base (.tup (k _ _ h fun _ z => by cases z))
    · exact .fTuple (k _ _ h fun _ z => by cases z)
    · exact .kTuple h1 h2
theorem isT_l {d : PyData} (hl : ∀ ds, d ≠ .list ds) : isT "list" d = false := by
  cases d <;> first | (exact absurd rfl (hl _)) | (simp only [isT]; decide)
theorem isT_t {d : PyData} (hl : ∀ ds, d ≠ .tuple ds) : isT "tuple" d = false := by
  cases d <;> first | (exact absurd rfl (hl _)) | (simp only [isT]; decide)
end Dn
set_option Elab.async false
set_option linter.all false
set_option maxRecDepth 100000
set_option maxHeartbeats 1000000
namespace Dn
open PySem PySem.Spec PyProof.Rows L2
open PySem.W (Frag)
def opn1 : Sl → Sl
  | .val d => if noL d then .val d else .no
  | .own _ ks => if noLs ks then .own true ks else .no
  | .no => .no
def opn (env : En) : En := env.map opn1
def nolF (F : Hp) : Hp := fun b => match F b with
  | some (.lst _) => none
  | o => o
theorem nolF_get {F : Hp} {b : Addr} {o : HO} (h : nolF F b = some o) : F b = some o ∧ ∀ xs, o ≠ .lst xs := by
  unfold nolF at h
  split at h
  · cases h
  · rename_i x
    exact ⟨h, fun xs z => by subst z; exact x xs h⟩
theorem nolF_of {F : Hp} {b : Addr} {o : HO} (h : F b = some o) (n : ∀ xs, o ≠ .lst xs) : nolF F b = some o := by
  unfold nolF
  rw [h]
  cases o with
  | lst xs => exact absurd rfl (n xs)
  | _ => rfl
open Classical in
noncomputable def hpS (H : Hp) (σ : L2.St) (env : En) : Hp := fun b => if ∃ (j : Nat) (p : Bool) (ks : List PyData), env[j]? = some (.own p ks) ∧ σ[j]? = some (some (.ref b)) then none else noT H b
noncomputable def cS (F : Hp) (σ : L2.St) (H : Hp) (env : En) : C3 := ⟨H, nolF F, hpS H σ env, σ.map fun o => o.getD .non⟩
theorem hpS_get {H : Hp} {σ : L2.St} {env : En} {b : Addr} {o : HO} (h : hpS H σ env b = some o) : noT H b = some o ∧ ∀ (j : Nat) (p : Bool) (ks : List PyData), env[j]? = some (.own p ks) → σ[j]? ≠ some (some (.ref b)) := by
  unfold hpS at h
  split at h
  · cases h
  · rename_i x
    exact ⟨h, fun j p ks h1 h2 => x ⟨j, p, ks, h1, h2⟩⟩
theorem opn_val {env : En} {i : Nat} {d : PyData} (h : (opn env)[i]? = some (.val d)) : env[i]? = some (.val d) ∧ noL d = true := by
  unfold opn at h
  rw [List.getElem?_map] at h
  cases e : env[i]? with
  | none => rw [e] at h; cases h
  | some s =>
    rw [e] at h
    simp only [Option.map_some, Option.some.injEq] at h
    cases s with
    | no => cases h
    | val d' =>
      unfold opn1 at h
      dsimp only at h
      split at h
      · rename_i hz; cases h; exact ⟨rfl, hz⟩
      · cases h
    | own p ks =>
      unfold opn1 at h
      dsimp only at h
      split at h <;> cases h
theorem opn_own {env : En} {i : Nat} {p : Bool} {ks : List PyData} (h : (opn env)[i]? = some (.own p ks)) : p = true ∧ noLs ks = true ∧ ∃ q, env[i]? = some (.own q ks) := by
  unfold opn at h
  rw [List.getElem?_map] at h
  cases e : env[i]? with
  | none => rw [e] at h; cases h
  | some s =>
    rw [e] at h
    simp only [Option.map_some, Option.some.injEq] at h
    cases s with
    | no => cases h
    | val d' =>
      unfold opn1 at h
      dsimp only at h
      split at h <;> cases h
    | own q ks' =>
      unfold opn1 at h
      dsimp only at h
      split at h
      · rename_i hz; cases h; exact ⟨rfl, hz, q, rfl⟩
      · cases h
variable [Tb]
theorem tabs_mut {T : List (Addr × Str)} {M : Addr → Prop} {H H' : Hp} (h : LamX.Tabs T H) (mu : MutM M H H') : LamX.Tabs T H' := fun p hp => by
  obtain ⟨ps, h1, h2, h3⟩ := h p hp
  refine ⟨ps, mu.1 _ _ h1 (fun ⟨xs, z⟩ => by cases z), h2, fun pos cv hc => ?_⟩
  obtain ⟨c, e1, e2⟩ := h3 pos cv hc
  exact ⟨c, e1, mu.1 _ _ e2 fun ⟨xs, z⟩ => by unfold LamX.CodeO at z; cases z⟩
section
variable {K : Frag} {c : C3} {F F2 H H2 H3 : Hp} {σ σ2 : L2.St} {env env2 : En}
theorem Rl.open (R : Rl K c F σ H env) : Rl K (cS F σ H env) (nolF F) σ H (opn env) := by
  refine ⟨fun b o e => R.sub _ _ (nolF_get e).1, Same.refl _, fun b o e => noT_sub _ _ (hpS_get e).1, fun b o e => noT_sub _ _ (hpS_get e).1, fun b h => .inl h, fun b h => h, by rw [opn, List.length_map]; exact R.len, fun i d h => ?_, fun i p ks h => ?_, R.tab, fun b ps e => R.nf b ps (nolF_get e).1, fun b ps e => noT_no b ps (hpS_get e).1⟩
  · obtain ⟨h1, h2⟩ := opn_val h
    obtain ⟨v, e1, e2⟩ := R.val i d h1
    exact ⟨v, e1, Dp.off (fun b o e x => nolF_of e x) d h2 e2⟩
  · obtain ⟨rfl, h2, q, h3⟩ := opn_own h
    obtain ⟨a, xs, e1, e2, e3, e4, e5, e6, e7⟩ := R.own i q ks h3
    refine ⟨a, xs, e1, ?_, e3, DpAll.off (fun b o e x => nolF_of e x) ks h2 e4, ?_, ?_, fun j q' es hj hq => ?_⟩
    · unfold nolF; rw [e2]
    · show hpS H σ env a = none
      unfold hpS
      rw [if_pos ⟨i, q, ks, h3, e1⟩]
    · show (σ.map fun o => o.getD .non)[i]? = some (.ref a)
      rw [List.getElem?_map, e1]; rfl
    · obtain ⟨_, _, q2, h4⟩ := opn_own hq
      exact e7 j q2 es hj h4
end
abbrev stT (i : Tb) : Tb := { T := i.T, ca := i.ca, sl := false, old := i.old }
omit [Tb]
section
variable {i : Tb} {K : Frag}
mutual
theorem Dp.toS {F : Hp} : ∀ (d : PyData) {v : V}, noL d = true → @Dp i K F v d → @Dp (stT i) K F v d
  | .none, _, _, h => by cases h; exact @Dp.non (stT i) K F
  | .bool b, _, _, h => by cases h; exact @Dp.bl (stT i) K F b
  | .int n, _, _, h => by cases h; exact @Dp.int (stT i) K F n
  | .str x, _, _, h => by cases h; exact @Dp.str (stT i) K F x
  | .list ds, _, hc, h => by simp [noL] at hc
  | .tuple ds, _, hc, h => by
    cases h with
    | tup hs ha => exact @Dp.tup (stT i) K F _ _ _ hs (DpAll.toS ds (by simpa [noL] using hc) ha)
  | .dict _, _, hc, h => by simp [noL] at hc
theorem DpAll.toS {F : Hp} : ∀ (ds : List PyData) {vs : List V}, noLs ds = true → @DpAll i K F vs ds → @DpAll (stT i) K F vs ds
  | [], _, _, h => by cases h; exact @DpAll.nil (stT i) K F
  | d :: ds, _, hc, h => by
    have hc' : noL d = true ∧ noLs ds = true := by simpa [noLs] using hc
    cases h with
    | cons h1 h2 => exact @DpAll.cons (stT i) K F _ _ _ _ (Dp.toS d hc'.1 h1) (DpAll.toS ds hc'.2 h2)
end
mutual
theorem Dp.ofS {F : Hp} {v : V} {d : PyData} (h : @Dp (stT i) K F v d) : @Dp i K F v d := by
  cases h with
  | non => exact @Dp.non i K F
  | bl b => exact @Dp.bl i K F b
  | int n => exact @Dp.int i K F n
  | str x => exact @Dp.str i K F x
  | lst hs ha st => exact @Dp.lst i K F _ _ _ hs (DpAll.ofS ha) fun _ => st rfl
  | tup hs ha => exact @Dp.tup i K F _ _ _ hs (DpAll.ofS ha)
  | dct hs ha => exact @Dp.dct i K F _ _ _ _ hs (DpKv.ofS ha)
  | exc h1 h2 h3 => exact @Dp.exc i K F _ _ _ _ _ h1 h2 (Dp.ofS h3)
  | rng h => exact @Dp.rng i K F _ _ _ h
  | nw h => exact @Dp.nw i K F _ _ h
theorem DpAll.ofS {F : Hp} {vs : List V} {ds : List PyData} (h : @DpAll (stT i) K F vs ds) : @DpAll i K F vs ds := by
  cases h with
  | nil => exact @DpAll.nil i K F
  | cons h1 h2 => exact @DpAll.cons i K F _ _ _ _ (Dp.ofS h1) (DpAll.ofS h2)
theorem DpKv.ofS {F : Hp} {vs : List (Key × V)} {ds : List (PyData × PyData)} (h : @DpKv (stT i) K F vs ds) : @DpKv i K F vs ds := by
  cases h with
  | nil => exact @DpKv.nil i K F
  | cons h1 h2 => exact @DpKv.cons i K F _ _ _ _ _ (Dp.ofS h1) (DpKv.ofS h2)
end
theorem Bs.toS {F H : Hp} (h : @Bs i F H) : @Bs (stT i) F H := @Bs.mk (stT i) F H (@Bs.sub i F H h) (@Bs.nf i F H h) (@Bs.tab i F H h)
theorem Bs.ofS {F H : Hp} (h : @Bs (stT i) F H) : @Bs i F H := @Bs.mk i F H (@Bs.sub (stT i) F H h) (@Bs.nf (stT i) F H h) (@Bs.tab (stT i) F H h)
end
end Dn
set_option Elab.async false
set_option linter.all false
set_option maxRecDepth 100000
set_option maxHeartbeats 1000000
namespace L2
open PySem PySem.Spec PyProof.Rows
def rErrIsB (K : PySem.W.Frag) : List V → Hp → VK → Prop := fun xs H Q => ∃ (a C : Addr) (T : String) (v : V) (b : Bool), xs = [.ref a, .ty T] ∧ ErrAt H a C v ∧ ExcC K C ∧ PySem.W.kitOne K (.ref C) (.type T) = some b ∧ Q (.bl b) H
theorem call_errIsB {X : Cx} : CallR X (.builtin "isinstance") (rErrIsB X.K) := by
  intro pins s σ H xs us Q I r h
  obtain ⟨a, C, D, v, b, rfl, er, T, one, q⟩ := h
  obtain ⟨u1, u2, rfl, r1, r2⟩ := vals2 r
  cases (show u1 = Value.ref a from r1)
  cases (show u2 = Value.type D from r2)
  obtain ⟨oe, od, u, J, _, _⟩ := er.inst I.hok
  have hcl : (PySem.W.clsIn X.K C).isSome = true := by
    obtain ⟨cd, hc, _⟩ := PySem.W.any_some T.hd
    rw [hc]; rfl
  exact PySem.W.kia_one (PySem.W.kitx_exc hcl T.hg T.hk T.hs T.ha T.hn T.ht T.hm) I.kIn J one (fun z => nomatch z) fun tk => ⟨.bl b, H, I.tok tk, rfl, q⟩
end L2
namespace Dn
open PySem PySem.Spec PyProof.Rows L2
open PySem.W (Frag)
variable [Tb]
section
variable {X : Cx} {pos : Pos}
theorem de_isCB {e : Expr} {f : Fe} {T : String} {x : Str} {p q : Pos} (tbl : List (Str × Bool)) (hX : ∀ cl b, (cl, b) ∈ tbl → ExcC X.K (Tb.ca cl) ∧ PySem.W.kitOne X.K (.ref (Tb.ca cl)) (.type T) = some b) (hN0 : PySem.W.kitOne X.K (.type "NoneType") (.type T) = some false)
    (hg : Gl X "isinstance") (hm : X.mg "isinstance" = none) (hgx : Gl X x) (hmx : X.mg x = none) (hvx : bootBuiltins x = some (.type T)) (he : PE X e (Ge X.K f)) (hnx : x ≠ "__name__" := by decide) (hdx : (x == ("__debug__" : Str)) = false := by decide)
    (he0 : starEach (Expr.Name x q :: []) X.env = (false, eval (Expr.Name x q) X.env) :: starEach [] X.env := by rfl)
    (he1 : starEach (e :: Expr.Name x q :: []) X.env = (false, eval e X.env) :: starEach [Expr.Name x q] X.env := by rfl) (hpl : (backTo pos (starEach [Expr.Name x q] X.env)).any (·.1) = false := by rfl) :
    PE X (.Call (.Name "isinstance" p) [e, .Name x q] [] pos) (Ge X.K (eIsC tbl f)) :=
  PE.imp (pe_callB (CallR.or call_isi call_errIsB) hg hm (by decide +kernel) (pa_cons he (pa_cons (pe_bltn (v := .ty T) hgx hmx hvx rfl hnx hdx) pa_nil he0) he1) (by decide) (by decide) he1 hpl) fun σ H Q h => by
  obtain ⟨c, F, env, d, env', R, e, k⟩ := h
  unfold eIsC at e
  simp only [Option.bind_eq_some_iff] at e
  obtain ⟨⟨d1, n1⟩, h1, h2⟩ := e
  dsimp only at h2
  split at h2
  · cases h2
    refine ⟨c, F, env, _, _, R, h1, fun v F' H' s R' hv => ?_⟩
    cases hv
    exact .inl ⟨.non, .ty T, .type "NoneType", .type T, false, rfl, .ty T, .base .non, hN0, k _ F' H' s R' (.bl false)⟩
  · rename_i d2 cl hh
    simp only [Option.map_eq_some_iff] at h2
    obtain ⟨b, hb, h3⟩ := h2
    cases h3
    refine ⟨c, F, env, _, _, R, h1, fun v F' H' s R' hv => ?_⟩
    obtain ⟨a, u, rfl, er, hu⟩ := dp_err hv
    obtain ⟨q1, q2⟩ := hX cl b (lookup_mem hb)
    exact .inr ⟨a, _, T, u, b, rfl, ErrAt.up er R'.sub, q1, q2, k _ F' H' s R' (.bl b)⟩
  · cases h2
end
end Dn
set_option Elab.async false
set_option linter.all false
set_option maxRecDepth 100000
set_option maxHeartbeats 1000000
namespace Dn
open PySem PySem.Spec PyProof.Rows L2
open PySem.W (Frag)
def sAsgX (f : FeX) (g : Tg) : Fs := fun env => (f env).bind fun p => match p.1 with
  | .ok d => (g d p.2).map fun z => (.nx, z)
  | .ex cl d => some (.ex cl d, p.2)
section
variable {x : Sl} {e : En} {d : PyData} {cl : Str} {fx : FeX} {f : Fe} {g : Tg}
def kAsgX (g : Tg) (p : Xo × En) : Option (Flw × En) := match p.1 with
  | .ok d => (g d p.2).map fun z => (.nx, z)
  | .ex cl d => some (.ex cl d, p.2)
@[simp] theorem ev_asgX : sAsgX fx g (x :: e) = (fx (x :: e)).bind (kAsgX g) := rfl
@[simp] theorem kAsgX_ok : kAsgX g (.ok d, e) = (g d e).map fun z => (.nx, z) := rfl
@[simp] theorem kAsgX_ex : kAsgX g (.ex cl d, e) = some (.ex cl d, e) := rfl
def kNoL (p : PyData × En) : Option (PyData × En) := if noL p.1 then some p else none
@[simp] theorem ev_NoL : eNoL f (x :: e) = (f (x :: e)).bind kNoL := rfl
@[simp] theorem kNoL_e : kNoL (d, e) = if noL d then some (d, e) else none := rfl
def kScal (p : PyData × En) : Option (PyData × En) := if scal p.1 then some p else none
@[simp] theorem ev_Scal : eScal f (x :: e) = (f (x :: e)).bind kScal := rfl
@[simp] theorem kScal_e : kScal (d, e) = if scal d then some (d, e) else none := rfl
def endA : Option (Flw × En) → Option PyData
  | some (.rt d, _) => some d
  | _ => none
@[simp] theorem endA_rt : endA (some (.rt d, e)) = some d := rfl
theorem runA1 {N : Nat} {b : Fs} : runA b (N + 1) 1 [d] = endA (b (.val d :: List.replicate N .no)) := by
  simp only [runA, en0, List.length_cons, List.length_nil, List.map_cons, List.map_nil, if_true]
  cases h : b (.val d :: List.replicate N .no) with
  | none => simp [h, endA]
  | some r => obtain ⟨fl, e⟩ := r; cases fl <;> simp [h, endA]
end
end Dn
set_option Elab.async false
set_option linter.all false
set_option maxRecDepth 100000
set_option maxHeartbeats 1000000
namespace Dn
open PySem PySem.Spec PyProof.Rows L2
open PySem.W (Frag kdx_alive)
/-- a zip whatever its tuple -/
abbrev ZipRec (h : Heap) (z TI TO : Addr) (f0 : Value) (f : Bool) : Prop :=
  h.get? z = some { cls := .type "zip", dict := none, data := .fields #[f0, .bool f, .bool false, .ref TI, .ref TO], slots := #[] }
section
variable {prog : Program} {w : World} {A : Around} {E : Value → Shared → Prop} {s : Shared}
/-- a zip of two lists at turn i, whatever its tuple -/
def ZipSt (h : Heap) (z TI TO i1 i2 l1 l2 : Addr) (i : Nat) : Prop :=
  (IsZip h z TI TO .none ∨ ∃ (T : Addr) (f : Bool), ZipRec h z TI TO (rawInt T) f) ∧ IsPair h TI (.ref i1) (.ref i2) ∧ (∃ x y, IsPair h TO x y) ∧ h.IsListIter i1 l1 i ∧ h.IsListIter i2 l2 i
theorem ZipSt.frame {z TI TO i1 i2 l1 l2 : Addr} {i : Nat} {h h' : Heap} (st : ZipSt h z TI TO i1 i2 l1 l2 i) (k : ∀ b, b = z ∨ b = TI ∨ b = TO ∨ b = i1 ∨ b = i2 → ∀ o, h.get? b = some o → h'.get? b = some o) : ZipSt h' z TI TO i1 i2 l1 l2 i := by
  obtain ⟨h0, hTI, ⟨x, y, hTO⟩, h1, h2⟩ := st
  refine ⟨?_, k TI (.inr (.inl rfl)) _ hTI, ⟨x, y, k TO (.inr (.inr (.inl rfl))) _ hTO⟩, h1.at fun o q => k i1 (.inr (.inr (.inr (.inl rfl)))) o q, h2.at fun o q => k i2 (.inr (.inr (.inr (.inr rfl)))) o q⟩
  rcases h0 with h0 | ⟨T, f, h0⟩
  · exact .inl (k z (.inl rfl) _ h0)
  · exact .inr ⟨T, f, k z (.inl rfl) _ h0⟩
end
variable [Tb]
end Dn
set_option Elab.async false
set_option linter.all false
set_option maxRecDepth 100000
set_option maxHeartbeats 1000000
namespace Dn
open PySem PySem.Spec PyProof.Rows L2
open PySem.W (Frag)
variable [Tb]
/-- a range as data -/
abbrev rgD (lo hi : Int) : PyData := .dict [(.none, .int lo), (.none, .int hi)]
@[simp] def gRng1 : List PyData → Option PyData
  | [.int j] => some (rgD 0 j)
  | _ => none
theorem kv_none {K : Frag} {H : Hp} {ks : List (Key × V)} {kvs : List (PyData × PyData)} (h : DpKv K H ks kvs) (d : PyData) (r : List (PyData × PyData)) : kvs ≠ (.none, d) :: r := by
  intro e
  cases h with
  | nil => cases e
  | @cons k v ks d' kvs h1 h2 => cases k <;> simp [kD] at e
section
variable {X : Cx} {e tg : Expr} {f fa : Fe}
def kPopAt (i : Nat) (p : PyData × En) : Option (PyData × En) := match p.1, p.2[i]? with
  | .int k, some (.own b ds) => if 0 ≤ k ∧ ds.length ≤ 1000000 then (ds[k.toNat]?).map fun d => (d, p.2.set i (.own b (ds.eraseIdx k.toNat))) else none
  | _, _ => none
def ePopAt (i : Nat) (fa : Fe) : Fe := fun env => if isOwn env i then (fa env).bind (kPopAt i) else none
omit [Tb] in
theorem kPopAt_inv {i : Nat} {d1 d : PyData} {n1 e' : En} (h : kPopAt i (d1, n1) = some (d, e')) : ∃ j b ds, d1 = .int j ∧ n1[i]? = some (.own b ds) ∧ 0 ≤ j ∧ ds.length ≤ 1000000 ∧ ds[j.toNat]? = some d ∧ e' = n1.set i (.own b (ds.eraseIdx j.toNat)) := by
  unfold kPopAt at h
  split at h
  · rename_i k b ds q1 q2
    split at h
    · rename_i hz
      simp only [Option.map_eq_some_iff] at h
      obtain ⟨d2, h3, h4⟩ := h
      obtain ⟨rfl, rfl⟩ := Prod.mk.inj h4
      exact ⟨k, b, ds, q1, q2, hz.1, hz.2, h3, rfl⟩
    · cases h
  · cases h
theorem dpAll_eraseK {K : Frag} {F : Hp} : ∀ {vs : List V} {ds : List PyData} (k : Nat), DpAll K F vs ds → DpAll K F (vs.eraseIdx k) (ds.eraseIdx k)
  | _, _, _, .nil => by simp; exact .nil
  | _, _, 0, .cons _ h2 => h2
  | _, _, k + 1, .cons h1 h2 => .cons h1 (dpAll_eraseK k h2)
theorem de_popAt (i : Nat) {a : Expr} {x : Str} {p2 apos cpos : Pos} (ha : PE X a (Ge X.K fa)) (hN : X.N[i]? = some x := by rfl) (hv : Vis X.env.scope x := by first | exact Or.inl rfl | exact Or.inr (Or.inl rfl) | exact Or.inr (Or.inr rfl)) (hd : (x == ("__debug__" : Str)) = false := by decide)
    (hcd : (x == ("__classdict__" : Str)) = false := by decide)
    (hbase : attributeBase (.Name x p2) "pop" X.env (eval (.Name x p2) X.env) = eval (.Name x p2) X.env := by rfl)
    (hfew : ((backTo cpos (starEach (a :: []) X.env)).all (fun x => !x.1) && (backToKw cpos (keywordEach [] X.env)).all (fun x => x.1.isSome)
      && decide ((a :: []).length + ([] : List Keyword).length + (if ([] : List Keyword).isEmpty then 0 else 1) < 30)) = true := by rfl)
    (hline : (apos.endLine == cpos.line) = true := by rfl) (hs2 : starEach (a :: []) X.env = (false, eval a X.env) :: starEach [] X.env := by rfl) (hplain : (backTo cpos (starEach [] X.env)).any (·.1) = false := by rfl) :
    PE X (.Call (.Attribute (.Name x p2) "pop" apos) [a] [] cpos) (Ge X.K (ePopAt i fa)) :=
  PE.imp (pe_bm PySem.F.plainAttrs_list PySem.F.slot_list_pop PySem.F.type_list_pop mt_popAt (pe_var hN hv hd hcd) (pa_cons ha pa_nil hs2) hbase hfew hline hs2 hplain) fun σ H Q ⟨c, F, env, d, env', R, e, k⟩ => by
  unfold ePopAt at e
  by_cases ho : isOwn env i = true
  · rw [if_pos ho] at e
    simp only [Option.bind_eq_some_iff] at e
    obtain ⟨⟨d1, n1⟩, h1, h2⟩ := e
    obtain ⟨j, b, ds, rfl, hi, hz, hz2, h3, rfl⟩ := kPopAt_inv h2
    obtain ⟨p, ys, hp, hy⟩ := own_of R ho
    refine ⟨.ref p, hp, .inl ⟨rfl, ys, SqL.of hy⟩, c, F, env, _, n1, R, h1, fun v F' H' s R' hv => ?_⟩
    obtain ⟨a', xs, e1, e2, e3, e4, e5, e6, e7⟩ := R'.own i b ds hi
    rw [hp] at e1
    cases e1
    cases hv
    obtain ⟨w, v1, v2⟩ := dpAll_at e4 h3
    have hlt : j.toNat < ds.length := (List.getElem?_eq_some_iff.mp h3).1
    have h63 : (2 : Int) ^ 63 = 9223372036854775808 := by decide
    refine ⟨p, xs, j, j.toNat, w, rfl, rfl, e3, by omega, by omega, by rw [e4.len]; exact seqIndex_of hz (by omega), v1, ?_⟩
    exact k w F' _ s (R'.write hi hp (dpAll_eraseK _ e4)) v2
  · rw [if_neg ho] at e
    cases e
end
section
omit [Tb]
variable {e : En} {x : Sl} {f : Fl} {fa : Fe} {i : Nat}
@[simp] theorem ePopAt_k : ePopAt i fa (x :: e) = if isOwn (x :: e) i then (fa (x :: e)).bind (kPopAt i) else none := rfl
theorem kPopAt_e {b : Bool} {ds : List PyData} {k : Nat} {d : PyData} (hi : e[i]? = some (.own b ds)) (hk : ds[k]? = some d) (hl : ds.length ≤ 1000000) : kPopAt i (.int (k : Int), e) = some (d, e.set i (.own b (ds.eraseIdx k))) := by
  unfold kPopAt
  simp only [hi]
  rw [if_pos ⟨by omega, hl⟩, Int.toNat_natCast, hk]
  rfl
end
end Dn
set_option Elab.async false
set_option linter.all false
set_option maxRecDepth 100000
set_option maxHeartbeats 1000000
namespace Dn
open PySem PySem.Spec PyProof.Rows L2
open PySem.W (Frag)
variable [Tb]
def lCutO (i : Nat) (fo fh : Fo) : Fl := fun env => if isOwn env i then (fo env).bind fun q => (fh q.2).bind fun r => match r.2[i]? with
  | some (.own _ ds) => some (cutD ds q.1 r.1, r.2)
  | _ => none else none
omit [Tb]
variable {e : En} {x : Sl} {i : Nat} {fo fh : Fo}
def kCutO3 (i : Nat) (lo : Option Int) (r : Option Int × En) (s : Option Sl) : Option (List PyData × En) := match s with
  | some (.own _ ds) => some (cutD ds lo r.1, r.2)
  | _ => none
def kCutO2 (i : Nat) (lo : Option Int) (r : Option Int × En) : Option (List PyData × En) := kCutO3 i lo r r.2[i]?
def kCutO (i : Nat) (fh : Fo) (q : Option Int × En) : Option (List PyData × En) := (fh q.2).bind (kCutO2 i q.1)
@[simp] theorem lCutO_k : lCutO i fo fh (x :: e) = if isOwn (x :: e) i then (fo (x :: e)).bind (kCutO i fh) else none := rfl
@[simp] theorem kCutO_e {lo : Option Int} : kCutO i fh (lo, e) = (fh e).bind (kCutO2 i lo) := rfl
@[simp] theorem kCutO2_e {lo hi : Option Int} : kCutO2 i lo (hi, e) = kCutO3 i lo (hi, e) e[i]? := rfl
@[simp] theorem kCutO3_e {lo hi : Option Int} {b : Bool} {ds : List PyData} : kCutO3 i lo (hi, e) (some (.own b ds)) = some (cutD ds lo hi, e) := rfl
end Dn
set_option Elab.async false
set_option linter.all false
set_option maxRecDepth 100000
set_option maxHeartbeats 4000000
namespace Dn
open PySem PySem.Spec PyProof.Rows L2
open PySem.W (Frag)
/-- (in Nat: the kernel must not take a large literal apart) -/
def shlOk (i n : Int) : Bool := decide (0 ≤ n) && decide (i.natAbs.log2 + 1 + n.toNat ≤ 100000000)
theorem op_shlG {X : Cx} : OpR X (binaryOp .LShift) (rI (fun i n => shlOk i n = true) fun i n => .int (i * 2 ^ n.toNat)) := opI fun i n _ _ _ _ _ hc q => by
  unfold shlOk at hc
  rw [Bool.and_eq_true] at hc
  have h0 : 0 ≤ n := of_decide_eq_true hc.1
  have h1 : i.natAbs.log2 + 1 + n.toNat ≤ 100000000 := of_decide_eq_true hc.2
  refine lshift_int h0 ?_ q
  have h3 : Builtin.Int.intBits i ≤ i.natAbs.log2 + 1 := by
    unfold Builtin.Int.intBits
    split <;> omega
  have h4 : ((2 : Int) ^ 27) = 134217728 := by decide
  omega
variable [Tb]
@[simp] def gShl : PyData → PyData → Option PyData
  | .int i, .int j => if shlOk i j then some (.int (i * 2 ^ j.toNat)) else none
  | _, _ => none
theorem o2_shl {K : Frag} : Op2 K (rI (fun i n => shlOk i n = true) fun i n => .int (i * 2 ^ n.toNat)) gShl := by
  intro c F σ H env x y d e z Q R hx hy h k
  unfold gShl at h
  split at h
  · split at h
    · cases h; cases hx; cases hy
      exact ⟨_, _, rfl, rfl, by assumption, k _ F H (Same.refl F) R (.int _)⟩
    · cases h
  · cases h
@[simp] def gRep : List PyData → Option PyData
  | [d] => if repOk d then some (.str d.shown) else none
  | _ => none
theorem oA_rep {K : Frag} : OpA K (rRepS K) gRep := by
  intro c F σ H env xs ds z Q R hx h k
  unfold gRep at h
  split at h
  · split at h
    · rename_i ok
      cases h
      cases hx with
      | cons h1 h2 =>
        cases h2
        exact ⟨_, _, rfl, h1.up R.sub, ok, k _ F H (Same.refl F) R (.str _)⟩
    · cases h
  · cases h
def rng2 (lo hi : Int) : List PyData := (List.range ((hi - lo + 1) / 2).toNat).map fun (i : Nat) => .int (lo + i * 2)
noncomputable def iR2s (f : Fl) : Fi := fun env => (f env).bind fun p => match p.1 with
  | [.int m, .int n, .int c] => if decide (0 ≤ m ∧ m ≤ 1000000) && decide (0 ≤ n ∧ n ≤ 1000000) && decide (c = 2) then some (rng2 m n, p.2) else none
  | _ => none
theorem wk_rng2 {K : Frag} {F : Hp} {lo hi : Int} : Wk K F (Itc lo 2 ((hi - lo + 1) / 2).toNat) (rng2 lo hi) where
  go := fun i H s h => by
    have h' : i < (rng2 lo hi).length := h
    simp only [rng2, List.length_map, List.length_range] at h'
    exact h'
  stop := fun i H s h => by
    have h' : (rng2 lo hi).length ≤ i := h
    simp only [rng2, List.length_map, List.length_range] at h'
    exact h'
  yld := fun i H x H' d s e y => by
    obtain ⟨h1, h2⟩ := y
    subst h2
    simp only [rng2, List.getElem?_map, Option.map_eq_some_iff] at e
    obtain ⟨j, h3, h4⟩ := e
    have h5 : i < ((hi - lo + 1) / 2).toNat := by
      by_cases hh : i < ((hi - lo + 1) / 2).toNat
      · exact hh
      · rw [List.getElem?_eq_none (by rw [List.length_range]; omega)] at h3; cases h3
    rw [List.getElem?_range h5] at h3
    cases h3
    subst h4
    exact .inl ⟨h1, .int _⟩
omit [Tb] in
theorem rgC_two {m n : Int} (h1 : 0 ≤ m ∧ m ≤ 1000000) (h2 : 0 ≤ n ∧ n ≤ 1000000) : RgC m n 2 ((n - m + 1) / 2).toNat := by
  have e : Builtin.Range.rangeSize m n 2 = (((n - m + 1) / 2).toNat : Nat) := by
    unfold Builtin.Range.rangeSize
    rw [if_pos (by decide)]
    split <;> omega
  refine ⟨by decide, by decide, ?_, e⟩
  unfold Builtin.Range.small
  rw [e]
  simp only [Builtin.Range.rangeFitsLong, Bool.and_eq_true, Bool.or_eq_true, decide_eq_true_eq, beq_iff_eq, show ((2 : Int) > 0) by decide, if_true]
  omega
theorem di_r2s {X : Cx} {tg : Expr} {a b d : Expr} {p pos : Pos} {fl : Fl} (hg : Gl X "range") (hm : X.mg "range" = none) (ha : PA X [a, b, d] (Ga X.K fl)) (hs : starEach [a, b, d] X.env = (false, eval a X.env) :: starEach [b, d] X.env := by rfl) (hpl : (backTo pos (starEach [b, d] X.env)).any (·.1) = false := by rfl) :
    PI X tg (.Call (.Name "range" p) [a, b, d] [] pos) (tI X.K (iR2s fl)) :=
  PI.imp (pi_range3 hg hm ha hs hpl) fun σ H R ⟨c, F, env, ds, env', R0, e, k⟩ => by
  unfold iR2s at e
  simp only [Option.bind_eq_some_iff] at e
  obtain ⟨⟨d1, n1⟩, h1, h2⟩ := e
  dsimp only at h2
  split at h2
  · split at h2
    · rename_i hz
      rw [Bool.and_eq_true, Bool.and_eq_true] at hz
      obtain ⟨⟨z1, z2⟩, z3⟩ := hz
      have z3 := of_decide_eq_true z3
      subst z3
      cases h2
      refine ⟨c, F, env, _, _, R0, h1, fun v F' H' s R' hv => ?_⟩
      cases hv with
      | cons h3 h4 =>
        cases h4 with
        | cons h4 h5 =>
          cases h5 with
          | cons h5 h6 =>
            cases h6; cases h3; cases h4; cases h5
            exact ⟨_, _, _, _, rfl, rgC_two (of_decide_eq_true z1) (of_decide_eq_true z2), k _ F' H' s R' wk_rng2⟩
    · cases h2
  · cases h2
noncomputable def kR2s (p : List PyData × En) : Option (List PyData × En) := match p.1 with
  | [.int m, .int n, .int c] => if decide (0 ≤ m ∧ m ≤ 1000000) && decide (0 ≤ n ∧ n ≤ 1000000) && decide (c = 2) then some (rng2 m n, p.2) else none
  | _ => none
omit [Tb] in
@[simp] theorem ev_R2s {l : Fl} {x : Sl} {e : En} : iR2s l (x :: e) = (l (x :: e)).bind kR2s := (rfl)
omit [Tb] in
theorem kR2s_ok {m n : Int} {e : En} (h1 : 0 ≤ m ∧ m ≤ 1000000) (h2 : 0 ≤ n ∧ n ≤ 1000000) : kR2s ([.int m, .int n, .int 2], e) = some (rng2 m n, e) := by
  show (if decide (0 ≤ m ∧ m ≤ 1000000) && decide (0 ≤ n ∧ n ≤ 1000000) && decide ((2 : Int) = 2) then some (rng2 m n, e) else none) = _
  rw [decide_eq_true h1, decide_eq_true h2]
  rfl
@[simp] def gNeS : PyData → PyData → Option PyData
  | .str a, .str b => some (.bool (!decide (a = b)))
  | _, _ => none
@[simp] def gEqS : PyData → PyData → Option PyData
  | .str a, .str b => some (.bool (decide (a = b)))
  | _, _ => none
theorem o2_eqS {K : Frag} : Op2 K rEq gEqS := by
  intro c F σ H env x y d e z Q R hx hy h k
  unfold gEqS at h
  split at h
  · rename_i a b
    cases h; cases hx; cases hy
    refine ⟨rfl, ?_⟩
    have e : decide (V.str a = V.str b) = decide (a = b) := by simp
    rw [e]
    exact k _ F H (Same.refl F) R (.bl _)
  · cases h
end Dn
set_option Elab.async false
set_option linter.all false
set_option maxRecDepth 100000
set_option maxHeartbeats 4000000
namespace Dn
open PySem PySem.Spec PyProof.Rows L2
open PySem.W (Frag)
def rNotInDT (K : Frag) : R2 := fun x y H Q => ∃ d ds, L2.Dp K H x d ∧ L2.Dp K H y (.tuple ds) ∧ SeqAt.shaped d = true ∧ SeqAt.shaped (.tuple ds) = true ∧ Q (.bl (!ds.any fun z => PyData.eqv z d)) H
section
variable {X : Cx}
theorem op_notInDT (hu : X.A.units + 65 < cLine) : OpR X (compareOp .NotIn) (rNotInDT X.K) := by
  intro pins s σ H x y v u Q I rx ry h
  obtain ⟨d, ds, hd, he, sd, se, q⟩ := h
  obtain ⟨bs, r1⟩ := L2.Dp.reads I d x v hd rx
  have hxs : PyData.canLayAll0 ds = true := SeqAt.canLay_of_shaped se
  have hroom : X.A.units + 1 + min (PyData.depthAll ds) d.depth < cLine := room_in_shaped sd hu
  cases he with
  | tup hs ha =>
    cases ry
    obtain ⟨its, rv, pl, hz⟩ := I.tuple hs
    obtain ⟨as, h4⟩ := L2.Dp.readsAll I ds _ its ha rv
    have hmap : its.map (SeqAt.readOf s.heap) = ds := SeqAt.readsAll_map ds its as hxs h4
    refine SeqAt.notIn_tupleAt (fun u => PyData.eqv (SeqAt.readOf s.heap u) d) pl (SeqAt.items_eqAt (vs := its.toArray) (show ReadsAll s.heap its.toArray.toList ds as from h4) r1 hxs (SeqAt.canLay_of_shaped sd) hroom) ⟨.bl _, H, I, rfl, ?_⟩
    rw [← hmap, List.any_map] at q
    have e : (its.toArray.any fun u => PyData.eqv (SeqAt.readOf s.heap u) d) = its.any ((fun z => PyData.eqv z d) ∘ SeqAt.readOf s.heap) := by simp [Function.comp_def]
    rw [e]
    exact q
end
variable [Tb]
section
variable {K : Frag}
def gNinT : PyData → PyData → Option PyData
  | d, .tuple ds => if SeqAt.shaped d && SeqAt.shaped (.tuple ds) then some (.bool (!inD ds d)) else none
  | _, _ => none
theorem o2_ninT : Op2 K (rNotInDT K) gNinT := by
  intro c F σ H env x y d e z Q R hx hy h k
  unfold gNinT at h
  split at h
  · split at h
    · rename_i hs
      cases h
      rw [Bool.and_eq_true] at hs
      exact ⟨_, _, (hx.up R.sub).sh hs.1, (hy.up R.sub).sh hs.2, hs.1, hs.2, k _ F H (Same.refl F) R (.bl _)⟩
    · cases h
  · cases h
end
end Dn
set_option Elab.async false
set_option linter.all false
set_option maxRecDepth 100000
set_option maxHeartbeats 4000000
namespace Dn
open PySem PySem.Spec PyProof.Rows L2
open PySem.W (Frag)
def endO : Option (Flw × En) → Option (PyData × List PyData)
  | some (.rt d, _ :: .own true ks :: _) => some (d, ks)
  | _ => none
def runO (b : Fs) (N n : Nat) : List PyData → List PyData → Option (PyData × List PyData) := fun ks ds => match ds with
  | d0 :: ds => if ds.length + 2 = n then endO (b (.val d0 :: .own true ks :: en0 (N - 2) ds)) else none
  | [] => none
theorem runO_len {b : Fs} {N n : Nat} (ks ds : List PyData) (z : PyData × List PyData) (h : runO b N n ks ds = some z) : ds.length + 1 = n := by
  unfold runO at h
  cases ds with
  | nil => cases h
  | cons d0 ds =>
    dsimp only at h
    split at h
    · rename_i e; rw [List.length_cons]; omega
    · cases h
theorem runO3 {N : Nat} {b : Fs} {d1 d2 : PyData} {ks : List PyData} : runO b (N + 3) 3 ks [d1, d2] = endO (b (.val d1 :: .own true ks :: .val d2 :: List.replicate N .no)) := by simp [runO, en0]
variable [Tb]
def spO (K : Frag) (n : Nat) (f : List PyData → List PyData → Option (PyData × List PyData)) : Sp := fun vs H Q _ => ∃ (F : Hp) (a : Addr) (v0 : V) (ws xs : List V) (ks : List PyData) (d0 : PyData) (ds ks' : List PyData) (d : PyData), vs = v0 :: .ref a :: ws ∧ vs.length = n ∧ Bs F H ∧ F a = none ∧ H a = some (.lst xs) ∧ DpAll K F xs ks ∧ Dp K F v0 d0 ∧ DpAll K F ws ds ∧ f ks (d0 :: ds) = some (d, ks') ∧
  ∀ v F' H' xs', Same F F' → Bs F' H' → KpM a H H' → (∀ b, F' b ≠ none → F b ≠ none ∨ H b = none) → H' a = some (.lst xs') → DpAll K F' xs' ks' → Dp K F' v d → Q v H'
section
variable {P : Program} {w : World} {K : Frag} {mg : Str → Option Value} {base : Heap} {x qual : Str} {st : Stmt} {f : Addr} {fd : FuncData} {N ps : List Str} {k n : Nat} {fb : Fs}
theorem okO {ca : Str → Addr} (Fn : L2.Fun K x qual st f fd) (S : FnScope N ps (defScope st)) (hn : ps.length = n)
    (hb : ∀ (cdv : Value) (A : Around) (outer : List Env) (s : Shared) (H : Hp) (E : XK), Room k (A.deeper (envOfC qual (defScope st) s.heap.objs.size f cdv)) → PSs (cxOf CX0 P w K mg base N qual (defScope st) f cdv A outer s H E).nox (defBody st) (Gs K (xc0 ca) fb)) :
    FnOk P w K mg base CX0 (k + 1) f fd ps (spO K n (runO fb N.length n)) := by
  refine Fn.okG S (fun vs H Q E h => ?_) (fun cdv A outer s H vs Q E hr h => ⟨Gs K (xc0 ca) fb, hb cdv A outer s H E hr, ?_⟩)
  · obtain ⟨F, a, v0, ws, xs, ks, d0, ds, ks', d, h0, h1, _⟩ := h
    rw [h1, hn]
  · obtain ⟨F, a, v0, ws, xs, ks, d0, ds, ks', d, rfl, h1, h2, hFa, hHa, hxs, hv0, hws, h4, h5⟩ := h
    have hl := hws.len
    have h1' : ws.length + 1 + 1 = n := h1
    have hN : ps.length ≤ N.length := by
      have := congrArg List.length S.pre
      rw [List.length_take] at this
      omega
    unfold runO at h4
    dsimp only at h4
    rw [if_pos (by omega)] at h4
    cases e : fb (.val d0 :: .own true ks :: en0 (N.length - 2) ds) with
    | none => rw [e] at h4; cases h4
    | some r =>
      obtain ⟨fl, env'⟩ := r
      rw [e] at h4
      have keepD : Same (delA (noT H) a) H := fun b o e => by
        by_cases hb : b = a
        · subst hb; rw [delA_same] at e; cases e
        · rw [delA_ne hb] at e; exact noT_sub b o e
      have R : Rl K ⟨H, F, delA (noT H) a, v0 :: .ref a :: ws⟩ F (L2.start N (v0 :: .ref a :: ws)) H (.val d0 :: .own true ks :: en0 (N.length - 2) ds) := by
        refine ⟨h2.sub, Same.refl F, keepD, keepD, fun a h => .inl h, fun a h => h, ?_, fun i d h => ?_, fun i p es h => ?_, h2.tab, h2.nf, fun b ps e => ?_⟩
        · rw [start_len (by rw [h1]; omega)]
          unfold en0
          rw [List.length_cons, List.length_cons, List.length_append, List.length_map, List.length_replicate]
          omega
        · cases i with
          | zero =>
            cases h
            exact ⟨v0, start_get rfl, hv0⟩
          | succ i =>
            cases i with
            | zero => cases h
            | succ i =>
              rw [List.getElem?_cons_succ, List.getElem?_cons_succ] at h
              obtain ⟨v, e1, e2⟩ := hws.at (en0_val h)
              exact ⟨v, start_get (by rw [List.getElem?_cons_succ, List.getElem?_cons_succ]; exact e1), e2⟩
        · cases i with
          | zero => cases h
          | succ i =>
            cases i with
            | zero =>
              cases h
              refine ⟨a, xs, start_get rfl, hFa, hHa, hxs, delA_same, ?_, fun j q es hj hq => ?_⟩
              · show (v0 :: V.ref a :: ws)[1]? = some (.ref a)
                rfl
              · cases j with
                | zero => cases hq
                | succ j =>
                  cases j with
                  | zero => exact absurd rfl hj
                  | succ j =>
                    rw [List.getElem?_cons_succ, List.getElem?_cons_succ] at hq
                    exact (en0_own hq).elim
            | succ i =>
              rw [List.getElem?_cons_succ, List.getElem?_cons_succ] at h
              exact (en0_own h).elim
        · have e' : delA (noT H) a b = some (.tbl ps) := e
          by_cases hb : b = a
          · subst hb; rw [delA_same] at e'; cases e'
          · rw [delA_ne hb] at e'; exact noT_no b ps e'
      refine ⟨⟨H, F, delA (noT H) a, v0 :: .ref a :: ws⟩, F, _, fl, env', R, e, ?_⟩
      have fin : ∀ {σ' : L2.St} {F' H' : Hp} {ks' : List PyData} {s0 : Sl} {tl : En}, Rl K ⟨H, F, delA (noT H) a, v0 :: .ref a :: ws⟩ F' σ' H' (s0 :: .own true ks' :: tl) → Same F F' ∧ Bs F' H' ∧ KpM a H H' ∧ (∀ b, F' b ≠ none → F b ≠ none ∨ H b = none) ∧ ∃ xs', H' a = some (.lst xs') ∧ DpAll K F' xs' ks' := fun R' => by
        refine ⟨R'.f0, R'.base, ⟨fun b o n hb e => R'.gd b o (by show delA (noT H) a b = some o; rw [delA_ne hb]; exact noT_of e n), R'.dom⟩, R'.new, ?_⟩
        obtain ⟨a', xs', e1, e2, e3, e4, e5, e6, e7⟩ := R'.own 1 true _ rfl
        have e6' : (v0 :: V.ref a :: ws)[1]? = some (.ref a') := e6
        cases e6'
        exact ⟨xs', e3, e4⟩
      cases fl with
      | rt d' =>
        cases env' with
        | nil => cases h4
        | cons s0 tl =>
          cases tl with
          | nil => cases h4
          | cons s1 tl =>
            cases s1 with
            | own b ks2 =>
              cases b with
              | true =>
                cases h4
                intro σ' F' H' v s' R' hv
                obtain ⟨a1, a2, a3, a4, xs', a5, a6⟩ := fin R'
                exact h5 v F' H' xs' a1 a2 a3 a4 a5 a6 hv
              | false => cases h4
            | no => cases h4
            | val _ => cases h4
      | _ => cases h4
end
/-- a def that changes the list in its second place: f(e, y, ..), y an owned name -/
def eO (i : Nat) (f0 : Fe) (g : List PyData → List PyData → Option (PyData × List PyData)) (fl : Fl) : Fe := fun env => if isOwn env i then (f0 env).bind fun p0 => if isOwn p0.2 i then (fl p0.2).bind fun p => match p.2[i]? with
  | some (.own b ks) => (g ks (p0.1 :: p.1)).map fun q => (q.1, p.2.set i (.own b q.2))
  | _ => none else none else none
section
variable {X : Cx} {k n : Nat} {f : Addr} {fd : FuncData} {ps : List Str} {x : Str} {p pos : Pos} {e0 : Expr} {es : List Expr} {f0 : Fe} {fl : Fl} {gM : List PyData → List PyData → Option (PyData × List PyData)}
theorem de_callO (i : Nat) {y : Str} {p2 : Pos} (Fk : FnOk X.prog X.w X.K X.mg X.base CX0 k f fd ps (spO X.K n gM)) (hl : ∀ ks ds z, gM ks ds = some z → ds.length + 1 = n) (hr : Room k X.A) (hg : Gl X x) (hm : X.mg x = some (.ref f)) (hk : PySem.W.keepIn X.K (.ref f) = true) (hb : Binds X.K fd ps []) (h0 : PE X e0 (Ge X.K f0)) (ha : PA X es (Ga X.K fl))
    (hN : X.N[i]? = some y := by rfl) (hv : Vis X.env.scope y := by first | exact Or.inl rfl | exact Or.inr (Or.inl rfl) | exact Or.inr (Or.inr rfl)) (hd : (y == ("__debug__" : Str)) = false := by decide) (hcd : (y == ("__classdict__" : Str)) = false := by decide)
    (hdb : (x == ("__debug__" : Str)) = false := by decide) (s0 : starEach (e0 :: .Name y p2 :: es) X.env = (false, eval e0 X.env) :: starEach (.Name y p2 :: es) X.env := by rfl) (he : starEach (.Name y p2 :: es) X.env = (false, eval (.Name y p2) X.env) :: starEach es X.env := by rfl) (hpl : (backTo pos (starEach (.Name y p2 :: es) X.env)).any (·.1) = false := by rfl) :
    PE X (.Call (.Name x p) (e0 :: .Name y p2 :: es) [] pos) (Ge X.K (eO i f0 gM fl)) := PE.imp (pe_call Fk hr hg hm hk hb .nil pass0 (pa_cons h0 (pa_cons (pe_var hN hv hd hcd) ha he) s0) hdb s0 hpl) fun σ H Q ⟨c, F, env, d, env', R, e, k⟩ => by
  unfold eO at e
  split at e
  · simp only [Option.bind_eq_some_iff] at e
    obtain ⟨⟨d0, n0⟩, h1, e⟩ := e
    split at e
    · rename_i ho
      simp only [Option.bind_eq_some_iff] at e
      obtain ⟨⟨d1, n1⟩, h2, e⟩ := e
      dsimp only at e
      split at e
      · rename_i b ks hi
        simp only [Option.map_eq_some_iff] at e
        obtain ⟨⟨z, ks'⟩, h3, h4⟩ := e
        obtain ⟨rfl, rfl⟩ := Prod.mk.inj h4
        refine ⟨c, F, env, d0, n0, R, h1, fun v0 F0 H0 s0 R0 hv0 => ?_⟩
        obtain ⟨a, ys, ha, hys⟩ := own_of R0 ho
        refine ⟨.ref a, ha, c, F0, n0, d1, n1, R0, h2, fun ws F1 H1 s1 R1 hw => ?_⟩
        obtain ⟨a', xs, e1, e2, e3, e4, e5, e6, e7⟩ := R1.own i b ks hi
        rw [ha] at e1
        cases e1
        show spO X.K n gM ((v0 :: .ref a :: ws) ++ []) H1 Q E0
        rw [List.append_nil]
        refine ⟨F1, a, v0, ws, xs, ks, d0, d1, ks', z, rfl, ?_, R1.base, e2, e3, e4, hv0.up s1, hw, h3, fun v F' H' xs' a1 a2 a3 a4 a5 a6 hv => ?_⟩
        · have := hl ks (d0 :: d1) _ h3
          rw [List.length_cons] at this
          rw [List.length_cons, List.length_cons, hw.len]
          exact this
        · exact k v F' H' (s0.trans (s1.trans a1)) (R1.afterM hi ha a1 a2 a3 a4 a5 a6) hv
      · cases e
    · cases e
  · cases e
end
def kO2 (i : Nat) (g : List PyData → List PyData → Option (PyData × List PyData)) (d0 : PyData) (p : List PyData × En) : Option (PyData × En) := match p.2[i]? with
  | some (.own b ks) => (g ks (d0 :: p.1)).map fun q => (q.1, p.2.set i (.own b q.2))
  | _ => none
def kO (i : Nat) (g : List PyData → List PyData → Option (PyData × List PyData)) (fl : Fl) (p0 : PyData × En) : Option (PyData × En) := if isOwn p0.2 i then (fl p0.2).bind (kO2 i g p0.1) else none
omit [Tb] in
theorem ev_O {i : Nat} {f0 : Fe} {g : List PyData → List PyData → Option (PyData × List PyData)} {fl : Fl} {x : Sl} {e : En} (h : isOwn (x :: e) i = true) : eO i f0 g fl (x :: e) = (f0 (x :: e)).bind (kO i g fl) := by
  unfold eO
  rw [if_pos h]
  rfl
end Dn
set_option Elab.async false
set_option linter.all false
set_option maxRecDepth 100000
set_option maxHeartbeats 1000000
namespace Dn
open PySem PySem.Spec PyProof.Rows L2
open PySem.W (Frag)
abbrev nwT (i : Tb) (H : Hp) : Tb := { T := i.T, ca := i.ca, sl := i.sl, old := fun b => H b ≠ none }
mutual
def noM : PyData → Bool
  | .none => true
  | .bool _ => true
  | .int _ => true
  | .str _ => true
  | .list ds => noMs ds
  | .tuple ds => noMs ds
  | .dict _ => false
def noMs : List PyData → Bool
  | [] => true
  | d :: ds => noM d && noMs ds
end
theorem noMs_all : ∀ {ds : List PyData}, noMs ds = true → ∀ d ∈ ds, noM d = true
  | [], _, d, h => nomatch h
  | e :: ds, h, d, hd => by
    simp only [noMs, Bool.and_eq_true] at h
    rcases List.mem_cons.mp hd with rfl | hd
    · exact h.1
    · exact noMs_all h.2 d hd
theorem noMs_of : ∀ {ds : List PyData}, (∀ d ∈ ds, noM d = true) → noMs ds = true
  | [], _ => rfl
  | e :: ds, h => by
    simp only [noMs, Bool.and_eq_true]
    exact ⟨h e List.mem_cons_self, noMs_of fun d hd => h d (List.mem_cons_of_mem _ hd)⟩
section
variable {i j : Tb} {K : Frag}
mutual
theorem Dp.sw (hs : i.sl = j.sl) {F : Hp} : ∀ (d : PyData) {v : V}, noM d = true → @Dp i K F v d → @Dp j K F v d
  | .none, _, _, h => by cases h; exact @Dp.non j K F
  | .bool b, _, _, h => by cases h; exact @Dp.bl j K F b
  | .int n, _, _, h => by cases h; exact @Dp.int j K F n
  | .str x, _, _, h => by cases h; exact @Dp.str j K F x
  | .list ds, _, hc, h => by
    cases h with
    | lst h1 ha st => exact @Dp.lst j K F _ _ _ h1 (DpAll.sw hs ds (by simpa [noM] using hc) ha) fun z => st (by rw [hs]; exact z)
  | .tuple ds, _, hc, h => by
    cases h with
    | tup h1 ha => exact @Dp.tup j K F _ _ _ h1 (DpAll.sw hs ds (by simpa [noM] using hc) ha)
  | .dict _, _, hc, h => by simp [noM] at hc
theorem DpAll.sw (hs : i.sl = j.sl) {F : Hp} : ∀ (ds : List PyData) {vs : List V}, noMs ds = true → @DpAll i K F vs ds → @DpAll j K F vs ds
  | [], _, _, h => by cases h; exact @DpAll.nil j K F
  | d :: ds, _, hc, h => by
    have hc' : noM d = true ∧ noMs ds = true := by simpa [noMs] using hc
    cases h with
    | cons h1 h2 => exact @DpAll.cons j K F _ _ _ _ (Dp.sw hs d hc'.1 h1) (DpAll.sw hs ds hc'.2 h2)
end
theorem Bs.sw (hT : i.T = j.T) {F H : Hp} (h : @Bs i F H) : @Bs j F H := @Bs.mk j F H (@Bs.sub i F H h) (@Bs.nf i F H h) (by rw [← hT]; exact @Bs.tab i F H h)
end
variable [Tb]
def spMo (K : Frag) (n : Nat) (g : List PyData → List PyData → Option (PyData × List PyData)) : Sp := fun vs H Q E => (∀ b, Tb.old b ↔ H b ≠ none) ∧ spM K n g vs H Q E
omit [Tb] in
/-- asked of data without dicts only -/
def gNm (g : List PyData → List PyData → Option (PyData × List PyData)) : List PyData → List PyData → Option (PyData × List PyData) := fun ks ds => if noMs ks = true ∧ noMs ds = true then (g ks ds).bind fun z => if noM z.1 = true ∧ noMs z.2 = true then some z else none else none
omit [Tb] in
theorem gNm_len {n : Nat} {g : List PyData → List PyData → Option (PyData × List PyData)} (h : ∀ ks ds z, g ks ds = some z → ds.length + 1 = n) (ks ds : List PyData) (z : PyData × List PyData) (e : gNm g ks ds = some z) : ds.length + 1 = n := by
  unfold gNm at e
  split at e
  · simp only [Option.bind_eq_some_iff] at e
    obtain ⟨z', e1, e2⟩ := e
    exact h ks ds z' e1
  · cases e
omit [Tb] in
theorem okM_nw {i : Tb} {K : Frag} {P : Program} {w : World} {mg : Str → Option Value} {base : Heap} {k n : Nat} {f : Addr} {fd : FuncData} {ps : List Str} {g : List PyData → List PyData → Option (PyData × List PyData)} (Fk : ∀ H0 : Hp, FnOk P w K mg base CX0 k f fd ps (@spMo (nwT i H0) K n g)) :
    FnOk P w K mg base CX0 k f fd ps (@spM i K n (gNm g)) := by
  have key : ∀ vs H Q E, @spM i K n (gNm g) vs H Q E → @spMo (nwT i H) K n g vs H Q E := fun vs H Q E h => by
    obtain ⟨F, a, ws, xs, ks, ds, ks', d, h0, h1, h2, h3, h4, h5, h6, h7, h8⟩ := h
    unfold gNm at h7
    split at h7
    · rename_i hz
      simp only [Option.bind_eq_some_iff] at h7
      obtain ⟨z', e1, e2⟩ := h7
      split at e2
      · rename_i hy
        cases e2
        refine ⟨fun b => Iff.rfl, F, a, ws, xs, ks, ds, ks', d, h0, h1, Bs.sw (i := i) (j := nwT i H) rfl h2, h3, h4, DpAll.sw (i := i) (j := nwT i H) rfl ks hz.1 h5, DpAll.sw (i := i) (j := nwT i H) rfl ds hz.2 h6, e1, ?_⟩
        intro v F' H' xs' a1 a2 a3 a4 a5 a6 a7
        exact h8 v F' H' xs' a1 (Bs.sw (i := nwT i H) (j := i) rfl a2) a3 a4 a5 (DpAll.sw (i := nwT i H) (j := i) rfl _ hy.2 a6) (Dp.sw (i := nwT i H) (j := i) rfl _ hy.1 a7)
      · cases e2
    · cases h7
  exact ⟨fun vs H Q E q => (Fk H).len vs H Q E (key _ _ _ _ q), fun hr e hb hv hs => (Fk _).run hr e hb hv (key _ _ _ _ hs)⟩
def Oo (c : C3) (F : Hp) : Prop := (∀ b, Tb.old b ↔ c.H0 b ≠ none) ∧ F = c.F0 ∧ Same F c.H0
def Gso (K : Frag) (xc : XC) (f : Fs) : TS := fun D σ H => ∃ c F env fl env', Rl K c F σ H env ∧ Oo c F ∧ f env = some (fl, env') ∧ Fin K xc c F fl env' D
section
variable {P : Program} {w : World} {K : Frag} {mg : Str → Option Value} {base : Heap} {x qual : Str} {st : Stmt} {f : Addr} {fd : FuncData} {N ps : List Str} {k n : Nat} {fb : Fs}
theorem okMo {ca : Str → Addr} (Fn : L2.Fun K x qual st f fd) (S : FnScope N ps (defScope st)) (hn : ps.length = n)
    (hb : ∀ (cdv : Value) (A : Around) (outer : List Env) (s : Shared) (H : Hp) (E : XK), Room k (A.deeper (envOfC qual (defScope st) s.heap.objs.size f cdv)) → PSs (cxOf CX0 P w K mg base N qual (defScope st) f cdv A outer s H E).nox (defBody st) (Gso K (xc0 ca) fb)) :
    FnOk P w K mg base CX0 (k + 1) f fd ps (spMo K n (runM fb N.length n)) := by
  refine Fn.okG S (fun vs H Q E h => ?_) (fun cdv A outer s H vs Q E hr h => ⟨Gso K (xc0 ca) fb, hb cdv A outer s H E hr, ?_⟩)
  · obtain ⟨_, F, a, ws, xs, ks, ds, ks', d, h0, h1, _⟩ := h
    rw [h1, hn]
  · obtain ⟨ho, F, a, ws, xs, ks, ds, ks', d, rfl, h1, h2, hFa, hHa, hxs, hws, h4, h5⟩ := h
    have hl := hws.len
    have h1' : ws.length + 1 = n := h1
    have hN : ps.length ≤ N.length := by
      have := congrArg List.length S.pre
      rw [List.length_take] at this
      omega
    unfold runM at h4
    rw [if_pos (by omega)] at h4
    cases e : fb (.own true ks :: en0 (N.length - 1) ds) with
    | none => rw [e] at h4; cases h4
    | some r =>
      obtain ⟨fl, env'⟩ := r
      rw [e] at h4
      have keepD : Same (delA (noT H) a) H := fun b o e => by
        by_cases hb : b = a
        · subst hb; rw [delA_same] at e; cases e
        · rw [delA_ne hb] at e; exact noT_sub b o e
      have R : Rl K ⟨H, F, delA (noT H) a, .ref a :: ws⟩ F (L2.start N (.ref a :: ws)) H (.own true ks :: en0 (N.length - 1) ds) := by
        refine ⟨h2.sub, Same.refl F, keepD, keepD, fun a h => .inl h, fun a h => h, ?_, fun i d h => ?_, fun i p es h => ?_, h2.tab, h2.nf, fun b ps e => ?_⟩
        · rw [start_len (by rw [h1]; omega)]
          unfold en0
          rw [List.length_cons, List.length_append, List.length_map, List.length_replicate]
          omega
        · cases i with
          | zero => cases h
          | succ i =>
            rw [List.getElem?_cons_succ] at h
            obtain ⟨v, e1, e2⟩ := hws.at (en0_val h)
            exact ⟨v, start_get (by rw [List.getElem?_cons_succ]; exact e1), e2⟩
        · cases i with
          | zero =>
            cases h
            refine ⟨a, xs, start_get rfl, hFa, hHa, hxs, delA_same, ?_, fun j q es hj hq => ?_⟩
            · show (V.ref a :: ws)[0]? = some (.ref a)
              rfl
            · cases j with
              | zero => exact absurd rfl hj
              | succ j =>
                rw [List.getElem?_cons_succ] at hq
                exact (en0_own hq).elim
          | succ i =>
            rw [List.getElem?_cons_succ] at h
            exact (en0_own h).elim
        · have e' : delA (noT H) a b = some (.tbl ps) := e
          by_cases hb : b = a
          · subst hb; rw [delA_same] at e'; cases e'
          · rw [delA_ne hb] at e'; exact noT_no b ps e'
      refine ⟨⟨H, F, delA (noT H) a, .ref a :: ws⟩, F, _, fl, env', R, ⟨ho, rfl, h2.sub⟩, e, ?_⟩
      have fin : ∀ {σ' : L2.St} {F' H' : Hp} {ks' : List PyData} {tl : En}, Rl K ⟨H, F, delA (noT H) a, .ref a :: ws⟩ F' σ' H' (.own true ks' :: tl) → Same F F' ∧ Bs F' H' ∧ KpM a H H' ∧ (∀ b, F' b ≠ none → F b ≠ none ∨ H b = none) ∧ ∃ xs', H' a = some (.lst xs') ∧ DpAll K F' xs' ks' := fun R' => by
        refine ⟨R'.f0, R'.base, ⟨fun b o n hb e => R'.gd b o (by show delA (noT H) a b = some o; rw [delA_ne hb]; exact noT_of e n), R'.dom⟩, R'.new, ?_⟩
        obtain ⟨a', xs', e1, e2, e3, e4, e5, e6, e7⟩ := R'.own 0 true _ rfl
        have e6' : (V.ref a :: ws)[0]? = some (.ref a') := e6
        cases e6'
        exact ⟨xs', e3, e4⟩
      cases fl with
      | nx =>
        cases env' with
        | nil => cases h4
        | cons s0 tl =>
          cases s0 with
          | own b ks2 =>
            cases b with
            | true =>
              cases h4
              intro σ' F' H' s' R'
              obtain ⟨a1, a2, a3, a4, xs', a5, a6⟩ := fin R'
              exact h5 .non F' H' xs' a1 a2 a3 a4 a5 a6 .non
            | false => cases h4
          | no => cases h4
          | val _ => cases h4
      | rt d' =>
        cases env' with
        | nil => cases h4
        | cons s0 tl =>
          cases s0 with
          | own b ks2 =>
            cases b with
            | true =>
              cases h4
              intro σ' F' H' v s' R' hv
              obtain ⟨a1, a2, a3, a4, xs', a5, a6⟩ := fin R'
              exact h5 v F' H' xs' a1 a2 a3 a4 a5 a6 hv
            | false => cases h4
          | no => cases h4
          | val _ => cases h4
      | rl es =>
        cases env' with
        | nil => cases h4
        | cons s0 tl =>
          cases s0 with
          | own b ks2 =>
            cases b with
            | true =>
              cases h4
              intro σ' F' H' p xs s' hp R' hx
              obtain ⟨sF, R2⟩ := R'.laid (o := .lst xs) hp
              obtain ⟨a1, a2, a3, a4, xs', a5, a6⟩ := fin R2
              exact h5 (.ref p) _ _ xs' a1 a2 a3 a4 a5 a6 (.lstS upd_same (hx.up sF))
            | false => cases h4
          | no => cases h4
          | val _ => cases h4
      | bk => cases h4
      | ct => cases h4
      | ex => cases h4
      | tr => cases h4
end
def TSo (K : Frag) (xc : XC) (f : Fs) (U : TS) : TS := fun D σ H => ∃ c F env fl env', Rl K c F σ H env ∧ (∀ b, Tb.old b ↔ c.H0 b ≠ none) ∧ f env = some (fl, env') ∧ Fin K xc c F fl env' { D with nx := U D }
def GLn (K : Frag) (f : En → Option En) : TS := fun D σ H => ∃ c F env env', Rl K c F σ H env ∧ f env = some env' ∧ ∀ σ' F' H1 H', Same F F' → Rl K c F' σ' H1 env' → MutM (fun b => F' b ≠ none ∧ ¬ Tb.old b) H1 H' → D.rt (.bl true) H'
/-- run for the mark: the value of a call -/
def sNw (f : En → Option En) : Fs := fun env => (f env).map fun e => (.nx, e)
def GNs (K : Frag) (f : En → Option En) : TS := fun D σ H => ∃ c F env env', Rl K c F σ H env ∧ (∀ b, Tb.old b ↔ c.H0 b ≠ none) ∧ f env = some env' ∧ ∀ σ' F' H', Same F F' → Rl K c F' σ' H' env' → D.nx σ' H'
section
variable {X : Cx} {xc : XC} {st : Stmt} {rest stmts : List Stmt} {f f2 fp : Fs} {fl : En → Option En} {U : TS}
theorem dq_one (h : PS X st (Gs X.K xc f)) (hr : PSs X rest U) : PSs X (st :: rest) (TSo X.K xc f U) := PSs.imp (pss_cons h hr) fun D σ H ⟨c, F, env, fl, env', R, _, e, k⟩ => ⟨c, F, env, fl, env', R, e, k⟩
theorem dq_cons (h : PS X st (Gs X.K xc f)) (hr : PSs X rest (TSo X.K xc f2 U)) : PSs X (st :: rest) (TSo X.K xc (sSeq f f2) U) := PSs.imp (pss_cons h hr) fun D σ H ⟨c, F, env, fl, env', R, oo, e, k⟩ => by
  unfold sSeq at e
  simp only [Option.bind_eq_some_iff] at e
  obtain ⟨⟨f1, n1⟩, h1, h2⟩ := e
  refine ⟨c, F, env, f1, n1, R, h1, ?_⟩
  cases f1 with
  | nx => exact fun σ' F' H' s R' => ⟨c, F', n1, fl, env', R', oo, h2, k.up s⟩
  | rt d => cases h2; exact k
  | rl d => cases h2; exact k
  | bk => cases h2; exact k
  | ct => cases h2; exact k
  | ex cl d => cases h2; exact k
  | tr t => cases h2; exact k
theorem dq_consN {fn : En → Option En} (h : PS X st (GNs X.K fn)) (hr : PSs X rest (TSo X.K xc f2 U)) : PSs X (st :: rest) (TSo X.K xc (sSeq (sNw fn) f2) U) := PSs.imp (pss_cons h hr) fun D σ H ⟨c, F, env, fl, env', R, oo, e, k⟩ => by
  unfold sSeq sNw at e
  simp only [Option.bind_eq_some_iff, Option.map_eq_some_iff] at e
  obtain ⟨⟨f1, n1⟩, ⟨e0, h0, h1⟩, h2⟩ := e
  cases h1
  exact ⟨c, F, env, _, R, oo, h0, fun σ' F' H' s R' => ⟨c, F', _, fl, env', R', oo, h2, k.up s⟩⟩
end
def shl1 : Sl → Sl
  | .val d => if noL d then .val d else .no
  | .own p ks => if noLs ks then .own p ks else .no
  | .no => .no
def shlE (env : En) : En := env.map shl1
theorem shl_val {env : En} {i : Nat} {d : PyData} (h : (shlE env)[i]? = some (.val d)) : env[i]? = some (.val d) ∧ noL d = true := by
  unfold shlE at h
  rw [List.getElem?_map] at h
  cases e : env[i]? with
  | none => rw [e] at h; cases h
  | some s =>
    rw [e] at h
    simp only [Option.map_some, Option.some.injEq] at h
    cases s with
    | no => cases h
    | val d' =>
      unfold shl1 at h
      dsimp only at h
      split at h
      · rename_i hz; cases h; exact ⟨rfl, hz⟩
      · cases h
    | own p ks =>
      unfold shl1 at h
      dsimp only at h
      split at h <;> cases h
theorem shl_own {env : En} {i : Nat} {p : Bool} {ks : List PyData} (h : (shlE env)[i]? = some (.own p ks)) : env[i]? = some (.own p ks) ∧ noLs ks = true := by
  unfold shlE at h
  rw [List.getElem?_map] at h
  cases e : env[i]? with
  | none => rw [e] at h; cases h
  | some s =>
    rw [e] at h
    simp only [Option.map_some, Option.some.injEq] at h
    cases s with
    | no => cases h
    | val d' =>
      unfold shl1 at h
      dsimp only at h
      split at h <;> cases h
    | own q ks' =>
      unfold shl1 at h
      dsimp only at h
      split at h
      · rename_i hz; cases h; exact ⟨rfl, hz⟩
      · cases h
open Classical in
noncomputable def endF (F : Hp) : Hp := fun b => if Tb.old b then F b else nolF F b
theorem endF_get {F : Hp} {b : Addr} {o : HO} (h : endF F b = some o) : F b = some o ∧ ((∃ xs, o = .lst xs) → Tb.old b) := by
  unfold endF at h
  split at h
  · rename_i ho
    exact ⟨h, fun _ => ho⟩
  · obtain ⟨h1, h2⟩ := nolF_get h
    exact ⟨h1, fun ⟨xs, z⟩ => absurd z (h2 xs)⟩
theorem endF_old {F : Hp} {b : Addr} (h : Tb.old b) : endF F b = F b := by unfold endF; rw [if_pos h]
theorem endF_nol {F : Hp} {b : Addr} {o : HO} (h : F b = some o) (n : ∀ xs, o ≠ .lst xs) : endF F b = some o := by
  unfold endF
  split
  · exact h
  · exact nolF_of h n
theorem endF_none {F : Hp} {b : Addr} (h : F b = none) : endF F b = none := by
  unfold endF nolF
  split
  · exact h
  · rw [h]
section
variable {K : Frag} {c : C3} {F F2 H H1 H2 : Hp} {σ : L2.St} {env : En}
theorem Rl.endN (R : Rl K c F σ H1 env) (oo : ∀ b, Tb.old b ↔ c.H0 b ≠ none) (mu : MutM (fun b => F b ≠ none ∧ ¬ Tb.old b) H1 H2) (h0 : Same c.F0 c.H0) : Rl K c (endF F) σ H2 (shlE env) := by
  have stay : ∀ {b o}, H1 b = some o → ((∃ xs, o = .lst xs) → F b = none ∨ Tb.old b) → H2 b = some o := fun {b o} e n => mu.1 _ _ e fun hx hm => by
    rcases n hx with z | z
    · exact hm.1 z
    · exact hm.2 z
  refine ⟨fun b o e => ?_, fun b o e => ?_, fun b o e => ?_, R.g0, fun b hb => ?_, fun b hb => mu.2 b (R.dom b hb), by rw [shlE, List.length_map]; exact R.len, fun i d h => ?_, fun i p ks h => ?_, tabs_mut R.tab mu, fun b ps e => R.nf b ps (endF_get e).1, R.ng⟩
  · obtain ⟨e1, e2⟩ := endF_get e
    exact stay (R.sub _ _ e1) fun hx => .inr (e2 hx)
  · have ho : Tb.old b := (oo b).mpr (by rw [h0 _ _ e]; simp)
    rw [endF_old ho]
    exact R.f0 _ _ e
  · refine stay (R.gd _ _ e) fun _ => .inr ((oo b).mpr ?_)
    rw [R.g0 _ _ e]; simp
  · refine R.new b fun z => hb (endF_none z)
  · obtain ⟨h1, h2⟩ := shl_val h
    obtain ⟨v, e1, e2⟩ := R.val i d h1
    exact ⟨v, e1, Dp.off (fun b o e x => endF_nol e x) d h2 e2⟩
  · obtain ⟨h1, h2⟩ := shl_own h
    obtain ⟨a, xs, e1, e2, e3, e4, e5, e6, e7⟩ := R.own i p ks h1
    refine ⟨a, xs, e1, endF_none e2, stay e3 fun _ => .inl e2, DpAll.off (fun b o e x => endF_nol e x) ks h2 e4, e5, e6, fun j q es hj hq => e7 j q es hj (shl_own hq).1⟩
end
def sScopeN (fp : Fs) (fl : En → Option En) : Fs := fun env => (fp env).bind fun q => match q.1 with
  | .nx => (fl q.2).map fun e3 => (.rt (.bool true), shlE e3)
  | .rt d => some (.rt d, q.2)
  | _ => none
section
variable {X : Cx} {xc : XC} {st : Stmt} {rest stmts : List Stmt} {fp : Fs} {fl : En → Option En}
theorem dq_scopeR (h : PSs X stmts (TSo X.K xc fp (GLn X.K fl))) : PSs X stmts (Gso X.K xc (sScopeN fp fl)) := PSs.imp h fun D σ H ⟨c, F, env, fw, env', R, oo, e, k⟩ => by
  unfold sScopeN at e
  simp only [Option.bind_eq_some_iff] at e
  obtain ⟨⟨q1, q2⟩, h1, h2⟩ := e
  refine ⟨c, F, env, q1, q2, R, oo.1, h1, ?_⟩
  cases q1 with
  | nx =>
    simp only [Option.map_eq_some_iff] at h2
    obtain ⟨e3, h4, h5⟩ := h2
    cases h5
    intro σ2 F2 H2 s2 R2
    refine ⟨c, F2, q2, e3, R2, h4, fun σ' F' H1 H' s' R' mu => ?_⟩
    have h0 : Same c.F0 c.H0 := by rw [← oo.2.1]; exact oo.2.2
    have R3 := R'.endN oo.1 mu h0
    refine k σ' (endF F') H' (.bl true) (by rw [oo.2.1]; exact R3.f0) R3 (.bl true)
  | rt d =>
    cases h2
    exact k
  | _ => cases h2
end
def mkN (d : PyData) : PyData := if noL d then d else nwD d
def unw : PyData → PyData
  | .dict [(.none, .bool true), (.none, d)] => d
  | d => d
theorem DpN.dp {K : Frag} {old : Addr → Prop} {F : Hp} {v : V} {d : PyData} (h : DpN K old F v d) : Dp K F v d := by
  induction h with
  | non => exact .non
  | bl b => exact .bl b
  | int i => exact .int i
  | str x => exact .str x
  | lst h1 _ h3 _ ih => exact .lstS h1 (all_of h3 ih)
  | tup h1 h3 _ ih => exact .tup h1 (all_of h3 ih)
where all_of {K : Frag} {F : Hp} : ∀ {xs : List V} {ds : List PyData}, xs.length = ds.length → (∀ (i : Nat) (v : V) (d : PyData), xs[i]? = some v → ds[i]? = some d → Dp K F v d) → DpAll K F xs ds
  | [], [], _, _ => .nil
  | [], d :: ds, h, _ => by simp at h
  | v :: xs, [], h, _ => by simp at h
  | v :: xs, d :: ds, h, k => .cons (k 0 v d rfl rfl) (all_of (by simpa using h) fun i v d h1 h2 => k (i + 1) v d (by simpa using h1) (by simpa using h2))
theorem unw_dp {K : Frag} {F : Hp} {v : V} {d : PyData} (h : Dp K F v d) : Dp K F v (unw d) := by
  unfold unw
  split
  · cases h with
    | nw h => exact h.dp
    | dct _ hk => exact absurd rfl (kv_none hk _ _)
  · exact h
def eVN (i : Nat) : Fe := fun env => match env[i]? with
  | some (.val d) => some (unw d, env)
  | _ => none
section
variable {X : Cx} {pos : Pos}
theorem de_vN (i : Nat) {x : Str} (hN : X.N[i]? = some x := by rfl) (hv : Vis X.env.scope x := by first | exact Or.inl rfl | exact Or.inr (Or.inl rfl) | exact Or.inr (Or.inr rfl)) (hd : (x == ("__debug__" : Str)) = false := by decide)
    (hcd : (x == ("__classdict__" : Str)) = false := by decide) : PE X (.Name x pos) (Ge X.K (eVN i)) := (pe_var hN hv hd hcd).imp fun σ H Q ⟨c, F, env, d, env', R, e, k⟩ => by
  unfold eVN at e
  split at e
  · rename_i d' h
    cases e
    obtain ⟨v, e1, e2⟩ := R.val i _ h
    exact ⟨v, e1, k v F H (Same.refl F) R (unw_dp e2)⟩
  · cases e
end
omit [Tb] in
theorem DpN.ofS {i : Tb} {K : Frag} {F : Hp} {old : Addr → Prop} (hF : ∀ b xs, F b = some (.lst xs) → ¬ old b) : ∀ (d : PyData) {v : V}, noM d = true → @Dp (stT i) K F v d → DpN K old F v d
  | .none, _, _, h => by cases h; exact .non
  | .bool b, _, _, h => by cases h; exact .bl b
  | .int n, _, _, h => by cases h; exact .int n
  | .str x, _, _, h => by cases h; exact .str x
  | .list ds, _, hc, h => by
    cases h with
    | lst h1 ha st =>
      have e := st rfl
      refine .lst e (hF _ _ e) (@DpAll.len (stT i) _ _ _ _ ha) fun j v d h1 h2 => ?_
      obtain ⟨d', e1, e2⟩ := @DpAll.at' (stT i) _ _ _ _ _ _ ha h1
      rw [h2] at e1
      cases e1
      have hc' : noMs ds = true := by simpa [noM] using hc
      have hm := List.mem_of_getElem? h2
      have : sizeOf d < 1 + sizeOf ds := by have := List.sizeOf_lt_of_mem hm; omega
      exact DpN.ofS hF d (noMs_all hc' d hm) e2
  | .tuple ds, _, hc, h => by
    cases h with
    | tup h1 ha =>
      refine .tup h1 (@DpAll.len (stT i) _ _ _ _ ha) fun j v d h1 h2 => ?_
      obtain ⟨d', e1, e2⟩ := @DpAll.at' (stT i) _ _ _ _ _ _ ha h1
      rw [h2] at e1
      cases e1
      have hc' : noMs ds = true := by simpa [noM] using hc
      have hm := List.mem_of_getElem? h2
      have : sizeOf d < 1 + sizeOf ds := by have := List.sizeOf_lt_of_mem hm; omega
      exact DpN.ofS hF d (noMs_all hc' d hm) e2
  | .dict _, _, hc, h => by simp [noM] at hc
termination_by d => sizeOf d
def eMN (i : Nat) (g : List PyData → List PyData → Option (PyData × List PyData)) (fl : Fl) : Fe := fun env => if isOwn env i = true then (fl env).bind fun p => match p.2[i]? with
  | some (.own b ks) => if noLs ks = true ∧ noLs p.1 = true then (g ks p.1).bind fun z => if noM z.1 = true then some (z.1, p.2.set i (.own b z.2)) else none else none
  | _ => none else none
def GeQ (K : Frag) (f : Fe) : TE := fun σ H Q => ∃ c F env d env', Rl K c F σ H env ∧ (∀ b, Tb.old b ↔ c.H0 b ≠ none) ∧ f env = some (d, env') ∧ ∀ v F' H', Same F F' → Rl K c F' σ H' env' → DpN K Tb.old F' v d → Q v H'
open Classical in
def addHp (F G : Hp) : Hp := fun b => match F b with
  | some o => some o
  | none => G b
section
variable {X : Cx} {k n : Nat} {f : Addr} {fd : FuncData} {ps : List Str} {x : Str} {p pos : Pos} {es : List Expr} {fl : Fl} {gM : List PyData → List PyData → Option (PyData × List PyData)}
theorem deQ_callM (i : Nat) {y : Str} {p2 : Pos} (Fk : FnOk X.prog X.w X.K X.mg X.base CX0 k f fd ps (@spM (stT ‹Tb›) X.K n gM)) (hl : ∀ ks ds z, gM ks ds = some z → ds.length + 1 = n) (hr : Room k X.A) (hg : Gl X x) (hm : X.mg x = some (.ref f)) (hk : PySem.W.keepIn X.K (.ref f) = true) (hb : Binds X.K fd ps []) (ha : PA X es (Ga X.K fl))
    (hN : X.N[i]? = some y := by rfl) (hv : Vis X.env.scope y := by first | exact Or.inl rfl | exact Or.inr (Or.inl rfl) | exact Or.inr (Or.inr rfl)) (hd : (y == ("__debug__" : Str)) = false := by decide) (hcd : (y == ("__classdict__" : Str)) = false := by decide)
    (hdb : (x == ("__debug__" : Str)) = false := by decide) (he : starEach (.Name y p2 :: es) X.env = (false, eval (.Name y p2) X.env) :: starEach es X.env := by rfl) (hpl : (backTo pos (starEach es X.env)).any (·.1) = false := by rfl) :
    PE X (.Call (.Name x p) (.Name y p2 :: es) [] pos) (GeQ X.K (eMN i gM fl)) := PE.imp (pe_call Fk hr hg hm hk hb .nil pass0 (pa_cons (pe_var hN hv hd hcd) ha he) hdb he hpl) fun σ H Q ⟨c, F, env, d, env', R, oo, e, k⟩ => by
  unfold eMN at e
  by_cases ho : isOwn env i = true
  · rw [if_pos ho] at e
    simp only [Option.bind_eq_some_iff] at e
    obtain ⟨⟨d1, n1⟩, h1, h2⟩ := e
    dsimp only at h2
    split at h2
    · rename_i b ks hi
      split at h2
      · rename_i hz
        simp only [Option.bind_eq_some_iff] at h2
        obtain ⟨⟨z, ks'⟩, h3, h4⟩ := h2
        dsimp only at h4
        split at h4
        · rename_i hy
          obtain ⟨rfl, rfl⟩ := Prod.mk.inj (Option.some.inj h4)
          obtain ⟨a, ys, ha, hys⟩ := own_of R ho
          refine ⟨.ref a, ha, c, F, env, d1, n1, R, h1, fun ws F1 H1 s1 R1 hw => ?_⟩
          obtain ⟨a', xs, e1, e2, e3, e4, e5, e6, e7⟩ := R1.own i b ks hi
          rw [ha] at e1
          cases e1
          show @spM (stT ‹Tb›) X.K n gM ((.ref a :: ws) ++ []) H1 Q E0
          rw [List.append_nil]
          have B0 : Bs (nolF F1) H1 := ⟨fun b o e => R1.sub _ _ (nolF_get e).1, fun b ps e => R1.nf b ps (nolF_get e).1, R1.tab⟩
          have x4 : DpAll X.K (nolF F1) xs ks := DpAll.off (fun b o e x => nolF_of e x) ks hz.1 e4
          have xw : DpAll X.K (nolF F1) ws d1 := DpAll.off (fun b o e x => nolF_of e x) d1 hz.2 hw
          refine ⟨nolF F1, a, ws, xs, ks, d1, ks', z, rfl, ?_, B0.toS, ?_, e3, DpAll.toS ks hz.1 x4, DpAll.toS d1 hz.2 xw, h3, fun v F' H' xs' a1 a2 a3 a4 a5 a6 hv => ?_⟩
          · rw [List.length_cons, hw.len]; exact hl ks d1 _ h3
          · unfold nolF; rw [e2]
          · have a2' := Bs.ofS a2
            have up : ∀ {b o}, F1 b = some o → H' b = some o := fun {b o} e => a3.keep b o (fun ps z => R1.nf b ps (by rw [e, z])) (fun z => by subst z; rw [e2] at e; cases e) (R1.sub _ _ e)
            have sF : Same F1 (addHp F1 F') := fun b o e => by unfold addHp; rw [e]
            have sG : Same F' (addHp F1 F') := fun b o e => by
              unfold addHp
              cases e0 : F1 b with
              | none => exact e
              | some o' =>
                have := up e0
                rw [a2'.sub _ _ e] at this
                exact this.symm
            have bs : Bs (addHp F1 F') H' := ⟨fun b o e => by
              unfold addHp at e
              cases e0 : F1 b with
              | none => rw [e0] at e; exact a2'.sub _ _ e
              | some o' => rw [e0] at e; cases e; exact up e0, fun b ps e => by
              unfold addHp at e
              cases e0 : F1 b with
              | none => rw [e0] at e; exact a2'.nf _ _ e
              | some o' => rw [e0] at e; cases e; exact R1.nf b ps e0, a2'.tab⟩
            have nw : ∀ b, addHp F1 F' b ≠ none → F1 b ≠ none ∨ H1 b = none := fun b hb => by
              cases e0 : F1 b with
              | some o' => exact .inl (by simp)
              | none =>
                have : F' b ≠ none := by
                  unfold addHp at hb
                  rw [e0] at hb
                  exact hb
                rcases a4 b this with z | z
                · exfalso
                  apply z
                  unfold nolF
                  rw [e0]
                · exact .inr z
            refine k v (addHp F1 F') H' (s1.trans sF) (R1.afterM hi ha sF bs a3 nw a5 ((DpAll.ofS a6).up sG)) ?_
            refine (DpN.ofS (fun b xs e => ?_) z hy hv).up sG
            intro hold
            have h0 := (oo b).mp hold
            rcases a4 b (by rw [e]; simp) with z | z
            · cases e0 : nolF F1 b with
              | none => exact z e0
              | some o =>
                have := a1 _ _ e0
                rw [e] at this
                exact (nolF_get e0).2 xs (Option.some.inj this).symm
            · exact h0 (R1.h0 z)
        · cases h4
      · cases h2
    · cases h2
  · rw [if_neg ho] at e
    cases e
theorem mkN_dp {K : Frag} {F : Hp} {v : V} {d : PyData} (h : DpN K Tb.old F v d) : Dp K F v (mkN d) := by
  unfold mkN
  split
  · exact h.dp
  · rename_i hz
    cases h with
    | non => exact absurd rfl hz
    | bl b => exact absurd rfl hz
    | int b => exact absurd rfl hz
    | str b => exact absurd rfl hz
    | lst h1 h2 h3 h4 => exact .nw (.lst h1 h2 h3 h4)
    | tup h1 h3 h4 => exact .nw (.tup h1 h3 h4)
end
def fSetN (i : Nat) (fe : Fe) : En → Option En := fun env => (fe env).map fun p => p.2.set i (.val (mkN p.1))
section
variable {X : Cx} {e : Expr} {fe : Fe} {pos : Pos}
theorem dq_setN (i : Nat) {x : Str} {pos' : Pos} (hN : X.N.Nodup) (he : PE X e (GeQ X.K fe)) (hi : X.N[i]? = some x := by rfl) (hx : Loc X.env.scope x := by first | exact Or.inl rfl | exact Or.inr rfl) (hs : swapsWith e (some (.Name x pos')) pos.line X.env = pure false := by rfl)
    (hf : X.fn x = true ∨ X.env.scope.names.lookup x = some .local := by first | exact .inl rfl | exact .inr rfl | assumption) : PS X (.Assign [.Name x pos'] e pos) (GNs X.K (fSetN i fe)) := PS.imp (ps_set hN hi hx he hs hf) fun D σ H ⟨c, F, env, env', R, oo, e, k⟩ => by
  unfold fSetN at e
  simp only [Option.map_eq_some_iff] at e
  obtain ⟨⟨d1, n1⟩, h1, h2⟩ := e
  cases h2
  exact ⟨c, F, env, d1, n1, R, oo, h1, fun v F' H' s R' hv => k _ F' H' s (R'.put (mkN_dp hv) i)⟩
end
theorem dpN_of {K : Frag} {old : Addr → Prop} {F : Hp} : ∀ (d : PyData) {v : V}, noL d = true → Dp K F v d → DpN K old F v d
  | .none, _, _, h => by cases h; exact .non
  | .bool b, _, _, h => by cases h; exact .bl b
  | .int n, _, _, h => by cases h; exact .int n
  | .str x, _, _, h => by cases h; exact .str x
  | .list ds, _, hc, h => by simp [noL] at hc
  | .tuple ds, _, hc, h => by
    cases h with
    | tup h1 ha =>
      refine .tup h1 ha.len fun j v d h1 h2 => ?_
      obtain ⟨d', e1, e2⟩ := ha.at' h1
      rw [h2] at e1
      cases e1
      have hc' : noLs ds = true := by simpa [noL] using hc
      have hm := List.mem_of_getElem? h2
      have : sizeOf d < 1 + sizeOf ds := by have := List.sizeOf_lt_of_mem hm; omega
      exact dpN_of d (noLs_all hc' d hm) e2
  | .dict _, _, hc, h => by simp [noL] at hc
termination_by d => sizeOf d
theorem entN_of {K : Frag} {F H : Hp} {v : V} {d : PyData} (s : Same F H) (h : DpN K Tb.old F v d) (ok : entOk d = true) : EntK K (fun b => F b ≠ none ∧ ¬ Tb.old b) H v := by
  unfold entOk at ok
  rw [Bool.and_eq_true] at ok
  by_cases hl : ∃ ds, d = .list ds
  · obtain ⟨ds, rfl⟩ := hl
    cases h with
    | @lst a xs _ e ho hlen ha =>
      refine .inl ⟨a, xs, rfl, ⟨by rw [e]; simp, ho⟩, s _ _ e, ?_⟩
      rw [hlen]
      simpa using ok.2
  · have hl' : ∀ ds, d ≠ .list ds := fun ds z => hl ⟨ds, z⟩
    refine .inr fun H' k => ⟨tyN d, tyX_nl k s h.dp ok.1 hl', ?_⟩
    have := kit_ty (K := K) (isT_list d)
    rw [isT_l hl'] at this
    exact this
theorem esN_of {K : Frag} {F H : Hp} {v : V} {d : PyData} (s : Same F H) (h : DpN K Tb.old F v d) (ok : topOk d = true) : ∃ es, EsK K H v es ∧ (∀ e ∈ es, EntK K (fun b => F b ≠ none ∧ ¬ Tb.old b) H e) ∧ es.length ≤ 1000 := by
  unfold topOk at ok
  rw [Bool.and_eq_true] at ok
  have top := entN_of s h ok.1
  by_cases hl : ∃ ds, d = .tuple ds
  · obtain ⟨ds, rfl⟩ := hl
    have ok2 := ok.2
    simp only [Bool.and_eq_true, decide_eq_true_eq, List.all_eq_true] at ok2
    have ok1 : tyOk (.tuple ds) = true := rfl
    have ty : ∀ H', Same H H' → TyX K H' v (.type "tuple") := fun H' s' => tyX_of (s.trans s') h.dp ok1
    cases h with
    | @tup a xs _ hs hlen ha =>
      refine ⟨.ref a :: xs, .inl ⟨a, xs, rfl, sqT_mono s hs, rfl, ty⟩, fun e he => ?_, by rw [List.length_cons, hlen]; omega⟩
      rcases List.mem_cons.mp he with rfl | he
      · exact top
      · obtain ⟨i, hi, rfl⟩ := List.getElem_of_mem he
        have hd : ds[i]? = some (ds[i]'(by omega)) := List.getElem?_eq_getElem _
        exact entN_of s (ha i _ _ (List.getElem?_eq_getElem hi) hd) (ok2.2 _ (List.mem_of_getElem? hd))
  · have hl' : ∀ ds, d ≠ .tuple ds := fun ds z => hl ⟨ds, z⟩
    have ok1 : tyOk d = true := by
      have := ok.1
      unfold entOk at this
      rw [Bool.and_eq_true] at this
      exact this.1
    refine ⟨[v], .inr ⟨rfl, fun H' s' => ⟨tyN d, tyX_of (s.trans s') h.dp ok1, ?_⟩⟩, fun e he => ?_, by simp⟩
    · have := kit_ty (K := K) (isT_tuple d)
      rw [isT_t hl'] at this
      exact this
    · rw [List.mem_singleton.mp he]; exact top
def isNw : PyData → Bool
  | .dict [(.none, .bool true), (.none, _)] => true
  | _ => false
theorem unw_nw {K : Frag} {F : Hp} {v : V} {d : PyData} (h : Dp K F v d) (hz : isNw d = true ∨ noL d = true) : DpN K Tb.old F v (unw d) := by
  by_cases hn : isNw d = true
  · unfold isNw at hn
    split at hn
    · cases h with
      | nw h => exact h
      | dct _ hk => exact absurd rfl (kv_none hk _ _)
    · cases hn
  · rcases hz with z | z
    · exact absurd z hn
    · have : unw d = d := by
        unfold unw
        split
        · exact absurd rfl hn
        · rfl
      rw [this]
      exact dpN_of d z h
def fKeptN (cls : List Str) (i : Nat) (g : List PyData → Option (Str × PyData)) (fl : Fl) : En → Option En := fun env => match env[i]? with
  | some (.val dz) => if (isNw dz = true ∨ noL dz = true) ∧ topOk (unw dz) = true then (fl env).bind fun p => (g p.1).bind fun c => if c.1 ∈ cls ∧ repOk c.2 = true then some p.2 else none else none
  | _ => none
def tKeptn (K : Frag) (f : En → Option En) : TE := fun σ H Q => ∃ c F env env', Rl K c F σ H env ∧ f env = some env' ∧ ∀ F' H1 H', Same F F' → Rl K c F' σ H1 env' → MutM (fun b => F' b ≠ none ∧ ¬ Tb.old b) H1 H' → Q (.bl true) H'
section
variable {X : Cx} {k : Nat} {f : Addr} {fd : FuncData} {ps : List Str} {xk y : Str} {pk py pc : Pos} {eE : Expr} {fl : Fl} {g : List PyData → Option (Str × PyData)}
theorem pe_keptN (cls : List Str) (i : Nat) (hX : ∀ cl ∈ cls, XfC X.K (Tb.ca cl) ∧ PySem.W.findIn X.K (.ref (Tb.ca cl)) "value" = some none) (hE : PE X eE (GeE X.K cls g fl)) (Fk : FnOk X.prog X.w X.K X.mg X.base CX0 k f fd ps (spK X.K)) (hr : Room k X.A) (hg : Gl X xk) (hm : X.mg xk = some (.ref f)) (hk : PySem.W.keepIn X.K (.ref f) = true) (hb : Binds X.K fd ps [])
    (hN : X.N[i]? = some y := by rfl) (hv : Vis X.env.scope y := by first | exact Or.inl rfl | exact Or.inr (Or.inl rfl) | exact Or.inr (Or.inr rfl)) (hd : (y == ("__debug__" : Str)) = false := by decide) (hcd : (y == ("__classdict__" : Str)) = false := by decide)
    (hdb : (xk == ("__debug__" : Str)) = false := by decide) (hs2 : starEach (Expr.Name y py :: []) X.env = (false, eval (.Name y py) X.env) :: starEach [] X.env := by rfl) (hs1 : starEach (eE :: Expr.Name y py :: []) X.env = (false, eval eE X.env) :: starEach [Expr.Name y py] X.env := by rfl) (hpl : (backTo pc (starEach [Expr.Name y py] X.env)).any (·.1) = false := by rfl) :
    PE X (.Call (.Name xk pk) [eE, .Name y py] [] pc) (tKeptn X.K (fKeptN cls i g fl)) := PE.imp (pe_call Fk hr hg hm hk hb .nil pass0 (pa_cons hE (pa_cons (pe_var hN hv hd hcd) pa_nil hs2) hs1) hdb hs1 hpl) fun σ H Q ⟨c, F, env, env', R, e, kk⟩ => by
  unfold fKeptN at e
  split at e
  · rename_i dz hz
    split at e
    · rename_i tok
      simp only [Option.bind_eq_some_iff] at e
      obtain ⟨⟨ds, en⟩, e1, ⟨cl, d⟩, e2, e3⟩ := e
      dsimp only at e2 e3
      split at e3
      · rename_i hc
        cases e3
        obtain ⟨v, hv1, hv2⟩ := R.val i dz hz
        refine ⟨c, F, env, ds, cl, d, _, R, e1, e2, hc.1, fun a u F' H' s' R' her hne => ⟨v, hv1, a, v, rfl, ?_⟩⟩
        obtain ⟨es, he1, he2, he3⟩ := esN_of (K := X.K) (s'.trans R'.sub) (unw_nw hv2 tok.1) tok.2
        refine ⟨cl, u, d, freshL F F', es, fun b => F b ≠ none ∧ ¬ Tb.old b, ErrAt.up her R'.sub, (hX cl hc.1).1, (hX cl hc.1).2, freshL_sub.trans R'.sub, hne, hc.2, fun b xs h z => ?_, he1, he2, he3, fun H'' mu => ?_⟩
        · exact z.1 ((freshL_get h).2 ⟨xs, rfl⟩)
        · refine kk F' H' H'' s' R' ⟨fun b o e hn => mu.1 b o e fun hx hF => hn hx ⟨?_, hF.2⟩, mu.2⟩
          cases e' : F b with
          | none => exact absurd e' hF.1
          | some o' => rw [s' _ _ e']; simp
      · cases e3
    · cases e
  · cases e
theorem dq_kept {fk : En → Option En} {c0 : Expr} {pr : Pos} (h : PE X c0 (tKeptn X.K fk)) : PS X (.Return (some c0) pr) (GLn X.K fk) := PS.imp (ps_ret h) fun D σ H ⟨c, F, env, env', R, e, kk⟩ =>
  ⟨c, F, env, env', R, e, fun F' H1 H' s R' mu => kk σ F' H1 H' s R' mu⟩
end
end Dn
set_option Elab.async false
set_option linter.all false
set_option maxRecDepth 100000
set_option maxHeartbeats 4000000
namespace K11
open PySem PySem.Spec PyProof.Rows Dn
open L2 hiding FnOk Room hu_of pe_call pe_callS pe_callK Dp DpAll
def topS (i : Nat) : Stmt := PySem.Challenge.pw_caskyears_k11_levelled_pairs.main.body.getD i (.Pass ⟨0, 0, 0, 0⟩)
/-- what the top has written -/
structure Wd [Tb] (P : Program) (K : PySem.W.Frag) (mg : Str → Option Value) (base : Heap) where
  xD : Addr
  xI : Addr
  xt_InvalidDeed : PySem.CaskX.CaskTxt P K mg (Tb.ca "InvalidDeed") xD xI
  xg_InvalidDeed : mg "InvalidDeed" = some (.ref (Tb.ca "InvalidDeed"))
  xf_InvalidDeed : XfC K (Tb.ca "InvalidDeed")
  xn_InvalidDeed : PySem.W.findIn K (.ref (Tb.ca "InvalidDeed")) "value" = some none
  xm_InvalidDeed : PySem.W.exmOne K (.ref (Tb.ca "InvalidDeed")) (.ref (Tb.ca "InvalidDeed")) = some true
  xb_InvalidDeed : PySem.W.exmOne K (.ref (Tb.ca "InvalidDeed")) (.ref xD) = some true
  xe_InvalidDeed : L2.ExcC K (Tb.ca "InvalidDeed")
  xv_InvalidDeed : PySem.W.kitOne K (.ref (Tb.ca "InvalidDeed")) (.type "ValueError") = some true
  xk_InvalidDeed_InvalidDeed : PySem.W.kitOne K (.ref (Tb.ca "InvalidDeed")) (.ref (Tb.ca "InvalidDeed")) = some true
  xk_InvalidDeed_InvalidNumber : PySem.W.kitOne K (.ref (Tb.ca "InvalidDeed")) (.ref (Tb.ca "InvalidNumber")) = some false
  xk_InvalidDeed_Unlike : PySem.W.kitOne K (.ref (Tb.ca "InvalidDeed")) (.ref (Tb.ca "Unlike")) = some false
  xt_InvalidNumber : PySem.CaskX.CaskTxt P K mg (Tb.ca "InvalidNumber") xD xI
  xg_InvalidNumber : mg "InvalidNumber" = some (.ref (Tb.ca "InvalidNumber"))
  xf_InvalidNumber : XfC K (Tb.ca "InvalidNumber")
  xn_InvalidNumber : PySem.W.findIn K (.ref (Tb.ca "InvalidNumber")) "value" = some none
  xm_InvalidNumber : PySem.W.exmOne K (.ref (Tb.ca "InvalidNumber")) (.ref (Tb.ca "InvalidNumber")) = some true
  xb_InvalidNumber : PySem.W.exmOne K (.ref (Tb.ca "InvalidNumber")) (.ref xD) = some true
  xe_InvalidNumber : L2.ExcC K (Tb.ca "InvalidNumber")
  xv_InvalidNumber : PySem.W.kitOne K (.ref (Tb.ca "InvalidNumber")) (.type "ValueError") = some true
  xk_InvalidNumber_InvalidDeed : PySem.W.kitOne K (.ref (Tb.ca "InvalidNumber")) (.ref (Tb.ca "InvalidDeed")) = some false
  xk_InvalidNumber_InvalidNumber : PySem.W.kitOne K (.ref (Tb.ca "InvalidNumber")) (.ref (Tb.ca "InvalidNumber")) = some true
  xk_InvalidNumber_Unlike : PySem.W.kitOne K (.ref (Tb.ca "InvalidNumber")) (.ref (Tb.ca "Unlike")) = some false
  xt_Unlike : PySem.CaskX.CaskTxt P K mg (Tb.ca "Unlike") xD xI
  xg_Unlike : mg "Unlike" = some (.ref (Tb.ca "Unlike"))
  xf_Unlike : XfC K (Tb.ca "Unlike")
  xn_Unlike : PySem.W.findIn K (.ref (Tb.ca "Unlike")) "value" = some none
  xm_Unlike : PySem.W.exmOne K (.ref (Tb.ca "Unlike")) (.ref (Tb.ca "Unlike")) = some true
  xb_Unlike : PySem.W.exmOne K (.ref (Tb.ca "Unlike")) (.ref xD) = some true
  xe_Unlike : L2.ExcC K (Tb.ca "Unlike")
  xv_Unlike : PySem.W.kitOne K (.ref (Tb.ca "Unlike")) (.type "ValueError") = some true
  xk_Unlike_InvalidDeed : PySem.W.kitOne K (.ref (Tb.ca "Unlike")) (.ref (Tb.ca "InvalidDeed")) = some false
  xk_Unlike_InvalidNumber : PySem.W.kitOne K (.ref (Tb.ca "Unlike")) (.ref (Tb.ca "InvalidNumber")) = some false
  xk_Unlike_Unlike : PySem.W.kitOne K (.ref (Tb.ca "Unlike")) (.ref (Tb.ca "Unlike")) = some true
  xg_CaskError : mg "CaskError" = some (.ref xD)
  xk0_InvalidDeed : PySem.W.kitOne K (.type "NoneType") (.ref (Tb.ca "InvalidDeed")) = some false
  xk0_InvalidNumber : PySem.W.kitOne K (.type "NoneType") (.ref (Tb.ca "InvalidNumber")) = some false
  xk0_Unlike : PySem.W.kitOne K (.type "NoneType") (.ref (Tb.ca "Unlike")) = some false
  seer : SeerK base P
  b_max : mg "max" = none
  b_int : mg "int" = none
  b_len : mg "len" = none
  b_list : mg "list" = none
  b_range : mg "range" = none
  b_zip : mg "zip" = none
  b_min : mg "min" = none
  b_tuple : mg "tuple" = none
  b_repr : mg "repr" = none
  b_isinstance : mg "isinstance" = none
  b_bool : mg "bool" = none
  b_str : mg "str" = none
  b_ValueError : mg "ValueError" = none
  b_gcd : mg "gcd" = some (.builtin "math.gcd")
  a_law_well : Addr
  fd_law_well : FuncData
  F_law_well : L2.Fun K "_law_well" "_law_well" (topS 19) a_law_well fd_law_well
  m_law_well : mg "_law_well" = some (.ref a_law_well)
  n_law_well : Binds K fd_law_well (["_law_cell_here", "_law_place"] : List Str) []
  a_law_cell : Addr
  fd_law_cell : FuncData
  F_law_cell : L2.Fun K "_law_cell" "_law_cell" (topS 21) a_law_cell fd_law_cell
  m_law_cell : mg "_law_cell" = some (.ref a_law_cell)
  n_law_cell : Binds K fd_law_cell (["_law_script", "_law_place"] : List Str) []
  a_law_lift : Addr
  fd_law_lift : FuncData
  F_law_lift : L2.Fun K "_law_lift" "_law_lift" (topS 20) a_law_lift fd_law_lift
  m_law_lift : mg "_law_lift" = some (.ref a_law_lift)
  n_law_lift : Binds K fd_law_lift (["_law_well_here", "_law_many"] : List Str) []
  a_law_pair : Addr
  fd_law_pair : FuncData
  F_law_pair : L2.Fun K "_law_pair" "_law_pair" (topS 30) a_law_pair fd_law_pair
  m_law_pair : mg "_law_pair" = some (.ref a_law_pair)
  n_law_pair : Binds K fd_law_pair (["_law_well_here", "_law_many"] : List Str) []
  a_law_turned : Addr
  fd_law_turned : FuncData
  F_law_turned : L2.Fun K "_law_turned" "_law_turned" (topS 25) a_law_turned fd_law_turned
  m_law_turned : mg "_law_turned" = some (.ref a_law_turned)
  n_law_turned : Binds K fd_law_turned (["_law_well_here", "_law_entries"] : List Str) []
  a_law_all_pairs : Addr
  fd_law_all_pairs : FuncData
  F_law_all_pairs : L2.Fun K "_law_all_pairs" "_law_all_pairs" (topS 31) a_law_all_pairs fd_law_all_pairs
  m_law_all_pairs : mg "_law_all_pairs" = some (.ref a_law_all_pairs)
  n_law_all_pairs : Binds K fd_law_all_pairs (["_law_well_here", "_law_many"] : List Str) []
  a_law_pairs : Addr
  fd_law_pairs : FuncData
  F_law_pairs : L2.Fun K "_law_pairs" "_law_pairs" (topS 32) a_law_pairs fd_law_pairs
  m_law_pairs : mg "_law_pairs" = some (.ref a_law_pairs)
  n_law_pairs : Binds K fd_law_pairs (["_law_script", "_law_well_here", "_law_many"] : List Str) []
  a_law_column : Addr
  fd_law_column : FuncData
  F_law_column : L2.Fun K "_law_column" "_law_column" (topS 33) a_law_column fd_law_column
  m_law_column : mg "_law_column" = some (.ref a_law_column)
  n_law_column : Binds K fd_law_column (["_law_many", "_law_listed", "_law_cask"] : List Str) []
  a_law_divisor : Addr
  fd_law_divisor : FuncData
  F_law_divisor : L2.Fun K "_law_divisor" "_law_divisor" (topS 22) a_law_divisor fd_law_divisor
  m_law_divisor : mg "_law_divisor" = some (.ref a_law_divisor)
  n_law_divisor : Binds K fd_law_divisor (["_law_great", "_law_small"] : List Str) []
  a_law_fraction : Addr
  fd_law_fraction : FuncData
  F_law_fraction : L2.Fun K "_law_fraction" "_law_fraction" (topS 23) a_law_fraction fd_law_fraction
  m_law_fraction : mg "_law_fraction" = some (.ref a_law_fraction)
  n_law_fraction : Binds K fd_law_fraction (["_law_above", "_law_below"] : List Str) []
  a_law_table : Addr
  fd_law_table : FuncData
  F_law_table : L2.Fun K "_law_table" "_law_table" (topS 34) a_law_table fd_law_table
  m_law_table : mg "_law_table" = some (.ref a_law_table)
  n_law_table : Binds K fd_law_table (["_law_many", "_law_listed"] : List Str) []
  a_law_same : Addr
  fd_law_same : FuncData
  F_law_same : L2.Fun K "_law_same" "_law_same" (topS 24) a_law_same fd_law_same
  m_law_same : mg "_law_same" = some (.ref a_law_same)
  n_law_same : Binds K fd_law_same (["_law_told", "_law_due"] : List Str) []
  a_is_integer : Addr
  fd_is_integer : FuncData
  F_is_integer : L2.Fun K "is_integer" "is_integer" (topS 8) a_is_integer fd_is_integer
  m_is_integer : mg "is_integer" = some (.ref a_is_integer)
  n_is_integer : Binds K fd_is_integer (["value"] : List Str) []
  a_anew : Addr
  fd_anew : FuncData
  F_anew : L2.Fun K "anew" "anew" (topS 7) a_anew fd_anew
  m_anew : mg "anew" = some (.ref a_anew)
  n_anew : Binds K fd_anew (["value"] : List Str) []
  a_need_count : Addr
  fd_need_count : FuncData
  F_need_count : L2.Fun K "need_count" "need_count" (topS 9) a_need_count fd_need_count
  m_need_count : mg "need_count" = some (.ref a_need_count)
  n_need_count : Binds K fd_need_count (["number", "low", "high"] : List Str) []
  a_is_pair : Addr
  fd_is_pair : FuncData
  F_is_pair : L2.Fun K "is_pair" "is_pair" (topS 13) a_is_pair fd_is_pair
  m_is_pair : mg "is_pair" = some (.ref a_is_pair)
  n_is_pair : Binds K fd_is_pair (["value", "casks"] : List Str) []
  a_need_pairs : Addr
  fd_need_pairs : FuncData
  F_need_pairs : L2.Fun K "need_pairs" "need_pairs" (topS 14) a_need_pairs fd_need_pairs
  m_need_pairs : mg "need_pairs" = some (.ref a_need_pairs)
  n_need_pairs : Binds K fd_need_pairs (["casks", "pairs"] : List Str) []
  a_fraction : Addr
  fd_fraction : FuncData
  F_fraction : L2.Fun K "fraction" "fraction" (topS 11) a_fraction fd_fraction
  m_fraction : mg "fraction" = some (.ref a_fraction)
  n_fraction : Binds K fd_fraction (["above", "below"] : List Str) []
  a_halved : Addr
  fd_halved : FuncData
  F_halved : L2.Fun K "halved" "halved" (topS 15) a_halved fd_halved
  m_halved : mg "halved" = some (.ref a_halved)
  n_halved : Binds K fd_halved (["casks", "pairs"] : List Str) []
  a_levelled : Addr
  fd_levelled : FuncData
  F_levelled : L2.Fun K "levelled" "levelled" (topS 16) a_levelled fd_levelled
  m_levelled : mg "levelled" = some (.ref a_levelled)
  n_levelled : Binds K fd_levelled (["casks", "pairs"] : List Str) []
  a_is_level : Addr
  fd_is_level : FuncData
  F_is_level : L2.Fun K "is_level" "is_level" (topS 17) a_is_level fd_is_level
  m_is_level : mg "is_level" = some (.ref a_is_level)
  n_is_level : Binds K fd_is_level (["casks", "pairs"] : List Str) []
  a_law_odd_pair : Addr
  fd_law_odd_pair : FuncData
  F_law_odd_pair : L2.Fun K "_law_odd_pair" "_law_odd_pair" (topS 35) a_law_odd_pair fd_law_odd_pair
  m_law_odd_pair : mg "_law_odd_pair" = some (.ref a_law_odd_pair)
  n_law_odd_pair : Binds K fd_law_odd_pair (["_law_well_here", "_law_many"] : List Str) []
  a_law_asked : Addr
  fd_law_asked : FuncData
  F_law_asked : L2.Fun K "_law_asked" "_law_asked" (topS 26) a_law_asked fd_law_asked
  m_law_asked : mg "_law_asked" = some (.ref a_law_asked)
  n_law_asked : Binds K fd_law_asked (["_law_door", "_law_many", "_law_listed"] : List Str) []
  a_law_error : Addr
  fd_law_error : FuncData
  F_law_error : L2.Fun K "_law_error" "_law_error" (topS 27) a_law_error fd_law_error
  m_law_error : mg "_law_error" = some (.ref a_law_error)
  n_law_error : Binds K fd_law_error (["_law_door", "_law_many", "_law_listed"] : List Str) []
  a_law_refused : Addr
  fd_law_refused : FuncData
  F_law_refused : L2.Fun K "_law_refused" "_law_refused" (topS 28) a_law_refused fd_law_refused
  m_law_refused : mg "_law_refused" = some (.ref a_law_refused)
  n_law_refused : Binds K fd_law_refused (["_law_door", "_law_many", "_law_listed", "_law_numbered", "_law_due"] : List Str) []
  a_law_kept : Addr
  fd_law_kept : FuncData
  F_law_kept : L2.Fun K "_law_kept" "_law_kept" (topS 29) a_law_kept fd_law_kept
  m_law_kept : mg "_law_kept" = some (.ref a_law_kept)
  n_law_kept : Binds K fd_law_kept (["_law_held", "_law_thing"] : List Str) []
  a_law_refusals_right : Addr
  fd_law_refusals_right : FuncData
  F_law_refusals_right : L2.Fun K "_law_refusals_right" "_law_refusals_right" (topS 36) a_law_refusals_right fd_law_refusals_right
  m_law_refusals_right : mg "_law_refusals_right" = some (.ref a_law_refusals_right)
  n_law_refusals_right : Binds K fd_law_refusals_right (["_law_well_here", "_law_many", "_law_listed"] : List Str) []
  a_law_long_right : Addr
  fd_law_long_right : FuncData
  F_law_long_right : L2.Fun K "_law_long_right" "_law_long_right" (topS 37) a_law_long_right fd_law_long_right
  m_law_long_right : mg "_law_long_right" = some (.ref a_law_long_right)
  n_law_long_right : Binds K fd_law_long_right (["_law_well_here", "_law_many", "_law_listed"] : List Str) []
  a_law : Addr
  fd_law : FuncData
  F_law : L2.Fun K "law" "law" (topS 38) a_law fd_law
  m_law : mg "law" = some (.ref a_law)
  n_law : Binds K fd_law (["_law_script"] : List Str) []
  kb_levelled_0 : KBinds K fd_levelled (["casks", "pairs"] : List Str) (["pairs", "casks"] : List Str) (kG 0 2 [1, 0] .none) (kG 0 2 [1, 0] .non)
  kb_is_level_0 : KBinds K fd_is_level (["casks", "pairs"] : List Str) (["pairs", "casks"] : List Str) (kG 0 2 [1, 0] .none) (kG 0 2 [1, 0] .non)
end K11
set_option Elab.async false
set_option linter.all false
set_option maxRecDepth 100000
set_option maxHeartbeats 4000000
namespace K11
open PySem PySem.Spec PyProof.Rows Dn
open L2 hiding FnOk Room hu_of pe_call pe_callS pe_callK Dp DpAll
section
variable [Tb] {P : Program} {w : World} {K : PySem.W.Frag} {mg : Str → Option Value} {base : Heap}
abbrev Wd.st (T : Wd P K mg base) : @Wd (stT ‹Tb›) P K mg base := @Wd.mk (stT ‹Tb›) P K mg base T.xD T.xI T.xt_InvalidDeed T.xg_InvalidDeed T.xf_InvalidDeed T.xn_InvalidDeed T.xm_InvalidDeed T.xb_InvalidDeed T.xe_InvalidDeed T.xv_InvalidDeed T.xk_InvalidDeed_InvalidDeed T.xk_InvalidDeed_InvalidNumber T.xk_InvalidDeed_Unlike T.xt_InvalidNumber T.xg_InvalidNumber T.xf_InvalidNumber T.xn_InvalidNumber T.xm_InvalidNumber T.xb_InvalidNumber T.xe_InvalidNumber T.xv_InvalidNumber T.xk_InvalidNumber_InvalidDeed T.xk_InvalidNumber_InvalidNumber T.xk_InvalidNumber_Unlike T.xt_Unlike T.xg_Unlike T.xf_Unlike T.xn_Unlike T.xm_Unlike T.xb_Unlike T.xe_Unlike T.xv_Unlike T.xk_Unlike_InvalidDeed T.xk_Unlike_InvalidNumber T.xk_Unlike_Unlike T.xg_CaskError T.xk0_InvalidDeed T.xk0_InvalidNumber T.xk0_Unlike T.seer T.b_max T.b_int T.b_len T.b_list T.b_range T.b_zip T.b_min T.b_tuple T.b_repr T.b_isinstance T.b_bool T.b_str T.b_ValueError T.b_gcd T.a_law_well T.fd_law_well T.F_law_well T.m_law_well T.n_law_well T.a_law_cell T.fd_law_cell T.F_law_cell T.m_law_cell T.n_law_cell T.a_law_lift T.fd_law_lift T.F_law_lift T.m_law_lift T.n_law_lift T.a_law_pair T.fd_law_pair T.F_law_pair T.m_law_pair T.n_law_pair T.a_law_turned T.fd_law_turned T.F_law_turned T.m_law_turned T.n_law_turned T.a_law_all_pairs T.fd_law_all_pairs T.F_law_all_pairs T.m_law_all_pairs T.n_law_all_pairs T.a_law_pairs T.fd_law_pairs T.F_law_pairs T.m_law_pairs T.n_law_pairs T.a_law_column T.fd_law_column T.F_law_column T.m_law_column T.n_law_column T.a_law_divisor T.fd_law_divisor T.F_law_divisor T.m_law_divisor T.n_law_divisor T.a_law_fraction T.fd_law_fraction T.F_law_fraction T.m_law_fraction T.n_law_fraction T.a_law_table T.fd_law_table T.F_law_table T.m_law_table T.n_law_table T.a_law_same T.fd_law_same T.F_law_same T.m_law_same T.n_law_same T.a_is_integer T.fd_is_integer T.F_is_integer T.m_is_integer T.n_is_integer T.a_anew T.fd_anew T.F_anew T.m_anew T.n_anew T.a_need_count T.fd_need_count T.F_need_count T.m_need_count T.n_need_count T.a_is_pair T.fd_is_pair T.F_is_pair T.m_is_pair T.n_is_pair T.a_need_pairs T.fd_need_pairs T.F_need_pairs T.m_need_pairs T.n_need_pairs T.a_fraction T.fd_fraction T.F_fraction T.m_fraction T.n_fraction T.a_halved T.fd_halved T.F_halved T.m_halved T.n_halved T.a_levelled T.fd_levelled T.F_levelled T.m_levelled T.n_levelled T.a_is_level T.fd_is_level T.F_is_level T.m_is_level T.n_is_level T.a_law_odd_pair T.fd_law_odd_pair T.F_law_odd_pair T.m_law_odd_pair T.n_law_odd_pair T.a_law_asked T.fd_law_asked T.F_law_asked T.m_law_asked T.n_law_asked T.a_law_error T.fd_law_error T.F_law_error T.m_law_error T.n_law_error T.a_law_refused T.fd_law_refused T.F_law_refused T.m_law_refused T.n_law_refused T.a_law_kept T.fd_law_kept T.F_law_kept T.m_law_kept T.n_law_kept T.a_law_refusals_right T.fd_law_refusals_right T.F_law_refusals_right T.m_law_refusals_right T.n_law_refusals_right T.a_law_long_right T.fd_law_long_right T.F_law_long_right T.m_law_long_right T.n_law_long_right T.a_law T.fd_law T.F_law T.m_law T.n_law T.kb_levelled_0 T.kb_is_level_0
abbrev Wd.nt (T : Wd P K mg base) (H0 : Hp) : @Wd (nwT ‹Tb› H0) P K mg base := @Wd.mk (nwT ‹Tb› H0) P K mg base T.xD T.xI T.xt_InvalidDeed T.xg_InvalidDeed T.xf_InvalidDeed T.xn_InvalidDeed T.xm_InvalidDeed T.xb_InvalidDeed T.xe_InvalidDeed T.xv_InvalidDeed T.xk_InvalidDeed_InvalidDeed T.xk_InvalidDeed_InvalidNumber T.xk_InvalidDeed_Unlike T.xt_InvalidNumber T.xg_InvalidNumber T.xf_InvalidNumber T.xn_InvalidNumber T.xm_InvalidNumber T.xb_InvalidNumber T.xe_InvalidNumber T.xv_InvalidNumber T.xk_InvalidNumber_InvalidDeed T.xk_InvalidNumber_InvalidNumber T.xk_InvalidNumber_Unlike T.xt_Unlike T.xg_Unlike T.xf_Unlike T.xn_Unlike T.xm_Unlike T.xb_Unlike T.xe_Unlike T.xv_Unlike T.xk_Unlike_InvalidDeed T.xk_Unlike_InvalidNumber T.xk_Unlike_Unlike T.xg_CaskError T.xk0_InvalidDeed T.xk0_InvalidNumber T.xk0_Unlike T.seer T.b_max T.b_int T.b_len T.b_list T.b_range T.b_zip T.b_min T.b_tuple T.b_repr T.b_isinstance T.b_bool T.b_str T.b_ValueError T.b_gcd T.a_law_well T.fd_law_well T.F_law_well T.m_law_well T.n_law_well T.a_law_cell T.fd_law_cell T.F_law_cell T.m_law_cell T.n_law_cell T.a_law_lift T.fd_law_lift T.F_law_lift T.m_law_lift T.n_law_lift T.a_law_pair T.fd_law_pair T.F_law_pair T.m_law_pair T.n_law_pair T.a_law_turned T.fd_law_turned T.F_law_turned T.m_law_turned T.n_law_turned T.a_law_all_pairs T.fd_law_all_pairs T.F_law_all_pairs T.m_law_all_pairs T.n_law_all_pairs T.a_law_pairs T.fd_law_pairs T.F_law_pairs T.m_law_pairs T.n_law_pairs T.a_law_column T.fd_law_column T.F_law_column T.m_law_column T.n_law_column T.a_law_divisor T.fd_law_divisor T.F_law_divisor T.m_law_divisor T.n_law_divisor T.a_law_fraction T.fd_law_fraction T.F_law_fraction T.m_law_fraction T.n_law_fraction T.a_law_table T.fd_law_table T.F_law_table T.m_law_table T.n_law_table T.a_law_same T.fd_law_same T.F_law_same T.m_law_same T.n_law_same T.a_is_integer T.fd_is_integer T.F_is_integer T.m_is_integer T.n_is_integer T.a_anew T.fd_anew T.F_anew T.m_anew T.n_anew T.a_need_count T.fd_need_count T.F_need_count T.m_need_count T.n_need_count T.a_is_pair T.fd_is_pair T.F_is_pair T.m_is_pair T.n_is_pair T.a_need_pairs T.fd_need_pairs T.F_need_pairs T.m_need_pairs T.n_need_pairs T.a_fraction T.fd_fraction T.F_fraction T.m_fraction T.n_fraction T.a_halved T.fd_halved T.F_halved T.m_halved T.n_halved T.a_levelled T.fd_levelled T.F_levelled T.m_levelled T.n_levelled T.a_is_level T.fd_is_level T.F_is_level T.m_is_level T.n_is_level T.a_law_odd_pair T.fd_law_odd_pair T.F_law_odd_pair T.m_law_odd_pair T.n_law_odd_pair T.a_law_asked T.fd_law_asked T.F_law_asked T.m_law_asked T.n_law_asked T.a_law_error T.fd_law_error T.F_law_error T.m_law_error T.n_law_error T.a_law_refused T.fd_law_refused T.F_law_refused T.m_law_refused T.n_law_refused T.a_law_kept T.fd_law_kept T.F_law_kept T.m_law_kept T.n_law_kept T.a_law_refusals_right T.fd_law_refusals_right T.F_law_refusals_right T.m_law_refusals_right T.n_law_refusals_right T.a_law_long_right T.fd_law_long_right T.F_law_long_right T.m_law_long_right T.n_law_long_right T.a_law T.fd_law T.F_law T.m_law T.n_law T.kb_levelled_0 T.kb_is_level_0
abbrev s_law_well : Stmt := topS 19
theorem sc_law_well : FnScope (["_law_cell_here", "_law_place", "_law_depth"] : List Str) (["_law_cell_here", "_law_place"] : List Str) (defScope s_law_well) := ⟨rfl, rfl, rfl, by decide +kernel, rfl, by decide +kernel, by decide +kernel⟩
noncomputable def dn_law_well : Fs :=
  sSeq (sSet (eA gMax2 (lCons (eV 0) (lCons (e2 gSub (eC (.int 0)) (eV 0)) (lNil)))) (g1 2))
  (sRl (lLst (lCons (eA gMax2 (lCons (eC (.int 0)) (lCons (e2 gSub (eV 2) (e2 gPow (eC (.int 10)) (eC (.int 18)))) (lNil)))) (lCons (e2 gMod (eA gInt (lCons (e2 gAdd (e2 gMulI (eV 0) (eC (.int 49979687))) (e2 gMulI (e2 gAdd (eV 1) (eC (.int 31))) (eC (.int 32452867)))) (lNil))) (e2 gAdd (e2 gPow (eC (.int 10)) (eC (.int 26))) (eC (.int 67)))) (lCons (eC (.int 0)) (lNil))))))
noncomputable def Ph_law_well := runL dn_law_well 3 2
theorem Ph_law_well_len (ds : List PyData) (z : List PyData) (h : Ph_law_well ds = some z) : ds.length = 2 := runL_len ds z h
theorem ok_law_well (T : Wd P K mg base) : FnOk P w K mg base CX0 1 T.a_law_well T.fd_law_well (["_law_cell_here", "_law_place"] : List Str) (spL K 2 Ph_law_well) := by
  have key := okL (ca := Tb.ca) (P := P) (w := w) (mg := mg) (base := base) (k := 0) (n := 2) T.F_law_well sc_law_well rfl fun cdv A outer s H E hr => (have nd := sc_law_well.nd; dss_cons (ds_set 2 nd (de_B (call_max2 rfl) oA_max2 (by rfl) T.b_max (by decide +kernel) (da_cons (de_v 0) (da_cons (de_op op_sub o2_sub (de_int) (de_v 0)) (da_nil)))))
    (dss_one (ds_retL (df_lst (da_cons (de_B (call_max2 rfl) oA_max2 (by rfl) T.b_max (by decide +kernel) (da_cons (de_int) (da_cons (de_op op_sub o2_sub (de_v 2) (de_op op_powG o2_pow (de_int) (de_int))) (da_nil)))) (da_cons (de_op op_modN o2_mod (de_T call_int1 oA_int (by rfl) T.b_int (by decide +kernel) (da_cons (de_op op_addG o2_add (de_op op_mulG o2_mulI (de_v 0) (de_int)) (de_op op_mulG o2_mulI (de_op op_addG o2_add (de_v 1) (de_int)) (de_int))) (da_nil))) (de_op op_addG o2_add (de_op op_powG o2_pow (de_int) (de_int)) (de_int))) (da_cons (de_int) (da_nil))))))))
  exact key
abbrev s_law_cell : Stmt := topS 21
theorem sc_law_cell : FnScope (["_law_script", "_law_place"] : List Str) (["_law_script", "_law_place"] : List Str) (defScope s_law_cell) := ⟨rfl, rfl, rfl, by decide +kernel, rfl, by decide +kernel, by decide +kernel⟩
noncomputable def dn_law_cell : Fs :=
  sSeq (sIf (tB' (e2 gLt (eV 1) (eA gLen (lCons (eV 0) (lNil))))) (sRt (e2 gIx (eV 0) (eV 1))) (sNx))
  (sRt (eC (.int 0)))
noncomputable def Ph_law_cell := runP dn_law_cell 2 2
theorem Ph_law_cell_len (ds : List PyData) (z : PyData) (h : Ph_law_cell ds = some z) : ds.length = 2 := runP_len ds z h
theorem ok_law_cell (T : Wd P K mg base) : FnOk P w K mg base CX0 1 T.a_law_cell T.fd_law_cell (["_law_script", "_law_place"] : List Str) (spP K 2 Ph_law_cell) := by
  have key := okP (ca := Tb.ca) (P := P) (w := w) (mg := mg) (base := base) (k := 0) (n := 2) T.F_law_cell sc_law_cell rfl fun cdv A outer s H E hr => (have nd := sc_law_cell.nd; dss_cons (ds_if (dt_cmp op_lt o2_B (de_v 1) (de_B call_lenG oA_len (by rfl) T.b_len PySem.boot_len (da_cons (de_v 0) (da_nil))) (nomark _)) (dss_one (ds_ret (de_ix ix_seq o2_ix (de_v 0) (de_v 1) (fun _ _ => rfl)))) (dss_nil))
    (dss_one (ds_ret (de_int))))
  exact key
abbrev s_law_lift : Stmt := topS 20
theorem sc_law_lift : FnScope (["_law_well_here", "_law_many", "_law_lifted", "_law_stirred"] : List Str) (["_law_well_here", "_law_many"] : List Str) (defScope s_law_lift) := ⟨rfl, rfl, rfl, by decide +kernel, rfl, by decide +kernel, by decide +kernel⟩
noncomputable def dn_law_lift : Fs :=
  sSeq (sIf (tB' (e2 gGt (eIxV 0 (eC (.int 0))) (eC (.int 0)))) (sSeq (sSet (e2 gMod (eA gInt (lCons (eIxV 0 (eC (.int 0))) (lNil))) (eV 1)) (g1 2))
  (sSeq (sPut 0 (eC (.int 0)) (e2 gFdiv (eIxV 0 (eC (.int 0))) (eV 1)))
  (sRt (eV 2)))) (sNx))
  (sSeq (sPut 0 (eC (.int 2)) (e2 gAdd (eIxV 0 (eC (.int 2))) (eC (.int 1))))
  (sSeq (sSet (e2 gMod (eA gInt (lCons (e2 gPow (e2 gAdd (eIxV 0 (eC (.int 1))) (e2 gMulI (eIxV 0 (eC (.int 2))) (eC (.int 22801763489)))) (eC (.int 3))) (lNil))) (e2 gAdd (e2 gPow (eC (.int 10)) (eC (.int 28))) (eC (.int 331)))) (g1 3))
  (sRt (e2 gMod (e2 gFdiv (e2 gMod (eA gInt (lCons (e2 gAdd (e2 gPow (eV 3) (eC (.int 2))) (e2 gFdiv (eV 3) (eC (.int 8699)))) (lNil))) (e2 gAdd (e2 gPow (eC (.int 10)) (eC (.int 24))) (eC (.int 7)))) (eC (.int 12007))) (eV 1)))))
noncomputable def Ph_law_lift := runM dn_law_lift 4 2
theorem Ph_law_lift_len (ks ds : List PyData) (z : PyData × List PyData) (h : Ph_law_lift ks ds = some z) : ds.length + 1 = 2 := runM_len ks ds z h
theorem ok_law_lift (T : Wd P K mg base) : FnOk P w K mg base CX0 1 T.a_law_lift T.fd_law_lift (["_law_well_here", "_law_many"] : List Str) (spM K 2 Ph_law_lift) := by
  have key := okM (ca := Tb.ca) (P := P) (w := w) (mg := mg) (base := base) (k := 0) (n := 2) T.F_law_lift sc_law_lift rfl fun cdv A outer s H E hr => (have nd := sc_law_lift.nd; dss_cons (ds_if (dt_cmp op_gt o2_B (de_ixV 0 (de_int)) (de_int) (nomark _)) (dss_cons (ds_set 2 nd (de_op op_modN o2_mod (de_T call_int1 oA_int (by rfl) T.b_int (by decide +kernel) (da_cons (de_ixV 0 (de_int)) (da_nil))) (de_v 1)))
    (dss_cons (ds_put 0 (de_op op_fdivG o2_fdiv (de_ixV 0 (de_int)) (de_v 1)) (de_int))
    (dss_one (ds_ret (de_v 2))))) (dss_nil))
    (dss_cons (ds_put 0 (de_op op_addG o2_add (de_ixV 0 (de_int)) (de_int)) (de_int))
    (dss_cons (ds_set 3 nd (de_op op_modN o2_mod (de_T call_int1 oA_int (by rfl) T.b_int (by decide +kernel) (da_cons (de_op op_powG o2_pow (de_op op_addG o2_add (de_ixV 0 (de_int)) (de_op op_mulG o2_mulI (de_ixV 0 (de_int)) (de_int))) (de_int)) (da_nil))) (de_op op_addG o2_add (de_op op_powG o2_pow (de_int) (de_int)) (de_int))))
    (dss_one (ds_ret (de_op op_modN o2_mod (de_op op_fdivG o2_fdiv (de_op op_modN o2_mod (de_T call_int1 oA_int (by rfl) T.b_int (by decide +kernel) (da_cons (de_op op_addG o2_add (de_op op_powG o2_pow (de_v 3) (de_int)) (de_op op_fdivG o2_fdiv (de_v 3) (de_int))) (da_nil))) (de_op op_addG o2_add (de_op op_powG o2_pow (de_int) (de_int)) (de_int))) (de_int)) (de_v 1)))))))
  exact key
abbrev s_law_pair : Stmt := topS 30
theorem sc_law_pair : FnScope (["_law_well_here", "_law_many", "_law_first"] : List Str) (["_law_well_here", "_law_many"] : List Str) (defScope s_law_pair) := ⟨rfl, rfl, rfl, by decide +kernel, rfl, by decide +kernel, by decide +kernel⟩
noncomputable def dn_law_pair : Fs :=
  sSeq (sSet (eM 0 Ph_law_lift (lCons (eV 1) (lNil))) (g1 2))
  (sRt (eTup (lCons (eV 2) (lCons (e2 gMod (eA gInt (lCons (e2 gAdd (e2 gAdd (eV 2) (eC (.int 1))) (eM 0 Ph_law_lift (lCons (e2 gSub (eV 1) (eC (.int 1))) (lNil)))) (lNil))) (eV 1)) (lNil)))))
noncomputable def Ph_law_pair := runM dn_law_pair 3 2
theorem Ph_law_pair_len (ks ds : List PyData) (z : PyData × List PyData) (h : Ph_law_pair ks ds = some z) : ds.length + 1 = 2 := runM_len ks ds z h
theorem ok_law_pair (T : Wd P K mg base) : FnOk P w K mg base CX0 2 T.a_law_pair T.fd_law_pair (["_law_well_here", "_law_many"] : List Str) (spM K 2 Ph_law_pair) := by
  have key := okM (ca := Tb.ca) (P := P) (w := w) (mg := mg) (base := base) (k := 1) (n := 2) T.F_law_pair sc_law_pair rfl fun cdv A outer s H E hr => (have nd := sc_law_pair.nd; dss_cons (ds_set 2 nd (de_callM 0 (ok_law_lift T) Ph_law_lift_len (hr.mono (by decide)) (by rfl) T.m_law_lift T.F_law_lift.kp T.n_law_lift (da_cons (de_v 1) (da_nil))))
    (dss_one (ds_ret (de_tup (da_cons (de_v 2) (da_cons (de_op op_modN o2_mod (de_T call_int1 oA_int (by rfl) T.b_int (by decide +kernel) (da_cons (de_op op_addG o2_add (de_op op_addG o2_add (de_v 2) (de_int)) (de_callM 0 (ok_law_lift T) Ph_law_lift_len (hr.mono (by decide)) (by rfl) T.m_law_lift T.F_law_lift.kp T.n_law_lift (da_cons (de_op op_sub o2_sub (de_v 1) (de_int)) (da_nil)))) (da_nil))) (de_v 1)) (da_nil)))))))
  exact key
abbrev s_law_turned : Stmt := topS 25
theorem sc_law_turned : FnScope (["_law_well_here", "_law_entries", "_law_left", "_law_found"] : List Str) (["_law_well_here", "_law_entries"] : List Str) (defScope s_law_turned) := ⟨rfl, rfl, rfl, by decide +kernel, rfl, by decide +kernel, by decide +kernel⟩
noncomputable def wt_law_turned_1 : Ft :=
  tNeO 2 (eF (lLst (lNil)))
noncomputable def wb_law_turned_1 : Fs :=
  sApp 3 (ePopAt 2 (eM 0 Ph_law_lift (lCons (eLenV 2) (lNil))))
noncomputable def dn_law_turned : Fs :=
  sSeq (sOwn (lOf (lCons (eV 1) (lNil))) 2)
  (sSeq (sOwn (lLst (lNil)) 3)
  (sSeq (sWh (wt_law_turned_1) (wb_law_turned_1))
  (sFrz 3 (sRt (eV 3)))))
noncomputable def Ph_law_turned := runM dn_law_turned 4 2
theorem Ph_law_turned_len (ks ds : List PyData) (z : PyData × List PyData) (h : Ph_law_turned ks ds = some z) : ds.length + 1 = 2 := runM_len ks ds z h
theorem ok_law_turned (T : Wd P K mg base) : FnOk P w K mg base CX0 2 T.a_law_turned T.fd_law_turned (["_law_well_here", "_law_entries"] : List Str) (spM K 2 Ph_law_turned) := by
  have key := okM (ca := Tb.ca) (P := P) (w := w) (mg := mg) (base := base) (k := 1) (n := 2) T.F_law_turned sc_law_turned rfl fun cdv A outer s H E hr => (have nd := sc_law_turned.nd; dss_cons (ds_own 2 nd (df_listOf (by rfl) T.b_list (da_cons (de_v 1) (da_nil))))
    (dss_cons (ds_own 3 nd (df_lst (da_nil)))
    (dss_cons (ds_while (dt_neO 2 (hu64 hr) (de_f (df_lst (da_nil)))) (dss_one (ds_app 3 (de_popAt 2 (de_callM 0 (ok_law_lift T) Ph_law_lift_len (hr.mono (by decide)) (by rfl) T.m_law_lift T.F_law_lift.kp T.n_law_lift (da_cons (de_lenV 2 (by rfl) T.b_len) (da_nil)))))))
    (dss_one (ds_frz 3 (ds_ret (de_v 3)))))))
  exact key
abbrev s_law_all_pairs : Stmt := topS 31
theorem sc_law_all_pairs : FnScope (["_law_well_here", "_law_many", "_law_blocks", "_law_listed", "_law_merged", "_law_k", "_law_partners", "_law_first", "_law_second", "_law_cask"] : List Str) (["_law_well_here", "_law_many"] : List Str) (defScope s_law_all_pairs) := ⟨rfl, rfl, rfl, by decide +kernel, rfl, by decide +kernel, by decide +kernel⟩
noncomputable def ce_law_all_pairs_1 : Fe :=
  eF (lLst (lCons (eV 9) (lNil)))
noncomputable def lp_law_all_pairs_1 : Fs :=
  sApp 3 (eTup (lCons (eV 7) (lCons (eV 8) (lNil))))
noncomputable def lp_law_all_pairs_2 : Fs :=
  sSeq (sSet (eM 0 Ph_law_turned (lCons (e2 gIx (eV 2) (e2 gAdd (eV 5) (eC (.int 1)))) (lNil))) (g1 6))
  (sSeq (sFor (iZp (lCons (e2 gIx (eV 2) (eV 5)) (lCons (eV 6) (lNil)))) (g2 2 (gsC (g1 7) (gsC (g1 8) (gsN)))) (lp_law_all_pairs_1))
  (sApp 4 (e2 gAdd (e2 gIx (eV 2) (eV 5)) (eV 6))))
noncomputable def wt_law_all_pairs_1 : Ft :=
  tB' (e2 gGt (eA gLen (lCons (eV 2) (lNil))) (eC (.int 1)))
noncomputable def wb_law_all_pairs_1 : Fs :=
  sSeq (sOwn (lLst (lNil)) 4)
  (sSeq (sFor (iR2s (lCons (eC (.int 0)) (lCons (eA gLen (lCons (eV 2) (lNil))) (lCons (eC (.int 2)) (lNil))))) (g1 5) (lp_law_all_pairs_2))
  (sFrz 4 (sSet (eV 4) (g1 2))))
noncomputable def dn_law_all_pairs : Fs :=
  sSeq (sSet (eF (lCm (iSeq (eM 0 Ph_law_turned (lCons (eF (lRg (eV 1))) (lNil)))) (g1 9) (tYs) (ce_law_all_pairs_1) [9])) (g1 2))
  (sSeq (sOwn (lLst (lNil)) 3)
  (sSeq (sWh (wt_law_all_pairs_1) (wb_law_all_pairs_1))
  (sFrz 3 (sRt (eV 3)))))
noncomputable def Ph_law_all_pairs := runM dn_law_all_pairs 10 2
theorem Ph_law_all_pairs_len (ks ds : List PyData) (z : PyData × List PyData) (h : Ph_law_all_pairs ks ds = some z) : ds.length + 1 = 2 := runM_len ks ds z h
theorem ok_law_all_pairs (T : Wd P K mg base) : FnOk P w K mg base CX0 3 T.a_law_all_pairs T.fd_law_all_pairs (["_law_well_here", "_law_many"] : List Str) (spM K 2 Ph_law_all_pairs) := by
  have key := okM (ca := Tb.ca) (P := P) (w := w) (mg := mg) (base := base) (k := 2) (n := 2) T.F_law_all_pairs sc_law_all_pairs rfl fun cdv A outer s H E hr => (have nd := sc_law_all_pairs.nd; dss_cons (ds_setComp (own := [("_law_cask", 9)]) 2 rfl nd (sw_true rfl rfl rfl (by decide +kernel)) (di_seq (de_callM 0 (ok_law_turned T) Ph_law_turned_len (hr.mono (by decide)) (by rfl) T.m_law_turned T.F_law_turned.kp T.n_law_turned (da_cons (de_f (df_listRg rfl (by rfl) T.b_list (by rfl) T.b_range (de_v 1))) (da_nil)))) (blkOk_by (own := [("_law_cask", 9)]) (by kernel_rfl)) (fun _ _ _ _ _ => dg_name 9 nd) (fun _ _ _ _ _ => dts_nil) (fun _ _ _ _ _ => de_f (df_lst (da_cons (de_v 9) (da_nil)))))
    (dss_cons (ds_own 3 nd (df_lst (da_nil)))
    (dss_cons (ds_while (dt_cmp op_gt o2_B (de_B call_lenG oA_len (by rfl) T.b_len PySem.boot_len (da_cons (de_v 2) (da_nil))) (de_int) (nomark _)) (dss_cons (ds_own 4 nd (df_lst (da_nil)))
    (dss_cons (ds_for rfl (di_r2s (by rfl) T.b_range (da_cons (de_int) (da_cons (de_B call_lenG oA_len (by rfl) T.b_len PySem.boot_len (da_cons (de_v 2) (da_nil))) (da_cons (de_int) (da_nil))))) (dg_name 5 nd) (dss_cons (ds_set 6 nd (de_callM 0 (ok_law_turned T) Ph_law_turned_len (hr.mono (by decide)) (by rfl) T.m_law_turned T.F_law_turned.kp T.n_law_turned (da_cons (de_ix ix_seq o2_ix (de_v 2) (de_op op_addG o2_add (de_v 5) (de_int)) (fun _ _ => rfl)) (da_nil))))
    (dss_cons (ds_for rfl (di_zip (by rfl) T.b_zip (da_cons (de_ix ix_seq o2_ix (de_v 2) (de_v 5) (fun _ _ => rfl)) (da_cons (de_v 6) (da_nil)))) (dg_tup (n := 2) rfl (dgs_cons (dg_name 7 nd) (dgs_cons (dg_name 8 nd) (dgs_nil)))) (dss_one (ds_app 3 (de_tup (da_cons (de_v 7) (da_cons (de_v 8) (da_nil)))))))
    (dss_one (ds_app 4 (de_op op_addG o2_add (de_ix ix_seq o2_ix (de_v 2) (de_v 5) (fun _ _ => rfl)) (de_v 6)))))))
    (dss_one (ds_frz 4 (ds_set 2 nd (de_v 4)))))))
    (dss_one (ds_frz 3 (ds_ret (de_v 3)))))))
  exact key
abbrev s_law_pairs : Stmt := topS 32
theorem sc_law_pairs : FnScope (["_law_script", "_law_well_here", "_law_many", "_law_found", "_law_k", "_law_way", "_law_whole", "_law_at"] : List Str) (["_law_script", "_law_well_here", "_law_many"] : List Str) (defScope s_law_pairs) := ⟨rfl, rfl, rfl, by decide +kernel, rfl, by decide +kernel, by decide +kernel⟩
noncomputable def lp_law_pairs_1 : Fs :=
  sApp 3 (eMF2 Ph_law_pair (lA Ph_law_well (lCons (e2 gIx (eV 0) (eV 4)) (lCons (e2 gAdd (eV 4) (eC (.int 70))) (lNil)))) (lCons (eV 2) (lNil)))
noncomputable def dn_law_pairs : Fs :=
  sSeq (sIf (tB' (e2 gEq (eV 2) (eC (.int 1)))) (sRt (eF (lLst (lNil)))) (sNx))
  (sSeq (sOwn (lLst (lNil)) 3)
  (sSeq (sFor (iR2 (lCons (eC (.int 1)) (lCons (eA gMin2 (lCons (eC (.int 25)) (lCons (eA gLen (lCons (eV 0) (lNil))) (lNil)))) (lNil)))) (g1 4) (lp_law_pairs_1))
  (sSeq (sSet (eM 1 Ph_law_lift (lCons (eC (.int 5)) (lNil))) (g1 5))
  (sSeq (sIf (tOrr (tB' (e2 gNinT (eV 2) (eTup (lCons (eC (.int 2)) (lCons (eC (.int 4)) (lCons (eC (.int 8)) (lNil))))))) (tB' (e2 gEq (eV 5) (eC (.int 0))))) (sFrz 3 (sRt (eV 3))) (sNx))
  (sSeq (sSet (eM 1 Ph_law_all_pairs (lCons (eV 2) (lNil))) (g1 6))
  (sSeq (sIf (tB' (e2 gEq (eV 5) (eC (.int 1)))) (sFrz 3 (sRt (e2 gAdd (eV 3) (eV 6)))) (sNx))
  (sSeq (sIf (tB' (e2 gEq (eV 5) (eC (.int 2)))) (sFrz 3 (sRt (e2 gAdd (eV 6) (eV 3)))) (sNx))
  (sSeq (sSet (eM 1 Ph_law_lift (lCons (eA gLen (lCons (eV 6) (lNil))) (lNil))) (g1 7))
  (sSeq (sIf (tB' (e2 gEq (eV 5) (eC (.int 3)))) (sRt (e2 gAdd (eCut (eV 6) (oNo) (oSo (eV 7))) (eCut (eV 6) (oSo (e2 gAdd (eV 7) (eC (.int 1)))) (oNo)))) (sNx))
  (sRt (e2 gAdd (e2 gAdd (eCut (eV 6) (oNo) (oSo (eV 7))) (eF (lLst (lCons (e2 gIx (eV 6) (eV 7)) (lNil))))) (eCut (eV 6) (oSo (eV 7)) (oNo)))))))))))))
noncomputable def Ph_law_pairs := runO dn_law_pairs 8 3
theorem Ph_law_pairs_len (ks ds : List PyData) (z : PyData × List PyData) (h : Ph_law_pairs ks ds = some z) : ds.length + 1 = 3 := runO_len ks ds z h
theorem ok_law_pairs (T : Wd P K mg base) : FnOk P w K mg base CX0 4 T.a_law_pairs T.fd_law_pairs (["_law_script", "_law_well_here", "_law_many"] : List Str) (spO K 3 Ph_law_pairs) := by
  have key := okO (ca := Tb.ca) (P := P) (w := w) (mg := mg) (base := base) (k := 3) (n := 3) T.F_law_pairs sc_law_pairs rfl fun cdv A outer s H E hr => (have nd := sc_law_pairs.nd; dss_cons (ds_if (dt_cmp (op_eqD (hu64 hr)) o2_eq (de_v 2) (de_int) (nomark _)) (dss_one (ds_ret (de_f (df_lst (da_nil))))) (dss_nil))
    (dss_cons (ds_own 3 nd (df_lst (da_nil)))
    (dss_cons (ds_for rfl (di_r2 (by rfl) T.b_range (da_cons (de_int) (da_cons (de_B (call_min2 rfl) oA_min2 (by rfl) T.b_min (by decide +kernel) (da_cons (de_int) (da_cons (de_B call_lenG oA_len (by rfl) T.b_len PySem.boot_len (da_cons (de_v 0) (da_nil))) (da_nil)))) (da_nil)))) (dg_name 4 nd) (dss_one (ds_app 3 (de_callMF2 (ok_law_pair T) Ph_law_pair_len (hr.mono (by decide)) (by rfl) T.m_law_pair T.F_law_pair.kp T.n_law_pair (df_call (ok_law_well T) Ph_law_well_len (hr.mono (by decide)) (by rfl) T.m_law_well T.F_law_well.kp T.n_law_well (da_cons (de_ix ix_seq o2_ix (de_v 0) (de_v 4) (fun _ _ => rfl)) (da_cons (de_op op_addG o2_add (de_v 4) (de_int)) (da_nil)))) (da_cons (de_v 2) (da_nil))))))
    (dss_cons (ds_set 5 nd (de_callM 1 (ok_law_lift T) Ph_law_lift_len (hr.mono (by decide)) (by rfl) T.m_law_lift T.F_law_lift.kp T.n_law_lift (da_cons (de_int) (da_nil))))
    (dss_cons (ds_if (PW.pt (dw_or (dt_cmp (op_notInDT (hu65 hr)) o2_ninT (de_v 2) (de_tup (da_cons (de_int) (da_cons (de_int) (da_cons (de_int) (da_nil))))) (by rfl)) (dw_or1 (dt_cmp (op_eqD (hu64 hr)) o2_eq (de_v 5) (de_int) (nomark _))))) (dss_one (ds_frz 3 (ds_ret (de_v 3)))) (dss_nil))
    (dss_cons (ds_set 6 nd (de_callM 1 (ok_law_all_pairs T) Ph_law_all_pairs_len (hr.mono (by decide)) (by rfl) T.m_law_all_pairs T.F_law_all_pairs.kp T.n_law_all_pairs (da_cons (de_v 2) (da_nil))))
    (dss_cons (ds_if (dt_cmp (op_eqD (hu64 hr)) o2_eq (de_v 5) (de_int) (nomark _)) (dss_one (ds_frz 3 (ds_ret (de_op op_addG o2_add (de_v 3) (de_v 6))))) (dss_nil))
    (dss_cons (ds_if (dt_cmp (op_eqD (hu64 hr)) o2_eq (de_v 5) (de_int) (nomark _)) (dss_one (ds_frz 3 (ds_ret (de_op op_addG o2_add (de_v 6) (de_v 3))))) (dss_nil))
    (dss_cons (ds_set 7 nd (de_callM 1 (ok_law_lift T) Ph_law_lift_len (hr.mono (by decide)) (by rfl) T.m_law_lift T.F_law_lift.kp T.n_law_lift (da_cons (de_B call_lenG oA_len (by rfl) T.b_len PySem.boot_len (da_cons (de_v 6) (da_nil))) (da_nil))))
    (dss_cons (ds_if (dt_cmp (op_eqD (hu64 hr)) o2_eq (de_v 5) (de_int) (nomark _)) (dss_one (ds_ret (de_op op_addG o2_add (de_cut (de_v 6) (do_no) (do_so (de_v 7))) (de_cut (de_v 6) (do_so (de_op op_addG o2_add (de_v 7) (de_int))) (do_no))))) (dss_nil))
    (dss_one (ds_ret (de_op op_addG o2_add (de_op op_addG o2_add (de_cut (de_v 6) (do_no) (do_so (de_v 7))) (de_f (df_lst (da_cons (de_ix ix_seq o2_ix (de_v 6) (de_v 7) (fun _ _ => rfl)) (da_nil))))) (de_cut (de_v 6) (do_so (de_v 7)) (do_no)))))))))))))))
  exact key
abbrev s_law_column : Stmt := topS 33
theorem sc_law_column : FnScope (["_law_many", "_law_listed", "_law_cask", "_law_held", "_law_first", "_law_second", "_law_both", "_law_k"] : List Str) (["_law_many", "_law_listed", "_law_cask"] : List Str) (defScope s_law_column) := ⟨rfl, rfl, rfl, by decide +kernel, rfl, by decide +kernel, by decide +kernel⟩
noncomputable def ce_law_column_1 : Fe :=
  e2 gMulI (e2 gShl (eC (.int 1)) (eA gLen (lCons (eV 1) (lNil)))) (eA gInt (lCons (e2 gEq (eV 7) (eV 2)) (lNil)))
noncomputable def lp_law_column_1 : Fs :=
  sSeq (sSet (e2 gFdiv (e2 gAdd (eIxV 3 (eV 4)) (eIxV 3 (eV 5))) (eC (.int 2))) (g1 6))
  (sSeq (sPut 3 (eV 4) (eV 6))
  (sPut 3 (eV 5) (eV 6)))
noncomputable def dn_law_column : Fs :=
  sSeq (sOwn (lCm (iR1 (lCons (eV 0) (lNil))) (g1 7) (tYs) (ce_law_column_1) [7]) 3)
  (sSeq (sFor (iSeq (eV 1)) (g2 2 (gsC (g1 4) (gsC (g1 5) (gsN)))) (lp_law_column_1))
  (sFrz 3 (sRt (eV 3))))
noncomputable def Ph_law_column := runP dn_law_column 8 3
theorem Ph_law_column_len (ds : List PyData) (z : PyData) (h : Ph_law_column ds = some z) : ds.length = 3 := runP_len ds z h
theorem ok_law_column (T : Wd P K mg base) : FnOk P w K mg base CX0 1 T.a_law_column T.fd_law_column (["_law_many", "_law_listed", "_law_cask"] : List Str) (spP K 3 Ph_law_column) := by
  have key := okP (ca := Tb.ca) (P := P) (w := w) (mg := mg) (base := base) (k := 0) (n := 3) T.F_law_column sc_law_column rfl fun cdv A outer s H E hr => (have nd := sc_law_column.nd; dss_cons (ds_ownComp (own := [("_law_k", 7)]) 3 rfl nd (sw_true rfl rfl rfl (by decide +kernel)) (di_r1 (by rfl) T.b_range (da_cons (de_v 0) (da_nil))) (blkOk_by (own := [("_law_k", 7)]) (by kernel_rfl)) (fun _ _ _ _ _ => dg_name 7 nd) (fun _ _ _ _ _ => dts_nil) (fun _ _ _ _ _ => de_op op_mulG o2_mulI (de_op op_shlG o2_shl (de_int) (de_B call_lenG oA_len (by rfl) T.b_len PySem.boot_len (da_cons (de_v 1) (da_nil)))) (de_T call_int1 oA_int (by rfl) T.b_int (by decide +kernel) (da_cons (de_cmp (op_eqD (hu64 hr)) o2_eq (de_v 7) (de_v 2) (nomark _)) (da_nil)))))
    (dss_cons (ds_for rfl (di_seq (de_v 1)) (dg_tup (n := 2) rfl (dgs_cons (dg_name 4 nd) (dgs_cons (dg_name 5 nd) (dgs_nil)))) (dss_cons (ds_set 6 nd (de_op op_fdivG o2_fdiv (de_op op_addG o2_add (de_ixV 3 (de_v 4)) (de_ixV 3 (de_v 5))) (de_int)))
    (dss_cons (ds_put 3 (de_v 6) (de_v 4))
    (dss_one (ds_put 3 (de_v 6) (de_v 5))))))
    (dss_one (ds_frz 3 (ds_ret (de_v 3))))))
  exact key
abbrev s_law_divisor : Stmt := topS 22
theorem sc_law_divisor : FnScope (["_law_great", "_law_small"] : List Str) (["_law_great", "_law_small"] : List Str) (defScope s_law_divisor) := ⟨rfl, rfl, rfl, by decide +kernel, rfl, by decide +kernel, by decide +kernel⟩
noncomputable def wt_law_divisor_1 : Ft :=
  tB' (e2 gGt (eV 1) (eC (.int 0)))
noncomputable def wb_law_divisor_1 : Fs :=
  sPar 0 1 (lCons (eV 1) (lCons (e2 gMod (eA gInt (lCons (eV 0) (lNil))) (eV 1)) (lNil)))
noncomputable def dn_law_divisor : Fs :=
  sSeq (sWh (wt_law_divisor_1) (wb_law_divisor_1))
  (sRt (eV 0))
noncomputable def Ph_law_divisor := runP dn_law_divisor 2 2
theorem Ph_law_divisor_len (ds : List PyData) (z : PyData) (h : Ph_law_divisor ds = some z) : ds.length = 2 := runP_len ds z h
theorem ok_law_divisor (T : Wd P K mg base) : FnOk P w K mg base CX0 1 T.a_law_divisor T.fd_law_divisor (["_law_great", "_law_small"] : List Str) (spP K 2 Ph_law_divisor) := by
  have key := okP (ca := Tb.ca) (P := P) (w := w) (mg := mg) (base := base) (k := 0) (n := 2) T.F_law_divisor sc_law_divisor rfl fun cdv A outer s H E hr => (have nd := sc_law_divisor.nd; dss_cons (ds_while (dt_cmp op_gt o2_B (de_v 1) (de_int) (nomark _)) (dss_one (ds_par 0 1 rfl nd (da_cons (de_v 1) (da_cons (de_op op_modN o2_mod (de_T call_int1 oA_int (by rfl) T.b_int (by decide +kernel) (da_cons (de_v 0) (da_nil))) (de_v 1)) (da_nil))))))
    (dss_one (ds_ret (de_v 0))))
  exact key
abbrev s_law_fraction : Stmt := topS 23
theorem sc_law_fraction : FnScope (["_law_above", "_law_below", "_law_shared"] : List Str) (["_law_above", "_law_below"] : List Str) (defScope s_law_fraction) := ⟨rfl, rfl, rfl, by decide +kernel, rfl, by decide +kernel, by decide +kernel⟩
noncomputable def dn_law_fraction : Fs :=
  sSeq (sSet (eA Ph_law_divisor (lCons (eA gMax2 (lCons (eV 0) (lCons (e2 gSub (eC (.int 0)) (eV 0)) (lNil)))) (lCons (eV 1) (lNil)))) (g1 2))
  (sRt (eTup (lCons (e2 gFdiv (eV 0) (eV 2)) (lCons (e2 gFdiv (eV 1) (eV 2)) (lNil)))))
noncomputable def Ph_law_fraction := runP dn_law_fraction 3 2
theorem Ph_law_fraction_len (ds : List PyData) (z : PyData) (h : Ph_law_fraction ds = some z) : ds.length = 2 := runP_len ds z h
theorem ok_law_fraction (T : Wd P K mg base) : FnOk P w K mg base CX0 2 T.a_law_fraction T.fd_law_fraction (["_law_above", "_law_below"] : List Str) (spP K 2 Ph_law_fraction) := by
  have key := okP (ca := Tb.ca) (P := P) (w := w) (mg := mg) (base := base) (k := 1) (n := 2) T.F_law_fraction sc_law_fraction rfl fun cdv A outer s H E hr => (have nd := sc_law_fraction.nd; dss_cons (ds_set 2 nd (de_call (ok_law_divisor T) Ph_law_divisor_len (hr.mono (by decide)) (by rfl) T.m_law_divisor T.F_law_divisor.kp T.n_law_divisor (da_cons (de_B (call_max2 rfl) oA_max2 (by rfl) T.b_max (by decide +kernel) (da_cons (de_v 0) (da_cons (de_op op_sub o2_sub (de_int) (de_v 0)) (da_nil)))) (da_cons (de_v 1) (da_nil)))))
    (dss_one (ds_ret (de_tup (da_cons (de_op op_fdivG o2_fdiv (de_v 0) (de_v 2)) (da_cons (de_op op_fdivG o2_fdiv (de_v 1) (de_v 2)) (da_nil)))))))
  exact key
abbrev s_law_table : Stmt := topS 34
theorem sc_law_table : FnScope (["_law_many", "_law_listed", "_law_columns", "_law_whole", "_law_rows", "_law_cask", "_law_column_here"] : List Str) (["_law_many", "_law_listed"] : List Str) (defScope s_law_table) := ⟨rfl, rfl, rfl, by decide +kernel, rfl, by decide +kernel, by decide +kernel⟩
noncomputable def ce_law_table_1 : Fe :=
  eA Ph_law_column (lCons (eV 0) (lCons (eV 1) (lCons (eV 5) (lNil))))
noncomputable def ce_law_table_2 : Fe :=
  eA Ph_law_fraction (lCons (e2 gIx (eV 6) (eV 5)) (lCons (eV 3) (lNil)))
noncomputable def lp_law_table_1 : Fs :=
  sApp 4 (eA gTup (lCons (eF (lCm (iSeq (eV 2)) (g1 6) (tYs) (ce_law_table_2) [6])) (lNil)))
noncomputable def dn_law_table : Fs :=
  sSeq (sSet (eF (lCm (iR1 (lCons (eV 0) (lNil))) (g1 5) (tYs) (ce_law_table_1) [5])) (g1 2))
  (sSeq (sSet (e2 gShl (eC (.int 1)) (eA gLen (lCons (eV 1) (lNil)))) (g1 3))
  (sSeq (sOwn (lLst (lNil)) 4)
  (sSeq (sFor (iR1 (lCons (eV 0) (lNil))) (g1 5) (lp_law_table_1))
  (sFrz 4 (sRt (eA gTup (lCons (eV 4) (lNil))))))))
noncomputable def Ph_law_table := runP dn_law_table 7 2
theorem Ph_law_table_len (ds : List PyData) (z : PyData) (h : Ph_law_table ds = some z) : ds.length = 2 := runP_len ds z h
theorem ok_law_table (T : Wd P K mg base) : FnOk P w K mg base CX0 3 T.a_law_table T.fd_law_table (["_law_many", "_law_listed"] : List Str) (spP K 2 Ph_law_table) := by
  have key := okP (ca := Tb.ca) (P := P) (w := w) (mg := mg) (base := base) (k := 2) (n := 2) T.F_law_table sc_law_table rfl fun cdv A outer s H E hr => (have nd := sc_law_table.nd; dss_cons (ds_setComp (own := [("_law_cask", 5)]) 2 rfl nd (sw_true rfl rfl rfl (by decide +kernel)) (di_r1 (by rfl) T.b_range (da_cons (de_v 0) (da_nil))) (blkOk_by (own := [("_law_cask", 5)]) (by kernel_rfl)) (fun _ _ _ _ _ => dg_name 5 nd) (fun _ _ _ _ _ => dts_nil) (fun _ _ _ _ _ => de_call (ok_law_column T) Ph_law_column_len (hr.mono (by decide)) (by rfl) T.m_law_column T.F_law_column.kp T.n_law_column (da_cons (de_v 0) (da_cons (de_v 1) (da_cons (de_v 5) (da_nil))))))
    (dss_cons (ds_set 3 nd (de_op op_shlG o2_shl (de_int) (de_B call_lenG oA_len (by rfl) T.b_len PySem.boot_len (da_cons (de_v 1) (da_nil)))))
    (dss_cons (ds_own 4 nd (df_lst (da_nil)))
    (dss_cons (ds_for rfl (di_r1 (by rfl) T.b_range (da_cons (de_v 0) (da_nil))) (dg_name 5 nd) (dss_one (ds_app 4 (de_T call_tuple_of oA_tup (by rfl) T.b_tuple (by decide +kernel) (da_cons (de_f (df_comp (own := [("_law_column_here", 6)]) rfl nd (di_seq (de_v 2)) (blkOk_by (own := [("_law_column_here", 6)]) (by kernel_rfl)) (fun _ _ _ _ _ => dg_name 6 nd) (fun _ _ _ _ _ => dts_nil) (fun _ _ _ _ _ => de_call (ok_law_fraction T) Ph_law_fraction_len (hr.mono (by decide)) (by rfl) T.m_law_fraction T.F_law_fraction.kp T.n_law_fraction (da_cons (de_ix ix_seq o2_ix (de_v 6) (de_v 5) (fun _ _ => rfl)) (da_cons (de_v 3) (da_nil)))))) (da_nil))))))
    (dss_one (ds_frz 4 (ds_ret (de_T call_tuple_of oA_tup (by rfl) T.b_tuple (by decide +kernel) (da_cons (de_v 4) (da_nil))))))))))
  exact key
abbrev s_law_same : Stmt := topS 24
theorem sc_law_same : FnScope (["_law_told", "_law_due"] : List Str) (["_law_told", "_law_due"] : List Str) (defScope s_law_same) := ⟨rfl, rfl, rfl, by decide +kernel, rfl, by decide +kernel, by decide +kernel⟩
noncomputable def dn_law_same : Fs :=
  sRt (eAn (e2 gEq (eV 0) (eV 1)) (e2 gRepEq (eV 0) (eV 1)))
noncomputable def Ph_law_same := runP dn_law_same 2 2
theorem Ph_law_same_len (ds : List PyData) (z : PyData) (h : Ph_law_same ds = some z) : ds.length = 2 := runP_len ds z h
theorem ok_law_same (T : Wd P K mg base) : FnOk P w K mg base CX0 1 T.a_law_same T.fd_law_same (["_law_told", "_law_due"] : List Str) (spP K 2 Ph_law_same) := by
  have key := okP (ca := Tb.ca) (P := P) (w := w) (mg := mg) (base := base) (k := 0) (n := 2) T.F_law_same sc_law_same rfl fun cdv A outer s H E hr => (have nd := sc_law_same.nd; dss_one (ds_ret (de_and (de_cmp (op_eqD (hu64 hr)) o2_eq (de_v 0) (de_v 1) (nomark _)) (de_one (de_repEq (by rfl) T.b_repr hr.gd (hu80 hr) (de_v 0) (de_v 1))))))
  exact key
abbrev s_is_integer : Stmt := topS 8
theorem sc_is_integer : FnScope (["value"] : List Str) (["value"] : List Str) (defScope s_is_integer) := ⟨rfl, rfl, rfl, by decide +kernel, rfl, by decide +kernel, by decide +kernel⟩
noncomputable def dn_is_integer : Fs :=
  sRt (eAn (eIs "int" (eV 0)) (eNo (eIs "bool" (eV 0))))
noncomputable def Ph_is_integer := runP dn_is_integer 1 1
theorem Ph_is_integer_len (ds : List PyData) (z : PyData) (h : Ph_is_integer ds = some z) : ds.length = 1 := runP_len ds z h
theorem ok_is_integer (T : Wd P K mg base) : FnOk P w K mg base CX0 1 T.a_is_integer T.fd_is_integer (["value"] : List Str) (spP K 1 Ph_is_integer) := by
  have key := okP (ca := Tb.ca) (P := P) (w := w) (mg := mg) (base := base) (k := 0) (n := 1) T.F_is_integer sc_is_integer rfl fun cdv A outer s H E hr => (have nd := sc_is_integer.nd; dss_one (ds_ret (de_and (de_isi isT_int (by rfl) T.b_isinstance (by rfl) T.b_int (by decide +kernel) (de_v 0)) (de_one (de_not (de_isi isT_bool (by rfl) T.b_isinstance (by rfl) T.b_bool (by decide +kernel) (de_v 0)))))))
  exact key
abbrev s_anew : Stmt := topS 7
theorem sc_anew : FnScope (["value", "part"] : List Str) (["value"] : List Str) (defScope s_anew) := ⟨rfl, rfl, rfl, by decide +kernel, rfl, by decide +kernel, by decide +kernel⟩
noncomputable def ce_anew_1 (rr : List PyData → Option PyData) : Fe :=
  eA rr (lCons (eV 1) (lNil))
noncomputable def ce_anew_2 (rr : List PyData → Option PyData) : Fe :=
  eA rr (lCons (eV 1) (lNil))
noncomputable def dna_anew (rr : List PyData → Option PyData) : Fs :=
  sSeq (sIf (tTr (eIs "list" (eV 0))) (sRt (eF (lCm (iSeq (eV 0)) (g1 1) (tYs) ((ce_anew_1 rr)) [1]))) (sNx))
  (sSeq (sIf (tTr (eIs "tuple" (eV 0))) (sRt (eA gTup (lCons (eF (lCm (iSeq (eV 0)) (g1 1) (tYs) ((ce_anew_2 rr)) [1])) (lNil)))) (sNx))
  (sRt (eScal (eV 0))))
noncomputable def Pha_anew : Nat → List PyData → Option PyData
  | 0 => fun _ => none
  | r + 1 => runA (dna_anew (Pha_anew r)) 2 1
theorem Pha_anew_len : ∀ (r : Nat) (ds : List PyData) (z : PyData), Pha_anew r ds = some z → ds.length = 1
  | 0, _, _, h => by cases h
  | r + 1, ds, z, h => runA_len ds z h
theorem oka_anew (T : Wd P K mg base) : ∀ r : Nat, FnOk P w K mg base CX0 (1 + r) T.a_anew T.fd_anew (["value"] : List Str) (spA K 1 (Pha_anew r))
  | 0 => okNone (by intro vs H Q E h; obtain ⟨F, ds, d, h1, _⟩ := h; rw [h1]; rfl) fun vs H Q E h => by obtain ⟨F, ds, d, _, _, _, h4, _⟩ := h; cases h4
  | r + 1 => by
    have IH := oka_anew T r
    have key := okA (P := P) (w := w) (mg := mg) (base := base) (k := 1 + r) (n := 1) T.F_anew sc_anew rfl fun cdv A outer s H E hr => (have nd := sc_anew.nd; dssA (dt_tru (de_isi isT_list (by rfl) T.b_isinstance (by rfl) T.b_list (by decide +kernel) (de_v 0))) (deN_f (dfN_comp (own := [("part", 1)]) rfl nd (di_seq (de_v 0)) (blkOk_by (own := [("part", 1)]) (by kernel_rfl)) (fun _ _ _ _ _ => dg_name 1 nd) (fun _ _ _ _ _ => dts_nil) (fun _ _ _ _ _ => deN_call IH (Pha_anew_len r) (hr.mono (by omega)) (by rfl) T.m_anew T.F_anew.kp T.n_anew (da_cons (de_v 1) (da_nil))))) (dt_tru (de_isi isT_tuple (by rfl) T.b_isinstance (by rfl) T.b_tuple (by decide +kernel) (de_v 0))) (deN_tupF (by rfl) T.b_tuple (dfN_comp (own := [("part", 1)]) rfl nd (di_seq (de_v 0)) (blkOk_by (own := [("part", 1)]) (by kernel_rfl)) (fun _ _ _ _ _ => dg_name 1 nd) (fun _ _ _ _ _ => dts_nil) (fun _ _ _ _ _ => deN_call IH (Pha_anew_len r) (hr.mono (by omega)) (by rfl) T.m_anew T.F_anew.kp T.n_anew (da_cons (de_v 1) (da_nil))))) (de_v 0))
    exact key
abbrev s_need_count : Stmt := topS 9
theorem sc_need_count : FnScope (["number", "low", "high"] : List Str) (["number", "low", "high"] : List Str) (defScope s_need_count) := ⟨rfl, rfl, rfl, by decide +kernel, rfl, by decide +kernel, by decide +kernel⟩
noncomputable def dnx_need_count : Fs :=
  sIf (tOrr (tNo (tTr (eA Ph_is_integer (lCons (eV 0) (lNil))))) (tNo (tB' (eCh gLe gLe (eV 1) (eV 0) (eV 2))))) (sRaise "InvalidNumber" (eA (Pha_anew 8) (lCons (eV 0) (lNil)))) (sNx)
noncomputable def Phx_need_count := runX dnx_need_count 3 3
theorem Phx_need_count_len (ds : List PyData) (z : Xo) (h : Phx_need_count ds = some z) : ds.length = 3 := runX_len ds z h
theorem okx_need_count (T : Wd P K mg base) : FnOk P w K mg base (L2.CX P w) 10 T.a_need_count T.fd_need_count (["number", "low", "high"] : List Str) (spXn K Tb.ca 3 Phx_need_count) := by
  have key := okXn (ca := Tb.ca) (P := P) (w := w) (mg := mg) (base := base) (k := 9) (n := 3) T.F_need_count sc_need_count rfl fun cdv A outer s H E hr => (have nd := sc_need_count.nd; dss_one (ds_if (PW.pt (dw_or (dt_not (dt_tru (de_call (ok_is_integer T) Ph_is_integer_len (hr.mono (by decide)) (by rfl) T.m_is_integer T.F_is_integer.kp T.n_is_integer (da_cons (de_v 0) (da_nil))))) (dw_or1 (dt_not (dt_chain op_le o2_B op_le o2_B (de_v 1) (de_v 0) (de_v 2)))))) (dss_one (ds_raiseN rfl (takes_of rfl rfl rfl rfl) T.xt_InvalidNumber T.xg_InvalidNumber hr (by rfl) (deN_call (oka_anew T 8) (Pha_anew_len 8) (hr.mono (by decide)) (by rfl) T.m_anew T.F_anew.kp T.n_anew (da_cons (de_v 0) (da_nil))))) (dss_nil)))
  exact key
noncomputable def dn_need_count : Fs :=
  sIf (tOrr (tNo (tTr (eA Ph_is_integer (lCons (eV 0) (lNil))))) (tNo (tB' (eCh gLe gLe (eV 1) (eV 0) (eV 2))))) (sNever) (sNx)
noncomputable def Ph_need_count := runP dn_need_count 3 3
theorem Ph_need_count_len (ds : List PyData) (z : PyData) (h : Ph_need_count ds = some z) : ds.length = 3 := runP_len ds z h
theorem ok_need_count (T : Wd P K mg base) : FnOk P w K mg base CX0 10 T.a_need_count T.fd_need_count (["number", "low", "high"] : List Str) (spP K 3 Ph_need_count) := by
  have key := okP (ca := Tb.ca) (P := P) (w := w) (mg := mg) (base := base) (k := 9) (n := 3) T.F_need_count sc_need_count rfl fun cdv A outer s H E hr => (have nd := sc_need_count.nd; dss_one (ds_if (PW.pt (dw_or (dt_not (dt_tru (de_call (ok_is_integer T) Ph_is_integer_len (hr.mono (by decide)) (by rfl) T.m_is_integer T.F_is_integer.kp T.n_is_integer (da_cons (de_v 0) (da_nil))))) (dw_or1 (dt_not (dt_chain op_le o2_B op_le o2_B (de_v 1) (de_v 0) (de_v 2)))))) (dss_one (ds_never)) (dss_nil)))
  exact key
abbrev s_is_pair : Stmt := topS 13
theorem sc_is_pair : FnScope (["value", "casks"] : List Str) (["value", "casks"] : List Str) (defScope s_is_pair) := ⟨rfl, rfl, rfl, by decide +kernel, rfl, by decide +kernel, by decide +kernel⟩
noncomputable def dn_is_pair : Fs :=
  sSeq (sIf (tOrr (tNo (tTr (eIs "tuple" (eV 0)))) (tB' (e2 gNe (eA gLen (lCons (eV 0) (lNil))) (eC (.int 2))))) (sRt (eC (.bool false))) (sNx))
  (sSeq (sIf (tOrr (tNo (tTr (eA Ph_is_integer (lCons (e2 gIx (eV 0) (eC (.int 0))) (lNil))))) (tNo (tTr (eA Ph_is_integer (lCons (e2 gIx (eV 0) (eC (.int 1))) (lNil)))))) (sRt (eC (.bool false))) (sNx))
  (sRt (eAn (eCh gLe gLt (eC (.int 0)) (e2 gIx (eV 0) (eC (.int 0))) (eV 1)) (eAn (eCh gLe gLt (eC (.int 0)) (e2 gIx (eV 0) (eC (.int 1))) (eV 1)) (e2 gNe (e2 gIx (eV 0) (eC (.int 0))) (e2 gIx (eV 0) (eC (.int 1))))))))
noncomputable def Ph_is_pair := runP dn_is_pair 2 2
theorem Ph_is_pair_len (ds : List PyData) (z : PyData) (h : Ph_is_pair ds = some z) : ds.length = 2 := runP_len ds z h
theorem ok_is_pair (T : Wd P K mg base) : FnOk P w K mg base CX0 2 T.a_is_pair T.fd_is_pair (["value", "casks"] : List Str) (spP K 2 Ph_is_pair) := by
  have key := okP (ca := Tb.ca) (P := P) (w := w) (mg := mg) (base := base) (k := 1) (n := 2) T.F_is_pair sc_is_pair rfl fun cdv A outer s H E hr => (have nd := sc_is_pair.nd; dss_cons (ds_if (PW.pt (dw_or (dt_not (dt_tru (de_isi isT_tuple (by rfl) T.b_isinstance (by rfl) T.b_tuple (by decide +kernel) (de_v 0)))) (dw_or1 (dt_cmp (op_neD (hu64 hr)) o2_ne (de_B call_lenG oA_len (by rfl) T.b_len PySem.boot_len (da_cons (de_v 0) (da_nil))) (de_int) (nomark _))))) (dss_one (ds_ret (de_bl))) (dss_nil))
    (dss_cons (ds_if (PW.pt (dw_or (dt_not (dt_tru (de_call (ok_is_integer T) Ph_is_integer_len (hr.mono (by decide)) (by rfl) T.m_is_integer T.F_is_integer.kp T.n_is_integer (da_cons (de_ix ix_seq o2_ix (de_v 0) (de_int) (fun _ _ => rfl)) (da_nil))))) (dw_or1 (dt_not (dt_tru (de_call (ok_is_integer T) Ph_is_integer_len (hr.mono (by decide)) (by rfl) T.m_is_integer T.F_is_integer.kp T.n_is_integer (da_cons (de_ix ix_seq o2_ix (de_v 0) (de_int) (fun _ _ => rfl)) (da_nil)))))))) (dss_one (ds_ret (de_bl))) (dss_nil))
    (dss_one (ds_ret (de_and (de_chain op_le o2_B op_lt o2_B (de_int) (de_ix ix_seq o2_ix (de_v 0) (de_int) (fun _ _ => rfl)) (de_v 1)) (de_and (de_chain op_le o2_B op_lt o2_B (de_int) (de_ix ix_seq o2_ix (de_v 0) (de_int) (fun _ _ => rfl)) (de_v 1)) (de_one (de_cmp (op_neD (hu64 hr)) o2_ne (de_ix ix_seq o2_ix (de_v 0) (de_int) (fun _ _ => rfl)) (de_ix ix_seq o2_ix (de_v 0) (de_int) (fun _ _ => rfl)) (nomark _)))))))))
  exact key
abbrev s_need_pairs : Stmt := topS 14
theorem sc_need_pairs : FnScope (["casks", "pairs", "pair"] : List Str) (["casks", "pairs"] : List Str) (defScope s_need_pairs) := ⟨rfl, rfl, rfl, by decide +kernel, rfl, by decide +kernel, by decide +kernel⟩
noncomputable def lpx_need_pairs_1 : Fs :=
  sIf (tNo (tTr (eA Ph_is_pair (lCons (eV 2) (lCons (eV 0) (lNil)))))) (sRaise "InvalidDeed" (eA (Pha_anew 8) (lCons (eV 2) (lNil)))) (sNx)
noncomputable def dnx_need_pairs : Fs :=
  sSeq (sExX (xA Phx_need_count (lCons (eV 0) (lCons (eC (.int 1)) (lCons (eC (.int 8)) (lNil))))))
  (sFor (iSeq (eV 1)) (g1 2) (lpx_need_pairs_1))
noncomputable def Phx_need_pairs := runX dnx_need_pairs 3 2
theorem Phx_need_pairs_len (ds : List PyData) (z : Xo) (h : Phx_need_pairs ds = some z) : ds.length = 2 := runX_len ds z h
theorem okx_need_pairs (T : Wd P K mg base) : FnOk P w K mg base (L2.CX P w) 11 T.a_need_pairs T.fd_need_pairs (["casks", "pairs"] : List Str) (spXn K Tb.ca 2 Phx_need_pairs) := by
  have key := okXn (ca := Tb.ca) (P := P) (w := w) (mg := mg) (base := base) (k := 10) (n := 2) T.F_need_pairs sc_need_pairs rfl fun cdv A outer s H E hr => (have nd := sc_need_pairs.nd; dss_cons (ds_exprX (dx_calln (okx_need_count T) Phx_need_count_len (hr.mono (by decide)) (takes_of rfl rfl rfl rfl) (by rfl) T.m_need_count T.F_need_count.kp T.n_need_count (da_cons (de_v 0) (da_cons (de_int) (da_cons (de_int) (da_nil))))))
    (dss_one (ds_for rfl (di_seq (de_v 1)) (dg_name 2 nd) (dss_one (ds_if (dt_not (dt_tru (de_call (ok_is_pair T) Ph_is_pair_len (hr.mono (by decide)) (by rfl) T.m_is_pair T.F_is_pair.kp T.n_is_pair (da_cons (de_v 2) (da_cons (de_v 0) (da_nil)))))) (dss_one (ds_raiseN rfl (takes_of rfl rfl rfl rfl) T.xt_InvalidDeed T.xg_InvalidDeed hr (by rfl) (deN_call (oka_anew T 8) (Pha_anew_len 8) (hr.mono (by decide)) (by rfl) T.m_anew T.F_anew.kp T.n_anew (da_cons (de_v 2) (da_nil))))) (dss_nil))))))
  exact key
noncomputable def lp_need_pairs_1 : Fs :=
  sIf (tNo (tTr (eA Ph_is_pair (lCons (eV 2) (lCons (eV 0) (lNil)))))) (sNever) (sNx)
noncomputable def dn_need_pairs : Fs :=
  sSeq (sEx (eA Ph_need_count (lCons (eV 0) (lCons (eC (.int 1)) (lCons (eC (.int 8)) (lNil))))))
  (sFor (iSeq (eV 1)) (g1 2) (lp_need_pairs_1))
noncomputable def Ph_need_pairs := runP dn_need_pairs 3 2
theorem Ph_need_pairs_len (ds : List PyData) (z : PyData) (h : Ph_need_pairs ds = some z) : ds.length = 2 := runP_len ds z h
theorem ok_need_pairs (T : Wd P K mg base) : FnOk P w K mg base CX0 11 T.a_need_pairs T.fd_need_pairs (["casks", "pairs"] : List Str) (spP K 2 Ph_need_pairs) := by
  have key := okP (ca := Tb.ca) (P := P) (w := w) (mg := mg) (base := base) (k := 10) (n := 2) T.F_need_pairs sc_need_pairs rfl fun cdv A outer s H E hr => (have nd := sc_need_pairs.nd; dss_cons (ds_expr (de_call (ok_need_count T) Ph_need_count_len (hr.mono (by decide)) (by rfl) T.m_need_count T.F_need_count.kp T.n_need_count (da_cons (de_v 0) (da_cons (de_int) (da_cons (de_int) (da_nil))))))
    (dss_one (ds_for rfl (di_seq (de_v 1)) (dg_name 2 nd) (dss_one (ds_if (dt_not (dt_tru (de_call (ok_is_pair T) Ph_is_pair_len (hr.mono (by decide)) (by rfl) T.m_is_pair T.F_is_pair.kp T.n_is_pair (da_cons (de_v 2) (da_cons (de_v 0) (da_nil)))))) (dss_one (ds_never)) (dss_nil))))))
  exact key
abbrev s_fraction : Stmt := topS 11
theorem sc_fraction : FnScope (["above", "below", "divisor"] : List Str) (["above", "below"] : List Str) (defScope s_fraction) := ⟨rfl, rfl, rfl, by decide +kernel, rfl, by decide +kernel, by decide +kernel⟩
noncomputable def dn_fraction : Fs :=
  sSeq (sIf (tB' (e2 gEq (eV 1) (eC (.int 0)))) (sNever) (sNx))
  (sSeq (sSet (eA gGcd (lCons (eV 0) (lCons (eV 1) (lNil)))) (g1 2))
  (sSeq (sIf (tB' (e2 gLt (eV 1) (eC (.int 0)))) (sSet (e1 gNeg (eV 2)) (g1 2)) (sNx))
  (sRt (eTup (lCons (e2 gFdiv (eV 0) (eV 2)) (lCons (e2 gFdiv (eV 1) (eV 2)) (lNil)))))))
noncomputable def Ph_fraction := runP dn_fraction 3 2
theorem Ph_fraction_len (ds : List PyData) (z : PyData) (h : Ph_fraction ds = some z) : ds.length = 2 := runP_len ds z h
theorem ok_fraction (T : Wd P K mg base) : FnOk P w K mg base CX0 1 T.a_fraction T.fd_fraction (["above", "below"] : List Str) (spP K 2 Ph_fraction) := by
  have key := okP (ca := Tb.ca) (P := P) (w := w) (mg := mg) (base := base) (k := 0) (n := 2) T.F_fraction sc_fraction rfl fun cdv A outer s H E hr => (have nd := sc_fraction.nd; dss_cons (ds_if (dt_cmp (op_eqD (hu64 hr)) o2_eq (de_v 1) (de_int) (nomark _)) (dss_one (ds_never)) (dss_nil))
    (dss_cons (ds_set 2 nd (de_M cr_gcd oA_gcd (by rfl) T.b_gcd (da_cons (de_v 0) (da_cons (de_v 1) (da_nil)))))
    (dss_cons (ds_if (dt_cmp op_lt o2_B (de_v 1) (de_int) (nomark _)) (dss_one (ds_set 2 nd (de_un un_neg o1_neg (de_v 2)))) (dss_nil))
    (dss_one (ds_ret (de_tup (da_cons (de_op op_fdivG o2_fdiv (de_v 0) (de_v 2)) (da_cons (de_op op_fdivG o2_fdiv (de_v 1) (de_v 2)) (da_nil)))))))))
  exact key
abbrev s_halved : Stmt := topS 15
theorem sc_halved : FnScope (["casks", "pairs", "whole", "rows", "first", "second", "both", "row", "column", "one", "other"] : List Str) (["casks", "pairs"] : List Str) (defScope s_halved) := ⟨rfl, rfl, rfl, by decide +kernel, rfl, by decide +kernel, by decide +kernel⟩
noncomputable def ce_halved_1 : Fe :=
  e2 gMulI (eV 2) (eA gInt (lCons (e2 gEq (eV 7) (eV 8)) (lNil)))
noncomputable def ce_halved_2 : Fe :=
  eF (lCm (iR1 (lCons (eV 0) (lNil))) (g1 8) (tYs) (ce_halved_1) [8])
noncomputable def ce_halved_3 : Fe :=
  e2 gFdiv (e2 gAdd (eV 9) (eV 10)) (eC (.int 2))
noncomputable def lp_halved_1 : Fs :=
  sSeq (sSet (eF (lCm (iZp (lCons (eIxV 3 (eV 4)) (lCons (eIxV 3 (eV 5)) (lNil)))) (g2 2 (gsC (g1 9) (gsC (g1 10) (gsN)))) (tYs) (ce_halved_3) [9, 10])) (g1 6))
  (sSeq (sPut 3 (eV 4) (eV 6))
  (sPut 3 (eV 5) (eV 6)))
noncomputable def dn_halved : Fs :=
  sSeq (sSet (e2 gShl (eC (.int 1)) (eA gLen (lCons (eV 1) (lNil)))) (g1 2))
  (sSeq (sOwn (lCm (iR1 (lCons (eV 0) (lNil))) (g1 7) (tYs) (ce_halved_2) [7]) 3)
  (sSeq (sFor (iSeq (eV 1)) (g2 2 (gsC (g1 4) (gsC (g1 5) (gsN)))) (lp_halved_1))
  (sFrz 3 (sRt (eV 3)))))
noncomputable def Ph_halved := runP dn_halved 11 2
theorem Ph_halved_len (ds : List PyData) (z : PyData) (h : Ph_halved ds = some z) : ds.length = 2 := runP_len ds z h
theorem ok_halved (T : Wd P K mg base) : FnOk P w K mg base CX0 1 T.a_halved T.fd_halved (["casks", "pairs"] : List Str) (spP K 2 Ph_halved) := by
  have key := okP (ca := Tb.ca) (P := P) (w := w) (mg := mg) (base := base) (k := 0) (n := 2) T.F_halved sc_halved rfl fun cdv A outer s H E hr => (have nd := sc_halved.nd; dss_cons (ds_set 2 nd (de_op op_shlG o2_shl (de_int) (de_B call_lenG oA_len (by rfl) T.b_len PySem.boot_len (da_cons (de_v 1) (da_nil)))))
    (dss_cons (ds_ownComp (own := [("row", 7)]) 3 rfl nd (sw_true rfl rfl rfl (by decide +kernel)) (di_r1 (by rfl) T.b_range (da_cons (de_v 0) (da_nil))) (blkOk_by (own := [("row", 7)]) (by kernel_rfl)) (fun _ _ _ _ _ => dg_name 7 nd) (fun _ _ _ _ _ => dts_nil) (fun _ _ _ _ _ => de_f (df_comp (own := [("column", 8)]) rfl nd (di_r1 (by rfl) T.b_range (da_cons (de_v 0) (da_nil))) (blkOk_by (own := [("column", 8)]) (by kernel_rfl)) (fun _ _ _ _ _ => dg_name 8 nd) (fun _ _ _ _ _ => dts_nil) (fun _ _ _ _ _ => de_op op_mulG o2_mulI (de_v 2) (de_T call_int1 oA_int (by rfl) T.b_int (by decide +kernel) (da_cons (de_cmp (op_eqD (hu64 hr)) o2_eq (de_v 7) (de_v 8) (nomark _)) (da_nil)))))))
    (dss_cons (ds_for rfl (di_seq (de_v 1)) (dg_tup (n := 2) rfl (dgs_cons (dg_name 4 nd) (dgs_cons (dg_name 5 nd) (dgs_nil)))) (dss_cons (ds_setComp (own := [("one", 9), ("other", 10)]) 6 rfl nd (sw_true rfl rfl rfl (by decide +kernel)) (di_zip (by rfl) T.b_zip (da_cons (de_ixV 3 (de_v 4)) (da_cons (de_ixV 3 (de_v 5)) (da_nil)))) (blkOk_by (own := [("one", 9), ("other", 10)]) (by kernel_rfl)) (fun _ _ _ _ _ => dg_tup (n := 2) rfl (dgs_cons (dg_name 9 nd) (dgs_cons (dg_name 10 nd) (dgs_nil)))) (fun _ _ _ _ _ => dts_nil) (fun _ _ _ _ _ => de_op op_fdivG o2_fdiv (de_op op_addG o2_add (de_v 9) (de_v 10)) (de_int)))
    (dss_cons (ds_put 3 (de_v 6) (de_v 4))
    (dss_one (ds_put 3 (de_v 6) (de_v 5))))))
    (dss_one (ds_frz 3 (ds_ret (de_v 3)))))))
  exact key
abbrev s_levelled : Stmt := topS 16
theorem sc_levelled : FnScope (["casks", "pairs", "whole", "row", "entry"] : List Str) (["casks", "pairs"] : List Str) (defScope s_levelled) := ⟨rfl, rfl, rfl, by decide +kernel, rfl, by decide +kernel, by decide +kernel⟩
noncomputable def cex_levelled_1 : Fe :=
  eA Ph_fraction (lCons (eV 4) (lCons (eV 2) (lNil)))
noncomputable def cex_levelled_2 : Fe :=
  eA gTup (lCons (eF (lCm (iSeq (eV 3)) (g1 4) (tYs) (cex_levelled_1) [4])) (lNil))
noncomputable def dnx_levelled : Fs :=
  sSeq (sExX (xA Phx_need_pairs (lCons (eV 0) (lCons (eV 1) (lNil)))))
  (sSeq (sSet (e2 gShl (eC (.int 1)) (eA gLen (lCons (eV 1) (lNil)))) (g1 2))
  (sRt (eA gTup (lCons (eF (lCm (iSeq (eA Ph_halved (lCons (eV 0) (lCons (eV 1) (lNil))))) (g1 3) (tYs) (cex_levelled_2) [3])) (lNil)))))
noncomputable def Phx_levelled := runX dnx_levelled 5 2
theorem Phx_levelled_len (ds : List PyData) (z : Xo) (h : Phx_levelled ds = some z) : ds.length = 2 := runX_len ds z h
theorem okx_levelled (T : Wd P K mg base) : FnOk P w K mg base (L2.CX P w) 12 T.a_levelled T.fd_levelled (["casks", "pairs"] : List Str) (spXn K Tb.ca 2 Phx_levelled) := by
  have key := okXn (ca := Tb.ca) (P := P) (w := w) (mg := mg) (base := base) (k := 11) (n := 2) T.F_levelled sc_levelled rfl fun cdv A outer s H E hr => (have nd := sc_levelled.nd; dss_cons (ds_exprX (dx_calln (okx_need_pairs T) Phx_need_pairs_len (hr.mono (by decide)) (takes_of rfl rfl rfl rfl) (by rfl) T.m_need_pairs T.F_need_pairs.kp T.n_need_pairs (da_cons (de_v 0) (da_cons (de_v 1) (da_nil)))))
    (dss_cons (ds_set 2 nd (de_op op_shlG o2_shl (de_int) (de_B call_lenG oA_len (by rfl) T.b_len PySem.boot_len (da_cons (de_v 1) (da_nil)))))
    (dss_one (ds_ret (de_T call_tuple_of oA_tup (by rfl) T.b_tuple (by decide +kernel) (da_cons (de_f (df_comp (own := [("row", 3)]) rfl nd (di_seq (de_call (ok_halved T) Ph_halved_len (hr.mono (by decide)) (by rfl) T.m_halved T.F_halved.kp T.n_halved (da_cons (de_v 0) (da_cons (de_v 1) (da_nil))))) (blkOk_by (own := [("row", 3)]) (by kernel_rfl)) (fun _ _ _ _ _ => dg_name 3 nd) (fun _ _ _ _ _ => dts_nil) (fun _ _ _ _ _ => de_T call_tuple_of oA_tup (by rfl) T.b_tuple (by decide +kernel) (da_cons (de_f (df_comp (own := [("entry", 4)]) rfl nd (di_seq (de_v 3)) (blkOk_by (own := [("entry", 4)]) (by kernel_rfl)) (fun _ _ _ _ _ => dg_name 4 nd) (fun _ _ _ _ _ => dts_nil) (fun _ _ _ _ _ => de_call (ok_fraction T) Ph_fraction_len (hr.mono (by decide)) (by rfl) T.m_fraction T.F_fraction.kp T.n_fraction (da_cons (de_v 4) (da_cons (de_v 2) (da_nil)))))) (da_nil))))) (da_nil)))))))
  exact key
noncomputable def ce_levelled_1 : Fe :=
  eA Ph_fraction (lCons (eV 4) (lCons (eV 2) (lNil)))
noncomputable def ce_levelled_2 : Fe :=
  eA gTup (lCons (eF (lCm (iSeq (eV 3)) (g1 4) (tYs) (ce_levelled_1) [4])) (lNil))
noncomputable def dn_levelled : Fs :=
  sSeq (sEx (eA Ph_need_pairs (lCons (eV 0) (lCons (eV 1) (lNil)))))
  (sSeq (sSet (e2 gShl (eC (.int 1)) (eA gLen (lCons (eV 1) (lNil)))) (g1 2))
  (sRt (eA gTup (lCons (eF (lCm (iSeq (eA Ph_halved (lCons (eV 0) (lCons (eV 1) (lNil))))) (g1 3) (tYs) (ce_levelled_2) [3])) (lNil)))))
noncomputable def Ph_levelled := runP dn_levelled 5 2
theorem Ph_levelled_len (ds : List PyData) (z : PyData) (h : Ph_levelled ds = some z) : ds.length = 2 := runP_len ds z h
theorem ok_levelled (T : Wd P K mg base) : FnOk P w K mg base CX0 12 T.a_levelled T.fd_levelled (["casks", "pairs"] : List Str) (spP K 2 Ph_levelled) := by
  have key := okP (ca := Tb.ca) (P := P) (w := w) (mg := mg) (base := base) (k := 11) (n := 2) T.F_levelled sc_levelled rfl fun cdv A outer s H E hr => (have nd := sc_levelled.nd; dss_cons (ds_expr (de_call (ok_need_pairs T) Ph_need_pairs_len (hr.mono (by decide)) (by rfl) T.m_need_pairs T.F_need_pairs.kp T.n_need_pairs (da_cons (de_v 0) (da_cons (de_v 1) (da_nil)))))
    (dss_cons (ds_set 2 nd (de_op op_shlG o2_shl (de_int) (de_B call_lenG oA_len (by rfl) T.b_len PySem.boot_len (da_cons (de_v 1) (da_nil)))))
    (dss_one (ds_ret (de_T call_tuple_of oA_tup (by rfl) T.b_tuple (by decide +kernel) (da_cons (de_f (df_comp (own := [("row", 3)]) rfl nd (di_seq (de_call (ok_halved T) Ph_halved_len (hr.mono (by decide)) (by rfl) T.m_halved T.F_halved.kp T.n_halved (da_cons (de_v 0) (da_cons (de_v 1) (da_nil))))) (blkOk_by (own := [("row", 3)]) (by kernel_rfl)) (fun _ _ _ _ _ => dg_name 3 nd) (fun _ _ _ _ _ => dts_nil) (fun _ _ _ _ _ => de_T call_tuple_of oA_tup (by rfl) T.b_tuple (by decide +kernel) (da_cons (de_f (df_comp (own := [("entry", 4)]) rfl nd (di_seq (de_v 3)) (blkOk_by (own := [("entry", 4)]) (by kernel_rfl)) (fun _ _ _ _ _ => dg_name 4 nd) (fun _ _ _ _ _ => dts_nil) (fun _ _ _ _ _ => de_call (ok_fraction T) Ph_fraction_len (hr.mono (by decide)) (by rfl) T.m_fraction T.F_fraction.kp T.n_fraction (da_cons (de_v 4) (da_cons (de_v 2) (da_nil)))))) (da_nil))))) (da_nil)))))))
  exact key
abbrev s_is_level : Stmt := topS 17
theorem sc_is_level : FnScope (["casks", "pairs", "rows"] : List Str) (["casks", "pairs"] : List Str) (defScope s_is_level) := ⟨rfl, rfl, rfl, by decide +kernel, rfl, by decide +kernel, by decide +kernel⟩
noncomputable def dnx_is_level : Fs :=
  sSeq (sExX (xA Phx_need_pairs (lCons (eV 0) (lCons (eV 1) (lNil)))))
  (sSeq (sSet (eA Ph_halved (lCons (eV 0) (lCons (eV 1) (lNil)))) (g1 2))
  (sRt (e2 gEq (eV 2) (eF (lRep (lLst (lCons (e2 gIx (eV 2) (eC (.int 0))) (lNil))) (eV 0))))))
noncomputable def Phx_is_level := runX dnx_is_level 3 2
theorem Phx_is_level_len (ds : List PyData) (z : Xo) (h : Phx_is_level ds = some z) : ds.length = 2 := runX_len ds z h
theorem okx_is_level (T : Wd P K mg base) : FnOk P w K mg base (L2.CX P w) 12 T.a_is_level T.fd_is_level (["casks", "pairs"] : List Str) (spXn K Tb.ca 2 Phx_is_level) := by
  have key := okXn (ca := Tb.ca) (P := P) (w := w) (mg := mg) (base := base) (k := 11) (n := 2) T.F_is_level sc_is_level rfl fun cdv A outer s H E hr => (have nd := sc_is_level.nd; dss_cons (ds_exprX (dx_calln (okx_need_pairs T) Phx_need_pairs_len (hr.mono (by decide)) (takes_of rfl rfl rfl rfl) (by rfl) T.m_need_pairs T.F_need_pairs.kp T.n_need_pairs (da_cons (de_v 0) (da_cons (de_v 1) (da_nil)))))
    (dss_cons (ds_set 2 nd (de_call (ok_halved T) Ph_halved_len (hr.mono (by decide)) (by rfl) T.m_halved T.F_halved.kp T.n_halved (da_cons (de_v 0) (da_cons (de_v 1) (da_nil)))))
    (dss_one (ds_ret (de_cmp (op_eqD (hu64 hr)) o2_eq (de_v 2) (de_f (df_rep (df_lst (da_cons (de_ix ix_seq o2_ix (de_v 2) (de_int) (fun _ _ => rfl)) (da_nil))) (de_v 0))) (nomark _))))))
  exact key
noncomputable def dn_is_level : Fs :=
  sSeq (sEx (eA Ph_need_pairs (lCons (eV 0) (lCons (eV 1) (lNil)))))
  (sSeq (sSet (eA Ph_halved (lCons (eV 0) (lCons (eV 1) (lNil)))) (g1 2))
  (sRt (e2 gEq (eV 2) (eF (lRep (lLst (lCons (e2 gIx (eV 2) (eC (.int 0))) (lNil))) (eV 0))))))
noncomputable def Ph_is_level := runP dn_is_level 3 2
theorem Ph_is_level_len (ds : List PyData) (z : PyData) (h : Ph_is_level ds = some z) : ds.length = 2 := runP_len ds z h
theorem ok_is_level (T : Wd P K mg base) : FnOk P w K mg base CX0 12 T.a_is_level T.fd_is_level (["casks", "pairs"] : List Str) (spP K 2 Ph_is_level) := by
  have key := okP (ca := Tb.ca) (P := P) (w := w) (mg := mg) (base := base) (k := 11) (n := 2) T.F_is_level sc_is_level rfl fun cdv A outer s H E hr => (have nd := sc_is_level.nd; dss_cons (ds_expr (de_call (ok_need_pairs T) Ph_need_pairs_len (hr.mono (by decide)) (by rfl) T.m_need_pairs T.F_need_pairs.kp T.n_need_pairs (da_cons (de_v 0) (da_cons (de_v 1) (da_nil)))))
    (dss_cons (ds_set 2 nd (de_call (ok_halved T) Ph_halved_len (hr.mono (by decide)) (by rfl) T.m_halved T.F_halved.kp T.n_halved (da_cons (de_v 0) (da_cons (de_v 1) (da_nil)))))
    (dss_one (ds_ret (de_cmp (op_eqD (hu64 hr)) o2_eq (de_v 2) (de_f (df_rep (df_lst (da_cons (de_ix ix_seq o2_ix (de_v 2) (de_int) (fun _ _ => rfl)) (da_nil))) (de_v 0))) (nomark _))))))
  exact key
abbrev s_law_odd_pair : Stmt := topS 35
theorem sc_law_odd_pair : FnScope (["_law_well_here", "_law_many", "_law_low", "_law_some"] : List Str) (["_law_well_here", "_law_many"] : List Str) (defScope s_law_odd_pair) := ⟨rfl, rfl, rfl, by decide +kernel, rfl, by decide +kernel, by decide +kernel⟩
noncomputable def dn_law_odd_pair : Fs :=
  sSeq (sSet (eM 0 Ph_law_lift (lCons (eV 1) (lNil))) (g1 2))
  (sSeq (sSet (eF (lLst (lCons (eTup (lCons (eV 2) (lCons (eV 2) (lNil)))) (lCons (eTup (lCons (eV 2) (lCons (eV 1) (lNil)))) (lCons (eTup (lCons (e2 gSub (eC (.int 0)) (eC (.int 1))) (lCons (eV 2) (lNil)))) (lCons (eF (lLst (lCons (eV 2) (lCons (e2 gSub (e2 gSub (eV 1) (eC (.int 1))) (eV 2)) (lNil))))) (lCons (eTup (lCons (eV 2) (lNil))) (lCons (eTup (lCons (eV 2) (lCons (e2 gAdd (eV 2) (eC (.int 1))) (lCons (eC (.int 0)) (lNil))))) (lCons (eC .none) (lCons (eV 2) (lNil))))))))))) (g1 3))
  (sSeq (sSet (e2 gAdd (eV 3) (eF (lLst (lCons (eTup (lCons (eA gStrI (lCons (eV 2) (lNil))) (lCons (eC (.int 0)) (lNil)))) (lCons (eC (.str ("01" : PySem.Str))) (lCons (eTup (lCons (eTup (lCons (eV 2) (lNil))) (lCons (eC (.int 0)) (lNil)))) (lCons (eTup (lCons (eF (lLst (lCons (eV 2) (lNil)))) (lCons (eF (lLst (lCons (eC (.int 0)) (lNil)))) (lNil)))) (lCons (eTup (lCons (eC (.bool true)) (lCons (eC (.bool false)) (lNil)))) (lCons (eTup (lCons (eV 2) (lCons (eC .none) (lNil)))) (lCons (eF (lLst (lNil))) (lCons (eTup (lCons (e2 gAdd (eV 1) (eC (.int 5))) (lCons (eC (.int 0)) (lNil)))) (lNil)))))))))))) (g1 3))
  (sRt (e2 gIx (eV 3) (eM 0 Ph_law_lift (lCons (eA gLen (lCons (eV 3) (lNil))) (lNil)))))))
noncomputable def Ph_law_odd_pair := runM dn_law_odd_pair 4 2
theorem Ph_law_odd_pair_len (ks ds : List PyData) (z : PyData × List PyData) (h : Ph_law_odd_pair ks ds = some z) : ds.length + 1 = 2 := runM_len ks ds z h
theorem ok_law_odd_pair (T : Wd P K mg base) : FnOk P w K mg base CX0 2 T.a_law_odd_pair T.fd_law_odd_pair (["_law_well_here", "_law_many"] : List Str) (spM K 2 Ph_law_odd_pair) := by
  have key := okM (ca := Tb.ca) (P := P) (w := w) (mg := mg) (base := base) (k := 1) (n := 2) T.F_law_odd_pair sc_law_odd_pair rfl fun cdv A outer s H E hr => (have nd := sc_law_odd_pair.nd; dss_cons (ds_set 2 nd (de_callM 0 (ok_law_lift T) Ph_law_lift_len (hr.mono (by decide)) (by rfl) T.m_law_lift T.F_law_lift.kp T.n_law_lift (da_cons (de_v 1) (da_nil))))
    (dss_cons (ds_set 3 nd (de_f (df_lst (da_cons (de_tup (da_cons (de_v 2) (da_cons (de_v 2) (da_nil)))) (da_cons (de_tup (da_cons (de_v 2) (da_cons (de_v 1) (da_nil)))) (da_cons (de_tup (da_cons (de_op op_sub o2_sub (de_int) (de_int)) (da_cons (de_v 2) (da_nil)))) (da_cons (de_f (df_lst (da_cons (de_v 2) (da_cons (de_op op_sub o2_sub (de_op op_sub o2_sub (de_v 1) (de_int)) (de_v 2)) (da_nil))))) (da_cons (de_tup (da_cons (de_v 2) (da_nil))) (da_cons (de_tup (da_cons (de_v 2) (da_cons (de_op op_addG o2_add (de_v 2) (de_int)) (da_cons (de_int) (da_nil))))) (da_cons (de_non) (da_cons (de_v 2) (da_nil))))))))))))
    (dss_cons (ds_set 3 nd (de_op op_addG o2_add (de_v 3) (de_f (df_lst (da_cons (de_tup (da_cons (de_T call_str_int oA_strI (by rfl) T.b_str (by decide +kernel) (da_cons (de_v 2) (da_nil))) (da_cons (de_int) (da_nil)))) (da_cons (de_str) (da_cons (de_tup (da_cons (de_tup (da_cons (de_v 2) (da_nil))) (da_cons (de_int) (da_nil)))) (da_cons (de_tup (da_cons (de_f (df_lst (da_cons (de_v 2) (da_nil)))) (da_cons (de_f (df_lst (da_cons (de_int) (da_nil)))) (da_nil)))) (da_cons (de_tup (da_cons (de_bl) (da_cons (de_bl) (da_nil)))) (da_cons (de_tup (da_cons (de_v 2) (da_cons (de_non) (da_nil)))) (da_cons (de_f (df_lst (da_nil))) (da_cons (de_tup (da_cons (de_op op_addG o2_add (de_v 1) (de_int)) (da_cons (de_int) (da_nil)))) (da_nil)))))))))))))
    (dss_one (ds_ret (de_ix ix_seq o2_ix (de_v 3) (de_callM 0 (ok_law_lift T) Ph_law_lift_len (hr.mono (by decide)) (by rfl) T.m_law_lift T.F_law_lift.kp T.n_law_lift (da_cons (de_B call_lenG oA_len (by rfl) T.b_len PySem.boot_len (da_cons (de_v 3) (da_nil))) (da_nil))) (fun _ _ => rfl)))))))
  exact key
abbrev s_law_asked : Stmt := topS 26
theorem sc_law_asked : FnScope (["_law_door", "_law_many", "_law_listed"] : List Str) (["_law_door", "_law_many", "_law_listed"] : List Str) (defScope s_law_asked) := ⟨rfl, rfl, rfl, by decide +kernel, rfl, by decide +kernel, by decide +kernel⟩
noncomputable def dnx_law_asked : Fs :=
  sSeq (sIf (tB' (e2 gEq (eV 0) (eC (.int 0)))) (sRtX (xA Phx_levelled (lK 0 2 [1, 0] (lNil) (lCons (eV 2) (lCons (eV 1) (lNil)))))) (sNx))
  (sRtX (xA Phx_is_level (lK 0 2 [1, 0] (lNil) (lCons (eV 2) (lCons (eV 1) (lNil))))))
noncomputable def Phx_law_asked := runX dnx_law_asked 3 3
theorem Phx_law_asked_len (ds : List PyData) (z : Xo) (h : Phx_law_asked ds = some z) : ds.length = 3 := runX_len ds z h
theorem okx_law_asked (T : Wd P K mg base) : FnOk P w K mg base (L2.CX P w) 13 T.a_law_asked T.fd_law_asked (["_law_door", "_law_many", "_law_listed"] : List Str) (spXn K Tb.ca 3 Phx_law_asked) := by
  have key := okXn (ca := Tb.ca) (P := P) (w := w) (mg := mg) (base := base) (k := 12) (n := 3) T.F_law_asked sc_law_asked rfl fun cdv A outer s H E hr => (have nd := sc_law_asked.nd; dss_cons (ds_if (dt_cmp (op_eqD (hu64 hr)) o2_eq (de_v 0) (de_int) (nomark _)) (dss_one (ds_retX (dx_callK0n (okx_levelled T) Phx_levelled_len (hr.mono (by decide)) (takes_of rfl rfl rfl rfl) (by rfl) T.m_levelled T.F_levelled.kp T.kb_levelled_0 (dk_cons (de_v 2) (dk_cons (de_v 1) (dk_nil)))))) (dss_nil))
    (dss_one (ds_retX (dx_callK0n (okx_is_level T) Phx_is_level_len (hr.mono (by decide)) (takes_of rfl rfl rfl rfl) (by rfl) T.m_is_level T.F_is_level.kp T.kb_is_level_0 (dk_cons (de_v 2) (dk_cons (de_v 1) (dk_nil)))))))
  exact key
abbrev s_law_error : Stmt := topS 27
theorem sc_law_error : FnScope (["_law_door", "_law_many", "_law_listed", "_law_held", "e"] : List Str) (["_law_door", "_law_many", "_law_listed"] : List Str) (defScope s_law_error) := ⟨rfl, rfl, rfl, by decide +kernel, rfl, by decide +kernel, by decide +kernel⟩
noncomputable def dn_law_error : Fs :=
  sSeq (sSet (eC .none) (g1 3))
  (sSeq (sTryK ["InvalidDeed", "InvalidNumber", "Unlike"] 4 3 (sExX (xA Phx_law_asked (lCons (eV 0) (lCons (eV 1) (lCons (eV 2) (lNil)))))))
  (sRt (eV 3)))
noncomputable def Ph_law_error := runP dn_law_error 5 3
theorem Ph_law_error_len (ds : List PyData) (z : PyData) (h : Ph_law_error ds = some z) : ds.length = 3 := runP_len ds z h
theorem ok_law_error (T : Wd P K mg base) : FnOk P w K mg base CX0 14 T.a_law_error T.fd_law_error (["_law_door", "_law_many", "_law_listed"] : List Str) (spP K 3 Ph_law_error) := by
  have key := okP (ca := Tb.ca) (P := P) (w := w) (mg := mg) (base := base) (k := 13) (n := 3) T.F_law_error sc_law_error rfl fun cdv A outer s H E hr => (have nd := sc_law_error.nd; dss_cons (ds_set 3 nd (de_non))
    (dss_cons (ds_tryK ["InvalidDeed", "InvalidNumber", "Unlike"] 4 3 nd ⟨by rfl, by decide, .inl T.xg_CaskError⟩ rfl (by intro c hc; simp only [List.mem_cons, List.not_mem_nil, or_false] at hc; rcases hc with rfl | rfl | rfl <;> first | exact T.xb_InvalidDeed | exact T.xb_InvalidNumber | exact T.xb_Unlike) (fun W pn xe tk hpo => dss_one (ds_exprX (dx_calln (okx_law_asked T) Phx_law_asked_len (hr.mono (by decide)) tk (by rfl) T.m_law_asked T.F_law_asked.kp T.n_law_asked (da_cons (de_v 0) (da_cons (de_v 1) (da_cons (de_v 2) (da_nil))))))))
    (dss_one (ds_ret (de_v 3)))))
  exact key
noncomputable def bde_law_error : Fs :=
  sExX (xA Phx_law_asked (lCons (eV 0) (lCons (eV 1) (lCons (eV 2) (lNil)))))
noncomputable def Phe_law_error := runE ["InvalidDeed", "InvalidNumber", "Unlike"] 4 3 bde_law_error 5 3
theorem Phe_law_error_len (ds : List PyData) (z : Str × PyData) (h : Phe_law_error ds = some z) : ds.length = 3 := runE_len ds z h
theorem oke_law_error (T : Wd P K mg base) : FnOk P w K mg base CX0 14 T.a_law_error T.fd_law_error (["_law_door", "_law_many", "_law_listed"] : List Str) (spE K 3 Phe_law_error) := by
  have key := okE (cls := ["InvalidDeed", "InvalidNumber", "Unlike"]) (i := 4) (j := 3) (P := P) (w := w) (mg := mg) (base := base) (k := 13) (n := 3) T.F_law_error sc_law_error rfl fun cdv A outer s H E hr => (have nd := sc_law_error.nd; dssE ["InvalidDeed", "InvalidNumber", "Unlike"] 4 3 nd (ps_set (i := 3) nd rfl (by first | exact Or.inl rfl | exact Or.inr rfl) pe_non) (ps_ret (pv 3)) ⟨by rfl, by decide, .inl T.xg_CaskError⟩ (by intro c hc; simp only [List.mem_cons, List.not_mem_nil, or_false] at hc; rcases hc with rfl | rfl | rfl <;> first | exact T.xb_InvalidDeed | exact T.xb_InvalidNumber | exact T.xb_Unlike) (fun W pn xe tk hpo => dss_one (ds_exprX (dx_calln (okx_law_asked T) Phx_law_asked_len (hr.mono (by decide)) tk (by rfl) T.m_law_asked T.F_law_asked.kp T.n_law_asked (da_cons (de_v 0) (da_cons (de_v 1) (da_cons (de_v 2) (da_nil))))))))
  exact key
abbrev s_law_refused : Stmt := topS 28
theorem sc_law_refused : FnScope (["_law_door", "_law_many", "_law_listed", "_law_numbered", "_law_due", "_law_held"] : List Str) (["_law_door", "_law_many", "_law_listed", "_law_numbered", "_law_due"] : List Str) (defScope s_law_refused) := ⟨rfl, rfl, rfl, by decide +kernel, rfl, by decide +kernel, by decide +kernel⟩
noncomputable def dn_law_refused : Fs :=
  sSeq (sSet (eA Ph_law_error (lCons (eV 0) (lCons (eV 1) (lCons (eV 2) (lNil))))) (g1 5))
  (sSeq (sIf (tOrr (tB' (eIsN (eV 5))) (tOrr (tTr (eIsC [("InvalidDeed", false), ("InvalidNumber", false), ("Unlike", true)] (eV 5))) (tNo (tTr (eIsC [("InvalidDeed", true), ("InvalidNumber", true), ("Unlike", true)] (eV 5)))))) (sRt (eC (.bool false))) (sNx))
  (sSeq (sIf (tB' (e2 gNe (eF (lLst (lCons (eIsC [("InvalidDeed", false), ("InvalidNumber", true), ("Unlike", false)] (eV 5)) (lCons (eIsC [("InvalidDeed", true), ("InvalidNumber", false), ("Unlike", false)] (eV 5)) (lNil))))) (eF (lLst (lCons (eV 3) (lCons (eNo (eV 3)) (lNil))))))) (sRt (eC (.bool false))) (sNx))
  (sRt (e2 gEqS (eA gRep (lCons (eVal ["InvalidDeed", "InvalidNumber", "Unlike"] (eV 5)) (lNil))) (eV 4)))))
noncomputable def Ph_law_refused := runP dn_law_refused 6 5
theorem Ph_law_refused_len (ds : List PyData) (z : PyData) (h : Ph_law_refused ds = some z) : ds.length = 5 := runP_len ds z h
theorem ok_law_refused (T : Wd P K mg base) : FnOk P w K mg base CX0 15 T.a_law_refused T.fd_law_refused (["_law_door", "_law_many", "_law_listed", "_law_numbered", "_law_due"] : List Str) (spP K 5 Ph_law_refused) := by
  have key := okP (ca := Tb.ca) (P := P) (w := w) (mg := mg) (base := base) (k := 14) (n := 5) T.F_law_refused sc_law_refused rfl fun cdv A outer s H E hr => (have nd := sc_law_refused.nd; dss_cons (ds_set 5 nd (de_call (ok_law_error T) Ph_law_error_len (hr.mono (by decide)) (by rfl) T.m_law_error T.F_law_error.kp T.n_law_error (da_cons (de_v 0) (da_cons (de_v 1) (da_cons (de_v 2) (da_nil))))))
    (dss_cons (ds_if (PW.pt (dw_or (dt_isN (de_v 5)) (dw_or (dt_tru (de_isC [("InvalidDeed", false), ("InvalidNumber", false), ("Unlike", true)] (by intro c b hc; simp only [List.mem_cons, List.not_mem_nil, or_false, Prod.mk.injEq] at hc; rcases hc with ⟨rfl, rfl⟩ | ⟨rfl, rfl⟩ | ⟨rfl, rfl⟩ <;> first | exact ⟨T.xe_InvalidDeed, T.xk_InvalidDeed_Unlike⟩ | exact ⟨T.xe_InvalidNumber, T.xk_InvalidNumber_Unlike⟩ | exact ⟨T.xe_Unlike, T.xk_Unlike_Unlike⟩) T.xk0_Unlike (by rfl) T.b_isinstance (by rfl) T.xg_Unlike (de_v 5))) (dw_or1 (dt_not (dt_tru (de_isCB (T := "ValueError") [("InvalidDeed", true), ("InvalidNumber", true), ("Unlike", true)] (by intro c b hc; simp only [List.mem_cons, List.not_mem_nil, or_false, Prod.mk.injEq] at hc; rcases hc with ⟨rfl, rfl⟩ | ⟨rfl, rfl⟩ | ⟨rfl, rfl⟩ <;> first | exact ⟨T.xe_InvalidDeed, T.xv_InvalidDeed⟩ | exact ⟨T.xe_InvalidNumber, T.xv_InvalidNumber⟩ | exact ⟨T.xe_Unlike, T.xv_Unlike⟩) (kit_ty (by decide +kernel)) (by rfl) T.b_isinstance (by rfl) T.b_ValueError (by decide +kernel) (de_v 5)))))))) (dss_one (ds_ret (de_bl))) (dss_nil))
    (dss_cons (ds_if (dt_cmp (op_neD (hu64 hr)) o2_ne (de_f (df_lst (da_cons (de_isC [("InvalidDeed", false), ("InvalidNumber", true), ("Unlike", false)] (by intro c b hc; simp only [List.mem_cons, List.not_mem_nil, or_false, Prod.mk.injEq] at hc; rcases hc with ⟨rfl, rfl⟩ | ⟨rfl, rfl⟩ | ⟨rfl, rfl⟩ <;> first | exact ⟨T.xe_InvalidDeed, T.xk_InvalidDeed_InvalidNumber⟩ | exact ⟨T.xe_InvalidNumber, T.xk_InvalidNumber_InvalidNumber⟩ | exact ⟨T.xe_Unlike, T.xk_Unlike_InvalidNumber⟩) T.xk0_InvalidNumber (by rfl) T.b_isinstance (by rfl) T.xg_InvalidNumber (de_v 5)) (da_cons (de_isC [("InvalidDeed", true), ("InvalidNumber", false), ("Unlike", false)] (by intro c b hc; simp only [List.mem_cons, List.not_mem_nil, or_false, Prod.mk.injEq] at hc; rcases hc with ⟨rfl, rfl⟩ | ⟨rfl, rfl⟩ | ⟨rfl, rfl⟩ <;> first | exact ⟨T.xe_InvalidDeed, T.xk_InvalidDeed_InvalidDeed⟩ | exact ⟨T.xe_InvalidNumber, T.xk_InvalidNumber_InvalidDeed⟩ | exact ⟨T.xe_Unlike, T.xk_Unlike_InvalidDeed⟩) T.xk0_InvalidDeed (by rfl) T.b_isinstance (by rfl) T.xg_InvalidDeed (de_v 5)) (da_nil))))) (de_f (df_lst (da_cons (de_v 3) (da_cons (de_not (de_v 3)) (da_nil))))) (nomark _)) (dss_one (ds_ret (de_bl))) (dss_nil))
    (dss_one (ds_ret (de_cmp op_eq o2_eqS (de_B (call_rep hr.gd (hu80 hr)) oA_rep (by rfl) T.b_repr (by decide +kernel) (da_cons (de_val ["InvalidDeed", "InvalidNumber", "Unlike"] (by intro c hc; simp only [List.mem_cons, List.not_mem_nil, or_false] at hc; rcases hc with rfl | rfl | rfl <;> first | exact ⟨T.xf_InvalidDeed, T.xn_InvalidDeed⟩ | exact ⟨T.xf_InvalidNumber, T.xn_InvalidNumber⟩ | exact ⟨T.xf_Unlike, T.xn_Unlike⟩) (de_v 5)) (da_nil))) (de_v 4) (nomark _)))))))
  exact key
abbrev s_law_kept : Stmt := topS 29
theorem sc_law_kept : FnScope (["_law_held", "_law_thing", "_law_shown", "_law_entry"] : List Str) (["_law_held", "_law_thing"] : List Str) (defScope s_law_kept) := ⟨rfl, rfl, rfl, by decide +kernel, rfl, by decide +kernel, by decide +kernel⟩
theorem ok_law_kept (T : Wd P K mg base) : FnOk P w K mg base CX0 1 T.a_law_kept T.fd_law_kept (["_law_held", "_law_thing"] : List Str) (spK K) := by
  have key := okK (P := P) (w := w) (mg := mg) (base := base) (k := 0) T.F_law_kept sc_law_kept rfl rfl fun cdv A outer s H E hr => (have nd := sc_law_kept.nd; dssK (ps_set (i := 2) nd rfl (by first | exact Or.inl rfl | exact Or.inr rfl) (pe_callB (call_rep hr.gd (hu80 hr)) (by rfl) T.b_repr (by decide +kernel) (pa_cons (pe_errV (pv 0)) pa_nil)))
    (ps_for PassesOwn.never rfl (pi_lt (pe_op op_catG (pe_lst (pa_cons (pv 1) pa_nil)) (pe_callTy call_list_of (by rfl) T.b_list (by decide +kernel) (pa_cons (pe_ifExp (pt_truth (pe_callB call_isi (by rfl) T.b_isinstance (by decide +kernel) (pa_cons (pv 1) (pa_cons (pe_bltn (v := .ty "tuple") (by rfl) T.b_tuple (by decide +kernel) rfl) pa_nil))) (by intro _; rfl)) (pv 1) (pe_tup pa_nil)) pa_nil)))) (pg_name (i := 3) nd rfl (Or.inl rfl)) (pss_one (ps_if (pt_truth (pe_callB call_isi (by rfl) T.b_isinstance (by decide +kernel) (pa_cons (pv 3) (pa_cons (pe_bltn (v := .ty "list") (by rfl) T.b_list (by decide +kernel) rfl) pa_nil))) (by intro _; rfl)) (pss_one (ps_expr (pe_bm PySem.F.plainAttrs_list PySem.F.slot_list_append PySem.F.type_list_append mt_append (pv 3) (pa_cons pe_str pa_nil)))) pss_nil)))
    (ps_ret (pe_cmpR op_eq (pe_callB (call_rep hr.gd (hu80 hr)) (by rfl) T.b_repr (by decide +kernel) (pa_cons (pe_errV (pv 0)) pa_nil)) (pv 2) (nomark _))))
  exact key
abbrev s_law_refusals_right : Stmt := topS 36
theorem sc_law_refusals_right : FnScope (["_law_well_here", "_law_many", "_law_listed", "_law_door", "_law_at", "_law_odd", "_law_bad", "_law_further", "_law_number", "_law_some"] : List Str) (["_law_well_here", "_law_many", "_law_listed"] : List Str) (defScope s_law_refusals_right) := ⟨rfl, rfl, rfl, by decide +kernel, rfl, by decide +kernel, by decide +kernel⟩
noncomputable def lp_law_refusals_right_1 : Fs :=
  sIf (tNo (tTr (eA Ph_law_refused (lCons (eV 3) (lCons (eV 8) (lCons (eV 9) (lCons (eC (.bool true)) (lCons (eA gRep (lCons (eV 8) (lNil))) (lNil))))))))) (sRt (eC (.bool false))) (sNx)
noncomputable def dn_law_refusals_right : Fs :=
  sScopeN (sSeq (sSet (eM 0 Ph_law_lift (lCons (eC (.int 2)) (lNil))) (g1 3))
    (sSeq (sSet (eM 0 Ph_law_lift (lCons (e2 gAdd (eA gLen (lCons (eV 2) (lNil))) (eC (.int 1))) (lNil))) (g1 4))
    (sSeq (sNw (fSetN 5 (eMN 0 Ph_law_odd_pair (lCons (eV 1) (lNil)))))
    (sSeq (sSet (e2 gAdd (e2 gAdd (eCut (eV 2) (oNo) (oSo (eV 4))) (eF (lLst (lCons (eVN 5) (lNil))))) (eCut (eV 2) (oSo (eV 4)) (oNo))) (g1 6))
    (sSeq (sIf (tB' (e2 gEq (eM 0 Ph_law_lift (lCons (eC (.int 2)) (lNil))) (eC (.int 0)))) (sSeq (sSet (e2 gAdd (e2 gAdd (eV 4) (eC (.int 1))) (eM 0 Ph_law_lift (lCons (e2 gSub (eA gLen (lCons (eV 6) (lNil))) (eV 4)) (lNil)))) (g1 7))
  (sSet (e2 gAdd (e2 gAdd (eCut (eV 6) (oNo) (oSo (eV 7))) (eF (lLst (lCons (eM 0 Ph_law_odd_pair (lCons (eV 1) (lNil))) (lNil))))) (eCut (eV 6) (oSo (eV 7)) (oNo))) (g1 6))) (sNx))
    (sSeq (sIf (tNo (tTr (eA Ph_law_refused (lCons (eV 3) (lCons (eV 1) (lCons (eV 6) (lCons (eC (.bool false)) (lCons (eA gRep (lCons (eVN 5) (lNil))) (lNil))))))))) (sRt (eC (.bool false))) (sNx))
    (sSeq (sSet (e2 gIx (eF (lLst (lCons (eC (.int 0)) (lCons (eC (.int 9)) (lCons (e2 gSub (e2 gSub (eC (.int 0)) (eC (.int 1))) (eM 0 Ph_law_lift (lCons (e2 gPow (eC (.int 10)) (eC (.int 20))) (lNil)))) (lCons (e2 gAdd (eC (.int 9)) (eM 0 Ph_law_lift (lCons (e2 gPow (eC (.int 10)) (eC (.int 50))) (lNil)))) (lNil))))))) (eM 0 Ph_law_lift (lCons (eC (.int 4)) (lNil)))) (g1 8))
    (sSeq (sFor (iSeq (eF (lLst (lCons (eV 6) (lCons (eV 2) (lNil)))))) (g1 9) (lp_law_refusals_right_1))
    (sIf (tNo (tTr (eA Ph_law_refused (lCons (e2 gSub (eC (.int 1)) (eV 3)) (lCons (eV 8) (lCons (eF (lLst (lNil))) (lCons (eC (.bool true)) (lCons (eA gRep (lCons (eV 8) (lNil))) (lNil))))))))) (sRt (eC (.bool false))) (sNx)))))))))) (fKeptN ["InvalidDeed", "InvalidNumber", "Unlike"] 5 Phe_law_error (lCons (eV 3) (lCons (eV 1) (lCons (eF (lLst (lCons (eVN 5) (lNil)))) (lNil)))))
noncomputable def Ph0_law_refusals_right := runM dn_law_refusals_right 10 3
theorem okst_law_odd_pair (T : Wd P K mg base) : FnOk P w K mg base CX0 2 T.a_law_odd_pair T.fd_law_odd_pair (["_law_well_here", "_law_many"] : List Str) (@spM (stT ‹Tb›) K 2 Ph_law_odd_pair) := @ok_law_odd_pair (stT ‹Tb›) P w K mg base T.st
noncomputable def Ph_law_refusals_right := gNm Ph0_law_refusals_right
theorem Ph_law_refusals_right_len (ks ds : List PyData) (z : PyData × List PyData) (h : Ph_law_refusals_right ks ds = some z) : ds.length + 1 = 3 := gNm_len runM_len ks ds z h
theorem okS_law_refusals_right (T : Wd P K mg base) : FnOk P w K mg base CX0 16 T.a_law_refusals_right T.fd_law_refusals_right (["_law_well_here", "_law_many", "_law_listed"] : List Str) (spMo K 3 Ph0_law_refusals_right) := by
  have key := okMo (ca := Tb.ca) (P := P) (w := w) (mg := mg) (base := base) (k := 15) (n := 3) T.F_law_refusals_right sc_law_refusals_right rfl fun cdv A outer s H E hr => (have nd := sc_law_refusals_right.nd; dq_scopeR (dq_cons (ds_set 3 nd (de_callM 0 (ok_law_lift T) Ph_law_lift_len (hr.mono (by decide)) (by rfl) T.m_law_lift T.F_law_lift.kp T.n_law_lift (da_cons (de_int) (da_nil))))
    (dq_cons (ds_set 4 nd (de_callM 0 (ok_law_lift T) Ph_law_lift_len (hr.mono (by decide)) (by rfl) T.m_law_lift T.F_law_lift.kp T.n_law_lift (da_cons (de_op op_addG o2_add (de_B call_lenG oA_len (by rfl) T.b_len PySem.boot_len (da_cons (de_v 2) (da_nil))) (de_int)) (da_nil))))
    (dq_consN (dq_setN 5 nd (deQ_callM 0 (okst_law_odd_pair T) Ph_law_odd_pair_len (hr.mono (by decide)) (by rfl) T.m_law_odd_pair T.F_law_odd_pair.kp T.n_law_odd_pair (da_cons (de_v 1) (da_nil))))
    (dq_cons (ds_set 6 nd (de_op op_addG o2_add (de_op op_addG o2_add (de_cut (de_v 2) (do_no) (do_so (de_v 4))) (de_f (df_lst (da_cons (de_vN 5) (da_nil))))) (de_cut (de_v 2) (do_so (de_v 4)) (do_no))))
    (dq_cons (ds_if (dt_cmp (op_eqD (hu64 hr)) o2_eq (de_callM 0 (ok_law_lift T) Ph_law_lift_len (hr.mono (by decide)) (by rfl) T.m_law_lift T.F_law_lift.kp T.n_law_lift (da_cons (de_int) (da_nil))) (de_int) (nomark _)) (dss_cons (ds_set 7 nd (de_op op_addG o2_add (de_op op_addG o2_add (de_v 4) (de_int)) (de_callM 0 (ok_law_lift T) Ph_law_lift_len (hr.mono (by decide)) (by rfl) T.m_law_lift T.F_law_lift.kp T.n_law_lift (da_cons (de_op op_sub o2_sub (de_B call_lenG oA_len (by rfl) T.b_len PySem.boot_len (da_cons (de_v 6) (da_nil))) (de_v 4)) (da_nil)))))
    (dss_one (ds_set 6 nd (de_op op_addG o2_add (de_op op_addG o2_add (de_cut (de_v 6) (do_no) (do_so (de_v 7))) (de_f (df_lst (da_cons (de_callM 0 (ok_law_odd_pair T) Ph_law_odd_pair_len (hr.mono (by decide)) (by rfl) T.m_law_odd_pair T.F_law_odd_pair.kp T.n_law_odd_pair (da_cons (de_v 1) (da_nil))) (da_nil))))) (de_cut (de_v 6) (do_so (de_v 7)) (do_no)))))) (dss_nil))
    (dq_cons (ds_if (dt_not (dt_tru (de_call (ok_law_refused T) Ph_law_refused_len (hr.mono (by decide)) (by rfl) T.m_law_refused T.F_law_refused.kp T.n_law_refused (da_cons (de_v 3) (da_cons (de_v 1) (da_cons (de_v 6) (da_cons (de_bl) (da_cons (de_B (call_rep hr.gd (hu80 hr)) oA_rep (by rfl) T.b_repr (by decide +kernel) (da_cons (de_vN 5) (da_nil))) (da_nil))))))))) (dss_one (ds_ret (de_bl))) (dss_nil))
    (dq_cons (ds_set 8 nd (de_ix ix_seq o2_ix (de_f (df_lst (da_cons (de_int) (da_cons (de_int) (da_cons (de_op op_sub o2_sub (de_op op_sub o2_sub (de_int) (de_int)) (de_callM 0 (ok_law_lift T) Ph_law_lift_len (hr.mono (by decide)) (by rfl) T.m_law_lift T.F_law_lift.kp T.n_law_lift (da_cons (de_op op_powG o2_pow (de_int) (de_int)) (da_nil)))) (da_cons (de_op op_addG o2_add (de_int) (de_callM 0 (ok_law_lift T) Ph_law_lift_len (hr.mono (by decide)) (by rfl) T.m_law_lift T.F_law_lift.kp T.n_law_lift (da_cons (de_op op_powG o2_pow (de_int) (de_int)) (da_nil)))) (da_nil))))))) (de_callM 0 (ok_law_lift T) Ph_law_lift_len (hr.mono (by decide)) (by rfl) T.m_law_lift T.F_law_lift.kp T.n_law_lift (da_cons (de_int) (da_nil))) (fun _ _ => rfl)))
    (dq_cons (ds_for rfl (di_seq (de_f (df_lst (da_cons (de_v 6) (da_cons (de_v 2) (da_nil)))))) (dg_name 9 nd) (dss_one (ds_if (dt_not (dt_tru (de_call (ok_law_refused T) Ph_law_refused_len (hr.mono (by decide)) (by rfl) T.m_law_refused T.F_law_refused.kp T.n_law_refused (da_cons (de_v 3) (da_cons (de_v 8) (da_cons (de_v 9) (da_cons (de_bl) (da_cons (de_B (call_rep hr.gd (hu80 hr)) oA_rep (by rfl) T.b_repr (by decide +kernel) (da_cons (de_v 8) (da_nil))) (da_nil))))))))) (dss_one (ds_ret (de_bl))) (dss_nil))))
    (dq_one (ds_if (dt_not (dt_tru (de_call (ok_law_refused T) Ph_law_refused_len (hr.mono (by decide)) (by rfl) T.m_law_refused T.F_law_refused.kp T.n_law_refused (da_cons (de_op op_sub o2_sub (de_int) (de_v 3)) (da_cons (de_v 8) (da_cons (de_f (df_lst (da_nil))) (da_cons (de_bl) (da_cons (de_B (call_rep hr.gd (hu80 hr)) oA_rep (by rfl) T.b_repr (by decide +kernel) (da_cons (de_v 8) (da_nil))) (da_nil))))))))) (dss_one (ds_ret (de_bl))) (dss_nil))
    (pss_one (dq_kept (pe_keptN ["InvalidDeed", "InvalidNumber", "Unlike"] 5 (by intro c hc; simp only [List.mem_cons, List.not_mem_nil, or_false] at hc; rcases hc with rfl | rfl | rfl <;> first | exact ⟨T.xf_InvalidDeed, T.xn_InvalidDeed⟩ | exact ⟨T.xf_InvalidNumber, T.xn_InvalidNumber⟩ | exact ⟨T.xf_Unlike, T.xn_Unlike⟩) (deE_call (oke_law_error T) Phe_law_error_len (hr.mono (by decide)) (by rfl) T.m_law_error T.F_law_error.kp T.n_law_error (da_cons (de_v 3) (da_cons (de_v 1) (da_cons (de_f (df_lst (da_cons (de_vN 5) (da_nil)))) (da_nil))))) (ok_law_kept T) (hr.mono (by decide)) (by rfl) T.m_law_kept T.F_law_kept.kp T.n_law_kept)))))))))))))
  exact key
theorem ok_law_refusals_right (T : Wd P K mg base) : FnOk P w K mg base CX0 16 T.a_law_refusals_right T.fd_law_refusals_right (["_law_well_here", "_law_many", "_law_listed"] : List Str) (spM K 3 Ph_law_refusals_right) := okM_nw fun H0 => @okS_law_refusals_right (nwT ‹Tb› H0) P w K mg base (T.nt H0)
abbrev s_law_long_right : Stmt := topS 37
theorem sc_law_long_right : FnScope (["_law_well_here", "_law_many", "_law_listed", "_law_further", "_law_given", "_law_due", "_law_level", "_law_k"] : List Str) (["_law_well_here", "_law_many", "_law_listed"] : List Str) (defScope s_law_long_right) := ⟨rfl, rfl, rfl, by decide +kernel, rfl, by decide +kernel, by decide +kernel⟩
noncomputable def ce_law_long_right_1 : Fe :=
  eM 0 Ph_law_pair (lCons (eV 1) (lNil))
noncomputable def dn_law_long_right : Fs :=
  sSeq (sSet (eF (lCm (iR1 (lCons (e2 gSub (e2 gAdd (eC (.int 41)) (eM 0 Ph_law_lift (lCons (eC (.int 20)) (lNil)))) (eA gLen (lCons (eV 2) (lNil)))) (lNil))) (g1 7) (tYs) (ce_law_long_right_1) [7])) (g1 3))
  (sSeq (sSet (e2 gIx (eF (lLst (lCons (e2 gAdd (eV 3) (eV 2)) (lCons (e2 gAdd (eV 2) (eV 3)) (lNil))))) (eM 0 Ph_law_lift (lCons (eC (.int 2)) (lNil)))) (g1 4))
  (sSeq (sSet (eA Ph_law_table (lCons (eV 1) (lCons (eV 4) (lNil)))) (g1 5))
  (sSeq (sSet (e2 gEq (eV 5) (e2 gMulT (eTup (lCons (e2 gIx (eV 5) (eC (.int 0))) (lNil))) (eV 1))) (g1 6))
  (sRt (eAn (eA Ph_law_same (lCons (eA Ph_levelled (lCons (eV 1) (lCons (eV 4) (lNil)))) (lCons (eV 5) (lNil)))) (eA Ph_law_same (lCons (eA Ph_is_level (lCons (eV 1) (lCons (eV 4) (lNil)))) (lCons (eV 6) (lNil)))))))))
noncomputable def Ph_law_long_right := runM dn_law_long_right 8 3
theorem Ph_law_long_right_len (ks ds : List PyData) (z : PyData × List PyData) (h : Ph_law_long_right ks ds = some z) : ds.length + 1 = 3 := runM_len ks ds z h
theorem ok_law_long_right (T : Wd P K mg base) : FnOk P w K mg base CX0 13 T.a_law_long_right T.fd_law_long_right (["_law_well_here", "_law_many", "_law_listed"] : List Str) (spM K 3 Ph_law_long_right) := by
  have key := okM (ca := Tb.ca) (P := P) (w := w) (mg := mg) (base := base) (k := 12) (n := 3) T.F_law_long_right sc_law_long_right rfl fun cdv A outer s H E hr => (have nd := sc_law_long_right.nd; dss_cons (ds_setComp (own := [("_law_k", 7)]) 3 rfl nd (sw_true rfl rfl rfl (by decide +kernel)) (di_r1 (by rfl) T.b_range (da_cons (de_op op_sub o2_sub (de_op op_addG o2_add (de_int) (de_callM 0 (ok_law_lift T) Ph_law_lift_len (hr.mono (by decide)) (by rfl) T.m_law_lift T.F_law_lift.kp T.n_law_lift (da_cons (de_int) (da_nil)))) (de_B call_lenG oA_len (by rfl) T.b_len PySem.boot_len (da_cons (de_v 2) (da_nil)))) (da_nil))) (blkOk_by (own := [("_law_k", 7)]) (by kernel_rfl)) (fun _ _ _ _ _ => dg_name 7 nd) (fun _ _ _ _ _ => dts_nil) (fun _ _ _ _ _ => de_callM 0 (ok_law_pair T) Ph_law_pair_len (hr.mono (by decide)) (by rfl) T.m_law_pair T.F_law_pair.kp T.n_law_pair (da_cons (de_v 1) (da_nil))))
    (dss_cons (ds_set 4 nd (de_ix ix_seq o2_ix (de_f (df_lst (da_cons (de_op op_addG o2_add (de_v 3) (de_v 2)) (da_cons (de_op op_addG o2_add (de_v 2) (de_v 3)) (da_nil))))) (de_callM 0 (ok_law_lift T) Ph_law_lift_len (hr.mono (by decide)) (by rfl) T.m_law_lift T.F_law_lift.kp T.n_law_lift (da_cons (de_int) (da_nil))) (fun _ _ => rfl)))
    (dss_cons (ds_set 5 nd (de_call (ok_law_table T) Ph_law_table_len (hr.mono (by decide)) (by rfl) T.m_law_table T.F_law_table.kp T.n_law_table (da_cons (de_v 1) (da_cons (de_v 4) (da_nil)))))
    (dss_cons (ds_set 6 nd (de_cmp (op_eqD (hu64 hr)) o2_eq (de_v 5) (de_op op_mulT o2_mulT (de_tup (da_cons (de_ix ix_seq o2_ix (de_v 5) (de_int) (fun _ _ => rfl)) (da_nil))) (de_v 1)) (nomark _)))
    (dss_one (ds_ret (de_and (de_call (ok_law_same T) Ph_law_same_len (hr.mono (by decide)) (by rfl) T.m_law_same T.F_law_same.kp T.n_law_same (da_cons (de_call (ok_levelled T) Ph_levelled_len (hr.mono (by decide)) (by rfl) T.m_levelled T.F_levelled.kp T.n_levelled (da_cons (de_v 1) (da_cons (de_v 4) (da_nil)))) (da_cons (de_v 5) (da_nil)))) (de_one (de_call (ok_law_same T) Ph_law_same_len (hr.mono (by decide)) (by rfl) T.m_law_same T.F_law_same.kp T.n_law_same (da_cons (de_call (ok_is_level T) Ph_is_level_len (hr.mono (by decide)) (by rfl) T.m_is_level T.F_is_level.kp T.n_is_level (da_cons (de_v 1) (da_cons (de_v 4) (da_nil)))) (da_cons (de_v 6) (da_nil))))))))))))
  exact key
abbrev s_law : Stmt := topS 38
theorem sc_law : FnScope (["_law_script", "_law_well_here", "_law_many", "_law_listed", "_law_due", "_law_level", "_law_given", "_law_other"] : List Str) (["_law_script"] : List Str) (defScope s_law) := ⟨rfl, rfl, rfl, by decide +kernel, rfl, by decide +kernel, by decide +kernel⟩
noncomputable def dn_law : Fs :=
  sSeq (sOwn (lA Ph_law_well (lCons (eA Ph_law_cell (lCons (eV 0) (lCons (eC (.int 0)) (lNil)))) (lCons (eC (.int 0)) (lNil)))) 1)
  (sSeq (sSet (e2 gIx (eF (lLst (lCons (eC (.int 1)) (lCons (eC (.int 2)) (lCons (eC (.int 3)) (lCons (eC (.int 4)) (lCons (eC (.int 5)) (lCons (eC (.int 6)) (lCons (eC (.int 7)) (lCons (eC (.int 8)) (lCons (eC (.int 2)) (lCons (eC (.int 4)) (lCons (eC (.int 8)) (lCons (eC (.int 4)) (lNil))))))))))))))) (eM 1 Ph_law_lift (lCons (eC (.int 12)) (lNil)))) (g1 2))
  (sSeq (sSet (eO 1 (eV 0) Ph_law_pairs (lCons (eV 2) (lNil))) (g1 3))
  (sSeq (sSet (eA Ph_law_table (lCons (eV 2) (lCons (eV 3) (lNil)))) (g1 4))
  (sSeq (sSet (e2 gEq (eV 4) (e2 gMulT (eTup (lCons (e2 gIx (eV 4) (eC (.int 0))) (lNil))) (eV 2))) (g1 5))
  (sSeq (sOwn (lOf (lCons (eV 3) (lNil))) 6)
  (sSeq (sIf (tOrr (tNo (tSide (tTr (eA Ph_law_same (lCons (eA Ph_levelled (lCons (eV 2) (lCons (eV 6) (lNil)))) (lCons (eV 4) (lNil))))))) (tNo (tSide (tTr (eA Ph_law_same (lCons (eA Ph_is_level (lCons (eV 2) (lCons (eV 6) (lNil)))) (lCons (eV 5) (lNil)))))))) (sRt (eC (.bool false))) (sNx))
  (sSeq (sIf (tOrr (tSide (tB' (e2 gNe (eV 6) (eV 3)))) (tNo (tTr (eM 1 Ph_law_refusals_right (lCons (eV 2) (lCons (eV 3) (lNil))))))) (sRt (eC (.bool false))) (sNx))
  (sSeq (sApp 6 (eTup (lCons (eC (.int 0)) (lCons (eC (.int 0)) (lNil)))))
  (sSeq (sSet (eM 1 Ph_law_pair (lCons (eC (.int 8)) (lNil))) (g1 7))
  (sSeq (sIf (tOrr (tNo (tTr (eA Ph_law_same (lCons (eA Ph_levelled (lCons (eC (.int 8)) (lCons (eF (lLst (lCons (eV 7) (lNil)))) (lNil)))) (lCons (eA Ph_law_table (lCons (eC (.int 8)) (lCons (eF (lLst (lCons (eV 7) (lNil)))) (lNil)))) (lNil)))))) (tNo (tTr (eA Ph_law_same (lCons (eA Ph_is_level (lCons (eC (.int 8)) (lCons (eF (lLst (lCons (eV 7) (lNil)))) (lNil)))) (lCons (eC (.bool false)) (lNil))))))) (sRt (eC (.bool false))) (sNx))
  (sSeq (sIf (tOrr (tNo (tTr (eA Ph_law_same (lCons (eA Ph_levelled (lCons (eV 2) (lCons (eV 3) (lNil)))) (lCons (eV 4) (lNil)))))) (tNo (tTr (eA Ph_law_same (lCons (eA Ph_is_level (lCons (eV 2) (lCons (eV 3) (lNil)))) (lCons (eV 5) (lNil))))))) (sRt (eC (.bool false))) (sNx))
  (sRt (eOr (e2 gEq (eV 2) (eC (.int 1))) (eOr (e2 gNe (eM 1 Ph_law_lift (lCons (eC (.int 8)) (lNil))) (eC (.int 3))) (eM 1 Ph_law_long_right (lCons (eV 2) (lCons (eV 3) (lNil))))))))))))))))))
noncomputable def Ph_law := runP dn_law 8 1
theorem ok_law (T : Wd P K mg base) : FnOk P w K mg base CX0 17 T.a_law T.fd_law (["_law_script"] : List Str) (spP K 1 Ph_law) := by
  have key := okP (ca := Tb.ca) (P := P) (w := w) (mg := mg) (base := base) (k := 16) (n := 1) T.F_law sc_law rfl fun cdv A outer s H E hr => (have nd := sc_law.nd; dss_cons (ds_own 1 nd (df_call (ok_law_well T) Ph_law_well_len (hr.mono (by decide)) (by rfl) T.m_law_well T.F_law_well.kp T.n_law_well (da_cons (de_call (ok_law_cell T) Ph_law_cell_len (hr.mono (by decide)) (by rfl) T.m_law_cell T.F_law_cell.kp T.n_law_cell (da_cons (de_v 0) (da_cons (de_int) (da_nil)))) (da_cons (de_int) (da_nil)))))
    (dss_cons (ds_set 2 nd (de_ix ix_seq o2_ix (de_f (df_lst (da_cons (de_int) (da_cons (de_int) (da_cons (de_int) (da_cons (de_int) (da_cons (de_int) (da_cons (de_int) (da_cons (de_int) (da_cons (de_int) (da_cons (de_int) (da_cons (de_int) (da_cons (de_int) (da_cons (de_int) (da_nil))))))))))))))) (de_callM 1 (ok_law_lift T) Ph_law_lift_len (hr.mono (by decide)) (by rfl) T.m_law_lift T.F_law_lift.kp T.n_law_lift (da_cons (de_int) (da_nil))) (fun _ _ => rfl)))
    (dss_cons (ds_set 3 nd (de_callO 1 (ok_law_pairs T) Ph_law_pairs_len (hr.mono (by decide)) (by rfl) T.m_law_pairs T.F_law_pairs.kp T.n_law_pairs (de_v 0) (da_cons (de_v 2) (da_nil))))
    (dss_cons (ds_set 4 nd (de_call (ok_law_table T) Ph_law_table_len (hr.mono (by decide)) (by rfl) T.m_law_table T.F_law_table.kp T.n_law_table (da_cons (de_v 2) (da_cons (de_v 3) (da_nil)))))
    (dss_cons (ds_set 5 nd (de_cmp (op_eqD (hu64 hr)) o2_eq (de_v 4) (de_op op_mulT o2_mulT (de_tup (da_cons (de_ix ix_seq o2_ix (de_v 4) (de_int) (fun _ _ => rfl)) (da_nil))) (de_v 2)) (nomark _)))
    (dss_cons (ds_own 6 nd (df_listOf (by rfl) T.b_list (da_cons (de_v 3) (da_nil))))
    (dss_cons (ds_if (PW.pt (dw_or (dt_not (dt_side (dt_tru (de_call (ok_law_same T) Ph_law_same_len (hr.mono (by decide)) (by rfl) T.m_law_same T.F_law_same.kp T.n_law_same (da_cons (de_call (ok_levelled T) Ph_levelled_len (hr.mono (by decide)) (by rfl) T.m_levelled T.F_levelled.kp T.n_levelled (da_cons (de_v 2) (da_cons (de_v 6) (da_nil)))) (da_cons (de_v 4) (da_nil))))))) (dw_or1 (dt_not (dt_side (dt_tru (de_call (ok_law_same T) Ph_law_same_len (hr.mono (by decide)) (by rfl) T.m_law_same T.F_law_same.kp T.n_law_same (da_cons (de_call (ok_is_level T) Ph_is_level_len (hr.mono (by decide)) (by rfl) T.m_is_level T.F_is_level.kp T.n_is_level (da_cons (de_v 2) (da_cons (de_v 6) (da_nil)))) (da_cons (de_v 5) (da_nil)))))))))) (dss_one (ds_ret (de_bl))) (dss_nil))
    (dss_cons (ds_if (PW.pt (dw_or (dt_side (dt_cmp (op_neD (hu64 hr)) o2_ne (de_v 6) (de_v 3) (nomark _))) (dw_or1 (dt_not (dt_tru (de_callM 1 (ok_law_refusals_right T) Ph_law_refusals_right_len (hr.mono (by decide)) (by rfl) T.m_law_refusals_right T.F_law_refusals_right.kp T.n_law_refusals_right (da_cons (de_v 2) (da_cons (de_v 3) (da_nil))))))))) (dss_one (ds_ret (de_bl))) (dss_nil))
    (dss_cons (ds_app 6 (de_tup (da_cons (de_int) (da_cons (de_int) (da_nil)))))
    (dss_cons (ds_set 7 nd (de_callM 1 (ok_law_pair T) Ph_law_pair_len (hr.mono (by decide)) (by rfl) T.m_law_pair T.F_law_pair.kp T.n_law_pair (da_cons (de_int) (da_nil))))
    (dss_cons (ds_if (PW.pt (dw_or (dt_not (dt_tru (de_call (ok_law_same T) Ph_law_same_len (hr.mono (by decide)) (by rfl) T.m_law_same T.F_law_same.kp T.n_law_same (da_cons (de_call (ok_levelled T) Ph_levelled_len (hr.mono (by decide)) (by rfl) T.m_levelled T.F_levelled.kp T.n_levelled (da_cons (de_int) (da_cons (de_f (df_lst (da_cons (de_v 7) (da_nil)))) (da_nil)))) (da_cons (de_call (ok_law_table T) Ph_law_table_len (hr.mono (by decide)) (by rfl) T.m_law_table T.F_law_table.kp T.n_law_table (da_cons (de_int) (da_cons (de_f (df_lst (da_cons (de_v 7) (da_nil)))) (da_nil)))) (da_nil)))))) (dw_or1 (dt_not (dt_tru (de_call (ok_law_same T) Ph_law_same_len (hr.mono (by decide)) (by rfl) T.m_law_same T.F_law_same.kp T.n_law_same (da_cons (de_call (ok_is_level T) Ph_is_level_len (hr.mono (by decide)) (by rfl) T.m_is_level T.F_is_level.kp T.n_is_level (da_cons (de_int) (da_cons (de_f (df_lst (da_cons (de_v 7) (da_nil)))) (da_nil)))) (da_cons (de_bl) (da_nil))))))))) (dss_one (ds_ret (de_bl))) (dss_nil))
    (dss_cons (ds_if (PW.pt (dw_or (dt_not (dt_tru (de_call (ok_law_same T) Ph_law_same_len (hr.mono (by decide)) (by rfl) T.m_law_same T.F_law_same.kp T.n_law_same (da_cons (de_call (ok_levelled T) Ph_levelled_len (hr.mono (by decide)) (by rfl) T.m_levelled T.F_levelled.kp T.n_levelled (da_cons (de_v 2) (da_cons (de_v 3) (da_nil)))) (da_cons (de_v 4) (da_nil)))))) (dw_or1 (dt_not (dt_tru (de_call (ok_law_same T) Ph_law_same_len (hr.mono (by decide)) (by rfl) T.m_law_same T.F_law_same.kp T.n_law_same (da_cons (de_call (ok_is_level T) Ph_is_level_len (hr.mono (by decide)) (by rfl) T.m_is_level T.F_is_level.kp T.n_is_level (da_cons (de_v 2) (da_cons (de_v 3) (da_nil)))) (da_cons (de_v 5) (da_nil))))))))) (dss_one (ds_ret (de_bl))) (dss_nil))
    (dss_one (ds_ret (de_or (de_cmp (op_eqD (hu64 hr)) o2_eq (de_v 2) (de_int) (nomark _)) (de_or (de_cmp (op_neD (hu64 hr)) o2_ne (de_callM 1 (ok_law_lift T) Ph_law_lift_len (hr.mono (by decide)) (by rfl) T.m_law_lift T.F_law_lift.kp T.n_law_lift (da_cons (de_int) (da_nil))) (de_int) (nomark _)) (de_one (de_callM 1 (ok_law_long_right T) Ph_law_long_right_len (hr.mono (by decide)) (by rfl) T.m_law_long_right T.F_law_long_right.kp T.n_law_long_right (da_cons (de_v 2) (da_cons (de_v 3) (da_nil)))))))))))))))))))))
  exact key
end
end K11
set_option Elab.async false
set_option linter.all false
set_option maxRecDepth 100000
namespace Dn
open PySem PySem.Spec PyProof.Rows L2
def encQ (q : Rat) : PyData := .tuple [.int q.num, .int (q.den : Int)]
theorem encQ_inj {a b : Rat} (h : encQ a = encQ b) : a = b := by
  unfold encQ at h
  injection h with h
  injection h with h1 h2
  injection h2 with h2 _
  injection h1 with h1
  injection h2 with h2
  exact Rat.ext h1 (Int.ofNat.inj h2)
theorem fdiv_nn {a : Int} {d : Nat} : a.fdiv (d : Int) = a / (d : Int) := Int.fdiv_eq_ediv_of_nonneg _ (by omega)
/-- a / b in lowest terms -/
theorem low_num {a b : Int} (hb : 0 < b) : a.fdiv ((Nat.gcd a.natAbs b.natAbs : Nat) : Int) = (Rat.divInt a b).num := by
  rw [fdiv_nn, Rat.num_divInt, Int.sign_eq_one_of_pos hb, Int.one_mul, Int.gcd_comm]
  rfl
theorem low_den {a b : Int} (hb : 0 < b) : b.fdiv ((Nat.gcd a.natAbs b.natAbs : Nat) : Int) = ((Rat.divInt a b).den : Int) := by
  rw [fdiv_nn, Rat.den_divInt, if_neg (by omega), Int.gcd_comm]
  obtain ⟨n, rfl⟩ := Int.eq_ofNat_of_zero_le (Int.le_of_lt hb)
  show (n : Int) / ((Nat.gcd a.natAbs n : Nat) : Int) = ((n / Nat.gcd a.natAbs n : Nat) : Int)
  rw [Int.natCast_ediv]
theorem log_of {n k : Nat} (h : n < 2 ^ k) (hk : 0 < k) : n.log2 < k := by
  by_cases h0 : n = 0
  · subst h0; simpa using hk
  · exact (Nat.log2_lt h0).mpr h
theorem mulOk_lt {i j : Int} (hi : i.natAbs < 2 ^ 60000) (hj : j.natAbs < 2 ^ 60000) : mulOk i j = true := by
  unfold mulOk
  refine decide_eq_true ?_
  have h1 := log_of hi (by decide)
  have h2 := log_of hj (by decide)
  omega
theorem divOk_lt {j : Int} (h0 : j ≠ 0) (hj : j.natAbs < 2 ^ 9000) : divOk j = true := by
  unfold divOk
  rw [decide_eq_true h0, decide_eq_true (log_of hj (by decide))]
  rfl
theorem lt_pow {n a b : Nat} (h : n < 2 ^ a) (hab : a ≤ b) : n < 2 ^ b := Nat.lt_of_lt_of_le h (Nat.pow_le_pow_right (by decide) hab)
theorem mul_pow {n m a b : Nat} (h : n < 2 ^ a) (h2 : m < 2 ^ b) : n * m < 2 ^ (a + b) := by
  rw [Nat.pow_add]
  have hb : 0 < 2 ^ b := Nat.pos_of_neZero _
  rcases Nat.eq_zero_or_pos n with h0 | h0
  · subst h0; rw [Nat.zero_mul]; exact Nat.mul_pos (Nat.pos_of_neZero _) hb
  · exact Nat.lt_of_lt_of_le ((Nat.mul_lt_mul_left h0).mpr h2) (Nat.mul_le_mul_right _ (Nat.le_of_lt h))
theorem natQ_ne {D : Nat} (h : 0 < D) : (D : Rat) ≠ 0 := by
  intro h1
  have h2 : D = 0 := Rat.natCast_inj.mp (by rw [h1]; rfl)
  omega
theorem natQ_pos {D : Nat} (h : 0 < D) : (0 : Rat) < (D : Rat) := by
  have : ((0 : Nat) : Rat) < (D : Rat) := Rat.natCast_lt_natCast.mpr h
  exact this
/-- q is a whole number of parts of D -/
def Pt (D : Nat) (q : Rat) : Prop := ∃ z : Int, q * (D : Rat) = (z : Rat)
theorem Pt.add {D : Nat} {p q : Rat} (h : Pt D p) (h2 : Pt D q) : Pt D (p + q) := by
  obtain ⟨a, ha⟩ := h
  obtain ⟨b, hb⟩ := h2
  exact ⟨a + b, by rw [Rat.intCast_add]; grind⟩
theorem Pt.sub {D : Nat} {p q : Rat} (h : Pt D p) (h2 : Pt D q) : Pt D (p - q) := by
  obtain ⟨a, ha⟩ := h
  obtain ⟨b, hb⟩ := h2
  exact ⟨a - b, by rw [Rat.intCast_sub]; grind⟩
theorem Pt.mul {D E : Nat} {p q : Rat} (h : Pt D p) (h2 : Pt E q) : Pt (D * E) (p * q) := by
  obtain ⟨a, ha⟩ := h
  obtain ⟨b, hb⟩ := h2
  exact ⟨a * b, by rw [Rat.intCast_mul, Rat.natCast_mul]; grind⟩
theorem Pt.zero {D : Nat} : Pt D 0 := ⟨0, by grind⟩
theorem Pt.int {D : Nat} (z : Int) : Pt D (z : Rat) := ⟨z * D, by rw [Rat.intCast_mul]; rfl⟩
theorem Pt.up {D E : Nat} {q : Rat} (h : Pt D q) (hd : D ∣ E) : Pt E q := by
  obtain ⟨a, ha⟩ := h
  obtain ⟨k, rfl⟩ := hd
  refine ⟨a * k, ?_⟩
  rw [Rat.natCast_mul, Rat.intCast_mul, ← ha]
  have : ((k : Int) : Rat) = (k : Rat) := rfl
  rw [this]
  grind
theorem Pt.den {D : Nat} {q : Rat} (h : Pt D q) (hD : 0 < D) : q = Rat.divInt (q * D).num D := by
  obtain ⟨z, hz⟩ := h
  rw [hz, Rat.num_intCast, Rat.divInt_eq_div]
  have : ((D : Int) : Rat) = (D : Rat) := rfl
  rw [this]
  have := natQ_ne hD
  grind
/-- small enough to reckon with -/
structure Sz (q : Rat) : Prop where
  den : q.den < 2 ^ 4000
  num : q.num.natAbs < 2 ^ 5000
theorem Sz.num6 {q : Rat} (h : Sz q) : q.num.natAbs < 2 ^ 60000 := lt_pow h.num (by decide)
theorem Sz.den6 {q : Rat} (h : Sz q) : (q.den : Int).natAbs < 2 ^ 60000 := lt_pow (by show q.den < _; exact h.den) (by decide)
theorem den_pos {q : Rat} : 0 < q.den := Nat.pos_of_ne_zero q.den_nz
theorem den_posI {q : Rat} : (0 : Int) < q.den := by have := @den_pos q; omega
theorem q_mul (x y : Rat) : Rat.divInt (x.num * y.num) (x.den * y.den) = x * y := by
  conv => rhs; rw [← Rat.num_divInt_den x, ← Rat.num_divInt_den y]
  rw [Rat.divInt_mul_divInt]
theorem q_sub (x y : Rat) : Rat.divInt (x.num * y.den - y.num * x.den) (x.den * y.den) = x - y := by
  conv => rhs; rw [← Rat.num_divInt_den x, ← Rat.num_divInt_den y]
  rw [Rat.sub_eq_add_neg, Rat.neg_divInt, Rat.divInt_add_divInt _ _ (by have := @den_posI x; omega) (by have := @den_posI y; omega)]
  congr 1
  grind
theorem whL_turn {t : Ft} {b : Fs} {n : Nat} {e e1 e2 : En} {r : Option (Flw × En)} (ht : t e = some (true, e1)) (hb : b e1 = some (.nx, e2)) (hn : whL t b n e2 = r) : whL t b (n + 1) e = r := by
  simp [whL, ht, hb, hn]
theorem whL_stop {t : Ft} {b : Fs} {n : Nat} {e e1 : En} (ht : t e = some (false, e1)) : whL t b (n + 1) e = some (.nx, e1) := by
  simp [whL, ht]
theorem rng_nat (n : Nat) : rng 0 (n : Int) = (List.range n).map fun (i : Nat) => .int (i : Int) := by
  unfold rng
  rw [show ((n : Int) - 0).toNat = n by omega]
  exact List.map_congr_left fun i _ => by rw [Int.zero_add]
theorem rng_nat2 (m n : Nat) : rng (m : Int) (n : Int) = (List.range (n - m)).map fun (i : Nat) => .int ((m + i : Nat) : Int) := by
  unfold rng
  rw [show ((n : Int) - (m : Int)).toNat = n - m by omega]
  exact List.map_congr_left fun i _ => by rw [Int.natCast_add]
theorem atI_get {α : Type} {l : List α} {i : Nat} (h : i < l.length) : atI l (i : Int) = some l[i] := by
  unfold atI ixN
  rw [if_pos (by omega), if_pos (by omega), Int.toNat_natCast]
  exact List.getElem?_eq_getElem h
/-- data that _law_same looks through to depth r -/
def Pl : Nat → PyData → Prop
  | 0, _ => False
  | _ + 1, .int _ => True
  | _ + 1, .none => True
  | _ + 1, .bool _ => True
  | _ + 1, .str s => PyData.strOk s = true
  | r + 1, .list ds => ds.length ≤ 1000000 ∧ ∀ d ∈ ds, Pl r d
  | r + 1, .tuple ds => ds.length ≤ 1000000 ∧ ∀ d ∈ ds, Pl r d
  | _ + 1, _ => False
theorem Sz.nd {x y : Rat} (h : Sz x) (h2 : Sz y) : mulOk x.num (y.den : Int) = true := mulOk_lt h.num6 h2.den6
theorem Sz.one : Sz 1 := ⟨Nat.one_lt_two_pow (by decide), Nat.one_lt_two_pow (by decide)⟩
theorem Sz.zero : Sz 0 := ⟨Nat.one_lt_two_pow (by decide), Nat.pos_of_neZero _⟩
theorem numQ_pos {q : Rat} : 0 < q.num ↔ 0 < q := by
  rw [Rat.lt_iff]
  simp
theorem num_le_den {q : Rat} : q.num ≤ (q.den : Int) ↔ q ≤ 1 := by
  rw [Rat.le_iff]
  simp
@[simp] theorem shaped_b (b : Bool) : SeqAt.shaped (.bool b) = true := by simp [SeqAt.shaped, PyData.canLay0, PyData.depth]
@[simp] theorem shaped_nil : SeqAt.shaped (.list []) = true := by decide +kernel
@[simp] theorem eqv_b (a b : Bool) : PyData.eqv (.bool a) (.bool b) = (a == b) := by simp only [PyData.eqv]
@[simp] theorem eqv_nil : PyData.eqv (.list []) (.list []) = true := by decide +kernel
@[simp] theorem wipe_nil {e : En} : wipeE e [] = e := rfl
@[simp] theorem wipe_cons {e : En} {v : Nat} {vs : List Nat} : wipeE e (v :: vs) = (wipeE e vs).set v .no := rfl
def kRest (e1 e2 : En) (v : Nat) (vs : List Nat) (o : Option Sl) : En := match o with
  | some s => (restE e1 e2 vs).set v s
  | none => restE e1 e2 vs
@[simp] theorem rest_nil {e1 e2 : En} : restE e1 e2 [] = e2 := rfl
@[simp] theorem rest_cons {e1 e2 : En} {v : Nat} {vs : List Nat} : restE e1 e2 (v :: vs) = kRest e1 e2 v vs e1[v]? := by
  unfold restE kRest
  rfl
@[simp] theorem kRest_s {e1 e2 : En} {v : Nat} {vs : List Nat} {s : Sl} : kRest e1 e2 v vs (some s) = (restE e1 e2 vs).set v s := rfl
theorem set_back {e : En} {i : Nat} {s : Sl} (h : e[i]? = some s) (d : Sl) : (e.set i d).set i s = e := by
  rw [List.set_set]
  apply List.ext_getElem?
  intro j
  rw [List.getElem?_set]
  by_cases hj : i = j
  · subst hj
    rw [if_pos rfl, h]
    have := (List.getElem?_eq_some_iff.mp h).1
    rw [if_pos this]
  · rw [if_neg hj]
/-- [a(x) for x in xs if t(x)], the tests and elements change nothing -/
theorem cm_f {α β : Type} {t : Ft} {a : Fe} {i : Nat} {e : En} {E : α → PyData} {D : β → PyData} {F : α → β} {p : α → Bool} {s : Sl} {xs : List α} (hn : xs.length ≤ 1000000) (hs : e[i]? = some s) (ho : noOwn e [i] = true)
    (h : ∀ y ∈ xs, t (e.set i (.val (E y))) = some (p y, e.set i (.val (E y))) ∧ (p y = true → a (e.set i (.val (E y))) = some (D (F y), e.set i (.val (E y))))) :
    kCm (g1 i) t a [i] (xs.map E, e) = some (((xs.filter p).map F).map D, e) := by
  refine (kCm_ok (by simpa using hn) ho rfl (comp_filter (F := F) (p := p) (D := D) fun y hy => ⟨e.set i (.val (E y)), e.set i (.val (E y)), ?_, (h y hy).1, fun _ => ?_, fun hp => ⟨e.set i (.val (E y)), (h y hy).2 hp, ?_⟩⟩)).trans ?_
  · show some (((e.set i .no)).set i (.val (E y))) = _
    rw [List.set_set]
  · show (e.set i (.val (E y))).set i .no = e.set i .no
    rw [List.set_set]
  · show (e.set i (.val (E y))).set i .no = e.set i .no
    rw [List.set_set]
  · rw [rest_cons, hs, kRest_s, rest_nil]
    rw [show wipeE e [i] = e.set i .no from rfl, set_back hs]
theorem filter_all {α : Type} (xs : List α) : xs.filter (fun _ => true) = xs := List.filter_eq_self.mpr fun _ _ => rfl
theorem cm_a {α β : Type} {a : Fe} {i : Nat} {e : En} {E : α → PyData} {D : β → PyData} {F : α → β} {s : Sl} {xs : List α} (hn : xs.length ≤ 1000000) (hs : e[i]? = some s) (ho : noOwn e [i] = true)
    (h : ∀ y ∈ xs, a (e.set i (.val (E y))) = some (D (F y), e.set i (.val (E y)))) :
    kCm (g1 i) tYs a [i] (xs.map E, e) = some ((xs.map F).map D, e) := by
  have := cm_f (t := tYs) (p := fun _ => true) hn hs ho fun y hy => ⟨rfl, fun _ => h y hy⟩
  rw [filter_all] at this
  exact this
/-- [a(x, y) for x, y in xs if t(x, y)] -/
theorem cm_f2 {α β : Type} {t : Ft} {a : Fe} {i j : Nat} {e : En} {E1 E2 : α → PyData} {D : β → PyData} {F : α → β} {p : α → Bool} {s s2 : Sl} {xs : List α} (hn : xs.length ≤ 1000000) (hij : i ≠ j) (hs : e[i]? = some s) (hs2 : e[j]? = some s2) (ho : noOwn e [i, j] = true)
    (h : ∀ y ∈ xs, t ((e.set i (.val (E1 y))).set j (.val (E2 y))) = some (p y, (e.set i (.val (E1 y))).set j (.val (E2 y))) ∧ (p y = true → a ((e.set i (.val (E1 y))).set j (.val (E2 y))) = some (D (F y), (e.set i (.val (E1 y))).set j (.val (E2 y))))) :
    kCm (g2 2 (gsC (g1 i) (gsC (g1 j) gsN))) t a [i, j] (xs.map (fun y => .tuple [E1 y, E2 y]), e) = some (((xs.filter p).map F).map D, e) := by
  have w : ∀ d1 d2 : Sl, wipeE ((e.set i d1).set j d2) [i, j] = wipeE e [i, j] := fun d1 d2 => by
    show (((e.set i d1).set j d2).set j .no).set i .no = (e.set j .no).set i .no
    rw [List.set_set, List.set_comm _ _ hij.symm, List.set_comm _ _ hij.symm, List.set_set]
  refine (kCm_ok (by simpa using hn) ho rfl (comp_filter (F := F) (p := p) (D := D) fun y hy => ⟨(e.set i (.val (E1 y))).set j (.val (E2 y)), (e.set i (.val (E1 y))).set j (.val (E2 y)), ?_, (h y hy).1, fun _ => w _ _, fun hp => ⟨(e.set i (.val (E1 y))).set j (.val (E2 y)), (h y hy).2 hp, w _ _⟩⟩)).trans ?_
  · show some ((((e.set j .no).set i .no).set i (.val (E1 y))).set j (.val (E2 y))) = _
    rw [List.set_set, List.set_comm _ _ hij, List.set_comm _ _ hij, List.set_set]
  · rw [rest_cons, hs, kRest_s, rest_cons, hs2, kRest_s, rest_nil]
    show some (_, ((((e.set j .no).set i .no).set j s2).set i s)) = _
    rw [List.set_comm _ _ hij, set_back hs2, set_back hs]
theorem cm_a2 {α β : Type} {a : Fe} {i j : Nat} {e : En} {E1 E2 : α → PyData} {D : β → PyData} {F : α → β} {s s2 : Sl} {xs : List α} (hn : xs.length ≤ 1000000) (hij : i ≠ j) (hs : e[i]? = some s) (hs2 : e[j]? = some s2) (ho : noOwn e [i, j] = true)
    (h : ∀ y ∈ xs, a ((e.set i (.val (E1 y))).set j (.val (E2 y))) = some (D (F y), (e.set i (.val (E1 y))).set j (.val (E2 y)))) :
    kCm (g2 2 (gsC (g1 i) (gsC (g1 j) gsN))) tYs a [i, j] (xs.map (fun y => .tuple [E1 y, E2 y]), e) = some ((xs.map F).map D, e) := by
  have := cm_f2 (t := tYs) (p := fun _ => true) hn hij hs hs2 ho fun y hy => ⟨rfl, fun _ => h y hy⟩
  rw [filter_all] at this
  exact this
theorem Pl.list {r : Nat} {ds : List PyData} (h : Pl (r + 1) (.list ds)) : ds.length ≤ 1000000 ∧ ∀ d ∈ ds, Pl r d := h
theorem Pl.tuple {r : Nat} {ds : List PyData} (h : Pl (r + 1) (.tuple ds)) : ds.length ≤ 1000000 ∧ ∀ d ∈ ds, Pl r d := h
theorem Pl.at {r : Nat} {ds : List PyData} (h : ∀ d ∈ ds, Pl r d) {i : Nat} (hi : i < ds.length) : Pl r (ds.getD i .none) := h _ (by rw [List.getD_eq_getElem?_getD, List.getElem?_eq_getElem hi]; exact List.getElem_mem hi)
theorem kR1_len {n : Nat} {e : En} (h : n ≤ 1000000) : kR1 ([.int (n : Int)], e) = some ((List.range n).map fun (i : Nat) => .int (i : Int), e) := by
  rw [kR1_ok (by omega) (by omega), rng_nat]
theorem kR2_len {m n : Nat} {e : En} (h : m ≤ 1000000) (h2 : n ≤ 1000000) : kR2 ([.int (m : Int), .int (n : Int)], e) = some ((List.range (n - m)).map fun (i : Nat) => .int ((m + i : Nat) : Int), e) := by
  rw [kR2_ok (by omega) (by omega) (by omega) (by omega), rng_nat2]
/-- a loop, turn by turn -/
theorem for_at {α : Type} {tg : Tg} {f : Fs} {E : α → PyData} {S : Nat → En → Prop} : ∀ {xs : List α} {k : Nat} {e : En}, S k e → (∀ (i : Nat) (y : α), xs[i]? = some y → ∀ e, S (k + i) e → ∃ e1 e2 fl, tg (E y) e = some e1 ∧ f e1 = some (fl, e2) ∧ (fl = .nx ∨ fl = .ct) ∧ S (k + i + 1) e2) →
    ∃ e', forL tg f (xs.map E) e = some (.nx, e') ∧ S (k + xs.length) e'
  | [], k, e, hs, _ => ⟨e, rfl, hs⟩
  | d :: ds, k, e, hs, h => by
    obtain ⟨e1, e2, fl, h1, h2, h3, h4⟩ := h 0 d rfl e hs
    obtain ⟨e', h5, h6⟩ := for_at (xs := ds) (k := k + 1) h4 fun i y hi e he => by
      have := h (i + 1) y (by simpa using hi) e (by rw [show k + (i + 1) = k + 1 + i by omega]; exact he)
      rw [show k + (i + 1) + 1 = k + 1 + i + 1 by omega] at this
      exact this
    refine ⟨e', ?_, by rw [List.length_cons, show k + (ds.length + 1) = k + 1 + ds.length by omega]; exact h6⟩
    rw [List.map_cons, for_cons, h1]
    show (f e1).bind _ = _
    rw [h2]
    rcases h3 with rfl | rfl
    · exact h5
    · exact h5
theorem for_ix {tg : Tg} {f : Fs} {E : Nat → PyData} {S : Nat → En → Prop} {n : Nat} {e : En} (hs : S 0 e) (h : ∀ i, i < n → ∀ e, S i e → ∃ e1 e2 fl, tg (E i) e = some e1 ∧ f e1 = some (fl, e2) ∧ (fl = .nx ∨ fl = .ct) ∧ S (i + 1) e2) :
    ∃ e', forL tg f ((List.range n).map E) e = some (.nx, e') ∧ S n e' := by
  have := for_at (tg := tg) (f := f) (E := E) (S := S) (xs := List.range n) (k := 0) hs fun i y hi e he => by
    have hi2 : i < n := by
      have := (List.getElem?_eq_some_iff.mp hi).1
      simpa using this
    rw [List.getElem?_range hi2] at hi
    cases hi
    rw [Nat.zero_add] at he ⊢
    exact h i hi2 e he
  rw [List.length_range, Nat.zero_add] at this
  exact this
end Dn
set_option Elab.async false
set_option linter.all false
set_option maxRecDepth 100000
namespace Dn
open PySem PySem.Spec PyProof.Rows L2
def sumN (f : Nat → Int) : Nat → Int
  | 0 => 0
  | n + 1 => sumN f n + f n
theorem sumN_congr {f g : Nat → Int} : ∀ {n : Nat}, (∀ i, i < n → f i = g i) → sumN f n = sumN g n
  | 0, _ => rfl
  | n + 1, h => by rw [sumN, sumN, sumN_congr fun i hi => h i (by omega), h n (by omega)]
theorem sumN_mul (c : Int) (f : Nat → Int) : ∀ n, sumN (fun i => c * f i) n = c * sumN f n
  | 0 => by simp [sumN]
  | n + 1 => by rw [sumN, sumN, sumN_mul c f n, Int.mul_add]
theorem sumN_nonneg {f : Nat → Int} : ∀ {n : Nat}, (∀ i, i < n → 0 ≤ f i) → 0 ≤ sumN f n
  | 0, _ => Int.le_refl 0
  | n + 1, h => by
    have := sumN_nonneg (f := f) (n := n) fun i hi => h i (by omega)
    have := h n (by omega)
    rw [sumN]; omega
def vecP (n : Nat) (f : Nat → Int) : PyData := .list ((List.range n).map fun i => .int (f i))
def matP (m n : Nat) (M : Nat → Nat → Int) : PyData := .list ((List.range m).map fun k => vecP n (M k))
theorem vecP_congr {n : Nat} {f g : Nat → Int} (h : ∀ i, i < n → f i = g i) : vecP n f = vecP n g := by
  unfold vecP
  congr 1
  exact List.map_congr_left fun i hi => by rw [h i (List.mem_range.mp hi)]
theorem zip_range {α : Type} (F G : Nat → PyData) : ∀ l : List Nat, zipD (l.map F) (l.map G) = l.map fun i => .tuple [F i, G i]
  | [] => rfl
  | x :: l => by
    have := zip_range (α := α) F G l
    unfold zipD at this ⊢
    rw [List.map_cons, List.map_cons, List.map_cons, List.zipWith_cons_cons, this]
theorem zip_vec (n : Nat) (f g : Nat → Int) : zipD ((List.range n).map fun i => .int (f i)) ((List.range n).map fun i => .int (g i)) = (List.range n).map fun i => .tuple [.int (f i), .int (g i)] := zip_range (α := Nat) _ _ _
theorem atI_map {F : Nat → PyData} {n i : Nat} (h : i < n) : atI ((List.range n).map F) (i : Int) = some (F i) := by
  rw [atI_get (by simpa using h)]
  simp
def ser (M : Nat → Nat → Int) (n : Nat) (f0 : Nat → Int) : Nat → Nat → Int
  | 0 => f0
  | y + 1 => fun k => sumN (fun j => M k j * ser M n f0 y j) n
theorem kZp_vec {n : Nat} {f g : Nat → Int} {e : En} : kZp ([vecP n f, vecP n g], e) = some ((List.range n).map fun i => .tuple [.int (f i), .int (g i)], e) := by
  unfold vecP
  rw [kZp_e, zip_vec]
theorem vec_fold {n : Nat} {f : Nat → Int} : .list (((List.range n).map f).map PyData.int) = vecP n f := by
  unfold vecP
  rw [List.map_map]; rfl
theorem gIx_vec {n i : Nat} {f : Nat → Int} (h : i < n) : gIx (vecP n f) (.int (i : Int)) = some (.int (f i)) := atI_map h
end Dn
set_option Elab.async false
set_option linter.all false
set_option maxRecDepth 100000
namespace Dn
open PySem PySem.Spec PyProof.Rows L2
/-- the least common multiple of the denominators -/
def lcms (l : List Rat) : Nat := l.foldl (fun b q => Nat.lcm b q.den) 1
/-- q in parts of B -/
def sh (B : Nat) (q : Rat) : Int := q.num * ((B / q.den : Nat) : Int)
/-- a row of shares -/
structure RowC (c : Nat) (r : List Rat) : Prop where
  len : 1 ≤ r.length ∧ r.length ≤ 6
  pos : ∀ q ∈ r, 0 < q
  le1 : ∀ q ∈ r, q ≤ 1
  den : ∀ q ∈ r, q.den ≤ c
def rB (r : List Rat) : Nat := lcms r
def rs (r : List Rat) (k : Nat) : Int := (r.map (sh (rB r))).getD k 0
def rM (r : List Rat) : Nat → Nat → Int := rowEntry (rB r : Int) (r.map (sh (rB r)))
def e0 (i : Nat) : Int := if i = 0 then 1 else 0
def rv (r : List Rat) (y k : Nat) : Int := ser (rM r) r.length e0 y k
section
variable {r : List Rat}
/-- sums of fractions -/
def qsN (f : Nat → Rat) : Nat → Rat
  | 0 => 0
  | n + 1 => qsN f n + f n
theorem qsN_congr {f g : Nat → Rat} : ∀ {n : Nat}, (∀ i, i < n → f i = g i) → qsN f n = qsN g n
  | 0, _ => rfl
  | n + 1, h => by rw [qsN, qsN, qsN_congr fun i hi => h i (by omega), h n (by omega)]
theorem qsN_add (f g : Nat → Rat) : ∀ n, qsN (fun i => f i + g i) n = qsN f n + qsN g n
  | 0 => by show (0 : Rat) = 0 + 0; grind
  | n + 1 => by rw [qsN, qsN, qsN, qsN_add f g n]; grind
theorem qsN_int (f : Nat → Int) (g : Nat → Rat) (D : Rat) (m : Nat) (h : ∀ i, i < m → g i * D = (f i : Rat)) : qsN g m * D = (sumN f m : Rat) := by
  induction m with
  | zero => show (0 : Rat) * D = ((0 : Int) : Rat); rw [Rat.zero_mul]; rfl
  | succ m ih =>
    rw [qsN, sumN, Rat.intCast_add, ← ih fun i hi => h i (by omega), ← h m (by omega)]
    grind
end
theorem rep_one' (n : Nat) (v : PyData) : (List.replicate n [v]).flatten = List.replicate n v := by
  induction n with
  | zero => rfl
  | succ n ih => rw [List.replicate_succ, List.flatten_cons, ih, List.replicate_succ]; rfl
theorem RowC.num {r : List Rat} (h : RowC 1000 r) : ∀ q ∈ r, q.num.natAbs < 2 ^ 60000 := fun q hq => by
  have h0 := numQ_pos.mpr (h.pos q hq)
  have h1 := num_le_den.mpr (h.le1 q hq)
  have h2 := h.den q hq
  have : (1001 : Nat) ≤ 2 ^ 60000 := Nat.le_trans (by decide : 1001 ≤ 2 ^ 10) (Nat.pow_le_pow_right (by decide) (by decide))
  omega
end Dn
set_option Elab.async false
set_option linter.all false
set_option maxRecDepth 100000
namespace Dn
open PySem PySem.Spec PyProof.Rows L2
def tlE (F : Nat → Rat) (b : Nat) : PyData := .tuple [.int (b : Int), encQ (F b)]
def tlI (F : Nat → Rat) (n : Nat) : List Nat := (List.range n).filter fun b => decide (0 < F b)
def tl (F : Nat → Rat) (n : Nat) : PyData := .list ((tlI F n).map (tlE F))
theorem cut_to {l : List PyData} {n : Nat} : cutD l none (some (n : Int)) = l.take n := by
  unfold cutD
  rw [HT.sIx_nat, HT.sIx_none, Nat.sub_zero, List.drop_zero]
  by_cases h : n ≤ l.length
  · rw [Nat.min_eq_left h]
  · rw [Nat.min_eq_right (by omega), List.take_length, List.take_of_length_le (by omega)]
theorem cut_from {l : List PyData} {n : Nat} : cutD l (some (n : Int)) none = l.drop n := by
  unfold cutD
  rw [HT.sIx_nat, HT.sIx_none]
  by_cases h : n ≤ l.length
  · rw [Nat.min_eq_left h, List.take_of_length_le (by simp)]
  · rw [Nat.min_eq_right (by omega), Nat.sub_self, List.take_zero, List.drop_eq_nil_of_le (by omega)]
end Dn
set_option Elab.async false
set_option linter.all false
set_option maxRecDepth 100000
namespace Dn
open PySem PySem.Spec PyProof.Rows L2
def qs (l : List Rat) : Rat := l.foldl (· + ·) 0
theorem qs_nil : qs [] = 0 := rfl
theorem qs_from (l : List Rat) : ∀ z : Rat, l.foldl (· + ·) z = z + qs l := by
  induction l with
  | nil => intro z; show z = z + 0; grind
  | cons q l ih =>
    intro z
    show l.foldl (· + ·) (z + q) = z + l.foldl (· + ·) (0 + q)
    rw [ih (z + q), ih (0 + q)]
    grind
theorem qs_append (a b : List Rat) : qs (a ++ b) = qs a + qs b := by
  unfold qs
  rw [List.foldl_append, qs_from b]
  rfl
theorem qs_cons (q : Rat) (l : List Rat) : qs (q :: l) = q + qs l := by
  have := qs_append [q] l
  rw [show qs [q] = q by show (0 : Rat) + q = q; grind] at this
  exact this
theorem qsN_first (f : Nat → Rat) : ∀ n, qsN f (n + 1) = f 0 + qsN (fun i => f (i + 1)) n
  | 0 => by show (0 : Rat) + f 0 = f 0 + 0; grind
  | n + 1 => by rw [qsN, qsN_first f n, qsN]; grind
theorem qsN_swap (f : Nat → Nat → Rat) (m : Nat) : ∀ n, qsN (fun i => qsN (f i) m) n = qsN (fun j => qsN (fun i => f i j) n) m
  | 0 => by
    show (0 : Rat) = qsN (fun _ => 0) m
    have : ∀ m, qsN (fun _ => (0 : Rat)) m = 0 := by
      intro m
      induction m with
      | zero => rfl
      | succ m ih => rw [qsN, ih]; grind
    rw [this]
  | n + 1 => by
    rw [qsN, qsN_swap f m n]
    show _ = qsN (fun j => qsN (fun i => f i j) n + f n j) m
    rw [qsN_add]
theorem qsN_const (c : Rat) : ∀ n : Nat, qsN (fun _ => c) n = (n : Rat) * c
  | 0 => by show (0 : Rat) = ((0 : Nat) : Rat) * c; rw [show ((0 : Nat) : Rat) = 0 from rfl]; grind
  | n + 1 => by
    rw [qsN, qsN_const c n]
    have : (((n + 1 : Nat)) : Rat) = (n : Rat) + 1 := by rw [Rat.natCast_add]; rfl
    rw [this]; grind
theorem qsN_neg (f : Nat → Rat) : ∀ n, qsN (fun i => - f i) n = - qsN f n
  | 0 => by show (0 : Rat) = -0; grind
  | n + 1 => by rw [qsN, qsN_neg f n, qsN]; grind
theorem qsN_sub (f g : Nat → Rat) (n : Nat) : qsN (fun i => f i - g i) n = qsN f n - qsN g n := by
  rw [show (fun i => f i - g i) = fun i => f i + - g i by funext i; grind, qsN_add, qsN_neg]; grind
theorem qsN_nonneg {f : Nat → Rat} : ∀ {n : Nat}, (∀ i, i < n → 0 ≤ f i) → 0 ≤ qsN f n
  | 0, _ => Rat.le_refl
  | n + 1, h => by
    have h1 := qsN_nonneg (f := f) (n := n) fun i hi => h i (by omega)
    have h2 := h n (by omega)
    rw [qsN]; grind
/-- a bundle of bounds for sums -/
structure Bd (D N : Nat) (l : List Rat) : Prop where
  pt : ∀ q ∈ l, Pt D q
  lo : ∀ q ∈ l, 0 ≤ q
  hi : ∀ q ∈ l, q ≤ (N : Rat)
theorem Bd.take {D N : Nat} {l : List Rat} (h : Bd D N l) (i : Nat) : Bd D N (l.take i) :=
  ⟨fun q hq => h.pt q (List.mem_of_mem_take hq), fun q hq => h.lo q (List.mem_of_mem_take hq), fun q hq => h.hi q (List.mem_of_mem_take hq)⟩
theorem Bd.append {D N : Nat} {l k : List Rat} (h : Bd D N l) (h2 : Bd D N k) : Bd D N (l ++ k) :=
  ⟨fun q hq => (List.mem_append.mp hq).elim (h.pt q) (h2.pt q), fun q hq => (List.mem_append.mp hq).elim (h.lo q) (h2.lo q), fun q hq => (List.mem_append.mp hq).elim (h.hi q) (h2.hi q)⟩
theorem Bd.sum {D N : Nat} : ∀ {l : List Rat}, Bd D N l → Pt D (qs l) ∧ 0 ≤ qs l ∧ qs l ≤ ((l.length * N : Nat) : Rat)
  | [], _ => ⟨Pt.zero, Rat.le_refl, by rw [List.length_nil, Nat.zero_mul]; exact Rat.le_refl⟩
  | q :: l, h => by
    obtain ⟨h1, h2, h3⟩ := Bd.sum (l := l) ⟨fun q hq => h.pt q (List.mem_cons_of_mem _ hq), fun q hq => h.lo q (List.mem_cons_of_mem _ hq), fun q hq => h.hi q (List.mem_cons_of_mem _ hq)⟩
    have a1 := h.pt q List.mem_cons_self
    have a2 := h.lo q List.mem_cons_self
    have a3 := h.hi q List.mem_cons_self
    rw [qs_cons]
    refine ⟨a1.add h1, by grind, ?_⟩
    rw [List.length_cons, Nat.succ_mul, Rat.natCast_add]
    grind
end Dn
set_option Elab.async false
set_option linter.all false
set_option maxRecDepth 100000
namespace Dn
open PySem PySem.Spec PyProof.Rows L2
end Dn
set_option Elab.async false
set_option linter.all false
set_option maxRecDepth 100000
namespace Dn
open PySem PySem.Spec PyProof.Rows L2
/-- n more pulls are within bounds -/
def KegOk (n : Nat) (ks : List PyData) : Prop := ∃ a b c : Int, ks = [.int a, .int b, .int c] ∧ 0 ≤ a ∧ 0 ≤ b ∧ b ≤ 2 ^ 100 ∧ 0 ≤ c ∧ c + n ≤ 1000000
theorem KegOk.mono {n m : Nat} {ks : List PyData} (h : KegOk n ks) (hm : m ≤ n) : KegOk m ks := by
  obtain ⟨a, b, c, h1, h2, h3, h4, h5, h6⟩ := h
  exact ⟨a, b, c, h1, h2, h3, h4, h5, by omega⟩
theorem fmod_lt {a b : Int} (h : 0 < b) : 0 ≤ a.fmod b ∧ a.fmod b < b := by
  rw [Int.fmod_eq_emod_of_nonneg _ (by omega)]
  exact ⟨Int.emod_nonneg _ (by omega), Int.emod_lt_of_pos _ h⟩
theorem fdiv_nonneg {a b : Int} (h : 0 < b) (ha : 0 ≤ a) : 0 ≤ a.fdiv b := by
  rw [Int.fdiv_eq_ediv_of_nonneg _ (by omega)]
  exact Int.ediv_nonneg ha (by omega)
theorem powOk_lt {i : Int} (h : i.natAbs < 2 ^ 1000) : powOk i 3 = true := by
  unfold powOk
  rw [Bool.and_eq_true]
  refine ⟨by decide, decide_eq_true ?_⟩
  have := log_of h (by decide)
  show (i.natAbs.log2 + 1) * 3 ≤ 100000000
  omega
end Dn
set_option Elab.async false
set_option linter.all false
set_option maxRecDepth 100000
namespace Dn
open PySem PySem.Spec PyProof.Rows L2
/-- n casks; the table t (row, column), what comes in c, what is drawn s; all in parts of W -/
structure CelOk (n W V : Nat) (t : Nat → Nat → Rat) (c s : Nat → Rat) : Prop where
  n1 : 1 ≤ n
  n8 : n ≤ 8
  W1 : 0 < W
  W9 : W < 2 ^ 1000
  V1 : 0 < V
  V9 : V < 2 ^ 1000
  tp : ∀ i j, i < n → j < n → Pt W (t i j)
  t0 : ∀ i j, i < n → j < n → 0 ≤ t i j
  t1 : ∀ j, j < n → qsN (fun i => t i j) n ≤ 1
  sp : ∀ j, j < n → Pt W (s j)
  s0 : ∀ j, j < n → 0 ≤ s j
  s1 : ∀ j, j < n → s j ≤ 1
  cp : ∀ j, j < n → Pt V (c j)
  c0 : ∀ j, j < n → 0 ≤ c j
  c1 : ∀ j, j < n → c j ≤ 100
section
variable {n W V : Nat} {t : Nat → Nat → Rat} {c s : Nat → Rat}
theorem qsN_mulL (a : Rat) (f : Nat → Rat) : ∀ n, qsN (fun i => a * f i) n = a * qsN f n
  | 0 => by show (0 : Rat) = a * 0; grind
  | n + 1 => by rw [qsN, qsN_mulL a f n, qsN]; grind
theorem qsN_mulR (a : Rat) (f : Nat → Rat) : ∀ n, qsN (fun i => f i * a) n = qsN f n * a
  | 0 => by show (0 : Rat) = 0 * a; grind
  | n + 1 => by rw [qsN, qsN_mulR a f n, qsN]; grind
end
end Dn
set_option Elab.async false
set_option linter.all false
set_option maxRecDepth 100000
namespace Dn
open PySem PySem.Spec PyProof.Rows L2
def cU (n : Nat) (c : Nat → Rat) : Nat := lcms ((List.range n).map c)
def cI (n : Nat) (c : Nat → Rat) (j : Nat) : Int := sh (cU n c) (c j)
/-- a series of rows of fractions, and in integers -/
def qser (n : Nat) (t : Nat → Nat → Rat) (c : Nat → Rat) : Nat → Nat → Rat
  | 0 => c
  | y + 1 => fun k => qsN (fun j => t k j * qser n t c y j) n
/-- no more than at first -/
theorem qser_nonneg {n : Nat} {t : Nat → Nat → Rat} {c : Nat → Rat} (ht : ∀ i j, i < n → j < n → 0 ≤ t i j) (hc : ∀ j, j < n → 0 ≤ c j) : ∀ y k, k < n → 0 ≤ qser n t c y k
  | 0, k, hk => hc k hk
  | y + 1, k, hk => qsN_nonneg fun j hj => Rat.mul_nonneg (ht k j hk hj) (qser_nonneg ht hc y j hj)
theorem qsN_le_qsN {f g : Nat → Rat} : ∀ {n : Nat}, (∀ i, i < n → f i ≤ g i) → qsN f n ≤ qsN g n
  | 0, _ => Rat.le_refl
  | n + 1, h => by
    have h1 := qsN_le_qsN (f := f) (g := g) (n := n) fun i hi => h i (by omega)
    have h2 := h n (by omega)
    rw [qsN, qsN]; grind
theorem qsN_ge {f : Nat → Rat} : ∀ {n : Nat}, (∀ i, i < n → 0 ≤ f i) → ∀ i, i < n → f i ≤ qsN f n
  | 0, _, i, hi => by omega
  | n + 1, h, i, hi => by
    have h0 : 0 ≤ qsN f n := qsN_nonneg fun i hi => h i (by omega)
    have h1 := h n (by omega)
    rw [qsN]
    by_cases e : i = n
    · subst e; grind
    · have := qsN_ge (fun i hi => h i (by omega)) i (show i < n by omega); grind
theorem div_mul {a : Int} {D : Nat} (h : 0 < D) : Rat.divInt a (D : Int) * ((D : Nat) : Rat) = (a : Rat) := by
  have := natQ_ne h
  rw [Rat.divInt_eq_div]
  have e : (((D : Nat) : Int) : Rat) = (D : Rat) := rfl
  rw [e]
  grind
end Dn
set_option Elab.async false
set_option linter.all false
set_option maxRecDepth 100000
namespace Dn
open PySem PySem.Spec PyProof.Rows L2
structure DrOk (n b u : Nat) (col : Nat → Nat → Int) (into taps : Nat → Int) : Prop where
  n1 : 1 ≤ n
  n8 : n ≤ 8
  b1 : 1 ≤ b
  b9 : b < 2 ^ 33
  u1 : 1 ≤ u
  u9 : u ≤ 20
  c0 : ∀ j i, j < n → i < n → 0 ≤ col j i
  c1 : ∀ j, j < n → sumN (col j) n ≤ (b : Int)
  i0 : ∀ j, j < n → 0 ≤ into j
  i1 : ∀ j, j < n → into j ≤ 90 * (u : Int)
  t0 : ∀ j, j < n → 0 ≤ taps j
  t1 : ∀ j, j < n → taps j ≤ (b : Int)
def dt (b : Nat) (col : Nat → Nat → Int) (i j : Nat) : Rat := Rat.divInt (col j i) (b : Int)
def dv (u : Nat) (f : Nat → Int) (j : Nat) : Rat := Rat.divInt (f j) (u : Int)
end Dn
set_option Elab.async false
set_option linter.all false
set_option maxRecDepth 100000
namespace Dn
open PySem PySem.Spec PyProof.Rows L2
structure TabOk (n W : Nat) (t : Nat → Nat → Rat) : Prop where
  n1 : 1 ≤ n
  n8 : n ≤ 8
  W1 : 0 < W
  W9 : W < 2 ^ 1000
  tp : ∀ i j, i < n → j < n → Pt W (t i j)
  t0 : ∀ i j, i < n → j < n → 0 ≤ t i j
  t1 : ∀ j, j < n → qsN (fun i => t i j) n ≤ 1
section
variable {n W : Nat} {t : Nat → Nat → Rat}
theorem TabOk.of {V : Nat} {c s : Nat → Rat} (h : CelOk n W V t c s) : TabOk n W t := ⟨h.n1, h.n8, h.W1, h.W9, h.tp, h.t0, h.t1⟩
end
end Dn
set_option Elab.async false
set_option linter.all false
set_option maxRecDepth 100000
namespace Dn
open PySem PySem.Spec PyProof.Rows L2
theorem comp_kegI {α : Type} {tg : Tg} {t : Ft} {a : Fe} {vs : List Nat} {S : List PyData → En} {E : α → PyData} {R : α → PyData → Prop} {c : Nat} : ∀ {xs : List α} {n : Nat} {ks : List PyData}, KegOk (n + c * xs.length) ks →
    (∀ (n : Nat) (ks : List PyData), KegOk (n + c) ks → ∀ y ∈ xs, ∃ d ks' e1 e2 e3, R y d ∧ KegOk n ks' ∧ tg (E y) (S ks) = some e1 ∧ t e1 = some (true, e2) ∧ a e2 = some (d, e3) ∧ wipeE e3 vs = S ks') →
    ∃ ds ks', compL tg t a vs (xs.map E) (S ks) = some (ds, S ks') ∧ KegOk n ks' ∧ ds.length = xs.length ∧ ∀ (i : Nat) (y : α), xs[i]? = some y → ∃ d, ds[i]? = some d ∧ R y d
  | [], n, ks, hk, _ => ⟨[], ks, rfl, hk, rfl, fun i y h => by simp at h⟩
  | y :: xs, n, ks, hk, h => by
    rw [List.length_cons, Nat.mul_succ, ← Nat.add_assoc] at hk
    obtain ⟨d, k1, e1, e2, e3, r, h1, h2, h3, h4, h5⟩ := h _ _ hk y List.mem_cons_self
    obtain ⟨ds, k2, h6, h7, h8, h9⟩ := comp_kegI (xs := xs) h1 fun n ks hk y hy => h n ks hk y (List.mem_cons_of_mem _ hy)
    refine ⟨d :: ds, k2, ?_, h7, by simp [h8], fun i z hz => ?_⟩
    · rw [List.map_cons]
      unfold compL
      rw [h2]
      show (t e1).bind _ = _
      rw [h3]
      show (a e2).bind _ = _
      rw [h4]
      show (compL tg t a vs (xs.map E) (wipeE e3 vs)).map _ = _
      rw [h5, h6]
      rfl
    · cases i with
      | zero =>
        simp at hz
        subst hz
        exact ⟨d, rfl, r⟩
      | succ i => simpa using h9 i z (by simpa using hz)
open Classical in
theorem list_ofI {α : Type} [Inhabited α] {E : α → PyData} {P : Nat → α → Prop} {ds : List PyData} {n : Nat} (hl : ds.length = n) (h : ∀ i, i < n → ∃ d, ds[i]? = some d ∧ ∃ a, d = E a ∧ P i a) : ∃ g : Nat → α, ds = (List.range n).map (fun j => E (g j)) ∧ ∀ j, j < n → P j (g j) := by
  have h' : ∀ i, i < n → ∃ a, ds[i]? = some (E a) ∧ P i a := fun i hi => by
    obtain ⟨d, h1, a, h2, h3⟩ := h i hi
    subst h2
    exact ⟨a, h1, h3⟩
  refine ⟨fun i => if hi : i < n then Classical.choose (h' i hi) else default, ?_, fun j hj => ?_⟩
  · apply List.ext_getElem?
    intro i
    by_cases hi : i < n
    · rw [List.getElem?_map, List.getElem?_range hi, (Classical.choose_spec (h' i hi)).1]
      simp only [Option.map_some, dif_pos hi]
    · rw [List.getElem?_eq_none (by omega), List.getElem?_eq_none (by simp; omega)]
  · simp only [dif_pos hj]
    exact (Classical.choose_spec (h' j hj)).2
theorem range_at {n i : Nat} (h : i < n) : (List.range n)[i]? = some i := List.getElem?_range h
theorem rep_int {n : Nat} {x : Int} : (List.replicate n [PyData.int x]).flatten = (List.range n).map fun _ => PyData.int x := by
  rw [rep_one', List.map_const', List.length_range]
end Dn
set_option Elab.async false
set_option linter.all false
set_option maxRecDepth 100000
namespace Dn
open PySem PySem.Spec PyProof.Rows L2
def abc : Str := "abcdefghijklmnopqrstuvwxyz"
def KindOk (s : Str) : Prop := 1 ≤ s.length ∧ s.length ≤ 8 ∧ ∀ c ∈ s.cps.toList, c ∈ abc.cps.toList
instance (s : Str) : Decidable (KindOk s) := inferInstanceAs (Decidable (_ ∧ _))
theorem KindOk.ok {s : Str} (h : KindOk s) : PyData.strOk s = true := by
  unfold PyData.strOk
  rw [Array.all_eq_true']
  intro c hc
  have h1 := h.2.2 c (by simpa using hc)
  have h2 : ∀ c ∈ abc.cps.toList, c < 1114112 := by decide +kernel
  exact decide_eq_true (h2 c h1)
end Dn
set_option Elab.async false
set_option linter.all false
set_option maxRecDepth 100000
namespace Dn
open PySem PySem.Spec PyProof.Rows L2
end Dn
set_option Elab.async false
set_option linter.all false
set_option maxRecDepth 100000
namespace Dn
open PySem PySem.Spec PyProof.Rows L2
def Sim : Nat → PyData → Prop
  | 0, _ => False
  | _ + 1, .int _ => True
  | _ + 1, .none => True
  | _ + 1, .str s => PyData.strOk s = true
  | r + 1, .list ds => ∀ d ∈ ds, Sim r d
  | r + 1, .tuple ds => ∀ d ∈ ds, Sim r d
  | _ + 1, _ => False
theorem lay_all : ∀ {ds : List PyData} {r : Nat}, (∀ d ∈ ds, d.canLay0 = true ∧ d.depth ≤ r) → PyData.canLayAll0 ds = true ∧ PyData.depthAll ds ≤ r
  | [], _, _ => by simp [PyData.canLayAll0, PyData.depthAll]
  | d :: ds, r, h => by
    have h1 := h d List.mem_cons_self
    have h2 := lay_all (ds := ds) (r := r) fun d hd => h d (List.mem_cons_of_mem _ hd)
    simp only [PyData.canLayAll0, PyData.depthAll, h1.1, h2.1]
    exact ⟨rfl, Nat.max_le.mpr ⟨h1.2, h2.2⟩⟩
theorem Sim.lay : ∀ {r : Nat} {d : PyData}, Sim r d → d.canLay0 = true ∧ d.depth ≤ r
  | 0, _, h => h.elim
  | r + 1, .int _, _ => by simp [PyData.canLay0, PyData.depth]
  | r + 1, .none, _ => by simp [PyData.canLay0, PyData.depth]
  | r + 1, .str s, h => by
    have : PyData.strOk s = true := h
    simp [PyData.canLay0, PyData.depth, this]
  | r + 1, .list ds, h => by
    have := lay_all (ds := ds) (r := r) fun d hd => Sim.lay (r := r) (h d hd)
    simp only [PyData.canLay0, PyData.depth, this.1]
    exact ⟨trivial, by omega⟩
  | r + 1, .tuple ds, h => by
    have := lay_all (ds := ds) (r := r) fun d hd => Sim.lay (r := r) (h d hd)
    simp only [PyData.canLay0, PyData.depth, this.1]
    exact ⟨trivial, by omega⟩
  | _ + 1, .bool _, h => h.elim
  | _ + 1, .dict _, h => h.elim
theorem Sim.shaped {r : Nat} {d : PyData} (h : Sim r d) (hr : r ≤ 64) : SeqAt.shaped d = true := by
  unfold SeqAt.shaped
  rw [h.lay.1, decide_eq_true (Nat.le_trans h.lay.2 hr)]
  rfl
theorem eqAll {r : Nat} (ih : ∀ {d e : PyData}, Sim r d → Sim r e → (PyData.eqv d e = true ↔ d = e)) : ∀ {xs ys : List PyData}, (∀ d ∈ xs, Sim r d) → (∀ d ∈ ys, Sim r d) → (PyData.eqvAll xs ys = true ↔ xs = ys)
  | [], [], _, _ => by simp [PyData.eqvAll]
  | [], _ :: _, _, _ => by simp [PyData.eqvAll]
  | _ :: _, [], _, _ => by simp [PyData.eqvAll]
  | x :: xs, y :: ys, h, h2 => by
    have h3 := ih (h x List.mem_cons_self) (h2 y List.mem_cons_self)
    have h4 := eqAll ih (xs := xs) (ys := ys) (fun d hd => h d (List.mem_cons_of_mem _ hd)) fun d hd => h2 d (List.mem_cons_of_mem _ hd)
    simp only [PyData.eqvAll, Bool.and_eq_true, h3, h4, List.cons.injEq]
theorem Sim.eqv : ∀ {r : Nat} {d e : PyData}, Sim r d → Sim r e → (PyData.eqv d e = true ↔ d = e)
  | 0, _, _, h, _ => h.elim
  | r + 1, d, e, h, h2 => by
    cases d with
    | bool _ => exact h.elim
    | dict _ => exact h.elim
    | int i => cases e <;> first | exact h2.elim | simp [PyData.eqv]
    | none => cases e <;> first | exact h2.elim | simp [PyData.eqv]
    | str s => cases e <;> first | exact h2.elim | simp [PyData.eqv]
    | list xs =>
      cases e with
      | list ys =>
        have := eqAll (r := r) (fun a b => Sim.eqv a b) (xs := xs) (ys := ys) h h2
        simp only [PyData.eqv, this, PyData.list.injEq]
      | bool _ => exact h2.elim
      | dict _ => exact h2.elim
      | _ => simp [PyData.eqv]
    | tuple xs =>
      cases e with
      | tuple ys =>
        have := eqAll (r := r) (fun a b => Sim.eqv a b) (xs := xs) (ys := ys) h h2
        simp only [PyData.eqv, this, PyData.tuple.injEq]
      | bool _ => exact h2.elim
      | dict _ => exact h2.elim
      | _ => simp [PyData.eqv]
section
variable {r : Nat} {d e : PyData}
theorem gEq_gen (d e : PyData) (hd : SeqAt.shaped d = true) (he : SeqAt.shaped e = true) : gEq d e = some (.bool (PyData.eqv d e)) := by
  cases d <;> cases e <;> simp [gEq, hd, he, eqv_int]
theorem gNe_gen (d e : PyData) (hd : SeqAt.shaped d = true) (he : SeqAt.shaped e = true) : gNe d e = some (.bool (!PyData.eqv d e)) := by
  cases d <;> cases e <;> simp [gNe, hd, he, eqv_int]
theorem gEq_T (h : Sim r d) (hr : r ≤ 64) : gEq d d = some (.bool true) := by
  rw [gEq_gen d d (h.shaped hr) (h.shaped hr), (h.eqv h).mpr rfl]
theorem gEq_D {p : Prop} [Decidable p] (h : Sim r d) (h2 : Sim r e) (hr : r ≤ 64) (hp : d = e ↔ p) : gEq d e = some (.bool (decide p)) := by
  rw [gEq_gen d e (h.shaped hr) (h2.shaped hr)]
  congr 2
  rw [Bool.eq_iff_iff, h.eqv h2, hp, decide_eq_true_iff]
end
theorem Sim.nil : Sim 2 (.list []) := by
  intro d hd
  simp at hd
end Dn
set_option Elab.async false
set_option linter.all false
set_option maxRecDepth 100000
namespace Dn
open PySem PySem.Spec PyProof.Rows L2
/-- all that s leads to by g, of the numbers below n -/
inductive Rch (n : Nat) (g : Nat → Nat → Bool) (s : Nat → Bool) : Nat → Prop
  | start {a : Nat} : a < n → s a = true → Rch n g s a
  | step {a b : Nat} : Rch n g s a → b < n → g a b = true → Rch n g s b
section
variable {n : Nat} {g : Nat → Nat → Bool} {s : Nat → Bool}
theorem Rch.lt {a : Nat} (h : Rch n g s a) : a < n := by cases h <;> assumption
noncomputable def rchB (n : Nat) (g : Nat → Nat → Bool) (s : Nat → Bool) (b : Nat) : Bool := @decide (Rch n g s b) (Classical.propDecidable _)
theorem rchB_iff {b : Nat} : rchB n g s b = true ↔ Rch n g s b := by unfold rchB; exact @decide_eq_true_iff _ (Classical.propDecidable _)
/-- .. as a list that rises -/
noncomputable def rchL (n : Nat) (g : Nat → Nat → Bool) (s : Nat → Bool) : List Nat := (List.range n).filter (rchB n g s)
theorem mem_rchL {b : Nat} : b ∈ rchL n g s ↔ Rch n g s b := by
  unfold rchL
  rw [List.mem_filter, List.mem_range, rchB_iff]
  exact ⟨fun h => h.2, fun h => ⟨h.lt, h⟩⟩
/-- a list on the way -/
structure OnWay (n : Nat) (g : Nat → Nat → Bool) (s : Nat → Bool) (f : List Nat) : Prop where
  nd : f.Nodup
  st : ∀ a, a < n → s a = true → a ∈ f
  rc : ∀ a, a ∈ f → Rch n g s a
def Shut (n : Nat) (g : Nat → Nat → Bool) (f : List Nat) : Prop := ∀ a, a ∈ f → ∀ b, b < n → g a b = true → b ∈ f
theorem OnWay.mem {f : List Nat} (h : OnWay n g s f) (hs : Shut n g f) (b : Nat) : b ∈ f ↔ Rch n g s b := by
  refine ⟨h.rc b, fun hb => ?_⟩
  induction hb with
  | start h1 h2 => exact h.st _ h1 h2
  | step h1 h2 h3 ih => exact hs _ ih _ h2 h3
theorem OnWay.len {f : List Nat} (h : OnWay n g s f) : f.length ≤ n := by
  have := h.nd.length_le_of_subset (l₂ := List.range n) fun a ha => List.mem_range.mpr (h.rc a ha).lt
  rwa [List.length_range] at this
end
end Dn
set_option Elab.async false
set_option linter.all false
set_option maxRecDepth 100000
namespace Dn
open PySem PySem.Spec PyProof.Rows L2
section
variable {n : Nat} {g : Nat → Nat → Bool}
/-- what one cask leads to -/
noncomputable def oneL (n : Nat) (g : Nat → Nat → Bool) (a : Nat) : List Nat := rchL n g fun b => decide (b = a)
theorem mem_oneL {a b : Nat} : b ∈ oneL n g a ↔ Rch n g (fun b => decide (b = a)) b := mem_rchL
theorem one_lt {a b : Nat} (h : b ∈ oneL n g a) : b < n := (mem_oneL.mp h).lt
theorem one_self {a : Nat} (h : a < n) : a ∈ oneL n g a := mem_oneL.mpr (.start h (decide_eq_true rfl))
theorem rch_trans {s : Nat → Bool} {a b : Nat} (h : Rch n g s a) (h2 : b ∈ oneL n g a) : Rch n g s b := by
  have h3 := mem_oneL.mp h2
  clear h2
  induction h3 with
  | start h1 h2 => rw [of_decide_eq_true h2]; exact h
  | step h1 h2 h3 ih => exact .step ih h2 h3
theorem one_trans {a b c : Nat} (h : b ∈ oneL n g a) (h2 : c ∈ oneL n g b) : c ∈ oneL n g a := mem_oneL.mpr (rch_trans (mem_oneL.mp h) h2)
theorem one_step {a b c : Nat} (h : b ∈ oneL n g a) (hc : c < n) (h2 : g b c = true) : c ∈ oneL n g a := mem_oneL.mpr (.step (mem_oneL.mp h) hc h2)
theorem one_len (a : Nat) : (oneL n g a).length ≤ n := by
  have := List.length_filter_le (rchB n g fun b => decide (b = a)) (List.range n)
  rwa [List.length_range] at this
theorem one_nodup (a : Nat) : (oneL n g a).Nodup := List.Nodup.sublist List.filter_sublist List.nodup_range
/-- what comes back from all that it leads to, and of which nothing is lost -/
def Grown (n : Nat) (g : Nat → Nat → Bool) (kept come : Nat → Bool) (k : Nat) : Prop := come k = true ∧ (∀ a ∈ oneL n g k, k ∈ oneL n g a) ∧ ∀ a ∈ oneL n g k, kept a = true
/-- casks that keep all and lead to such only lead to some that grow -/
theorem grown_of {kept : Nat → Bool} (S : Nat → Prop) (hk : ∀ a, S a → kept a = true) (hs : ∀ a b, S a → b < n → g a b = true → S b) : ∀ (m a : Nat), a < n → S a → (oneL n g a).length ≤ m → ∃ x, x < n ∧ S x ∧ (∀ b ∈ oneL n g x, x ∈ oneL n g b) ∧ ∀ b ∈ oneL n g x, kept b = true := by
  have hall : ∀ a, S a → ∀ b, b ∈ oneL n g a → S b := fun a ha b hb => by
    have h := mem_oneL.mp hb
    clear hb
    induction h with
    | start h1 h2 => rw [of_decide_eq_true h2]; exact ha
    | step h1 h2 h3 ih => exact hs _ _ ih h2 h3
  intro m
  induction m with
  | zero =>
    intro a ha _ hl
    have := List.length_pos_of_mem (one_self (g := g) ha)
    omega
  | succ m ih =>
    intro a ha hS hl
    by_cases hx : ∀ b ∈ oneL n g a, a ∈ oneL n g b
    · exact ⟨a, ha, hS, hx, fun b hb => hk b (hall a hS b hb)⟩
    · obtain ⟨b, hb, hab⟩ : ∃ b, b ∈ oneL n g a ∧ a ∉ oneL n g b := Classical.byContradiction fun z => hx fun b hb => Classical.byContradiction fun y => z ⟨b, hb, y⟩
      refine ih b (one_lt hb) (hall a hS b hb) ?_
      have hnd : (a :: oneL n g b).Nodup := List.nodup_cons.mpr ⟨hab, one_nodup b⟩
      have := hnd.length_le_of_subset (l₂ := oneL n g a) fun c hc => by
        rcases List.mem_cons.mp hc with rfl | h
        · exact one_self ha
        · exact one_trans hb h
      rw [List.length_cons] at this
      omega
end
end Dn
set_option Elab.async false
set_option linter.all false
set_option maxRecDepth 100000
namespace Dn
open PySem PySem.Spec PyProof.Rows L2
theorem qsN_zero' {f : Nat → Rat} {n : Nat} (h : ∀ i, i < n → f i = 0) : qsN f n = 0 := by
  rw [qsN_congr h, qsN_const]; grind
/-- u goes on by D, of length m -/
structure Rule (m : Nat) (D u : Nat → Rat) : Prop where
  one : D 0 = 1
  all : ∀ y, qsN (fun i => D i * u (y + m - i)) (m + 1) = 0
section
variable {m : Nat} {D u : Nat → Rat}
theorem Rule.next (h : Rule m D u) (y : Nat) : u (y + m) = - qsN (fun i => D (i + 1) * u (y + m - (i + 1))) m := by
  have e := h.all y
  rw [qsN_first] at e
  have e0 : D 0 * u (y + m - 0) = u (y + m) := by rw [h.one, Nat.sub_zero]; grind
  rw [e0] at e
  grind
theorem Rule.zero (h : Rule m D u) (h0 : ∀ i, i < m → u i = 0) : ∀ i, u i = 0 := by
  intro i
  induction i using Nat.strongRecOn with
  | ind i ih =>
    by_cases hi : i < m
    · exact h0 i hi
    · have e := h.next (i - m)
      rw [show i - m + m = i by omega] at e
      rw [e, qsN_zero' fun k hk => by rw [ih (i - (k + 1)) (by omega)]; grind]
      grind
/-- shifted and added ones go on by the same rule -/
theorem Rule.comb (h : Rule m D u) (c : Nat → Rat) (s : Nat → Nat) (q : Nat) : Rule m D fun y => qsN (fun j => c j * u (y + s j)) q := by
  refine ⟨h.one, fun y => ?_⟩
  rw [qsN_congr (g := fun i => qsN (fun j => c j * (D i * u (y + s j + m - i))) q) fun i hi => by
    try dsimp only
    rw [← qsN_mulL]
    refine qsN_congr fun j _ => ?_
    rw [show y + m - i + s j = y + s j + m - i by omega]
    grind, qsN_swap]
  refine qsN_zero' fun j _ => ?_
  rw [qsN_mulL, h.all (y + s j)]
  grind
/-- what is so at the first ones is so for ever -/
theorem Rule.stay (h : Rule m D u) {C : Nat → Rat} {l n : Nat} (hm : m ≤ n) (h1 : C 0 = 1) (hc : ∀ y, y < n → qsN (fun i => C i * u (y + l - i)) (l + 1) = 0) : Rule l C u := by
  have e : ∀ y, qsN (fun i => C i * u (y + l - i)) (l + 1) = qsN (fun j => C j * u (y + (l - j))) (l + 1) := fun y => qsN_congr fun i hi => by rw [show y + l - i = y + (l - i) by omega]
  refine ⟨h1, fun y => ?_⟩
  rw [e]
  exact (h.comb C (fun j => l - j) (l + 1)).zero (fun i hi => by rw [← e]; exact hc i (by omega)) y
end
structure Least (n L : Nat) (u : Nat → Rat) : Prop where
  le : L ≤ n
  ex : ∃ D, Rule L D u
  min : ∀ m D, Rule m D u → L ≤ m
theorem Least.uniq {n n2 L L2 : Nat} {u : Nat → Rat} (h : Least n L u) (h2 : Least n2 L2 u) : L = L2 := by
  obtain ⟨D, hD⟩ := h.ex
  obtain ⟨D2, hD2⟩ := h2.ex
  have a := h.min _ _ hD2
  have b := h2.min _ _ hD
  omega
end Dn
set_option Elab.async false
set_option linter.all false
set_option maxRecDepth 100000
namespace Dn
open PySem PySem.Spec PyProof.Rows L2
def annQ (C u : Nat → Rat) (l j : Nat) : Rat := qsN (fun i => C i * u (j - i)) (l + 1)
structure Bm where
  C : Nat → Rat
  l : Nat
  B : Nat → Rat
  lB : Nat
  late : Nat
  fault : Rat
def bmC (s : Bm) (d : Rat) (i : Nat) : Rat := s.C i - d / s.fault * (if s.late ≤ i ∧ i < s.late + (s.lB + 1) then s.B (i - s.late) else 0)
def bmStep (u : Nat → Rat) (k : Nat) (s : Bm) : Bm :=
  if annQ s.C u s.l k = 0 then { s with late := s.late + 1 }
  else if 2 * s.l ≤ k then ⟨bmC s (annQ s.C u s.l k), k + 1 - s.l, s.C, s.l, 1, annQ s.C u s.l k⟩
  else ⟨bmC s (annQ s.C u s.l k), s.l, s.B, s.lB, s.late + 1, s.fault⟩
def dl0 (i : Nat) : Rat := if i = 0 then 1 else 0
def bm (u : Nat → Rat) : Nat → Bm
  | 0 => ⟨dl0, 0, dl0, 0, 1, 1⟩
  | k + 1 => bmStep u k (bm u k)
end Dn
set_option Elab.async false
set_option linter.all false
set_option maxRecDepth 100000
namespace Dn
open PySem PySem.Spec PyProof.Rows L2
def Zq (K : Nat) (q : Rat) : Prop := q.den < 2 ^ K ∧ q.num.natAbs < 2 ^ K
theorem Zq.up {K M : Nat} {q : Rat} (h : Zq K q) (hm : K ≤ M) : Zq M q := ⟨lt_pow h.1 hm, lt_pow h.2 hm⟩
end Dn
set_option Elab.async false
set_option linter.all false
set_option maxRecDepth 100000
namespace Dn
open PySem PySem.Spec PyProof.Rows L2
theorem zq_pos {a b : Int} {K : Nat} (hb : 0 < b) (ha : a.natAbs < 2 ^ K) (hb2 : b.natAbs < 2 ^ K) : Zq K (Rat.divInt a b) := by
  refine ⟨?_, ?_⟩
  · rw [Rat.den_divInt, if_neg (by omega)]
    exact Nat.lt_of_le_of_lt (Nat.div_le_self _ _) hb2
  · rw [← low_num hb, fdiv_nn]
    generalize hg : (Nat.gcd a.natAbs b.natAbs : Nat) = g
    have h0 : 0 < g := by
      rw [← hg]
      exact Nat.gcd_pos_of_pos_right _ (by omega)
    refine Nat.lt_of_le_of_lt ?_ ha
    have hd : (g : Int) ∣ a := by
      rw [← hg]
      exact Int.natAbs_dvd_natAbs.mp (by simpa using Nat.gcd_dvd_left a.natAbs b.natAbs)
    obtain ⟨k, rfl⟩ := hd
    rw [Int.mul_ediv_cancel_left _ (by omega), Int.natAbs_mul]
    exact Nat.le_mul_of_pos_left _ (by omega)
section
variable {K M : Nat} {x y : Rat}
theorem Zq.mul (hx : Zq K x) (hy : Zq M y) : Zq (K + M) (x * y) := by
  rw [← q_mul]
  exact zq_pos (Int.mul_pos den_posI den_posI) (by rw [Int.natAbs_mul]; exact mul_pow hx.2 hy.2) (by rw [Int.natAbs_mul]; exact mul_pow hx.1 hy.1)
theorem cross_lt {a b c d : Int} {K M : Nat} (ha : a.natAbs < 2 ^ K) (hb : b.natAbs < 2 ^ M) (hc : c.natAbs < 2 ^ M) (hd : d.natAbs < 2 ^ K) : (a * b - c * d).natAbs < 2 ^ (K + M + 1) := by
  have h1 : (a * b).natAbs < 2 ^ (K + M) := by rw [Int.natAbs_mul]; exact mul_pow ha hb
  have h2 : (c * d).natAbs < 2 ^ (K + M) := by rw [Int.natAbs_mul, Nat.add_comm]; exact mul_pow hc hd
  rw [Nat.pow_succ]
  omega
theorem Zq.sub (hx : Zq K x) (hy : Zq M y) : Zq (K + M + 1) (x - y) := by
  rw [← q_sub]
  exact zq_pos (Int.mul_pos den_posI den_posI) (cross_lt hx.2 hy.1 hy.2 hx.1) (by rw [Int.natAbs_mul]; exact lt_pow (mul_pow hx.1 hy.1) (by omega))
end
def Cd (Q b : Nat) (c : Rat) : Prop := ∃ z : Int, c * (Q : Rat) = (z : Rat) ∧ z.natAbs < 2 ^ b
structure BmSz (V b : Nat) (s : Bm) (Q QB : Nat) (F : Int) : Prop where
  q0 : 0 < Q
  q1 : Q < 2 ^ b
  p0 : 0 < QB
  p1 : QB < 2 ^ b
  f0 : F ≠ 0
  f1 : F.natAbs < 2 ^ b
  fe : s.fault * ((QB : Rat) * (V : Rat)) = (F : Rat)
  c : ∀ i, Cd Q b (s.C i)
  d : ∀ i, Cd QB b (s.B i)
theorem Cd.up {Q b m : Nat} {c : Rat} (h : Cd Q b c) (hm : b ≤ m) : Cd Q m c := by
  obtain ⟨z, h1, h2⟩ := h
  exact ⟨z, h1, lt_pow h2 hm⟩
theorem BmSz.up {V b m Q QB : Nat} {F : Int} {s : Bm} (h : BmSz V b s Q QB F) (hm : b ≤ m) : BmSz V m s Q QB F := ⟨h.q0, lt_pow h.q1 hm, h.p0, lt_pow h.p1 hm, h.f0, lt_pow h.f1 hm, h.fe, fun i => (h.c i).up hm, fun i => (h.d i).up hm⟩
def bsz (A : Nat) : Nat → Nat
  | 0 => A + 1
  | k + 1 => 2 * bsz A k + A + 6
end Dn
set_option Elab.async false
set_option linter.all false
set_option maxRecDepth 100000
namespace Dn
open PySem PySem.Spec PyProof.Rows L2
end Dn
set_option Elab.async false
set_option linter.all false
set_option maxRecDepth 100000
namespace Dn
open PySem PySem.Spec PyProof.Rows L2
theorem qsN_zero_of {f : Nat → Rat} : ∀ {n : Nat}, (∀ i, i < n → 0 ≤ f i) → qsN f n ≤ 0 → ∀ i, i < n → f i = 0 := fun {n} h0 h i hi => by
  have h1 := qsN_ge h0 i hi
  have h2 := h0 i hi
  grind
section
variable {n : Nat} {T : Nat → Nat → Rat} {kept come : Nat → Bool}
/-- which casks something comes into from each -/
def gT (T : Nat → Nat → Rat) (j i : Nat) : Bool := decide (0 < T i j)
structure Sub (n : Nat) (T : Nat → Nat → Rat) (kept : Nat → Bool) : Prop where
  t0 : ∀ i j, i < n → j < n → 0 ≤ T i j
  t1 : ∀ j, j < n → qsN (fun i => T i j) n ≤ 1
  k1 : ∀ j, j < n → (kept j = true ↔ qsN (fun i => T i j) n = 1)
end
end Dn
set_option Elab.async false
set_option linter.all false
set_option maxRecDepth 100000
namespace Dn
open PySem PySem.Spec PyProof.Rows L2
end Dn
set_option Elab.async false
set_option linter.all false
set_option maxRecDepth 100000
namespace Dn
open PySem PySem.Spec PyProof.Rows L2
theorem qsN_ints (f : Nat → Int) (m : Nat) : qsN (fun q => (f q : Rat)) m = ((sumN f m : Int) : Rat) := by
  have := qsN_int f (fun q => (f q : Rat)) 1 m fun i _ => by grind
  grind
end Dn
set_option Elab.async false
set_option linter.all false
set_option maxRecDepth 100000
namespace Dn
open PySem PySem.Spec PyProof.Rows L2
section
variable {n b u : Nat} {col : Nat → Nat → Int} {into taps : Nat → Int}
def drT (b : Nat) (col : Nat → Nat → Int) (taps : Nat → Int) : Nat → Nat → Rat := fun i j => dt b col i j * (1 - dv b taps j)
/-- parts over b * b -/
def drI (b : Nat) (col : Nat → Nat → Int) (taps : Nat → Int) (i j : Nat) : Int := col j i * ((b : Int) - taps j)
theorem drT_q (hb : 0 < b) (i j : Nat) : drT b col taps i j * ((b : Rat) * (b : Rat)) = ((drI b col taps i j : Int) : Rat) := by
  have e1 : dt b col i j * (b : Rat) = ((col j i : Int) : Rat) := div_mul hb
  have e2 : dv b taps j * (b : Rat) = ((taps j : Int) : Rat) := div_mul hb
  unfold drT drI
  rw [Rat.intCast_mul, Rat.intCast_sub, ← e1, ← e2]
  have : (((b : Int) : Int) : Rat) = (b : Rat) := rfl
  rw [this]
  grind
theorem bb_pos (hb : 0 < b) : (0 : Rat) < (b : Rat) * (b : Rat) := Rat.mul_pos (natQ_pos hb) (natQ_pos hb)
theorem mul_nn_iff {q B : Rat} (hB : 0 < B) : 0 ≤ q ↔ 0 ≤ q * B := ⟨fun h => Rat.mul_nonneg h (by grind), fun h => by
  refine Classical.byContradiction fun z => ?_
  have h2 := Rat.mul_pos (show 0 < - q by grind) hB
  grind⟩
theorem intQ_nn {z : Int} : (0 : Rat) ≤ (z : Rat) ↔ 0 ≤ z := by
  have := @Rat.intCast_le_intCast 0 z
  exact this
/-- what is left of one cask, over b * b -/
def drS (n b : Nat) (col : Nat → Nat → Int) (taps : Nat → Int) (j : Nat) : Int := sumN (col j) n * ((b : Int) - taps j)
theorem drS_q (hb : 0 < b) (j : Nat) : qsN (fun i => drT b col taps i j) n * ((b : Rat) * (b : Rat)) = ((drS n b col taps j : Int) : Rat) := by
  rw [← qsN_mulR, qsN_congr fun i _ => drT_q hb i j, qsN_ints]
  unfold drS drI
  congr 1
  rw [Int.mul_comm, ← sumN_mul]
  exact sumN_congr fun i _ => Int.mul_comm _ _
theorem drS_le (h : DrOk n b u col into taps) {j : Nat} (hj : j < n) : drS n b col taps j ≤ (b : Int) * (b : Int) := by
  have h1 := h.c1 j hj
  have h2 := h.t0 j hj
  have h3 := h.t1 j hj
  have h0 : 0 ≤ sumN (col j) n := sumN_nonneg fun i hi => h.c0 j i hj hi
  unfold drS
  exact Int.mul_le_mul h1 (by omega) (by omega) (by omega)
theorem bbI (b : Nat) : (((b : Int) * (b : Int) : Int) : Rat) = (b : Rat) * (b : Rat) := by
  rw [Rat.intCast_mul]; rfl
theorem DrOk.cel2 (h : DrOk n b u col into taps) : CelOk n (b * b) 1 (drT b col taps) (fun _ => 0) (fun _ => 0) := by
  have hb : 0 < b := h.b1
  have hp := bb_pos hb
  have t0 : ∀ i j, i < n → j < n → 0 ≤ drT b col taps i j := fun i j hi hj => (mul_nn_iff hp).mpr (by
    rw [drT_q hb]
    exact intQ_nn.mpr (Int.mul_nonneg (h.c0 j i hj hi) (by have := h.t1 j hj; omega)))
  exact {
    n1 := h.n1, n8 := h.n8, W1 := Nat.mul_pos hb hb
    W9 := Nat.lt_of_lt_of_le (Nat.mul_lt_mul_of_lt_of_le h.b9 (Nat.le_of_lt h.b9) (by decide)) (by rw [← Nat.pow_add]; exact Nat.pow_le_pow_right (by decide) (by decide))
    V1 := by decide, V9 := Nat.one_lt_two_pow (by decide)
    tp := fun i j _ _ => ⟨_, by rw [Rat.natCast_mul]; exact drT_q hb i j⟩
    t0 := t0
    t1 := fun j hj => by
      have e := drS_q (n := n) (col := col) (taps := taps) hb j
      have hle := drS_le h hj
      have h2 := Rat.intCast_le_intCast.mpr hle
      rw [bbI, ← e] at h2
      refine Classical.byContradiction fun z => ?_
      have h3 := Rat.mul_pos (show 0 < qsN (fun i => drT b col taps i j) n - 1 by grind) hp
      grind
    sp := fun _ _ => ⟨0, by grind⟩
    s0 := fun _ _ => by decide
    s1 := fun _ _ => by decide
    cp := fun _ _ => ⟨0, by grind⟩
    c0 := fun _ _ => by decide
    c1 := fun _ _ => by decide }
theorem DrOk.sub (h : DrOk n b u col into taps) : Sub n (drT b col taps) fun j => decide (qsN (fun i => drT b col taps i j) n = 1) := ⟨h.cel2.t0, h.cel2.t1, fun j _ => decide_eq_true_iff⟩
end
end Dn
set_option Elab.async false
set_option linter.all false
set_option maxRecDepth 100000
namespace Dn
open PySem PySem.Spec PyProof.Rows L2
end Dn
set_option Elab.async false
set_option linter.all false
set_option maxRecDepth 100000
namespace Dn
open PySem PySem.Spec PyProof.Rows L2
/-- the greatest of some numbers -/
theorem max_at {f : Nat → Rat} : ∀ {n : Nat}, 0 < n → ∃ a, a < n ∧ ∀ i, i < n → f i ≤ f a
  | 0, h => absurd h (by omega)
  | 1, _ => ⟨0, by omega, fun i hi => by rw [show i = 0 by omega]; exact Rat.le_refl⟩
  | n + 2, _ => by
    obtain ⟨a, ha, h⟩ := max_at (f := f) (n := n + 1) (by omega)
    by_cases c : f a ≤ f (n + 1)
    · refine ⟨n + 1, by omega, fun i hi => ?_⟩
      by_cases e : i = n + 1
      · rw [e]; exact Rat.le_refl
      · exact Rat.le_trans (h i (by omega)) c
    · refine ⟨a, by omega, fun i hi => ?_⟩
      by_cases e : i = n + 1
      · rw [e]; grind
      · exact h i (by omega)
section
variable {n : Nat} {T : Nat → Nat → Rat} {kept : Nat → Bool}
def allB : Nat → Bool := fun _ => true
/-- in a ring: all comes back, and nothing is lost -/
def Held (n : Nat) (T : Nat → Nat → Rat) (kept : Nat → Bool) (k : Nat) : Prop := Grown n (gT T) kept allB k
theorem Held.to {j i : Nat} (h : Held n T kept j) (hj : j < n) (hi : i < n) (ht : 0 < T i j) : Held n T kept i := by
  have hij : i ∈ oneL n (gT T) j := one_step (one_self hj) hi (decide_eq_true ht)
  have hji := h.2.1 i hij
  refine ⟨rfl, fun a ha => ?_, fun a ha => h.2.2 a (one_trans hij ha)⟩
  exact one_trans (h.2.1 a (one_trans hij ha)) hij
theorem Held.full (hs : Sub n T kept) {j : Nat} (h : Held n T kept j) (hj : j < n) : qsN (fun i => T i j) n = 1 := (hs.k1 j hj).mp (h.2.2 j (one_self hj))
/-- what is greatest where nothing is added stands in a ring, too -/
theorem max_held (h : Sub n T kept) {U : Nat → Rat} {m : Rat} (hm : 0 < m) (hU : ∀ i, i < n → U i ≤ m) (hS : ∀ j, j < n → U j = m → m ≤ qsN (fun i => T i j * U i) n) {a : Nat} (ha : a < n) (hUa : U a = m) : ∃ x, x < n ∧ U x = m ∧ Held n T kept x := by
  have key : ∀ j, j < n → U j = m → kept j = true ∧ ∀ i, i < n → 0 < T i j → U i = m := fun j hj e => by
    have h1 := hS j hj e
    have h2 := h.t1 j hj
    have p1 : ∀ i, i < n → 0 ≤ T i j * (m - U i) := fun i hi => Rat.mul_nonneg (h.t0 i j hi hj) (by have := hU i hi; grind)
    have e1 : qsN (fun i => T i j * (m - U i)) n = qsN (fun i => T i j) n * m - qsN (fun i => T i j * U i) n := by
      rw [← qsN_mulR, ← qsN_sub]
      exact qsN_congr fun i _ => by grind
    have h3 : qsN (fun i => T i j) n * m ≤ 1 * m := Rat.mul_le_mul_of_nonneg_right h2 (by grind)
    have z1 := qsN_zero_of p1 (by grind)
    have s1 := qsN_nonneg p1
    refine ⟨(h.k1 j hj).mpr ?_, fun i hi ht => ?_⟩
    · have h4 : (1 - qsN (fun i => T i j) n) * m = 0 := by grind
      rcases Rat.mul_eq_zero.mp h4 with e | e
      · grind
      · grind
    · rcases Rat.mul_eq_zero.mp (z1 i hi) with e | e
      · grind
      · grind
  obtain ⟨x, hx, hxS, hx1, hx2⟩ := grown_of (n := n) (g := gT T) (kept := kept) (fun i => i < n ∧ U i = m) (fun b hb => (key b hb.1 hb.2).1) (fun b c hb hc hbc => ⟨hc, (key b hb.1 hb.2).2 c hc (of_decide_eq_true hbc)⟩) n a ha ⟨ha, hUa⟩ (one_len a)
  exact ⟨x, hx, hxS.2, rfl, hx1, hx2⟩
def absQ (x : Rat) : Rat := if x < 0 then - x else x
theorem absQ_nn (x : Rat) : 0 ≤ absQ x := by unfold absQ; split <;> grind
theorem absQ_zero {x : Rat} : absQ x = 0 ↔ x = 0 := by unfold absQ; split <;> grind
theorem absQ_le {x : Rat} : x ≤ absQ x ∧ - x ≤ absQ x := by unfold absQ; split <;> grind
/-- only 0 is its own mean over the casks that are in no ring -/
theorem mean_zero (h : Sub n T kept) {V : Nat → Rat} (hv : ∀ j, j < n → V j ≠ 0 → ¬ Held n T kept j ∧ V j = qsN (fun i => T i j * V i) n) : ∀ j, j < n → V j = 0 := by
  intro j hj
  obtain ⟨a, ha, hmax⟩ := max_at (f := fun i => absQ (V i)) (n := n) (by omega)
  have h0 := absQ_nn (V a)
  by_cases c : absQ (V a) = 0
  · have := hmax j hj
    have := absQ_nn (V j)
    exact absQ_zero.mp (by grind)
  · exfalso
    obtain ⟨x, hx, e, hH⟩ := max_held h (U := fun i => absQ (V i)) (m := absQ (V a)) (by grind) hmax (fun j hj e => by
      have hne : V j ≠ 0 := fun z => c (by rw [← e]; exact absQ_zero.mpr z)
      obtain ⟨_, e2⟩ := hv j hj hne
      rw [← e]
      show absQ (V j) ≤ qsN (fun i => T i j * absQ (V i)) n
      have h1 : qsN (fun i => T i j * V i) n ≤ qsN (fun i => T i j * absQ (V i)) n := qsN_le_qsN fun i hi => Rat.mul_le_mul_of_nonneg_left absQ_le.1 (h.t0 i j hi hj)
      have h2 : qsN (fun i => - (T i j * V i)) n ≤ qsN (fun i => T i j * absQ (V i)) n := qsN_le_qsN fun i hi => by
        have := Rat.mul_le_mul_of_nonneg_left (absQ_le (x := V i)).2 (h.t0 i j hi hj)
        grind
      rw [qsN_neg] at h2
      rw [← e2] at h1 h2
      generalize qsN (fun i => T i j * absQ (V i)) n = Q at *
      unfold absQ
      split <;> grind) ha rfl
    exact (hv x hx fun z => c (by rw [← e]; exact absQ_zero.mpr z)).1 hH
/-- the shares that stay for ever -/
structure Stays (n : Nat) (T : Nat → Nat → Rat) (kept : Nat → Bool) (s : Nat → Rat) : Prop where
  held : ∀ j, j < n → Held n T kept j → s j = 1
  mean : ∀ j, j < n → ¬ Held n T kept j → s j = qsN (fun i => T i j * s i) n
section
variable {s : Nat → Rat}
theorem Stays.all (hs : Sub n T kept) (h : Stays n T kept s) {j : Nat} (hj : j < n) : s j = qsN (fun i => T i j * s i) n := by
  by_cases c : Held n T kept j
  · rw [h.held j hj c, qsN_congr (g := fun i => T i j) fun i hi => by
      by_cases ht : 0 < T i j
      · rw [h.held i hi (c.to hj hi ht)]; grind
      · have := hs.t0 i j hi hj
        have : T i j = 0 := by grind
        rw [this]; grind, c.full hs hj]
  · exact h.mean j hj c
theorem Stays.le1 (hs : Sub n T kept) (h : Stays n T kept s) : ∀ j, j < n → s j ≤ 1 := fun j hj => by
  obtain ⟨a, ha, hmax⟩ := max_at (f := fun i => s i - 1) (n := n) (by omega)
  by_cases c : s a - 1 ≤ 0
  · have := hmax j hj; grind
  · exfalso
    obtain ⟨x, hx, e, hH⟩ := max_held hs (U := fun i => s i - 1) (m := s a - 1) (by grind) hmax (fun j hj e => by
      rw [← e]
      show s j - 1 ≤ qsN (fun i => T i j * (s i - 1)) n
      have e1 : qsN (fun i => T i j * (s i - 1)) n = qsN (fun i => T i j * s i) n - qsN (fun i => T i j) n := by
        rw [← qsN_sub]
        exact qsN_congr fun i _ => by grind
      have h1 := hs.t1 j hj
      rw [e1, ← h.all hs hj]
      grind) ha rfl
    have e2 : s x - 1 = s a - 1 := e
    rw [h.held x hx hH] at e2
    grind
theorem Stays.uniq (hs : Sub n T kept) (h : Stays n T kept s) {r : Nat → Rat} (h2 : Stays n T kept r) : ∀ j, j < n → s j = r j := fun j hj => by
  have := mean_zero hs (V := fun i => s i - r i) (fun j hj hne => by
    have c : ¬ Held n T kept j := fun c => hne (by rw [h.held j hj c, h2.held j hj c]; grind)
    refine ⟨c, ?_⟩
    show s j - r j = qsN (fun i => T i j * (s i - r i)) n
    rw [qsN_congr (g := fun i => T i j * s i - T i j * r i) fun i _ => by grind, qsN_sub, ← h.mean j hj c, ← h2.mean j hj c]) j hj
  have e : s j - r j = 0 := this
  grind
/-- what stays of all is as much in each year -/
theorem Stays.sum (hs : Sub n T kept) (h : Stays n T kept s) {c : Nat → Rat} : ∀ y, qsN (fun k => s k * qser n T c y k) n = qsN (fun k => s k * c k) n
  | 0 => rfl
  | y + 1 => by
    refine Eq.trans ?_ (Stays.sum hs h (c := c) y)
    show qsN (fun k => s k * qsN (fun j => T k j * qser n T c y j) n) n = _
    rw [qsN_congr (g := fun k => qsN (fun j => s k * (T k j * qser n T c y j)) n) fun k _ => (qsN_mulL _ _ _).symm, qsN_swap]
    refine qsN_congr fun j hj => ?_
    rw [qsN_congr (g := fun k => T k j * s k * qser n T c y j) fun k _ => by grind, qsN_mulR, ← h.all hs hj]
end
end
section
variable {n : Nat} {g : Nat → Nat → Bool} {D : Nat → Bool}
def goOn (n : Nat) (g : Nat → Nat → Bool) (D : Nat → Bool) : Nat → Nat → Bool
  | 0, j => D j
  | y + 1, j => D j && (List.range n).any fun i => g j i && goOn n g D y i
theorem goOn_D {y j : Nat} (h : goOn n g D y j = true) : D j = true := by
  cases y with
  | zero => exact h
  | succ y => unfold goOn at h; simp at h; exact h.1
theorem goOn_succ {y j : Nat} : goOn n g D (y + 1) j = true ↔ D j = true ∧ ∃ i, i < n ∧ g j i = true ∧ goOn n g D y i = true := by
  show (D j && (List.range n).any fun i => g j i && goOn n g D y i) = true ↔ _
  rw [Bool.and_eq_true, List.any_eq_true]
  constructor
  · rintro ⟨h, i, hi, h2⟩
    rw [Bool.and_eq_true] at h2
    exact ⟨h, i, List.mem_range.mp hi, h2⟩
  · rintro ⟨h, i, hi, h2⟩
    exact ⟨h, i, List.mem_range.mpr hi, by rw [Bool.and_eq_true]; exact h2⟩
theorem goOn_less : ∀ {y j : Nat}, goOn n g D (y + 1) j = true → goOn n g D y j = true
  | 0, j, h => (goOn_succ.mp h).1
  | y + 1, j, h => by
    obtain ⟨h1, i, hi, h2, h3⟩ := goOn_succ.mp h
    exact goOn_succ.mpr ⟨h1, i, hi, h2, goOn_less h3⟩
theorem goOn_anti {y j : Nat} : ∀ d, goOn n g D (y + d) j = true → goOn n g D y j = true
  | 0, h => h
  | d + 1, h => goOn_anti d (goOn_less h)
def cntB (n : Nat) (f : Nat → Bool) : Nat := ((List.range n).filter f).length
theorem cnt_le {f h : Nat → Bool} (hf : ∀ j, f j = true → h j = true) : cntB n f ≤ cntB n h := by
  unfold cntB
  induction n with
  | zero => exact Nat.le_refl 0
  | succ n ih =>
    rw [List.range_succ, List.filter_append, List.filter_append, List.length_append, List.length_append]
    refine Nat.add_le_add ih ?_
    by_cases c : f n = true
    · simp [c, hf n c]
    · simp [c]
theorem cnt_eq {f h : Nat → Bool} (hf : ∀ j, f j = true → h j = true) (hc : cntB n h ≤ cntB n f) : ∀ j, j < n → h j = true → f j = true := by
  unfold cntB at hc
  induction n with
  | zero => intro j hj; omega
  | succ n ih =>
    have h1 := cnt_le (n := n) hf
    unfold cntB at h1
    rw [List.range_succ, List.filter_append, List.filter_append, List.length_append, List.length_append] at hc
    intro j hj hh
    by_cases e : j = n
    · subst e
      refine Classical.byContradiction fun c => ?_
      simp [hh, c] at hc
      omega
    · refine ih ?_ j (by omega) hh
      have : (List.filter f [n]).length ≤ (List.filter h [n]).length := by
        by_cases c : f n = true
        · simp [c, hf n c]
        · simp [c]
      omega
theorem cnt_n {f : Nat → Bool} : cntB n f ≤ n := by
  have := List.length_filter_le f (List.range n)
  rw [List.length_range] at this
  exact this
theorem goOn_stop (m : Nat) : (∃ y, y ≤ m ∧ ∀ j, j < n → goOn n g D y j = true → goOn n g D (y + 1) j = true) ∨ cntB n (goOn n g D (m + 1)) + m + 1 ≤ cntB n (goOn n g D 0) := by
  induction m with
  | zero =>
    by_cases c : cntB n (goOn n g D 0) ≤ cntB n (goOn n g D (0 + 1))
    · exact .inl ⟨0, Nat.le_refl 0, cnt_eq (fun j h => goOn_less h) c⟩
    · right; omega
  | succ m ih =>
    rcases ih with ⟨y, hy, h⟩ | h
    · exact .inl ⟨y, by omega, h⟩
    · by_cases c : cntB n (goOn n g D (m + 1)) ≤ cntB n (goOn n g D (m + 1 + 1))
      · exact .inl ⟨m + 1, Nat.le_refl _, cnt_eq (fun j h => goOn_less h) c⟩
      · right; omega
theorem goOn_ever {j : Nat} (hj : j < n) (h : goOn n g D n j = true) : ∀ y, goOn n g D y j = true := by
  obtain ⟨m, hm, hs⟩ : ∃ y, y ≤ n ∧ ∀ j, j < n → goOn n g D y j = true → goOn n g D (y + 1) j = true := by
    rcases goOn_stop (n := n) (g := g) (D := D) n with h | h
    · exact h
    · have := cnt_n (n := n) (f := goOn n g D 0)
      omega
  have hst : ∀ d j, j < n → goOn n g D m j = true → goOn n g D (m + d) j = true := by
    intro d
    induction d with
    | zero => intro j _ h; exact h
    | succ d ih =>
      intro j hj h
      obtain ⟨h1, i, hi, h2, h3⟩ := goOn_succ.mp (hs j hj h)
      exact goOn_succ.mpr ⟨h1, i, hi, h2, ih i hi h3⟩
  intro y
  have hm0 : goOn n g D m j = true := goOn_anti (n - m) (by rw [show m + (n - m) = n by omega]; exact h)
  by_cases c : y ≤ m
  · exact goOn_anti (m - y) (by rw [show y + (m - y) = m by omega]; exact hm0)
  · have := hst (y - m) j hj hm0
    rwa [show m + (y - m) = y by omega] at this
end
section
variable {n : Nat} {T : Nat → Nat → Rat} {kept : Nat → Bool} {s : Nat → Rat}
def lossB (s : Nat → Rat) (j : Nat) : Bool := decide (0 < 1 - s j)
theorem sum_pos_iff {f : Nat → Rat} (h0 : ∀ i, i < n → 0 ≤ f i) : 0 < qsN f n ↔ ∃ i, i < n ∧ 0 < f i := by
  constructor
  · intro h
    refine Classical.byContradiction fun z => ?_
    have : qsN f n = 0 := qsN_zero' fun i hi => by
      have := h0 i hi
      have h2 : ¬ 0 < f i := fun y => z ⟨i, hi, y⟩
      grind
    grind
  · rintro ⟨i, hi, h⟩
    have := qsN_ge h0 i hi
    grind
theorem mul_pos_iff2 {x y : Rat} (hx : 0 ≤ x) (hy : 0 ≤ y) : 0 < x * y ↔ 0 < x ∧ 0 < y := by
  constructor
  · intro h
    refine ⟨?_, ?_⟩
    · refine Classical.byContradiction fun z => ?_
      have : x = 0 := by grind
      rw [this] at h; grind
    · refine Classical.byContradiction fun z => ?_
      have : y = 0 := by grind
      rw [this] at h; grind
  · exact fun ⟨h1, h2⟩ => Rat.mul_pos h1 h2
/-- more than the end, so many years on: some of it is where it goes on so long -/
theorem more_iff (hs : Sub n T kept) (h : Stays n T kept s) {c : Nat → Rat} (c0 : ∀ j, j < n → 0 ≤ c j) : ∀ y a, (0 < qsN (fun k => (1 - s k) * qser n T c (a + y) k) n) ↔ ∃ j, j < n ∧ goOn n (gT T) (lossB s) y j = true ∧ 0 < qser n T c a j
  | 0, a => by
    rw [sum_pos_iff fun i hi => Rat.mul_nonneg (by have := h.le1 hs i hi; grind) (qser_nonneg hs.t0 c0 _ i hi)]
    constructor
    · rintro ⟨i, hi, h2⟩
      obtain ⟨h3, h4⟩ := (mul_pos_iff2 (by have := h.le1 hs i hi; grind) (qser_nonneg hs.t0 c0 _ i hi)).mp h2
      exact ⟨i, hi, decide_eq_true h3, h4⟩
    · rintro ⟨i, hi, h3, h4⟩
      exact ⟨i, hi, Rat.mul_pos (of_decide_eq_true h3) h4⟩
  | y + 1, a => by
    rw [show a + (y + 1) = (a + 1) + y by omega, more_iff hs h c0 y (a + 1)]
    constructor
    · rintro ⟨i, hi, h2, h3⟩
      have h4 : 0 < qsN (fun j => T i j * qser n T c a j) n := h3
      obtain ⟨j, hj, h5⟩ := (sum_pos_iff fun j hj => Rat.mul_nonneg (hs.t0 i j hi hj) (qser_nonneg hs.t0 c0 a j hj)).mp h4
      obtain ⟨h6, h7⟩ := (mul_pos_iff2 (hs.t0 i j hi hj) (qser_nonneg hs.t0 c0 a j hj)).mp h5
      refine ⟨j, hj, goOn_succ.mpr ⟨decide_eq_true ?_, i, hi, decide_eq_true h6, h2⟩, h7⟩
      have hw : 0 < 1 - s i := of_decide_eq_true (goOn_D h2)
      have e1 : qsN (fun i => T i j * (1 - s i)) n = qsN (fun i => T i j) n - s j := by
        rw [h.all hs hj, ← qsN_sub]
        exact qsN_congr fun i _ => by grind
      have h8 := hs.t1 j hj
      have h9 := qsN_ge (f := fun i => T i j * (1 - s i)) (n := n) (fun i hi => Rat.mul_nonneg (hs.t0 i j hi hj) (by have := h.le1 hs i hi; grind)) i hi
      have h10 : 0 < T i j * (1 - s i) := Rat.mul_pos h6 hw
      grind
    · rintro ⟨j, hj, h2, h3⟩
      obtain ⟨_, i, hi, h4, h5⟩ := goOn_succ.mp h2
      refine ⟨i, hi, h5, ?_⟩
      show 0 < qsN (fun j => T i j * qser n T c a j) n
      exact (sum_pos_iff fun j hj => Rat.mul_nonneg (hs.t0 i j hi hj) (qser_nonneg hs.t0 c0 a j hj)).mpr ⟨j, hj, Rat.mul_pos (of_decide_eq_true h4) h3⟩
theorem less_sum (hs : Sub n T kept) (h : Stays n T kept s) {c : Nat → Rat} (y : Nat) : qsN (fun k => (1 - s k) * qser n T c y k) n = qsN (qser n T c y) n - qsN (fun k => s k * c k) n := by
  rw [← h.sum hs y, ← qsN_sub]
  exact qsN_congr fun k _ => by grind
/-- what has not come down to its end behind as many years as casks never does -/
theorem never (hs : Sub n T kept) (h : Stays n T kept s) {c : Nat → Rat} (c0 : ∀ j, j < n → 0 ≤ c j) (hn : qsN (fun k => s k * c k) n < qsN (qser n T c n) n) (y : Nat) : qsN (fun k => s k * c k) n < qsN (qser n T c y) n := by
  have h1 : 0 < qsN (fun k => (1 - s k) * qser n T c (0 + n) k) n := by rw [Nat.zero_add, less_sum hs h]; grind
  obtain ⟨j, hj, h2, h3⟩ := (more_iff hs h c0 n 0).mp h1
  have h4 := (more_iff hs h c0 y 0).mpr ⟨j, hj, goOn_ever hj h2 y, h3⟩
  rw [Nat.zero_add, less_sum hs h] at h4
  grind
end
end Dn
set_option Elab.async false
set_option linter.all false
set_option maxRecDepth 100000
namespace Dn
open PySem PySem.Spec PyProof.Rows L2
end Dn
set_option Elab.async false
set_option linter.all false
set_option maxRecDepth 100000
set_option maxHeartbeats 1000000
namespace Dn
/-- the sum of the first k -/
def pS (D : List Rat) (k : Nat) : Rat := qs (D.take k)
/-- falling -/
def Dsc (D : List Rat) : Prop := D.Pairwise (· ≥ ·)
theorem pS_succ {D : List Rat} {k : Nat} (h : k < D.length) : pS D (k + 1) = pS D k + D[k] := by
  unfold pS
  rw [List.take_add_one, List.getElem?_eq_getElem h, qs_append]
  show _ + qs [D[k]] = _
  rw [qs_cons, qs_nil, Rat.add_zero]
theorem Dsc.at {D : List Rat} (h : Dsc D) {i j : Nat} (hij : i ≤ j) (hj : j < D.length) : D[j] ≤ D[i] := by
  by_cases e : i = j
  · subst e; exact Rat.le_refl
  · exact List.pairwise_iff_getElem.mp h i j (by omega) hj (by omega)
/-- what is ahead of k rises at least so -/
theorem pS_ahead {D : List Rat} (h : Dsc D) {k : Nat} (hk : k < D.length) : ∀ u lo, lo + u = k → pS D lo + (u : Rat) * D[k] ≤ pS D k
  | 0, lo, e => by
    have : lo = k := by omega
    subst this
    have : ((0 : Nat) : Rat) = 0 := rfl
    rw [this]
    grind
  | u + 1, lo, e => by
    have ih := pS_ahead h hk u (lo + 1) (by omega)
    rw [pS_succ (show lo < D.length by omega)] at ih
    have g := h.at (i := lo) (j := k) (by omega) hk
    have c : ((u + 1 : Nat) : Rat) = (u : Rat) + 1 := Rat.natCast_add u 1
    rw [c]
    grind
theorem pS_behind {D : List Rat} (h : Dsc D) {k : Nat} (hk : k < D.length) : ∀ v, k + v ≤ D.length → pS D (k + v) ≤ pS D k + (v : Rat) * D[k]
  | 0, _ => by
    have : ((0 : Nat) : Rat) = 0 := rfl
    rw [this, Nat.add_zero]
    grind
  | v + 1, e => by
    have ih := pS_behind h hk v (by omega)
    have g := h.at (i := k) (j := k + v) (by omega) (by omega)
    rw [← Nat.add_assoc, pS_succ (show k + v < D.length by omega)]
    have c : ((v + 1 : Nat) : Rat) = (v : Rat) + 1 := Rat.natCast_add v 1
    rw [c]
    grind
/-- the line of falling amounts bends one way -/
theorem pS_bend {D : List Rat} (h : Dsc D) {lo k hi : Nat} (h1 : lo ≤ k) (h2 : k < hi) (h3 : hi ≤ D.length) : pS D lo * ((hi - k : Nat) : Rat) + pS D hi * ((k - lo : Nat) : Rat) ≤ pS D k * ((hi - lo : Nat) : Rat) := by
  have a := pS_ahead h (k := k) (by omega) (k - lo) lo (by omega)
  have b := pS_behind h (k := k) (by omega) (hi - k) (by omega)
  rw [show k + (hi - k) = hi by omega] at b
  have c : ((hi - lo : Nat) : Rat) = ((k - lo : Nat) : Rat) + ((hi - k : Nat) : Rat) := by
    rw [← Rat.natCast_add]
    congr 1
    omega
  rw [c]
  have u0 : (0 : Rat) ≤ ((k - lo : Nat) : Rat) := Rat.natCast_le_natCast.mpr (Nat.zero_le _)
  have v0 : (0 : Rat) ≤ ((hi - k : Nat) : Rat) := Rat.natCast_le_natCast.mpr (Nat.zero_le _)
  generalize ((k - lo : Nat) : Rat) = u at *
  generalize ((hi - k : Nat) : Rat) = v at *
  generalize D[k] = e at *
  have a2 := Rat.mul_le_mul_of_nonneg_right a v0
  have b2 := Rat.mul_le_mul_of_nonneg_right b u0
  grind
structure Hull (n : Nat) (f : Nat → Rat) (D : List Rat) : Prop where
  len : D.length = n
  dsc : Dsc D
  up : ∀ k, k ≤ n → f k ≤ pS D k
  att : ∀ k, k ≤ n → pS D k = f k ∨ ∃ lo hi, lo < k ∧ k < hi ∧ hi ≤ n ∧ pS D k * ((hi - lo : Nat) : Rat) = f lo * ((hi - k : Nat) : Rat) + f hi * ((k - lo : Nat) : Rat)
theorem nat_posR {m : Nat} (h : 0 < m) : (0 : Rat) < (m : Rat) := by
  have := Rat.natCast_lt_natCast.mpr h
  exact this
theorem Hull.least {n : Nat} {f : Nat → Rat} {D E : List Rat} (h : Hull n f D) (hE : Dsc E) (hl : E.length = n) (hu : ∀ k, k ≤ n → f k ≤ pS E k) {k : Nat} (hk : k ≤ n) : pS D k ≤ pS E k := by
  rcases h.att k hk with e | ⟨lo, hi, h1, h2, h3, e⟩
  · rw [e]; exact hu k hk
  · have b := pS_bend hE (lo := lo) (k := k) (hi := hi) (by omega) h2 (by omega)
    have u0 : (0 : Rat) ≤ ((k - lo : Nat) : Rat) := Rat.natCast_le_natCast.mpr (Nat.zero_le _)
    have v0 : (0 : Rat) ≤ ((hi - k : Nat) : Rat) := Rat.natCast_le_natCast.mpr (Nat.zero_le _)
    have w0 : (0 : Rat) < ((hi - lo : Nat) : Rat) := nat_posR (by omega)
    have g1 := Rat.mul_le_mul_of_nonneg_right (hu lo (by omega)) v0
    have g2 := Rat.mul_le_mul_of_nonneg_right (hu hi (by omega)) u0
    generalize ((k - lo : Nat) : Rat) = u at *
    generalize ((hi - k : Nat) : Rat) = v at *
    generalize ((hi - lo : Nat) : Rat) = w at *
    refine Rat.not_lt.mp fun z => ?_
    have := Rat.mul_lt_mul_of_pos_right z w0
    grind
/-- falling amounts are told by their sums -/
theorem pS_ext {n : Nat} {D E : List Rat} (h1 : D.length = n) (h2 : E.length = n) (h : ∀ k, k ≤ n → pS D k = pS E k) : D = E := by
  apply List.ext_getElem (by omega)
  intro i a b
  have e1 := pS_succ a
  have e2 := pS_succ b
  have e3 := h i (by omega)
  have e4 := h (i + 1) (by omega)
  grind
theorem Hull.uniq {n : Nat} {f : Nat → Rat} {D E : List Rat} (h : Hull n f D) (h2 : Hull n f E) : D = E :=
  pS_ext h.len h2.len fun k hk => Rat.le_antisymm (h.least h2.dsc h2.len h2.up hk) (h2.least h.dsc h.len h.up hk)
end Dn
set_option Elab.async false
set_option linter.all false
set_option maxRecDepth 100000
set_option maxHeartbeats 1000000
namespace Dn
/-- the greatest first -/
def dsc (l : List Rat) : List Rat := l.mergeSort fun a b => decide (b ≤ a)
theorem dsc_perm (l : List Rat) : (dsc l).Perm l := List.mergeSort_perm l _
theorem dsc_dsc (l : List Rat) : Dsc (dsc l) := by
  have h := List.pairwise_mergeSort (le := fun a b : Rat => decide (b ≤ a)) (fun a b c h1 h2 => decide_eq_true (Rat.le_trans (of_decide_eq_true h2) (of_decide_eq_true h1))) (fun a b => by
    by_cases h : b ≤ a
    · simp [h]
    · have := Rat.le_of_lt (Rat.not_le.mp h)
      simp [this]) l
  exact h.imp fun h => of_decide_eq_true h
theorem Dsc.uniq {a b : List Rat} (ha : Dsc a) (hb : Dsc b) (h : a.Perm b) : a = b :=
  h.eq_of_pairwise (fun _ _ _ _ x y => Rat.le_antisymm y x) ha hb
theorem dsc_of {l d : List Rat} (h : d.Perm l) (hd : Dsc d) : dsc l = d := (dsc_dsc l).uniq hd ((dsc_perm l).trans h.symm)
theorem Dsc.eq {l : List Rat} (h : Dsc l) : dsc l = l := dsc_of (List.Perm.refl _) h
def mn (a b : Rat) : Rat := if a ≤ b then a else b
structure Hul (n : Nat) (f : Nat → Rat) (D : List Rat) : Prop where
  len : D.length = n
  dsc : Dsc D
  up : ∀ k, k ≤ n → f k ≤ pS D k
  lst : ∀ E : List Rat, Dsc E → E.length = n → (∀ k, k ≤ n → f k ≤ pS E k) → ∀ k, k ≤ n → pS D k ≤ pS E k
theorem Hul.uniq {n : Nat} {f : Nat → Rat} {D E : List Rat} (h : Hul n f D) (h2 : Hul n f E) : D = E :=
  pS_ext h.len h2.len fun k hk => Rat.le_antisymm (h.lst E h2.dsc h2.len h2.up k hk) (h2.lst D h.dsc h.len h.up k hk)
end Dn
set_option Elab.async false
set_option linter.all false
set_option maxRecDepth 100000
namespace Dn
open PySem PySem.Spec PyProof.Rows L2
mutual
def rW : PyData → Nat
  | .none => 4
  | .bool _ => 5
  | .int _ => 1921
  | .str x => (reprText x).length
  | .list xs => 2 + rWs xs
  | .tuple xs => 4 + rWs xs
  | .dict kvs => 2 + rWk kvs
def rWs : List PyData → Nat
  | [] => 0
  | x :: xs => rW x + 2 + rWs xs
def rWk : List (PyData × PyData) → Nat
  | [] => 0
  | (k, v) :: r => rW k + 2 + rW v + 2 + rWk r
end
theorem textFrom_le : ∀ (ts : List Str) (k : Nat) (acc : Str), (textFrom k acc ts).length ≤ acc.length + piled ts
  | [], _, acc => by show acc.length ≤ _; omega
  | t :: r, k, acc => by
    have h := textFrom_length_pos r (k + 1) (acc ++ (if k > 0 then ", " else "" : String) ++ t) (Nat.succ_pos k)
    show (textFrom (k + 1) _ r).length ≤ _
    rw [h, strLen_append, strLen_append, piled_cons]
    have : (((if k > 0 then ", " else "" : String) : Str)).length ≤ 2 := by split <;> decide
    omega
theorem listText_le (ts : List Str) : (listText ts).length ≤ 2 + piled ts := by
  show (textFrom 0 "[" ts ++ "]").length ≤ _
  have h := textFrom_le ts 0 "["
  have e1 : ((("[" : String) : Str)).length = 1 := rfl
  have e2 : ((("]" : String) : Str)).length = 1 := rfl
  rw [strLen_append, e2]
  rw [e1] at h
  omega
theorem join_le (ts : List Str) : (Str.join ", " ts).length ≤ piled ts := by
  by_cases h : ts = []
  · subst h; decide
  · have := join_length_add ts h
    omega
theorem tupleText_le (ts : List Str) : (tupleText ts).length ≤ 4 + piled ts := by
  unfold tupleText
  rw [strLen_append, strLen_append]
  have e1 : ((("(" : String) : Str)).length = 1 := rfl
  have e3 : (((if ts.length == 1 then ",)" else ")" : String) : Str)).length ≤ 2 := by split <;> decide
  have := join_le ts
  omega
theorem dictText_le (ts : List Str) : (dictText ts).length ≤ 2 + piled ts := by
  unfold dictText
  rw [strLen_append, strLen_append]
  have e1 : ((("{" : String) : Str)).length = 1 := rfl
  have e2 : ((("}" : String) : Str)).length = 1 := rfl
  have := join_le ts
  omega
mutual
theorem shown_le : ∀ d : PyData, d.showable = true → d.shown.length ≤ rW d
  | .none, _ => by simp only [PyData.shown, rW]; decide
  | .bool b, _ => by cases b <;> simp only [PyData.shown, rW] <;> decide
  | .int i, h => by
    simp only [PyData.shown, rW]
    simp only [PyData.showable, decide_eq_true_eq] at h
    have e := int_text_length_le (k := 1920) (by decide) h
    show (Str.ofString (toString i)).length ≤ _
    rw [PySem.ofString_length]
    omega
  | .str x, _ => by simp only [PyData.shown, rW]; exact Nat.le_refl _
  | .list xs, h => by
    simp only [PyData.shown, rW]
    simp only [PyData.showable] at h
    have := listText_le (PyData.shownAll xs)
    have := shownAll_le xs h
    omega
  | .tuple xs, h => by
    simp only [PyData.shown, rW]
    simp only [PyData.showable] at h
    have := tupleText_le (PyData.shownAll xs)
    have := shownAll_le xs h
    omega
  | .dict kvs, h => by
    simp only [PyData.shown, rW]
    simp only [PyData.showable] at h
    have := dictText_le (PyData.shownKv kvs)
    have := shownKv_le kvs h
    omega
theorem shownAll_le : ∀ ds : List PyData, PyData.showableAll ds = true → piled (PyData.shownAll ds) ≤ rWs ds
  | [], _ => by simp only [PyData.shownAll, rWs]; decide
  | d :: ds, h => by
    simp only [PyData.showableAll, Bool.and_eq_true] at h
    simp only [PyData.shownAll, rWs, piled_cons]
    have := shown_le d h.1
    have := shownAll_le ds h.2
    omega
theorem shownKv_le : ∀ kvs : List (PyData × PyData), PyData.showableKv kvs = true → piled (PyData.shownKv kvs) ≤ rWk kvs
  | [], _ => by simp only [PyData.shownKv, rWk]; decide
  | (k, v) :: r, h => by
    simp only [PyData.showableKv, Bool.and_eq_true] at h
    simp only [PyData.shownKv, rWk, piled_cons]
    have h1 := shown_le k h.1.1
    have h2 := shown_le v h.1.2
    have h3 := shownKv_le r h.2
    have e : (((": " : String) : Str)).length = 2 := rfl
    rw [strLen_append, strLen_append, e]
    omega
end
theorem repOk_of {d : PyData} (h0 : repOk0 d = true) (h1 : d.showable = true) (h2 : d.depth ≤ 64) (h3 : rW d ≤ 16777216) : repOk d = true := by
  unfold repOk
  have := shown_le d h1
  rw [h0, h1, decide_eq_true h2, decide_eq_true (show d.shown.length ≤ sizeLine by rw [sizeLine_eq]; omega)]
  rfl
end Dn
set_option Elab.async false
set_option linter.all false
set_option maxRecDepth 100000
namespace Dn
open PySem PySem.Spec PyProof.Rows L2
def Rd (L : Nat) : Nat → PyData → Prop
  | 0, _ => False
  | r + 1, .list ds => ds.length ≤ L ∧ ∀ d ∈ ds, Rd L r d
  | r + 1, .tuple ds => ds.length ≤ L ∧ ∀ d ∈ ds, Rd L r d
  | _ + 1, .int i => i.natAbs < 2 ^ 1920
  | _ + 1, .str x => PyData.strOk x = true ∧ (reprText x).length ≤ 1000
  | _ + 1, .none => True
  | _ + 1, .bool _ => True
  | _ + 1, .dict _ => False
def rdW (L : Nat) : Nat → Nat
  | 0 => 1921
  | r + 1 => 1925 + L * (rdW L r + 2)
theorem rdW_ge {L : Nat} : ∀ r, 1921 ≤ rdW L r
  | 0 => Nat.le_refl _
  | r + 1 => by show 1921 ≤ 1925 + _; omega
theorem rd_all {r W : Nat} : ∀ {ds : List PyData}, (∀ d ∈ ds, PyData.canLay0 d = true ∧ d.showable = true ∧ d.depth ≤ r ∧ rW d ≤ W) → PyData.canLayAll0 ds = true ∧ PyData.showableAll ds = true ∧ PyData.depthAll ds ≤ r ∧ rWs ds ≤ ds.length * (W + 2)
  | [], _ => by simp only [PyData.canLayAll0, PyData.showableAll, PyData.depthAll, rWs]; exact ⟨trivial, trivial, Nat.zero_le _, Nat.zero_le _⟩
  | d :: ds, h => by
    obtain ⟨a1, a2, a3, a4⟩ := h d List.mem_cons_self
    obtain ⟨b1, b2, b3, b4⟩ := rd_all (ds := ds) fun d hd => h d (List.mem_cons_of_mem _ hd)
    simp only [PyData.canLayAll0, PyData.showableAll, PyData.depthAll, rWs, a1, a2, b1, b2, List.length_cons, Nat.succ_mul, Bool.and_self, true_and]
    omega
theorem Rd.all {L : Nat} : ∀ (r : Nat) (d : PyData), Rd L r d → PyData.canLay0 d = true ∧ d.showable = true ∧ d.depth ≤ r ∧ rW d ≤ rdW L r
  | 0, _, h => h.elim
  | r + 1, .none, _ => by simp only [PyData.canLay0, PyData.showable, PyData.depth, rW]; exact ⟨trivial, trivial, Nat.zero_le _, by have := @rdW_ge L (r + 1); omega⟩
  | r + 1, .bool b, _ => by simp only [PyData.canLay0, PyData.showable, PyData.depth, rW]; exact ⟨trivial, trivial, Nat.zero_le _, by have := @rdW_ge L (r + 1); omega⟩
  | r + 1, .int i, h => by simp only [PyData.canLay0, PyData.showable, PyData.depth, rW]; exact ⟨trivial, decide_eq_true (log_of h (by decide)), Nat.zero_le _, @rdW_ge L (r + 1)⟩
  | r + 1, .str x, h => by
    simp only [PyData.canLay0, PyData.showable, PyData.depth, rW]
    have h' : PyData.strOk x = true ∧ (reprText x).length ≤ 1000 := h
    exact ⟨h'.1, trivial, Nat.zero_le _, by have := @rdW_ge L (r + 1); omega⟩
  | r + 1, .list ds, h => by
    obtain ⟨h1, h2⟩ : ds.length ≤ L ∧ ∀ d ∈ ds, Rd L r d := h
    obtain ⟨b1, b2, b3, b4⟩ := rd_all (ds := ds) fun d hd => Rd.all r d (h2 d hd)
    simp only [PyData.canLay0, PyData.showable, PyData.depth, rW]
    have h3 := Nat.mul_le_mul_right (rdW L r + 2) h1
    have h4 : rdW L (r + 1) = 1925 + L * (rdW L r + 2) := rfl
    exact ⟨b1, b2, by omega, by omega⟩
  | r + 1, .tuple ds, h => by
    obtain ⟨h1, h2⟩ : ds.length ≤ L ∧ ∀ d ∈ ds, Rd L r d := h
    obtain ⟨b1, b2, b3, b4⟩ := rd_all (ds := ds) fun d hd => Rd.all r d (h2 d hd)
    simp only [PyData.canLay0, PyData.showable, PyData.depth, rW]
    have h3 := Nat.mul_le_mul_right (rdW L r + 2) h1
    have h4 : rdW L (r + 1) = 1925 + L * (rdW L r + 2) := rfl
    exact ⟨b1, b2, by omega, by omega⟩
  | r + 1, .dict kvs, h => False.elim h
theorem Rd.rep {L r : Nat} {d : PyData} (h : Rd L r d) (hr : r ≤ 64) (hW : rdW L r ≤ 16777216) : repOk d = true := by
  obtain ⟨h1, h2, h3, h4⟩ := Rd.all r d h
  have hs : SeqAt.shaped d = true := by
    unfold SeqAt.shaped
    rw [h1, decide_eq_true (show d.depth ≤ 64 by omega)]
    rfl
  exact repOk_of (repOk0_sh hs) h2 (by omega) (by omega)
theorem Rd.up {L : Nat} : ∀ {r : Nat} {d : PyData}, Rd L r d → Rd L (r + 1) d
  | 0, _, h => h.elim
  | _ + 1, .none, _ => trivial
  | _ + 1, .bool _, _ => trivial
  | _ + 1, .int _, h => h
  | _ + 1, .str _, h => h
  | r + 1, .list ds, h => ⟨h.1, fun d hd => Rd.up (h.2 d hd)⟩
  | r + 1, .tuple ds, h => ⟨h.1, fun d hd => Rd.up (h.2 d hd)⟩
  | _ + 1, .dict _, h => h
end Dn
set_option Elab.async false
set_option linter.all false
set_option maxRecDepth 100000
set_option maxHeartbeats 1000000
namespace K11
open PySem PySem.Spec PyProof.Rows L2 Dn
theorem gcd_pos {a b : Int} (hb : 0 < b) : 0 < Nat.gcd a.natAbs b.natAbs := Nat.gcd_pos_of_pos_right _ (by omega)
theorem gcd_lt {a b : Int} {n : Nat} (hb : 0 < b) (h : b.natAbs < n) : Nat.gcd a.natAbs b.natAbs < n := Nat.lt_of_le_of_lt (Nat.gcd_le_right _ (by omega)) h
theorem v_fraction {a b : Int} (hb : 0 < b) (h : b.natAbs < 2 ^ 9000) : Ph_fraction [.int a, .int b] = some (encQ (Rat.divInt a b)) := by
  have e1 : divOk ((Nat.gcd a.natAbs b.natAbs : Nat) : Int) = true := divOk_lt (by have := @gcd_pos a b hb; omega) (by show Nat.gcd a.natAbs b.natAbs < _; exact gcd_lt hb h)
  unfold Ph_fraction
  rw [run2]
  unfold dn_fraction
  simp [show ¬ b = 0 by omega, show ¬ b < 0 by omega, e1, encQ, ← low_num hb, ← low_den hb]
end K11
set_option Elab.async false
set_option linter.all false
set_option maxRecDepth 100000
set_option maxHeartbeats 1000000
set_option Elab.async false
set_option linter.all false
set_option maxRecDepth 100000
set_option maxHeartbeats 2000000
namespace K11
open PySem PySem.Spec PyProof.Rows L2 Dn
theorem pow2_of {i : Int} (h : powOk i 3 = true) : powOk i 2 = true := by
  unfold powOk at h ⊢
  rw [Bool.and_eq_true] at h ⊢
  have h2 := of_decide_eq_true h.2
  refine ⟨rfl, decide_eq_true ?_⟩
  have e3 : ((3 : Int)).toNat = 3 := rfl
  have e2 : ((2 : Int)).toNat = 2 := rfl
  rw [e3] at h2
  rw [e2]
  omega
theorem v_law_lift {n : Nat} {ks : List PyData} {m : Int} (h : KegOk (n + 1) ks) (h0 : 0 < m) (hm : m ≤ 2 ^ 100) : ∃ x ks', Ph_law_lift ks [.int m] = some (.int x, ks') ∧ 0 ≤ x ∧ x < m ∧ KegOk n ks' := by
  obtain ⟨a, b, c, rfl, h1, h2, h3, h4, h5⟩ := h
  have m60 : (2 : Int) ^ 100 = 1267650600228229401496703205376 := by decide
  have hdm : divOk m = true := divOk_lt (by omega) (lt_pow (a := 101) (by
    have : (2 : Nat) ^ 101 = 2535301200456458802993406410752 := by decide
    omega) (by decide))
  unfold Ph_law_lift
  rw [runM2]
  unfold dn_law_lift
  by_cases ha : 0 < a
  · refine ⟨a.fmod m, [.int (a.fdiv m), .int b, .int c], ?_, (fmod_lt h0).1, (fmod_lt h0).2, ⟨_, b, c, rfl, fdiv_nonneg h0 h1, h2, h3, h4, by omega⟩⟩
    have hp : ∀ (d : PyData) (e : En), kPut3 0 d (.int 0) e (some (.own true [.int a, .int b, .int c])) = some (.nx, e.set 0 (.own true [d, .int b, .int c])) := fun d e => kPut3_ok (k := 0) (by simp)
    simp [ha, show ¬ m = 0 by omega, hdm, hp]
  · have hc : mulOk (c + 1) 22801763489 = true := mulOk_lt (lt_pow (a := 30) (by omega) (by decide)) (lt_pow (a := 40) (by decide) (by decide))
    obtain ⟨P, hP, p28⟩ : ∃ P : Int, P = 10000000000000000000000000000 ∧ gPow (.int 10) (.int 28) = some (.int P) := by
      have : powOk 10 28 = true := by decide +kernel
      exact ⟨_, rfl, by simp [gPow, this]⟩
    obtain ⟨P', hP', p24⟩ : ∃ P : Int, P = 1000000000000000000000000 ∧ gPow (.int 10) (.int 24) = some (.int P) := by
      have : powOk 10 24 = true := by decide +kernel
      exact ⟨_, rfl, by simp [gPow, this]⟩
    have p3 : gPow (.int (b + (c + 1) * 22801763489)) (.int 3) = some (.int ((b + (c + 1) * 22801763489) ^ 3)) := by
      have : powOk (b + (c + 1) * 22801763489) 3 = true := powOk_lt (lt_pow (a := 101) (by
        have : (2 : Nat) ^ 101 = 2535301200456458802993406410752 := by decide
        have : (2 : Int) ^ 100 = 1267650600228229401496703205376 := by decide
        omega) (by decide))
      simp [gPow, this]
    let st := ((b + (c + 1) * 22801763489) ^ 3).fmod (P + 331)
    have hst : 0 ≤ st ∧ st < P + 331 := fmod_lt (by omega)
    have p2 : gPow (.int st) (.int 2) = some (.int (st ^ 2)) := by
      have : powOk st 2 = true := pow2_of (powOk_lt (lt_pow (a := 100) (by
        have : (2 : Nat) ^ 100 = 1267650600228229401496703205376 := by decide
        omega) (by decide)))
      simp [gPow, this]
    have d1 : divOk 8699 = true := by decide +kernel
    have d2 : divOk 12007 = true := by decide +kernel
    let r := ((((st ^ 2 + st.fdiv 8699).fmod (P' + 7)).fdiv 12007).fmod m)
    refine ⟨r, [.int a, .int b, .int (c + 1)], ?_, (fmod_lt h0).1, (fmod_lt h0).2, ⟨a, b, c + 1, rfl, h1, h2, h3, by omega, by omega⟩⟩
    have hp : ∀ (d : PyData) (e : En), kPut3 0 d (.int 2) e (some (.own true [.int a, .int b, .int c])) = some (.nx, e.set 0 (.own true [.int a, .int b, d])) := fun d e => kPut3_ok (k := 2) (by simp)
    have p2' : gPow (.int (((b + (c + 1) * 22801763489) ^ 3).fmod (P + 331))) (.int 2) = some (.int ((((b + (c + 1) * 22801763489) ^ 3).fmod (P + 331)) ^ 2)) := p2
    simp [-gPow, ha, hp, hc, p28, p24, p3, p2', d1, d2, show ¬ m = 0 by omega, show ¬ P + 331 = 0 by omega, show ¬ P' + 7 = 0 by omega, r, st]
theorem v_law_well {z k : Int} (hz : z.natAbs.log2 ≤ 1048576) (hk : 0 ≤ k ∧ k ≤ 1000) : ∃ ks, Ph_law_well [.int z, .int k] = some ks ∧ KegOk 1000000 ks := by
  obtain ⟨P, hP, p18⟩ : ∃ P : Int, P = 1000000000000000000 ∧ gPow (.int 10) (.int 18) = some (.int P) := by
    have : powOk 10 18 = true := by decide +kernel
    exact ⟨_, rfl, by simp [gPow, this]⟩
  obtain ⟨P', hP', p26⟩ : ∃ P : Int, P = 100000000000000000000000000 ∧ gPow (.int 10) (.int 26) = some (.int P) := by
    have : powOk 10 26 = true := by decide +kernel
    exact ⟨_, rfl, by simp [gPow, this]⟩
  have m1 : mulOk z 49979687 = true := by
    unfold mulOk
    refine decide_eq_true ?_
    have : (49979687 : Int).natAbs.log2 < 30 := log_of (by decide) (by decide)
    omega
  have m2 : mulOk (k + 31) 32452867 = true := mulOk_lt (lt_pow (a := 30) (by omega) (by decide)) (lt_pow (a := 30) (by decide) (by decide))
  obtain ⟨u, hu, mu⟩ : ∃ u : Int, 0 ≤ u ∧ gMax2 [.int z, .int (-z)] = some (.int u) := by
    by_cases c : -z > z
    · exact ⟨-z, by omega, by simp [gMax2]; omega⟩
    · exact ⟨z, by omega, by simp [gMax2]; omega⟩
  obtain ⟨a, ha, ma⟩ : ∃ a : Int, 0 ≤ a ∧ gMax2 [.int 0, .int (u - P)] = some (.int a) := by
    by_cases c : u - P > 0
    · exact ⟨u - P, by omega, by simp [gMax2]; omega⟩
    · exact ⟨0, by omega, by simp [gMax2]; omega⟩
  have hb := fmod_lt (a := z * 49979687 + (k + 31) * 32452867) (b := P' + 67) (by omega)
  refine ⟨[.int a, .int ((z * 49979687 + (k + 31) * 32452867).fmod (P' + 67)), .int 0], ?_, a, _, 0, rfl, ha, hb.1, ?_, Int.le_refl _, by omega⟩
  · unfold Ph_law_well
    rw [runL2]
    unfold dn_law_well
    simp [-gPow, -gMax2, p18, p26, m1, m2, mu, ma, show ¬ P' + 67 = 0 by omega]
  · have : (2 : Int) ^ 100 = 1267650600228229401496703205376 := by decide
    have := hb.2
    omega
theorem fmod_nat (x y : Nat) : ((x : Int).fmod (y : Int)) = ((x % y : Nat) : Int) := by
  rw [Int.fmod_eq_emod_of_nonneg _ (by omega)]; rfl
theorem wh_divisor : ∀ (k x y : Nat), y < k → ∃ n, whL wt_law_divisor_1 wb_law_divisor_1 n [.val (.int (x : Int)), .val (.int (y : Int))] = some (.nx, [.val (.int ((Nat.gcd x y : Nat) : Int)), .val (.int 0)])
  | 0, x, y, h => absurd h (by omega)
  | k + 1, x, y, h => by
    by_cases h0 : y = 0
    · subst h0
      refine ⟨1, ?_⟩
      exact (whL_stop (by simp [wt_law_divisor_1]; rfl)).trans (by simp)
    · obtain ⟨n, hn⟩ := wh_divisor k y (x % y) (by have := Nat.mod_lt x (show y > 0 by omega); omega)
      refine ⟨n + 1, ?_⟩
      rw [Nat.gcd_comm y, ← Nat.gcd_rec, Nat.gcd_comm y x] at hn
      have e2 := fmod_nat x y
      refine whL_turn (e1 := [.val (.int (x : Int)), .val (.int (y : Int))]) (by simp [wt_law_divisor_1, show 0 < y by omega]) ?_ hn
      simp [wb_law_divisor_1, h0]
      exact e2
theorem v_law_divisor (x y : Nat) : Ph_law_divisor [.int (x : Int), .int (y : Int)] = some (.int ((Nat.gcd x y : Nat) : Int)) := by
  obtain ⟨n, hn⟩ := wh_divisor (y + 1) x y (by omega)
  have hw := sWh_of hn
  unfold Ph_law_divisor
  rw [run2]
  unfold dn_law_divisor
  simp [hw]
theorem v_law_fraction {a b : Int} (hb : 0 < b) (h : b.natAbs < 2 ^ 9000) : Ph_law_fraction [.int a, .int b] = some (encQ (Rat.divInt a b)) := by
  have e1 : divOk ((Nat.gcd a.natAbs b.natAbs : Nat) : Int) = true := divOk_lt (by have := @gcd_pos a b hb; omega) (by show Nat.gcd a.natAbs b.natAbs < _; exact gcd_lt hb h)
  have hd := v_law_divisor a.natAbs b.natAbs
  have hm : gMax2 [.int a, .int (-a)] = some (.int (a.natAbs : Int)) := by
    by_cases c : -a > a
    · have : (a.natAbs : Int) = -a := by omega
      rw [this]; simp [gMax2]; omega
    · have : (a.natAbs : Int) = a := by omega
      rw [this]; simp [gMax2]; omega
  have eb : ((b.natAbs : Nat) : Int) = b := by omega
  rw [eb] at hd
  unfold Ph_law_fraction
  rw [run2]
  unfold dn_law_fraction
  simp [-gMax2, hm, hd, e1, encQ, ← low_num hb, ← low_den hb]
end K11
set_option Elab.async false
set_option linter.all false
set_option maxRecDepth 100000
set_option maxHeartbeats 4000000
namespace K11
open PySem PySem.Spec PyProof.Rows L2 Dn
/-- a list of integers as data -/
abbrev iD (ns : List Int) : List PyData := ns.map .int
theorem iD_len (ns : List Int) : (iD ns).length = ns.length := List.length_map _
theorem iD_app {ns : List Int} {z : Int} : iD ns ++ [.int z] = iD (ns ++ [z]) := by
  unfold iD
  rw [List.map_append]
  rfl
theorem iD_nil : (iD [] : List PyData) = [] := rfl
theorem sim_ints (ns : List Int) : Sim 2 (.list (iD ns)) := fun d hd => by
  obtain ⟨z, _, rfl⟩ := List.mem_map.mp hd
  exact trivial
section
variable {ks k1 : List PyData} {x : Int} {n : Nat}
theorem v_lift_nat {M m : Nat} {ks : List PyData} (h : KegOk (M + 1) ks) (h0 : 0 < m) (hm : (m : Int) ≤ 2 ^ 100) : ∃ (x : Nat) (ks' : List PyData), Ph_law_lift ks [.int (m : Int)] = some (.int (x : Int), ks') ∧ x < m ∧ KegOk M ks' := by
  obtain ⟨x, k', e, a, b, u⟩ := v_law_lift h (by omega) hm
  obtain ⟨x, rfl⟩ := Int.eq_ofNat_of_zero_le a
  exact ⟨x, k', e, by omega, u⟩
end
theorem iD_erase : ∀ (ls : List Int) (k : Nat), (iD ls).eraseIdx k = iD (ls.eraseIdx k)
  | [], _ => rfl
  | x :: ls, 0 => rfl
  | x :: ls, k + 1 => by
    show PyData.int x :: (iD ls).eraseIdx k = _
    rw [iD_erase ls k]
    rfl
theorem erase_perm : ∀ {ls : List Int} {k : Nat} (h : k < ls.length), (ls[k] :: ls.eraseIdx k).Perm ls
  | [], k, h => absurd h (by simp)
  | x :: ls, 0, h => .refl _
  | x :: ls, k + 1, h => by
    have ih := erase_perm (ls := ls) (k := k) (by simpa using h)
    exact (List.Perm.swap _ _ _).trans (ih.cons x)
theorem turned_loop : ∀ (l : Nat) {M : Nat} {ks : List PyData} {L : PyData} {ls fs : List Int}, ls.length = l → l + fs.length ≤ 1000 → KegOk (M + l) ks → ∃ ks' gs n, whL wt_law_turned_1 wb_law_turned_1 n [.own true ks, .val L, .own false (iD ls), .own false (iD fs)] = some (.nx, [.own true ks', .val L, .own false [], .own false (iD (fs ++ gs))]) ∧ gs.Perm ls ∧ KegOk M ks'
  | 0, M, ks, L, ls, fs, hl, _, hk => by
    have : ls = [] := List.length_eq_zero_iff.mp hl
    subst this
    have hn := fun e => kNe2_nil (e := e) (b := false) (ds := []) shaped_nil8
    refine ⟨ks, [], 1, ?_, .nil, hk⟩
    rw [whL_stop (e1 := [.own true ks, .val L, .own false [], .own false (iD fs)]) (by simp [wt_law_turned_1, hn]), List.append_nil]
  | l + 1, M, ks, L, ls, fs, hl, h1, hk => by
    have hn := fun e => kNe2_nil (e := e) (b := false) (ds := iD ls) ((sim_ints ls).shaped (by decide))
    have hne : (iD ls).isEmpty = false := by
      cases ls with
      | nil => simp at hl
      | cons => rfl
    rw [hne] at hn
    obtain ⟨x, k1, e1, b1, u1⟩ := v_lift_nat (M := M + l) (m := ls.length) hk (by omega) (by
      have : (2 : Int) ^ 100 = 1267650600228229401496703205376 := by decide
      omega)
    have hx : x < ls.length := b1
    have hp := kPopAt_e (e := [.own true k1, .val L, .own false (iD ls), .own false (iD fs)]) (i := 2) (b := false) (ds := iD ls) (k := x) (d := .int ls[x]) rfl (by rw [List.getElem?_map, List.getElem?_eq_getElem hx]; rfl) (by rw [iD_len]; omega)
    rw [iD_erase] at hp
    have ha := fun e => kApp2_ok (i := 3) (d := .int ls[x]) (e := e) (p := false) (ds := iD fs) (by rw [iD_len]; omega)
    rw [iD_app] at ha
    obtain ⟨k', gs, n, q1, q2, q3⟩ := turned_loop l (M := M) (ks := k1) (L := L) (ls := ls.eraseIdx x) (fs := fs ++ [ls[x]]) (by rw [List.length_eraseIdx, if_pos hx]; omega) (by rw [List.length_append]; simp; omega) u1
    refine ⟨k', ls[x] :: gs, n + 1, ?_, (q2.cons _).trans (erase_perm hx), q3⟩
    rw [List.append_assoc] at q1
    refine whL_turn (e1 := [.own true ks, .val L, .own false (iD ls), .own false (iD fs)]) (by simp [-List.map_map, wt_law_turned_1, hn]) ?_ q1
    generalize iD (ls.eraseIdx x) = X1 at *
    generalize iD (fs ++ [ls[x]]) = X2 at *
    generalize iD fs = X3 at *
    have hlen : (((iD ls).length : Nat) : Int) = (ls.length : Int) := by rw [iD_len]
    generalize iD ls = X4 at *
    simp [wb_law_turned_1, hlen, e1, hp, ha]
theorem v_law_turned {M : Nat} {ks : List PyData} {ns : List Int} (hl : ns.length ≤ 1000) (hk : KegOk (M + ns.length) ks) : ∃ ms ks', Ph_law_turned ks [.list (iD ns)] = some (.list (iD ms), ks') ∧ ms.Perm ns ∧ KegOk M ks' := by
  obtain ⟨k', gs, n, q1, q2, q3⟩ := turned_loop ns.length (M := M) (ks := ks) (L := .list (iD ns)) (ls := ns) (fs := []) rfl (by simpa using hl) hk
  have hw := sWh_of q1
  refine ⟨gs, k', ?_, q2, q3⟩
  rw [List.nil_append, iD_nil] at hw
  have hO : ∀ e, kOf ([PyData.list (iD ns)], e) = some (iD ns, e) := fun _ => rfl
  generalize iD gs = G at *
  generalize iD ns = N at *
  unfold Ph_law_turned
  rw [runM2]
  unfold dn_law_turned
  simp [hO, hw]
end K11
set_option Elab.async false
set_option linter.all false
set_option maxRecDepth 100000
set_option maxHeartbeats 4000000
namespace K11
open PySem PySem.Spec PyProof.Rows L2 Dn
def isInt : PyData → Bool
  | .int _ => true
  | _ => false
def pairB (n : Int) : PyData → Bool
  | .tuple [.int a, .int b] => decide (0 ≤ a ∧ a < n) && (decide (0 ≤ b ∧ b < n) && decide (a ≠ b))
  | _ => false
def TyE (d : PyData) : Prop := tyOk d = true ∧ ∀ xs, d = .tuple xs → ∀ x ∈ xs, tyOk x = true
theorem v_is_int {d : PyData} (h : tyOk d = true) : Ph_is_integer [d] = some (.bool (isInt d)) := by
  unfold Ph_is_integer
  rw [run1]
  unfold dn_is_integer
  cases d <;> simp [-tyOk, h, isInt, isT]
theorem v_is_pair {n : Int} {d : PyData} (h : TyE d) : Ph_is_pair [d, .int n] = some (.bool (pairB n d)) := by
  unfold Ph_is_pair
  rw [run2]
  unfold dn_is_pair
  match d, h with
  | .tuple [], h => simp [-tyOk, h.1, isT, pairB]
  | .tuple [a], h => simp [-tyOk, h.1, isT, pairB]
  | .tuple (a :: b :: c :: r), h => simp [-tyOk, h.1, isT, pairB, show ¬ ((r.length : Int) + 1 + 1 + 1 = 2) by omega]
  | .tuple [a, b], h =>
    have ta := h.2 _ rfl a (by simp)
    have tb := h.2 _ rfl b (by simp)
    have ia := v_is_int ta
    have ib := v_is_int tb
    have i0 : gIx (.tuple [a, b]) (.int 0) = some a := rfl
    have i1 : gIx (.tuple [a, b]) (.int 1) = some b := rfl
    cases ja : isInt a with
    | false =>
      rw [ja] at ia
      simp [-tyOk, -gIx, h.1, isT, i0, ia]
      cases a <;> simp [pairB] <;> simp [isInt] at ja
    | true =>
      rw [ja] at ia
      cases jb : isInt b with
      | false =>
        rw [jb] at ib
        simp [-tyOk, -gIx, h.1, isT, i0, i1, ia, ib]
        cases b <;> simp [pairB] <;> first | (simp [isInt] at jb; done) | (cases a <;> simp)
      | true =>
        rw [jb] at ib
        cases a <;> simp [isInt] at ja
        cases b <;> simp [isInt] at jb
        rename_i x y
        simp [-tyOk, -gIx, h.1, isT, i0, i1, ia, ib, pairB]
        by_cases c1 : 0 ≤ x <;> by_cases c2 : x < n <;> by_cases c3 : 0 ≤ y <;> by_cases c4 : y < n <;> simp [c1, c2, c3, c4]
  | .int _, h => simp [-tyOk, h.1, isT, pairB]
  | .str _, h => simp [-tyOk, h.1, isT, pairB]
  | .bool _, h => simp [-tyOk, h.1, isT, pairB]
  | .none, h => simp [-tyOk, h.1, isT, pairB]
  | .list _, h => simp [-tyOk, h.1, isT, pairB]
  | .dict _, h => simp [-tyOk, h.1, isT, pairB]
end K11
set_option Elab.async false
set_option linter.all false
set_option maxRecDepth 100000
set_option maxHeartbeats 4000000
namespace K11
open PySem PySem.Spec PyProof.Rows L2 Dn
theorem shl_nat {i k : Nat} (hi : i < 2 ^ 300) (h : k ≤ 10000) : gShl (.int (i : Int)) (.int (k : Int)) = some (.int ((i * 2 ^ k : Nat) : Int)) := by
  have a : shlOk (i : Int) (k : Int) = true := by
    unfold shlOk
    rw [Bool.and_eq_true]
    have := log_of hi (by decide)
    refine ⟨decide_eq_true (by omega), decide_eq_true ?_⟩
    have e : (i : Int).natAbs = i := rfl
    rw [e]
    omega
  show (if shlOk (i : Int) (k : Int) = true then _ else _) = _
  rw [if_pos a, Int.toNat_natCast, Int.natCast_mul, Int.natCast_pow]
  rfl
theorem shl_one {k : Nat} (h : k ≤ 10000) : gShl (.int 1) (.int (k : Int)) = some (.int ((2 ^ k : Nat) : Int)) := by
  have := shl_nat (i := 1) (k := k) (by decide) h
  rw [Nat.one_mul] at this
  exact this
theorem v_need_count {m lo hi : Int} (h1 : lo ≤ m) (h2 : m ≤ hi) : Ph_need_count [.int m, .int lo, .int hi] = some .none := by
  have a := v_is_int (d := .int m) rfl
  unfold Ph_need_count
  rw [run3]
  unfold dn_need_count
  simp [a, isInt, h1, h2]
end K11
set_option Elab.async false
set_option linter.all false
set_option maxRecDepth 100000
set_option maxHeartbeats 4000000
namespace K11
open PySem PySem.Spec PyProof.Rows L2 Dn
theorem v_liftI {n : Nat} {ks : List PyData} {m : Int} (h : KegOk (n + 1) ks) (h0 : 0 < m) (hm : m.natAbs < 2 ^ 300) : ∃ x ks', Ph_law_lift ks [.int m] = some (.int x, ks') ∧ 0 ≤ x ∧ x < m ∧ KegOk n ks' := by
  obtain ⟨a, b, c, rfl, h1, h2, h3, h4, h5⟩ := h
  have m60 : (2 : Int) ^ 100 = 1267650600228229401496703205376 := by decide
  have hdm : divOk m = true := divOk_lt (by omega) (lt_pow (a := 300) hm (by decide))
  unfold Ph_law_lift
  rw [runM2]
  unfold dn_law_lift
  by_cases ha : 0 < a
  · refine ⟨a.fmod m, [.int (a.fdiv m), .int b, .int c], ?_, (fmod_lt h0).1, (fmod_lt h0).2, ⟨_, b, c, rfl, fdiv_nonneg h0 h1, h2, h3, h4, by omega⟩⟩
    have hp : ∀ (d : PyData) (e : En), kPut3 0 d (.int 0) e (some (.own true [.int a, .int b, .int c])) = some (.nx, e.set 0 (.own true [d, .int b, .int c])) := fun d e => kPut3_ok (k := 0) (by simp)
    simp [ha, show ¬ m = 0 by omega, hdm, hp]
  · have hc : mulOk (c + 1) 22801763489 = true := mulOk_lt (lt_pow (a := 30) (by omega) (by decide)) (lt_pow (a := 40) (by decide) (by decide))
    obtain ⟨P, hP, p28⟩ : ∃ P : Int, P = 10000000000000000000000000000 ∧ gPow (.int 10) (.int 28) = some (.int P) := by
      have : powOk 10 28 = true := by decide +kernel
      exact ⟨_, rfl, by simp [gPow, this]⟩
    obtain ⟨P', hP', p24⟩ : ∃ P : Int, P = 1000000000000000000000000 ∧ gPow (.int 10) (.int 24) = some (.int P) := by
      have : powOk 10 24 = true := by decide +kernel
      exact ⟨_, rfl, by simp [gPow, this]⟩
    have p3 : gPow (.int (b + (c + 1) * 22801763489)) (.int 3) = some (.int ((b + (c + 1) * 22801763489) ^ 3)) := by
      have : powOk (b + (c + 1) * 22801763489) 3 = true := powOk_lt (lt_pow (a := 101) (by
        have : (2 : Nat) ^ 101 = 2535301200456458802993406410752 := by decide
        have : (2 : Int) ^ 100 = 1267650600228229401496703205376 := by decide
        omega) (by decide))
      simp [gPow, this]
    let st := ((b + (c + 1) * 22801763489) ^ 3).fmod (P + 331)
    have hst : 0 ≤ st ∧ st < P + 331 := fmod_lt (by omega)
    have p2 : gPow (.int st) (.int 2) = some (.int (st ^ 2)) := by
      have : powOk st 2 = true := pow2_of (powOk_lt (lt_pow (a := 100) (by
        have : (2 : Nat) ^ 100 = 1267650600228229401496703205376 := by decide
        omega) (by decide)))
      simp [gPow, this]
    have d1 : divOk 8699 = true := by decide +kernel
    have d2 : divOk 12007 = true := by decide +kernel
    let r := ((((st ^ 2 + st.fdiv 8699).fmod (P' + 7)).fdiv 12007).fmod m)
    refine ⟨r, [.int a, .int b, .int (c + 1)], ?_, (fmod_lt h0).1, (fmod_lt h0).2, ⟨a, b, c + 1, rfl, h1, h2, h3, by omega, by omega⟩⟩
    have hp : ∀ (d : PyData) (e : En), kPut3 0 d (.int 2) e (some (.own true [.int a, .int b, .int c])) = some (.nx, e.set 0 (.own true [.int a, .int b, d])) := fun d e => kPut3_ok (k := 2) (by simp)
    have p2' : gPow (.int (((b + (c + 1) * 22801763489) ^ 3).fmod (P + 331))) (.int 2) = some (.int ((((b + (c + 1) * 22801763489) ^ 3).fmod (P + 331)) ^ 2)) := p2
    simp [-gPow, ha, hp, hc, p28, p24, p3, p2', d1, d2, show ¬ m = 0 by omega, show ¬ P + 331 = 0 by omega, show ¬ P' + 7 = 0 by omega, r, st]
theorem v_lift {M m : Nat} {ks : List PyData} (h : KegOk (M + 1) ks) (h0 : 0 < m) (hm : m < 2 ^ 300) : ∃ (x : Nat) (ks' : List PyData), Ph_law_lift ks [.int (m : Int)] = some (.int (x : Int), ks') ∧ x < m ∧ KegOk M ks' := by
  obtain ⟨x, k', e, a, b, u⟩ := v_liftI (m := (m : Int)) h (by omega) hm
  obtain ⟨x, rfl⟩ := Int.eq_ofNat_of_zero_le a
  exact ⟨x, k', e, by omega, u⟩
end K11
set_option Elab.async false
set_option linter.all false
set_option maxRecDepth 100000
set_option maxHeartbeats 4000000
namespace K11
open PySem PySem.Spec PyProof.Rows L2 Dn
abbrev Mx := Nat → Nat → Int
def bothR (R : Mx) (a b : Nat) : Nat → Int := fun j => (R a j + R b j).fdiv 2
def stepR (R : Mx) (a b : Nat) : Mx := fun k => if k = b then bothR R a b else if k = a then bothR R a b else R k
def r0 (w : Int) : Mx := fun k j => w * (if k = j then 1 else 0)
def foldR (ps : List (Nat × Nat)) (R : Mx) : Mx := ps.foldl (fun R p => stepR R p.1 p.2) R
def rowsL (n : Nat) (R : Mx) : List PyData := (List.range n).map fun k => vecP n (R k)
def encPr (p : Nat × Nat) : PyData := .tuple [.int (p.1 : Int), .int (p.2 : Int)]
def PrOk (n : Nat) (ps : List (Nat × Nat)) : Prop := ∀ p ∈ ps, p.1 < n ∧ p.2 < n ∧ p.1 ≠ p.2
def levB (n : Nat) (R : Mx) : Bool := PyData.eqv (matP n n R) (.list (reps n [vecP n (R 0)]))
variable {n : Nat} {R : Mx}
theorem rows_set {k : Nat} (f : Nat → Int) : (rowsL n R).set k (vecP n f) = rowsL n fun i => if i = k then f else R i := by
  unfold rowsL
  apply List.ext_getElem?
  intro i
  rw [List.getElem?_set, List.getElem?_map, List.getElem?_map, List.length_map, List.length_range]
  by_cases hi : i < n
  · rw [List.getElem?_range hi]
    by_cases c : k = i
    · subst c; simp [hi]
    · rw [if_neg c]
      simp [show ¬ i = k from fun z => c z.symm]
  · rw [List.getElem?_eq_none (by simpa using hi)]
    by_cases c : k = i
    · subst c; simp [hi]
    · simp [c]
theorem rows_at {a : Nat} (h : a < n) : atI (rowsL n R) (a : Int) = some (vecP n (R a)) := atI_map h
theorem rows_len : (rowsL n R).length = n := by simp [rowsL]
theorem sim_vec {f : Nat → Int} : Sim 2 (vecP n f) := fun d hd => by
  obtain ⟨i, _, rfl⟩ := List.mem_map.mp hd
  exact trivial
theorem sim_mat : Sim 3 (matP n n R) := fun d hd => by
  obtain ⟨i, _, rfl⟩ := List.mem_map.mp hd
  exact sim_vec
theorem mem_reps {x y : PyData} {k : Int} (h : y ∈ reps k [x]) : y = x := by
  unfold reps at h
  simp at h
  exact h.2
theorem lev_eq (hn : n ≤ 8) : gEq (matP n n R) (.list (reps n [vecP n (R 0)])) = some (.bool (levB n R)) := gEq_gen _ _ (sim_mat.shaped (by decide)) ((show Sim 3 (.list (reps n [vecP n (R 0)])) from fun d hd => (mem_reps hd) ▸ sim_vec).shaped (by decide))
abbrev envH (n : Nat) (T W : PyData) (R : Mx) (s4 s5 s6 : Sl) : En := [.val (.int (n : Int)), .val T, .val W, .own false (rowsL n R), s4, s5, s6, .no, .no, .no, .no]
theorem half_step {T W : PyData} {a b : Nat} {s6 : Sl} (ha : a < n) (hb : b < n) (hn : n ≤ 1000) : lp_halved_1 (envH n T W R (.val (.int (a : Int))) (.val (.int (b : Int))) s6) = some (.nx, envH n T W (stepR R a b) (.val (.int (a : Int))) (.val (.int (b : Int))) (.val (vecP n (bothR R a b)))) := by
  have i1 := rows_at (n := n) (R := R) ha
  have i2 := rows_at (n := n) (R := R) hb
  have d2 : divOk 2 = true := by decide
  have hc := cm_a2 (a := ce_halved_3) (i := 9) (j := 10) (e := envH n T W R (.val (.int (a : Int))) (.val (.int (b : Int))) s6) (xs := List.range n) (E1 := fun i => .int (R a i)) (E2 := fun i => .int (R b i)) (D := .int) (F := fun i => (R a i + R b i).fdiv 2) (by simp; omega) (by decide) rfl rfl rfl fun j hj => by
    simp [ce_halved_3, d2]
  have hz : ∀ e, kZp ([vecP n (R a), vecP n (R b)], e) = some ((List.range n).map fun i => .tuple [.int (R a i), .int (R b i)], e) := fun e => kZp_vec
  have hf : PyData.list (((List.range n).map fun i => (R a i + R b i).fdiv 2).map PyData.int) = vecP n (bothR R a b) := vec_fold (f := bothR R a b)
  have p1 := fun e => kPut3_ok (i := 3) (d := vecP n (bothR R a b)) (e := e) (p := false) (ds := rowsL n R) (k := a) (by rw [rows_len]; exact ha)
  rw [rows_set] at p1
  have p2 := fun e => kPut3_ok (i := 3) (d := vecP n (bothR R a b)) (e := e) (p := false) (ds := rowsL n fun i => if i = a then bothR R a b else R i) (k := b) (by rw [rows_len]; exact hb)
  rw [rows_set] at p2
  have es : (fun i => if i = b then bothR R a b else if i = a then bothR R a b else R i) = stepR R a b := rfl
  rw [es] at p2
  unfold envH at *
  unfold lp_halved_1
  generalize rowsL n (stepR R a b) = X3 at *
  generalize (rowsL n fun i => if i = a then bothR R a b else R i) = X2 at *
  generalize rowsL n R = X1 at *
  simp [-List.map_map, i1, i2, hz, hc, hf, p1, p2]
theorem half_fold : ∀ {ps : List (Nat × Nat)} {T W : PyData} {R : Mx} {s4 s5 s6 : Sl}, n ≤ 1000 → PrOk n ps → ∃ t4 t5 t6, forL (g2 2 (gsC (g1 4) (gsC (g1 5) gsN))) lp_halved_1 (ps.map encPr) (envH n T W R s4 s5 s6) = some (.nx, envH n T W (foldR ps R) t4 t5 t6)
  | [], T, W, R, s4, s5, s6, hn, h => ⟨s4, s5, s6, rfl⟩
  | (a, b) :: ps, T, W, R, s4, s5, s6, hn, h => by
    obtain ⟨h1, h2, _⟩ := h (a, b) List.mem_cons_self
    have st := half_step (T := T) (W := W) (R := R) (s6 := s6) h1 h2 hn
    obtain ⟨t4, t5, t6, ih⟩ := half_fold (ps := ps) (T := T) (W := W) (R := stepR R a b) (s4 := .val (.int (a : Int))) (s5 := .val (.int (b : Int))) (s6 := .val (vecP n (bothR R a b))) hn fun p hp => h p (List.mem_cons_of_mem _ hp)
    refine ⟨t4, t5, t6, ?_⟩
    have tg : g2 2 (gsC (g1 4) (gsC (g1 5) gsN)) (encPr (a, b)) (envH n T W R s4 s5 s6) = some (envH n T W R (.val (.int (a : Int))) (.val (.int (b : Int))) s6) := rfl
    rw [List.map_cons, for_cons, tg]
    show (lp_halved_1 _).bind _ = _
    rw [st]
    exact ih
theorem half_rows {W : Int} {T : PyData} (hn : n ≤ 1000) (hW : W.natAbs < 2 ^ 1001) : kCm (g1 7) tYs ce_halved_2 [7] ((List.range n).map (fun (i : Nat) => .int (i : Int)), [.val (.int (n : Int)), .val T, .val (.int W), .no, .no, .no, .no, .no, .no, .no, .no]) = some (rowsL n (r0 W), [.val (.int (n : Int)), .val T, .val (.int W), .no, .no, .no, .no, .no, .no, .no, .no]) := by
  have hmu : ∀ c : Bool, mulOk W (if c = true then 1 else 0) = true := fun c => mulOk_lt (lt_pow (a := 1001) hW (by decide)) (lt_pow (a := 2) (by cases c <;> decide) (by decide))
  have hr := fun e => @kR1_len n e (by omega)
  have hc2 := cm_a (a := ce_halved_2) (i := 7) (e := [.val (.int (n : Int)), .val T, .val (.int W), .no, .no, .no, .no, .no, .no, .no, .no]) (xs := List.range n) (E := fun (i : Nat) => .int (i : Int)) (D := id) (F := fun k => vecP n (r0 W k)) (by simp; omega) rfl rfl fun k hk => by
    have hc1 := cm_a (a := ce_halved_1) (i := 8) (e := [.val (.int (n : Int)), .val T, .val (.int W), .no, .no, .no, .no, .val (.int (k : Int)), .no, .no, .no]) (xs := List.range n) (E := fun (i : Nat) => .int (i : Int)) (D := .int) (F := fun j => r0 W k j) (by simp; omega) rfl rfl fun j hj => by
      have m := hmu (decide (k = j))
      unfold r0
      by_cases c : k = j
      · subst c
        simp at m
        simp [ce_halved_1, m]
      · simp [c] at m
        have c' : ¬ (k : Int) = (j : Int) := by omega
        simp [ce_halved_1, m, c, c']
    have hv := vec_fold (n := n) (f := r0 W k)
    simp [-List.map_map, ce_halved_2, hr, hc1, hv]
  rw [hc2]
  simp [rowsL]
theorem v_halved {ps : List (Nat × Nat)} (hn : n ≤ 1000) (hl : ps.length ≤ 1000) (h : PrOk n ps) : Ph_halved [.int (n : Int), .list (ps.map encPr)] = some (matP n n (foldR ps (r0 ((2 ^ ps.length : Nat) : Int)))) := by
  have hs := shl_one (k := ps.length) (by omega)
  have hlen : gLen [.list (ps.map encPr)] = some (.int (ps.length : Int)) := by simp
  have pl : (2 ^ ps.length : Nat) ≤ 2 ^ 1000 := Nat.pow_le_pow_right (by decide) hl
  obtain ⟨t4, t5, t6, hf⟩ := half_fold (ps := ps) (T := .list (ps.map encPr)) (W := .int ((2 ^ ps.length : Nat) : Int)) (R := r0 ((2 ^ ps.length : Nat) : Int)) (s4 := .no) (s5 := .no) (s6 := .no) hn h
  have hm : ∀ F, PyData.list (rowsL n F) = matP n n F := fun _ => rfl
  have hr := fun e => @kR1_len n e (by omega)
  have hc2 := half_rows (n := n) (W := ((2 ^ ps.length : Nat) : Int)) (T := .list (ps.map encPr)) hn (Nat.lt_of_le_of_lt pl (Nat.pow_lt_pow_right (by decide) (by decide)))
  unfold envH at hf
  have hfin := hm (foldR ps (r0 ((2 ^ ps.length : Nat) : Int)))
  generalize hG : foldR ps (r0 ((2 ^ ps.length : Nat) : Int)) = G at *
  generalize hA : rowsL n (r0 ((2 ^ ps.length : Nat) : Int)) = A at *
  generalize ((2 ^ ps.length : Nat) : Int) = P at *
  generalize rowsL n G = B at *
  unfold Ph_halved
  rw [run2]
  unfold dn_halved
  simp [-List.map_map, -gShl, -gLen, hlen, hs, hr, hc2, hf, hfin]
end K11
set_option Elab.async false
set_option linter.all false
set_option maxRecDepth 100000
set_option maxHeartbeats 4000000
namespace K11
open PySem PySem.Spec PyProof.Rows L2 Dn
variable {n : Nat} {R : Mx}
theorem pairB_pr {p : Nat × Nat} (h : p.1 < n ∧ p.2 < n ∧ p.1 ≠ p.2) : pairB n (encPr p) = true := by
  obtain ⟨a, b⟩ := p
  obtain ⟨h1, h2, h3⟩ := h
  simp only at h1 h2 h3
  show (decide (0 ≤ (a : Int) ∧ (a : Int) < n) && (decide (0 ≤ (b : Int) ∧ (b : Int) < n) && decide ((a : Int) ≠ b))) = true
  rw [decide_eq_true (by omega), decide_eq_true (by omega), decide_eq_true (by omega)]
  rfl
theorem tyE_pr (p : Nat × Nat) : TyE (encPr p) := ⟨rfl, fun xs h x hx => by
  unfold encPr at h
  cases h
  simp only [List.mem_cons, List.not_mem_nil, or_false] at hx
  rcases hx with rfl | rfl <;> rfl⟩
theorem need_fold {D : PyData} : ∀ {ps : List (Nat × Nat)} {s : Sl}, PrOk n ps → ∃ t, forL (g1 2) lp_need_pairs_1 (ps.map encPr) [.val (.int (n : Int)), .val D, s] = some (.nx, [.val (.int (n : Int)), .val D, t])
  | [], s, h => ⟨s, rfl⟩
  | p :: ps, s, h => by
    have a := v_is_pair (n := (n : Int)) (tyE_pr p)
    rw [pairB_pr (h p List.mem_cons_self)] at a
    have st : lp_need_pairs_1 [.val (.int (n : Int)), .val D, .val (encPr p)] = some (.nx, [.val (.int (n : Int)), .val D, .val (encPr p)]) := by
      unfold lp_need_pairs_1
      simp [a]
    obtain ⟨t, ih⟩ := need_fold (D := D) (ps := ps) (s := .val (encPr p)) fun q hq => h q (List.mem_cons_of_mem _ hq)
    refine ⟨t, ?_⟩
    rw [List.map_cons, for_cons, show g1 2 (encPr p) [.val (.int (n : Int)), .val D, s] = some [.val (.int (n : Int)), .val D, .val (encPr p)] from rfl]
    show (lp_need_pairs_1 _).bind _ = _
    rw [st]
    exact ih
theorem v_need_pairs {ps : List (Nat × Nat)} (h1 : 1 ≤ n) (h8 : n ≤ 8) (h : PrOk n ps) : Ph_need_pairs [.int (n : Int), .list (ps.map encPr)] = some .none := by
  have c := v_need_count (m := (n : Int)) (lo := 1) (hi := 8) (by omega) (by omega)
  obtain ⟨t, f⟩ := need_fold (D := .list (ps.map encPr)) (s := .no) h
  generalize ps.map encPr = L at *
  unfold Ph_need_pairs
  rw [run2]
  unfold dn_need_pairs
  simp [c, f]
theorem v_is_level {ps : List (Nat × Nat)} (h1 : 1 ≤ n) (h8 : n ≤ 8) (hl : ps.length ≤ 1000) (h : PrOk n ps) : Ph_is_level [.int (n : Int), .list (ps.map encPr)] = some (.bool (levB n (foldR ps (r0 ((2 ^ ps.length : Nat) : Int))))) := by
  have c := v_need_pairs h1 h8 h
  have hh := v_halved (by omega) hl h
  generalize foldR ps (r0 ((2 ^ ps.length : Nat) : Int)) = G at *
  have i0 : gIx (matP n n G) (.int 0) = some (vecP n (G 0)) := rows_at (n := n) (R := G) (a := 0) (by omega)
  have e := lev_eq (n := n) (R := G) h8
  have hr : ∀ (x : PyData) (e : En), kRep2 [x] (.int (n : Int), e) = some (reps n [x], e) := fun x e => kRep2_n (by omega) (by simp) (by omega)
  generalize ps.map encPr = L at *
  unfold Ph_is_level
  rw [run2]
  unfold dn_is_level
  simp [-gIx, -gEq, c, hh, i0, e, hr]
end K11
set_option Elab.async false
set_option linter.all false
set_option maxRecDepth 100000
set_option maxHeartbeats 4000000
namespace K11
open PySem PySem.Spec PyProof.Rows L2 Dn
variable {n : Nat} {R : Mx}
theorem seqn {a b : Fs} {e e2 : En} (h : a e = some (.nx, e2)) : sSeq a b e = b e2 := by
  unfold sSeq
  rw [h]
  rfl
theorem reps_rep {x : PyData} : ∀ n : Nat, reps (n : Int) [x] = (List.range n).map fun _ => x := fun n => by
  unfold reps
  rw [Int.toNat_natCast]
  induction n with
  | zero => rfl
  | succ n ih =>
    rw [List.replicate_succ, List.flatten_cons, ih, List.range_succ_eq_map, List.map_cons, List.map_map]
    rfl
theorem levB_true {R : Mx} (h : ∀ k, k < n → ∀ j, j < n → R k j = R 0 j) : levB n R = true := by
  unfold levB
  have e : matP n n R = .list (reps n [vecP n (R 0)]) := by
    rw [reps_rep]
    unfold matP
    congr 1
    exact List.map_congr_left fun k hk => vecP_congr fun j hj => h k (List.mem_range.mp hk) j hj
  rw [← e]
  exact (sim_mat.eqv sim_mat).mpr rfl
end K11
set_option Elab.async false
set_option linter.all false
set_option maxRecDepth 100000
set_option maxHeartbeats 4000000
namespace K11
open PySem PySem.Spec PyProof.Rows L2 Dn
variable {n : Nat} {ks : List PyData}
def encZ (p : Int × Int) : PyData := .tuple [.int p.1, .int p.2]
def ZOk (n : Nat) (p : Int × Int) : Prop := (0 ≤ p.1 ∧ p.1 < n) ∧ 0 ≤ p.2 ∧ p.2 < n
def BOk (n c w : Nat) (bs : List (List Int)) : Prop := bs.length = c ∧ ∀ l ∈ bs, l.length = w ∧ ∀ z ∈ l, 0 ≤ z ∧ z < (n : Int)
def bsD (bs : List (List Int)) : List PyData := bs.map fun l => .list (iD l)
abbrev envA (n : Nat) (ks : List PyData) (bs : PyData) (zs : List (Int × Int)) (ms : Sl) (s5 s6 s7 s8 : Sl) : En := [.own true ks, .val (.int (n : Int)), .val bs, .own false (zs.map encZ), ms, s5, s6, s7, s8, .no]
theorem zip_loop : ∀ {X Y : List Int} {zs : List (Int × Int)} {B : PyData} {ms s5 s6 s7 s8 : Sl}, X.length = Y.length → zs.length + X.length ≤ 1000 → ∃ t7 t8, forL (g2 2 (gsC (g1 7) (gsC (g1 8) gsN))) lp_law_all_pairs_1 (zipD (iD X) (iD Y)) (envA n ks B zs ms s5 s6 s7 s8) = some (.nx, envA n ks B (zs ++ X.zip Y) ms s5 s6 t7 t8)
  | [], [], zs, B, ms, s5, s6, s7, s8, _, _ => ⟨s7, s8, by rw [List.zip_nil_left, List.append_nil]; rfl⟩
  | x :: X, y :: Y, zs, B, ms, s5, s6, s7, s8, h, hl => by
    rw [List.length_cons] at hl
    have ha := fun e => kApp2_ok (i := 3) (d := encZ (x, y)) (e := e) (p := false) (ds := zs.map encZ) (by rw [List.length_map]; omega)
    have st : lp_law_all_pairs_1 (envA n ks B zs ms s5 s6 (.val (.int x)) (.val (.int y))) = some (.nx, envA n ks B (zs ++ [(x, y)]) ms s5 s6 (.val (.int x)) (.val (.int y))) := by
      have ez : PyData.tuple [.int x, .int y] = encZ (x, y) := rfl
      unfold envA lp_law_all_pairs_1
      rw [List.map_append]
      generalize zs.map encZ = L at *
      simp [ez, ha]
    obtain ⟨t7, t8, ih⟩ := zip_loop (X := X) (Y := Y) (zs := zs ++ [(x, y)]) (B := B) (ms := ms) (s5 := s5) (s6 := s6) (s7 := .val (.int x)) (s8 := .val (.int y)) (by simpa using h) (by rw [List.length_append]; simp only [List.length_cons, List.length_nil]; omega)
    refine ⟨t7, t8, ?_⟩
    have ez : zipD (iD (x :: X)) (iD (y :: Y)) = .tuple [.int x, .int y] :: zipD (iD X) (iD Y) := rfl
    rw [ez, for_cons, show g2 2 (gsC (g1 7) (gsC (g1 8) gsN)) (.tuple [.int x, .int y]) (envA n ks B zs ms s5 s6 s7 s8) = some (envA n ks B zs ms s5 s6 (.val (.int x)) (.val (.int y))) from rfl]
    show (lp_law_all_pairs_1 _).bind _ = _
    rw [st]
    rw [List.append_assoc] at ih
    exact ih
theorem zip_ok {X Y : List Int} (hx : ∀ z ∈ X, 0 ≤ z ∧ z < (n : Int)) (hy : ∀ z ∈ Y, 0 ≤ z ∧ z < (n : Int)) : ∀ p ∈ X.zip Y, ZOk n p := fun p hp => ⟨hx _ (List.of_mem_zip hp).1, hy _ (List.of_mem_zip hp).2⟩
theorem add_iD {X Y : List Int} (h : X.length + Y.length ≤ 1000) : gAdd (.list (iD X)) (.list (iD Y)) = some (.list (iD (X ++ Y))) := by
  show (if okN _ then _ else _) = _
  rw [okN_of (by rw [iD_len, iD_len]; omega), if_pos rfl, ← List.map_append]
theorem bs_at {bs : List (List Int)} {k : Nat} (h : k < bs.length) : gIx (.list (bsD bs)) (.int (k : Int)) = some (.list (iD bs[k])) := by
  show atI _ _ = _
  rw [Dn.atI_get (by unfold bsD; simpa using h)]
  simp [bsD]
end K11
set_option Elab.async false
set_option linter.all false
set_option maxRecDepth 100000
set_option maxHeartbeats 4000000
namespace K11
open PySem PySem.Spec PyProof.Rows L2 Dn
variable {n : Nat} {ks : List PyData}
theorem rng2_nat (h : Nat) : rng2 0 ((2 * h : Nat) : Int) = (List.range h).map fun (i : Nat) => .int ((2 * i : Nat) : Int) := by
  unfold rng2
  rw [show ((((2 * h : Nat) : Int) - 0 + 1) / 2).toNat = h by omega]
  exact List.map_congr_left fun i _ => by rw [show (0 + (i : Int) * 2) = ((2 * i : Nat) : Int) by omega]
end K11
set_option Elab.async false
set_option linter.all false
set_option maxRecDepth 100000
set_option maxHeartbeats 4000000
namespace K11
open PySem PySem.Spec PyProof.Rows L2 Dn
variable {n : Nat}
def tabP (n : Nat) (W : Int) (R : Mx) : PyData := .tuple ((List.range n).map fun k => .tuple ((List.range n).map fun j => encQ (Rat.divInt (R k j) W)))
theorem v_levelled {ps : List (Nat × Nat)} (h1 : 1 ≤ n) (h8 : n ≤ 8) (hl : ps.length ≤ 1000) (h : PrOk n ps) : Ph_levelled [.int (n : Int), .list (ps.map encPr)] = some (tabP n ((2 ^ ps.length : Nat) : Int) (foldR ps (r0 ((2 ^ ps.length : Nat) : Int)))) := by
  have c := v_need_pairs h1 h8 h
  have hh := v_halved (by omega) hl h
  have hs := shl_one (k := ps.length) (by omega)
  have hlen : gLen [.list (ps.map encPr)] = some (.int (ps.length : Int)) := by simp
  have pl : (2 ^ ps.length : Nat) < 2 ^ 1001 := Nat.lt_of_le_of_lt (Nat.pow_le_pow_right (by decide) hl) (Nat.pow_lt_pow_right (by decide) (by decide))
  have pp := Nat.two_pow_pos ps.length
  obtain ⟨W, hW⟩ : ∃ W : Int, W = ((2 ^ ps.length : Nat) : Int) := ⟨_, rfl⟩
  have w0 : 0 < W := by rw [hW]; omega
  have w9 : W.natAbs < 2 ^ 9000 := by rw [hW]; exact lt_pow (a := 1001) (show (2 ^ ps.length : Nat) < 2 ^ 1001 from pl) (by decide)
  rw [← hW] at hh hs ⊢
  generalize foldR ps (r0 W) = G at *
  generalize ps.map encPr = L at *
  have hc2 := cm_a (a := ce_levelled_2) (i := 3) (e := [.val (.int (n : Int)), .val (.list L), .val (.int W), .no, .no]) (xs := List.range n) (E := fun (k : Nat) => vecP n (G k)) (D := id) (F := fun k => .tuple ((List.range n).map fun j => encQ (Rat.divInt (G k j) W))) (by simp; omega) rfl rfl fun k hk => by
    have hc1 := cm_a (a := ce_levelled_1) (i := 4) (e := [.val (.int (n : Int)), .val (.list L), .val (.int W), .val (vecP n (G k)), .no]) (xs := List.range n) (E := fun (j : Nat) => .int (G k j)) (D := encQ) (F := fun j => Rat.divInt (G k j) W) (by simp; omega) rfl rfl fun j hj => by
      have f := v_fraction (a := G k j) w0 w9
      simp [ce_levelled_1, f]
    have it : items (vecP n (G k)) = some ((List.range n).map fun i => .int (G k i)) := rfl
    rw [List.map_map] at hc1
    have hc1' : kCm (g1 4) tYs ce_levelled_1 [4] ((List.range n).map (fun (j : Nat) => .int (G k j)), [.val (.int (n : Int)), .val (.list L), .val (.int W), .val (vecP n (G k)), .no]) = some ((List.range n).map fun j => encQ (Rat.divInt (G k j) W), [.val (.int (n : Int)), .val (.list L), .val (.int W), .val (vecP n (G k)), .no]) := hc1
    simp [-items, -List.map_map, ce_levelled_2, it, hc1']
  rw [List.map_id_fun, id] at hc2
  have it : items (matP n n G) = some ((List.range n).map fun k => vecP n (G k)) := rfl
  unfold Ph_levelled
  rw [run2]
  unfold dn_levelled
  simp [-items, -List.map_map, -gShl, -gLen, c, hlen, hs, hh, it, hc2]
  rfl
abbrev envC (n : Nat) (T : PyData) (j : Nat) (f : Nat → Int) (s4 s5 s6 : Sl) : En := [.val (.int (n : Int)), .val T, .val (.int (j : Int)), .own false ((List.range n).map fun k => .int (f k)), s4, s5, s6, .no]
def stepC (f : Nat → Int) (a b : Nat) : Nat → Int := fun k => if k = b then (f a + f b).fdiv 2 else if k = a then (f a + f b).fdiv 2 else f k
theorem ivec_set {f : Nat → Int} {k : Nat} (z : Int) : ((List.range n).map fun i => PyData.int (f i)).set k (.int z) = (List.range n).map fun i => .int (if i = k then z else f i) := by
  apply List.ext_getElem?
  intro i
  rw [List.getElem?_set, List.getElem?_map, List.getElem?_map, List.length_map, List.length_range]
  by_cases hi : i < n
  · rw [List.getElem?_range hi]
    by_cases c : k = i
    · subst c; simp [hi]
    · rw [if_neg c]
      simp [show ¬ i = k from fun z => c z.symm]
  · rw [List.getElem?_eq_none (by simpa using hi)]
    by_cases c : k = i
    · subst c; simp [hi]
    · simp [c]
theorem col_step {T : PyData} {j a b : Nat} {f : Nat → Int} {s6 : Sl} (ha : a < n) (hb : b < n) : lp_law_column_1 (envC n T j f (.val (.int (a : Int))) (.val (.int (b : Int))) s6) = some (.nx, envC n T j (stepC f a b) (.val (.int (a : Int))) (.val (.int (b : Int))) (.val (.int ((f a + f b).fdiv 2)))) := by
  have i1 : atI ((List.range n).map fun k => PyData.int (f k)) (a : Int) = some (.int (f a)) := atI_map ha
  have i2 : atI ((List.range n).map fun k => PyData.int (f k)) (b : Int) = some (.int (f b)) := atI_map hb
  have d2 : divOk 2 = true := by decide
  have p1 := fun e => kPut3_ok (i := 3) (d := .int ((f a + f b).fdiv 2)) (e := e) (p := false) (ds := (List.range n).map fun k => PyData.int (f k)) (k := a) (by simpa using ha)
  rw [ivec_set] at p1
  have p2 := fun e => kPut3_ok (i := 3) (d := .int ((f a + f b).fdiv 2)) (e := e) (p := false) (ds := (List.range n).map fun i => PyData.int (if i = a then (f a + f b).fdiv 2 else f i)) (k := b) (by simpa using hb)
  rw [ivec_set] at p2
  have es : (fun i => PyData.int (if i = b then (f a + f b).fdiv 2 else if i = a then (f a + f b).fdiv 2 else f i)) = fun i => .int (stepC f a b i) := rfl
  rw [es] at p2
  unfold envC at *
  unfold lp_law_column_1
  generalize ((List.range n).map fun i => PyData.int (stepC f a b i)) = X3 at *
  generalize ((List.range n).map fun i => PyData.int (if i = a then (f a + f b).fdiv 2 else f i)) = X2 at *
  generalize ((List.range n).map fun k => PyData.int (f k)) = X1 at *
  simp [i1, i2, d2, p1, p2]
theorem col_fold : ∀ {ps : List (Nat × Nat)} {T : PyData} {j : Nat} {R : Mx} {s4 s5 s6 : Sl}, PrOk n ps → ∃ t4 t5 t6, forL (g2 2 (gsC (g1 4) (gsC (g1 5) gsN))) lp_law_column_1 (ps.map encPr) (envC n T j (fun k => R k j) s4 s5 s6) = some (.nx, envC n T j (fun k => foldR ps R k j) t4 t5 t6)
  | [], T, j, R, s4, s5, s6, h => ⟨s4, s5, s6, rfl⟩
  | (a, b) :: ps, T, j, R, s4, s5, s6, h => by
    obtain ⟨h1, h2, _⟩ := h (a, b) List.mem_cons_self
    have st := col_step (T := T) (j := j) (f := fun k => R k j) (s6 := s6) h1 h2
    have es : stepC (fun k => R k j) a b = fun k => stepR R a b k j := by
      funext k
      unfold stepC stepR bothR
      split
      · rfl
      · split <;> rfl
    rw [es] at st
    obtain ⟨t4, t5, t6, ih⟩ := col_fold (ps := ps) (T := T) (j := j) (R := stepR R a b) (s4 := .val (.int (a : Int))) (s5 := .val (.int (b : Int))) (s6 := .val (.int ((R a j + R b j).fdiv 2))) fun p hp => h p (List.mem_cons_of_mem _ hp)
    refine ⟨t4, t5, t6, ?_⟩
    have tg : g2 2 (gsC (g1 4) (gsC (g1 5) gsN)) (encPr (a, b)) (envC n T j (fun k => R k j) s4 s5 s6) = some (envC n T j (fun k => R k j) (.val (.int (a : Int))) (.val (.int (b : Int))) s6) := rfl
    rw [List.map_cons, for_cons, tg]
    show (lp_law_column_1 _).bind _ = _
    rw [st]
    exact ih
theorem v_law_column {ps : List (Nat × Nat)} {j : Nat} (h8 : n ≤ 8) (hl : ps.length ≤ 1000) (h : PrOk n ps) : Ph_law_column [.int (n : Int), .list (ps.map encPr), .int (j : Int)] = some (vecP n fun k => foldR ps (r0 ((2 ^ ps.length : Nat) : Int)) k j) := by
  have hs := shl_one (k := ps.length) (by omega)
  have hlen : gLen [.list (ps.map encPr)] = some (.int (ps.length : Int)) := by simp
  have pl : (2 ^ ps.length : Nat) < 2 ^ 1001 := Nat.lt_of_le_of_lt (Nat.pow_le_pow_right (by decide) hl) (Nat.pow_lt_pow_right (by decide) (by decide))
  obtain ⟨W, hW⟩ : ∃ W : Int, W = ((2 ^ ps.length : Nat) : Int) := ⟨_, rfl⟩
  have w9 : W.natAbs < 2 ^ 1001 := by rw [hW]; exact pl
  rw [← hW] at hs ⊢
  have hmu : ∀ c : Bool, mulOk W (if c = true then 1 else 0) = true := fun c => mulOk_lt (lt_pow (a := 1001) w9 (by decide)) (lt_pow (a := 2) (by cases c <;> decide) (by decide))
  obtain ⟨t4, t5, t6, hf⟩ := col_fold (n := n) (ps := ps) (T := .list (ps.map encPr)) (j := j) (R := r0 W) (s4 := .no) (s5 := .no) (s6 := .no) h
  have hr := fun e => @kR1_len n e (by omega)
  generalize ps.map encPr = L at *
  have hc := cm_a (a := ce_law_column_1) (i := 7) (e := [.val (.int (n : Int)), .val (.list L), .val (.int (j : Int)), .no, .no, .no, .no, .no]) (xs := List.range n) (E := fun (k : Nat) => .int (k : Int)) (D := .int) (F := fun k => r0 W k j) (by simp; omega) rfl rfl fun k hk => by
    have mm := hmu (decide (k = j))
    unfold r0
    by_cases c : k = j
    · subst c
      simp at mm
      simp [-gShl, -gLen, ce_law_column_1, hlen, hs, mm]
    · simp [c] at mm
      have c' : ¬ (k : Int) = (j : Int) := by omega
      simp [-gShl, -gLen, ce_law_column_1, hlen, hs, mm, c, c']
  have hc' : kCm (g1 7) tYs ce_law_column_1 [7] ((List.range n).map (fun (k : Nat) => .int (k : Int)), [.val (.int (n : Int)), .val (.list L), .val (.int (j : Int)), .no, .no, .no, .no, .no]) = some ((List.range n).map fun k => .int (r0 W k j), [.val (.int (n : Int)), .val (.list L), .val (.int (j : Int)), .no, .no, .no, .no, .no]) := by
    rw [hc, List.map_map]
    rfl
  have hfin : PyData.list ((List.range n).map fun k => .int (foldR ps (r0 W) k j)) = vecP n fun k => foldR ps (r0 W) k j := rfl
  unfold envC at hf
  generalize ((List.range n).map fun k => PyData.int (foldR ps (r0 W) k j)) = B at *
  generalize ((List.range n).map fun k => PyData.int (r0 W k j)) = A at *
  unfold Ph_law_column
  rw [run3]
  unfold dn_law_column
  simp [-List.map_map, hr, hc', hf, hfin]
end K11
set_option Elab.async false
set_option linter.all false
set_option maxRecDepth 100000
set_option maxHeartbeats 4000000
namespace K11
open PySem PySem.Spec PyProof.Rows L2 Dn
variable {n : Nat}
def rowT (n : Nat) (W : Int) (G : Mx) (k : Nat) : PyData := .tuple ((List.range n).map fun j => encQ (Rat.divInt (G k j) W))
theorem tab_row {W : Int} {G : Mx} : tabP n W G = .tuple ((List.range n).map (rowT n W G)) := rfl
theorem v_law_table {ps : List (Nat × Nat)} (h8 : n ≤ 8) (hl : ps.length ≤ 1000) (h : PrOk n ps) : Ph_law_table [.int (n : Int), .list (ps.map encPr)] = some (tabP n ((2 ^ ps.length : Nat) : Int) (foldR ps (r0 ((2 ^ ps.length : Nat) : Int)))) := by
  have hs := shl_one (k := ps.length) (by omega)
  have hlen : gLen [.list (ps.map encPr)] = some (.int (ps.length : Int)) := by simp
  have pl : (2 ^ ps.length : Nat) < 2 ^ 1001 := Nat.lt_of_le_of_lt (Nat.pow_le_pow_right (by decide) hl) (Nat.pow_lt_pow_right (by decide) (by decide))
  have pp := Nat.two_pow_pos ps.length
  have col := fun (j : Nat) => v_law_column (n := n) (j := j) h8 hl h
  obtain ⟨W, hW⟩ : ∃ W : Int, W = ((2 ^ ps.length : Nat) : Int) := ⟨_, rfl⟩
  have w0 : 0 < W := by rw [hW]; omega
  have w9 : W.natAbs < 2 ^ 9000 := by rw [hW]; exact lt_pow (a := 1001) (show (2 ^ ps.length : Nat) < 2 ^ 1001 from pl) (by decide)
  rw [← hW] at col hs ⊢
  generalize foldR ps (r0 W) = G at *
  generalize ps.map encPr = L at *
  have hr := fun e => @kR1_len n e (by omega)
  have hc1 := cm_a (a := ce_law_table_1) (i := 5) (e := [.val (.int (n : Int)), .val (.list L), .no, .no, .no, .no, .no]) (xs := List.range n) (E := fun (j : Nat) => .int (j : Int)) (D := id) (F := fun j => vecP n fun k => G k j) (by simp; omega) rfl rfl fun j hj => by
    simp [ce_law_table_1, col]
  rw [List.map_id_fun, id] at hc1
  obtain ⟨C, hC⟩ : ∃ C : List PyData, C = (List.range n).map fun j => vecP n fun k => G k j := ⟨_, rfl⟩
  have step : ∀ (k : Nat), k < n → ∀ (A : List PyData) (s6 : Sl), s6 = .no → A.length ≤ 100 → lp_law_table_1 [.val (.int (n : Int)), .val (.list L), .val (.list C), .val (.int W), .own false A, .val (.int (k : Int)), s6] = some (.nx, [.val (.int (n : Int)), .val (.list L), .val (.list C), .val (.int W), .own false (A ++ [rowT n W G k]), .val (.int (k : Int)), .no]) := fun k hk A s6 h6 hA => by
    subst h6
    have hc := cm_a (a := ce_law_table_2) (i := 6) (e := [.val (.int (n : Int)), .val (.list L), .val (.list C), .val (.int W), .own false A, .val (.int (k : Int)), .no]) (xs := List.range n) (E := fun (j : Nat) => vecP n fun k => G k j) (D := encQ) (F := fun j => Rat.divInt (G k j) W) (by simp; omega) rfl rfl fun j hj => by
      have i := gIx_vec (f := fun k => G k j) hk
      have f := v_law_fraction (a := G k j) w0 w9
      simp [-gIx, ce_law_table_2, i, f]
    rw [List.map_map, ← hC] at hc
    have ha := fun e => kApp2_ok (i := 4) (d := rowT n W G k) (e := e) (p := false) (ds := A) (by omega)
    have er : PyData.tuple ((List.range n).map (encQ ∘ fun j => Rat.divInt (G k j) W)) = rowT n W G k := rfl
    generalize ((List.range n).map (encQ ∘ fun j => Rat.divInt (G k j) W)) = X at *
    generalize rowT n W G k = Y at *
    unfold lp_law_table_1
    simp [hc, er, ha]
  rw [← hC] at hc1
  obtain ⟨e', he, s5, rfl⟩ := for_ix (tg := g1 5) (f := lp_law_table_1) (E := fun k => .int (k : Int)) (n := n)
    (S := fun k e => ∃ s5, e = [.val (.int (n : Int)), .val (.list L), .val (.list C), .val (.int W), .own false ((List.range k).map (rowT n W G)), s5, .no])
    (e := [.val (.int (n : Int)), .val (.list L), .val (.list C), .val (.int W), .own false [], .no, .no]) ⟨_, rfl⟩ fun k hk e ⟨s5, he⟩ => by
      subst he
      have st := step k hk ((List.range k).map (rowT n W G)) .no rfl (by simp; omega)
      refine ⟨_, _, .nx, rfl, st, .inl rfl, .val (.int (k : Int)), ?_⟩
      rw [List.range_succ, List.map_append]
      rfl
  rw [tab_row]
  generalize (List.range n).map (rowT n W G) = T at *
  unfold Ph_law_table
  rw [run2]
  unfold dn_law_table
  simp [-List.map_map, -gShl, -gLen, hr, hc1, hlen, hs, he]
theorem sim_row {W : Int} {G : Mx} {k : Nat} : Sim 6 (rowT n W G k) := fun d hd => by
  obtain ⟨j, _, rfl⟩ := List.mem_map.mp hd
  unfold encQ
  simp [Sim]
theorem sim_tab {W : Int} {G : Mx} : Sim 7 (tabP n W G) := fun d hd => by
  obtain ⟨k, _, rfl⟩ := List.mem_map.mp hd
  exact sim_row
theorem div_inj2 {a b W : Int} (h : 0 < W) (e : Rat.divInt a W = Rat.divInt b W) : a = b := by
  have w : W ≠ 0 := by omega
  rw [Rat.divInt_eq_divInt_iff w w] at e
  exact Int.eq_of_mul_eq_mul_right w e
def SameR (n : Nat) (G : Mx) : Prop := ∀ k, k < n → ∀ j, j < n → G k j = G 0 j
theorem lev_iff {G : Mx} : levB n G = true ↔ SameR n G := by
  constructor
  · intro h k hk j hj
    unfold levB at h
    have e := (sim_mat.eqv (show Sim 3 (.list (reps n [vecP n (G 0)])) from fun d hd => (mem_reps hd) ▸ sim_vec)).mp h
    rw [reps_rep] at e
    injection e with e
    have e1 := congrArg (fun l => l[k]?) e
    simp only [List.getElem?_map, List.getElem?_range hk, Option.map_some, Option.some.injEq] at e1
    unfold vecP at e1
    injection e1 with e1
    have e2 := congrArg (fun l => l[j]?) e1
    simp only [List.getElem?_map, List.getElem?_range hj, Option.map_some, Option.some.injEq, PyData.int.injEq] at e2
    exact e2
  · exact levB_true
theorem tab_iff {W : Int} {G : Mx} (hw : 0 < W) : tabP n W G = .tuple ((List.range n).map fun _ => rowT n W G 0) ↔ SameR n G := by
  rw [tab_row]
  constructor
  · intro e k hk j hj
    injection e with e
    have e1 := congrArg (fun l => l[k]?) e
    simp only [List.getElem?_map, List.getElem?_range hk, Option.map_some, Option.some.injEq] at e1
    unfold rowT at e1
    injection e1 with e1
    have e2 := congrArg (fun l => l[j]?) e1
    simp only [List.getElem?_map, List.getElem?_range hj, Option.map_some, Option.some.injEq] at e2
    exact div_inj2 hw (encQ_inj e2)
  · intro h
    congr 1
    refine List.map_congr_left fun k hk => ?_
    unfold rowT
    congr 1
    exact List.map_congr_left fun j hj => by rw [h k (List.mem_range.mp hk) j (List.mem_range.mp hj)]
theorem tab_level {W : Int} {G : Mx} (hw : 0 < W) : gEq (tabP n W G) (.tuple ((List.range n).map fun _ => rowT n W G 0)) = some (.bool (levB n G)) := by
  have h := gEq_D (p := levB n G = true) (sim_tab (n := n) (W := W) (G := G)) (show Sim 7 (.tuple ((List.range n).map fun _ => rowT n W G 0)) from fun d hd => by
    obtain ⟨k, _, rfl⟩ := List.mem_map.mp hd
    exact sim_row) (by decide) ((tab_iff hw).trans lev_iff.symm)
  rw [h]
  cases levB n G <;> rfl
end K11
set_option Elab.async false
set_option linter.all false
set_option maxRecDepth 100000
set_option maxHeartbeats 4000000
namespace K11
open PySem PySem.Spec PyProof.Rows L2 Dn
variable {n : Nat} {ks : List PyData}
theorem mod_ne {x y n : Nat} (hx : x < n) (hy : y < n - 1) : (x + 1 + y) % n ≠ x := by
  by_cases c : x + 1 + y < n
  · rw [Nat.mod_eq_of_lt c]; omega
  · rw [Nat.mod_eq_sub_mod (by omega), Nat.mod_eq_of_lt (by omega)]; omega
theorem v_law_pairN {M : Nat} (h2 : 2 ≤ n) (h8 : n ≤ 8) (hk : KegOk (M + 2) ks) : ∃ (p : Nat × Nat) (ks' : List PyData), Ph_law_pair ks [.int (n : Int)] = some (encPr p, ks') ∧ (p.1 < n ∧ p.2 < n ∧ p.1 ≠ p.2) ∧ KegOk M ks' := by
  have hn : n < 2 ^ 300 := Nat.lt_of_le_of_lt h8 (by decide)
  obtain ⟨x, k1, e1, b1, u1⟩ := v_lift (M := M + 1) (m := n) hk (by omega) hn
  obtain ⟨y, k2, e2, b2, u2⟩ := v_lift (M := M) (m := n - 1) u1 (by omega) (Nat.lt_of_le_of_lt (Nat.sub_le _ _) hn)
  have en : ((n - 1 : Nat) : Int) = (n : Int) - 1 := by omega
  rw [en] at e2
  have q : ((x : Int) + 1 + (y : Int)).fmod (n : Int) = (((x + 1 + y) % n : Nat) : Int) := by
    have := fmod_nat (x + 1 + y) n
    rw [← this]
    congr 1
  refine ⟨(x, (x + 1 + y) % n), k2, ?_, ⟨b1, Nat.mod_lt _ (by omega), fun z => mod_ne b1 b2 z.symm⟩, u2⟩
  unfold Ph_law_pair
  rw [runM2]
  unfold dn_law_pair
  unfold encPr
  simp [e1, e2, show ¬ n = 0 by omega, q]
end K11
set_option Elab.async false
set_option linter.all false
set_option maxRecDepth 100000
set_option maxHeartbeats 4000000
namespace K11
open PySem PySem.Spec PyProof.Rows L2 Dn
variable {n : Nat} {ks : List PyData}
def POk (n : Nat) (p : Int × Int) : Prop := ZOk n p ∧ p.1 ≠ p.2
/-- no two blocks have a cask in common -/
def DjI (bs : List (List Int)) : Prop := ∀ i j, i < j → ∀ a ∈ bs.getD i [], ∀ b ∈ bs.getD j [], a ≠ b
theorem getD_at {bs : List (List Int)} {k : Nat} (h : k < bs.length) : bs.getD k [] = bs[k] := by
  rw [List.getD_eq_getElem?_getD, List.getElem?_eq_getElem h]
  rfl
theorem getD_out {bs : List (List Int)} {k : Nat} (h : bs.length ≤ k) : bs.getD k [] = [] := by
  rw [List.getD_eq_getElem?_getD, List.getElem?_eq_none h]
  rfl
def MemI (bs ms : List (List Int)) (j : Nat) : Prop := ∀ r, r < j → ∀ z ∈ ms.getD r [], z ∈ bs.getD (2 * r) [] ∨ z ∈ bs.getD (2 * r + 1) []
theorem MemI.snoc {bs ms : List (List Int)} {j : Nat} {l : List Int} (h : MemI bs ms j) (hl : ms.length = j) (hz : ∀ z ∈ l, z ∈ bs.getD (2 * j) [] ∨ z ∈ bs.getD (2 * j + 1) []) : MemI bs (ms ++ [l]) (j + 1) := fun r hr z hzr => by
  by_cases c : r < j
  · rw [List.getD_eq_getElem?_getD, List.getElem?_append_left (by omega), ← List.getD_eq_getElem?_getD] at hzr
    exact h r c z hzr
  · have e : r = j := by omega
    subst e
    rw [List.getD_eq_getElem?_getD, ← hl, List.getElem?_concat_length] at hzr
    exact hz z hzr
theorem MemI.dj {bs ms : List (List Int)} {h : Nat} (m : MemI bs ms h) (hl : ms.length = h) (d : DjI bs) : DjI ms := fun i j hij a ha b hb => by
  by_cases c : j < h
  · rcases m i (by omega) a ha with p | p <;> rcases m j c b hb with q | q
    · exact d _ _ (by omega) a p b q
    · exact d _ _ (by omega) a p b q
    · exact d _ _ (by omega) a p b q
    · exact d _ _ (by omega) a p b q
  · rw [getD_out (by omega)] at hb
    cases hb
theorem block_turnN {M h w i : Nat} {bs ms : List (List Int)} {zs : List (Int × Int)} {s5 s6 s7 s8 : Sl} (hb : BOk n (2 * h) w bs) (hi : i < h) (hw : w ≤ 100) (hz : zs.length ≤ 100) (hm : BOk n i (2 * w) ms) (hi2 : i ≤ 100) (hzo : ∀ p ∈ zs, POk n p) (hd : DjI bs) (hk : KegOk (M + w) ks) :
    ∃ ks' zs' l t6 t7 t8, lp_law_all_pairs_2 (envA n ks (.list (bsD bs)) zs (.own false (bsD ms)) (.val (.int ((2 * i : Nat) : Int))) s6 s7 s8) = some (.nx, envA n ks' (.list (bsD bs)) zs' (.own false (bsD (ms ++ [l]))) (.val (.int ((2 * i : Nat) : Int))) t6 t7 t8) ∧ zs'.length = zs.length + w ∧ (∀ p ∈ zs', POk n p) ∧ BOk n (i + 1) (2 * w) (ms ++ [l]) ∧ (∀ z ∈ l, z ∈ bs.getD (2 * i) [] ∨ z ∈ bs.getD (2 * i + 1) []) ∧ KegOk M ks' := by
  obtain ⟨bl, bm⟩ := hb
  have k0 : 2 * i < bs.length := by omega
  have k1 : 2 * i + 1 < bs.length := by omega
  obtain ⟨w0, m0⟩ := bm _ (List.getElem_mem k0)
  obtain ⟨w1, m1⟩ := bm _ (List.getElem_mem k1)
  have i0 := bs_at k0
  have i1 := bs_at k1
  have e1 : ((2 * i : Nat) : Int) + 1 = ((2 * i + 1 : Nat) : Int) := by omega
  obtain ⟨qs, k', et, pm, u⟩ := v_law_turned (M := M) (ks := ks) (ns := bs[2 * i + 1]) (by omega) (hk.mono (by omega))
  have ql : qs.length = w := by rw [pm.length_eq, w1]
  have qm : ∀ z ∈ qs, 0 ≤ z ∧ z < (n : Int) := fun z hz => m1 z (pm.mem_iff.mp hz)
  have ad := add_iD (X := bs[2 * i]) (Y := qs) (by omega)
  obtain ⟨t7, t8, zl⟩ := zip_loop (n := n) (ks := k') (X := bs[2 * i]) (Y := qs) (zs := zs) (B := .list (bsD bs)) (ms := .own false (bsD ms)) (s5 := .val (.int ((2 * i : Nat) : Int))) (s6 := .val (.list (iD qs))) (s7 := s7) (s8 := s8) (by omega) (by omega)
  have ha := fun e => kApp2_ok (i := 4) (d := .list (iD (bs[2 * i] ++ qs))) (e := e) (p := false) (ds := bsD ms) (by unfold bsD; rw [List.length_map, hm.1]; omega)
  refine ⟨k', zs ++ bs[2 * i].zip qs, bs[2 * i] ++ qs, .val (.list (iD qs)), t7, t8, ?_, ?_, fun p hp => ?_, ⟨by rw [List.length_append, hm.1]; rfl, fun l hl => ?_⟩, fun z hz => ?_, u⟩
  · have eb : bsD (ms ++ [bs[2 * i] ++ qs]) = bsD ms ++ [.list (iD (bs[2 * i] ++ qs))] := by unfold bsD; rw [List.map_append]; rfl
    rw [eb]
    have hz2 : ∀ e, kZp ([PyData.list (iD bs[2 * i]), PyData.list (iD qs)], e) = some (zipD (iD bs[2 * i]) (iD qs), e) := fun _ => rfl
    unfold envA at *
    generalize iD (bs[2 * i] ++ qs) = X3 at *
    generalize zipD (iD bs[2 * i]) (iD qs) = Z at *
    generalize iD bs[2 * i] = X1 at *
    generalize iD bs[2 * i + 1] = X2 at *
    generalize iD qs = X4 at *
    generalize bsD ms = X5 at *
    generalize bsD bs = X6 at *
    generalize (zs ++ bs[2 * i].zip qs).map encZ = X7 at *
    generalize zs.map encZ = X8 at *
    generalize ((2 * i + 1 : Nat) : Int) = I1 at *
    generalize ((2 * i : Nat) : Int) = I0 at *
    unfold lp_law_all_pairs_2
    simp [-gIx, -gAdd, e1, i0, i1, et, hz2, zl, ad, ha, show gAdd (.int I0) (.int 1) = some (.int (I0 + 1)) from rfl]
  · rw [List.length_append, List.length_zip, w0, ql, Nat.min_self]
  · rcases List.mem_append.mp hp with hp | hp
    · exact hzo p hp
    · refine ⟨zip_ok m0 qm p hp, hd (2 * i) (2 * i + 1) (by omega) _ ?_ _ ?_⟩
      · rw [getD_at k0]; exact (List.of_mem_zip hp).1
      · rw [getD_at k1]; exact pm.mem_iff.mp (List.of_mem_zip hp).2
  · rcases List.mem_append.mp hl with hl | hl
    · exact hm.2 l hl
    · rw [List.mem_singleton.mp hl]
      refine ⟨by rw [List.length_append]; omega, fun z hz => ?_⟩
      rcases List.mem_append.mp hz with hz | hz
      · exact m0 z hz
      · exact qm z hz
  · rw [getD_at k0, getD_at k1]
    rcases List.mem_append.mp hz with hz | hz
    · exact .inl hz
    · exact .inr (pm.mem_iff.mp hz)
theorem stageN {M h w : Nat} {bs : List (List Int)} {zs : List (Int × Int)} {s4 s5 s6 s7 s8 : Sl} (hb : BOk n (2 * h) w bs) (hw : w ≤ 100) (hh : h ≤ 20) (hz : zs.length + h * w ≤ 100) (hzo : ∀ p ∈ zs, POk n p) (hd : DjI bs) (hk : KegOk (M + h * w) ks) :
    ∃ ks' zs' ms t4 t5 t6 t7 t8, wb_law_all_pairs_1 (envA n ks (.list (bsD bs)) zs s4 s5 s6 s7 s8) = some (.nx, envA n ks' (.list (bsD ms)) zs' t4 t5 t6 t7 t8) ∧ zs'.length = zs.length + h * w ∧ (∀ p ∈ zs', POk n p) ∧ BOk n h (2 * w) ms ∧ DjI ms ∧ KegOk M ks' := by
  obtain ⟨e', he, k, zs', ms, t5, t6, t7, t8, rfl, l1, o1, b1, mi, u1⟩ := for_ix (tg := g1 5) (f := lp_law_all_pairs_2) (E := fun i => .int ((2 * i : Nat) : Int)) (n := h)
    (S := fun j e => ∃ k zs' ms t5 t6 t7 t8, e = envA n k (.list (bsD bs)) zs' (.own false (bsD ms)) t5 t6 t7 t8 ∧ zs'.length = zs.length + j * w ∧ (∀ p ∈ zs', POk n p) ∧ BOk n j (2 * w) ms ∧ MemI bs ms j ∧ KegOk (M + (h - j) * w) k)
    (e := envA n ks (.list (bsD bs)) zs (.own false []) s5 s6 s7 s8) ⟨ks, zs, [], _, _, _, _, rfl, by rw [Nat.zero_mul]; rfl, hzo, ⟨rfl, fun l hl => by cases hl⟩, (fun r hr => absurd hr (by omega)), hk⟩ fun j hj e ⟨k, zs', ms, t5, t6, t7, t8, he, l1, o1, b1, mi, u1⟩ => by
      subst he
      have a1 : (h - j) * w = (h - (j + 1)) * w + w := by rw [show h - j = (h - (j + 1)) + 1 by omega, Nat.succ_mul]
      have a2 : j * w ≤ h * w := Nat.mul_le_mul_right w (by omega)
      obtain ⟨k', z2, l, q6, q7, q8, e1, l2, o2, b2, ml, u2⟩ := block_turnN (n := n) (M := M + (h - (j + 1)) * w) (h := h) (w := w) (i := j) (bs := bs) (ms := ms) (zs := zs') (ks := k) (s5 := .no) (s6 := t6) (s7 := t7) (s8 := t8) hb hj hw (by omega) b1 (by omega) o1 hd (u1.mono (by omega))
      exact ⟨_, _, .nx, rfl, e1, .inl rfl, k', z2, ms ++ [l], _, _, _, _, rfl, by rw [l2, l1, Nat.succ_mul]; omega, o2, b2, mi.snoc b1.1 ml, u2⟩
  rw [Nat.sub_self, Nat.zero_mul] at u1
  refine ⟨k, zs', ms, .val (.list (bsD ms)), t5, t6, t7, t8, ?_, l1, o1, b1, mi.dj b1.1 hd, u1⟩
  have hlen : gLen [.list (bsD bs)] = some (.int ((2 * h : Nat) : Int)) := by
    show some (PyData.int ((bsD bs).length : Int)) = _
    unfold bsD
    rw [List.length_map, hb.1]
  have hr := fun e => kR2s_ok (m := 0) (n := ((2 * h : Nat) : Int)) (e := e) (by omega) (by omega)
  rw [rng2_nat] at hr
  unfold envA at *
  generalize bsD bs = X1 at *
  generalize bsD ms = X2 at *
  generalize zs.map encZ = X3 at *
  generalize zs'.map encZ = X4 at *
  generalize ((2 * h : Nat) : Int) = H at *
  generalize hE : (List.range h).map (fun (i : Nat) => PyData.int ((2 * i : Nat) : Int)) = E at *
  unfold wb_law_all_pairs_1
  simp [-gLen, hlen, hr, he]
theorem roundsN : ∀ (k : Nat) {M w : Nat} {ks : List PyData} {bs : List (List Int)} {zs : List (Int × Int)} {s4 s5 s6 s7 s8 : Sl}, BOk n (2 ^ k) w bs → w * 2 ^ k = n → (1 ≤ n ∧ n ≤ 8) → k ≤ 3 → zs.length + k * 4 ≤ 100 → (∀ p ∈ zs, POk n p) → DjI bs → KegOk (M + k * 4) ks →
    ∃ f ks' zs' t2 t4 t5 t6 t7 t8, whL wt_law_all_pairs_1 wb_law_all_pairs_1 f (envA n ks (.list (bsD bs)) zs s4 s5 s6 s7 s8) = some (.nx, envA n ks' t2 zs' t4 t5 t6 t7 t8) ∧ zs.length + (if k = 0 then 0 else 1) ≤ zs'.length ∧ zs'.length ≤ zs.length + k * 4 ∧ (∀ p ∈ zs', POk n p) ∧ KegOk M ks'
  | 0, M, w, ks, bs, zs, s4, s5, s6, s7, s8, hb, hwn, hn, hk3, hz, hzo, hd, hk => by
    refine ⟨1, ks, zs, .list (bsD bs), s4, s5, s6, s7, s8, (whL_stop (e1 := envA n ks (.list (bsD bs)) zs s4 s5 s6 s7 s8) ?_).trans rfl, by simp, by omega, hzo, hk⟩
    have hlen : gLen [.list (bsD bs)] = some (.int 1) := by
      show some (PyData.int ((bsD bs).length : Int)) = _
      unfold bsD
      rw [List.length_map, hb.1]
      rfl
    unfold envA
    simp [-gLen, wt_law_all_pairs_1, hlen]
  | k + 1, M, w, ks, bs, zs, s4, s5, s6, s7, s8, hb, hwn, hn, hk3, hz, hzo, hd, hk => by
    have pk := Nat.two_pow_pos k
    have e2 : 2 ^ (k + 1) = 2 * 2 ^ k := by rw [Nat.pow_succ, Nat.mul_comm]
    rw [e2] at hb hwn
    have hwn2 : 2 * w * 2 ^ k = n := by rw [← hwn, Nat.mul_comm 2 w, Nat.mul_assoc]
    have hwk : 2 * (2 ^ k * w) = n := by rw [← hwn, Nat.mul_comm w, Nat.mul_assoc]
    have w1 : 2 * w ≤ n := by rw [← hwn2]; exact Nat.le_mul_of_pos_right _ pk
    have k8 : 2 ^ k ≤ 2 ^ 2 := Nat.pow_le_pow_right (by decide) (by omega)
    have k8' : 2 ^ k ≤ 4 := k8
    obtain ⟨k1, z1, ms, t4, t5, t6, t7, t8, st, l1, o1, b1, d1, u1⟩ := stageN (n := n) (M := M + k * 4) (h := 2 ^ k) (w := w) (ks := ks) (bs := bs) (zs := zs) (s4 := s4) (s5 := s5) (s6 := s6) (s7 := s7) (s8 := s8) hb (by omega) (by omega) (by omega) hzo hd (hk.mono (by omega))
    obtain ⟨f, k2, z2, q2, q4, q5, q6, q7, q8, ih, l2, l3, o2, u2⟩ := roundsN k (M := M) (w := 2 * w) (ks := k1) (bs := ms) (zs := z1) (s4 := t4) (s5 := t5) (s6 := t6) (s7 := t7) (s8 := t8) b1 hwn2 hn (by omega) (by omega) o1 d1 u1
    have hpos : 1 ≤ 2 ^ k * w := by
      have : 0 < w := by
        rcases Nat.eq_zero_or_pos w with z | z
        · exfalso
          subst z
          rw [Nat.mul_zero, Nat.zero_mul] at hwn2
          omega
        · exact z
      exact Nat.mul_pos pk this
    refine ⟨f + 1, k2, z2, q2, q4, q5, q6, q7, q8, whL_turn (e1 := envA n ks (.list (bsD bs)) zs s4 s5 s6 s7 s8) ?_ st ih, by rw [if_neg (by omega)]; omega, by omega, o2, u2⟩
    have hlen : gLen [.list (bsD bs)] = some (.int ((2 * 2 ^ k : Nat) : Int)) := by
      show some (PyData.int ((bsD bs).length : Int)) = _
      unfold bsD
      rw [List.length_map, hb.1]
    have g : 1 < 2 * 2 ^ k := by omega
    unfold envA
    generalize 2 * 2 ^ k = C at *
    have g' : (1 : Int) < (C : Int) := by omega
    simp [-gLen, wt_law_all_pairs_1, hlen, g']
theorem v_law_all_pairsN {M k : Nat} (hn : 2 ^ k = n) (h1 : 1 ≤ k) (h3 : k ≤ 3) (hk : KegOk (M + 20) ks) : ∃ (zs : List (Int × Int)) (ks' : List PyData), Ph_law_all_pairs ks [.int (n : Int)] = some (.list (zs.map encZ), ks') ∧ (∀ p ∈ zs, POk n p) ∧ 1 ≤ zs.length ∧ zs.length ≤ 12 ∧ KegOk M ks' := by
  have n8 : n ≤ 8 := by
    rw [← hn]
    exact Nat.pow_le_pow_right (n := 2) (by decide) h3
  have rg : ∀ e, kRg (.int (n : Int), e) = some (iD ((List.range n).map fun (i : Nat) => (i : Int)), e) := fun e => by
    show (if _ then _ else _) = _
    rw [smallI_of (by omega) (by omega), okN_of (by omega), rng_nat]
    show some _ = _
    unfold iD
    rw [List.map_map]
    rfl
  obtain ⟨qs, k1, e1, pm, u1⟩ := v_law_turned (M := M + 12) (ks := ks) (ns := (List.range n).map fun (i : Nat) => (i : Int)) (by simp; omega) (hk.mono (by simp; omega))
  have ql : qs.length = n := by rw [pm.length_eq]; simp
  have qm : ∀ z ∈ qs, 0 ≤ z ∧ z < (n : Int) := fun z hz => by
    have := pm.mem_iff.mp hz
    obtain ⟨i, hi, rfl⟩ := List.mem_map.mp this
    have := List.mem_range.mp hi
    omega
  have hc := fun (s : List PyData) => cm_a (a := ce_law_all_pairs_1) (i := 9) (e := [.own true s, .val (.int (n : Int)), .no, .no, .no, .no, .no, .no, .no, .no]) (xs := qs) (E := .int) (D := id) (F := fun z => .list (iD [z])) (by omega) rfl rfl fun z hz => by
    simp [ce_law_all_pairs_1]
  have eb : (qs.map fun z => PyData.list (iD [z])) = bsD (qs.map fun z => [z]) := by unfold bsD; rw [List.map_map]; rfl
  rw [List.map_id_fun, id, eb] at hc
  have bk : BOk n (2 ^ k) 1 (qs.map fun z => [z]) := ⟨by rw [List.length_map, ql, hn], fun l hl => by
    obtain ⟨z, hz, rfl⟩ := List.mem_map.mp hl
    exact ⟨rfl, fun y hy => by rw [List.mem_singleton.mp hy]; exact qm z hz⟩⟩
  have nd : qs.Nodup := by
    rw [pm.nodup_iff]
    exact List.Pairwise.map _ (fun a b h e => h (by have : (a : Int) = (b : Int) := e; omega)) (List.nodup_range (n := n))
  have dj0 : DjI (qs.map fun z => [z]) := fun i j hij a ha b hb => by
    by_cases c : j < qs.length
    · rw [getD_at (by rw [List.length_map]; omega), List.getElem_map, List.mem_singleton] at ha hb
      subst ha hb
      exact List.pairwise_iff_getElem.mp nd i j (by omega) c hij
    · rw [getD_out (by rw [List.length_map]; omega)] at hb
      cases hb
  obtain ⟨f, k2, zs, t2, t4, t5, t6, t7, t8, wl, l1, l2, o, u2⟩ := roundsN k (n := n) (M := M) (w := 1) (ks := k1) (bs := qs.map fun z => [z]) (zs := []) (s4 := .no) (s5 := .no) (s6 := .no) (s7 := .no) (s8 := .no) bk (by omega) ⟨by rw [← hn]; exact Nat.two_pow_pos k, n8⟩ h3 (by simp; omega) (fun p hp => by cases hp) dj0 (u1.mono (by omega))
  have hw := sWh_of wl
  refine ⟨zs, k2, ?_, o, by rw [if_neg (by omega)] at l1; simp at l1; omega, by simp at l2; omega, u2⟩
  unfold envA at hw
  generalize (qs.map fun z => [z]) = BS at *
  generalize bsD BS = B at *
  generalize zs.map encZ = Z at *
  rw [List.map_nil] at hw
  unfold Ph_law_all_pairs
  rw [runM2]
  show endM (dn_law_all_pairs [.own true ks, .val (.int (n : Int)), .no, .no, .no, .no, .no, .no, .no, .no]) = _
  unfold dn_law_all_pairs
  simp [-List.map_map, rg, e1, hc, hw]
end K11
set_option Elab.async false
set_option linter.all false
set_option maxRecDepth 100000
set_option maxHeartbeats 4000000
namespace K11
open PySem PySem.Spec PyProof.Rows L2 Dn
variable {n : Nat} {ks : List PyData}
theorem prOk_snoc {ps : List (Nat × Nat)} {p : Nat × Nat} (h : PrOk n ps) (hp : p.1 < n ∧ p.2 < n ∧ p.1 ≠ p.2) : PrOk n (ps ++ [p]) := fun q hq => by
  rcases List.mem_append.mp hq with hq | hq
  · exact h q hq
  · rw [List.mem_singleton.mp hq]; exact hp
theorem log_bits {z : Int} (h : Builtin.Int.intBits z ≤ 1048576) : z.natAbs.log2 ≤ 1048576 := by
  unfold Builtin.Int.intBits at h
  split at h
  · rename_i h0
    have : z = 0 := by simpa using h0
    subst this
    decide
  · omega
theorem pairs_cells {ns : List Int} {c : Nat} (h2 : 2 ≤ n) (h8 : n ≤ 8) (hc : c + 1 ≤ ns.length ∨ c = 0) (hl : ns.length ≤ 63) (hb : ∀ z ∈ ns, Builtin.Int.intBits z ≤ 1048576) :
    ∃ (ps : List (Nat × Nat)) (s4 : Sl), forL (g1 4) lp_law_pairs_1 ((List.range c).map fun (i : Nat) => .int ((1 + i : Nat) : Int)) [.val (.list (ns.map .int)), .own true ks, .val (.int (n : Int)), .own false [], .no, .no, .no, .no] = some (.nx, [.val (.list (ns.map .int)), .own true ks, .val (.int (n : Int)), .own false (ps.map encPr), s4, .no, .no, .no]) ∧ PrOk n ps ∧ ps.length = c := by
  obtain ⟨e', he, ps, s4, rfl, h, hn⟩ := for_ix (tg := g1 4) (f := lp_law_pairs_1) (E := fun i => .int ((1 + i : Nat) : Int)) (n := c)
    (S := fun i e => ∃ (ps : List (Nat × Nat)) (s4 : Sl), e = [.val (.list (ns.map .int)), .own true ks, .val (.int (n : Int)), .own false (ps.map encPr), s4, .no, .no, .no] ∧ PrOk n ps ∧ ps.length = i)
    (e := [.val (.list (ns.map .int)), .own true ks, .val (.int (n : Int)), .own false [], .no, .no, .no, .no]) ⟨[], .no, rfl, (fun _ h => by cases h), rfl⟩ fun i hi e ⟨ps, s4, he, h, hn⟩ => by
      subst he
      have k : 1 + i < ns.length := by omega
      have ix : gIx (.list (ns.map .int)) (.int ((1 + i : Nat) : Int)) = some (.int ns[1 + i]) := by
        have := Dn.atI_get (l := ns.map PyData.int) (i := 1 + i) (by simpa using k)
        rw [List.getElem_map] at this
        exact this
      obtain ⟨k0, e0, u0⟩ := v_law_well (z := ns[1 + i]) (k := ((1 + i : Nat) : Int) + 70) (log_bits (hb _ (List.getElem_mem k))) ⟨by omega, by omega⟩
      obtain ⟨p, k1, e1, po, -⟩ := v_law_pairN (n := n) (M := 0) (ks := k0) h2 h8 (u0.mono (by decide))
      have ha := fun e => kApp2_ok (i := 3) (d := encPr p) (e := e) (p := false) (ds := ps.map encPr) (by rw [List.length_map]; omega)
      refine ⟨_, [.val (.list (ns.map .int)), .own true ks, .val (.int (n : Int)), .own false ((ps ++ [p]).map encPr), .val (.int ((1 + i : Nat) : Int)), .no, .no, .no], .nx, rfl, ?_, .inl rfl, ps ++ [p], _, rfl, prOk_snoc h po, by rw [List.length_append, hn]; rfl⟩
      rw [List.map_append]
      generalize ps.map encPr = A at *
      generalize PyData.list (ns.map .int) = Z at *
      generalize ((1 + i : Nat) : Int) = I at *
      generalize ns[1 + i] = zz at *
      unfold lp_law_pairs_1
      simp [-gIx, ix, e0, e1, ha]
  exact ⟨ps, s4, he, h, hn⟩
end K11
set_option Elab.async false
set_option linter.all false
set_option maxRecDepth 100000
set_option maxHeartbeats 8000000
namespace K11
open PySem PySem.Spec PyProof.Rows L2 Dn
variable {n : Nat} {ks : List PyData}
noncomputable def PT1 : Fs := sIf (tB' (Dn.e2 gEq (eV 2) (eC (.int 1)))) (sRt (eF (lLst (lNil)))) (sNx)
noncomputable def PT2 : Fs := sOwn (lLst (lNil)) 3
noncomputable def PT3 : Fs := sFor (iR2 (lCons (eC (.int 1)) (lCons (eA gMin2 (lCons (eC (.int 25)) (lCons (eA gLen (lCons (eV 0) (lNil))) (lNil)))) (lNil)))) (g1 4) (lp_law_pairs_1)
noncomputable def PT4 : Fs := sSet (eM 1 Ph_law_lift (lCons (eC (.int 5)) (lNil))) (g1 5)
noncomputable def PT5 : Fs := sIf (tOrr (tB' (Dn.e2 gNinT (eV 2) (eTup (lCons (eC (.int 2)) (lCons (eC (.int 4)) (lCons (eC (.int 8)) (lNil))))))) (tB' (Dn.e2 gEq (eV 5) (eC (.int 0))))) (sFrz 3 (sRt (eV 3))) (sNx)
noncomputable def PT6 : Fs := sSet (eM 1 Ph_law_all_pairs (lCons (eV 2) (lNil))) (g1 6)
noncomputable def PT7 : Fs := sIf (tB' (Dn.e2 gEq (eV 5) (eC (.int 1)))) (sFrz 3 (sRt (Dn.e2 gAdd (eV 3) (eV 6)))) (sNx)
noncomputable def PT8 : Fs := sIf (tB' (Dn.e2 gEq (eV 5) (eC (.int 2)))) (sFrz 3 (sRt (Dn.e2 gAdd (eV 6) (eV 3)))) (sNx)
noncomputable def PT9 : Fs := sSet (eM 1 Ph_law_lift (lCons (eA gLen (lCons (eV 6) (lNil))) (lNil))) (g1 7)
noncomputable def PT10 : Fs := sIf (tB' (Dn.e2 gEq (eV 5) (eC (.int 3)))) (sRt (Dn.e2 gAdd (eCut (eV 6) (oNo) (oSo (eV 7))) (eCut (eV 6) (oSo (Dn.e2 gAdd (eV 7) (eC (.int 1)))) (oNo)))) (sNx)
noncomputable def PT11 : Fs := sRt (Dn.e2 gAdd (Dn.e2 gAdd (eCut (eV 6) (oNo) (oSo (eV 7))) (eF (lLst (lCons (Dn.e2 gIx (eV 6) (eV 7)) (lNil))))) (eCut (eV 6) (oSo (eV 7)) (oNo)))
theorem PT_cut : dn_law_pairs = sSeq PT1 (sSeq PT2 (sSeq PT3 (sSeq PT4 (sSeq PT5 (sSeq PT6 (sSeq PT7 (sSeq PT8 (sSeq PT9 (sSeq PT10 (PT11)))))))))) := rfl
theorem seqr {a b : Fs} {e e2 : En} {d : PyData} (h : a e = some (.rt d, e2)) : sSeq a b e = some (.rt d, e2) := by
  unfold sSeq
  rw [h]
  rfl
def fromZ (zs : List (Int × Int)) : List (Nat × Nat) := zs.map fun p => (p.1.toNat, p.2.toNat)
theorem fromZ_enc {zs : List (Int × Int)} (h : ∀ p ∈ zs, POk n p) : (fromZ zs).map encPr = zs.map encZ := by
  unfold fromZ
  rw [List.map_map]
  refine List.map_congr_left fun p hp => ?_
  obtain ⟨⟨⟨h1, _⟩, h2, _⟩, _⟩ := h p hp
  show PyData.tuple [.int (p.1.toNat : Int), .int (p.2.toNat : Int)] = .tuple [.int p.1, .int p.2]
  rw [Int.toNat_of_nonneg h1, Int.toNat_of_nonneg h2]
theorem fromZ_ok {zs : List (Int × Int)} (h : ∀ p ∈ zs, POk n p) : PrOk n (fromZ zs) := fun q hq => by
  obtain ⟨p, hp, rfl⟩ := List.mem_map.mp hq
  obtain ⟨⟨⟨h1, h2⟩, h3, h4⟩, h5⟩ := h p hp
  exact ⟨by simp only; omega, by simp only; omega, by simp only; omega⟩
theorem prOk_app {ps qs : List (Nat × Nat)} (h : PrOk n ps) (h2 : PrOk n qs) : PrOk n (ps ++ qs) := fun q hq => (List.mem_append.mp hq).elim (h q) (h2 q)
theorem prOk_take {ps : List (Nat × Nat)} (h : PrOk n ps) (k : Nat) : PrOk n (ps.take k) := fun q hq => h q (List.mem_of_mem_take hq)
theorem prOk_drop {ps : List (Nat × Nat)} (h : PrOk n ps) (k : Nat) : PrOk n (ps.drop k) := fun q hq => h q (List.mem_of_mem_drop hq)
theorem nin_248 (h2 : 2 ≤ n) (h8 : n ≤ 8) : ∃ b : Bool, gNinT (.int (n : Int)) (.tuple [.int 2, .int 4, .int 8]) = some (.bool b) ∧ (b = false → ∃ k, 2 ^ k = n ∧ 1 ≤ k ∧ k ≤ 3) := by
  rcases (show n = 2 ∨ n = 3 ∨ n = 4 ∨ n = 5 ∨ n = 6 ∨ n = 7 ∨ n = 8 by omega) with rfl | rfl | rfl | rfl | rfl | rfl | rfl
  · exact ⟨false, rfl, fun _ => ⟨1, rfl, by decide, by decide⟩⟩
  · exact ⟨true, rfl, fun z => by cases z⟩
  · exact ⟨false, rfl, fun _ => ⟨2, rfl, by decide, by decide⟩⟩
  · exact ⟨true, rfl, fun z => by cases z⟩
  · exact ⟨true, rfl, fun z => by cases z⟩
  · exact ⟨true, rfl, fun z => by cases z⟩
  · exact ⟨false, rfl, fun _ => ⟨3, rfl, by decide, by decide⟩⟩
theorem add_P {ps qs : List (Nat × Nat)} (h : ps.length + qs.length ≤ 1000) : gAdd (.list (ps.map encPr)) (.list (qs.map encPr)) = some (.list ((ps ++ qs).map encPr)) := by
  show (if okN _ then _ else _) = _
  rw [okN_of (by rw [List.length_map, List.length_map]; omega), if_pos rfl, List.map_append]
theorem cut_T {ps : List (Nat × Nat)} (k : Nat) : gCut (.list (ps.map encPr)) none (some (k : Int)) = some (.list ((ps.take k).map encPr)) := by
  show some (PyData.list (cutD _ none (some (k : Int)))) = _
  rw [cut_to, List.map_take]
theorem cut_F {ps : List (Nat × Nat)} (k : Nat) : gCut (.list (ps.map encPr)) (some (k : Int)) none = some (.list ((ps.drop k).map encPr)) := by
  show some (PyData.list (cutD _ (some (k : Int)) none)) = _
  rw [cut_from, List.map_drop]
end K11
set_option Elab.async false
set_option linter.all false
set_option maxRecDepth 100000
set_option maxHeartbeats 8000000
namespace K11
open PySem PySem.Spec PyProof.Rows L2 Dn
variable {n : Nat} {ks : List PyData}
abbrev eP (Z : PyData) (k : List PyData) (n : Nat) (A : List PyData) (s4 s5 s6 s7 : Sl) : En := [.val Z, .own true k, .val (.int (n : Int)), .own false A, s4, s5, s6, s7]
theorem v_law_pairs {M : Nat} {ns : List Int} (h1 : 1 ≤ n) (h8 : n ≤ 8) (hl : ns.length ≤ 63) (hb : ∀ z ∈ ns, Builtin.Int.intBits z ≤ 1048576) (hk : KegOk (M + 40) ks) :
    ∃ (ps : List (Nat × Nat)) (ks' : List PyData), Ph_law_pairs ks [.list (ns.map .int), .int (n : Int)] = some (.list (ps.map encPr), ks') ∧ PrOk n ps ∧ ps.length ≤ 40 ∧ KegOk M ks' := by
  unfold Ph_law_pairs
  rw [runO3]
  show ∃ (ps : List (Nat × Nat)) (ks' : List PyData), endO (dn_law_pairs [.val (.list (ns.map .int)), .own true ks, .val (.int (n : Int)), .no, .no, .no, .no, .no]) = _ ∧ _
  rw [PT_cut]
  by_cases n1 : n = 1
  · subst n1
    refine ⟨[], ks, ?_, (fun _ h => by cases h), by decide, hk.mono (by omega)⟩
    have q1 : PT1 [.val (.list (ns.map .int)), .own true ks, .val (.int ((1 : Nat) : Int)), .no, .no, .no, .no, .no] = some (.rt (.list []), [.val (.list (ns.map .int)), .own true ks, .val (.int ((1 : Nat) : Int)), .no, .no, .no, .no, .no]) := by
      unfold PT1
      simp
    rw [seqr q1]
    rfl
  · have h2 : 2 ≤ n := by omega
    obtain ⟨mn, hmn, m25, ml⟩ : ∃ mn : Nat, gMin2 [.int 25, .int (ns.length : Int)] = some (.int (mn : Int)) ∧ mn ≤ 25 ∧ mn ≤ ns.length := by
      by_cases c : ns.length < 25
      · exact ⟨ns.length, by simp [gMin2]; omega, by omega, Nat.le_refl _⟩
      · exact ⟨25, by simp [gMin2]; omega, by decide, by omega⟩
    obtain ⟨ps, s4, lp, pok, pln⟩ := pairs_cells (n := n) (ks := ks) (c := mn - 1) h2 h8 (by omega) hl hb
    have hlen : gLen [.list (ns.map .int)] = some (.int (ns.length : Int)) := by simp
    have hr := fun e => @kR2_len 1 mn e (by decide) (by omega)
    obtain ⟨w, k1, e1, b1, u1⟩ := v_lift (M := M + 39) (m := 5) hk (by decide) (by decide)
    have e1' : Ph_law_lift ks [.int 5] = some (.int (w : Int), k1) := e1
    obtain ⟨b, nb, bk⟩ := nin_248 h2 h8
    generalize PyData.list (ns.map .int) = Z at *
    have q1 : PT1 [.val Z, .own true ks, .val (.int (n : Int)), .no, .no, .no, .no, .no] = some (.nx, [.val Z, .own true ks, .val (.int (n : Int)), .no, .no, .no, .no, .no]) := by
      unfold PT1
      have : ¬ (n : Int) = 1 := by omega
      simp [n1, this]
    have q2 : PT2 [.val Z, .own true ks, .val (.int (n : Int)), .no, .no, .no, .no, .no] = some (.nx, eP Z ks n [] .no .no .no .no) := by
      unfold PT2
      simp
    have q3 : PT3 (eP Z ks n [] .no .no .no .no) = some (.nx, eP Z ks n (ps.map encPr) s4 .no .no .no) := by
      have hr' : ∀ e, kR2 ([.int 1, .int (mn : Int)], e) = some ((List.range (mn - 1)).map fun (i : Nat) => .int ((1 + i : Nat) : Int), e) := hr
      generalize (List.range (mn - 1)).map (fun (i : Nat) => PyData.int ((1 + i : Nat) : Int)) = RR at *
      generalize ps.map encPr = A at *
      unfold PT3
      simp [-gLen, -gMin2, hlen, hmn, hr', lp]
    have q4 : PT4 (eP Z ks n (ps.map encPr) s4 .no .no .no) = some (.nx, eP Z k1 n (ps.map encPr) s4 (.val (.int (w : Int))) .no .no) := by
      unfold PT4
      simp [e1']
    rw [seqn q1, seqn q2, seqn q3, seqn q4]
    clear q1 q2 q3 q4
    by_cases stop : b = true ∨ w = 0
    · refine ⟨ps, k1, ?_, pok, by omega, u1.mono (by omega)⟩
      have q5 : PT5 (eP Z k1 n (ps.map encPr) s4 (.val (.int (w : Int))) .no .no) = some (.rt (.list (ps.map encPr)), [.val Z, .own true k1, .val (.int (n : Int)), .val (.list (ps.map encPr)), s4, .val (.int (w : Int)), .no, .no]) := by
        generalize ps.map encPr = A at *
        unfold PT5
        rcases stop with rfl | rfl
        · simp [kTup_e, okN_of, nb]
        · cases b <;> simp [nb]
      rw [seqr q5]
      rfl
    · have bf : b = false := by cases b <;> simp_all
      have w0 : ¬ w = 0 := fun z => stop (.inr z)
      subst bf
      obtain ⟨k, hkn, kk1, kk3⟩ := bk rfl
      obtain ⟨zs, k2, e2, zo, z1, z12, u2⟩ := v_law_all_pairsN (n := n) (ks := k1) (M := M + 10) hkn kk1 kk3 (u1.mono (by omega))
      have wok := fromZ_ok zo
      have wl : (fromZ zs).length = zs.length := List.length_map _
      rw [← fromZ_enc zo] at e2
      rw [← wl] at z1 z12
      generalize fromZ zs = ws at *
      have hlw : gLen [.list (ws.map encPr)] = some (.int (ws.length : Int)) := by simp
      obtain ⟨t, k3, e3, b3, u3⟩ := v_lift (M := M + 9) (m := ws.length) u2 (by omega) (Nat.lt_of_le_of_lt z12 (by decide))
      have q5 : PT5 (eP Z k1 n (ps.map encPr) s4 (.val (.int (w : Int))) .no .no) = some (.nx, eP Z k1 n (ps.map encPr) s4 (.val (.int (w : Int))) .no .no) := by
        have w0' : ¬ (w : Int) = 0 := by omega
        generalize ps.map encPr = A at *
        unfold PT5
        simp [nb, w0]
      have q6 : PT6 (eP Z k1 n (ps.map encPr) s4 (.val (.int (w : Int))) .no .no) = some (.nx, eP Z k2 n (ps.map encPr) s4 (.val (.int (w : Int))) (.val (.list (ws.map encPr))) .no) := by
        generalize ps.map encPr = A at *
        generalize ws.map encPr = B at *
        unfold PT6
        simp [e2]
      rw [seqn q5, seqn q6]
      clear q5 q6
      have a1 := add_P (ps := ps) (qs := ws) (by omega)
      have a2 := add_P (ps := ws) (qs := ps) (by omega)
      by_cases w1 : w = 1
      · subst w1
        refine ⟨ps ++ ws, k2, ?_, prOk_app pok wok, by rw [List.length_append]; omega, u2.mono (by omega)⟩
        have q7 : PT7 (eP Z k2 n (ps.map encPr) s4 (.val (.int ((1 : Nat) : Int))) (.val (.list (ws.map encPr))) .no) = some (.rt (.list ((ps ++ ws).map encPr)), [.val Z, .own true k2, .val (.int (n : Int)), .val (.list (ps.map encPr)), s4, .val (.int ((1 : Nat) : Int)), .val (.list (ws.map encPr)), .no]) := by
          generalize (ps ++ ws).map encPr = C at *
          generalize ps.map encPr = A at *
          generalize ws.map encPr = B at *
          unfold PT7
          simp [-gAdd, a1]
        rw [seqr q7]
        rfl
      by_cases w2 : w = 2
      · subst w2
        refine ⟨ws ++ ps, k2, ?_, prOk_app wok pok, by rw [List.length_append]; omega, u2.mono (by omega)⟩
        have q7 : PT7 (eP Z k2 n (ps.map encPr) s4 (.val (.int ((2 : Nat) : Int))) (.val (.list (ws.map encPr))) .no) = some (.nx, eP Z k2 n (ps.map encPr) s4 (.val (.int ((2 : Nat) : Int))) (.val (.list (ws.map encPr))) .no) := by
          unfold PT7
          simp
        have q8 : PT8 (eP Z k2 n (ps.map encPr) s4 (.val (.int ((2 : Nat) : Int))) (.val (.list (ws.map encPr))) .no) = some (.rt (.list ((ws ++ ps).map encPr)), [.val Z, .own true k2, .val (.int (n : Int)), .val (.list (ps.map encPr)), s4, .val (.int ((2 : Nat) : Int)), .val (.list (ws.map encPr)), .no]) := by
          generalize (ws ++ ps).map encPr = C at *
          generalize ps.map encPr = A at *
          generalize ws.map encPr = B at *
          unfold PT8
          simp [-gAdd, a2]
        rw [seqn q7, seqr q8]
        rfl
      have q7 : PT7 (eP Z k2 n (ps.map encPr) s4 (.val (.int (w : Int))) (.val (.list (ws.map encPr))) .no) = some (.nx, eP Z k2 n (ps.map encPr) s4 (.val (.int (w : Int))) (.val (.list (ws.map encPr))) .no) := by
        unfold PT7
        have : ¬ (w : Int) = 1 := by omega
        simp [w1, this]
      have q8 : PT8 (eP Z k2 n (ps.map encPr) s4 (.val (.int (w : Int))) (.val (.list (ws.map encPr))) .no) = some (.nx, eP Z k2 n (ps.map encPr) s4 (.val (.int (w : Int))) (.val (.list (ws.map encPr))) .no) := by
        unfold PT8
        have : ¬ (w : Int) = 2 := by omega
        simp [w2, this]
      have q9 : PT9 (eP Z k2 n (ps.map encPr) s4 (.val (.int (w : Int))) (.val (.list (ws.map encPr))) .no) = some (.nx, eP Z k3 n (ps.map encPr) s4 (.val (.int (w : Int))) (.val (.list (ws.map encPr))) (.val (.int (t : Int)))) := by
        generalize ps.map encPr = A at *
        generalize ws.map encPr = B at *
        unfold PT9
        simp [-gLen, hlw, e3]
      rw [seqn q7, seqn q8, seqn q9]
      clear q7 q8 q9
      have c1 := cut_T (ps := ws) t
      have c2 := cut_F (ps := ws) t
      have c3 : gCut (.list (ws.map encPr)) (some ((t : Int) + 1)) none = some (.list ((ws.drop (t + 1)).map encPr)) := cut_F (ps := ws) (t + 1)
      by_cases w3 : w = 3
      · subst w3
        have a3 := add_P (ps := ws.take t) (qs := ws.drop (t + 1)) (by rw [List.length_take, List.length_drop]; omega)
        refine ⟨ws.take t ++ ws.drop (t + 1), k3, ?_, prOk_app (prOk_take wok _) (prOk_drop wok _), by rw [List.length_append, List.length_take, List.length_drop]; omega, u3.mono (by omega)⟩
        have q10 : PT10 (eP Z k3 n (ps.map encPr) s4 (.val (.int ((3 : Nat) : Int))) (.val (.list (ws.map encPr))) (.val (.int (t : Int)))) = some (.rt (.list ((ws.take t ++ ws.drop (t + 1)).map encPr)), eP Z k3 n (ps.map encPr) s4 (.val (.int ((3 : Nat) : Int))) (.val (.list (ws.map encPr))) (.val (.int (t : Int)))) := by
          generalize (ws.take t ++ ws.drop (t + 1)).map encPr = C at *
          generalize (ws.take t).map encPr = C1 at *
          generalize (ws.drop (t + 1)).map encPr = C2 at *
          generalize ps.map encPr = A at *
          generalize ws.map encPr = B at *
          unfold PT10
          simp [-gAdd, -gCut, c1, c3, a3, show gAdd (.int (t : Int)) (.int 1) = some (.int ((t : Int) + 1)) from rfl]
        rw [seqr q10]
        rfl
      · have q10 : PT10 (eP Z k3 n (ps.map encPr) s4 (.val (.int (w : Int))) (.val (.list (ws.map encPr))) (.val (.int (t : Int)))) = some (.nx, eP Z k3 n (ps.map encPr) s4 (.val (.int (w : Int))) (.val (.list (ws.map encPr))) (.val (.int (t : Int)))) := by
          unfold PT10
          have : ¬ (w : Int) = 3 := by omega
          simp [w3, this]
        have ix : gIx (.list (ws.map encPr)) (.int (t : Int)) = some (encPr ws[t]) := by
          show atI _ _ = _
          rw [Dn.atI_get (by rw [List.length_map]; exact b3), List.getElem_map]
        have a4 := add_P (ps := ws.take t) (qs := [ws[t]]) (by rw [List.length_take]; simp only [List.length_cons, List.length_nil]; omega)
        have a5 := add_P (ps := ws.take t ++ [ws[t]]) (qs := ws.drop t) (by rw [List.length_append, List.length_take, List.length_drop]; simp only [List.length_cons, List.length_nil]; omega)
        have a4' : gAdd (.list ((ws.take t).map encPr)) (.list [encPr ws[t]]) = some (.list ((ws.take t ++ [ws[t]]).map encPr)) := a4
        have one : PrOk n [ws[t]] := fun q hq => by
          rw [List.mem_singleton.mp hq]
          exact wok _ (List.getElem_mem b3)
        refine ⟨ws.take t ++ [ws[t]] ++ ws.drop t, k3, ?_, prOk_app (prOk_app (prOk_take wok _) one) (prOk_drop wok _), by rw [List.length_append, List.length_append, List.length_take, List.length_drop]; simp only [List.length_cons, List.length_nil]; omega, u3.mono (by omega)⟩
        have q11 : PT11 (eP Z k3 n (ps.map encPr) s4 (.val (.int (w : Int))) (.val (.list (ws.map encPr))) (.val (.int (t : Int)))) = some (.rt (.list ((ws.take t ++ [ws[t]] ++ ws.drop t).map encPr)), eP Z k3 n (ps.map encPr) s4 (.val (.int (w : Int))) (.val (.list (ws.map encPr))) (.val (.int (t : Int)))) := by
          generalize (ws.take t ++ [ws[t]] ++ ws.drop t).map encPr = C at *
          generalize (ws.take t ++ [ws[t]]).map encPr = C1 at *
          generalize (ws.take t).map encPr = C2 at *
          generalize (ws.drop t).map encPr = C3 at *
          generalize encPr ws[t] = P at *
          generalize ps.map encPr = A at *
          generalize ws.map encPr = B at *
          unfold PT11
          simp [-gAdd, -gCut, -gIx, c1, c2, ix, a4', a5]
        rw [seqn q10, q11]
        rfl
end K11
set_option Elab.async false
set_option linter.all false
set_option maxRecDepth 100000
set_option maxHeartbeats 4000000
namespace K11
open PySem PySem.Spec PyProof.Rows L2 Dn
variable {n : Nat}
theorem step_bd {W : Int} {R : Mx} {a b : Nat} (h : ∀ k j, 0 ≤ R k j ∧ R k j ≤ W) : ∀ k j, 0 ≤ stepR R a b k j ∧ stepR R a b k j ≤ W := fun k j => by
  have h1 := h a j
  have h2 := h b j
  have e : bothR R a b j = (R a j + R b j) / 2 := Int.fdiv_eq_ediv_of_nonneg _ (by decide)
  unfold stepR
  split
  · rw [e]; omega
  · split
    · rw [e]; omega
    · exact h k j
theorem fold_bd {W : Int} : ∀ {ps : List (Nat × Nat)} {R : Mx}, (∀ k j, 0 ≤ R k j ∧ R k j ≤ W) → ∀ k j, 0 ≤ foldR ps R k j ∧ foldR ps R k j ≤ W
  | [], R, h => h
  | (a, b) :: ps, R, h => fold_bd (ps := ps) (R := stepR R a b) (step_bd h)
theorem r0_bd {W : Int} (h : 0 ≤ W) : ∀ k j, 0 ≤ r0 W k j ∧ r0 W k j ≤ W := fun k j => by
  unfold r0
  split <;> omega
end K11
set_option Elab.async false
set_option linter.all false
set_option maxRecDepth 100000
namespace Dn
open PySem PySem.Spec PyProof.Rows L2
def flR : PyData → Prop
  | .none => True
  | .bool _ => True
  | .int i => i.natAbs < 2 ^ 1920
  | .str x => PyData.strOk x = true ∧ (reprText x).length ≤ 1000
  | _ => False
def Rg (b : Bool) : List Nat → PyData → Prop
  | [], d => flR d
  | L :: Ls, .list ds => b = false ∧ ds.length ≤ L ∧ ∀ d ∈ ds, Rg b Ls d
  | L :: Ls, .tuple ds => ds.length ≤ L ∧ ∀ d ∈ ds, Rg b Ls d
  | _ :: _, .dict kvs => b = true ∧ kvs = []
  | _ :: _, .none => True
  | _ :: _, .bool _ => True
  | _ :: _, .int i => i.natAbs < 2 ^ 1920
  | _ :: _, .str x => PyData.strOk x = true ∧ (reprText x).length ≤ 1000
def rgW : List Nat → Nat
  | [] => 1921
  | L :: Ls => 1925 + L * (rgW Ls + 2)
theorem rgW_ge : ∀ Ls, 1921 ≤ rgW Ls
  | [] => Nat.le_refl _
  | L :: Ls => by show 1921 ≤ 1925 + _; omega
/-- what is shown of it -/
structure Sh (b : Bool) (r W : Nat) (d : PyData) : Prop where
  lay : b = false → PyData.canLay0 d = true
  td : b = true → tdOk d = true
  sh : d.showable = true
  dp : d.depth ≤ r
  w : rW d ≤ W
theorem rg_all {b : Bool} {r W : Nat} : ∀ {ds : List PyData}, (∀ d ∈ ds, Sh b r W d) → (b = false → PyData.canLayAll0 ds = true) ∧ (b = true → tdAll ds = true) ∧ PyData.showableAll ds = true ∧ PyData.depthAll ds ≤ r ∧ rWs ds ≤ ds.length * (W + 2)
  | [], _ => by simp only [PyData.canLayAll0, tdAll, PyData.showableAll, PyData.depthAll, rWs]; exact ⟨fun _ => trivial, fun _ => trivial, trivial, Nat.zero_le _, Nat.zero_le _⟩
  | d :: ds, h => by
    obtain ⟨a1, a2, a3, a4, a5⟩ := h d List.mem_cons_self
    obtain ⟨b1, b2, b3, b4, b5⟩ := rg_all (ds := ds) fun d hd => h d (List.mem_cons_of_mem _ hd)
    simp only [PyData.canLayAll0, tdAll, PyData.showableAll, PyData.depthAll, rWs, a3, b3, List.length_cons, Nat.succ_mul, Bool.and_self, Bool.and_eq_true, true_and]
    exact ⟨fun h => ⟨a1 h, b1 h⟩, fun h => ⟨a2 h, b2 h⟩, by omega, by omega⟩
theorem fl_sh {b : Bool} {r W : Nat} (hW : 1921 ≤ W) : ∀ {d : PyData}, flR d → Sh b r W d
  | .none, _ => ⟨fun _ => rfl, fun _ => by simp only [tdOk], by simp only [PyData.showable], by simp only [PyData.depth]; omega, by simp only [rW]; omega⟩
  | .bool _, _ => ⟨fun _ => rfl, fun _ => by simp only [tdOk], by simp only [PyData.showable], by simp only [PyData.depth]; omega, by simp only [rW]; omega⟩
  | .int i, h => ⟨fun _ => rfl, fun _ => by simp only [tdOk], by simp only [PyData.showable]; exact decide_eq_true (log_of h (by decide)), by simp only [PyData.depth]; omega, by simp only [rW]; omega⟩
  | .str x, h => ⟨fun _ => by simp only [PyData.canLay0]; exact h.1, fun _ => by simp only [tdOk], by simp only [PyData.showable], by simp only [PyData.depth]; omega, by have := h.2; simp only [rW]; omega⟩
  | .list _, h => h.elim
  | .tuple _, h => h.elim
  | .dict _, h => h.elim
theorem Rg.all {b : Bool} : ∀ (Ls : List Nat) (d : PyData), Rg b Ls d → Sh b Ls.length (rgW Ls) d
  | [], d, h => fl_sh (Nat.le_refl _) h
  | L :: Ls, .none, h => fl_sh (rgW_ge _) h
  | L :: Ls, .bool _, h => fl_sh (rgW_ge _) h
  | L :: Ls, .int _, h => fl_sh (rgW_ge _) h
  | L :: Ls, .str _, h => fl_sh (rgW_ge _) h
  | L :: Ls, .list ds, h => by
    obtain ⟨hb, h1, h2⟩ : b = false ∧ ds.length ≤ L ∧ ∀ d ∈ ds, Rg b Ls d := h
    obtain ⟨b1, b2, b3, b4, b5⟩ := rg_all (ds := ds) fun d hd => Rg.all Ls d (h2 d hd)
    have h3 := Nat.mul_le_mul_right (rgW Ls + 2) h1
    have h4 : rgW (L :: Ls) = 1925 + L * (rgW Ls + 2) := rfl
    exact ⟨fun z => by simp only [PyData.canLay0]; exact b1 z, fun z => (by rw [hb] at z; cases z), by simp only [PyData.showable]; exact b3, by simp only [PyData.depth, List.length_cons]; omega, by simp only [rW]; omega⟩
  | L :: Ls, .tuple ds, h => by
    obtain ⟨h1, h2⟩ : ds.length ≤ L ∧ ∀ d ∈ ds, Rg b Ls d := h
    obtain ⟨b1, b2, b3, b4, b5⟩ := rg_all (ds := ds) fun d hd => Rg.all Ls d (h2 d hd)
    have h3 := Nat.mul_le_mul_right (rgW Ls + 2) h1
    have h4 : rgW (L :: Ls) = 1925 + L * (rgW Ls + 2) := rfl
    exact ⟨fun z => by simp only [PyData.canLay0]; exact b1 z, fun z => by simp only [tdOk]; exact b2 z, by simp only [PyData.showable]; exact b3, by simp only [PyData.depth, List.length_cons]; omega, by simp only [rW]; omega⟩
  | L :: Ls, .dict kvs, h => by
    obtain ⟨hb, rfl⟩ : b = true ∧ kvs = [] := h
    have := rgW_ge (L :: Ls)
    exact ⟨fun z => (by rw [hb] at z; cases z), fun _ => by simp only [tdOk]; rfl, by simp only [PyData.showable, PyData.showableKv], by simp only [PyData.depth, PyData.depthKv, List.length_cons]; omega, by simp only [rW, rWk]; omega⟩
theorem Rg.rep {b : Bool} {Ls : List Nat} {d : PyData} (h : Rg b Ls d) (hr : Ls.length ≤ 64) (hW : rgW Ls ≤ 16777216) : repOk d = true := by
  obtain ⟨h1, h2, h3, h4, h5⟩ := Rg.all Ls d h
  cases b with
  | false =>
    have hs : SeqAt.shaped d = true := by
      unfold SeqAt.shaped
      rw [h1 rfl, decide_eq_true (show d.depth ≤ 64 by omega)]
      rfl
    exact repOk_of (repOk0_sh hs) h3 (by omega) (by omega)
  | true => exact repOk_of (repOk0_td (h2 rfl)) h3 (by omega) (by omega)
theorem Rg.int {b : Bool} {i : Int} (h : i.natAbs < 2 ^ 64) : ∀ {Ls : List Nat}, Rg b Ls (.int i)
  | [] => Nat.lt_of_lt_of_le h (Nat.pow_le_pow_right (by decide) (by decide))
  | _ :: _ => Nat.lt_of_lt_of_le h (Nat.pow_le_pow_right (by decide) (by decide))
theorem Rg.str {b : Bool} {x : Str} (h : PyData.strOk x = true ∧ (reprText x).length ≤ 1000) : ∀ {Ls : List Nat}, Rg b Ls (.str x)
  | [] => h
  | _ :: _ => h
theorem Rg.tup {b : Bool} {L : Nat} {Ls : List Nat} {ds : List PyData} (h : ds.length ≤ L) (h2 : ∀ d ∈ ds, Rg b Ls d) : Rg b (L :: Ls) (.tuple ds) := ⟨h, h2⟩
theorem Rg.lst {L : Nat} {Ls : List Nat} {ds : List PyData} (h : ds.length ≤ L) (h2 : ∀ d ∈ ds, Rg false Ls d) : Rg false (L :: Ls) (.list ds) := ⟨rfl, h, h2⟩
end Dn
set_option Elab.async false
set_option linter.all false
set_option maxRecDepth 100000
set_option maxHeartbeats 4000000
namespace K11
open PySem PySem.Spec PyProof.Rows L2 Dn
variable {n : Nat}
theorem div_small {a W : Int} (h0 : 0 ≤ a) (h1 : a ≤ W) (hW : 0 < W) (h9 : W.natAbs < 2 ^ 1920) : (Rat.divInt a W).num.natAbs < 2 ^ 1920 ∧ (Rat.divInt a W).den < 2 ^ 1920 := by
  have g := @gcd_pos a W hW
  have e1 := @low_num a W hW
  have e2 := @low_den a W hW
  obtain ⟨G, hG⟩ : ∃ G : Nat, G = Nat.gcd a.natAbs W.natAbs := ⟨_, rfl⟩
  rw [← hG] at e1 e2 g
  rw [Int.fdiv_eq_ediv_of_nonneg _ (by omega)] at e1 e2
  have b1 : a / (G : Int) ≤ a := Int.ediv_le_self _ h0
  have b2 : W / (G : Int) ≤ W := Int.ediv_le_self _ (by omega)
  have b3 : 0 ≤ a / (G : Int) := Int.ediv_nonneg h0 (by omega)
  constructor
  · rw [← e1]
    omega
  · omega
theorem rep_tab {W : Int} {G : Mx} (h8 : n ≤ 8) (hW : 0 < W) (h9 : W.natAbs < 2 ^ 1920) (hG : ∀ k j, 0 ≤ G k j ∧ G k j ≤ W) : repOk (tabP n W G) = true := by
  have : Rg false [8, 8, 2] (tabP n W G) := by
    rw [tab_row]
    refine .tup (by simp; omega) fun d hd => ?_
    obtain ⟨k, _, rfl⟩ := List.mem_map.mp hd
    refine .tup (by simp; omega) fun d hd => ?_
    obtain ⟨j, _, rfl⟩ := List.mem_map.mp hd
    obtain ⟨s1, s2⟩ := div_small (hG k j).1 (hG k j).2 hW h9
    refine .tup (by show 2 ≤ 2; decide) fun d hd => ?_
    simp only [List.mem_cons, List.not_mem_nil, or_false] at hd
    rcases hd with rfl | rfl
    · exact s1
    · exact s2
  exact this.rep (by decide) (by decide)
theorem same_tab {W : Int} {G : Mx} (h8 : n ≤ 8) (hW : 0 < W) (h9 : W.natAbs < 2 ^ 1920) (hG : ∀ k j, 0 ≤ G k j ∧ G k j ≤ W) : Ph_law_same [tabP n W G, tabP n W G] = some (.bool true) := by
  have r := rep_tab h8 hW h9 hG
  have g := gEq_T (sim_tab (n := n) (W := W) (G := G)) (by decide)
  generalize tabP n W G = T at *
  unfold Ph_law_same
  rw [run2]
  unfold dn_law_same
  simp [-gEq, g, r]
end K11
set_option Elab.async false
set_option linter.all false
set_option maxRecDepth 100000
set_option maxHeartbeats 8000000
namespace K11
open PySem PySem.Spec PyProof.Rows L2 Dn
variable {n : Nat} {ks : List PyData}
theorem rd_noM : ∀ {L r : Nat} {d : PyData}, Dn.Rd L r d → noM d = true
  | _, 0, _, h => h.elim
  | L, r + 1, .list ds, h => by
    simp only [noM]
    exact noMs_of fun d hd => rd_noM (h.2 d hd)
  | L, r + 1, .tuple ds, h => by
    simp only [noM]
    exact noMs_of fun d hd => rd_noM (h.2 d hd)
  | _, _ + 1, .dict _, h => False.elim h
  | _, _ + 1, .none, _ => rfl
  | _, _ + 1, .bool _, _ => rfl
  | _, _ + 1, .int _, _ => rfl
  | _, _ + 1, .str _, _ => rfl
theorem rd_ent {L r : Nat} {d : PyData} (hL : L ≤ 8) (h : Dn.Rd L r d) : entOk d = true := by
  cases r with
  | zero => exact h.elim
  | succ r =>
    cases d with
    | list ds =>
      have : ds.length ≤ L := h.1
      unfold entOk
      simp
      omega
    | dict _ => exact h.elim
    | _ => rfl
theorem rd_top {L r : Nat} {d : PyData} (hL : L ≤ 8) (h : Dn.Rd L r d) : topOk d = true := by
  have e := rd_ent hL h
  unfold topOk
  rw [e]
  cases r with
  | zero => exact h.elim
  | succ r =>
    cases d with
    | tuple ds =>
      obtain ⟨h1, h2⟩ : ds.length ≤ L ∧ ∀ d ∈ ds, Dn.Rd L r d := h
      simp only [Bool.true_and, Bool.and_eq_true, decide_eq_true_eq, List.all_eq_true]
      exact ⟨by omega, fun d hd => rd_ent hL (h2 d hd)⟩
    | _ => rfl
theorem rd_tyE {L r : Nat} {d : PyData} (h : Dn.Rd L r d) : TyE d := by
  have ty : ∀ {r : Nat} {d : PyData}, Dn.Rd L r d → tyOk d = true := fun {r d} h => by
    cases r with
    | zero => exact h.elim
    | succ r => cases d <;> first | rfl | exact False.elim h
  refine ⟨ty h, fun xs e x hx => ?_⟩
  subst e
  cases r with
  | zero => exact h.elim
  | succ r => exact ty (h.2 x hx)
/-- lists and tuples to a depth, no dict in them -/
def AnA : Nat → PyData → Prop
  | 0, _ => False
  | r + 1, .list ds => ds.length ≤ 1000 ∧ ∀ d ∈ ds, AnA r d
  | r + 1, .tuple ds => ds.length ≤ 1000 ∧ ∀ d ∈ ds, AnA r d
  | _ + 1, .dict _ => False
  | _ + 1, _ => True
theorem AnA.up : ∀ {r : Nat} {d : PyData}, AnA r d → AnA (r + 1) d
  | 0, _, h => h.elim
  | r + 1, .list ds, h => ⟨h.1, fun d hd => AnA.up (h.2 d hd)⟩
  | r + 1, .tuple ds, h => ⟨h.1, fun d hd => AnA.up (h.2 d hd)⟩
  | r + 1, .dict _, h => h.elim
  | r + 1, .none, _ => trivial
  | r + 1, .bool _, _ => trivial
  | r + 1, .int _, _ => trivial
  | r + 1, .str _, _ => trivial
theorem v_anewA : ∀ (r : Nat) (d : PyData), AnA r d → Pha_anew r [d] = some d
  | 0, _, h => h.elim
  | r + 1, d, h => by
    show runA (dna_anew (Pha_anew r)) 2 1 [d] = some d
    rw [runA1]
    unfold dna_anew
    cases d with
    | list ds =>
      obtain ⟨h1, h2⟩ := h
      have hc := cm_a (a := ce_anew_1 (Pha_anew r)) (i := 1) (e := [.val (.list ds), .no]) (xs := ds) (E := fun d => d) (D := fun d => d) (F := fun d => d) (by omega) rfl rfl fun y hy => by
        have := v_anewA r y (h2 y hy)
        simp [ce_anew_1, this]
      rw [List.map_id', List.map_id'] at hc
      simp [hc]
    | tuple ds =>
      obtain ⟨h1, h2⟩ := h
      have hc := cm_a (a := ce_anew_2 (Pha_anew r)) (i := 1) (e := [.val (.tuple ds), .no]) (xs := ds) (E := fun d => d) (D := fun d => d) (F := fun d => d) (by omega) rfl rfl fun y hy => by
        have := v_anewA r y (h2 y hy)
        simp [ce_anew_2, this]
      rw [List.map_id', List.map_id'] at hc
      simp [hc]
    | dict kvs => exact h.elim
    | none => simp [Dn.scal]
    | bool b => simp [Dn.scal]
    | int i => simp [Dn.scal]
    | str s => simp [Dn.scal]
theorem rd_anA : ∀ {r : Nat} {d : PyData}, Dn.Rd 8 r d → AnA r d
  | 0, _, h => h.elim
  | r + 1, .list ds, h => ⟨by have := h.1; omega, fun d hd => rd_anA (h.2 d hd)⟩
  | r + 1, .tuple ds, h => ⟨by have := h.1; omega, fun d hd => rd_anA (h.2 d hd)⟩
  | _ + 1, .dict _, h => False.elim h
  | _ + 1, .none, _ => trivial
  | _ + 1, .bool _, _ => trivial
  | _ + 1, .int _, _ => trivial
  | _ + 1, .str _, _ => trivial
/-- what is no pair -/
structure OddP (n : Nat) (d : PyData) : Prop where
  no : pairB (n : Int) d = false
  rd : Dn.Rd 8 3 d
theorem OddP.rep {d : PyData} (h : OddP n d) : repOk d = true := h.rd.rep (by decide) (by decide)
theorem OddP.top {d : PyData} (h : OddP n d) : topOk d = true := rd_top (by decide) h.rd
theorem OddP.noM {d : PyData} (h : OddP n d) : Dn.noM d = true := rd_noM h.rd
theorem OddP.an {d : PyData} (h : OddP n d) : Pha_anew 8 [d] = some d := v_anewA 8 d (rd_anA h.rd).up.up.up.up.up
def oddA (n x : Nat) : List PyData := [.tuple [.int x, .int x], .tuple [.int x, .int n], .tuple [.int (-1), .int x], .list [.int x, .int ((n : Int) - 1 - x)], .tuple [.int x], .tuple [.int x, .int ((x : Int) + 1), .int 0], .none, .int x]
def oddB (n x : Nat) (S : PySem.Str) : List PyData := [.tuple [.str S, .int 0], .str ("01" : PySem.Str), .tuple [.tuple [.int x], .int 0], .tuple [.list [.int x], .list [.int 0]], .tuple [.bool true, .bool false], .tuple [.int x, .none], .list [], .tuple [.int ((n : Int) + 5), .int 0]]
theorem odd_str {a : Int} (h : 0 ≤ a ∧ a < 8) : ∃ S : PySem.Str, gStrI [.int a] = some (.str S) ∧ PyData.strOk S = true ∧ (reprText S).length ≤ 1000 := by
  rcases (show a = 0 ∨ a = 1 ∨ a = 2 ∨ a = 3 ∨ a = 4 ∨ a = 5 ∨ a = 6 ∨ a = 7 by omega) with rfl | rfl | rfl | rfl | rfl | rfl | rfl | rfl <;> exact ⟨_, rfl, by decide +kernel, by decide +kernel⟩
theorem odd_all {x : Nat} {S : PySem.Str} (h8 : n ≤ 8) (hx : x < n) (hS : PyData.strOk S = true ∧ (reprText S).length ≤ 1000) : ∀ d ∈ oddA n x ++ oddB n x S, OddP n d := by
  have sm : ∀ {r : Nat} (i : Int), i.natAbs ≤ 15 → Dn.Rd 8 (r + 1) (.int i) := fun i h => lt_pow (a := 4) (show i.natAbs < 16 by omega) (by decide)
  have tw : ∀ {r : Nat} {a b : PyData}, Dn.Rd 8 (r + 1) a → Dn.Rd 8 (r + 1) b → Dn.Rd 8 (r + 1 + 1) (.tuple [a, b]) := fun {r a b} h1 h2 => ⟨by show 2 ≤ 8; decide, fun d hd => by
    simp only [List.mem_cons, List.not_mem_nil, or_false] at hd
    rcases hd with rfl | rfl <;> assumption⟩
  have ix : ∀ {r : Nat}, Dn.Rd 8 (r + 1) (.int (x : Int)) := sm _ (by omega)
  have i0 : ∀ {r : Nat}, Dn.Rd 8 (r + 1) (.int 0) := sm _ (by decide)
  have one : ∀ {r : Nat} {a : PyData}, Dn.Rd 8 (r + 1) a → Dn.Rd 8 (r + 1 + 1) (.tuple [a]) := fun {r a} h => ⟨by show 1 ≤ 8; decide, fun d hd => by rw [List.mem_singleton.mp hd]; exact h⟩
  have oneL : ∀ {r : Nat} {a : PyData}, Dn.Rd 8 (r + 1) a → Dn.Rd 8 (r + 1 + 1) (.list [a]) := fun {r a} h => ⟨by show 1 ≤ 8; decide, fun d hd => by rw [List.mem_singleton.mp hd]; exact h⟩
  intro d hd
  simp only [oddA, oddB, List.cons_append, List.nil_append, List.mem_cons, List.not_mem_nil, or_false] at hd
  rcases hd with rfl | rfl | rfl | rfl | rfl | rfl | rfl | rfl | rfl | rfl | rfl | rfl | rfl | rfl | rfl | rfl
  · exact ⟨by simp [pairB], tw ix ix⟩
  · exact ⟨by simp [pairB], tw ix (sm _ (by omega))⟩
  · exact ⟨by simp [pairB], tw (sm _ (by decide)) ix⟩
  · exact ⟨rfl, by show 2 ≤ 8; decide, fun d hd => by
      simp only [List.mem_cons, List.not_mem_nil, or_false] at hd
      rcases hd with rfl | rfl
      · exact ix
      · exact sm _ (by omega)⟩
  · exact ⟨rfl, one ix⟩
  · exact ⟨rfl, by show 3 ≤ 8; decide, fun d hd => by
      simp only [List.mem_cons, List.not_mem_nil, or_false] at hd
      rcases hd with rfl | rfl | rfl
      · exact ix
      · exact sm _ (by omega)
      · exact i0⟩
  · exact ⟨rfl, trivial⟩
  · exact ⟨rfl, ix⟩
  · exact ⟨rfl, tw (show PyData.strOk S = true ∧ _ from hS) i0⟩
  · exact ⟨rfl, show PyData.strOk _ = true ∧ _ from ⟨by decide +kernel, by decide +kernel⟩⟩
  · exact ⟨rfl, tw (one ix) i0⟩
  · exact ⟨rfl, tw (oneL ix) (oneL i0)⟩
  · exact ⟨rfl, tw trivial trivial⟩
  · exact ⟨rfl, tw ix trivial⟩
  · exact ⟨rfl, by show 0 ≤ 8; decide, fun d hd => nomatch hd⟩
  · refine ⟨?_, tw (sm _ (by omega)) i0⟩
    have : ¬ ((n : Int) + 5 < n) := by omega
    simp [pairB, this]
theorem v_law_odd_pair {M : Nat} (h1 : 1 ≤ n) (h8 : n ≤ 8) (hk : KegOk (M + 2) ks) : ∃ (d : PyData) (ks' : List PyData), Ph_law_odd_pair ks [.int (n : Int)] = some (d, ks') ∧ OddP n d ∧ KegOk M ks' := by
  obtain ⟨x, k1, e1, b1, u1⟩ := v_lift (M := M + 1) (m := n) hk (by omega) (Nat.lt_of_le_of_lt h8 (by decide))
  obtain ⟨y, k2, e2, b2, u2⟩ := v_lift (M := M) (m := 16) u1 (by omega) (by decide)
  obtain ⟨S, s1, s2⟩ := odd_str (a := (x : Int)) (by omega)
  have all := odd_all (S := S) h8 b1 s2
  have len : (oddA n x ++ oddB n x S).length = 16 := rfl
  have hy : y < (oddA n x ++ oddB n x S).length := by rw [len]; exact b2
  refine ⟨(oddA n x ++ oddB n x S)[y], k2, ?_, all _ (List.getElem_mem hy), u2⟩
  have ix : gIx (.list (oddA n x ++ oddB n x S)) (.int (y : Int)) = some ((oddA n x ++ oddB n x S)[y]) := by
    show atI _ _ = _
    exact atI_get hy
  have e2' : Ph_law_lift k1 [.int 16] = some (.int (y : Int), k2) := e2
  have ad : gAdd (.list (oddA n x)) (.list (oddB n x S)) = some (.list (oddA n x ++ oddB n x S)) := by
    show (if okN ((oddA n x).length + (oddB n x S).length) then some _ else none) = _
    rw [okN_of (show (oddA n x).length + (oddB n x S).length ≤ 1000000 from by show 8 + 8 ≤ 1000000; decide)]
    rfl
  have hA : ∀ e : En, kLst ([.tuple [.int x, .int x], .tuple [.int x, .int n], .tuple [.int (-1), .int x], .list [.int x, .int ((n : Int) - 1 - x)], .tuple [.int x], .tuple [.int x, .int ((x : Int) + 1), .int 0], .none, .int x], e) = some (oddA n x, e) := fun _ => rfl
  have hB : ∀ e : En, kLst ([.tuple [.str S, .int 0], .str ("01" : PySem.Str), .tuple [.tuple [.int x], .int 0], .tuple [.list [.int x], .list [.int 0]], .tuple [.bool true, .bool false], .tuple [.int x, .none], .list [], .tuple [.int ((n : Int) + 5), .int 0]], e) = some (oddB n x S, e) := fun _ => rfl
  have gl : gLen [.list (oddA n x ++ oddB n x S)] = some (.int 16) := by
    show some (PyData.int (((oddA n x ++ oddB n x S).length : Nat) : Int)) = _
    rw [len]; rfl
  generalize (oddA n x ++ oddB n x S)[y] = Z at *
  generalize hAB : oddA n x ++ oddB n x S = AB at *
  unfold Ph_law_odd_pair
  rw [runM2]
  unfold dn_law_odd_pair
  have a1 : gAdd (.int (x : Int)) (.int 1) = some (.int ((x : Int) + 1)) := by simp
  have a5 : gAdd (.int (n : Int)) (.int 5) = some (.int ((n : Int) + 5)) := by simp
  have hL1 : ∀ (a : PyData) (e : En), kLst ([a], e) = some ([a], e) := fun _ _ => rfl
  have hL0 : ∀ (e : En), kLst ([], e) = some ([], e) := fun _ => rfl
  have hL2 : ∀ (a b : PyData) (e : En), kLst ([a, b], e) = some ([a, b], e) := fun _ _ _ => rfl
  generalize oddA n x = A1 at *
  generalize oddB n x S = B1 at *
  simp [-gIx, -gLen, -gAdd, -gStrI, e1, s1, a1, a5, hA, hB, hL0, hL1, hL2, ad, gl, e2', ix]
end K11
set_option Elab.async false
set_option linter.all false
set_option maxRecDepth 100000
set_option maxHeartbeats 8000000
namespace K11
open PySem PySem.Spec PyProof.Rows L2 Dn
variable {n : Nat} {ks : List PyData} {D L d : PyData} {cl : Str}
theorem x_count_no {m : Int} (h : m < 1 ∨ 8 < m) : Phx_need_count [.int m, .int 1, .int 8] = some (.ex "InvalidNumber" (.int m)) := by
  have a := v_is_int (d := .int m) rfl
  have an : Pha_anew 8 [.int m] = some (.int m) := v_anewA 8 _ trivial
  have hc : ¬ (1 ≤ m) ∨ ¬ (m ≤ 8) := by omega
  unfold Phx_need_count
  rw [runX3]
  unfold dnx_need_count
  by_cases c1 : 1 ≤ m
  · have c8 : ¬ m ≤ 8 := by omega
    simp [a, isInt, c1, c8, an]
  · simp [a, isInt, c1, an]
theorem x_count_ok (h1 : 1 ≤ n) (h8 : n ≤ 8) : Phx_need_count [.int (n : Int), .int 1, .int 8] = some (.ok .none) := by
  have a := v_is_int (d := .int (n : Int)) rfl
  have c1 : (1 : Int) ≤ (n : Int) := by omega
  have c8 : (n : Int) ≤ 8 := by omega
  unfold Phx_need_count
  rw [runX3]
  unfold dnx_need_count
  simp [a, isInt, c1, c8]
theorem x_pairs_no {m : Int} (h : m < 1 ∨ 8 < m) : Phx_need_pairs [.int m, L] = some (.ex "InvalidNumber" (.int m)) := by
  have a := x_count_no h
  unfold Phx_need_pairs
  rw [runX2]
  unfold dnx_need_pairs
  simp [a]
theorem need_ex {X : PyData} : ∀ {ps : List (Nat × Nat)} {r : List PyData} {s : Sl}, PrOk n ps → pairB (n : Int) d = false → TyE d → Pha_anew 8 [d] = some d → ∃ e', forL (g1 2) lpx_need_pairs_1 (ps.map encPr ++ d :: r) [.val (.int (n : Int)), .val X, s] = some (.ex "InvalidDeed" d, e')
  | [], r, s, _, hb, ht, ha => by
    have hp := v_is_pair (n := (n : Int)) ht
    rw [hb] at hp
    refine ⟨[.val (.int (n : Int)), .val X, .val d], ?_⟩
    show forL _ _ (d :: r) _ = _
    rw [for_cons]
    have st : lpx_need_pairs_1 [.val (.int (n : Int)), .val X, .val d] = some (.ex "InvalidDeed" d, [.val (.int (n : Int)), .val X, .val d]) := by
      unfold lpx_need_pairs_1
      simp [hp, ha]
    show (lpx_need_pairs_1 [.val (.int (n : Int)), .val X, .val d]).bind _ = _
    rw [st]
    rfl
  | p :: ps, r, s, h, hb, ht, ha => by
    have a := v_is_pair (n := (n : Int)) (tyE_pr p)
    rw [pairB_pr (h p List.mem_cons_self)] at a
    obtain ⟨e', ih⟩ := need_ex (X := X) (ps := ps) (r := r) (s := .val (encPr p)) (fun q hq => h q (List.mem_cons_of_mem _ hq)) hb ht ha
    refine ⟨e', ?_⟩
    show forL _ _ (encPr p :: (ps.map encPr ++ d :: r)) _ = _
    rw [for_cons]
    have st : lpx_need_pairs_1 [.val (.int (n : Int)), .val X, .val (encPr p)] = some (.nx, [.val (.int (n : Int)), .val X, .val (encPr p)]) := by
      unfold lpx_need_pairs_1
      simp [a]
    show (lpx_need_pairs_1 [.val (.int (n : Int)), .val X, .val (encPr p)]).bind _ = _
    rw [st]
    exact ih
theorem x_pairs_odd {ps : List (Nat × Nat)} {r : List PyData} (h1 : 1 ≤ n) (h8 : n ≤ 8) (h : PrOk n ps) (hd : OddP n d) (hl : ps.length + r.length ≤ 1000) : Phx_need_pairs [.int (n : Int), .list (ps.map encPr ++ d :: r)] = some (.ex "InvalidDeed" d) := by
  have c := x_count_ok h1 h8
  obtain ⟨e', l1⟩ := need_ex (X := .list (ps.map encPr ++ d :: r)) (r := r) (s := .no) h hd.no (rd_tyE hd.rd) hd.an
  have hi : items (.list (ps.map encPr ++ d :: r)) = some (ps.map encPr ++ d :: r) := rfl
  have hn : okN (ps.map encPr ++ d :: r).length = true := okN_of (by simp; omega)
  generalize ps.map encPr ++ d :: r = W at *
  generalize PyData.list W = X at *
  unfold Phx_need_pairs
  rw [runX2]
  unfold dnx_need_pairs
  simp [-items, c, hi, hn, l1]
theorem x_asked {m : Int} (h : Phx_need_pairs [.int m, L] = some (.ex cl d)) {k : Nat} (hk : k < 2) : Phx_law_asked [.int (k : Int), .int m, L] = some (.ex cl d) := by
  have a : Phx_levelled [.int m, L] = some (.ex cl d) := by
    unfold Phx_levelled
    rw [runX2]
    unfold dnx_levelled
    simp [h]
  have b : Phx_is_level [.int m, L] = some (.ex cl d) := by
    unfold Phx_is_level
    rw [runX2]
    unfold dnx_is_level
    simp [h]
  have hK : ∀ D e, lK 0 2 [1, 0] lNil (lCons (eV 2) (lCons (eV 1) lNil)) (.val D :: .val (.int m) :: .val L :: e) = some ([.int m, L], .val D :: .val (.int m) :: .val L :: e) := fun _ _ => rfl
  unfold Phx_law_asked
  rw [runX3]
  unfold dnx_law_asked
  rcases (show k = 0 ∨ k = 1 by omega) with rfl | rfl
  · simp [hK, a]
  · simp [hK, b]
section
variable {X Y : PyData}
theorem v_error (h : Phx_law_asked [D, X, Y] = some (.ex cl d)) (hc : cl = "InvalidDeed" ∨ cl = "InvalidNumber") : Ph_law_error [D, X, Y] = some (encE cl d) := by
  unfold Ph_law_error
  rw [run3]
  unfold dn_law_error
  rcases hc with rfl | rfl <;> simp [h]
theorem e_error (h : Phx_law_asked [D, X, Y] = some (.ex cl d)) (hc : cl = "InvalidDeed" ∨ cl = "InvalidNumber") : Phe_law_error [D, X, Y] = some (cl, d) := by
  have b : bde_law_error [.val D, .val X, .val Y, .val .none, .no] = some (.ex cl d, [.val D, .val X, .val Y, .val .none, .no]) := by
    unfold bde_law_error
    simp [h]
  have b' : bde_law_error ((en0 5 [D, X, Y]).set 3 (.val .none)) = some (.ex cl d, [.val D, .val X, .val Y, .val .none, .no]) := b
  unfold Phe_law_error runE
  rw [if_pos (show [D, X, Y].length = 3 from rfl), b']
  rcases hc with rfl | rfl <;> simp
theorem shaped_bools (bs : List Bool) : SeqAt.shaped (.list (bs.map .bool)) = true := by
  have h := lay_all (ds := bs.map PyData.bool) (r := 0) fun d hd => by
    obtain ⟨b, _, rfl⟩ := List.mem_map.mp hd
    simp [PyData.canLay0, PyData.depth]
  unfold SeqAt.shaped
  simp only [PyData.canLay0, PyData.depth, h.1, Bool.true_and]
  exact decide_eq_true (by omega)
theorem ne_bools (a b : Bool) : gNe (.list [.bool a, .bool b]) (.list [.bool a, .bool b]) = some (.bool false) := by
  have h : SeqAt.shaped (.list [.bool a, .bool b]) = true := shaped_bools [a, b]
  rw [gNe_gen _ _ h h]
  simp [PyData.eqv, PyData.eqvAll]
theorem lkD {b1 b2 b3 : Bool} : List.lookup ("InvalidDeed" : Str) [("InvalidDeed", b1), ("InvalidNumber", b2), ("Unlike", b3)] = some b1 := by
  cases b1 <;> cases b2 <;> cases b3 <;> decide
theorem lkN {b1 b2 b3 : Bool} : List.lookup ("InvalidNumber" : Str) [("InvalidDeed", b1), ("InvalidNumber", b2), ("Unlike", b3)] = some b2 := by
  cases b1 <;> cases b2 <;> cases b3 <;> decide
theorem v_refused_deed (h : Phx_law_asked [D, X, Y] = some (.ex "InvalidDeed" d)) (ok : repOk d = true) : Ph_law_refused [D, X, Y, .bool false, .str d.shown] = some (.bool true) := by
  have e := v_error h (.inl rfl)
  have b2 : gNe (.list [.bool false, .bool true]) (.list [.bool false, .bool true]) = some (.bool false) := ne_bools false true
  unfold Ph_law_refused
  show endP (dn_law_refused [.val D, .val X, .val Y, .val (.bool false), .val (.str d.shown), .no]) = _
  unfold dn_law_refused
  have hL2 : ∀ (a b : PyData) (e : En), kLst ([a, b], e) = some ([a, b], e) := fun _ _ _ => rfl
  simp [-gNe, e, hL2, b2, ok, lkD]
theorem v_refused_num (h : Phx_law_asked [D, X, Y] = some (.ex "InvalidNumber" d)) (ok : repOk d = true) : Ph_law_refused [D, X, Y, .bool true, .str d.shown] = some (.bool true) := by
  have e := v_error h (.inr rfl)
  have b2 : gNe (.list [.bool true, .bool false]) (.list [.bool true, .bool false]) = some (.bool false) := ne_bools true false
  unfold Ph_law_refused
  show endP (dn_law_refused [.val D, .val X, .val Y, .val (.bool true), .val (.str d.shown), .no]) = _
  unfold dn_law_refused
  have hL2 : ∀ (a b : PyData) (e : En), kLst ([a, b], e) = some ([a, b], e) := fun _ _ _ => rfl
  simp [-gNe, e, hL2, b2, ok, lkN]
end
end K11
set_option Elab.async false
set_option linter.all false
set_option maxRecDepth 100000
set_option maxHeartbeats 8000000
namespace K11
open PySem PySem.Spec PyProof.Rows L2 Dn
variable {n : Nat} {ks : List PyData}
theorem noMs_prs (ps : List (Nat × Nat)) : noMs (ps.map encPr) = true := noMs_of fun d hd => by
  obtain ⟨p, _, rfl⟩ := List.mem_map.mp hd
  rfl
theorem noMs_keg {M : Nat} (h : KegOk M ks) : noMs ks = true ∧ noLs ks = true := by
  obtain ⟨a, b, c, rfl, _⟩ := h
  exact ⟨rfl, rfl⟩
/-- a list with one entry that is no pair behind some pairs -/
structure BadL (n : Nat) (d : PyData) (D : List PyData) (k : Nat) : Prop where
  sp : ∃ ps r, D = ps.map encPr ++ d :: r ∧ PrOk n ps ∧ ps.length = k
  le : D.length ≤ 100
theorem BadL.x {d : PyData} {D : List PyData} {k : Nat} (h : BadL n d D k) (h1 : 1 ≤ n) (h8 : n ≤ 8) (hd : OddP n d) : Phx_need_pairs [.int (n : Int), .list D] = some (.ex "InvalidDeed" d) := by
  obtain ⟨⟨ps, r, rfl, h2, h3⟩, h4⟩ := h
  have : (ps.map encPr ++ d :: r).length = ps.length + r.length + 1 := by simp; omega
  exact x_pairs_odd h1 h8 h2 hd (by omega)
theorem BadL.ins {d z : PyData} {D : List PyData} {k f : Nat} (h : BadL n d D k) (hf : k < f) (hl : D.length ≤ 99) : BadL n d (D.take f ++ [z] ++ D.drop f) k := by
  obtain ⟨⟨ps, r, rfl, h2, h3⟩, h4⟩ := h
  refine ⟨⟨ps, r.take (f - k - 1) ++ [z] ++ (ps.map encPr ++ d :: r).drop f, ?_, h2, h3⟩, ?_⟩
  · have e : (ps.map encPr ++ d :: r).take f = ps.map encPr ++ d :: r.take (f - k - 1) := by
      rw [List.take_append, List.length_map, h3, List.take_of_length_le (by simp; omega)]
      have : f - k = (f - k - 1) + 1 := by omega
      rw [this, List.take_succ_cons]
      rfl
    rw [e]
    simp
  · simp only [List.length_append, List.length_take, List.length_drop, List.length_cons, List.length_nil] at hl ⊢
    omega
theorem cutTd {D : List PyData} (k : Nat) : gCut (.list D) none (some (k : Int)) = some (.list (D.take k)) := by
  show some (PyData.list (Dn.cutD _ none (some (k : Int)))) = _
  rw [cut_to]
theorem cutFd {D : List PyData} (k : Nat) : gCut (.list D) (some (k : Int)) none = some (.list (D.drop k)) := by
  show some (PyData.list (Dn.cutD _ (some (k : Int)) none)) = _
  rw [cut_from]
theorem addDd {X Y : List PyData} (h : X.length + Y.length ≤ 1000) : gAdd (.list X) (.list Y) = some (.list (X ++ Y)) := by
  show (if okN (X.length + Y.length) then some _ else none) = _
  rw [okN_of (by omega)]
  rfl
theorem rep_int {i : Int} (h : i.natAbs < 2 ^ 1920) : repOk (.int i) = true := (show Dn.Rd 8 1 (.int i) from h).rep (by decide) (by decide)
theorem num_ix {a b : Int} (ha : 0 ≤ a) (hb : 0 ≤ b) (ha2 : a.natAbs < 2 ^ 100) (hb2 : b.natAbs < 2 ^ 200) {x : Nat} (h : x < 4) : ∃ m : Int, gIx (.list [.int 0, .int 9, .int (-1 - a), .int (9 + b)]) (.int (x : Int)) = some (.int m) ∧ (m < 1 ∨ 8 < m) ∧ m.natAbs < 2 ^ 1920 := by
  have p1 : (2 : Nat) ^ 100 ≤ 2 ^ 1919 := Nat.pow_le_pow_right (by decide) (by decide)
  have p2 : (2 : Nat) ^ 200 ≤ 2 ^ 1919 := Nat.pow_le_pow_right (by decide) (by decide)
  have p3 : (2 : Nat) ^ 1920 = 2 ^ 1919 + 2 ^ 1919 := by rw [show 1920 = 1919 + 1 from rfl, Nat.pow_succ]; omega
  have p4 : (2 : Nat) ^ 10 ≤ 2 ^ 1919 := Nat.pow_le_pow_right (by decide) (by decide)
  have p5 : (2 : Nat) ^ 10 = 1024 := by decide
  rw [p3]
  generalize (2 : Nat) ^ 1919 = P at *
  generalize (2 : Nat) ^ 100 = P1 at *
  generalize (2 : Nat) ^ 200 = P2 at *
  rcases (show x = 0 ∨ x = 1 ∨ x = 2 ∨ x = 3 by omega) with rfl | rfl | rfl | rfl
  · exact ⟨0, rfl, by omega, by omega⟩
  · exact ⟨9, rfl, by omega, by omega⟩
  · exact ⟨-1 - a, rfl, by omega, by omega⟩
  · exact ⟨9 + b, rfl, by omega, by omega⟩
end K11
set_option Elab.async false
set_option linter.all false
set_option maxRecDepth 100000
set_option maxHeartbeats 8000000
namespace K11
open PySem PySem.Spec PyProof.Rows L2 Dn
variable {n : Nat} {ks k k' : List PyData}
noncomputable def RT1 : Fs := sSet (eM 0 Ph_law_lift (lCons (eC (.int 2)) (lNil))) (g1 3)
noncomputable def RT2 : Fs := sSet (eM 0 Ph_law_lift (lCons (Dn.e2 gAdd (eA gLen (lCons (eV 2) (lNil))) (eC (.int 1))) (lNil))) (g1 4)
noncomputable def RT3 : Fs := sNw (fSetN 5 (eMN 0 Ph_law_odd_pair (lCons (eV 1) (lNil))))
noncomputable def RT4 : Fs := sSet (Dn.e2 gAdd (Dn.e2 gAdd (eCut (eV 2) (oNo) (oSo (eV 4))) (eF (lLst (lCons (eVN 5) (lNil))))) (eCut (eV 2) (oSo (eV 4)) (oNo))) (g1 6)
noncomputable def RT5 : Fs := sIf (tB' (Dn.e2 gEq (eM 0 Ph_law_lift (lCons (eC (.int 2)) (lNil))) (eC (.int 0)))) (sSeq (sSet (Dn.e2 gAdd (Dn.e2 gAdd (eV 4) (eC (.int 1))) (eM 0 Ph_law_lift (lCons (Dn.e2 gSub (eA gLen (lCons (eV 6) (lNil))) (eV 4)) (lNil)))) (g1 7)) (sSet (Dn.e2 gAdd (Dn.e2 gAdd (eCut (eV 6) (oNo) (oSo (eV 7))) (eF (lLst (lCons (eM 0 Ph_law_odd_pair (lCons (eV 1) (lNil))) (lNil))))) (eCut (eV 6) (oSo (eV 7)) (oNo))) (g1 6))) (sNx)
noncomputable def RT6 : Fs := sIf (tNo (tTr (eA Ph_law_refused (lCons (eV 3) (lCons (eV 1) (lCons (eV 6) (lCons (eC (.bool false)) (lCons (eA gRep (lCons (eVN 5) (lNil))) (lNil))))))))) (sRt (eC (.bool false))) (sNx)
noncomputable def RT7 : Fs := sSet (Dn.e2 gIx (eF (lLst (lCons (eC (.int 0)) (lCons (eC (.int 9)) (lCons (Dn.e2 gSub (Dn.e2 gSub (eC (.int 0)) (eC (.int 1))) (eM 0 Ph_law_lift (lCons (Dn.e2 gPow (eC (.int 10)) (eC (.int 20))) (lNil)))) (lCons (Dn.e2 gAdd (eC (.int 9)) (eM 0 Ph_law_lift (lCons (Dn.e2 gPow (eC (.int 10)) (eC (.int 50))) (lNil)))) (lNil))))))) (eM 0 Ph_law_lift (lCons (eC (.int 4)) (lNil)))) (g1 8)
noncomputable def RT8 : Fs := sFor (iSeq (eF (lLst (lCons (eV 6) (lCons (eV 2) (lNil)))))) (g1 9) (lp_law_refusals_right_1)
noncomputable def RT9 : Fs := sIf (tNo (tTr (eA Ph_law_refused (lCons (Dn.e2 gSub (eC (.int 1)) (eV 3)) (lCons (eV 8) (lCons (eF (lLst (lNil))) (lCons (eC (.bool true)) (lCons (eA gRep (lCons (eV 8) (lNil))) (lNil))))))))) (sRt (eC (.bool false))) (sNx)
noncomputable def RK : En → Option En := fKeptN ["InvalidDeed", "InvalidNumber", "Unlike"] 5 Phe_law_error (lCons (eV 3) (lCons (eV 1) (lCons (eF (lLst (lCons (eVN 5) (lNil)))) (lNil))))
theorem RT_cut : dn_law_refusals_right = sScopeN (sSeq RT1 (sSeq RT2 (sSeq RT3 (sSeq RT4 (sSeq RT5 (sSeq RT6 (sSeq RT7 (sSeq RT8 (RT9))))))))) RK := rfl
abbrev eR (k : List PyData) (n : Nat) (L : PyData) (s3 s4 s5 s6 s7 s8 s9 : Sl) : En := [.own true k, .val (.int (n : Int)), .val L, s3, s4, s5, s6, s7, s8, s9]
variable {L d m : PyData} {D : List PyData} {dr at' : Nat} {s3 s4 s5 s6 s7 s8 s9 : Sl}
theorem unw_mk (h : noM d = true) : unw (mkN d) = d := by
  unfold mkN
  by_cases c : noL d = true
  · rw [if_pos c]
    unfold unw
    split
    · cases h
    · rfl
  · rw [if_neg c]
    rfl
theorem nw_mk (d : PyData) : isNw (mkN d) = true ∨ noL (mkN d) = true := by
  unfold mkN
  by_cases c : noL d = true
  · rw [if_pos c]; exact .inr c
  · rw [if_neg c]; exact .inl rfl
theorem rt1 {x : Nat} (h : Ph_law_lift k [.int 2] = some (.int (x : Int), k')) : RT1 (eR k n L s3 s4 s5 s6 s7 s8 s9) = some (.nx, eR k' n L (.val (.int (x : Int))) s4 s5 s6 s7 s8 s9) := by
  unfold RT1
  simp [h]
theorem rt2 {x : Nat} (hg : gLen [.list D] = some (.int (D.length : Int))) (h : Ph_law_lift k [.int ((D.length + 1 : Nat) : Int)] = some (.int (x : Int), k')) : RT2 (eR k n (.list D) s3 s4 s5 s6 s7 s8 s9) = some (.nx, eR k' n (.list D) s3 (.val (.int (x : Int))) s5 s6 s7 s8 s9) := by
  have ga : gAdd (.int (D.length : Int)) (.int 1) = some (.int ((D.length + 1 : Nat) : Int)) := by simp
  generalize PyData.list D = L at *
  unfold RT2
  simp [-gLen, -gAdd, -Int.natCast_add, hg, ga, h]
theorem rt3 (hk : noLs k = true) (h : Ph_law_odd_pair k [.int (n : Int)] = some (d, k')) (hd : noM d = true) : RT3 (eR k n L s3 s4 s5 s6 s7 s8 s9) = some (.nx, eR k' n L s3 s4 (.val (mkN d)) s6 s7 s8 s9) := by
  have e : eMN 0 Ph_law_odd_pair (lCons (eV 1) lNil) (eR k n L s3 s4 s5 s6 s7 s8 s9) = some (d, eR k' n L s3 s4 s5 s6 s7 s8 s9) := by
    have a : (lCons (eV 1) lNil) (eR k n L s3 s4 s5 s6 s7 s8 s9) = some ([.int (n : Int)], eR k n L s3 s4 s5 s6 s7 s8 s9) := rfl
    unfold eMN
    rw [if_pos (show isOwn (eR k n L s3 s4 s5 s6 s7 s8 s9) 0 = true from rfl), a]
    show (if noLs k = true ∧ noLs [PyData.int (n : Int)] = true then _ else none) = _
    rw [if_pos ⟨hk, rfl⟩, h]
    show (if noM d = true then _ else none) = _
    rw [if_pos hd]
    rfl
  unfold RT3 sNw fSetN
  rw [e]
  rfl
theorem evN (hd : noM d = true) : eVN 5 (eR k n L s3 s4 (.val (mkN d)) s6 s7 s8 s9) = some (d, eR k n L s3 s4 (.val (mkN d)) s6 s7 s8 s9) := by
  show some (unw (mkN d), _) = _
  rw [unw_mk hd]
theorem rt4 (hd : noM d = true) (hl : D.length ≤ 100) : RT4 (eR k n (.list D) s3 (.val (.int (at' : Int))) (.val (mkN d)) s6 s7 s8 s9) = some (.nx, eR k n (.list D) s3 (.val (.int (at' : Int))) (.val (mkN d)) (.val (.list (D.take at' ++ [d] ++ D.drop at'))) s7 s8 s9) := by
  have e := evN (k := k) (n := n) (L := .list D) (s3 := s3) (s4 := .val (.int (at' : Int))) (s6 := s6) (s7 := s7) (s8 := s8) (s9 := s9) hd
  have c1 := cutTd (D := D) at'
  have c2 := cutFd (D := D) at'
  have a1 := addDd (X := D.take at') (Y := [d]) (by simp; omega)
  have a2 := addDd (X := D.take at' ++ [d]) (Y := D.drop at') (by simp; omega)
  have hL1 : ∀ (a : PyData) (e : En), kLst ([a], e) = some ([a], e) := fun _ _ => rfl
  generalize PyData.list (D.take at' ++ [d] ++ D.drop at') = X3 at *
  generalize PyData.list (D.take at' ++ [d]) = X2 at *
  generalize PyData.list (D.take at') = X1 at *
  generalize PyData.list (D.drop at') = X4 at *
  generalize PyData.list D = X5 at *
  generalize mkN d = Y at *
  unfold RT4
  simp [-gAdd, -gCut, e, c1, c2, a1, a2, hL1]
theorem rt5_no {x : Nat} (h : Ph_law_lift k [.int 2] = some (.int (x : Int), k')) (hx : x ≠ 0) : RT5 (eR k n L s3 s4 s5 s6 s7 s8 s9) = some (.nx, eR k' n L s3 s4 s5 s6 s7 s8 s9) := by
  unfold RT5
  simp [h, hx]
theorem rt5_yes {z : PyData} {y : Nat} {k2 k3 : List PyData} (h : Ph_law_lift k [.int 2] = some (.int 0, k')) (hg : gLen [.list D] = some (.int (D.length : Int))) (hat : at' < D.length) (h2 : Ph_law_lift k' [.int ((D.length - at' : Nat) : Int)] = some (.int (y : Int), k2)) (h3 : Ph_law_odd_pair k2 [.int (n : Int)] = some (z, k3)) (hl : D.length ≤ 100) :
    RT5 (eR k n L s3 (.val (.int (at' : Int))) s5 (.val (.list D)) s7 s8 s9) = some (.nx, eR k3 n L s3 (.val (.int (at' : Int))) s5 (.val (.list (D.take (at' + 1 + y) ++ [z] ++ D.drop (at' + 1 + y)))) (.val (.int ((at' + 1 + y : Nat) : Int))) s8 s9) := by
  have c1 := cutTd (D := D) (at' + 1 + y)
  have c2 := cutFd (D := D) (at' + 1 + y)
  have a1 := addDd (X := D.take (at' + 1 + y)) (Y := [z]) (by simp; omega)
  have a2 := addDd (X := D.take (at' + 1 + y) ++ [z]) (Y := D.drop (at' + 1 + y)) (by simp; omega)
  have hL1 : ∀ (a : PyData) (e : En), kLst ([a], e) = some ([a], e) := fun _ _ => rfl
  have g1 : gSub (.int (D.length : Int)) (.int (at' : Int)) = some (.int ((D.length - at' : Nat) : Int)) := by simp; omega
  have g2 : gAdd (.int (at' : Int)) (.int 1) = some (.int ((at' + 1 : Nat) : Int)) := by simp
  have g3 : gAdd (.int ((at' + 1 : Nat) : Int)) (.int (y : Int)) = some (.int ((at' + 1 + y : Nat) : Int)) := by simp
  have q0 : gEq (.int 0) (.int 0) = some (.bool true) := by simp
  generalize PyData.list (D.take (at' + 1 + y) ++ [z] ++ D.drop (at' + 1 + y)) = X3 at *
  generalize PyData.list (D.take (at' + 1 + y) ++ [z]) = X2 at *
  generalize PyData.list (D.take (at' + 1 + y)) = X1 at *
  generalize PyData.list (D.drop (at' + 1 + y)) = X4 at *
  generalize PyData.int ((D.length - at' : Nat) : Int) = N1 at *
  generalize PyData.int ((at' + 1 : Nat) : Int) = N2 at *
  generalize ((at' + 1 + y : Nat) : Int) = N3 at *
  generalize PyData.int ((D.length : Nat) : Int) = N4 at *
  generalize PyData.list D = X5 at *
  unfold RT5
  simp [-gAdd, -Dn.gSub, -gLen, -gCut, h, hg, h2, h3, c1, c2, a1, a2, hL1, g1, g2, g3]
theorem rt6 (hd : noM d = true) (hr : repOk d = true) {B : PyData} (h : Ph_law_refused [.int (dr : Int), .int (n : Int), B, .bool false, .str d.shown] = some (.bool true)) : RT6 (eR k n L (.val (.int (dr : Int))) s4 (.val (mkN d)) (.val B) s7 s8 s9) = some (.nx, eR k n L (.val (.int (dr : Int))) s4 (.val (mkN d)) (.val B) s7 s8 s9) := by
  have e := evN (k := k) (n := n) (L := L) (s3 := .val (.int (dr : Int))) (s4 := s4) (s6 := .val B) (s7 := s7) (s8 := s8) (s9 := s9) hd
  have gr : gRep [d] = some (.str d.shown) := by simp [hr]
  generalize mkN d = Y at *
  generalize d.shown = S at *
  unfold RT6
  simp [-gRep, e, gr, h]
theorem rt8 {m : Int} {B : PyData} (hr : repOk (.int m) = true) (h1 : Ph_law_refused [.int (dr : Int), .int m, B, .bool true, .str (PyData.int m).shown] = some (.bool true)) (h2 : Ph_law_refused [.int (dr : Int), .int m, L, .bool true, .str (PyData.int m).shown] = some (.bool true)) :
    RT8 (eR k n L (.val (.int (dr : Int))) s4 s5 (.val B) s7 (.val (.int m)) s9) = some (.nx, eR k n L (.val (.int (dr : Int))) s4 s5 (.val B) s7 (.val (.int m)) (.val L)) := by
  have gr : gRep [.int m] = some (.str (PyData.int m).shown) := by simp [hr]
  have hL2 : ∀ (a b : PyData) (e : En), kLst ([a, b], e) = some ([a, b], e) := fun _ _ _ => rfl
  generalize (PyData.int m).shown = S at *
  have st : ∀ (X : PyData), Ph_law_refused [.int (dr : Int), .int m, X, .bool true, .str S] = some (.bool true) → lp_law_refusals_right_1 (eR k n L (.val (.int (dr : Int))) s4 s5 (.val B) s7 (.val (.int m)) (.val X)) = some (.nx, eR k n L (.val (.int (dr : Int))) s4 s5 (.val B) s7 (.val (.int m)) (.val X)) := fun X hX => by
    unfold lp_law_refusals_right_1
    simp [-gRep, gr, hX]
  have f : forL (g1 9) lp_law_refusals_right_1 [B, L] (eR k n L (.val (.int (dr : Int))) s4 s5 (.val B) s7 (.val (.int m)) s9) = some (.nx, eR k n L (.val (.int (dr : Int))) s4 s5 (.val B) s7 (.val (.int m)) (.val L)) := by
    rw [for_cons]
    show (lp_law_refusals_right_1 (eR k n L (.val (.int (dr : Int))) s4 s5 (.val B) s7 (.val (.int m)) (.val B))).bind _ = _
    rw [st B h1]
    show forL (g1 9) lp_law_refusals_right_1 [L] _ = _
    rw [for_cons]
    show (lp_law_refusals_right_1 (eR k n L (.val (.int (dr : Int))) s4 s5 (.val B) s7 (.val (.int m)) (.val L))).bind _ = _
    rw [st L h2]
    rfl
  unfold RT8
  simp [hL2, f]
theorem rt9 {m : Int} (hr : repOk (.int m) = true) (h1 : Ph_law_refused [.int (1 - (dr : Int)), .int m, .list [], .bool true, .str (PyData.int m).shown] = some (.bool true)) :
    RT9 (eR k n L (.val (.int (dr : Int))) s4 s5 s6 s7 (.val (.int m)) s9) = some (.nx, eR k n L (.val (.int (dr : Int))) s4 s5 s6 s7 (.val (.int m)) s9) := by
  have gr : gRep [.int m] = some (.str (PyData.int m).shown) := by simp [hr]
  have hL0 : ∀ (e : En), kLst ([], e) = some ([], e) := fun _ => rfl
  generalize (PyData.int m).shown = S at *
  unfold RT9
  simp [-gRep, gr, hL0, h1]
theorem rt7 {a b m : Int} {x : Nat} {k1 k2 k3 : List PyData} {A B : Int} (pa : gPow (.int 10) (.int 20) = some (.int A)) (pb : gPow (.int 10) (.int 50) = some (.int B)) (h1 : Ph_law_lift k [.int A] = some (.int a, k1)) (h2 : Ph_law_lift k1 [.int B] = some (.int b, k2)) (h3 : Ph_law_lift k2 [.int 4] = some (.int (x : Int), k3))
    (hi : gIx (.list [.int 0, .int 9, .int (-1 - a), .int (9 + b)]) (.int (x : Int)) = some (.int m)) : RT7 (eR k n L s3 s4 s5 s6 s7 s8 s9) = some (.nx, eR k3 n L s3 s4 s5 s6 s7 (.val (.int m)) s9) := by
  have hL4 : ∀ (a b c d : PyData) (e : En), kLst ([a, b, c, d], e) = some ([a, b, c, d], e) := fun _ _ _ _ _ => rfl
  have g3 : gAdd (.int 9) (.int b) = some (.int (9 + b)) := by simp
  have g2 : gSub (.int (-1)) (.int a) = some (.int (-1 - a)) := by simp
  unfold RT7
  simp [-gPow, -gIx, pa, pb, h1, h2, h3, hL4, hi]
theorem rk {s9 : Sl} (hd : noM d = true) (ht : topOk d = true) (hr : repOk d = true) (h : Phe_law_error [.int (dr : Int), .int (n : Int), .list [d]] = some (("InvalidDeed" : Str), d)) : RK (eR k n L (.val (.int (dr : Int))) s4 (.val (mkN d)) s6 s7 s8 s9) = some (eR k n L (.val (.int (dr : Int))) s4 (.val (mkN d)) s6 s7 s8 s9) := by
  have e := evN (k := k) (n := n) (L := L) (s3 := .val (.int (dr : Int))) (s4 := s4) (s6 := s6) (s7 := s7) (s8 := s8) (s9 := s9) hd
  have hL1 : ∀ (a : PyData) (e : En), kLst ([a], e) = some ([a], e) := fun _ _ => rfl
  have args : (lCons (eV 3) (lCons (eV 1) (lCons (eF (lLst (lCons (eVN 5) (lNil)))) (lNil)))) (eR k n L (.val (.int (dr : Int))) s4 (.val (mkN d)) s6 s7 s8 s9) = some ([.int (dr : Int), .int (n : Int), .list [d]], eR k n L (.val (.int (dr : Int))) s4 (.val (mkN d)) s6 s7 s8 s9) := by
    generalize mkN d = Y at *
    simp [e, hL1]
  have nw := nw_mk d
  have un := unw_mk hd
  unfold RK fKeptN
  show (if (isNw (mkN d) = true ∨ noL (mkN d) = true) ∧ topOk (unw (mkN d)) = true then _ else none) = _
  rw [if_pos ⟨nw, by rw [un]; exact ht⟩, args]
  show (Phe_law_error [.int (dr : Int), .int (n : Int), .list [d]]).bind _ = _
  rw [h]
  show (if ("InvalidDeed" : Str) ∈ [("InvalidDeed" : Str), "InvalidNumber", "Unlike"] ∧ repOk d = true then _ else none) = _
  rw [if_pos ⟨by decide, hr⟩]
end K11
set_option Elab.async false
set_option linter.all false
set_option maxRecDepth 100000
set_option maxHeartbeats 8000000
namespace K11
open PySem PySem.Spec PyProof.Rows L2 Dn
variable {n : Nat} {ks : List PyData}
theorem v_law_refusals_right {M : Nat} {ps : List (Nat × Nat)} (h1 : 1 ≤ n) (h8 : n ≤ 8) (hp : PrOk n ps) (hl : ps.length ≤ 60) (hk : KegOk (M + 20) ks) :
    ∃ ks', Ph_law_refusals_right ks [.int (n : Int), .list (ps.map encPr)] = some (.bool true, ks') ∧ KegOk M ks' := by
  obtain ⟨x, k1, e1, b1, u1⟩ := v_lift (M := M + 19) (m := 2) hk (by decide) (by decide)
  obtain ⟨a, k2, e2, b2, u2⟩ := v_lift (M := M + 18) (m := ps.length + 1) u1 (by omega) (Nat.lt_of_le_of_lt (show ps.length + 1 ≤ 61 by omega) (by decide))
  obtain ⟨d, k3, e3, od, u3⟩ := v_law_odd_pair (n := n) (M := M + 16) h1 h8 u2
  obtain ⟨c, k4, e4, b4, u4⟩ := v_lift (M := M + 15) (m := 2) u3 (by decide) (by decide)
  have dl : (ps.map encPr).length = ps.length := List.length_map _
  obtain ⟨D, hD⟩ : ∃ D, D = ps.map encPr := ⟨_, rfl⟩
  have dl' : D.length = ps.length := by rw [hD, dl]
  obtain ⟨Bd, hB⟩ : ∃ Bd, Bd = D.take a ++ [d] ++ D.drop a := ⟨_, rfl⟩
  have bl : Bd.length = ps.length + 1 := by
    rw [hB]
    simp [dl']
    omega
  have bad : BadL n d Bd a := by
    refine ⟨⟨ps.take a, D.drop a, ?_, prOk_take hp a, by rw [List.length_take]; omega⟩, by omega⟩
    rw [hB, hD, List.map_take]
    simp
  have hg : gLen [.list D] = some (.int (D.length : Int)) := by simp
  have hgB : gLen [.list Bd] = some (.int (Bd.length : Int)) := by simp
  have e1' : Ph_law_lift ks [.int 2] = some (.int (x : Int), k1) := e1
  have e4' : Ph_law_lift k3 [.int 2] = some (.int (c : Int), k4) := e4
  have e2' : Ph_law_lift k1 [.int ((D.length + 1 : Nat) : Int)] = some (.int (a : Int), k2) := by rw [dl']; exact e2
  -- the fifth statement
  have five : ∃ (Bl : List PyData) (k5 : List PyData) (s7 : Sl), RT5 (eR k3 n (.list D) (.val (.int (x : Int))) (.val (.int (a : Int))) (.val (mkN d)) (.val (.list Bd)) .no .no .no) = some (.nx, eR k5 n (.list D) (.val (.int (x : Int))) (.val (.int (a : Int))) (.val (mkN d)) (.val (.list Bl)) s7 .no .no) ∧ BadL n d Bl a ∧ KegOk (M + 10) k5 := by
    by_cases c0 : c = 0
    · subst c0
      obtain ⟨y, k5, e5, b5, u5⟩ := v_lift (M := M + 14) (m := Bd.length - a) u4 (by omega) (Nat.lt_of_le_of_lt (show Bd.length - a ≤ 61 by omega) (by decide))
      obtain ⟨z, k6, e6, oz, u6⟩ := v_law_odd_pair (n := n) (M := M + 12) h1 h8 u5
      exact ⟨_, k6, _, rt5_yes (at' := a) (y := y) e4' hgB (by omega) e5 e6 (by omega), bad.ins (by omega) (by omega), u6.mono (by omega)⟩
    · exact ⟨Bd, k4, .no, rt5_no e4' c0, bad, u4.mono (by omega)⟩
  obtain ⟨Bl, k5, s7, q5, bad2, u5⟩ := five
  have xp := bad2.x h1 h8 od
  have xa := x_asked xp (k := x) b1
  have r6 := v_refused_deed xa od.rep
  obtain ⟨A, hA⟩ : ∃ A : Int, A = 100000000000000000000 ∧ gPow (.int 10) (.int 20) = some (.int A) := by
    have : powOk 10 20 = true := by decide +kernel
    exact ⟨_, rfl, by simp [gPow, this]⟩
  obtain ⟨B, hBB⟩ : ∃ B : Int, B = 100000000000000000000000000000000000000000000000000 ∧ gPow (.int 10) (.int 50) = some (.int B) := by
    have : powOk 10 50 = true := by decide +kernel
    exact ⟨_, rfl, by simp [gPow, this]⟩
  have A100 : A.natAbs < 2 ^ 100 := by rw [hA.1]; decide
  have B200 : B.natAbs < 2 ^ 200 := by rw [hBB.1]; decide
  have P3 : (2 : Nat) ^ 100 ≤ 2 ^ 300 := Nat.pow_le_pow_right (by decide) (by decide)
  have P4 : (2 : Nat) ^ 200 ≤ 2 ^ 300 := Nat.pow_le_pow_right (by decide) (by decide)
  obtain ⟨ra, k6, e6, a0, a1, u6⟩ := v_liftI (n := M + 9) (m := A) u5 (by rw [hA.1]; decide) (Nat.lt_of_lt_of_le A100 P3)
  obtain ⟨rb, k7, e7, b0, b1', u7⟩ := v_liftI (n := M + 8) (m := B) u6 (by rw [hBB.1]; decide) (Nat.lt_of_lt_of_le B200 P4)
  obtain ⟨w, k8, e8, w4, u8⟩ := v_lift (M := M + 7) (m := 4) u7 (by decide) (by decide)
  have ra2 : ra.natAbs < 2 ^ 100 := by
    generalize (2 : Nat) ^ 100 = P at *
    omega
  have rb2 : rb.natAbs < 2 ^ 200 := by
    generalize (2 : Nat) ^ 200 = P at *
    omega
  obtain ⟨m, mi, mo, ms⟩ := num_ix a0 b0 ra2 rb2 w4
  have rm : repOk (.int m) = true := rep_int ms
  have num : ∀ (L : PyData) {k : Nat}, k < 2 → Ph_law_refused [.int (k : Int), .int m, L, .bool true, .str (PyData.int m).shown] = some (.bool true) := fun L k hk => v_refused_num (x_asked (x_pairs_no (L := L) mo) hk) rm
  have e8' : Ph_law_lift k7 [.int 4] = some (.int (w : Int), k8) := e8
  -- the error that is kept
  have xo : Phx_need_pairs [.int (n : Int), .list [d]] = some (.ex "InvalidDeed" d) := x_pairs_odd (ps := []) (r := []) h1 h8 (fun _ h => by cases h) od (by decide)
  have ee := e_error (x_asked xo (k := x) b1) (.inl rfl)
  have n0 : Ph_law_refused [.int (1 - (x : Int)), .int m, .list [], .bool true, .str (PyData.int m).shown] = some (.bool true) := by
    have := num (.list []) (k := 1 - x) (by omega)
    have e : ((1 - x : Nat) : Int) = 1 - (x : Int) := by omega
    rw [e] at this
    exact this
  have dm := od.noM
  have q1 := rt1 (k := ks) (n := n) (L := .list D) (s3 := .no) (s4 := .no) (s5 := .no) (s6 := .no) (s7 := .no) (s8 := .no) (s9 := .no) e1'
  have q2 := rt2 (k := k1) (n := n) (s3 := .val (.int (x : Int))) (s4 := .no) (s5 := .no) (s6 := .no) (s7 := .no) (s8 := .no) (s9 := .no) hg e2'
  have q3 := rt3 (L := .list D) (s3 := .val (.int (x : Int))) (s4 := .val (.int (a : Int))) (s5 := .no) (s6 := .no) (s7 := .no) (s8 := .no) (s9 := .no) (noMs_keg u2).2 e3 dm
  have q4 := rt4 (k := k3) (n := n) (D := D) (at' := a) (s3 := .val (.int (x : Int))) (s6 := .no) (s7 := .no) (s8 := .no) (s9 := .no) dm (by omega)
  rw [← hB] at q4
  have q6 := rt6 (k := k5) (n := n) (L := .list D) (dr := x) (s4 := .val (.int (a : Int))) (s7 := s7) (s8 := .no) (s9 := .no) dm od.rep r6
  have q7 := rt7 (k := k5) (n := n) (L := .list D) (s3 := .val (.int (x : Int))) (s4 := .val (.int (a : Int))) (s5 := .val (mkN d)) (s6 := .val (.list Bl)) (s7 := s7) (s8 := .no) (s9 := .no) hA.2 hBB.2 e6 e7 e8' mi
  have q8 := rt8 (k := k8) (n := n) (L := .list D) (dr := x) (s4 := .val (.int (a : Int))) (s5 := .val (mkN d)) (s7 := s7) (s9 := .no) rm (num (.list Bl) b1) (num (.list D) b1)
  have q9 := rt9 (k := k8) (n := n) (L := .list D) (dr := x) (s4 := .val (.int (a : Int))) (s5 := .val (mkN d)) (s6 := .val (.list Bl)) (s7 := s7) (s9 := .val (.list D)) rm n0
  have qk := rk (k := k8) (n := n) (L := .list D) (dr := x) (s4 := .val (.int (a : Int))) (s6 := .val (.list Bl)) (s7 := s7) (s8 := .val (.int m)) (s9 := .val (.list D)) dm od.top od.rep ee
  refine ⟨k8, ?_, u8.mono (by omega)⟩
  have nk := (noMs_keg hk).1
  have nk8 := (noMs_keg u8)
  have pre : (sSeq RT1 (sSeq RT2 (sSeq RT3 (sSeq RT4 (sSeq RT5 (sSeq RT6 (sSeq RT7 (sSeq RT8 RT9)))))))) (eR ks n (.list D) .no .no .no .no .no .no .no) = some (.nx, eR k8 n (.list D) (.val (.int (x : Int))) (.val (.int (a : Int))) (.val (mkN d)) (.val (.list Bl)) s7 (.val (.int m)) (.val (.list D))) := by
    rw [seqn q1, seqn q2, seqn q3, seqn q4, seqn q5, seqn q6, seqn q7, seqn q8]
    exact q9
  have nD : noMs [.int (n : Int), .list D] = true := by
    rw [hD]
    simp only [noMs, Dn.noM, noMs_prs, Bool.and_self]
  have run : Ph0_law_refusals_right ks [.int (n : Int), .list D] = some (.bool true, k8) := by
    unfold Ph0_law_refusals_right
    rw [runM3]
    show endM (dn_law_refusals_right (eR ks n (.list D) .no .no .no .no .no .no .no)) = _
    rw [RT_cut]
    unfold sScopeN
    rw [pre]
    show endM ((RK _).map _) = _
    rw [qk]
    have sh : shl1 (.own true k8) = .own true k8 := by
      unfold shl1
      dsimp only
      rw [if_pos nk8.2]
    show endM (some (.rt (.bool true), shlE (eR k8 n (.list D) _ _ _ _ _ _ _))) = _
    unfold shlE eR
    rw [List.map_cons, sh]
    rfl
  unfold Ph_law_refusals_right gNm
  rw [← hD, if_pos ⟨nk, nD⟩, run]
  show (if Dn.noM (.bool true) = true ∧ noMs k8 = true then _ else none) = _
  rw [if_pos ⟨rfl, nk8.1⟩]
end K11
set_option Elab.async false
set_option linter.all false
set_option maxRecDepth 100000
set_option maxHeartbeats 8000000
namespace K11
open PySem PySem.Spec PyProof.Rows L2 Dn
variable {n : Nat} {ks : List PyData}
theorem same_bool (b : Bool) : Ph_law_same [.bool b, .bool b] = some (.bool true) := by
  have r : repOk (.bool b) = true := (show Dn.Rd 0 1 (.bool b) from trivial).rep (by decide) (by decide)
  have s : SeqAt.shaped (.bool b) = true := by cases b <;> rfl
  have g : gEq (.bool b) (.bool b) = some (.bool true) := by
    rw [gEq_gen _ _ s s]
    cases b <;> rfl
  unfold Ph_law_same
  rw [run2]
  unfold dn_law_same
  simp [-gEq, g, r]
/-- all that is told of a list of pairs -/
structure Told (n : Nat) (P T R X : PyData) (b : Bool) : Prop where
  tab : Ph_law_table [.int (n : Int), P] = some T
  row : gIx T (.int 0) = some R
  mul : gMulT (.tuple [R]) (.int (n : Int)) = some X
  eq : gEq T X = some (.bool b)
  lev : Ph_levelled [.int (n : Int), P] = some T
  isl : Ph_is_level [.int (n : Int), P] = some (.bool b)
  same : Ph_law_same [T, T] = some (.bool true)
theorem told_of {ps : List (Nat × Nat)} (h1 : 1 ≤ n) (h8 : n ≤ 8) (hp : PrOk n ps) (hl : ps.length ≤ 100) : ∃ T R X, Told n (.list (ps.map encPr)) T R X (levB n (foldR ps (r0 ((2 ^ ps.length : Nat) : Int)))) := by
  have pp := Nat.two_pow_pos ps.length
  have p1 : (2 ^ ps.length : Nat) < 2 ^ 1920 := Nat.lt_of_le_of_lt (Nat.pow_le_pow_right (by decide) hl) (Nat.pow_lt_pow_right (by decide) (by decide))
  have a := v_law_table h8 (by omega) hp
  have b := v_levelled h1 h8 (by omega) hp
  have c := v_is_level h1 h8 (by omega) hp
  have W0 : (0 : Int) < ((2 ^ ps.length : Nat) : Int) := by omega
  have s := same_tab (n := n) (W := ((2 ^ ps.length : Nat) : Int)) (G := foldR ps (r0 ((2 ^ ps.length : Nat) : Int))) h8 W0 p1 (fold_bd (r0_bd (by omega)))
  have g := tab_level (n := n) (G := foldR ps (r0 ((2 ^ ps.length : Nat) : Int))) W0
  have r : gIx (tabP n ((2 ^ ps.length : Nat) : Int) (foldR ps (r0 ((2 ^ ps.length : Nat) : Int)))) (.int 0) = some (rowT n ((2 ^ ps.length : Nat) : Int) (foldR ps (r0 ((2 ^ ps.length : Nat) : Int))) 0) := by
    rw [tab_row]
    exact atI_map (i := 0) (by omega)
  refine ⟨_, _, _, a, r, ?_, g, b, c, s⟩
  rw [gMulT_n h1 (by omega) (by show 1 ≤ 1; decide) (by show 1 ≤ 1000; decide)]
  congr 2
  have := reps_rep (x := rowT n ((2 ^ ps.length : Nat) : Int) (foldR ps (r0 ((2 ^ ps.length : Nat) : Int))) 0) n
  unfold reps at this
  rw [Int.toNat_natCast] at this
  exact this
theorem addPP {ps qs : List (Nat × Nat)} (h : ps.length + qs.length ≤ 1000) : gAdd (.list (ps.map encPr)) (.list (qs.map encPr)) = some (.list ((ps ++ qs).map encPr)) := add_P h
theorem v_law_long_right {M : Nat} {ps : List (Nat × Nat)} (h2 : 2 ≤ n) (h8 : n ≤ 8) (hp : PrOk n ps) (hl : ps.length ≤ 40) (hk : KegOk (M + 130) ks) :
    ∃ ks', Ph_law_long_right ks [.int (n : Int), .list (ps.map encPr)] = some (.bool true, ks') ∧ KegOk M ks' := by
  obtain ⟨x, k1, e1, b1, u1⟩ := v_lift (M := M + 129) (m := 20) hk (by decide) (by decide)
  obtain ⟨t, ht⟩ : ∃ t, t = 41 + x - ps.length := ⟨_, rfl⟩
  obtain ⟨L, hL⟩ : ∃ L, L = PyData.list (ps.map encPr) := ⟨_, rfl⟩
  have hg : gLen [L] = some (.int (ps.length : Int)) := by rw [hL]; simp
  have hc := comp_kegI (tg := Dn.g1 7) (t := tYs) (a := ce_law_long_right_1) (vs := [7]) (S := fun ks => [.own true ks, .val (.int (n : Int)), .val L, .no, .no, .no, .no, .no]) (E := fun (j : Nat) => .int (j : Int)) (R := fun j d => ∃ p : Nat × Nat, d = encPr p ∧ p.1 < n ∧ p.2 < n ∧ p.1 ≠ p.2) (c := 2) (xs := List.range t) (n := M + 1) (ks := k1) (by rw [List.length_range]; exact u1.mono (by omega)) fun N ks hk j hj => by
    obtain ⟨p, k', ee, g1, uu⟩ := v_law_pairN (n := n) (M := N) h2 h8 hk
    refine ⟨encPr p, k', [.own true ks, .val (.int (n : Int)), .val L, .no, .no, .no, .no, .val (.int (j : Int))], [.own true ks, .val (.int (n : Int)), .val L, .no, .no, .no, .no, .val (.int (j : Int))], [.own true k', .val (.int (n : Int)), .val L, .no, .no, .no, .no, .val (.int (j : Int))], ⟨p, rfl, g1⟩, uu, rfl, rfl, ?_, rfl⟩
    generalize encPr p = X at *
    simp [ce_law_long_right_1, ee]
  obtain ⟨es, k2, r1, r2, r3, r4⟩ := hc
  rw [List.length_range] at r3
  obtain ⟨g, rfl, hgp⟩ := list_ofI (E := encPr) (P := fun _ p => p.1 < n ∧ p.2 < n ∧ p.1 ≠ p.2) r3 fun i hi => r4 i i (range_at hi)
  obtain ⟨qs, hq⟩ : ∃ qs, qs = (List.range t).map g := ⟨_, rfl⟩
  have eq : (List.range t).map (fun j => encPr (g j)) = qs.map encPr := by rw [hq, List.map_map]; rfl
  have qok : PrOk n qs := fun p hp => by
    rw [hq] at hp
    obtain ⟨i, hi, rfl⟩ := List.mem_map.mp hp
    exact hgp i (List.mem_range.mp hi)
  have ql : qs.length = t := by rw [hq]; simp
  rw [eq] at r1
  have hkc := kCm_ok (tg := Dn.g1 7) (t := tYs) (a := ce_law_long_right_1) (vs := [7]) (e := [.own true k1, .val (.int (n : Int)), .val L, .no, .no, .no, .no, .no]) (ds := (List.range t).map fun (j : Nat) => .int (j : Int)) (by simp; omega) rfl rfl r1
  have hr := fun e => @kR1_len t e (by omega)
  obtain ⟨y, k3, e3, b3, u3⟩ := v_lift (M := M) (m := 2) r2 (by decide) (by decide)
  have e1' : Ph_law_lift ks [.int 20] = some (.int (x : Int), k1) := e1
  have e3' : Ph_law_lift k2 [.int 2] = some (.int (y : Int), k3) := e3
  have a1 := addPP (ps := qs) (qs := ps) (by omega)
  have a2 := addPP (ps := ps) (qs := qs) (by omega)
  have gs : gSub (.int (41 + (x : Int))) (.int (ps.length : Int)) = some (.int (t : Int)) := by simp; omega
  have ga : gAdd (.int 41) (.int (x : Int)) = some (.int (41 + (x : Int))) := by simp
  -- the chosen list
  obtain ⟨rs, rok, rl, hix⟩ : ∃ rs, PrOk n rs ∧ rs.length ≤ 100 ∧ gIx (.list [.list ((qs ++ ps).map encPr), .list ((ps ++ qs).map encPr)]) (.int (y : Int)) = some (.list (rs.map encPr)) := by
    rcases (show y = 0 ∨ y = 1 by omega) with rfl | rfl
    · exact ⟨qs ++ ps, prOk_app qok hp, by simp; omega, rfl⟩
    · exact ⟨ps ++ qs, prOk_app hp qok, by simp; omega, rfl⟩
  obtain ⟨T, R, X, td⟩ := told_of (by omega) h8 rok rl
  obtain ⟨c1, c2, c3, c4, c5, c6, c7⟩ := td
  have c8 := same_bool (levB n (foldR rs (r0 ((2 ^ rs.length : Nat) : Int))))
  refine ⟨k3, ?_, u3⟩
  have hL2 : ∀ (a b : PyData) (e : En), kLst ([a, b], e) = some ([a, b], e) := fun _ _ _ => rfl
  rw [← hL]
  rw [← hL] at a1 a2
  generalize PyData.list ((qs ++ ps).map encPr) = L1 at *
  generalize PyData.list ((ps ++ qs).map encPr) = L2 at *
  generalize PyData.list (rs.map encPr) = L3 at *
  generalize levB n (foldR rs (r0 ((2 ^ rs.length : Nat) : Int))) = b at *
  generalize (List.range t).map (fun (j : Nat) => PyData.int (j : Int)) = RR at *
  generalize qs.map encPr = QQ at *
  generalize hN : (41 + (x : Int)) = N1 at *
  generalize ((ps.length : Nat) : Int) = N2 at *
  unfold Ph_law_long_right
  rw [runM3]
  unfold dn_law_long_right
  simp [-gLen, -gAdd, -Dn.gSub, -gIx, -gEq, hg, e1', ga, gs, hr, hkc, hL2, a1, a2, e3', hix, c1, c2, c3, c4, c5, c6, c7, c8]
end K11
set_option Elab.async false
set_option linter.all false
set_option maxRecDepth 100000
set_option maxHeartbeats 8000000
namespace K11
open PySem PySem.Spec PyProof.Rows L2 Dn
variable {n : Nat} {ks k k' : List PyData} {Z : PyData}
noncomputable def LW1 : Fs := sOwn (lA Ph_law_well (lCons (eA Ph_law_cell (lCons (eV 0) (lCons (eC (.int 0)) (lNil)))) (lCons (eC (.int 0)) (lNil)))) 1
noncomputable def LW2 : Fs := sSet (Dn.e2 gIx (eF (lLst (lCons (eC (.int 1)) (lCons (eC (.int 2)) (lCons (eC (.int 3)) (lCons (eC (.int 4)) (lCons (eC (.int 5)) (lCons (eC (.int 6)) (lCons (eC (.int 7)) (lCons (eC (.int 8)) (lCons (eC (.int 2)) (lCons (eC (.int 4)) (lCons (eC (.int 8)) (lCons (eC (.int 4)) (lNil))))))))))))))) (eM 1 Ph_law_lift (lCons (eC (.int 12)) (lNil)))) (g1 2)
noncomputable def LW3 : Fs := sSet (eO 1 (eV 0) Ph_law_pairs (lCons (eV 2) (lNil))) (g1 3)
noncomputable def LW4 : Fs := sSet (eA Ph_law_table (lCons (eV 2) (lCons (eV 3) (lNil)))) (g1 4)
noncomputable def LW5 : Fs := sSet (Dn.e2 gEq (eV 4) (Dn.e2 gMulT (eTup (lCons (Dn.e2 gIx (eV 4) (eC (.int 0))) (lNil))) (eV 2))) (g1 5)
noncomputable def LW6 : Fs := sOwn (lOf (lCons (eV 3) (lNil))) 6
noncomputable def LW7 : Fs := sIf (tOrr (tNo (tSide (tTr (eA Ph_law_same (lCons (eA Ph_levelled (lCons (eV 2) (lCons (eV 6) (lNil)))) (lCons (eV 4) (lNil))))))) (tNo (tSide (tTr (eA Ph_law_same (lCons (eA Ph_is_level (lCons (eV 2) (lCons (eV 6) (lNil)))) (lCons (eV 5) (lNil)))))))) (sRt (eC (.bool false))) (sNx)
noncomputable def LW8 : Fs := sIf (tOrr (tSide (tB' (Dn.e2 gNe (eV 6) (eV 3)))) (tNo (tTr (eM 1 Ph_law_refusals_right (lCons (eV 2) (lCons (eV 3) (lNil))))))) (sRt (eC (.bool false))) (sNx)
noncomputable def LW9 : Fs := sApp 6 (eTup (lCons (eC (.int 0)) (lCons (eC (.int 0)) (lNil))))
noncomputable def LW10 : Fs := sSet (eM 1 Ph_law_pair (lCons (eC (.int 8)) (lNil))) (g1 7)
noncomputable def LW11 : Fs := sIf (tOrr (tNo (tTr (eA Ph_law_same (lCons (eA Ph_levelled (lCons (eC (.int 8)) (lCons (eF (lLst (lCons (eV 7) (lNil)))) (lNil)))) (lCons (eA Ph_law_table (lCons (eC (.int 8)) (lCons (eF (lLst (lCons (eV 7) (lNil)))) (lNil)))) (lNil)))))) (tNo (tTr (eA Ph_law_same (lCons (eA Ph_is_level (lCons (eC (.int 8)) (lCons (eF (lLst (lCons (eV 7) (lNil)))) (lNil)))) (lCons (eC (.bool false)) (lNil))))))) (sRt (eC (.bool false))) (sNx)
noncomputable def LW12 : Fs := sIf (tOrr (tNo (tTr (eA Ph_law_same (lCons (eA Ph_levelled (lCons (eV 2) (lCons (eV 3) (lNil)))) (lCons (eV 4) (lNil)))))) (tNo (tTr (eA Ph_law_same (lCons (eA Ph_is_level (lCons (eV 2) (lCons (eV 3) (lNil)))) (lCons (eV 5) (lNil))))))) (sRt (eC (.bool false))) (sNx)
noncomputable def LW13 : Fs := sRt (eOr (Dn.e2 gEq (eV 2) (eC (.int 1))) (eOr (Dn.e2 gNe (eM 1 Ph_law_lift (lCons (eC (.int 8)) (lNil))) (eC (.int 3))) (eM 1 Ph_law_long_right (lCons (eV 2) (lCons (eV 3) (lNil))))))
theorem LW_cut : dn_law = sSeq LW1 (sSeq LW2 (sSeq LW3 (sSeq LW4 (sSeq LW5 (sSeq LW6 (sSeq LW7 (sSeq LW8 (sSeq LW9 (sSeq LW10 (sSeq LW11 (sSeq LW12 (LW13)))))))))))) := rfl
theorem many_ix {x : Nat} (h : x < 12) : ∃ v : Nat, gIx (.list [.int 1, .int 2, .int 3, .int 4, .int 5, .int 6, .int 7, .int 8, .int 2, .int 4, .int 8, .int 4]) (.int (x : Int)) = some (.int (v : Int)) ∧ 1 ≤ v ∧ v ≤ 8 := by
  rcases (show x = 0 ∨ x = 1 ∨ x = 2 ∨ x = 3 ∨ x = 4 ∨ x = 5 ∨ x = 6 ∨ x = 7 ∨ x = 8 ∨ x = 9 ∨ x = 10 ∨ x = 11 by omega) with rfl | rfl | rfl | rfl | rfl | rfl | rfl | rfl | rfl | rfl | rfl | rfl
  · exact ⟨1, rfl, by decide, by decide⟩
  · exact ⟨2, rfl, by decide, by decide⟩
  · exact ⟨3, rfl, by decide, by decide⟩
  · exact ⟨4, rfl, by decide, by decide⟩
  · exact ⟨5, rfl, by decide, by decide⟩
  · exact ⟨6, rfl, by decide, by decide⟩
  · exact ⟨7, rfl, by decide, by decide⟩
  · exact ⟨8, rfl, by decide, by decide⟩
  · exact ⟨2, rfl, by decide, by decide⟩
  · exact ⟨4, rfl, by decide, by decide⟩
  · exact ⟨8, rfl, by decide, by decide⟩
  · exact ⟨4, rfl, by decide, by decide⟩
theorem kLst_any {ds : List PyData} {e : En} (h : ds.length ≤ 1000) : kLst (ds, e) = some (ds, e) := by
  show (if okN ds.length then _ else _) = _
  rw [okN_of (by omega)]
  rfl
theorem cell_0 {ns : List Int} (hb : ∀ z ∈ ns, Builtin.Int.intBits z ≤ 1048576) : ∃ z : Int, Ph_law_cell [.list (ns.map .int), .int 0] = some (.int z) ∧ z.natAbs.log2 ≤ 1048576 := by
  have hlen : gLen [.list (ns.map .int)] = some (.int (ns.length : Int)) := by simp
  cases ns with
  | nil =>
    refine ⟨0, ?_, by decide⟩
    unfold Ph_law_cell
    rw [run2]
    unfold dn_law_cell
    simp
  | cons z ns =>
    refine ⟨z, ?_, log_bits (hb z List.mem_cons_self)⟩
    have ix : gIx (.list ((z :: ns).map .int)) (.int 0) = some (.int z) := by
      show atI _ _ = _
      rw [List.map_cons, atI_0]
    have c : (0 : Int) < ((z :: ns).length : Int) := by simp only [List.length_cons]; omega
    generalize PyData.list ((z :: ns).map .int) = Z at *
    generalize (((z :: ns).length : Nat) : Int) = N at *
    unfold Ph_law_cell
    rw [run2]
    unfold dn_law_cell
    simp [-gLen, -gIx, hlen, ix, c]
theorem sim_prs (ps : List (Nat × Nat)) : Sim 3 (.list (ps.map encPr)) := fun d hd => by
  obtain ⟨p, _, rfl⟩ := List.mem_map.mp hd
  intro d hd
  simp only [List.mem_cons, List.not_mem_nil, or_false] at hd
  rcases hd with rfl | rfl <;> trivial
theorem one_level {p : Nat × Nat} (hp : p.1 < 8 ∧ p.2 < 8 ∧ p.1 ≠ p.2) : levB 8 (foldR [p] (r0 ((2 ^ [p].length : Nat) : Int))) = false := by
  obtain ⟨a, b⟩ := p
  obtain ⟨ha, hb, hn⟩ := hp
  refine Bool.eq_false_iff.mpr fun h => ?_
  have sr := lev_iff.mp h
  -- a third cask j keeps its own
  obtain ⟨j, hj, ja, jb⟩ : ∃ j, j < 8 ∧ j ≠ a ∧ j ≠ b := by
    by_cases c0 : 0 ≠ a ∧ 0 ≠ b
    · exact ⟨0, by decide, c0.1, c0.2⟩
    · by_cases c1 : 1 ≠ a ∧ 1 ≠ b
      · exact ⟨1, by decide, c1.1, c1.2⟩
      · exact ⟨2, by decide, by omega, by omega⟩
  have e1 := sr j hj j hj
  have e2 := sr a ha j hj
  have v1 : foldR [(a, b)] (r0 ((2 ^ [(a, b)].length : Nat) : Int)) j j = 2 := by
    show stepR (r0 2) a b j j = 2
    unfold stepR
    rw [if_neg jb, if_neg ja]
    simp [r0]
  have v2 : foldR [(a, b)] (r0 ((2 ^ [(a, b)].length : Nat) : Int)) a j = 0 := by
    show stepR (r0 2) a b a j = 0
    unfold stepR
    rw [if_neg hn, if_pos rfl]
    simp [bothR, r0, Ne.symm ja, Ne.symm jb]
  rw [v1] at e1
  rw [v2] at e2
  rw [← e2] at e1
  exact absurd e1 (by decide)
end K11
set_option Elab.async false
set_option linter.all false
set_option maxRecDepth 100000
set_option maxHeartbeats 8000000
namespace K11
open PySem PySem.Spec PyProof.Rows L2 Dn
variable {n : Nat} {ks k k' : List PyData} {Z L T R X : PyData} {b : Bool}
abbrev eW (Z : PyData) (k : List PyData) (n : Nat) (L T : PyData) (b : Bool) (s6 s7 : Sl) : En := [.val Z, .own false k, .val (.int (n : Int)), .val L, .val T, .val (.bool b), s6, s7]
theorem lw7 {ps : List (Nat × Nat)} {s7 : Sl} (h : Told n (.list (ps.map encPr)) T R X b) (h7 : s7 = .no) : LW7 (eW Z k n L T b (.own false (ps.map encPr)) s7) = some (.nx, eW Z k n L T b (.own false (ps.map encPr)) s7) := by
  obtain ⟨c1, c2, c3, c4, c5, c6, c7⟩ := h
  have c8 := same_bool b
  subst h7
  unfold LW7
  generalize ps.map encPr = A at *
  simp [fOf, c5, c6, c7, c8]
theorem lw8 {ps : List (Nat × Nat)} {s7 : Sl} (h7 : s7 = .no) (hr : Ph_law_refusals_right k [.int (n : Int), .list (ps.map encPr)] = some (.bool true, k')) : LW8 (eW Z k n (.list (ps.map encPr)) T b (.own false (ps.map encPr)) s7) = some (.nx, eW Z k' n (.list (ps.map encPr)) T b (.own false (ps.map encPr)) s7) := by
  have ne : gNe (.list (ps.map encPr)) (.list (ps.map encPr)) = some (.bool false) := by
    have s := (sim_prs ps).shaped (by decide)
    rw [gNe_gen _ _ s s, ((sim_prs ps).eqv (sim_prs ps)).mpr rfl]
    rfl
  subst h7
  unfold LW8
  generalize ps.map encPr = A at *
  simp [-gNe, fOf, ne, hr]
theorem lw9 {ps : List (Nat × Nat)} {s7 : Sl} (hl : ps.length ≤ 100) : ∃ A, LW9 (eW Z k n L T b (.own false (ps.map encPr)) s7) = some (.nx, eW Z k n L T b (.own false A) s7) := by
  refine ⟨ps.map encPr ++ [.tuple [.int 0, .int 0]], ?_⟩
  have ha := fun e => kApp2_ok (i := 6) (d := .tuple [.int 0, .int 0]) (e := e) (p := false) (ds := ps.map encPr) (by rw [List.length_map]; omega)
  generalize ps.map encPr ++ [PyData.tuple [.int 0, .int 0]] = A2 at *
  generalize ps.map encPr = A at *
  unfold LW9
  simp [ha]
theorem lw10 {p : Nat × Nat} {s6 s7 : Sl} (h : Ph_law_pair k [.int 8] = some (encPr p, k')) : LW10 (eW Z k n L T b s6 s7) = some (.nx, eW Z k' n L T b s6 (.val (encPr p))) := by
  generalize encPr p = P at *
  unfold LW10
  simp [h]
theorem lw11 {p : Nat × Nat} {s6 : Sl} {T8 R8 X8 : PyData} (h : Told 8 (.list [encPr p]) T8 R8 X8 false) : LW11 (eW Z k n L T b s6 (.val (encPr p))) = some (.nx, eW Z k n L T b s6 (.val (encPr p))) := by
  obtain ⟨c1, c2, c3, c4, c5, c6, c7⟩ := h
  have c1' : Ph_law_table [.int 8, .list [encPr p]] = some T8 := c1
  have c5' : Ph_levelled [.int 8, .list [encPr p]] = some T8 := c5
  have c6' : Ph_is_level [.int 8, .list [encPr p]] = some (.bool false) := c6
  have c8 := same_bool false
  have hL1 : ∀ (a : PyData) (e : En), kLst ([a], e) = some ([a], e) := fun _ _ => rfl
  generalize encPr p = P at *
  unfold LW11
  simp [hL1, c1', c5', c6', c7, c8]
theorem lw12 {s6 s7 : Sl} (h : Told n L T R X b) : LW12 (eW Z k n L T b s6 s7) = some (.nx, eW Z k n L T b s6 s7) := by
  obtain ⟨c1, c2, c3, c4, c5, c6, c7⟩ := h
  have c8 := same_bool b
  unfold LW12
  simp [c5, c6, c7, c8]
theorem lw13_one {s6 s7 : Sl} (h : n = 1) : ∃ e, LW13 (eW Z k n L T b s6 s7) = some (.rt (.bool true), e) := by
  subst h
  unfold LW13
  exact ⟨_, by simp; rfl⟩
theorem lw13_no {s6 s7 : Sl} {x : Nat} (h : n ≠ 1) (hx : Ph_law_lift k [.int 8] = some (.int (x : Int), k')) (h3 : x ≠ 3) : ∃ e, LW13 (eW Z k n L T b s6 s7) = some (.rt (.bool true), e) := by
  have n1 : gEq (.int (n : Int)) (.int 1) = some (.bool false) := by simp; omega
  have n3 : gNe (.int (x : Int)) (.int 3) = some (.bool true) := by simp; omega
  unfold LW13
  exact ⟨_, by simp [-gEq, -gNe, n1, hx, n3]; rfl⟩
theorem lw13_yes {s6 s7 : Sl} {k2 : List PyData} (h : n ≠ 1) (hx : Ph_law_lift k [.int 8] = some (.int 3, k')) (hl : Ph_law_long_right k' [.int (n : Int), L] = some (.bool true, k2)) : ∃ e, LW13 (eW Z k n L T b s6 s7) = some (.rt (.bool true), e) := by
  have n1 : gEq (.int (n : Int)) (.int 1) = some (.bool false) := by simp; omega
  have n3 : gNe (.int 3) (.int 3) = some (.bool false) := by simp
  unfold LW13
  exact ⟨_, by simp [-gEq, -gNe, n1, hx, n3, hl]; rfl⟩
theorem law_true (ns : List Int) (hl : ns.length ≤ 63) (hb : ∀ z ∈ ns, Builtin.Int.intBits z ≤ 1048576) : Ph_law [.list (ns.map .int)] = some (.bool true) := by
  obtain ⟨z, c0, hz⟩ := cell_0 hb
  obtain ⟨k0, w0, u0⟩ := v_law_well (k := 0) hz (by decide)
  obtain ⟨x, k1, e1, b1, u1⟩ := v_lift (M := 999999) (m := 12) u0 (by decide) (by decide)
  obtain ⟨n, hn, h1, h8⟩ := many_ix b1
  obtain ⟨ps, k2, e2, pok, pl, u2⟩ := v_law_pairs (M := 999000) h1 h8 hl hb (u1.mono (by decide))
  obtain ⟨T, R, X, td⟩ := told_of h1 h8 pok (by omega)
  obtain ⟨k3, e3, u3⟩ := v_law_refusals_right (M := 998000) h1 h8 pok (by omega) (u2.mono (by decide))
  obtain ⟨p, k4, e4, pp, u4⟩ := v_law_pairN (n := 8) (M := 997000) (by decide) (by decide) (u3.mono (by decide))
  obtain ⟨T8, R8, X8, t8⟩ := told_of (n := 8) (ps := [p]) (by decide) (by decide) (fun q hq => by rw [List.mem_singleton.mp hq]; exact pp) (by show 1 ≤ 100; decide)
  rw [one_level pp] at t8
  obtain ⟨y, k5, e5, b5, u5⟩ := v_lift (M := 996000) (m := 8) (u4.mono (by decide)) (by decide) (by decide)
  obtain ⟨b, hbb⟩ : ∃ b, b = levB n (foldR ps (r0 ((2 ^ ps.length : Nat) : Int))) := ⟨_, rfl⟩
  rw [← hbb] at td
  have e1' : Ph_law_lift k0 [.int 12] = some (.int (x : Int), k1) := e1
  have e4' : Ph_law_pair k3 [.int 8] = some (encPr p, k4) := e4
  have e5' : Ph_law_lift k4 [.int 8] = some (.int (y : Int), k5) := e5
  have hO : ∀ e : En, kOf ([PyData.list (ps.map encPr)], e) = some (ps.map encPr, e) := fun _ => rfl
  have q1 : LW1 [.val (.list (ns.map .int)), .no, .no, .no, .no, .no, .no, .no] = some (.nx, [.val (.list (ns.map .int)), .own false k0, .no, .no, .no, .no, .no, .no]) := by
    generalize PyData.list (ns.map .int) = Z at *
    unfold LW1
    simp [c0, w0]
  have q2 : LW2 [.val (.list (ns.map .int)), .own false k0, .no, .no, .no, .no, .no, .no] = some (.nx, [.val (.list (ns.map .int)), .own false k1, .val (.int (n : Int)), .no, .no, .no, .no, .no]) := by
    generalize PyData.list (ns.map .int) = Z at *
    unfold LW2
    simp [-gIx, kLst_any, e1', hn]
  have q3 : LW3 [.val (.list (ns.map .int)), .own false k1, .val (.int (n : Int)), .no, .no, .no, .no, .no] = some (.nx, [.val (.list (ns.map .int)), .own false k2, .val (.int (n : Int)), .val (.list (ps.map encPr)), .no, .no, .no, .no]) := by
    generalize PyData.list (ns.map .int) = Z at *
    generalize PyData.list (ps.map encPr) = L at *
    unfold LW3
    simp [ev_O, kO, kO2, isOwn, e2]
  have q4 : LW4 [.val (.list (ns.map .int)), .own false k2, .val (.int (n : Int)), .val (.list (ps.map encPr)), .no, .no, .no, .no] = some (.nx, [.val (.list (ns.map .int)), .own false k2, .val (.int (n : Int)), .val (.list (ps.map encPr)), .val T, .no, .no, .no]) := by
    have := td.tab
    generalize PyData.list (ns.map .int) = Z at *
    generalize PyData.list (ps.map encPr) = L at *
    unfold LW4
    simp [this]
  have q5 : LW5 [.val (.list (ns.map .int)), .own false k2, .val (.int (n : Int)), .val (.list (ps.map encPr)), .val T, .no, .no, .no] = some (.nx, eW (.list (ns.map .int)) k2 n (.list (ps.map encPr)) T b .no .no) := by
    have r1 := td.row
    have r2 := td.mul
    have r3 := td.eq
    generalize PyData.list (ns.map .int) = Z at *
    generalize PyData.list (ps.map encPr) = L at *
    unfold LW5
    simp [-gIx, -gEq, r1, r2, r3]
  have q6 : LW6 (eW (.list (ns.map .int)) k2 n (.list (ps.map encPr)) T b .no .no) = some (.nx, eW (.list (ns.map .int)) k2 n (.list (ps.map encPr)) T b (.own false (ps.map encPr)) .no) := by
    generalize PyData.list (ns.map .int) = Z at *
    generalize ps.map encPr = A at *
    unfold LW6
    simp [hO]
  have q7 := lw7 (Z := .list (ns.map .int)) (k := k2) (L := .list (ps.map encPr)) td rfl
  have q8 := lw8 (Z := .list (ns.map .int)) (T := T) (b := b) rfl e3
  obtain ⟨A, q9⟩ := lw9 (Z := .list (ns.map .int)) (k := k3) (n := n) (L := .list (ps.map encPr)) (T := T) (b := b) (ps := ps) (s7 := .no) (by omega)
  have q10 := lw10 (Z := .list (ns.map .int)) (n := n) (L := .list (ps.map encPr)) (T := T) (b := b) (s6 := .own false A) (s7 := .no) e4'
  have q11 := lw11 (Z := .list (ns.map .int)) (k := k4) (n := n) (L := .list (ps.map encPr)) (T := T) (b := b) (s6 := .own false A) t8
  have q12 := lw12 (Z := .list (ns.map .int)) (k := k4) (s6 := .own false A) (s7 := .val (encPr p)) td
  have q13 : ∃ e, LW13 (eW (.list (ns.map .int)) k4 n (.list (ps.map encPr)) T b (.own false A) (.val (encPr p))) = some (.rt (.bool true), e) := by
    by_cases c1 : n = 1
    · exact lw13_one c1
    · by_cases c3 : y = 3
      · subst c3
        obtain ⟨k6, e6, _⟩ := v_law_long_right (M := 900000) (by omega) h8 pok pl (u5.mono (by decide))
        exact lw13_yes c1 e5' e6
      · exact lw13_no c1 e5' c3
  obtain ⟨e, q13⟩ := q13
  unfold Ph_law
  rw [run1]
  show endP (dn_law [.val (.list (ns.map .int)), .no, .no, .no, .no, .no, .no, .no]) = _
  rw [LW_cut, seqn q1, seqn q2, seqn q3, seqn q4, seqn q5, seqn q6, seqn q7, seqn q8, seqn q9, seqn q10, seqn q11, seqn q12, q13]
  rfl
end K11
set_option Elab.async false
set_option linter.all false
set_option maxRecDepth 100000
set_option maxHeartbeats 4000000
namespace K11
open PySem PySem.Spec PyProof.Rows Dn
open L2 hiding FnOk Room hu_of pe_call pe_callS pe_callK Dp DpAll
abbrev tbC (C0 C1 C2 : Addr) : Tb := { T := [], ca := fun x => if x = "InvalidDeed" then C0 else if x = "InvalidNumber" then C1 else if x = "Unlike" then C2 else 0 }
noncomputable def wd_mk {P : Program} {K : PySem.W.Frag} {h : Heap} {mg : Str → Option Value} {base : Heap} (NSB : base.NoSeer) (X : K.In h) (G : h.Ns mainGlobals mg)
    {f0 : Addr} {od0 an0 : Option Addr} {sl0 : Array (Option Value)} {oc0 kV0 dc0 pm0 cd0 ct0 : Value}
    (a0 : PySem.W.nsIn K mainGlobals "_law_well" = some (some (.ref f0))) (l0 : K.lookup f0 = some ⟨oc0, od0, .func (PySem.W.fnOf "_law_well" "_law_well" (defArgs (topS 19)) (defBody (topS 19)) (defScope (topS 19)) .none kV0 dc0 pm0 an0 cd0 ct0), sl0⟩) (c0 : PySem.W.codeIn K cd0 "_law_well" = true) (k0 : PySem.W.keepIn K (.ref f0) = true)
    {f1 : Addr} {od1 an1 : Option Addr} {sl1 : Array (Option Value)} {oc1 kV1 dc1 pm1 cd1 ct1 : Value}
    (a1 : PySem.W.nsIn K mainGlobals "_law_cell" = some (some (.ref f1))) (l1 : K.lookup f1 = some ⟨oc1, od1, .func (PySem.W.fnOf "_law_cell" "_law_cell" (defArgs (topS 21)) (defBody (topS 21)) (defScope (topS 21)) .none kV1 dc1 pm1 an1 cd1 ct1), sl1⟩) (c1 : PySem.W.codeIn K cd1 "_law_cell" = true) (k1 : PySem.W.keepIn K (.ref f1) = true)
    {f2 : Addr} {od2 an2 : Option Addr} {sl2 : Array (Option Value)} {oc2 kV2 dc2 pm2 cd2 ct2 : Value}
    (a2 : PySem.W.nsIn K mainGlobals "_law_lift" = some (some (.ref f2))) (l2 : K.lookup f2 = some ⟨oc2, od2, .func (PySem.W.fnOf "_law_lift" "_law_lift" (defArgs (topS 20)) (defBody (topS 20)) (defScope (topS 20)) .none kV2 dc2 pm2 an2 cd2 ct2), sl2⟩) (c2 : PySem.W.codeIn K cd2 "_law_lift" = true) (k2 : PySem.W.keepIn K (.ref f2) = true)
    {f3 : Addr} {od3 an3 : Option Addr} {sl3 : Array (Option Value)} {oc3 kV3 dc3 pm3 cd3 ct3 : Value}
    (a3 : PySem.W.nsIn K mainGlobals "_law_pair" = some (some (.ref f3))) (l3 : K.lookup f3 = some ⟨oc3, od3, .func (PySem.W.fnOf "_law_pair" "_law_pair" (defArgs (topS 30)) (defBody (topS 30)) (defScope (topS 30)) .none kV3 dc3 pm3 an3 cd3 ct3), sl3⟩) (c3 : PySem.W.codeIn K cd3 "_law_pair" = true) (k3 : PySem.W.keepIn K (.ref f3) = true)
    {f4 : Addr} {od4 an4 : Option Addr} {sl4 : Array (Option Value)} {oc4 kV4 dc4 pm4 cd4 ct4 : Value}
    (a4 : PySem.W.nsIn K mainGlobals "_law_turned" = some (some (.ref f4))) (l4 : K.lookup f4 = some ⟨oc4, od4, .func (PySem.W.fnOf "_law_turned" "_law_turned" (defArgs (topS 25)) (defBody (topS 25)) (defScope (topS 25)) .none kV4 dc4 pm4 an4 cd4 ct4), sl4⟩) (c4 : PySem.W.codeIn K cd4 "_law_turned" = true) (k4 : PySem.W.keepIn K (.ref f4) = true)
    {f5 : Addr} {od5 an5 : Option Addr} {sl5 : Array (Option Value)} {oc5 kV5 dc5 pm5 cd5 ct5 : Value}
    (a5 : PySem.W.nsIn K mainGlobals "_law_all_pairs" = some (some (.ref f5))) (l5 : K.lookup f5 = some ⟨oc5, od5, .func (PySem.W.fnOf "_law_all_pairs" "_law_all_pairs" (defArgs (topS 31)) (defBody (topS 31)) (defScope (topS 31)) .none kV5 dc5 pm5 an5 cd5 ct5), sl5⟩) (c5 : PySem.W.codeIn K cd5 "_law_all_pairs" = true) (k5 : PySem.W.keepIn K (.ref f5) = true)
    {f6 : Addr} {od6 an6 : Option Addr} {sl6 : Array (Option Value)} {oc6 kV6 dc6 pm6 cd6 ct6 : Value}
    (a6 : PySem.W.nsIn K mainGlobals "_law_pairs" = some (some (.ref f6))) (l6 : K.lookup f6 = some ⟨oc6, od6, .func (PySem.W.fnOf "_law_pairs" "_law_pairs" (defArgs (topS 32)) (defBody (topS 32)) (defScope (topS 32)) .none kV6 dc6 pm6 an6 cd6 ct6), sl6⟩) (c6 : PySem.W.codeIn K cd6 "_law_pairs" = true) (k6 : PySem.W.keepIn K (.ref f6) = true)
    {f7 : Addr} {od7 an7 : Option Addr} {sl7 : Array (Option Value)} {oc7 kV7 dc7 pm7 cd7 ct7 : Value}
    (a7 : PySem.W.nsIn K mainGlobals "_law_column" = some (some (.ref f7))) (l7 : K.lookup f7 = some ⟨oc7, od7, .func (PySem.W.fnOf "_law_column" "_law_column" (defArgs (topS 33)) (defBody (topS 33)) (defScope (topS 33)) .none kV7 dc7 pm7 an7 cd7 ct7), sl7⟩) (c7 : PySem.W.codeIn K cd7 "_law_column" = true) (k7 : PySem.W.keepIn K (.ref f7) = true)
    {f8 : Addr} {od8 an8 : Option Addr} {sl8 : Array (Option Value)} {oc8 kV8 dc8 pm8 cd8 ct8 : Value}
    (a8 : PySem.W.nsIn K mainGlobals "_law_divisor" = some (some (.ref f8))) (l8 : K.lookup f8 = some ⟨oc8, od8, .func (PySem.W.fnOf "_law_divisor" "_law_divisor" (defArgs (topS 22)) (defBody (topS 22)) (defScope (topS 22)) .none kV8 dc8 pm8 an8 cd8 ct8), sl8⟩) (c8 : PySem.W.codeIn K cd8 "_law_divisor" = true) (k8 : PySem.W.keepIn K (.ref f8) = true)
    {f9 : Addr} {od9 an9 : Option Addr} {sl9 : Array (Option Value)} {oc9 kV9 dc9 pm9 cd9 ct9 : Value}
    (a9 : PySem.W.nsIn K mainGlobals "_law_fraction" = some (some (.ref f9))) (l9 : K.lookup f9 = some ⟨oc9, od9, .func (PySem.W.fnOf "_law_fraction" "_law_fraction" (defArgs (topS 23)) (defBody (topS 23)) (defScope (topS 23)) .none kV9 dc9 pm9 an9 cd9 ct9), sl9⟩) (c9 : PySem.W.codeIn K cd9 "_law_fraction" = true) (k9 : PySem.W.keepIn K (.ref f9) = true)
    {f10 : Addr} {od10 an10 : Option Addr} {sl10 : Array (Option Value)} {oc10 kV10 dc10 pm10 cd10 ct10 : Value}
    (a10 : PySem.W.nsIn K mainGlobals "_law_table" = some (some (.ref f10))) (l10 : K.lookup f10 = some ⟨oc10, od10, .func (PySem.W.fnOf "_law_table" "_law_table" (defArgs (topS 34)) (defBody (topS 34)) (defScope (topS 34)) .none kV10 dc10 pm10 an10 cd10 ct10), sl10⟩) (c10 : PySem.W.codeIn K cd10 "_law_table" = true) (k10 : PySem.W.keepIn K (.ref f10) = true)
    {f11 : Addr} {od11 an11 : Option Addr} {sl11 : Array (Option Value)} {oc11 kV11 dc11 pm11 cd11 ct11 : Value}
    (a11 : PySem.W.nsIn K mainGlobals "_law_same" = some (some (.ref f11))) (l11 : K.lookup f11 = some ⟨oc11, od11, .func (PySem.W.fnOf "_law_same" "_law_same" (defArgs (topS 24)) (defBody (topS 24)) (defScope (topS 24)) .none kV11 dc11 pm11 an11 cd11 ct11), sl11⟩) (c11 : PySem.W.codeIn K cd11 "_law_same" = true) (k11 : PySem.W.keepIn K (.ref f11) = true)
    {f12 : Addr} {od12 an12 : Option Addr} {sl12 : Array (Option Value)} {oc12 kV12 dc12 pm12 cd12 ct12 : Value}
    (a12 : PySem.W.nsIn K mainGlobals "is_integer" = some (some (.ref f12))) (l12 : K.lookup f12 = some ⟨oc12, od12, .func (PySem.W.fnOf "is_integer" "is_integer" (defArgs (topS 8)) (defBody (topS 8)) (defScope (topS 8)) .none kV12 dc12 pm12 an12 cd12 ct12), sl12⟩) (c12 : PySem.W.codeIn K cd12 "is_integer" = true) (k12 : PySem.W.keepIn K (.ref f12) = true)
    {f13 : Addr} {od13 an13 : Option Addr} {sl13 : Array (Option Value)} {oc13 kV13 dc13 pm13 cd13 ct13 : Value}
    (a13 : PySem.W.nsIn K mainGlobals "anew" = some (some (.ref f13))) (l13 : K.lookup f13 = some ⟨oc13, od13, .func (PySem.W.fnOf "anew" "anew" (defArgs (topS 7)) (defBody (topS 7)) (defScope (topS 7)) .none kV13 dc13 pm13 an13 cd13 ct13), sl13⟩) (c13 : PySem.W.codeIn K cd13 "anew" = true) (k13 : PySem.W.keepIn K (.ref f13) = true)
    {f14 : Addr} {od14 an14 : Option Addr} {sl14 : Array (Option Value)} {oc14 kV14 dc14 pm14 cd14 ct14 : Value}
    (a14 : PySem.W.nsIn K mainGlobals "need_count" = some (some (.ref f14))) (l14 : K.lookup f14 = some ⟨oc14, od14, .func (PySem.W.fnOf "need_count" "need_count" (defArgs (topS 9)) (defBody (topS 9)) (defScope (topS 9)) .none kV14 dc14 pm14 an14 cd14 ct14), sl14⟩) (c14 : PySem.W.codeIn K cd14 "need_count" = true) (k14 : PySem.W.keepIn K (.ref f14) = true)
    {f15 : Addr} {od15 an15 : Option Addr} {sl15 : Array (Option Value)} {oc15 kV15 dc15 pm15 cd15 ct15 : Value}
    (a15 : PySem.W.nsIn K mainGlobals "is_pair" = some (some (.ref f15))) (l15 : K.lookup f15 = some ⟨oc15, od15, .func (PySem.W.fnOf "is_pair" "is_pair" (defArgs (topS 13)) (defBody (topS 13)) (defScope (topS 13)) .none kV15 dc15 pm15 an15 cd15 ct15), sl15⟩) (c15 : PySem.W.codeIn K cd15 "is_pair" = true) (k15 : PySem.W.keepIn K (.ref f15) = true)
    {f16 : Addr} {od16 an16 : Option Addr} {sl16 : Array (Option Value)} {oc16 kV16 dc16 pm16 cd16 ct16 : Value}
    (a16 : PySem.W.nsIn K mainGlobals "need_pairs" = some (some (.ref f16))) (l16 : K.lookup f16 = some ⟨oc16, od16, .func (PySem.W.fnOf "need_pairs" "need_pairs" (defArgs (topS 14)) (defBody (topS 14)) (defScope (topS 14)) .none kV16 dc16 pm16 an16 cd16 ct16), sl16⟩) (c16 : PySem.W.codeIn K cd16 "need_pairs" = true) (k16 : PySem.W.keepIn K (.ref f16) = true)
    {f17 : Addr} {od17 an17 : Option Addr} {sl17 : Array (Option Value)} {oc17 kV17 dc17 pm17 cd17 ct17 : Value}
    (a17 : PySem.W.nsIn K mainGlobals "fraction" = some (some (.ref f17))) (l17 : K.lookup f17 = some ⟨oc17, od17, .func (PySem.W.fnOf "fraction" "fraction" (defArgs (topS 11)) (defBody (topS 11)) (defScope (topS 11)) .none kV17 dc17 pm17 an17 cd17 ct17), sl17⟩) (c17 : PySem.W.codeIn K cd17 "fraction" = true) (k17 : PySem.W.keepIn K (.ref f17) = true)
    {f18 : Addr} {od18 an18 : Option Addr} {sl18 : Array (Option Value)} {oc18 kV18 dc18 pm18 cd18 ct18 : Value}
    (a18 : PySem.W.nsIn K mainGlobals "halved" = some (some (.ref f18))) (l18 : K.lookup f18 = some ⟨oc18, od18, .func (PySem.W.fnOf "halved" "halved" (defArgs (topS 15)) (defBody (topS 15)) (defScope (topS 15)) .none kV18 dc18 pm18 an18 cd18 ct18), sl18⟩) (c18 : PySem.W.codeIn K cd18 "halved" = true) (k18 : PySem.W.keepIn K (.ref f18) = true)
    {f19 : Addr} {od19 an19 : Option Addr} {sl19 : Array (Option Value)} {oc19 kV19 dc19 pm19 cd19 ct19 : Value}
    (a19 : PySem.W.nsIn K mainGlobals "levelled" = some (some (.ref f19))) (l19 : K.lookup f19 = some ⟨oc19, od19, .func (PySem.W.fnOf "levelled" "levelled" (defArgs (topS 16)) (defBody (topS 16)) (defScope (topS 16)) .none kV19 dc19 pm19 an19 cd19 ct19), sl19⟩) (c19 : PySem.W.codeIn K cd19 "levelled" = true) (k19 : PySem.W.keepIn K (.ref f19) = true)
    {f20 : Addr} {od20 an20 : Option Addr} {sl20 : Array (Option Value)} {oc20 kV20 dc20 pm20 cd20 ct20 : Value}
    (a20 : PySem.W.nsIn K mainGlobals "is_level" = some (some (.ref f20))) (l20 : K.lookup f20 = some ⟨oc20, od20, .func (PySem.W.fnOf "is_level" "is_level" (defArgs (topS 17)) (defBody (topS 17)) (defScope (topS 17)) .none kV20 dc20 pm20 an20 cd20 ct20), sl20⟩) (c20 : PySem.W.codeIn K cd20 "is_level" = true) (k20 : PySem.W.keepIn K (.ref f20) = true)
    {f21 : Addr} {od21 an21 : Option Addr} {sl21 : Array (Option Value)} {oc21 kV21 dc21 pm21 cd21 ct21 : Value}
    (a21 : PySem.W.nsIn K mainGlobals "_law_odd_pair" = some (some (.ref f21))) (l21 : K.lookup f21 = some ⟨oc21, od21, .func (PySem.W.fnOf "_law_odd_pair" "_law_odd_pair" (defArgs (topS 35)) (defBody (topS 35)) (defScope (topS 35)) .none kV21 dc21 pm21 an21 cd21 ct21), sl21⟩) (c21 : PySem.W.codeIn K cd21 "_law_odd_pair" = true) (k21 : PySem.W.keepIn K (.ref f21) = true)
    {f22 : Addr} {od22 an22 : Option Addr} {sl22 : Array (Option Value)} {oc22 kV22 dc22 pm22 cd22 ct22 : Value}
    (a22 : PySem.W.nsIn K mainGlobals "_law_asked" = some (some (.ref f22))) (l22 : K.lookup f22 = some ⟨oc22, od22, .func (PySem.W.fnOf "_law_asked" "_law_asked" (defArgs (topS 26)) (defBody (topS 26)) (defScope (topS 26)) .none kV22 dc22 pm22 an22 cd22 ct22), sl22⟩) (c22 : PySem.W.codeIn K cd22 "_law_asked" = true) (k22 : PySem.W.keepIn K (.ref f22) = true)
    {f23 : Addr} {od23 an23 : Option Addr} {sl23 : Array (Option Value)} {oc23 kV23 dc23 pm23 cd23 ct23 : Value}
    (a23 : PySem.W.nsIn K mainGlobals "_law_error" = some (some (.ref f23))) (l23 : K.lookup f23 = some ⟨oc23, od23, .func (PySem.W.fnOf "_law_error" "_law_error" (defArgs (topS 27)) (defBody (topS 27)) (defScope (topS 27)) .none kV23 dc23 pm23 an23 cd23 ct23), sl23⟩) (c23 : PySem.W.codeIn K cd23 "_law_error" = true) (k23 : PySem.W.keepIn K (.ref f23) = true)
    {f24 : Addr} {od24 an24 : Option Addr} {sl24 : Array (Option Value)} {oc24 kV24 dc24 pm24 cd24 ct24 : Value}
    (a24 : PySem.W.nsIn K mainGlobals "_law_refused" = some (some (.ref f24))) (l24 : K.lookup f24 = some ⟨oc24, od24, .func (PySem.W.fnOf "_law_refused" "_law_refused" (defArgs (topS 28)) (defBody (topS 28)) (defScope (topS 28)) .none kV24 dc24 pm24 an24 cd24 ct24), sl24⟩) (c24 : PySem.W.codeIn K cd24 "_law_refused" = true) (k24 : PySem.W.keepIn K (.ref f24) = true)
    {f25 : Addr} {od25 an25 : Option Addr} {sl25 : Array (Option Value)} {oc25 kV25 dc25 pm25 cd25 ct25 : Value}
    (a25 : PySem.W.nsIn K mainGlobals "_law_kept" = some (some (.ref f25))) (l25 : K.lookup f25 = some ⟨oc25, od25, .func (PySem.W.fnOf "_law_kept" "_law_kept" (defArgs (topS 29)) (defBody (topS 29)) (defScope (topS 29)) .none kV25 dc25 pm25 an25 cd25 ct25), sl25⟩) (c25 : PySem.W.codeIn K cd25 "_law_kept" = true) (k25 : PySem.W.keepIn K (.ref f25) = true)
    {f26 : Addr} {od26 an26 : Option Addr} {sl26 : Array (Option Value)} {oc26 kV26 dc26 pm26 cd26 ct26 : Value}
    (a26 : PySem.W.nsIn K mainGlobals "_law_refusals_right" = some (some (.ref f26))) (l26 : K.lookup f26 = some ⟨oc26, od26, .func (PySem.W.fnOf "_law_refusals_right" "_law_refusals_right" (defArgs (topS 36)) (defBody (topS 36)) (defScope (topS 36)) .none kV26 dc26 pm26 an26 cd26 ct26), sl26⟩) (c26 : PySem.W.codeIn K cd26 "_law_refusals_right" = true) (k26 : PySem.W.keepIn K (.ref f26) = true)
    {f27 : Addr} {od27 an27 : Option Addr} {sl27 : Array (Option Value)} {oc27 kV27 dc27 pm27 cd27 ct27 : Value}
    (a27 : PySem.W.nsIn K mainGlobals "_law_long_right" = some (some (.ref f27))) (l27 : K.lookup f27 = some ⟨oc27, od27, .func (PySem.W.fnOf "_law_long_right" "_law_long_right" (defArgs (topS 37)) (defBody (topS 37)) (defScope (topS 37)) .none kV27 dc27 pm27 an27 cd27 ct27), sl27⟩) (c27 : PySem.W.codeIn K cd27 "_law_long_right" = true) (k27 : PySem.W.keepIn K (.ref f27) = true)
    {f28 : Addr} {od28 an28 : Option Addr} {sl28 : Array (Option Value)} {oc28 kV28 dc28 pm28 cd28 ct28 : Value}
    (a28 : PySem.W.nsIn K mainGlobals "law" = some (some (.ref f28))) (l28 : K.lookup f28 = some ⟨oc28, od28, .func (PySem.W.fnOf "law" "law" (defArgs (topS 38)) (defBody (topS 38)) (defScope (topS 38)) .none kV28 dc28 pm28 an28 cd28 ct28), sl28⟩) (c28 : PySem.W.codeIn K cd28 "law" = true) (k28 : PySem.W.keepIn K (.ref f28) = true)
    (sTr : P.given.tree = none)
    (z0 : PySem.W.nsIn K mainGlobals "max" = some none)
    (z1 : PySem.W.nsIn K mainGlobals "int" = some none)
    (z2 : PySem.W.nsIn K mainGlobals "len" = some none)
    (z3 : PySem.W.nsIn K mainGlobals "list" = some none)
    (z4 : PySem.W.nsIn K mainGlobals "range" = some none)
    (z5 : PySem.W.nsIn K mainGlobals "zip" = some none)
    (z6 : PySem.W.nsIn K mainGlobals "min" = some none)
    (z7 : PySem.W.nsIn K mainGlobals "tuple" = some none)
    (z8 : PySem.W.nsIn K mainGlobals "repr" = some none)
    (z9 : PySem.W.nsIn K mainGlobals "isinstance" = some none)
    (z10 : PySem.W.nsIn K mainGlobals "bool" = some none)
    (z11 : PySem.W.nsIn K mainGlobals "str" = some none)
    (z12 : PySem.W.nsIn K mainGlobals "ValueError" = some none)
    (y0 : PySem.W.nsIn K mainGlobals "gcd" = some (some (.builtin "math.gcd")))
    {xD xI cda cc : Addr} {xoc xdoc xpm xct xccl xcl : Value} {xod xan xcdd xcld : Option Addr} {xosl xccs xcsl : Array (Option Value)} {xvs : Array Value} {xfile : Str} {xtf : Tok} {cdD : ClassData}
    (xaD : PySem.W.nsIn K mainGlobals "CaskError" = some (some (.ref xD))) (xsup : PySem.W.nsIn K mainGlobals "super" = some none) (xopq : PySem.W.nsIn K cStatics "thirdparty.any" = some none) (xd1 : PySem.W.clsIn K xD = some cdD)
    {C0 N0 : Addr} {nm0 q0 : Str} {bs0 sub0 : List Value} {sn0 : List Str} {ab0 : Bool} {col0 : Option Bool} {dd0 : Option Addr} {mA0 mB0 mC0 mD0 mE0 : Option Value}
    (eG0 : PySem.W.nsIn K mainGlobals "InvalidDeed" = some (some (.ref C0))) (eX0 : K.lookup C0 = some (excClassObj nm0 q0 C0 N0 bs0 [.ref xD, .type "ValueError", .type "Exception", .type "BaseException", .type "object"] true sn0 sub0 ab0 col0 dd0 mA0 mB0 mC0 mD0 mE0 "ValueError.__new__")) (eSa0 : PySem.W.findIn K (.ref C0) "__setattr__" = some (some (.builtin "object.__setattr__"))) (eGa0 : PySem.W.findIn K (.ref C0) "__getattribute__" = some (some (.builtin "BaseException.__getattribute__"))) (eGg0 : PySem.W.findIn K (.ref C0) "__getattr__" = some none) (eNb0 : PySem.W.findIn K (.ref C0) "value" = some none) (eI0 : PySem.W.findIn K (.ref C0) "__init__" = some (some (.ref xI))) (eTi0 : PySem.W.typeIn K (.ref xI) = some (.type "function")) (eK0 : PySem.W.keepIn K (.ref C0) = true) (eE0 : PySem.W.subIn K (.ref C0) (.type "BaseException") = some true) (eT0 : PySem.W.typeIn K (.ref C0) = some (.type "type")) (eH0 : PySem.W.hasDictIn K C0 = true) (eIc0 : PySem.W.isClsIn K C0 = true) (eSs0 : PySem.W.subIn K (.ref C0) (.ref C0) = some true) (eV0 : PySem.W.subIn K (.ref C0) (.type "ValueError") = some true) (eSu0 : PySem.W.ks_superIn K C0 xD "__init__" = some (some (.builtin "ValueError.__init__"))) (eM0 : PySem.W.mroIn K C0 (.ref xD) = some true)
    {C1 N1 : Addr} {nm1 q1 : Str} {bs1 sub1 : List Value} {sn1 : List Str} {ab1 : Bool} {col1 : Option Bool} {dd1 : Option Addr} {mA1 mB1 mC1 mD1 mE1 : Option Value}
    (eG1 : PySem.W.nsIn K mainGlobals "InvalidNumber" = some (some (.ref C1))) (eX1 : K.lookup C1 = some (excClassObj nm1 q1 C1 N1 bs1 [.ref xD, .type "ValueError", .type "Exception", .type "BaseException", .type "object"] true sn1 sub1 ab1 col1 dd1 mA1 mB1 mC1 mD1 mE1 "ValueError.__new__")) (eSa1 : PySem.W.findIn K (.ref C1) "__setattr__" = some (some (.builtin "object.__setattr__"))) (eGa1 : PySem.W.findIn K (.ref C1) "__getattribute__" = some (some (.builtin "BaseException.__getattribute__"))) (eGg1 : PySem.W.findIn K (.ref C1) "__getattr__" = some none) (eNb1 : PySem.W.findIn K (.ref C1) "value" = some none) (eI1 : PySem.W.findIn K (.ref C1) "__init__" = some (some (.ref xI))) (eTi1 : PySem.W.typeIn K (.ref xI) = some (.type "function")) (eK1 : PySem.W.keepIn K (.ref C1) = true) (eE1 : PySem.W.subIn K (.ref C1) (.type "BaseException") = some true) (eT1 : PySem.W.typeIn K (.ref C1) = some (.type "type")) (eH1 : PySem.W.hasDictIn K C1 = true) (eIc1 : PySem.W.isClsIn K C1 = true) (eSs1 : PySem.W.subIn K (.ref C1) (.ref C1) = some true) (eV1 : PySem.W.subIn K (.ref C1) (.type "ValueError") = some true) (eSu1 : PySem.W.ks_superIn K C1 xD "__init__" = some (some (.builtin "ValueError.__init__"))) (eM1 : PySem.W.mroIn K C1 (.ref xD) = some true)
    {C2 N2 : Addr} {nm2 q2 : Str} {bs2 sub2 : List Value} {sn2 : List Str} {ab2 : Bool} {col2 : Option Bool} {dd2 : Option Addr} {mA2 mB2 mC2 mD2 mE2 : Option Value}
    (eG2 : PySem.W.nsIn K mainGlobals "Unlike" = some (some (.ref C2))) (eX2 : K.lookup C2 = some (excClassObj nm2 q2 C2 N2 bs2 [.ref xD, .type "ValueError", .type "Exception", .type "BaseException", .type "object"] true sn2 sub2 ab2 col2 dd2 mA2 mB2 mC2 mD2 mE2 "ValueError.__new__")) (eSa2 : PySem.W.findIn K (.ref C2) "__setattr__" = some (some (.builtin "object.__setattr__"))) (eGa2 : PySem.W.findIn K (.ref C2) "__getattribute__" = some (some (.builtin "BaseException.__getattribute__"))) (eGg2 : PySem.W.findIn K (.ref C2) "__getattr__" = some none) (eNb2 : PySem.W.findIn K (.ref C2) "value" = some none) (eI2 : PySem.W.findIn K (.ref C2) "__init__" = some (some (.ref xI))) (eTi2 : PySem.W.typeIn K (.ref xI) = some (.type "function")) (eK2 : PySem.W.keepIn K (.ref C2) = true) (eE2 : PySem.W.subIn K (.ref C2) (.type "BaseException") = some true) (eT2 : PySem.W.typeIn K (.ref C2) = some (.type "type")) (eH2 : PySem.W.hasDictIn K C2 = true) (eIc2 : PySem.W.isClsIn K C2 = true) (eSs2 : PySem.W.subIn K (.ref C2) (.ref C2) = some true) (eV2 : PySem.W.subIn K (.ref C2) (.type "ValueError") = some true) (eSu2 : PySem.W.ks_superIn K C2 xD "__init__" = some (some (.builtin "ValueError.__init__"))) (eM2 : PySem.W.mroIn K C2 (.ref xD) = some true)
    (xl : K.lookup xI = some ⟨xoc, xod, .func (PySem.W.ksFn "__init__" "CaskError.__init__" (PySem.CaskX.iA ⟨5, 17, 5, 21⟩ ⟨5, 23, 5, 28⟩) (PySem.CaskX.iB "caskyears" ⟨6, 8, 6, 13⟩ ⟨6, 8, 6, 15⟩ ⟨6, 8, 6, 24⟩ ⟨6, 25, 6, 36⟩ ⟨6, 8, 6, 37⟩ ⟨6, 8, 6, 37⟩ ⟨7, 8, 7, 12⟩ ⟨7, 8, 7, 18⟩ ⟨7, 21, 7, 26⟩ ⟨7, 8, 7, 26⟩) PySem.CaskX.iS .none .none xdoc xpm xan (.ref cda) xct cc), xosl⟩) (xc1 : PySem.W.codeIn K (.ref cda) "CaskError.__init__" = true) (xcd : K.lookup cda = some ⟨xccl, xcdd, .fields xvs, xccs⟩) (xv2 : xvs[2]? = some (.str xfile xtf)) (xfl : ((P.main.file : Str) == xfile) = true) (xcc : K.lookup cc = some ⟨xcl, xcld, .cell (some (.ref xD)), xcsl⟩) (xtp : (P.main.scope.names.lookup ("super" : Str)).isSome = false)
    (bE : PySem.W.subIn K (.ref xD) (.type "BaseException") = some true) (bH : PySem.W.hasDictIn K xD = true) (bT : PySem.W.typeIn K (.ref xD) = some (.type "type"))
    (eSb0 : PySem.W.subIn K (.ref C0) (.ref xD) = some true)
    (eSb1 : PySem.W.subIn K (.ref C1) (.ref xD) = some true)
    (eSb2 : PySem.W.subIn K (.ref C2) (.ref xD) = some true)
    (xcg : PySem.W.specialIn K (.builtin "object.__class__") "__get__" = some (some (.builtin "getset_descriptor.__get__"))) (xct2 : PySem.W.takesIn K (.builtin "object.__class__") = some true)
    (eCa0 : PySem.W.findIn K (.ref C0) "__class__" = some (some (.builtin "object.__class__"))) (eMr0 : PySem.W.mroIn K C0 (.type "object") = some true)
    (eCa1 : PySem.W.findIn K (.ref C1) "__class__" = some (some (.builtin "object.__class__"))) (eMr1 : PySem.W.mroIn K C1 (.type "object") = some true)
    (eCa2 : PySem.W.findIn K (.ref C2) "__class__" = some (some (.builtin "object.__class__"))) (eMr2 : PySem.W.mroIn K C2 (.type "object") = some true)
    (eKv0 : PySem.W.kitOne K (.ref C0) (.type "ValueError") = some true)
    (eKv1 : PySem.W.kitOne K (.ref C1) (.type "ValueError") = some true)
    (eKv2 : PySem.W.kitOne K (.ref C2) (.type "ValueError") = some true)
    (eKn0 : PySem.W.kitOne K (.type "NoneType") (.ref C0) = some false)
    (eKo0_0 : PySem.W.kitOne K (.ref C0) (.ref C0) = some true)
    (eKo1_0 : PySem.W.kitOne K (.ref C1) (.ref C0) = some false)
    (eKo2_0 : PySem.W.kitOne K (.ref C2) (.ref C0) = some false)
    (eKn1 : PySem.W.kitOne K (.type "NoneType") (.ref C1) = some false)
    (eKo0_1 : PySem.W.kitOne K (.ref C0) (.ref C1) = some false)
    (eKo1_1 : PySem.W.kitOne K (.ref C1) (.ref C1) = some true)
    (eKo2_1 : PySem.W.kitOne K (.ref C2) (.ref C1) = some false)
    (eKn2 : PySem.W.kitOne K (.type "NoneType") (.ref C2) = some false)
    (eKo0_2 : PySem.W.kitOne K (.ref C0) (.ref C2) = some false)
    (eKo1_2 : PySem.W.kitOne K (.ref C1) (.ref C2) = some false)
    (eKo2_2 : PySem.W.kitOne K (.ref C2) (.ref C2) = some true) : @Wd (tbC C0 C1 C2) P K mg base := (letI : Tb := tbC C0 C1 C2; {
  a_law_well := f0,
  fd_law_well := PySem.W.fnOf "_law_well" "_law_well" (defArgs (topS 19)) (defBody (topS 19)) (defScope (topS 19)) .none kV0 dc0 pm0 an0 cd0 ct0,
  F_law_well := fun_mk l0 c0 k0,
  m_law_well := PySem.W.mg_of X G a0,
  n_law_well := (fun_mk (st := (topS 19)) l0 c0 k0).binds (ps := ["_law_cell_here", "_law_place"]) fun _ _ _ _ _ _ us hl => match us, hl with | [_, _], _ => rfl,
  a_law_cell := f1,
  fd_law_cell := PySem.W.fnOf "_law_cell" "_law_cell" (defArgs (topS 21)) (defBody (topS 21)) (defScope (topS 21)) .none kV1 dc1 pm1 an1 cd1 ct1,
  F_law_cell := fun_mk l1 c1 k1,
  m_law_cell := PySem.W.mg_of X G a1,
  n_law_cell := (fun_mk (st := (topS 21)) l1 c1 k1).binds (ps := ["_law_script", "_law_place"]) fun _ _ _ _ _ _ us hl => match us, hl with | [_, _], _ => rfl,
  a_law_lift := f2,
  fd_law_lift := PySem.W.fnOf "_law_lift" "_law_lift" (defArgs (topS 20)) (defBody (topS 20)) (defScope (topS 20)) .none kV2 dc2 pm2 an2 cd2 ct2,
  F_law_lift := fun_mk l2 c2 k2,
  m_law_lift := PySem.W.mg_of X G a2,
  n_law_lift := (fun_mk (st := (topS 20)) l2 c2 k2).binds (ps := ["_law_well_here", "_law_many"]) fun _ _ _ _ _ _ us hl => match us, hl with | [_, _], _ => rfl,
  a_law_pair := f3,
  fd_law_pair := PySem.W.fnOf "_law_pair" "_law_pair" (defArgs (topS 30)) (defBody (topS 30)) (defScope (topS 30)) .none kV3 dc3 pm3 an3 cd3 ct3,
  F_law_pair := fun_mk l3 c3 k3,
  m_law_pair := PySem.W.mg_of X G a3,
  n_law_pair := (fun_mk (st := (topS 30)) l3 c3 k3).binds (ps := ["_law_well_here", "_law_many"]) fun _ _ _ _ _ _ us hl => match us, hl with | [_, _], _ => rfl,
  a_law_turned := f4,
  fd_law_turned := PySem.W.fnOf "_law_turned" "_law_turned" (defArgs (topS 25)) (defBody (topS 25)) (defScope (topS 25)) .none kV4 dc4 pm4 an4 cd4 ct4,
  F_law_turned := fun_mk l4 c4 k4,
  m_law_turned := PySem.W.mg_of X G a4,
  n_law_turned := (fun_mk (st := (topS 25)) l4 c4 k4).binds (ps := ["_law_well_here", "_law_entries"]) fun _ _ _ _ _ _ us hl => match us, hl with | [_, _], _ => rfl,
  a_law_all_pairs := f5,
  fd_law_all_pairs := PySem.W.fnOf "_law_all_pairs" "_law_all_pairs" (defArgs (topS 31)) (defBody (topS 31)) (defScope (topS 31)) .none kV5 dc5 pm5 an5 cd5 ct5,
  F_law_all_pairs := fun_mk l5 c5 k5,
  m_law_all_pairs := PySem.W.mg_of X G a5,
  n_law_all_pairs := (fun_mk (st := (topS 31)) l5 c5 k5).binds (ps := ["_law_well_here", "_law_many"]) fun _ _ _ _ _ _ us hl => match us, hl with | [_, _], _ => rfl,
  a_law_pairs := f6,
  fd_law_pairs := PySem.W.fnOf "_law_pairs" "_law_pairs" (defArgs (topS 32)) (defBody (topS 32)) (defScope (topS 32)) .none kV6 dc6 pm6 an6 cd6 ct6,
  F_law_pairs := fun_mk l6 c6 k6,
  m_law_pairs := PySem.W.mg_of X G a6,
  n_law_pairs := (fun_mk (st := (topS 32)) l6 c6 k6).binds (ps := ["_law_script", "_law_well_here", "_law_many"]) fun _ _ _ _ _ _ us hl => match us, hl with | [_, _, _], _ => rfl,
  a_law_column := f7,
  fd_law_column := PySem.W.fnOf "_law_column" "_law_column" (defArgs (topS 33)) (defBody (topS 33)) (defScope (topS 33)) .none kV7 dc7 pm7 an7 cd7 ct7,
  F_law_column := fun_mk l7 c7 k7,
  m_law_column := PySem.W.mg_of X G a7,
  n_law_column := (fun_mk (st := (topS 33)) l7 c7 k7).binds (ps := ["_law_many", "_law_listed", "_law_cask"]) fun _ _ _ _ _ _ us hl => match us, hl with | [_, _, _], _ => rfl,
  a_law_divisor := f8,
  fd_law_divisor := PySem.W.fnOf "_law_divisor" "_law_divisor" (defArgs (topS 22)) (defBody (topS 22)) (defScope (topS 22)) .none kV8 dc8 pm8 an8 cd8 ct8,
  F_law_divisor := fun_mk l8 c8 k8,
  m_law_divisor := PySem.W.mg_of X G a8,
  n_law_divisor := (fun_mk (st := (topS 22)) l8 c8 k8).binds (ps := ["_law_great", "_law_small"]) fun _ _ _ _ _ _ us hl => match us, hl with | [_, _], _ => rfl,
  a_law_fraction := f9,
  fd_law_fraction := PySem.W.fnOf "_law_fraction" "_law_fraction" (defArgs (topS 23)) (defBody (topS 23)) (defScope (topS 23)) .none kV9 dc9 pm9 an9 cd9 ct9,
  F_law_fraction := fun_mk l9 c9 k9,
  m_law_fraction := PySem.W.mg_of X G a9,
  n_law_fraction := (fun_mk (st := (topS 23)) l9 c9 k9).binds (ps := ["_law_above", "_law_below"]) fun _ _ _ _ _ _ us hl => match us, hl with | [_, _], _ => rfl,
  a_law_table := f10,
  fd_law_table := PySem.W.fnOf "_law_table" "_law_table" (defArgs (topS 34)) (defBody (topS 34)) (defScope (topS 34)) .none kV10 dc10 pm10 an10 cd10 ct10,
  F_law_table := fun_mk l10 c10 k10,
  m_law_table := PySem.W.mg_of X G a10,
  n_law_table := (fun_mk (st := (topS 34)) l10 c10 k10).binds (ps := ["_law_many", "_law_listed"]) fun _ _ _ _ _ _ us hl => match us, hl with | [_, _], _ => rfl,
  a_law_same := f11,
  fd_law_same := PySem.W.fnOf "_law_same" "_law_same" (defArgs (topS 24)) (defBody (topS 24)) (defScope (topS 24)) .none kV11 dc11 pm11 an11 cd11 ct11,
  F_law_same := fun_mk l11 c11 k11,
  m_law_same := PySem.W.mg_of X G a11,
  n_law_same := (fun_mk (st := (topS 24)) l11 c11 k11).binds (ps := ["_law_told", "_law_due"]) fun _ _ _ _ _ _ us hl => match us, hl with | [_, _], _ => rfl,
  a_is_integer := f12,
  fd_is_integer := PySem.W.fnOf "is_integer" "is_integer" (defArgs (topS 8)) (defBody (topS 8)) (defScope (topS 8)) .none kV12 dc12 pm12 an12 cd12 ct12,
  F_is_integer := fun_mk l12 c12 k12,
  m_is_integer := PySem.W.mg_of X G a12,
  n_is_integer := (fun_mk (st := (topS 8)) l12 c12 k12).binds (ps := ["value"]) fun _ _ _ _ _ _ us hl => match us, hl with | [_], _ => rfl,
  a_anew := f13,
  fd_anew := PySem.W.fnOf "anew" "anew" (defArgs (topS 7)) (defBody (topS 7)) (defScope (topS 7)) .none kV13 dc13 pm13 an13 cd13 ct13,
  F_anew := fun_mk l13 c13 k13,
  m_anew := PySem.W.mg_of X G a13,
  n_anew := (fun_mk (st := (topS 7)) l13 c13 k13).binds (ps := ["value"]) fun _ _ _ _ _ _ us hl => match us, hl with | [_], _ => rfl,
  a_need_count := f14,
  fd_need_count := PySem.W.fnOf "need_count" "need_count" (defArgs (topS 9)) (defBody (topS 9)) (defScope (topS 9)) .none kV14 dc14 pm14 an14 cd14 ct14,
  F_need_count := fun_mk l14 c14 k14,
  m_need_count := PySem.W.mg_of X G a14,
  n_need_count := (fun_mk (st := (topS 9)) l14 c14 k14).binds (ps := ["number", "low", "high"]) fun _ _ _ _ _ _ us hl => match us, hl with | [_, _, _], _ => rfl,
  a_is_pair := f15,
  fd_is_pair := PySem.W.fnOf "is_pair" "is_pair" (defArgs (topS 13)) (defBody (topS 13)) (defScope (topS 13)) .none kV15 dc15 pm15 an15 cd15 ct15,
  F_is_pair := fun_mk l15 c15 k15,
  m_is_pair := PySem.W.mg_of X G a15,
  n_is_pair := (fun_mk (st := (topS 13)) l15 c15 k15).binds (ps := ["value", "casks"]) fun _ _ _ _ _ _ us hl => match us, hl with | [_, _], _ => rfl,
  a_need_pairs := f16,
  fd_need_pairs := PySem.W.fnOf "need_pairs" "need_pairs" (defArgs (topS 14)) (defBody (topS 14)) (defScope (topS 14)) .none kV16 dc16 pm16 an16 cd16 ct16,
  F_need_pairs := fun_mk l16 c16 k16,
  m_need_pairs := PySem.W.mg_of X G a16,
  n_need_pairs := (fun_mk (st := (topS 14)) l16 c16 k16).binds (ps := ["casks", "pairs"]) fun _ _ _ _ _ _ us hl => match us, hl with | [_, _], _ => rfl,
  a_fraction := f17,
  fd_fraction := PySem.W.fnOf "fraction" "fraction" (defArgs (topS 11)) (defBody (topS 11)) (defScope (topS 11)) .none kV17 dc17 pm17 an17 cd17 ct17,
  F_fraction := fun_mk l17 c17 k17,
  m_fraction := PySem.W.mg_of X G a17,
  n_fraction := (fun_mk (st := (topS 11)) l17 c17 k17).binds (ps := ["above", "below"]) fun _ _ _ _ _ _ us hl => match us, hl with | [_, _], _ => rfl,
  a_halved := f18,
  fd_halved := PySem.W.fnOf "halved" "halved" (defArgs (topS 15)) (defBody (topS 15)) (defScope (topS 15)) .none kV18 dc18 pm18 an18 cd18 ct18,
  F_halved := fun_mk l18 c18 k18,
  m_halved := PySem.W.mg_of X G a18,
  n_halved := (fun_mk (st := (topS 15)) l18 c18 k18).binds (ps := ["casks", "pairs"]) fun _ _ _ _ _ _ us hl => match us, hl with | [_, _], _ => rfl,
  a_levelled := f19,
  fd_levelled := PySem.W.fnOf "levelled" "levelled" (defArgs (topS 16)) (defBody (topS 16)) (defScope (topS 16)) .none kV19 dc19 pm19 an19 cd19 ct19,
  F_levelled := fun_mk l19 c19 k19,
  m_levelled := PySem.W.mg_of X G a19,
  n_levelled := (fun_mk (st := (topS 16)) l19 c19 k19).binds (ps := ["casks", "pairs"]) fun _ _ _ _ _ _ us hl => match us, hl with | [_, _], _ => rfl,
  a_is_level := f20,
  fd_is_level := PySem.W.fnOf "is_level" "is_level" (defArgs (topS 17)) (defBody (topS 17)) (defScope (topS 17)) .none kV20 dc20 pm20 an20 cd20 ct20,
  F_is_level := fun_mk l20 c20 k20,
  m_is_level := PySem.W.mg_of X G a20,
  n_is_level := (fun_mk (st := (topS 17)) l20 c20 k20).binds (ps := ["casks", "pairs"]) fun _ _ _ _ _ _ us hl => match us, hl with | [_, _], _ => rfl,
  a_law_odd_pair := f21,
  fd_law_odd_pair := PySem.W.fnOf "_law_odd_pair" "_law_odd_pair" (defArgs (topS 35)) (defBody (topS 35)) (defScope (topS 35)) .none kV21 dc21 pm21 an21 cd21 ct21,
  F_law_odd_pair := fun_mk l21 c21 k21,
  m_law_odd_pair := PySem.W.mg_of X G a21,
  n_law_odd_pair := (fun_mk (st := (topS 35)) l21 c21 k21).binds (ps := ["_law_well_here", "_law_many"]) fun _ _ _ _ _ _ us hl => match us, hl with | [_, _], _ => rfl,
  a_law_asked := f22,
  fd_law_asked := PySem.W.fnOf "_law_asked" "_law_asked" (defArgs (topS 26)) (defBody (topS 26)) (defScope (topS 26)) .none kV22 dc22 pm22 an22 cd22 ct22,
  F_law_asked := fun_mk l22 c22 k22,
  m_law_asked := PySem.W.mg_of X G a22,
  n_law_asked := (fun_mk (st := (topS 26)) l22 c22 k22).binds (ps := ["_law_door", "_law_many", "_law_listed"]) fun _ _ _ _ _ _ us hl => match us, hl with | [_, _, _], _ => rfl,
  a_law_error := f23,
  fd_law_error := PySem.W.fnOf "_law_error" "_law_error" (defArgs (topS 27)) (defBody (topS 27)) (defScope (topS 27)) .none kV23 dc23 pm23 an23 cd23 ct23,
  F_law_error := fun_mk l23 c23 k23,
  m_law_error := PySem.W.mg_of X G a23,
  n_law_error := (fun_mk (st := (topS 27)) l23 c23 k23).binds (ps := ["_law_door", "_law_many", "_law_listed"]) fun _ _ _ _ _ _ us hl => match us, hl with | [_, _, _], _ => rfl,
  a_law_refused := f24,
  fd_law_refused := PySem.W.fnOf "_law_refused" "_law_refused" (defArgs (topS 28)) (defBody (topS 28)) (defScope (topS 28)) .none kV24 dc24 pm24 an24 cd24 ct24,
  F_law_refused := fun_mk l24 c24 k24,
  m_law_refused := PySem.W.mg_of X G a24,
  n_law_refused := (fun_mk (st := (topS 28)) l24 c24 k24).binds (ps := ["_law_door", "_law_many", "_law_listed", "_law_numbered", "_law_due"]) fun _ _ _ _ _ _ us hl => match us, hl with | [_, _, _, _, _], _ => rfl,
  a_law_kept := f25,
  fd_law_kept := PySem.W.fnOf "_law_kept" "_law_kept" (defArgs (topS 29)) (defBody (topS 29)) (defScope (topS 29)) .none kV25 dc25 pm25 an25 cd25 ct25,
  F_law_kept := fun_mk l25 c25 k25,
  m_law_kept := PySem.W.mg_of X G a25,
  n_law_kept := (fun_mk (st := (topS 29)) l25 c25 k25).binds (ps := ["_law_held", "_law_thing"]) fun _ _ _ _ _ _ us hl => match us, hl with | [_, _], _ => rfl,
  a_law_refusals_right := f26,
  fd_law_refusals_right := PySem.W.fnOf "_law_refusals_right" "_law_refusals_right" (defArgs (topS 36)) (defBody (topS 36)) (defScope (topS 36)) .none kV26 dc26 pm26 an26 cd26 ct26,
  F_law_refusals_right := fun_mk l26 c26 k26,
  m_law_refusals_right := PySem.W.mg_of X G a26,
  n_law_refusals_right := (fun_mk (st := (topS 36)) l26 c26 k26).binds (ps := ["_law_well_here", "_law_many", "_law_listed"]) fun _ _ _ _ _ _ us hl => match us, hl with | [_, _, _], _ => rfl,
  a_law_long_right := f27,
  fd_law_long_right := PySem.W.fnOf "_law_long_right" "_law_long_right" (defArgs (topS 37)) (defBody (topS 37)) (defScope (topS 37)) .none kV27 dc27 pm27 an27 cd27 ct27,
  F_law_long_right := fun_mk l27 c27 k27,
  m_law_long_right := PySem.W.mg_of X G a27,
  n_law_long_right := (fun_mk (st := (topS 37)) l27 c27 k27).binds (ps := ["_law_well_here", "_law_many", "_law_listed"]) fun _ _ _ _ _ _ us hl => match us, hl with | [_, _, _], _ => rfl,
  a_law := f28,
  fd_law := PySem.W.fnOf "law" "law" (defArgs (topS 38)) (defBody (topS 38)) (defScope (topS 38)) .none kV28 dc28 pm28 an28 cd28 ct28,
  F_law := fun_mk l28 c28 k28,
  m_law := PySem.W.mg_of X G a28,
  n_law := (fun_mk (st := (topS 38)) l28 c28 k28).binds (ps := ["_law_script"]) fun _ _ _ _ _ _ us hl => match us, hl with | [_], _ => rfl,
  seer := ⟨NSB, sTr⟩,
  b_max := PySem.W.mg_none_of X G z0,
  b_int := PySem.W.mg_none_of X G z1,
  b_len := PySem.W.mg_none_of X G z2,
  b_list := PySem.W.mg_none_of X G z3,
  b_range := PySem.W.mg_none_of X G z4,
  b_zip := PySem.W.mg_none_of X G z5,
  b_min := PySem.W.mg_none_of X G z6,
  b_tuple := PySem.W.mg_none_of X G z7,
  b_repr := PySem.W.mg_none_of X G z8,
  b_isinstance := PySem.W.mg_none_of X G z9,
  b_bool := PySem.W.mg_none_of X G z10,
  b_str := PySem.W.mg_none_of X G z11,
  b_ValueError := PySem.W.mg_none_of X G z12,
  b_gcd := PySem.W.mg_of X G y0,
  kb_levelled_0 := kbinds_of (fun s us ws X h1 h2 => match us, ws, h1, h2 with | [], [_, _], _, _ => .of_eq rfl) (by decide),
  kb_is_level_0 := kbinds_of (fun s us ws X h1 h2 => match us, ws, h1, h2 with | [], [_, _], _, _ => .of_eq rfl) (by decide),
  xD := xD,
  xI := xI,
  xt_InvalidDeed := { cls := ⟨nm0, q0, N0, bs0, _, sn0, sub0, ab0, col0, dd0, mA0, mB0, mC0, mD0, mE0, eX0, rfl⟩, sa := eSa0, ga := eGa0, gg := eGg0, noN := eNb0, iC := eI0, tC := eTi0, kC := eK0, exC := eE0, tyC := eT0, hdC := eH0, opq := xopq, veC := eV0, sup := eSu0, dC := eM0, dcl := ⟨_, xd1⟩, nosup := PySem.W.mg_none_of X G xsup, top := xtp, fn := ⟨_, _, _, _, _, _, _, _, _, _, _, _, _, _, _, _, _, _, _, _, _, _, _, _, _, _, _, _, _, _, _, xl, xc1, xcd, xv2, xfl, xcc, _, fun env => rfl⟩ },
  xg_InvalidDeed := PySem.W.mg_of X G eG0,
  xf_InvalidDeed := ⟨eGa0, eGg0, eE0, eH0⟩,
  xn_InvalidDeed := eNb0,
  xm_InvalidDeed := Dn.exm_self eE0 eIc0 eT0 eSs0,
  xt_InvalidNumber := { cls := ⟨nm1, q1, N1, bs1, _, sn1, sub1, ab1, col1, dd1, mA1, mB1, mC1, mD1, mE1, eX1, rfl⟩, sa := eSa1, ga := eGa1, gg := eGg1, noN := eNb1, iC := eI1, tC := eTi1, kC := eK1, exC := eE1, tyC := eT1, hdC := eH1, opq := xopq, veC := eV1, sup := eSu1, dC := eM1, dcl := ⟨_, xd1⟩, nosup := PySem.W.mg_none_of X G xsup, top := xtp, fn := ⟨_, _, _, _, _, _, _, _, _, _, _, _, _, _, _, _, _, _, _, _, _, _, _, _, _, _, _, _, _, _, _, xl, xc1, xcd, xv2, xfl, xcc, _, fun env => rfl⟩ },
  xg_InvalidNumber := PySem.W.mg_of X G eG1,
  xf_InvalidNumber := ⟨eGa1, eGg1, eE1, eH1⟩,
  xn_InvalidNumber := eNb1,
  xm_InvalidNumber := Dn.exm_self eE1 eIc1 eT1 eSs1,
  xt_Unlike := { cls := ⟨nm2, q2, N2, bs2, _, sn2, sub2, ab2, col2, dd2, mA2, mB2, mC2, mD2, mE2, eX2, rfl⟩, sa := eSa2, ga := eGa2, gg := eGg2, noN := eNb2, iC := eI2, tC := eTi2, kC := eK2, exC := eE2, tyC := eT2, hdC := eH2, opq := xopq, veC := eV2, sup := eSu2, dC := eM2, dcl := ⟨_, xd1⟩, nosup := PySem.W.mg_none_of X G xsup, top := xtp, fn := ⟨_, _, _, _, _, _, _, _, _, _, _, _, _, _, _, _, _, _, _, _, _, _, _, _, _, _, _, _, _, _, _, xl, xc1, xcd, xv2, xfl, xcc, _, fun env => rfl⟩ },
  xg_Unlike := PySem.W.mg_of X G eG2,
  xf_Unlike := ⟨eGa2, eGg2, eE2, eH2⟩,
  xn_Unlike := eNb2,
  xm_Unlike := Dn.exm_self eE2 eIc2 eT2 eSs2,
  xg_CaskError := PySem.W.mg_of X G xaD,
  xb_InvalidDeed := PySem.W.exm_ref bE bH bT eSb0,
  xb_InvalidNumber := PySem.W.exm_ref bE bH bT eSb1,
  xb_Unlike := PySem.W.exm_ref bE bH bT eSb2,
  xe_InvalidDeed := ⟨eGa0, eGg0, eE0, eH0, eCa0, xcg, xct2, eMr0⟩,
  xe_InvalidNumber := ⟨eGa1, eGg1, eE1, eH1, eCa1, xcg, xct2, eMr1⟩,
  xe_Unlike := ⟨eGa2, eGg2, eE2, eH2, eCa2, xcg, xct2, eMr2⟩,
  xv_InvalidDeed := eKv0,
  xv_InvalidNumber := eKv1,
  xv_Unlike := eKv2,
  xk0_InvalidDeed := eKn0,
  xk_InvalidDeed_InvalidDeed := eKo0_0,
  xk_InvalidNumber_InvalidDeed := eKo1_0,
  xk_Unlike_InvalidDeed := eKo2_0,
  xk0_InvalidNumber := eKn1,
  xk_InvalidDeed_InvalidNumber := eKo0_1,
  xk_InvalidNumber_InvalidNumber := eKo1_1,
  xk_Unlike_InvalidNumber := eKo2_1,
  xk0_Unlike := eKn2,
  xk_InvalidDeed_Unlike := eKo0_2,
  xk_InvalidNumber_Unlike := eKo1_2,
  xk_Unlike_Unlike := eKo2_2
  })
theorem all_mk {l : PySem.W.OpenLaw} {w : World} {K : PySem.W.Frag} {h : Heap} {mg : Str → Option Value} {fa : Addr} (hfa : mg "law" = some (.ref fa)) (X : K.In h) (G : h.Ns mainGlobals mg)
    {f0 : Addr} {od0 an0 : Option Addr} {sl0 : Array (Option Value)} {oc0 kV0 dc0 pm0 cd0 ct0 : Value}
    (a0 : PySem.W.nsIn K mainGlobals "_law_well" = some (some (.ref f0))) (l0 : K.lookup f0 = some ⟨oc0, od0, .func (PySem.W.fnOf "_law_well" "_law_well" (defArgs (topS 19)) (defBody (topS 19)) (defScope (topS 19)) .none kV0 dc0 pm0 an0 cd0 ct0), sl0⟩) (c0 : PySem.W.codeIn K cd0 "_law_well" = true) (k0 : PySem.W.keepIn K (.ref f0) = true)
    {f1 : Addr} {od1 an1 : Option Addr} {sl1 : Array (Option Value)} {oc1 kV1 dc1 pm1 cd1 ct1 : Value}
    (a1 : PySem.W.nsIn K mainGlobals "_law_cell" = some (some (.ref f1))) (l1 : K.lookup f1 = some ⟨oc1, od1, .func (PySem.W.fnOf "_law_cell" "_law_cell" (defArgs (topS 21)) (defBody (topS 21)) (defScope (topS 21)) .none kV1 dc1 pm1 an1 cd1 ct1), sl1⟩) (c1 : PySem.W.codeIn K cd1 "_law_cell" = true) (k1 : PySem.W.keepIn K (.ref f1) = true)
    {f2 : Addr} {od2 an2 : Option Addr} {sl2 : Array (Option Value)} {oc2 kV2 dc2 pm2 cd2 ct2 : Value}
    (a2 : PySem.W.nsIn K mainGlobals "_law_lift" = some (some (.ref f2))) (l2 : K.lookup f2 = some ⟨oc2, od2, .func (PySem.W.fnOf "_law_lift" "_law_lift" (defArgs (topS 20)) (defBody (topS 20)) (defScope (topS 20)) .none kV2 dc2 pm2 an2 cd2 ct2), sl2⟩) (c2 : PySem.W.codeIn K cd2 "_law_lift" = true) (k2 : PySem.W.keepIn K (.ref f2) = true)
    {f3 : Addr} {od3 an3 : Option Addr} {sl3 : Array (Option Value)} {oc3 kV3 dc3 pm3 cd3 ct3 : Value}
    (a3 : PySem.W.nsIn K mainGlobals "_law_pair" = some (some (.ref f3))) (l3 : K.lookup f3 = some ⟨oc3, od3, .func (PySem.W.fnOf "_law_pair" "_law_pair" (defArgs (topS 30)) (defBody (topS 30)) (defScope (topS 30)) .none kV3 dc3 pm3 an3 cd3 ct3), sl3⟩) (c3 : PySem.W.codeIn K cd3 "_law_pair" = true) (k3 : PySem.W.keepIn K (.ref f3) = true)
    {f4 : Addr} {od4 an4 : Option Addr} {sl4 : Array (Option Value)} {oc4 kV4 dc4 pm4 cd4 ct4 : Value}
    (a4 : PySem.W.nsIn K mainGlobals "_law_turned" = some (some (.ref f4))) (l4 : K.lookup f4 = some ⟨oc4, od4, .func (PySem.W.fnOf "_law_turned" "_law_turned" (defArgs (topS 25)) (defBody (topS 25)) (defScope (topS 25)) .none kV4 dc4 pm4 an4 cd4 ct4), sl4⟩) (c4 : PySem.W.codeIn K cd4 "_law_turned" = true) (k4 : PySem.W.keepIn K (.ref f4) = true)
    {f5 : Addr} {od5 an5 : Option Addr} {sl5 : Array (Option Value)} {oc5 kV5 dc5 pm5 cd5 ct5 : Value}
    (a5 : PySem.W.nsIn K mainGlobals "_law_all_pairs" = some (some (.ref f5))) (l5 : K.lookup f5 = some ⟨oc5, od5, .func (PySem.W.fnOf "_law_all_pairs" "_law_all_pairs" (defArgs (topS 31)) (defBody (topS 31)) (defScope (topS 31)) .none kV5 dc5 pm5 an5 cd5 ct5), sl5⟩) (c5 : PySem.W.codeIn K cd5 "_law_all_pairs" = true) (k5 : PySem.W.keepIn K (.ref f5) = true)
    {f6 : Addr} {od6 an6 : Option Addr} {sl6 : Array (Option Value)} {oc6 kV6 dc6 pm6 cd6 ct6 : Value}
    (a6 : PySem.W.nsIn K mainGlobals "_law_pairs" = some (some (.ref f6))) (l6 : K.lookup f6 = some ⟨oc6, od6, .func (PySem.W.fnOf "_law_pairs" "_law_pairs" (defArgs (topS 32)) (defBody (topS 32)) (defScope (topS 32)) .none kV6 dc6 pm6 an6 cd6 ct6), sl6⟩) (c6 : PySem.W.codeIn K cd6 "_law_pairs" = true) (k6 : PySem.W.keepIn K (.ref f6) = true)
    {f7 : Addr} {od7 an7 : Option Addr} {sl7 : Array (Option Value)} {oc7 kV7 dc7 pm7 cd7 ct7 : Value}
    (a7 : PySem.W.nsIn K mainGlobals "_law_column" = some (some (.ref f7))) (l7 : K.lookup f7 = some ⟨oc7, od7, .func (PySem.W.fnOf "_law_column" "_law_column" (defArgs (topS 33)) (defBody (topS 33)) (defScope (topS 33)) .none kV7 dc7 pm7 an7 cd7 ct7), sl7⟩) (c7 : PySem.W.codeIn K cd7 "_law_column" = true) (k7 : PySem.W.keepIn K (.ref f7) = true)
    {f8 : Addr} {od8 an8 : Option Addr} {sl8 : Array (Option Value)} {oc8 kV8 dc8 pm8 cd8 ct8 : Value}
    (a8 : PySem.W.nsIn K mainGlobals "_law_divisor" = some (some (.ref f8))) (l8 : K.lookup f8 = some ⟨oc8, od8, .func (PySem.W.fnOf "_law_divisor" "_law_divisor" (defArgs (topS 22)) (defBody (topS 22)) (defScope (topS 22)) .none kV8 dc8 pm8 an8 cd8 ct8), sl8⟩) (c8 : PySem.W.codeIn K cd8 "_law_divisor" = true) (k8 : PySem.W.keepIn K (.ref f8) = true)
    {f9 : Addr} {od9 an9 : Option Addr} {sl9 : Array (Option Value)} {oc9 kV9 dc9 pm9 cd9 ct9 : Value}
    (a9 : PySem.W.nsIn K mainGlobals "_law_fraction" = some (some (.ref f9))) (l9 : K.lookup f9 = some ⟨oc9, od9, .func (PySem.W.fnOf "_law_fraction" "_law_fraction" (defArgs (topS 23)) (defBody (topS 23)) (defScope (topS 23)) .none kV9 dc9 pm9 an9 cd9 ct9), sl9⟩) (c9 : PySem.W.codeIn K cd9 "_law_fraction" = true) (k9 : PySem.W.keepIn K (.ref f9) = true)
    {f10 : Addr} {od10 an10 : Option Addr} {sl10 : Array (Option Value)} {oc10 kV10 dc10 pm10 cd10 ct10 : Value}
    (a10 : PySem.W.nsIn K mainGlobals "_law_table" = some (some (.ref f10))) (l10 : K.lookup f10 = some ⟨oc10, od10, .func (PySem.W.fnOf "_law_table" "_law_table" (defArgs (topS 34)) (defBody (topS 34)) (defScope (topS 34)) .none kV10 dc10 pm10 an10 cd10 ct10), sl10⟩) (c10 : PySem.W.codeIn K cd10 "_law_table" = true) (k10 : PySem.W.keepIn K (.ref f10) = true)
    {f11 : Addr} {od11 an11 : Option Addr} {sl11 : Array (Option Value)} {oc11 kV11 dc11 pm11 cd11 ct11 : Value}
    (a11 : PySem.W.nsIn K mainGlobals "_law_same" = some (some (.ref f11))) (l11 : K.lookup f11 = some ⟨oc11, od11, .func (PySem.W.fnOf "_law_same" "_law_same" (defArgs (topS 24)) (defBody (topS 24)) (defScope (topS 24)) .none kV11 dc11 pm11 an11 cd11 ct11), sl11⟩) (c11 : PySem.W.codeIn K cd11 "_law_same" = true) (k11 : PySem.W.keepIn K (.ref f11) = true)
    {f12 : Addr} {od12 an12 : Option Addr} {sl12 : Array (Option Value)} {oc12 kV12 dc12 pm12 cd12 ct12 : Value}
    (a12 : PySem.W.nsIn K mainGlobals "is_integer" = some (some (.ref f12))) (l12 : K.lookup f12 = some ⟨oc12, od12, .func (PySem.W.fnOf "is_integer" "is_integer" (defArgs (topS 8)) (defBody (topS 8)) (defScope (topS 8)) .none kV12 dc12 pm12 an12 cd12 ct12), sl12⟩) (c12 : PySem.W.codeIn K cd12 "is_integer" = true) (k12 : PySem.W.keepIn K (.ref f12) = true)
    {f13 : Addr} {od13 an13 : Option Addr} {sl13 : Array (Option Value)} {oc13 kV13 dc13 pm13 cd13 ct13 : Value}
    (a13 : PySem.W.nsIn K mainGlobals "anew" = some (some (.ref f13))) (l13 : K.lookup f13 = some ⟨oc13, od13, .func (PySem.W.fnOf "anew" "anew" (defArgs (topS 7)) (defBody (topS 7)) (defScope (topS 7)) .none kV13 dc13 pm13 an13 cd13 ct13), sl13⟩) (c13 : PySem.W.codeIn K cd13 "anew" = true) (k13 : PySem.W.keepIn K (.ref f13) = true)
    {f14 : Addr} {od14 an14 : Option Addr} {sl14 : Array (Option Value)} {oc14 kV14 dc14 pm14 cd14 ct14 : Value}
    (a14 : PySem.W.nsIn K mainGlobals "need_count" = some (some (.ref f14))) (l14 : K.lookup f14 = some ⟨oc14, od14, .func (PySem.W.fnOf "need_count" "need_count" (defArgs (topS 9)) (defBody (topS 9)) (defScope (topS 9)) .none kV14 dc14 pm14 an14 cd14 ct14), sl14⟩) (c14 : PySem.W.codeIn K cd14 "need_count" = true) (k14 : PySem.W.keepIn K (.ref f14) = true)
    {f15 : Addr} {od15 an15 : Option Addr} {sl15 : Array (Option Value)} {oc15 kV15 dc15 pm15 cd15 ct15 : Value}
    (a15 : PySem.W.nsIn K mainGlobals "is_pair" = some (some (.ref f15))) (l15 : K.lookup f15 = some ⟨oc15, od15, .func (PySem.W.fnOf "is_pair" "is_pair" (defArgs (topS 13)) (defBody (topS 13)) (defScope (topS 13)) .none kV15 dc15 pm15 an15 cd15 ct15), sl15⟩) (c15 : PySem.W.codeIn K cd15 "is_pair" = true) (k15 : PySem.W.keepIn K (.ref f15) = true)
    {f16 : Addr} {od16 an16 : Option Addr} {sl16 : Array (Option Value)} {oc16 kV16 dc16 pm16 cd16 ct16 : Value}
    (a16 : PySem.W.nsIn K mainGlobals "need_pairs" = some (some (.ref f16))) (l16 : K.lookup f16 = some ⟨oc16, od16, .func (PySem.W.fnOf "need_pairs" "need_pairs" (defArgs (topS 14)) (defBody (topS 14)) (defScope (topS 14)) .none kV16 dc16 pm16 an16 cd16 ct16), sl16⟩) (c16 : PySem.W.codeIn K cd16 "need_pairs" = true) (k16 : PySem.W.keepIn K (.ref f16) = true)
    {f17 : Addr} {od17 an17 : Option Addr} {sl17 : Array (Option Value)} {oc17 kV17 dc17 pm17 cd17 ct17 : Value}
    (a17 : PySem.W.nsIn K mainGlobals "fraction" = some (some (.ref f17))) (l17 : K.lookup f17 = some ⟨oc17, od17, .func (PySem.W.fnOf "fraction" "fraction" (defArgs (topS 11)) (defBody (topS 11)) (defScope (topS 11)) .none kV17 dc17 pm17 an17 cd17 ct17), sl17⟩) (c17 : PySem.W.codeIn K cd17 "fraction" = true) (k17 : PySem.W.keepIn K (.ref f17) = true)
    {f18 : Addr} {od18 an18 : Option Addr} {sl18 : Array (Option Value)} {oc18 kV18 dc18 pm18 cd18 ct18 : Value}
    (a18 : PySem.W.nsIn K mainGlobals "halved" = some (some (.ref f18))) (l18 : K.lookup f18 = some ⟨oc18, od18, .func (PySem.W.fnOf "halved" "halved" (defArgs (topS 15)) (defBody (topS 15)) (defScope (topS 15)) .none kV18 dc18 pm18 an18 cd18 ct18), sl18⟩) (c18 : PySem.W.codeIn K cd18 "halved" = true) (k18 : PySem.W.keepIn K (.ref f18) = true)
    {f19 : Addr} {od19 an19 : Option Addr} {sl19 : Array (Option Value)} {oc19 kV19 dc19 pm19 cd19 ct19 : Value}
    (a19 : PySem.W.nsIn K mainGlobals "levelled" = some (some (.ref f19))) (l19 : K.lookup f19 = some ⟨oc19, od19, .func (PySem.W.fnOf "levelled" "levelled" (defArgs (topS 16)) (defBody (topS 16)) (defScope (topS 16)) .none kV19 dc19 pm19 an19 cd19 ct19), sl19⟩) (c19 : PySem.W.codeIn K cd19 "levelled" = true) (k19 : PySem.W.keepIn K (.ref f19) = true)
    {f20 : Addr} {od20 an20 : Option Addr} {sl20 : Array (Option Value)} {oc20 kV20 dc20 pm20 cd20 ct20 : Value}
    (a20 : PySem.W.nsIn K mainGlobals "is_level" = some (some (.ref f20))) (l20 : K.lookup f20 = some ⟨oc20, od20, .func (PySem.W.fnOf "is_level" "is_level" (defArgs (topS 17)) (defBody (topS 17)) (defScope (topS 17)) .none kV20 dc20 pm20 an20 cd20 ct20), sl20⟩) (c20 : PySem.W.codeIn K cd20 "is_level" = true) (k20 : PySem.W.keepIn K (.ref f20) = true)
    {f21 : Addr} {od21 an21 : Option Addr} {sl21 : Array (Option Value)} {oc21 kV21 dc21 pm21 cd21 ct21 : Value}
    (a21 : PySem.W.nsIn K mainGlobals "_law_odd_pair" = some (some (.ref f21))) (l21 : K.lookup f21 = some ⟨oc21, od21, .func (PySem.W.fnOf "_law_odd_pair" "_law_odd_pair" (defArgs (topS 35)) (defBody (topS 35)) (defScope (topS 35)) .none kV21 dc21 pm21 an21 cd21 ct21), sl21⟩) (c21 : PySem.W.codeIn K cd21 "_law_odd_pair" = true) (k21 : PySem.W.keepIn K (.ref f21) = true)
    {f22 : Addr} {od22 an22 : Option Addr} {sl22 : Array (Option Value)} {oc22 kV22 dc22 pm22 cd22 ct22 : Value}
    (a22 : PySem.W.nsIn K mainGlobals "_law_asked" = some (some (.ref f22))) (l22 : K.lookup f22 = some ⟨oc22, od22, .func (PySem.W.fnOf "_law_asked" "_law_asked" (defArgs (topS 26)) (defBody (topS 26)) (defScope (topS 26)) .none kV22 dc22 pm22 an22 cd22 ct22), sl22⟩) (c22 : PySem.W.codeIn K cd22 "_law_asked" = true) (k22 : PySem.W.keepIn K (.ref f22) = true)
    {f23 : Addr} {od23 an23 : Option Addr} {sl23 : Array (Option Value)} {oc23 kV23 dc23 pm23 cd23 ct23 : Value}
    (a23 : PySem.W.nsIn K mainGlobals "_law_error" = some (some (.ref f23))) (l23 : K.lookup f23 = some ⟨oc23, od23, .func (PySem.W.fnOf "_law_error" "_law_error" (defArgs (topS 27)) (defBody (topS 27)) (defScope (topS 27)) .none kV23 dc23 pm23 an23 cd23 ct23), sl23⟩) (c23 : PySem.W.codeIn K cd23 "_law_error" = true) (k23 : PySem.W.keepIn K (.ref f23) = true)
    {f24 : Addr} {od24 an24 : Option Addr} {sl24 : Array (Option Value)} {oc24 kV24 dc24 pm24 cd24 ct24 : Value}
    (a24 : PySem.W.nsIn K mainGlobals "_law_refused" = some (some (.ref f24))) (l24 : K.lookup f24 = some ⟨oc24, od24, .func (PySem.W.fnOf "_law_refused" "_law_refused" (defArgs (topS 28)) (defBody (topS 28)) (defScope (topS 28)) .none kV24 dc24 pm24 an24 cd24 ct24), sl24⟩) (c24 : PySem.W.codeIn K cd24 "_law_refused" = true) (k24 : PySem.W.keepIn K (.ref f24) = true)
    {f25 : Addr} {od25 an25 : Option Addr} {sl25 : Array (Option Value)} {oc25 kV25 dc25 pm25 cd25 ct25 : Value}
    (a25 : PySem.W.nsIn K mainGlobals "_law_kept" = some (some (.ref f25))) (l25 : K.lookup f25 = some ⟨oc25, od25, .func (PySem.W.fnOf "_law_kept" "_law_kept" (defArgs (topS 29)) (defBody (topS 29)) (defScope (topS 29)) .none kV25 dc25 pm25 an25 cd25 ct25), sl25⟩) (c25 : PySem.W.codeIn K cd25 "_law_kept" = true) (k25 : PySem.W.keepIn K (.ref f25) = true)
    {f26 : Addr} {od26 an26 : Option Addr} {sl26 : Array (Option Value)} {oc26 kV26 dc26 pm26 cd26 ct26 : Value}
    (a26 : PySem.W.nsIn K mainGlobals "_law_refusals_right" = some (some (.ref f26))) (l26 : K.lookup f26 = some ⟨oc26, od26, .func (PySem.W.fnOf "_law_refusals_right" "_law_refusals_right" (defArgs (topS 36)) (defBody (topS 36)) (defScope (topS 36)) .none kV26 dc26 pm26 an26 cd26 ct26), sl26⟩) (c26 : PySem.W.codeIn K cd26 "_law_refusals_right" = true) (k26 : PySem.W.keepIn K (.ref f26) = true)
    {f27 : Addr} {od27 an27 : Option Addr} {sl27 : Array (Option Value)} {oc27 kV27 dc27 pm27 cd27 ct27 : Value}
    (a27 : PySem.W.nsIn K mainGlobals "_law_long_right" = some (some (.ref f27))) (l27 : K.lookup f27 = some ⟨oc27, od27, .func (PySem.W.fnOf "_law_long_right" "_law_long_right" (defArgs (topS 37)) (defBody (topS 37)) (defScope (topS 37)) .none kV27 dc27 pm27 an27 cd27 ct27), sl27⟩) (c27 : PySem.W.codeIn K cd27 "_law_long_right" = true) (k27 : PySem.W.keepIn K (.ref f27) = true)
    {f28 : Addr} {od28 an28 : Option Addr} {sl28 : Array (Option Value)} {oc28 kV28 dc28 pm28 cd28 ct28 : Value}
    (a28 : PySem.W.nsIn K mainGlobals "law" = some (some (.ref f28))) (l28 : K.lookup f28 = some ⟨oc28, od28, .func (PySem.W.fnOf "law" "law" (defArgs (topS 38)) (defBody (topS 38)) (defScope (topS 38)) .none kV28 dc28 pm28 an28 cd28 ct28), sl28⟩) (c28 : PySem.W.codeIn K cd28 "law" = true) (k28 : PySem.W.keepIn K (.ref f28) = true)
    (sTr : l.prog.given.tree = none)
    (z0 : PySem.W.nsIn K mainGlobals "max" = some none)
    (z1 : PySem.W.nsIn K mainGlobals "int" = some none)
    (z2 : PySem.W.nsIn K mainGlobals "len" = some none)
    (z3 : PySem.W.nsIn K mainGlobals "list" = some none)
    (z4 : PySem.W.nsIn K mainGlobals "range" = some none)
    (z5 : PySem.W.nsIn K mainGlobals "zip" = some none)
    (z6 : PySem.W.nsIn K mainGlobals "min" = some none)
    (z7 : PySem.W.nsIn K mainGlobals "tuple" = some none)
    (z8 : PySem.W.nsIn K mainGlobals "repr" = some none)
    (z9 : PySem.W.nsIn K mainGlobals "isinstance" = some none)
    (z10 : PySem.W.nsIn K mainGlobals "bool" = some none)
    (z11 : PySem.W.nsIn K mainGlobals "str" = some none)
    (z12 : PySem.W.nsIn K mainGlobals "ValueError" = some none)
    (y0 : PySem.W.nsIn K mainGlobals "gcd" = some (some (.builtin "math.gcd")))
    {xD xI cda cc : Addr} {xoc xdoc xpm xct xccl xcl : Value} {xod xan xcdd xcld : Option Addr} {xosl xccs xcsl : Array (Option Value)} {xvs : Array Value} {xfile : Str} {xtf : Tok} {cdD : ClassData}
    (xaD : PySem.W.nsIn K mainGlobals "CaskError" = some (some (.ref xD))) (xsup : PySem.W.nsIn K mainGlobals "super" = some none) (xopq : PySem.W.nsIn K cStatics "thirdparty.any" = some none) (xd1 : PySem.W.clsIn K xD = some cdD)
    {C0 N0 : Addr} {nm0 q0 : Str} {bs0 sub0 : List Value} {sn0 : List Str} {ab0 : Bool} {col0 : Option Bool} {dd0 : Option Addr} {mA0 mB0 mC0 mD0 mE0 : Option Value}
    (eG0 : PySem.W.nsIn K mainGlobals "InvalidDeed" = some (some (.ref C0))) (eX0 : K.lookup C0 = some (excClassObj nm0 q0 C0 N0 bs0 [.ref xD, .type "ValueError", .type "Exception", .type "BaseException", .type "object"] true sn0 sub0 ab0 col0 dd0 mA0 mB0 mC0 mD0 mE0 "ValueError.__new__")) (eSa0 : PySem.W.findIn K (.ref C0) "__setattr__" = some (some (.builtin "object.__setattr__"))) (eGa0 : PySem.W.findIn K (.ref C0) "__getattribute__" = some (some (.builtin "BaseException.__getattribute__"))) (eGg0 : PySem.W.findIn K (.ref C0) "__getattr__" = some none) (eNb0 : PySem.W.findIn K (.ref C0) "value" = some none) (eI0 : PySem.W.findIn K (.ref C0) "__init__" = some (some (.ref xI))) (eTi0 : PySem.W.typeIn K (.ref xI) = some (.type "function")) (eK0 : PySem.W.keepIn K (.ref C0) = true) (eE0 : PySem.W.subIn K (.ref C0) (.type "BaseException") = some true) (eT0 : PySem.W.typeIn K (.ref C0) = some (.type "type")) (eH0 : PySem.W.hasDictIn K C0 = true) (eIc0 : PySem.W.isClsIn K C0 = true) (eSs0 : PySem.W.subIn K (.ref C0) (.ref C0) = some true) (eV0 : PySem.W.subIn K (.ref C0) (.type "ValueError") = some true) (eSu0 : PySem.W.ks_superIn K C0 xD "__init__" = some (some (.builtin "ValueError.__init__"))) (eM0 : PySem.W.mroIn K C0 (.ref xD) = some true)
    {C1 N1 : Addr} {nm1 q1 : Str} {bs1 sub1 : List Value} {sn1 : List Str} {ab1 : Bool} {col1 : Option Bool} {dd1 : Option Addr} {mA1 mB1 mC1 mD1 mE1 : Option Value}
    (eG1 : PySem.W.nsIn K mainGlobals "InvalidNumber" = some (some (.ref C1))) (eX1 : K.lookup C1 = some (excClassObj nm1 q1 C1 N1 bs1 [.ref xD, .type "ValueError", .type "Exception", .type "BaseException", .type "object"] true sn1 sub1 ab1 col1 dd1 mA1 mB1 mC1 mD1 mE1 "ValueError.__new__")) (eSa1 : PySem.W.findIn K (.ref C1) "__setattr__" = some (some (.builtin "object.__setattr__"))) (eGa1 : PySem.W.findIn K (.ref C1) "__getattribute__" = some (some (.builtin "BaseException.__getattribute__"))) (eGg1 : PySem.W.findIn K (.ref C1) "__getattr__" = some none) (eNb1 : PySem.W.findIn K (.ref C1) "value" = some none) (eI1 : PySem.W.findIn K (.ref C1) "__init__" = some (some (.ref xI))) (eTi1 : PySem.W.typeIn K (.ref xI) = some (.type "function")) (eK1 : PySem.W.keepIn K (.ref C1) = true) (eE1 : PySem.W.subIn K (.ref C1) (.type "BaseException") = some true) (eT1 : PySem.W.typeIn K (.ref C1) = some (.type "type")) (eH1 : PySem.W.hasDictIn K C1 = true) (eIc1 : PySem.W.isClsIn K C1 = true) (eSs1 : PySem.W.subIn K (.ref C1) (.ref C1) = some true) (eV1 : PySem.W.subIn K (.ref C1) (.type "ValueError") = some true) (eSu1 : PySem.W.ks_superIn K C1 xD "__init__" = some (some (.builtin "ValueError.__init__"))) (eM1 : PySem.W.mroIn K C1 (.ref xD) = some true)
    {C2 N2 : Addr} {nm2 q2 : Str} {bs2 sub2 : List Value} {sn2 : List Str} {ab2 : Bool} {col2 : Option Bool} {dd2 : Option Addr} {mA2 mB2 mC2 mD2 mE2 : Option Value}
    (eG2 : PySem.W.nsIn K mainGlobals "Unlike" = some (some (.ref C2))) (eX2 : K.lookup C2 = some (excClassObj nm2 q2 C2 N2 bs2 [.ref xD, .type "ValueError", .type "Exception", .type "BaseException", .type "object"] true sn2 sub2 ab2 col2 dd2 mA2 mB2 mC2 mD2 mE2 "ValueError.__new__")) (eSa2 : PySem.W.findIn K (.ref C2) "__setattr__" = some (some (.builtin "object.__setattr__"))) (eGa2 : PySem.W.findIn K (.ref C2) "__getattribute__" = some (some (.builtin "BaseException.__getattribute__"))) (eGg2 : PySem.W.findIn K (.ref C2) "__getattr__" = some none) (eNb2 : PySem.W.findIn K (.ref C2) "value" = some none) (eI2 : PySem.W.findIn K (.ref C2) "__init__" = some (some (.ref xI))) (eTi2 : PySem.W.typeIn K (.ref xI) = some (.type "function")) (eK2 : PySem.W.keepIn K (.ref C2) = true) (eE2 : PySem.W.subIn K (.ref C2) (.type "BaseException") = some true) (eT2 : PySem.W.typeIn K (.ref C2) = some (.type "type")) (eH2 : PySem.W.hasDictIn K C2 = true) (eIc2 : PySem.W.isClsIn K C2 = true) (eSs2 : PySem.W.subIn K (.ref C2) (.ref C2) = some true) (eV2 : PySem.W.subIn K (.ref C2) (.type "ValueError") = some true) (eSu2 : PySem.W.ks_superIn K C2 xD "__init__" = some (some (.builtin "ValueError.__init__"))) (eM2 : PySem.W.mroIn K C2 (.ref xD) = some true)
    (xl : K.lookup xI = some ⟨xoc, xod, .func (PySem.W.ksFn "__init__" "CaskError.__init__" (PySem.CaskX.iA ⟨5, 17, 5, 21⟩ ⟨5, 23, 5, 28⟩) (PySem.CaskX.iB "caskyears" ⟨6, 8, 6, 13⟩ ⟨6, 8, 6, 15⟩ ⟨6, 8, 6, 24⟩ ⟨6, 25, 6, 36⟩ ⟨6, 8, 6, 37⟩ ⟨6, 8, 6, 37⟩ ⟨7, 8, 7, 12⟩ ⟨7, 8, 7, 18⟩ ⟨7, 21, 7, 26⟩ ⟨7, 8, 7, 26⟩) PySem.CaskX.iS .none .none xdoc xpm xan (.ref cda) xct cc), xosl⟩) (xc1 : PySem.W.codeIn K (.ref cda) "CaskError.__init__" = true) (xcd : K.lookup cda = some ⟨xccl, xcdd, .fields xvs, xccs⟩) (xv2 : xvs[2]? = some (.str xfile xtf)) (xfl : ((l.prog.main.file : Str) == xfile) = true) (xcc : K.lookup cc = some ⟨xcl, xcld, .cell (some (.ref xD)), xcsl⟩) (xtp : (l.prog.main.scope.names.lookup ("super" : Str)).isSome = false)
    (bE : PySem.W.subIn K (.ref xD) (.type "BaseException") = some true) (bH : PySem.W.hasDictIn K xD = true) (bT : PySem.W.typeIn K (.ref xD) = some (.type "type"))
    (eSb0 : PySem.W.subIn K (.ref C0) (.ref xD) = some true)
    (eSb1 : PySem.W.subIn K (.ref C1) (.ref xD) = some true)
    (eSb2 : PySem.W.subIn K (.ref C2) (.ref xD) = some true)
    (xcg : PySem.W.specialIn K (.builtin "object.__class__") "__get__" = some (some (.builtin "getset_descriptor.__get__"))) (xct2 : PySem.W.takesIn K (.builtin "object.__class__") = some true)
    (eCa0 : PySem.W.findIn K (.ref C0) "__class__" = some (some (.builtin "object.__class__"))) (eMr0 : PySem.W.mroIn K C0 (.type "object") = some true)
    (eCa1 : PySem.W.findIn K (.ref C1) "__class__" = some (some (.builtin "object.__class__"))) (eMr1 : PySem.W.mroIn K C1 (.type "object") = some true)
    (eCa2 : PySem.W.findIn K (.ref C2) "__class__" = some (some (.builtin "object.__class__"))) (eMr2 : PySem.W.mroIn K C2 (.type "object") = some true)
    (eKv0 : PySem.W.kitOne K (.ref C0) (.type "ValueError") = some true)
    (eKv1 : PySem.W.kitOne K (.ref C1) (.type "ValueError") = some true)
    (eKv2 : PySem.W.kitOne K (.ref C2) (.type "ValueError") = some true)
    (eKn0 : PySem.W.kitOne K (.type "NoneType") (.ref C0) = some false)
    (eKo0_0 : PySem.W.kitOne K (.ref C0) (.ref C0) = some true)
    (eKo1_0 : PySem.W.kitOne K (.ref C1) (.ref C0) = some false)
    (eKo2_0 : PySem.W.kitOne K (.ref C2) (.ref C0) = some false)
    (eKn1 : PySem.W.kitOne K (.type "NoneType") (.ref C1) = some false)
    (eKo0_1 : PySem.W.kitOne K (.ref C0) (.ref C1) = some false)
    (eKo1_1 : PySem.W.kitOne K (.ref C1) (.ref C1) = some true)
    (eKo2_1 : PySem.W.kitOne K (.ref C2) (.ref C1) = some false)
    (eKn2 : PySem.W.kitOne K (.type "NoneType") (.ref C2) = some false)
    (eKo0_2 : PySem.W.kitOne K (.ref C0) (.ref C2) = some false)
    (eKo1_2 : PySem.W.kitOne K (.ref C1) (.ref C2) = some false)
    (eKo2_2 : PySem.W.kitOne K (.ref C2) (.ref C2) = some true) :
    Dn.LawAtN l w K CX0 17 63 "_law_script" mg fa h := by
  have e := hfa.symm.trans (PySem.W.mg_of X G a28)
  cases e
  exact ⟨_, @spP (tbC C0 C1 C2) K 1 Ph_law, fun s v => .of_eq rfl, fun H a ns hl hb hS => @Dn.spP_script (tbC C0 C1 C2) K Ph_law H a ns _ (fun p hp => (nomatch hp)) hS (law_true ns hl hb) rfl, fun base _ _ hNS => @ok_law (tbC C0 C1 C2) _ _ _ _ _ (wd_mk hNS X G a0 l0 c0 k0 a1 l1 c1 k1 a2 l2 c2 k2 a3 l3 c3 k3 a4 l4 c4 k4 a5 l5 c5 k5 a6 l6 c6 k6 a7 l7 c7 k7 a8 l8 c8 k8 a9 l9 c9 k9 a10 l10 c10 k10 a11 l11 c11 k11 a12 l12 c12 k12 a13 l13 c13 k13 a14 l14 c14 k14 a15 l15 c15 k15 a16 l16 c16 k16 a17 l17 c17 k17 a18 l18 c18 k18 a19 l19 c19 k19 a20 l20 c20 k20 a21 l21 c21 k21 a22 l22 c22 k22 a23 l23 c23 k23 a24 l24 c24 k24 a25 l25 c25 k25 a26 l26 c26 k26 a27 l27 c27 k27 a28 l28 c28 k28 sTr z0 z1 z2 z3 z4 z5 z6 z7 z8 z9 z10 z11 z12 y0 xaD xsup xopq xd1 eG0 eX0 eSa0 eGa0 eGg0 eNb0 eI0 eTi0 eK0 eE0 eT0 eH0 eIc0 eSs0 eV0 eSu0 eM0 eG1 eX1 eSa1 eGa1 eGg1 eNb1 eI1 eTi1 eK1 eE1 eT1 eH1 eIc1 eSs1 eV1 eSu1 eM1 eG2 eX2 eSa2 eGa2 eGg2 eNb2 eI2 eTi2 eK2 eE2 eT2 eH2 eIc2 eSs2 eV2 eSu2 eM2 xl xc1 xcd xv2 xfl xcc xtp bE bH bT eSb0 eSb1 eSb2 xcg xct2 eCa0 eMr0 eCa1 eMr1 eCa2 eMr2 eKv0 eKv1 eKv2 eKn0 eKo0_0 eKo1_0 eKo2_0 eKn1 eKo0_1 eKo1_1 eKo2_1 eKn2 eKo0_2 eKo1_2 eKo2_2)⟩
end K11
open PySem PySem.W PyProof.Rows
set_option maxHeartbeats 0 in
theorem PySem.Challenge.cw_caskyears_k11_levelled_pairs_holds : PySem.Challenge.rw_caskyears_k11_levelled_pairs.Holds := by
  w_on; o_law; k_head; (case hw => w_witness2)
  k_fill
  refine Dn.walk_ofTsN (l := PySem.Challenge.rw_caskyears_k11_levelled_pairs) (n := 63) (k := 17) (x := "_law_script") (CX := fun _ => L2.CX0) rfl (by decide) rfl ⟨⟨rfl, by decide, by decide⟩, rfl⟩ (by first | rfl | decide +kernel) (fun w h Y => PySem.W.kIn_of Y) ?F (fun _ _ _ _ _ h => h)
  case F =>
    intro w mg fa h Y KX G hmg
    refine' K11.all_mk hmg KX G ?a0 ?l0 ?c0 ?k0 ?a1 ?l1 ?c1 ?k1 ?a2 ?l2 ?c2 ?k2 ?a3 ?l3 ?c3 ?k3 ?a4 ?l4 ?c4 ?k4 ?a5 ?l5 ?c5 ?k5 ?a6 ?l6 ?c6 ?k6 ?a7 ?l7 ?c7 ?k7 ?a8 ?l8 ?c8 ?k8 ?a9 ?l9 ?c9 ?k9 ?a10 ?l10 ?c10 ?k10 ?a11 ?l11 ?c11 ?k11 ?a12 ?l12 ?c12 ?k12 ?a13 ?l13 ?c13 ?k13 ?a14 ?l14 ?c14 ?k14 ?a15 ?l15 ?c15 ?k15 ?a16 ?l16 ?c16 ?k16 ?a17 ?l17 ?c17 ?k17 ?a18 ?l18 ?c18 ?k18 ?a19 ?l19 ?c19 ?k19 ?a20 ?l20 ?c20 ?k20 ?a21 ?l21 ?c21 ?k21 ?a22 ?l22 ?c22 ?k22 ?a23 ?l23 ?c23 ?k23 ?a24 ?l24 ?c24 ?k24 ?a25 ?l25 ?c25 ?k25 ?a26 ?l26 ?c26 ?k26 ?a27 ?l27 ?c27 ?k27 ?a28 ?l28 ?c28 ?k28 ?sTr ?z0 ?z1 ?z2 ?z3 ?z4 ?z5 ?z6 ?z7 ?z8 ?z9 ?z10 ?z11 ?z12 ?y0 ?xaD ?xsup ?xopq ?xd1 ?eG0 ?eX0 ?eSa0 ?eGa0 ?eGg0 ?eNb0 ?eI0 ?eTi0 ?eK0 ?eE0 ?eT0 ?eH0 ?eIc0 ?eSs0 ?eV0 ?eSu0 ?eM0 ?eG1 ?eX1 ?eSa1 ?eGa1 ?eGg1 ?eNb1 ?eI1 ?eTi1 ?eK1 ?eE1 ?eT1 ?eH1 ?eIc1 ?eSs1 ?eV1 ?eSu1 ?eM1 ?eG2 ?eX2 ?eSa2 ?eGa2 ?eGg2 ?eNb2 ?eI2 ?eTi2 ?eK2 ?eE2 ?eT2 ?eH2 ?eIc2 ?eSs2 ?eV2 ?eSu2 ?eM2 ?xl ?xc1 ?xcd ?xv2 ?xfl ?xcc ?xtp ?bE ?bH ?bT ?eSb0 ?eSb1 ?eSb2 ?xcg ?xct2 ?eCa0 ?eMr0 ?eCa1 ?eMr1 ?eCa2 ?eMr2 ?eKv0 ?eKv1 ?eKv2 ?eKn0 ?eKo0_0 ?eKo1_0 ?eKo2_0 ?eKn1 ?eKo0_1 ?eKo1_1 ?eKo2_1 ?eKn2 ?eKo0_2 ?eKo1_2 ?eKo2_2
    (case a0 => k_is); (case l0 => k_is); (case c0 => k_is); (case k0 => k_is); (case a1 => k_is); (case l1 => k_is); (case c1 => k_is); (case k1 => k_is); (case a2 => k_is); (case l2 => k_is); (case c2 => k_is); (case k2 => k_is); (case a3 => k_is); (case l3 => k_is); (case c3 => k_is); (case k3 => k_is); (case a4 => k_is); (case l4 => k_is); (case c4 => k_is); (case k4 => k_is); (case a5 => k_is); (case l5 => k_is); (case c5 => k_is); (case k5 => k_is); (case a6 => k_is); (case l6 => k_is); (case c6 => k_is); (case k6 => k_is); (case a7 => k_is); (case l7 => k_is); (case c7 => k_is); (case k7 => k_is); (case a8 => k_is); (case l8 => k_is); (case c8 => k_is); (case k8 => k_is); (case a9 => k_is); (case l9 => k_is); (case c9 => k_is); (case k9 => k_is); (case a10 => k_is); (case l10 => k_is); (case c10 => k_is); (case k10 => k_is); (case a11 => k_is); (case l11 => k_is); (case c11 => k_is); (case k11 => k_is); (case a12 => k_is); (case l12 => k_is); (case c12 => k_is); (case k12 => k_is); (case a13 => k_is); (case l13 => k_is); (case c13 => k_is); (case k13 => k_is); (case a14 => k_is); (case l14 => k_is); (case c14 => k_is); (case k14 => k_is); (case a15 => k_is); (case l15 => k_is); (case c15 => k_is); (case k15 => k_is); (case a16 => k_is); (case l16 => k_is); (case c16 => k_is); (case k16 => k_is); (case a17 => k_is); (case l17 => k_is); (case c17 => k_is); (case k17 => k_is); (case a18 => k_is); (case l18 => k_is); (case c18 => k_is); (case k18 => k_is); (case a19 => k_is); (case l19 => k_is); (case c19 => k_is); (case k19 => k_is); (case a20 => k_is); (case l20 => k_is); (case c20 => k_is); (case k20 => k_is); (case a21 => k_is); (case l21 => k_is); (case c21 => k_is); (case k21 => k_is); (case a22 => k_is); (case l22 => k_is); (case c22 => k_is); (case k22 => k_is); (case a23 => k_is); (case l23 => k_is); (case c23 => k_is); (case k23 => k_is); (case a24 => k_is); (case l24 => k_is); (case c24 => k_is); (case k24 => k_is); (case a25 => k_is); (case l25 => k_is); (case c25 => k_is); (case k25 => k_is); (case a26 => k_is); (case l26 => k_is); (case c26 => k_is); (case k26 => k_is); (case a27 => k_is); (case l27 => k_is); (case c27 => k_is); (case k27 => k_is); (case a28 => k_is); (case l28 => k_is); (case c28 => k_is); (case k28 => k_is); (case sTr => rfl); (case z0 => k_is); (case z1 => k_is); (case z2 => k_is); (case z3 => k_is); (case z4 => k_is); (case z5 => k_is); (case z6 => k_is); (case z7 => k_is); (case z8 => k_is); (case z9 => k_is); (case z10 => k_is); (case z11 => k_is); (case z12 => k_is); (case y0 => k_is); (case xaD => k_is); (case xsup => k_is); (case xopq => k_is); (case xd1 => k_is); (case eG0 => k_is); (case eX0 => k_is); (case eSa0 => k_is); (case eGa0 => k_is); (case eGg0 => k_is); (case eNb0 => k_is); (case eI0 => k_is); (case eTi0 => k_is); (case eK0 => k_is); (case eE0 => k_is); (case eT0 => k_is); (case eH0 => k_is); (case eIc0 => k_is); (case eSs0 => first | rfl | k_is); (case eV0 => k_is); (case eSu0 => ks_is); (case eM0 => k_is); (case eG1 => k_is); (case eX1 => k_is); (case eSa1 => k_is); (case eGa1 => k_is); (case eGg1 => k_is); (case eNb1 => k_is); (case eI1 => k_is); (case eTi1 => k_is); (case eK1 => k_is); (case eE1 => k_is); (case eT1 => k_is); (case eH1 => k_is); (case eIc1 => k_is); (case eSs1 => first | rfl | k_is); (case eV1 => k_is); (case eSu1 => ks_is); (case eM1 => k_is); (case eG2 => k_is); (case eX2 => k_is); (case eSa2 => k_is); (case eGa2 => k_is); (case eGg2 => k_is); (case eNb2 => k_is); (case eI2 => k_is); (case eTi2 => k_is); (case eK2 => k_is); (case eE2 => k_is); (case eT2 => k_is); (case eH2 => k_is); (case eIc2 => k_is); (case eSs2 => first | rfl | k_is); (case eV2 => k_is); (case eSu2 => ks_is); (case eM2 => k_is); (case xl => k_is); (case xc1 => k_is); (case xcd => k_is); (case xv2 => rfl); (case xfl => first | rfl | decide +kernel); (case xcc => k_is); (case xtp => decide +kernel); (case bE => k_is); (case bH => k_is); (case bT => k_is); (case eSb0 => first | rfl | k_is); (case eSb1 => first | rfl | k_is); (case eSb2 => first | rfl | k_is); (case xcg => k_is); (case xct2 => k_is); (case eCa0 => k_is); (case eMr0 => k_is); (case eCa1 => k_is); (case eMr1 => k_is); (case eCa2 => k_is); (case eMr2 => k_is); (case eKv0 => first | rfl | kit_is | k_is); (case eKv1 => first | rfl | kit_is | k_is); (case eKv2 => first | rfl | kit_is | k_is); (case eKn0 => first | rfl | kit_is | k_is); (case eKo0_0 => first | rfl | kit_is | k_is); (case eKo1_0 => first | rfl | kit_is | k_is); (case eKo2_0 => first | rfl | kit_is | k_is); (case eKn1 => first | rfl | kit_is | k_is); (case eKo0_1 => first | rfl | kit_is | k_is); (case eKo1_1 => first | rfl | kit_is | k_is); (case eKo2_1 => first | rfl | kit_is | k_is); (case eKn2 => first | rfl | kit_is | k_is); (case eKo0_2 => first | rfl | kit_is | k_is); (case eKo1_2 => first | rfl | kit_is | k_is); (case eKo2_2 => first | rfl | kit_is | k_is)
