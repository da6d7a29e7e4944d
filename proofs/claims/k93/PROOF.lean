import PyProof.Rows.All
import Wide.All
import OpenK.AllK
import Wide.FinOn
import HandS.ForMost
import HandS.Star
import HandS.TupAny
import HandS.Deep
import HandS.Conv
import HandS.Replace
import HandS.ReplaceLit
import HandS.TryMany
import HandS.ExcOwn
import HandS.ExcIs
import HandS.IsInst
import HandS.WordsExc
import HandS.NoneIn
import HandS.SortInts
import HandS.TupMul
import HandS.DeepEq
import HandS.Strs
import HandS.StrMore
import PyProof.Rows.SumAny
import PyProof.WalksMore
import PyProof.ReprBulk
import KE.GoesRaise
import HandS.Walk
import PySem.Challenge.RW_scarpface_k93_trees_joined_and_cut
set_option Elab.async false
set_option linter.all false
set_option maxHeartbeats 2000000
set_option maxRecDepth 100000
/-! own layer over HandS: a def's promise where no guard stands around (so that repr can be called) -/
namespace Sf
open PySem PySem.Spec PyProof.Rows L2
/-- as FnOk, but only where no guard (of repr) runs around -/
structure FnG (Pg : Program) (wo : World) (Kf : PySem.W.Frag) (glo : Str → Option Value) (bs : Heap) (cx : CXT) (lv : Nat) (ad : Addr) (fu : FuncData) (pl : List Str) (pr : Sp) : Prop where
  len : ∀ a b c d, pr a b c d → a.length = pl.length
  go : ∀ (R : Around) (out : List Env) (st : Shared) (Hh : Hp) (ar : Args) (uu : List Value) (vv : List V) (q : VK) (x : XK), R.guards = some [] → Room lv R → Env0 Pg wo Kf glo bs R out st Hh →
    BindsTo st fu ar (pl.zip uu) → Vals vv uu → pr vv Hh q x → codeAny (model Pg wo) R (.call (.ref ad) ar) (CR cx out Pg wo Hh st q x) st
theorem FnG.of {Pg : Program} {wo : World} {Kf : PySem.W.Frag} {glo : Str → Option Value} {bs : Heap} {cx : CXT} {lv : Nat} {ad : Addr} {fu : FuncData} {pl : List Str} {pr : Sp} (F : FnOk Pg wo Kf glo bs cx lv ad fu pl pr) : FnG Pg wo Kf glo bs cx lv ad fu pl pr :=
  ⟨F.len, fun R out st Hh ar uu vv q x _ => F.run R out st Hh ar uu vv q x⟩
theorem FnG.up {Pg : Program} {wo : World} {Kf : PySem.W.Frag} {glo : Str → Option Value} {bs : Heap} {cx : CXT} {lv lw : Nat} {ad : Addr} {fu : FuncData} {pl : List Str} {pr : Sp} (F : FnG Pg wo Kf glo bs cx lv ad fu pl pr) (h : lv ≤ lw) :
    FnG Pg wo Kf glo bs cx lw ad fu pl pr := ⟨F.len, fun R out st Hh ar uu vv q x g r => F.go R out st Hh ar uu vv q x g (r.mono h)⟩
section
variable {X : Cx} {cx : CXT} {lv : Nat} {ad C : Addr} {fu : FuncData} {pl : List Str} {pr : Sp} {E : XK}
/-- the callee runs -/
theorem go_fn {pins : List (Addr × Obj)} {sl : L2.St} {Hh : Hp} {st : Shared} {q : VK} {uu : List Value} {vv : List V} (F : FnG X.prog X.w X.K X.mg X.base cx lv ad fu pl pr) (gd : X.A.guards = some []) (ro : Room lv X.A) (bi : Binds X.K fu pl [])
    (ps : Passes cx X E) (I : Inv X pins sl Hh st) (rv : Vals vv uu) (h : pr vv Hh q E) : wpAny (model X.prog X.w) X.A (call (.ref ad) uu) (EP X pins sl q) X.xe st := by
  have ln : uu.length = pl.length := rv.length.symm.trans (F.len _ _ _ _ h)
  have bt : BindsTo st fu ⟨uu, []⟩ (pl.zip uu) := by
    have z := bi st uu I.kIn (by rw [List.append_nil]; exact ln)
    rw [List.append_nil] at z
    exact z
  refine wpAny_call (codeAny_mono (F.go X.A X.stack st Hh ⟨uu, []⟩ uu vv q E gd ro I.env0 bt rv h) fun res st' done => ?_)
  match res, done with
  | .error e, done => exact ps pins sl Hh st e st' I done
  | .ok (.ret u), done => exact I.after done
  | .ok .next, done => exact done.elim
  | .ok .brk, done => exact done.elim
  | .ok .cont, done => exact done.elim
end
/-- a def of the top: where it stands, its name, how it binds -/
structure Df (Kf : PySem.W.Frag) (glo : Str → Option Value) (x : Str) (st : Stmt) (pl : List Str) (ad : Addr) (fu : FuncData) : Prop where
  F : Fun Kf x x st ad fu
  m : glo x = some (.ref ad)
  b : Binds Kf fu pl []
def rCallG (pr : Sp) (E : XK) (t : TA) : TE := fun sl Hh q => t sl Hh fun vv H1 => pr vv H1 q E
section
variable {X : Cx} {cx : CXT} {lv : Nat} {ad : Addr} {fu : FuncData} {pl : List Str} {pr : Sp} {E : XK} {x : Str} {st : Stmt} {p pos : Pos} {e : Expr} {es : List Expr} {t : TA}
/-- f(e, ..), f a def of the top -/
theorem pe_callG (D : Df X.K X.mg x st pl ad fu) (F : FnG X.prog X.w X.K X.mg X.base cx lv ad fu pl pr) (gd : X.A.guards = some []) (ro : Room lv X.A) (ps : Passes cx X E) (ha : PA X (e :: es) t) (hg : Gl X x := by rfl)
    (dbg : (x == ("__debug__" : Str)) = false := by decide) (hst : starEach (e :: es) X.env = (false, eval e X.env) :: starEach es X.env := by rfl) (hbk : (backTo pos (starEach es X.env)).any (·.1) = false := by rfl) :
    PE X (.Call (.Name x p) (e :: es) [] pos) (rCallG pr E t) := by
  constructor
  intro pins s σ H Q I h
  apply wpAny_Call_Name_kw
  apply ld_glob I hg D.m _ dbg
  apply PySem.W.callWith_K (h₀ := X.base) I.ok.mod.kin D.F.kp _ hst hbk
  exact thn (ha.run pos pins s σ H _ I h) fun uu s1 ⟨vv, H1, I1, rv, hq⟩ => ⟨I1.kIn, go_fn F gd ro D.b ps I1 rv hq⟩
/-- f() -/
theorem pe_callG0 (D : Df X.K X.mg x st pl ad fu) (F : FnG X.prog X.w X.K X.mg X.base cx lv ad fu pl pr) (gd : X.A.guards = some []) (ro : Room lv X.A) (ps : Passes cx X E) (hg : Gl X x := by rfl)
    (dbg : (x == ("__debug__" : Str)) = false := by decide) : PE X (.Call (.Name x p) [] [] pos) (rCallG pr E tNil) := by
  constructor
  intro pins s σ H Q I h
  apply wpAny_Call_Name_kw
  apply ld_glob I hg D.m _ dbg
  exact PySem.W.callWith_K0 I.kIn D.F.kp (go_fn (uu := []) F gd ro D.b ps I .nil h)
end
/-- what a body's derivation shows -/
def Body (Pg : Program) (wo : World) (Kf : PySem.W.Frag) (glo : Str → Option Value) (bs : Heap) (lv : Nat) (x : Str) (st : Stmt) (ad : Addr) (nm : List Str) (t : TS) : Prop :=
  ∀ (cdv : Value) (R : Around) (out : List Env) (s : Shared) (Hh : Hp) (E : XK), R.guards = some [] → Room lv (R.deeper (envOfC x (defScope st) s.heap.objs.size ad cdv)) →
    PSs (cxOf CX0 Pg wo Kf glo bs nm x (defScope st) ad cdv R out s Hh E).nox (defBody st) t
theorem ok_fun {Pg : Program} {wo : World} {Kf : PySem.W.Frag} {glo : Str → Option Value} {bs : Heap} {lv : Nat} {x : Str} {st : Stmt} {ad : Addr} {fu : FuncData} {nm pl : List Str} {pr : Sp} {t : TS} (F : Fun Kf x x st ad fu) (S : FnScope nm pl (defScope st))
    (len : ∀ a b c d, pr a b c d → a.length = pl.length) (B : Body Pg wo Kf glo bs lv x st ad nm t) (h : ∀ vv Hh q E, pr vv Hh q E → t { nx := fun _ H' => q .non H', rt := q } (start nm vv) Hh) :
    FnG Pg wo Kf glo bs CX0 (lv + 1) ad fu pl pr := by
  obtain ⟨oc, od, kV, doc, pm, an, cdv, ct, osl, rfl, lk, hcd⟩ := F.ex
  refine ⟨len, fun R out s Hh ar uu vv q E gd ro e0 bt rv hp => ?_⟩
  have ln := len _ _ _ _ hp
  have inK : Kf.In s.heap := e0.mod.kin.keeps fun b o e => (e0.bs b o e).1
  have nol : s.heap.NoLimit := e0.mod.nolimit.keeps fun b o e => (e0.bs b o e).1
  refine codeAny_call_function ro.depth (inK _ _ lk) rfl S.co S.gen rfl (PySem.W.codeRec_of inK hcd) (bt _ _ _ _ ?_)
  refine wpAny_newFunctionEnv_cells S.kind (fun ⟨n, v⟩ hy => ?_) fun env he s1 ic => ?_
  · cases S.par n (List.of_mem_zip hy).1 with
    | inl z => exact Or.inl z
    | inr z => exact Or.inr ⟨z, PySem.W.cellsFrom_some _ _ _ (Or.inl z)⟩
  · subst he
    refine ⟨nol.keeps ic.toInCall.keep, codeAny_func ?_⟩
    have I0 := inv_start (CX := CX0) (E := E) S ro.hd e0 ln rv ic
    have I : Inv (cxOf CX0 Pg wo Kf glo bs nm x (defScope st) ad cdv R out s Hh E).nox [] (start nm vv) Hh s1 := I0.wish _
    refine wpAny_mono ((B cdv R out s Hh E gd (ro.deeper _)).run [] s1 (start nm vv) Hh _ I (h vv Hh q E hp)) (fun fl s' hs => ?_) fun e s' hs => hs.elim
    match fl, hs with
    | .ret u, ⟨v, σ', H', J, rv', qv⟩ => exact ⟨v, H', J.os, J.bare, J.base, J.hok, rv', qv⟩
    | .next, ⟨σ', H', J, qv⟩ => exact ⟨V.non, H', J.os, J.bare, J.base, J.hok, rfl, qv⟩
    | .brk, ⟨_, _, _, z⟩ => exact z.elim
    | .cont, ⟨_, _, _, z⟩ => exact z.elim
/-! ### repr of data -/
def rReprD (Kf : PySem.W.Frag) : List V → Hp → VK → Prop := fun vv Hh q => ∃ a d, vv = [V.ref a] ∧ Dp Kf Hh (V.ref a) d ∧ d.showable = true ∧ d.hasDict = false ∧ d.depth ≤ 60 ∧ d.shown.length ≤ sizeLine ∧ q (.str d.shown) Hh
theorem call_reprD {X : Cx} (gd : X.A.guards = some []) (hu : X.A.units + 64 < cLine) : CallR X (.builtin "repr") (rReprD X.K) := by
  intro pins s σ H xs us Q I rv h
  obtain ⟨a, d, rfl, dp, sh, nd, de, sz, q⟩ := h
  cases rv with
  | cons r0 rn =>
    cases rn
    obtain rfl := r0
    obtain ⟨as, rd⟩ := Dp.reads I d _ _ dp rfl
    exact repr_of_reads' rd sh (PyData.noDict_hsm nd) gd (by omega) (fun _ _ e => e) (fun h' u tk kp => ⟨.str d.shown, H, I.kept (t' := tk) kp, ⟨u, rfl⟩, q⟩) sz
end Sf
namespace Sf
open PySem PySem.Spec PyProof.Rows L2
/-! ### short names of readings -/
abbrev rdAdd : R2 := rI0 fun i j => .int (i + j)
abbrev rdSub : R2 := rI0 fun i j => .int (i - j)
abbrev rdMul : R2 := rI CMul fun i j => .int (i * j)
abbrev rdDiv : R2 := rI CDiv fun i j => .int (i / j)
abbrev rdMod : R2 := rI (fun _ j => 0 < j) fun i j => .int (i % j)
abbrev rdPow : R2 := rI CPow fun i j => .int (i ^ j.toNat)
abbrev rdLt : R2 := rI0 fun i j => .bl (decide (i < j))
abbrev rdLe : R2 := rI0 fun i j => .bl (decide (i ≤ j))
abbrev rdGt : R2 := rI0 fun i j => .bl (decide (j < i))
abbrev rdGe : R2 := rI0 fun i j => .bl (decide (j ≤ i))
abbrev rdAddS : R2 := fun u v H Q => ∃ i j, u = .str i ∧ v = .str j ∧ i.length + j.length ≤ sizeLine ∧ Q (.str (i ++ j)) H
abbrev rdLtS : R2 := fun u v H Q => ∃ i j, u = .str i ∧ v = .str j ∧ Q (.bl (decide (i.cps.toList < j.cps.toList))) H
abbrev rdLeS : R2 := fun u v H Q => ∃ i j, u = .str i ∧ v = .str j ∧ Q (.bl (!decide (j.cps.toList < i.cps.toList))) H
abbrev rdIsN : R2 := fun u v H Q => v = .non ∧ Q (.bl (decide (u = .non))) H
abbrev rdNotN : R2 := fun u v H Q => v = .non ∧ Q (.bl (!decide (u = .non))) H
abbrev rdInS : R2 := fun u v H Q => ∃ (c : Nat) (z : Str), u = .str ⟨#[c]⟩ ∧ v = .str z ∧ Q (.bl (decide (c ∈ z.cps.toList))) H
abbrev rdNotInS : R2 := fun u v H Q => ∃ (c : Nat) (z : Str), u = .str ⟨#[c]⟩ ∧ v = .str z ∧ Q (.bl (!decide (c ∈ z.cps.toList))) H
abbrev rInKd (K : PySem.W.Frag) (d : Addr) : R2 := fun u v H Q => ∃ (z : Str) (r : Option Value), u = .str z ∧ v = .ref d ∧ PySem.W.nsIn K d z = some r ∧ Q (.bl r.isSome) H
abbrev rItemKd (K : PySem.W.Frag) (d : Addr) : R2 := fun u v H Q => ∃ (z : Str) (u0 : Value) (j : Int), u = .ref d ∧ v = .str z ∧ PySem.W.nsIn K d z = some (some u0) ∧ RelV (.int j) u0 ∧ Q (.int j) H
abbrev rdLen (K : PySem.W.Frag) : List V → Hp → VK → Prop := fun a H Q => ∃ p ys, a = [.ref p] ∧ (SqL K H p ys ∨ SqT K H p ys) ∧ Q (.int ys.length) H
abbrev rdLenS : List V → Hp → VK → Prop := fun a H Q => ∃ z, a = [.str z] ∧ z.length ≤ sizeLine ∧ Q (.int z.length) H
abbrev rdAbs : List V → Hp → VK → Prop := fun a H Q => ∃ i, a = [.int i] ∧ Q (.int (if i < 0 then -i else i)) H
abbrev rdMin2 : List V → Hp → VK → Prop := fun a H Q => ∃ i j, a = [.int i, .int j] ∧ Q (.int (if j < i then j else i)) H
abbrev rdMax2 : List V → Hp → VK → Prop := fun a H Q => ∃ i j, a = [.int i, .int j] ∧ Q (.int (if j > i then j else i)) H
abbrev rdInt : List V → Hp → VK → Prop := fun a H Q => (∃ i, a = [.int i] ∧ Q (.int i) H) ∨ ∃ k, a = [.bl k] ∧ Q (.int (if k then 1 else 0)) H
abbrev rdIntS : List V → Hp → VK → Prop := fun xs H Q => ∃ a n, xs = [.str a] ∧ PySem.intText? a = some n ∧ a.length ≤ 640 ∧ Q (.int n) H
abbrev rdStr : List V → Hp → VK → Prop := fun a H Q => ∃ i, a = [.int i] ∧ i.natAbs.log2 < 1920 ∧ Q (.str (toString i)) H
abbrev rdTuple (K : PySem.W.Frag) : List V → Hp → VK → Prop := fun a H Q => ∃ p ys, a = [.ref p] ∧ ((SqL K H p ys ∧ ∀ l, H l = none → Q (.ref l) (upd H l (.tup ys))) ∨ (SqT K H p ys ∧ Q (.ref p) H))
abbrev rdList (K : PySem.W.Frag) : List V → Hp → VK → Prop := fun a H Q => ∃ p ys, a = [.ref p] ∧ (SqL K H p ys ∨ SqT K H p ys) ∧ ∀ l, H l = none → Q (.ref l) (upd H l (.lst ys))
abbrev rdSplit : V → List V → Hp → VK → Prop := fun u xs H Q => ∃ a b, u = .str a ∧ xs = [.str b] ∧ (b.length == 0) = false ∧ a.length + 2 ≤ sizeLine ∧ rNewStrs (Txt.split a b) H Q
abbrev rdJoin (K : PySem.W.Frag) : V → List V → Hp → VK → Prop := fun u xs H Q => ∃ a p, ∃ ys : List Str, u = .str a ∧ xs = [.ref p] ∧ (SqL K H p (ys.map V.str) ∨ SqT K H p (ys.map V.str)) ∧
  (ys.map (·.length)).sum + ys.length * a.length ≤ 16777216 ∧ Q (.str (Txt.join a ys)) H
/-! ### rules of our own -/
/-- the module's name x holds the value v -/
def Gc (glo : Str → Option Value) (x : Str) (v : V) : Prop := ∃ u, glo x = some u ∧ RelV v u
theorem pe_globE {X : Cx} {x : Str} {v : V} {pos : Pos} (hg : Gl X x) (h : Gc X.mg x v) (hd : (x == ("__debug__" : Str)) = false := by decide) : PE X (.Name x pos) (tC v) := by
  obtain ⟨u, e, r⟩ := h
  exact pe_glob hg e r hd
/-- d[k], d a written dict with text keys, the value an int -/
theorem ix_kd {X : Cx} {d : Addr} {es : Array DictEntry} {n : Nat} (D : KDict X.K X.w d es n) : IxR X (rItemKd X.K d) := by
  intro value slice pins s σ H x y v u Q I rx ry ⟨z, u0, j, ex, ey, e, r, q⟩ hs
  subst ex
  obtain rfl : v = Value.ref d := rx
  refine subscriptTail_builtin_flat (kd_type D I) PySem.F.slot_dict_getitem.lookup (wpAny_mono (op_item_kd D pins s σ H (.ref d) y (.ref d) u (fun w H1 => (∃ k, w = V.int k) ∧ Q w H1) I rfl ry ⟨z, u0, .int j, rfl, ey, e, r, ⟨j, rfl⟩, q⟩) (fun w s1 h => ?_) fun _ _ z => z) hs
  obtain ⟨w', H1, I1, rw', ⟨k, ek⟩, q1⟩ := h
  subst ek
  obtain ⟨t, et⟩ := id rw'
  subst et
  exact ⟨fun a => nofun, .int k, H1, I1, rw', q1⟩
theorem hu64 {k : Nat} {A : Around} (r : Room k A) : A.units + 64 < cLine := r.units
/-! ### heaps -/
section
variable {K : PySem.W.Frag} {H H' : Hp} {p q a : Addr} {o u : HO} {xs : List V} {v : V} {d : PyData}
theorem g_same : upd H p o p = some o := upd_same
theorem g_new (hr : H p = none) (h : H q = some u) : upd H p o q = some u := by rw [upd_ne (ne_of_none h hr)]; exact h
theorem g_mut (hn : q ≠ p) (h : H q = some u) : upd H p o q = some u := by rw [upd_ne hn]; exact h
theorem n_new (hn : q ≠ p) (h : H q = none) : upd H p o q = none := by rw [upd_ne hn]; exact h
/-- all is kept, the objects at the addresses S aside -/
def Kp (S : List Addr) (H H' : Hp) : Prop := ∀ b o, H b = some o → b ∉ S → H' b = some o
theorem Kp.refl (S : List Addr) (H : Hp) : Kp S H H := fun _ _ h _ => h
theorem Kp.trans {S : List Addr} {H0 H1 H2 : Hp} (a : Kp S H0 H1) (b : Kp S H1 H2) : Kp S H0 H2 := fun c o h n => b c o (a c o h n) n
theorem Kp.new {S : List Addr} {H0 H1 : Hp} (k : Kp S H0 H1) (h : H1 p = none) : Kp S H0 (upd H1 p o) := fun b u e n => g_new h (k b u e n)
theorem Kp.mut {S : List Addr} {H0 H1 : Hp} (k : Kp S H0 H1) (h : p ∈ S) : Kp S H0 (upd H1 p o) := fun b u e n => g_mut (fun z => n (z ▸ h)) (k b u e n)
/-- what H0 doesn't know may change -/
theorem Kp.own {S : List Addr} {H0 H1 : Hp} (k : Kp S H0 H1) (h : H0 p = none) : Kp S H0 (upd H1 p o) := fun b u e n => g_mut (ne_of_none e h) (k b u e n)
theorem Kp.sub {S S' : List Addr} {H0 H1 : Hp} (k : Kp S H0 H1) (h : ∀ x ∈ S, x ∈ S') : Kp S' H0 H1 := fun b o e n => k b o e fun z => n (h b z)
theorem Kp.get {S : List Addr} (k : Kp S H H') (n : q ∉ S) (h : H q = some u) : H' q = some u := k q u h n
theorem Kp.free {S : List Addr} (k : Kp S H H') (n : q ∉ S) (h : H' q = none) : H q = none := by
  cases e : H q with
  | none => rfl
  | some z => rw [k q z e n] at h; cases h
theorem Kp.rd {S : List Addr} (k : Kp S H H') (n : a ∉ S) (h : Rd H a u) : Rd H' a u := by
  rcases h with h | ⟨z, h⟩
  · exact .inl (k _ _ h n)
  · exact .inr ⟨z, k _ _ h n⟩
theorem Kp.sqL {S : List Addr} (k : Kp S H H') (n : a ∉ S) (h : SqL K H a xs) : SqL K H' a xs := by
  rcases h with h | h
  · exact .inl (k.rd n h)
  · exact .inr h
theorem Kp.sqT {S : List Addr} (k : Kp S H H') (n : a ∉ S) (h : SqT K H a xs) : SqT K H' a xs := by
  rcases h with h | h
  · exact .inl (k.rd n h)
  · exact .inr h
mutual
theorem Kp.dp0 (k : Kp [] H H') : ∀ {v : V} {d : PyData}, Dp K H v d → Dp K H' v d
  | _, _, .non => .non
  | _, _, .bl b => .bl b
  | _, _, .int i => .int i
  | _, _, .str x => .str x
  | _, _, .lst h r => .lst (k.sqL (by simp) h) (Kp.dps0 k r)
  | _, _, .tup h r => .tup (k.sqT (by simp) h) (Kp.dps0 k r)
theorem Kp.dps0 (k : Kp [] H H') : ∀ {vs : List V} {ds : List PyData}, DpAll K H vs ds → DpAll K H' vs ds
  | _, _, .nil => .nil
  | _, _, .cons h r => .cons (Kp.dp0 k h) (Kp.dps0 k r)
end
theorem kp_new (h : H p = none) : Kp [] H (upd H p o) := (Kp.refl [] H).new h
end
/-! ### data without lists: it stands whatever else is written -/
mutual
def noL : PyData → Bool
  | .none => true
  | .bool _ => true
  | .int _ => true
  | .str _ => true
  | .tuple xs => noLs xs
  | _ => false
def noLs : List PyData → Bool
  | [] => true
  | x :: r => noL x && noLs r
end
/-- tuples (and what is known) stand -/
def Tk (H H' : Hp) : Prop := (∀ b xs, H b = some (.tup xs) → H' b = some (.tup xs)) ∧ ∀ b z u, H b = some (.frz z u) → H' b = some (.frz z u)
section
variable {K : PySem.W.Frag} {H H' H'' : Hp} {p q a : Addr} {o u : HO} {xs : List V} {v : V} {d : PyData}
theorem Tk.refl (H : Hp) : Tk H H := ⟨fun _ _ h => h, fun _ _ _ h => h⟩
theorem Tk.trans (a : Tk H H') (b : Tk H' H'') : Tk H H'' := ⟨fun c x h => b.1 c x (a.1 c x h), fun c z u h => b.2 c z u (a.2 c z u h)⟩
theorem Tk.new (k : Tk H H') (h : H' p = none) : Tk H (upd H' p o) := ⟨fun c x e => g_new h (k.1 c x e), fun c z u e => g_new h (k.2 c z u e)⟩
theorem Tk.lst {ys : List V} (k : Tk H H') (h : H' p = some (.lst ys)) : Tk H (upd H' p o) := by
  refine ⟨fun c x e => g_mut ?_ (k.1 c x e), fun c z u e => g_mut ?_ (k.2 c z u e)⟩
  · rintro rfl
    rw [k.1 c x e] at h; cases h
  · rintro rfl
    rw [k.2 c z u e] at h; cases h
theorem Tk.sqT (k : Tk H H') (h : SqT K H a xs) : SqT K H' a xs := by
  rcases h with h | h
  · rcases h with h | ⟨z, h⟩
    · exact .inl (.inl (k.1 _ _ h))
    · exact .inl (.inr ⟨z, k.2 _ _ _ h⟩)
  · exact .inr h
theorem Kp.tk (k : Kp [] H H') : Tk H H' := ⟨fun b xs h => k b _ h (by simp), fun b z u h => k b _ h (by simp)⟩
mutual
theorem Tk.dp (k : Tk H H') : ∀ {v : V} {d : PyData}, noL d = true → Dp K H v d → Dp K H' v d
  | _, _, _, .non => .non
  | _, _, _, .bl b => .bl b
  | _, _, _, .int i => .int i
  | _, _, _, .str x => .str x
  | _, _, n, .lst h r => by simp [noL] at n
  | _, _, n, .tup h r => .tup (k.sqT h) (Tk.dps k (by simpa [noL] using n) r)
theorem Tk.dps (k : Tk H H') : ∀ {vs : List V} {ds : List PyData}, noLs ds = true → DpAll K H vs ds → DpAll K H' vs ds
  | _, _, _, .nil => .nil
  | _, _, n, .cons h r => .cons (Tk.dp k (by simp [noLs] at n; exact n.1) h) (Tk.dps k (by simp [noLs] at n; exact n.2) r)
end
/-- the only object that may change is a list -/
theorem Kp.tk1 {ys : List V} (k : Kp [p] H H') (h : H p = some (.lst ys)) : Tk H H' := by
  refine ⟨fun b x e => k b _ e ?_, fun b z u e => k b _ e ?_⟩
  · intro z
    have z' : b = p := by simpa using z
    subst z'
    rw [h] at e; cases e
  · intro z2
    have z' : b = p := by simpa using z2
    subst z'
    rw [h] at e; cases e
end
/-! ### data of a kind -/
theorem dps_strs {K : PySem.W.Frag} {H : Hp} : ∀ (xs : List Str), DpAll K H (xs.map V.str) (xs.map PyData.str)
  | [] => .nil
  | x :: r => .cons (.str x) (dps_strs r)
theorem dps_ints {K : PySem.W.Frag} {H : Hp} : ∀ (xs : List Int), DpAll K H (xs.map V.int) (xs.map PyData.int)
  | [] => .nil
  | x :: r => .cons (.int x) (dps_ints r)
theorem dps_app {K : PySem.W.Frag} {H : Hp} : ∀ {xs ys : List V} {ds es : List PyData}, DpAll K H xs ds → DpAll K H ys es → DpAll K H (xs ++ ys) (ds ++ es)
  | _, _, _, _, .nil, h => h
  | _, _, _, _, .cons a r, h => .cons a (dps_app r h)
theorem dps_len {K : PySem.W.Frag} {H : Hp} : ∀ {xs : List V} {ds : List PyData}, DpAll K H xs ds → xs.length = ds.length
  | _, _, .nil => rfl
  | _, _, .cons a r => by simp [dps_len r]
end Sf
namespace Sf
open PySem PySem.Spec PyProof.Rows L2
/-- a written dict of texts to ints, as it is asked -/
def KdInts (K : PySem.W.Frag) (d : Addr) (m : List (Str × Int)) : Prop := ∀ z : Str, ∃ r, PySem.W.nsIn K d z = some r ∧ (m.lookup z = none → r = none) ∧ ∀ i, m.lookup z = some i → ∃ t, r = some (Value.int i t)
/-- the law's source of numbers: the list at st holds the address nu of its numbers and how many were drawn, at most n -/
def StB (H : Hp) (st nu : Addr) (n : Nat) : Prop := ∃ (k : Nat) (ns : List Int), k ≤ n ∧ H st = some (.lst [.ref nu, .int (k : Int)]) ∧ H nu = some (.lst (ns.map V.int)) ∧ nu ≠ st ∧ ns ≠ [] ∧ ns.length ≤ 100000 ∧ ∀ x ∈ ns, 0 ≤ x ∧ x < 1009
theorem StB.new {H : Hp} {st nu p : Addr} {n : Nat} {o : HO} (s : StB H st nu n) (h : H p = none) : StB (upd H p o) st nu n := by
  obtain ⟨k, ns, a, b, c, d⟩ := s
  exact ⟨k, ns, a, g_new h b, g_new h c, d⟩
theorem StB.mut {H : Hp} {st nu p : Addr} {n : Nat} {o : HO} (s : StB H st nu n) (h1 : p ≠ st) (h2 : p ≠ nu) : StB (upd H p o) st nu n := by
  obtain ⟨k, ns, a, b, c, d⟩ := s
  exact ⟨k, ns, a, g_mut (Ne.symm h1) b, g_mut (Ne.symm h2) c, d⟩
theorem StB.kp {H H' : Hp} {st nu : Addr} {n : Nat} (s : StB H st nu n) (k : Kp [] H H') : StB H' st nu n := by
  obtain ⟨j, ns, a, b, c, d⟩ := s
  exact ⟨j, ns, a, k _ _ b (by simp), k _ _ c (by simp), d⟩
theorem StB.le {H : Hp} {st nu : Addr} {n m : Nat} (s : StB H st nu n) (h : n ≤ m) : StB H st nu m := by
  obtain ⟨j, ns, a, d⟩ := s
  exact ⟨j, ns, Nat.le_trans a h, d⟩
/-- what is new is neither the one nor the other -/
theorem StB.ne {H : Hp} {st nu p : Addr} {n : Nat} (s : StB H st nu n) (h : H p = none) : p ≠ st ∧ p ≠ nu := by
  obtain ⟨j, ns, a, b, c, d⟩ := s
  exact ⟨Ne.symm (ne_of_none b h), Ne.symm (ne_of_none c h)⟩
theorem StB.tk {H H' : Hp} {st nu : Addr} {n : Nat} (s : StB H st nu n) (k : Kp [st] H H') : Tk H H' := by
  obtain ⟨j, ns, a, b, c⟩ := s
  exact k.tk1 b
def bigN : Nat := 1000000000
/-! ### texts -/
def alpha : List Nat := (Str.ofString "abcdefghijklmnopqrstuvwxyz").cps.toList
def digs : List Nat := (Str.ofString "0123456789").cps.toList
def isL (x : Str) : Bool := decide (0 < x.length) && x.cps.toList.all fun c => decide (c ∈ alpha)
def isN (x : Str) : Bool := decide (1 ≤ x.length ∧ x.length ≤ 7) && (x.cps.toList.all fun c => decide (c ∈ digs)) && (decide (x = "0") || decide (x.cps.toList.head? ≠ some 48))
def intOf (x : Str) : Int := (PySem.intText? x).getD 0
/-- signs of small numbers only -/
def Sm (x : Str) : Prop := ∀ c ∈ x.cps.toList, c < 200
end Sf
namespace Sf
open PySem PySem.Spec PyProof.Rows L2
theorem sz {n : Nat} (h : n ≤ 16777216) : n ≤ sizeLine := Nat.le_trans h (by decide)
theorem szl {n : Nat} (h : n < 16777216) : n < sizeLine := Nat.lt_of_lt_of_le h (by decide)
/-! ### comprehensions -/
theorem wipe_one (σ : L2.St) (j : Nat) (v : Option V) : wipe ((wipe σ [j]).set j v) [j] = wipe σ [j] := by
  show (((σ.set j none).set j v).set j none) = σ.set j none
  rw [List.set_set, List.set_set]
/-- over a text's signs -/
theorem lc_str {x : Str} {g : TG} {tt : TT} {te : TE} {vs : List Nat} {σ : L2.St} {H1 : Hp} {D : Addr} {Qd : Hp → Prop} (Pv : Nat → Hp → Prop) (h0 : Pv 0 (upd H1 D (.lst [])))
    (hs : ∀ i c H, x.cps[i]? = some c → Pv i H → g (.str ⟨#[c]⟩) (wipe σ vs) H fun σ2 H2 => wipe σ2 vs = wipe σ vs ∧ tt σ2 H2 fun b H3 =>
      if b = true then te σ2 H3 fun y H4 => ∃ acc, H4 D = some (.lst acc) ∧ acc.length < sizeLine ∧ Pv (i + 1) (upd H4 D (.lst (acc ++ [y]))) else Pv (i + 1) H3) (hd : ∀ H, Pv x.cps.size H → Qd H) :
    ∃ W : Nat → Nat → Hp → Prop, (∃ m, W 0 m (upd H1 D (.lst []))) ∧ ∀ i m H, W i m H →
      ((Its x).stop i H ∧ Qd H) ∨ ((Its x).go i H ∧ ∃ Nx : Hp → Prop, (∀ H', Nx H' → ∃ m', m' < m ∧ W (i + 1) m' H') ∧ ∀ v H', (Its x).yld i H v H' → g v (wipe σ vs) H' fun σ2 H2 => wipe σ2 vs = wipe σ vs ∧ tt σ2 H2 fun b H3 =>
        if b = true then te σ2 H3 fun y H4 => ∃ acc, H4 D = some (.lst acc) ∧ acc.length < sizeLine ∧ Nx (upd H4 D (.lst (acc ++ [y]))) else Nx H3) := by
  refine ⟨fun i m H => m = x.cps.size - i ∧ i ≤ x.cps.size ∧ Pv i H, ⟨x.cps.size, by simp, Nat.zero_le _, h0⟩, ?_⟩
  rintro i m H ⟨rfl, hi, p⟩
  by_cases hlt : i < x.cps.size
  · refine Or.inr ⟨hlt, Pv (i + 1), fun H' p' => ⟨x.cps.size - (i + 1), by omega, rfl, hlt, p'⟩, fun v H' y => ?_⟩
    obtain ⟨rfl, c, hc, rfl⟩ := y
    exact hs i c H' hc p
  · have e : i = x.cps.size := by omega
    subst e
    exact Or.inl ⟨Nat.le_refl _, hd H p⟩
section
variable {K : PySem.W.Frag} {σ : L2.St} {H : Hp} {j : Nat} {tt : TT} {te t0 : TE} {Q : VK}
theorem lt_get {α : Type} {l : List α} {i : Nat} {x : α} (h : l[i]? = some x) : i < l.length := (List.getElem?_eq_some_iff.mp h).1
theorem take_more {α : Type} {l : List α} {i : Nat} {x : α} (h : l[i]? = some x) : l.take (i + 1) = l.take i ++ [x] := by
  rw [List.take_add_one, h]; rfl
theorem fm_more {α : Type} {l : List α} {i : Nat} {x : α} {p : α → Bool} {f : α → V} (h : l[i]? = some x) :
    ((l.take (i + 1)).filter p).map f = ((l.take i).filter p).map f ++ (if p x = true then [f x] else []) := by
  rw [take_more h, List.filter_append, List.map_append]
  by_cases hp : p x = true
  · simp [hp]
  · simp [hp]
/-- what a turn of a plain comprehension asks -/
theorem lc_turn {α : Type} {l : List α} {i : Nat} {x : α} {p : α → Bool} {f : α → V} {D : Addr} {H1 : Hp} {s2 : L2.St} (hD : H D = none) (hl : l.length ≤ 1000000) (hi : l[i]? = some x) (hk : Kp [] H H1) (hA : H1 D = some (.lst (((l.take i).filter p).map f)))
    (ht : ∀ R : Bool → Hp → Prop, (∀ H2, Kp [] H1 H2 → R (p x) H2) → tt s2 H1 R) (he : p x = true → ∀ H2, Kp [] H1 H2 → ∀ R : VK, (∀ H3, Kp [] H2 H3 → R (f x) H3) → te s2 H2 R) :
    tt s2 H1 fun b H3 => if b = true then te s2 H3 fun y H4 => ∃ acc, H4 D = some (.lst acc) ∧ acc.length < sizeLine ∧ (Kp [] H (upd H4 D (.lst (acc ++ [y]))) ∧ (upd H4 D (.lst (acc ++ [y]))) D = some (.lst (((l.take (i + 1)).filter p).map f)))
      else (Kp [] H H3 ∧ H3 D = some (.lst (((l.take (i + 1)).filter p).map f))) := by
  refine ht _ fun H2 k2 => ?_
  by_cases hp : p x = true
  · rw [if_pos hp]
    refine he hp H2 k2 _ fun H3 k3 => ⟨_, k3 _ _ (k2 _ _ hA (by simp)) (by simp), ?_, ?_, ?_⟩
    · refine szl (Nat.lt_of_le_of_lt ?_ (by decide : 1000000 < 16777216))
      rw [List.length_map]
      exact Nat.le_trans (List.length_filter_le _ _) (by rw [List.length_take]; omega)
    · exact ((hk.trans k2).trans k3).own hD
    · rw [upd_same, fm_more hi, if_pos hp]
  · rw [if_neg hp]
    refine ⟨hk.trans k2, ?_⟩
    rw [fm_more hi, if_neg hp, List.append_nil]
    exact k2 _ _ hA (by simp)
/-- [e for c in x if t], x a text -/
theorem lcS {x : Str} (p : Nat → Bool) (f : Nat → V) (h0 : ∀ R : VK, R (.str x) H → t0 σ H R) (hz : x.length ≤ 1000000)
    (ht : ∀ c H1, c ∈ x.cps.toList → Kp [] H H1 → ∀ R : Bool → Hp → Prop, (∀ H2, Kp [] H1 H2 → R (p c) H2) → tt ((σ.set j none).set j (some (.str ⟨#[c]⟩))) H1 R)
    (he : ∀ c H1, c ∈ x.cps.toList → p c = true → Kp [] H H1 → ∀ R : VK, (∀ H2, Kp [] H1 H2 → R (f c) H2) → te ((σ.set j none).set j (some (.str ⟨#[c]⟩))) H1 R)
    (q : ∀ D H', H D = none → Kp [] H H' → H' D = some (.lst ((x.cps.toList.filter p).map f)) → Q (.ref D) H') : tLc (iStr t0) (gName j) tt te [j] σ H Q := by
  refine h0 _ ⟨x, rfl, fun D hD => ?_⟩
  refine lc_str (x := x) (fun i H1 => Kp [] H H1 ∧ H1 D = some (.lst (((x.cps.toList.take i).filter p).map f))) ⟨kp_new hD, by rw [upd_same]; simp⟩ (fun i c H1 hi ⟨k1, a1⟩ => ⟨wipe_one σ j _, ?_⟩) fun H1 ⟨k1, a1⟩ => ?_
  · have hi' : x.cps.toList[i]? = some c := by simpa using hi
    have hm : c ∈ x.cps.toList := List.mem_of_getElem? hi'
    exact lc_turn (l := x.cps.toList) hD (by simpa [Str.length] using hz) hi' k1 a1 (ht c H1 hm k1) fun hp H2 k2 => he c H2 hm hp (k1.trans k2)
  · refine q D H1 hD k1 ?_
    rw [a1]
    have e : x.cps.toList.take x.cps.size = x.cps.toList := by
      rw [List.take_of_length_le]; simp
    rw [e]
/-- [e for v in xs if t], xs a list -/
theorem lcL {a : Addr} {xs : List V} (p : V → Bool) (f : V → V) (h0 : ∀ R : VK, R (.ref a) H → t0 σ H R) (hx : SqL K H a xs) (hz : xs.length ≤ 1000000)
    (ht : ∀ x H1, x ∈ xs → Kp [] H H1 → ∀ R : Bool → Hp → Prop, (∀ H2, Kp [] H1 H2 → R (p x) H2) → tt ((σ.set j none).set j (some x)) H1 R)
    (he : ∀ x H1, x ∈ xs → p x = true → Kp [] H H1 → ∀ R : VK, (∀ H2, Kp [] H1 H2 → R (f x) H2) → te ((σ.set j none).set j (some x)) H1 R)
    (q : ∀ D H', H D = none → Kp [] H H' → H' D = some (.lst ((xs.filter p).map f)) → Q (.ref D) H') : tLc (iList K t0) (gName j) tt te [j] σ H Q := by
  refine h0 _ ⟨a, rfl, ⟨xs, hx⟩, fun D hD => ?_⟩
  refine lc_list (xs := xs) (fun i H1 => Kp [] H H1 ∧ H1 D = some (.lst (((xs.take i).filter p).map f))) ⟨kp_new hD, by rw [upd_same]; simp⟩ (fun i H1 _ ⟨k1, _⟩ => k1.sqL (by simp) hx) (fun i c H1 hi ⟨k1, a1⟩ => ⟨wipe_one σ j _, ?_⟩) fun H1 ⟨k1, a1⟩ => ?_
  · have hm : c ∈ xs := List.mem_of_getElem? hi
    exact lc_turn (l := xs) hD hz hi k1 a1 (ht c H1 hm k1) fun hp H2 k2 => he c H2 hm hp (k1.trans k2)
  · refine q D H1 hD k1 ?_
    rw [a1, List.take_of_length_le (Nat.le_refl _)]
/-- [e for v in t], t a tuple -/
theorem lcT {a : Addr} {xs : List V} (p : V → Bool) (f : V → V) (h0 : ∀ R : VK, R (.ref a) H → t0 σ H R) (hx : SqT K H a xs) (hz : xs.length ≤ 1000000)
    (ht : ∀ x H1, x ∈ xs → Kp [] H H1 → ∀ R : Bool → Hp → Prop, (∀ H2, Kp [] H1 H2 → R (p x) H2) → tt ((σ.set j none).set j (some x)) H1 R)
    (he : ∀ x H1, x ∈ xs → p x = true → Kp [] H H1 → ∀ R : VK, (∀ H2, Kp [] H1 H2 → R (f x) H2) → te ((σ.set j none).set j (some x)) H1 R)
    (q : ∀ D H', H D = none → Kp [] H H' → H' D = some (.lst ((xs.filter p).map f)) → Q (.ref D) H') : tLc (iTup K t0) (gName j) tt te [j] σ H Q := by
  refine h0 _ ⟨a, rfl, ⟨xs, hx⟩, fun D hD => ?_⟩
  refine lc_tup (xs := xs) (fun i H1 => Kp [] H H1 ∧ H1 D = some (.lst (((xs.take i).filter p).map f))) ⟨kp_new hD, by rw [upd_same]; simp⟩ (fun i H1 _ ⟨k1, _⟩ => k1.sqT (by simp) hx) (fun i c H1 hi ⟨k1, a1⟩ => ⟨wipe_one σ j _, ?_⟩) fun H1 ⟨k1, a1⟩ => ?_
  · have hm : c ∈ xs := List.mem_of_getElem? hi
    exact lc_turn (l := xs) hD hz hi k1 a1 (ht c H1 hm k1) fun hp H2 k2 => he c H2 hm hp (k1.trans k2)
  · refine q D H1 hD k1 ?_
    rw [a1, List.take_of_length_le (Nat.le_refl _)]
/-- [e for k in range(n)], e may draw (and so change the list at st): what holds of the items (P) stands while tuples stand -/
theorem lcRD {st nu : Addr} {n : Int} {ta : TA} (P : Hp → V → Prop) (c : Nat) {n0 : Nat} (hP : ∀ H1 H2 v, Tk H1 H2 → P H1 v → P H2 v) (h0 : ∀ R : List V → Hp → Prop, R [.int n] H → ta σ H R) (hn : n ≤ 1000000) (hn0 : -1000000 ≤ n) (hs : StB H st nu n0) (hb : n0 + c * n.toNat < bigN)
    (he : ∀ (i : Nat) H1 m, (i : Int) < n → Kp [st] H H1 → StB H1 st nu m → m + c < bigN → ∀ R : VK, (∀ v H2, P H2 v → Kp [st] H1 H2 → StB H2 st nu (m + c) → R v H2) → te ((σ.set j none).set j (some (.int (i : Int)))) H1 R)
    (q : ∀ D H' xs, H D = none → Kp [st] H H' → H' D = some (.lst xs) → xs.length = n.toNat → (∀ x ∈ xs, P H' x) → StB H' st nu (n0 + c * n.toNat) → Q (.ref D) H') : tLc (iRng1 ta) (gName j) tYes te [j] σ H Q := by
  refine h0 _ ⟨n, rfl, by omega, by omega, fun D hD => ?_⟩
  obtain ⟨nd1, nd2⟩ := hs.ne hD
  refine lc_range (lo := 0) (n := n.toNat) (fun i H1 => Kp [st] H H1 ∧ StB H1 st nu (n0 + c * i) ∧ ∃ xs, H1 D = some (.lst xs) ∧ xs.length = i ∧ ∀ x ∈ xs, P H1 x) ?_ (fun i H1 hi ⟨k1, s1, xs, a1, l1, p1⟩ => ⟨wipe_one σ j _, ?_⟩) fun H1 ⟨k1, s1, xs, a1, l1, p1⟩ => q D H1 xs hD k1 a1 l1 p1 s1
  · exact ⟨(Kp.refl [st] H).new hD, (hs.new hD).le (by omega), [], upd_same, rfl, by simp⟩
  · have e0 : (0 : Int) + (i : Int) = (i : Int) := Int.zero_add _
    unfold tYes
    dsimp only
    rw [if_pos rfl, e0]
    have hb2 : c * (i + 1) ≤ c * n.toNat := Nat.mul_le_mul_left c hi
    have hb3 : c * (i + 1) = c * i + c := Nat.mul_succ c i
    refine he i H1 (n0 + c * i) (by omega) k1 s1 (by omega) _ fun v H2 pv k2 s2 => ?_
    have a2 : H2 D = some (.lst xs) := k2 _ _ a1 (by simp [nd1])
    refine ⟨xs, a2, szl (by omega), (k1.trans k2).own hD, ?_, xs ++ [v], upd_same, by simp [l1], fun x hx => ?_⟩
    · exact (s2.mut nd1 nd2).le (by omega)
    · have t2 : Tk H2 (upd H2 D (.lst (xs ++ [v]))) := (Tk.refl H2).lst a2
      rcases List.mem_append.mp hx with hx | hx
      · exact hP _ _ _ ((s1.tk k2).trans t2) (p1 x hx)
      · rw [List.mem_singleton.mp hx]
        exact hP _ _ _ t2 pv
end
end Sf
namespace Sf
open PySem PySem.Spec PyProof.Rows L2
section
variable {K : PySem.W.Frag} {σ : L2.St} {H : Hp} {ta tb tc te : TE} {tt tu : TT} {t tr : TA} {to1 to2 : TO} {ts tw : TS} {D : Ends} {Q : VK} {QB : Bool → Hp → Prop} {QA : List V → Hp → Prop} {QO : Option Int → Hp → Prop} {i j : Nat} {v w : V} {b : Bool} {r r' : R2} {pr : Sp} {E : XK} {g : TG}
/-! ### readings opened -/
theorem o_var (h : σ[i]? = some (some v)) (q : Q v H) : tVar i σ H Q := ⟨v, h, q⟩
theorem o_varE (q : ∃ v, σ[i]? = some (some v) ∧ Q v H) : tVar i σ H Q := q
theorem o_c (q : Q v H) : tC v σ H Q := q
theorem o_op (q : ta σ H fun x H1 => tb σ H1 fun y H2 => r x y H2 Q) : tOp r ta tb σ H Q := q
theorem o_un {r : V → Hp → VK → Prop} (q : ta σ H fun x H1 => r x H1 Q) : tUn r ta σ H Q := q
theorem o_cb {r : List V → Hp → VK → Prop} (q : t σ H fun vs H1 => r vs H1 Q) : tCB r t σ H Q := q
theorem o_cons (q : ta σ H fun x H1 => tr σ H1 fun xs H2 => QA (x :: xs) H2) : tCons ta tr σ H QA := q
theorem o_star (q : ta σ H fun x H1 => ∃ p xs, x = V.ref p ∧ (SqT K H1 p xs ∨ SqL K H1 p xs) ∧ t σ H1 fun ys H2 => QA (xs ++ ys) H2) : StX.tStar K ta t σ H QA := q
theorem o_nil (q : QA [] H) : tNil σ H QA := q
theorem o_tup (q : t σ H fun xs H1 => xs.length ≤ sizeLine ∧ ∀ p, H1 p = none → Q (.ref p) (upd H1 p (.tup xs))) : tTup t σ H Q := q
theorem o_lst (q : t σ H fun xs H1 => xs.length ≤ sizeLine ∧ ∀ p, H1 p = none → Q (.ref p) (upd H1 p (.lst xs))) : tLst t σ H Q := q
theorem o_call (q : t σ H fun vs H1 => pr vs H1 Q E) : rCallG pr E t σ H Q := q
theorem o_ret (q : te σ H D.rt) : tRet te D σ H := q
theorem o_retN (q : D.rt .non H) : tRetN D σ H := q
theorem o_asg (q : te σ H fun x H1 => D.nx (σ.set i (some x)) H1) : tAsg te (gName i) D σ H := q
theorem o_asgG (q : te σ H fun x H1 => g x σ H1 D.nx) : tAsg te g D σ H := q
theorem o_par (q : t σ H fun vs H1 => ∃ v w, vs = [v, w] ∧ D.nx ((σ.set i (some v)).set j (some w)) H1) : tPar i j t D σ H := q
theorem o_seq (q : ts { D with nx := tw D } σ H) : tSeq ts tw D σ H := q
theorem o_next (q : D.nx σ H) : tNext D σ H := q
theorem o_brk (q : D.bk σ H) : tBreak D σ H := q
theorem o_cont (q : D.ct σ H) : tCont D σ H := q
theorem o_drop (q : te σ H fun _ H1 => D.nx σ H1) : tDrop te D σ H := q
theorem o_if (q : tt σ H fun c H1 => if c = true then ts D σ H1 else tw D σ H1) : tIfS tt ts tw D σ H := q
theorem o_test (q : te σ H fun x H1 => ∃ k, x = .bl k ∧ QB k H1) : tTest te σ H QB := q
theorem o_B (q : te σ H fun x H1 => ∃ k, x = .bl k ∧ QB k H1) : tB te σ H QB := q
theorem o_and (q : tt σ H fun c H1 => if c = true then tu σ H1 QB else QB false H1) : tAnd tt tu σ H QB := q
theorem o_or (q : tt σ H fun c H1 => if c = true then QB true H1 else tu σ H1 QB) : tOr tt tu σ H QB := q
theorem o_not (q : tt σ H fun c H1 => QB (!c) H1) : tNot tt σ H QB := q
theorem o_andV (q : ta σ H fun x H1 => ∃ c, x = .bl c ∧ if c = true then tb σ H1 Q else Q (.bl false) H1) : tAndV ta tb σ H Q := q
theorem o_orV (q : ta σ H fun x H1 => ∃ c, x = .bl c ∧ if c = true then Q (.bl true) H1 else tb σ H1 Q) : tOrV ta tb σ H Q := q
theorem o_notV (q : ta σ H fun x H1 => ∃ c, x = .bl c ∧ Q (.bl (!c)) H1) : tNotV ta σ H Q := q
theorem o_ifx (q : tt σ H fun c H1 => if c = true then ta σ H1 Q else tb σ H1 Q) : tIf tt ta tb σ H Q := q
theorem o_chain (q : ta σ H fun x H1 => tb σ H1 fun y H2 => r x y H2 fun z H3 => ∃ k, z = .bl k ∧ if k = true then tc σ H3 (fun u H4 => r' y u H4 Q) else Q (.bl false) H3) : tChain r r' ta tb tc σ H Q := q
theorem o_sl {r : V → Option Int → Option Int → Hp → VK → Prop} (q : te σ H fun x H1 => to1 σ H1 fun l H2 => to2 σ H2 fun u H3 => r x l u H3 Q) : tSl r te to1 to2 σ H Q := q
theorem o_part (q : te σ H fun x H1 => ∃ n, x = .int n ∧ QO (some n) H1) : tPart te σ H QO := q
theorem o_nop (q : QO none H) : tNoPart σ H QO := q
theorem o_bm {T : String} {r : V → List V → Hp → VK → Prop} (q : te σ H fun x H1 => tyV K T x H1 ∧ t σ H1 fun xs H2 => r x xs H2 Q) : tBM K T r te t σ H Q := q
theorem o_bm0 {T : String} {r : V → List V → Hp → VK → Prop} (q : te σ H fun x H1 => tyV K T x H1 ∧ r x [] H1 Q) : tBM0 K T r te σ H Q := q
theorem o_m1 {r : V → List V → Hp → VK → Prop} (q : ta σ H fun x H1 => (∃ a, x = .str a) ∧ tb σ H1 fun y H2 => r x [y] H2 Q) : tM1 r ta tb σ H Q := q
theorem o_bl {P : Bool → Prop} (h : P b) : ∃ k, V.bl b = .bl k ∧ P k := ⟨b, rfl, h⟩
theorem o_int {P : Int → Prop} {n : Int} (h : P n) : ∃ k, V.int n = .int k ∧ P k := ⟨n, rfl, h⟩
theorem o_yes (q : QB true H) : tYes σ H QB := q
theorem o_gsub {t : TSet} {R : L2.St → Hp → Prop} (q : ta σ H fun o H1 => tb σ H1 fun i H2 => t o i v H2 fun H3 => R σ H3) : gSub ta tb t v σ H R := q
theorem o_gname {R : L2.St → Hp → Prop} (q : R (σ.set i (some v)) H) : gName i v σ H R := q
/-- values handed on -/
def tK (us : List V) : TA := fun _ H QA => QA us H
theorem lc_arg {tt : TT} {vs : List Nat} (q : t σ H fun us H1 => tLc (iRng1 (tK us)) g tt te vs σ H1 Q) : tLc (iRng1 t) g tt te vs σ H Q := q
/-! ### operations on values -/
variable {x y : Int} {s u : Str} {a p : Addr} {xs ys : List V} {d e : PyData}
theorem r_add (q : Q (.int (x + y)) H) : rdAdd (.int x) (.int y) H Q := ⟨x, y, rfl, rfl, q⟩
theorem r_sub (q : Q (.int (x - y)) H) : rdSub (.int x) (.int y) H Q := ⟨x, y, rfl, rfl, q⟩
theorem r_mul (h : CMul x y) (q : Q (.int (x * y)) H) : rdMul (.int x) (.int y) H Q := ⟨x, y, rfl, rfl, h, q⟩
theorem r_div (h : CDiv x y) (q : Q (.int (x / y)) H) : rdDiv (.int x) (.int y) H Q := ⟨x, y, rfl, rfl, h, q⟩
theorem r_mod (h : 0 < y) (q : Q (.int (x % y)) H) : rdMod (.int x) (.int y) H Q := ⟨x, y, rfl, rfl, h, q⟩
theorem r_pow (h : CPow x y) (q : Q (.int (x ^ y.toNat)) H) : rdPow (.int x) (.int y) H Q := ⟨x, y, rfl, rfl, h, q⟩
theorem r_lt (q : Q (.bl (decide (x < y))) H) : rdLt (.int x) (.int y) H Q := ⟨x, y, rfl, rfl, q⟩
theorem r_le (q : Q (.bl (decide (x ≤ y))) H) : rdLe (.int x) (.int y) H Q := ⟨x, y, rfl, rfl, q⟩
theorem r_gt (q : Q (.bl (decide (y < x))) H) : rdGt (.int x) (.int y) H Q := ⟨x, y, rfl, rfl, q⟩
theorem r_ge (q : Q (.bl (decide (y ≤ x))) H) : rdGe (.int x) (.int y) H Q := ⟨x, y, rfl, rfl, q⟩
theorem r_adds (h : s.length + u.length ≤ sizeLine) (q : Q (.str (s ++ u)) H) : rdAddS (.str s) (.str u) H Q := ⟨s, u, rfl, rfl, h, q⟩
theorem r_leS (q : Q (.bl (!decide (u.cps.toList < s.cps.toList))) H) : rdLeS (.str s) (.str u) H Q := ⟨s, u, rfl, rfl, q⟩
theorem r_eq (h : scal v w = true) (q : Q (.bl (decide (v = w))) H) : rEq v w H Q := ⟨h, q⟩
theorem r_ne (h : scal v w = true) (q : Q (.bl (!decide (v = w))) H) : rNe v w H Q := ⟨h, q⟩
theorem r_isN (q : Q (.bl (decide (v = .non))) H) : rdIsN v .non H Q := ⟨rfl, q⟩
theorem r_notN (q : Q (.bl (!decide (v = .non))) H) : rdNotN v .non H Q := ⟨rfl, q⟩
theorem r_inS {c : Nat} (q : Q (.bl (decide (c ∈ s.cps.toList))) H) : rdInS (.str ⟨#[c]⟩) (.str s) H Q := ⟨c, s, rfl, rfl, q⟩
theorem r_ixL (h : SqL K H p xs) (ha : atI xs x = some v) (q : Q v H) : rIxL K (.ref p) (.int x) H Q := ⟨p, xs, x, v, rfl, rfl, h, ha, q⟩
theorem r_ixT (h : SqT K H p xs) (ha : atI xs x = some v) (q : Q v H) : rIxT K (.ref p) (.int x) H Q := ⟨p, xs, x, v, rfl, rfl, h, ha, q⟩
theorem r_ixS {c : Nat} (h : s.length ≤ sizeLine) (ha : atI s.cps.toList x = some c) (q : Q (.str ⟨#[c]⟩) H) : rIxS (.str s) (.int x) H Q := ⟨s, x, c, rfl, rfl, h, ha, q⟩
theorem r_lenL (h : SqL K H p xs) (q : Q (.int (xs.length : Int)) H) : rdLen K [.ref p] H Q := ⟨p, xs, rfl, .inl h, q⟩
theorem r_lenT (h : SqT K H p xs) (q : Q (.int (xs.length : Int)) H) : rdLen K [.ref p] H Q := ⟨p, xs, rfl, .inr h, q⟩
theorem r_lenS (h : s.length ≤ sizeLine) (q : Q (.int (s.length : Int)) H) : rdLenS [.str s] H Q := ⟨s, rfl, h, q⟩
theorem r_int (q : Q (.int x) H) : rdInt [.int x] H Q := .inl ⟨x, rfl, q⟩
theorem r_intB (q : Q (.int (if b then 1 else 0)) H) : rdInt [.bl b] H Q := .inr ⟨b, rfl, q⟩
theorem r_all {bs : List Bool} (h : SqL K H p (bs.map V.bl)) (q : Q (.bl (bs.all id)) H) : rAll K [.ref p] H Q := ⟨p, bs, rfl, h, q⟩
theorem r_tupL (h : SqL K H p xs) (q : ∀ l, H l = none → Q (.ref l) (upd H l (.tup xs))) : rdTuple K [.ref p] H Q := ⟨p, xs, rfl, .inl ⟨h, q⟩⟩
theorem r_tupT (h : SqT K H p xs) (q : Q (.ref p) H) : rdTuple K [.ref p] H Q := ⟨p, xs, rfl, .inr ⟨h, q⟩⟩
theorem r_inL {neg : Bool} (h : SqL K H p xs) (h1 : flatV v = true) (h2 : xs.all flatV = true) (q : Q (.bl (if neg then !inV v xs else inV v xs)) H) : rIn K neg v (.ref p) H Q := ⟨p, xs, rfl, .inl h, h1, h2, q⟩
theorem r_inT {neg : Bool} (h : SqT K H p xs) (h1 : flatV v = true) (h2 : xs.all flatV = true) (q : Q (.bl (if neg then !inV v xs else inV v xs)) H) : rIn K neg v (.ref p) H Q := ⟨p, xs, rfl, .inr h, h1, h2, q⟩
theorem r_app (h : H p = some (.lst xs)) (hz : xs.length < sizeLine) (q : Q .non (upd H p (.lst (xs ++ [v])))) : rAppend (.ref p) [v] H Q := ⟨p, xs, v, rfl, rfl, h, hz, q⟩
theorem r_cat {z : Addr} (h : H p = some (.lst xs)) (h' : H z = some (.lst ys)) (hz : xs.length + ys.length ≤ sizeLine) (q : ∀ l, H l = none → Q (.ref l) (upd H l (.lst (xs ++ ys)))) : rCat (.ref p) (.ref z) H Q := ⟨p, z, xs, ys, rfl, rfl, h, h', hz, q⟩
theorem r_slL {lo hi : Option Int} (h : SqL K H p xs) (q : ∀ l, H l = none → Q (.ref l) (upd H l (.lst (cutV xs lo hi)))) : rSlL K (.ref p) lo hi H Q := ⟨p, xs, rfl, h, q⟩
theorem r_slS {lo hi : Option Int} (h : s.length ≤ sizeLine) (q : Q (.str (cutS s lo hi)) H) : rSlS (.str s) lo hi H Q := ⟨s, rfl, h, q⟩
theorem r_setL {n : Nat} (h : H p = some (.lst xs)) (hi : ixN xs.length x = some n) {R : Hp → Prop} (q : R (upd H p (.lst (xs.set n v)))) : rSetL (.ref p) (.int x) v H R := ⟨p, xs, x, n, rfl, rfl, h, hi, q⟩
/-! ### the same, with what they hand on asked together -/
theorem e_lenL (q : ∃ xs, SqL K H p xs ∧ Q (.int (xs.length : Int)) H) : rdLen K [.ref p] H Q := let ⟨_, h, q⟩ := q; r_lenL h q
theorem e_ixL (q : ∃ xs v, SqL K H p xs ∧ atI xs x = some v ∧ Q v H) : rIxL K (.ref p) (.int x) H Q := let ⟨_, _, h, ha, q⟩ := q; r_ixL h ha q
theorem e_ixT (q : ∃ xs v, SqT K H p xs ∧ atI xs x = some v ∧ Q v H) : rIxT K (.ref p) (.int x) H Q := let ⟨_, _, h, ha, q⟩ := q; r_ixT h ha q
theorem at_nat {α : Type} {l : List α} {n : Nat} {z : α} (h : l[n]? = some z) : atI l (n : Int) = some z := by
  have hl := (List.getElem?_eq_some_iff.mp h).1
  unfold atI ixN
  rw [if_pos (by omega), if_pos (by omega)]
  simpa using h
theorem at_int {α : Type} {l : List α} {i : Int} {z : α} (h0 : 0 ≤ i) (h : l[i.toNat]? = some z) : atI l i = some z := by
  have e : ((i.toNat : Nat) : Int) = i := Int.toNat_of_nonneg h0
  rw [← e]
  exact at_nat h
theorem atZ0 {α : Type} {r : List α} {z : α} : atI (z :: r) 0 = some z := at_nat (n := 0) rfl
theorem atZ1 {α : Type} {r : List α} {y z : α} : atI (y :: z :: r) 1 = some z := at_nat (n := 1) rfl
theorem atZ2 {α : Type} {r : List α} {x y z : α} : atI (x :: y :: z :: r) 2 = some z := at_nat (n := 2) rfl
theorem atZ3 {α : Type} {r : List α} {w x y z : α} : atI (w :: x :: y :: z :: r) 3 = some z := at_nat (n := 3) rfl
theorem r_kd {m : List (Str × Int)} {n : Int} (hi : KdInts K a m) (hl : m.lookup s = some n) (q : Q (.int n) H) : rItemKd K a (.ref a) (.str s) H Q := by
  obtain ⟨r, h1, h2, h3⟩ := hi s
  obtain ⟨t, e⟩ := h3 n hl
  exact ⟨s, _, n, rfl, rfl, by rw [h1, e], ⟨t, rfl⟩, q⟩
theorem r_inKd {m : List (Str × Int)} (hi : KdInts K a m) (q : Q (.bl (m.lookup s).isSome) H) : rInKd K a (.str s) (.ref a) H Q := by
  obtain ⟨r, h1, h2, h3⟩ := hi s
  refine ⟨s, r, rfl, rfl, h1, ?_⟩
  cases e : m.lookup s with
  | none => rw [e] at q; rw [h2 e]; exact q
  | some n =>
    obtain ⟨t, e2⟩ := h3 n e
    rw [e] at q; rw [e2]; exact q
/-! ### ifs -/
theorem ifs_next {Cond : Prop} (hn : ∀ H', Kp [] H H' → ¬ Cond → D.nx σ H') (h : ∀ N : Hp → Prop, (∀ H', Kp [] H H' → ¬ Cond → N H') → tt σ H fun c H1 => if c = true then ts D σ H1 else N H1) : tIfS tt ts tNext D σ H := h (fun H' => D.nx σ H') hn
theorem iteP {c A B : Prop} [Decidable c] (h : c) (a : A) : if c then A else B := by rw [if_pos h]; exact a
theorem iteN {c A B : Prop} [Decidable c] (h : ¬ c) (b : B) : if c then A else B := by rw [if_neg h]; exact b
theorem iteNT {A B : Prop} (h : B) : if (!true) = true then A else B := (if_neg (by decide)).mpr h
theorem iteNF {A B : Prop} (h : A) : if (!false) = true then A else B := (if_pos rfl).mpr h
theorem if_b {A B : Prop} (hA : b = true → A) (hB : b = false → B) : if b = true then A else B := by
  cases b with
  | true => exact (if_pos rfl).mpr (hA rfl)
  | false => exact (if_neg Bool.false_ne_true).mpr (hB rfl)
theorem sqL_new (h : H p = none) {o : HO} (hs : SqL K H a xs) : SqL K (upd H p o) a xs := (kp_new h).sqL (by simp) hs
theorem sqT_new (h : H p = none) {o : HO} (hs : SqT K H a xs) : SqT K (upd H p o) a xs := (kp_new h).sqT (by simp) hs
theorem sqT_mut (h : H p = some (.lst ys)) {o : HO} (hs : SqT K H a xs) : SqT K (upd H p o) a xs := ((Tk.refl H).lst h).sqT hs
end
end Sf
/-! several clauses «except x as n»; isinstance of a held error with a tuple of classes; promises of defs that raise -/
namespace Sf
open PySem PySem.Spec PyProof.Rows L2
abbrev Cl := Value × Nat × (Addr → Value → Option Addr → TS)
/-- the ends of a suite whose name (slot i) goes -/
def outE (D : Ends) (i : Nat) : Ends := ⟨fun s h => D.nx (s.set i none) h, D.rt, fun s h => D.bk (s.set i none) h, fun s h => D.ct (s.set i none) h⟩
/-- what the clauses wish -/
def wishA (Kf : PySem.W.Frag) (past : WX) (D : Ends) : List Cl → WX
  | [] => past
  | q :: r => fun ty dx sl Hh => ∃ yes, PySem.W.exmOne Kf ty q.1 = some yes ∧ (yes = false → wishA Kf past D r ty dx sl Hh) ∧ (yes = true → ∀ ad, Hh ad = none → q.2.2 ad ty dx (outE D q.2.1) (sl.set q.2.1 (some (.ref ad))) Hh)
/-- the clauses' text -/
inductive AsCl (X : Cx) : List ExceptHandler → List Cl → Prop
  | nil : AsCl X [] []
  | cons {x n : Str} {i : Nat} {ty : Value} {ts : Addr → Value → Option Addr → TS} {st : Stmt} {sts : List Stmt} {p1 p2 : Pos} {more : List ExceptHandler} {l : List Cl} (i1 : X.N[i]? = some n) (i2 : X.env.kindOf n = some .local) (cn : Names X x ty)
      (su : ∀ (ad : Addr) (ob : Obj) (c : Value) (dx : Option Addr) (pl : List (Addr × Obj)), Zc c dx ob → (∃ vs, ob.data = .fields vs) → PSs (X.suite ad ((ad, ob) :: pl)) (st :: sts) (ts ad c dx)) (r : AsCl X more l) :
      AsCl X (.ExceptHandler (some (.Name x p1)) (some n) (st :: sts) p2 :: more) ((ty, i, ts) :: l)
section
variable {X : Cx}
/-- an error a that lies still in the heap of s: what is needed to look at the clauses -/
structure Still (X : Cx) (pins : List (Addr × Obj)) (sl : L2.St) (Hh : Hp) (s0 s : Shared) (G : Heap) (a : Addr) (ty : Value) (dx : Option Addr) : Prop where
  inv : Inv X pins sl Hh s0
  gnd : ∀ b o, s0.heap.get? b = some o → b ∉ frs X.stack → G.get? b = some o
  up : s0.heap.UpToSlots s.heap
  fly : HandSPX.FlyingZ G (X.env :: X.outer) a (Zc ty dx) s.heap
  no : Hh a = none
  os : s.os = s0.os
  ag : AllBare s.gens
theorem Still.now {pins : List (Addr × Obj)} {sl : L2.St} {Hh : Hp} {s0 s : Shared} {G : Heap} {a : Addr} {ty : Value} {dx : Option Addr} (S : Still X pins sl Hh s0 s G a ty dx) : Inv X pins sl Hh s := S.inv.landed S.gnd S.fly.1 S.up S.os S.ag
theorem Still.to {pins : List (Addr × Obj)} {sl : L2.St} {Hh : Hp} {s0 s : Shared} {G : Heap} {a : Addr} {ty : Value} {dx : Option Addr} (S : Still X pins sl Hh s0 s G a ty dx) {h2 : Heap} (f : HandSPX.FlyingZ G (X.env :: X.outer) a (Zc ty dx) h2) (u : s.heap.UpToSlots h2) :
    Still X pins sl Hh s0 { s with heap := h2 } G a ty dx := ⟨S.inv, S.gnd, S.up.trans u, f, S.no, S.os, S.ag⟩
/-- the state in which a suite runs -/
theorem Still.in_ {pins : List (Addr × Obj)} {sl : L2.St} {Hh : Hp} {s0 s : Shared} {G : Heap} {a : Addr} {ty : Value} {dx : Option Addr} (hf : X.env.frame = some X.env.locals) (S : Still X pins sl Hh s0 s G a ty dx) :
    ∃ ob, s.heap.get? a = some ob ∧ Zc ty dx ob ∧ (∃ vs, ob.data = .fields vs) ∧ Inv (X.suite a ((a, ob) :: (X.pn ++ pins))) [] sl Hh s := by
  obtain ⟨ob, vs, at_, z, d⟩ := S.fly.there
  have away : a ∉ frs (X.env :: X.outer) := fun hm => by
    obtain ⟨_, o2, e2, other⟩ := S.fly.2.2.1.mem hm
    have eo : ob = o2 := Option.some.inj (at_.symm.trans e2)
    exact other vs (eo ▸ d)
  have nl : a ≠ X.env.locals := by
    rintro rfl
    exact away (List.mem_filterMap.mpr ⟨X.env, List.mem_cons_self, hf⟩)
  have nf : a ∉ X.fs := fun hm => by
    obtain ⟨en, m1, m2⟩ := List.mem_filterMap.mp hm
    exact away (List.mem_filterMap.mpr ⟨en, List.mem_cons_of_mem _ m1, m2⟩)
  exact ⟨ob, at_, z, ⟨vs, d⟩, S.now.suite at_ d S.no nl nf⟩
theorem clauses {past : WX} {D : Ends} (hs : X.stack = X.env :: X.outer) (hf : X.env.frame = some X.env.locals) (nd : X.N.Nodup) (tk : Takes X past) {G : Heap} {a : Addr} {ty : Value} {dx : Option Addr} {pins : List (Addr × Obj)} {sl : L2.St} {Hh : Hp} {s0 : Shared} :
    ∀ {hds : List ExceptHandler} {l : List Cl}, AsCl X hds l → ∀ s : Shared, Still X pins sl Hh s0 s G a ty dx → wishA X.K past D l ty dx sl Hh → wpAny (model X.prog X.w) X.A (handleBy (.ref a) X.env hds) (SP X pins D) X.xe s := by
  intro hds l k
  induction k with
  | nil =>
    intro s S w
    obtain ⟨f1, f2, f3, ob, vs, tb, ot, ts, at_, z, d, v1, rest⟩ := id S.fly
    apply wpAny_handleBy_nil
    unfold PySem.passOn
    refine wpAny_bind (wpAny_field at_ d v1 ?_)
    have nn : ¬ ((Value.ref tb == Value.none) = true) := by simp
    rw [if_neg nn]
    have out : wpAny (model X.prog X.w) X.A (setFlight (.ref a) X.env.frame) (fun _ t => wpAny (model X.prog X.w) X.A (throw (.ref a) : Sem Flow) (SP X pins D) X.xe t) X.xe s := by
      rw [hf]
      refine HandSPX.setFlight_upZ S.fly fun h2 held u => ?_
      refine wpAny_throw (tk _ _ ⟨a, G, s0, pins, sl, Hh, ty, dx, rfl, S.inv, S.gnd, S.up.trans u, .inr (.inr ?_), S.no, S.os, S.ag, w⟩)
      rw [hs]
      exact held
    first
      | exact wpAny_bind (wpAny_pure (wpAny_bind out))
      | exact wpAny_bind out
  | @cons x n i c ts st sts p1 p2 more l i1 i2 cn su r ih =>
    intro s S w
    obtain ⟨yes, m, wn, wy⟩ := w
    obtain ⟨ob, at_, z, fd, J⟩ := S.in_ hf
    have ofT : PySem.W.Looks (model X.prog X.w) s.heap (typeOf (.ref a)) ty := fun _ _ _ t kk q => wpAny_typeOf_ref (kk _ _ at_) (by rw [z.1]; exact q)
    refine wpAny_handleBy_cons (codeAny_handlers_test ?_) (by intro q; cases q)
    have named : ∀ {Q E : Value → Shared → Prop}, Q c s → wpAny (model X.prog X.w) (X.A.mark (some (.ref a))) (eval (.Name x p1) X.env) Q E s := by
      intro Q E q
      rcases cn with ⟨g, db, e | ⟨e, bb, nn⟩⟩
      · exact ld_glob (X := X.suite a ((a, ob) :: (X.pn ++ pins))) J g e q db
      · exact ld_blt (X := X.suite a ((a, ob) :: (X.pn ++ pins))) J g e bb q nn db
    refine named ((PySem.W.exm_one (M := model X.prog X.w) J.kIn ofT m).here ?_)
    cases yes with
    | false =>
      show wpAny _ X.A (handleBy (.ref a) X.env more) _ _ _
      exact ih s S (wn rfl)
    | true =>
      apply codeAny_handlers_suite_as
      refine HandSPX.lands_againZ S.fly fun h2 f2 u2 => ?_
      obtain ⟨ob2, _, z2, fd2, J2⟩ := (S.to f2 u2).in_ hf
      refine store_ok (X := X.suite a ((a, ob2) :: (X.pn ++ pins))) (v := .ref a) J2 nd i1 (.inl i2) rfl (fun s3 J3 => ?_) (.inr i2)
      refine wpAny_mono ((su a ob2 ty dx (X.pn ++ pins) z2 fd2).run [] s3 _ Hh (outE D i) J3 (wy rfl a S.no)) (fun fl s4 told => ?_) fun _ _ no => no.elim
      have gone : ∀ {sg : L2.St} {H4 : Hp} {Q : Shared → Prop}, Inv (X.suite a ((a, ob2) :: (X.pn ++ pins))) [] sg H4 s4 → (∀ s5, Inv X pins (sg.set i none) H4 s5 → Q s5) →
          wpAny (model X.prog X.w) X.A (do bindName X.env n .none; unbindBehindTheSuite X.env n p2) (fun _ t => Q t) X.xe s4 := by
        intro sg H4 Q J4 q
        exact gone_ok (J4.unsuite S.inv.ok) nd i1 i2 q
      match fl, told with
      | .next, ⟨_, _, J4, q⟩ => exact gone J4 fun t J5 => ⟨_, _, J5, q⟩
      | .brk, ⟨_, _, J4, q⟩ => exact gone J4 fun t J5 => ⟨_, _, J5, q⟩
      | .cont, ⟨_, _, J4, q⟩ => exact gone J4 fun t J5 => ⟨_, _, J5, q⟩
      | .ret u, ⟨_, _, _, J4, rl, q⟩ => exact gone J4 fun t J5 => ⟨_, _, _, J5, rl, q⟩
/-- try: body / except x1 as n1: .. / except x2 as n2: .. -/
theorem ps_try_named {past : WX} {body : List Stmt} {h1 : ExceptHandler} {hds : List ExceptHandler} {l : List Cl} {pos : Pos} {tb : WX → TS} (hs : X.stack = X.env :: X.outer) (hf : X.env.frame = some X.env.locals) (nd : X.N.Nodup) (tk : Takes X past)
    (hb : ∀ (W : WX) (pl : List (Addr × Obj)) (xe : Value → Shared → Prop), Takes (X.tr pl xe) W → PassesOwn (model X.prog X.w) X.A X.env xe → PSs (X.tr pl xe) body (tb W)) (k : AsCl X (h1 :: hds) l) :
    PS X (.Try body (h1 :: hds) [] [] pos) (fun D sl Hh => tb (wishA X.K past D l) D sl Hh) := by
  constructor
  intro pins s sl Hh D I h
  have okx := I.ok
  have frm : X.A.frames = some (X.env :: X.outer) := okx.frames.trans (congrArg some hs)
  apply wpAny_Try_except
  refine wpAny_mono ((hb (wishA X.K past D l) (X.pn ++ pins) (fun er t => wpAny (model X.prog X.w) X.A (noteFrame er X.env) (fun _ t2 => wpAny (model X.prog X.w) X.A (setFlight er none) (fun _ t3 =>
    wpAny (model X.prog X.w) X.A (handleBy er X.env (h1 :: hds)) (SP X pins D) X.xe t3) X.xe t2) X.xe t) (fun u t air => ?_) PassesOwn.looking).run [] s sl Hh D (I.toTry _) h) (fun fl t told => ?_) fun _ _ z => z
  · obtain ⟨a, G, s0, pl, sg, H2, ty, dx, rfl, J, gnd, up, sky, no, os, ag, w⟩ := air
    rw [hs] at sky
    have J := J.ofTry okx
    show wpAny (model X.prog X.w) X.A (noteFrame (.ref a) X.env) _ _ _
    refine Sky.land Zc.steady frm hf sky fun h2 fly u2 => ?_
    exact clauses hs hf nd tk k { t with heap := h2 } ⟨J, gnd, up.trans u2, fly, no, os, ag⟩ w
  · match fl, told with
    | .next, ⟨sg, H2, J, q⟩ => exact wpAny_execs_nil ⟨sg, H2, J.ofTry okx, q⟩
    | .brk, ⟨sg, H2, J, q⟩ => exact ⟨sg, H2, J.ofTry okx, q⟩
    | .cont, ⟨sg, H2, J, q⟩ => exact ⟨sg, H2, J.ofTry okx, q⟩
    | .ret u, ⟨v, sg, H2, J, rl, q⟩ => exact ⟨v, sg, H2, J.ofTry okx, rl, q⟩
/-- isinstance(e, (c1, ..)), e the held error -/
def rIsEs (Kf : PySem.W.Frag) (D a : Addr) : List V → Hp → VK → Prop := fun xs Hh q => ∃ (tp : Addr) (cs : List V) (us : List Value) (b : Bool), xs = [.ref a, .ref tp] ∧ Hh tp = some (.tup cs) ∧ Paired ClsV cs us ∧ PySem.W.kitAny Kf (.ref D) us = some b ∧ q (.bl b) Hh
theorem call_isEs {a D : Addr} {ob : Obj} {pl : List (Addr × Obj)} (C : ExcC X.K D) (z : Zc (.ref D) none ob) (hf : ∃ vs, ob.data = .fields vs) : CallR (X.suite a ((a, ob) :: pl)) (.builtin "isinstance") (rIsEs X.K D a) := by
  intro pins s sl Hh xs us q I r h
  obtain ⟨tp, cs, cv, b, rfl, hT, k, e, q⟩ := h
  obtain ⟨u1, u2, rfl, r1, r2⟩ := vals2 r
  have e1 : u1 = Value.ref a := r1
  have e2 : u2 = Value.ref tp := r2
  subst e1 e2
  obtain ⟨at_, _⟩ := I.pin (a, ob) (List.mem_append.mpr (.inl List.mem_cons_self))
  obtain ⟨vs, dv⟩ := hf
  have J : PySem.W.InstAt s.heap a ob D none := by
    obtain ⟨oc, od, oda, osl⟩ := ob
    obtain ⟨z1, z2⟩ := z
    dsimp only at z1 z2 dv
    subst z1 z2 dv
    exact ⟨at_, rfl, rfl, trivial⟩
  have ht : ObjOk X.prog X.w Hh s.heap tp (.tup cs) := I.hok tp _ hT
  obtain ⟨_, its, rv, o, h1, h2, n, h3⟩ := ht
  have ev := ClsV.all k rv
  subst ev
  obtain ⟨oc, od, dt, osl⟩ := o
  simp only at h2 h3
  subst h2 h3
  exact PySem.W.kia_tup (PySem.W.handS_kitx_exc C.hg C.hk C.hs C.hd C.ha C.hn C.ht C.hm) I.kIn J h1 e (fun y => nomatch y) fun tk => ⟨.bl b, Hh, I.kept (t' := tk) fun _ _ y => y, rfl, q⟩
end
/-! ### promises of defs of any caller (FnOk), by derivations -/
def BodyP (Pg : Program) (wo : World) (Kf : PySem.W.Frag) (glo : Str → Option Value) (bs : Heap) (lv : Nat) (x : Str) (st : Stmt) (ad : Addr) (nm : List Str) (t : TS) : Prop :=
  ∀ (cdv : Value) (R : Around) (out : List Env) (s : Shared) (Hh : Hp) (E : XK), Room lv (R.deeper (envOfC x (defScope st) s.heap.objs.size ad cdv)) →
    PSs (cxOf CX0 Pg wo Kf glo bs nm x (defScope st) ad cdv R out s Hh E).nox (defBody st) t
def BodyX (Pg : Program) (wo : World) (Kf : PySem.W.Frag) (glo : Str → Option Value) (bs : Heap) (lv : Nat) (x : Str) (st : Stmt) (ad : Addr) (nm : List Str) (t : XK → TS) : Prop :=
  ∀ (cdv : Value) (R : Around) (out : List Env) (s : Shared) (Hh : Hp) (E : XK), Room lv (R.deeper (envOfC x (defScope st) s.heap.objs.size ad cdv)) →
    PSs (cxOf (L2.CX Pg wo) Pg wo Kf glo bs nm x (defScope st) ad cdv R out s Hh E) (defBody st) (t E)
section
variable {Pg : Program} {wo : World} {Kf : PySem.W.Frag} {glo : Str → Option Value} {bs : Heap} {lv : Nat} {x qual : Str} {st : Stmt} {ad : Addr} {fu : FuncData} {nm pl : List Str} {pr : Sp}
theorem okP {t : TS} (F : Fun Kf x qual st ad fu) (S : FnScope nm pl (defScope st)) (len : ∀ a b c d, pr a b c d → a.length = pl.length) (B : BodyP Pg wo Kf glo bs lv qual st ad nm t)
    (h : ∀ vv Hh q E, pr vv Hh q E → t { nx := fun _ H' => q .non H', rt := q } (start nm vv) Hh) : FnOk Pg wo Kf glo bs CX0 (lv + 1) ad fu pl pr :=
  F.ok S len fun cdv R out s Hh vv q E ro hp => ⟨t, B cdv R out s Hh E ro, h vv Hh q E hp⟩
theorem okX {t : XK → TS} (F : Fun Kf x qual st ad fu) (S : FnScope nm pl (defScope st)) (len : ∀ a b c d, pr a b c d → a.length = pl.length) (B : BodyX Pg wo Kf glo bs lv qual st ad nm t)
    (h : ∀ vv Hh q E, pr vv Hh q E → t E { nx := fun _ H' => q .non H', rt := q } (start nm vv) Hh) : FnOk Pg wo Kf glo bs (L2.CX Pg wo) (lv + 1) ad fu pl pr :=
  F.okX S len fun cdv R out s Hh vv q E ro hp => ⟨t E, B cdv R out s Hh E ro, h vv Hh q E hp⟩
end
/-! ### attributes -/
section
variable {K : PySem.W.Frag} {σ : L2.St} {H : Hp} {ta tv te : TE} {t : TA} {D : Ends} {Q : VK} {f : Str} {C a dx : Addr} {fs : List (Str × V)} {v : V} {sp : Sp} {E : XK}
theorem o_fld (h : ∀ R : VK, R (.ref a) H → ta σ H R) (e : H a = some (.ins C dx fs)) (c : Cls K C) (n : NoAttr K C f) (l : fs.lookup f = some v) (q : Q v H) : tFld K ta f σ H Q := h _ ⟨a, C, dx, fs, v, rfl, e, c, n, l, q⟩
theorem o_setF (q : tv σ H fun y H1 => ta σ H1 fun x H2 => ∃ a C dx fs, x = .ref a ∧ H2 a = some (.ins C dx fs) ∧ Cls K C ∧ NoAttr K C f ∧ fs.length < 1000 ∧ D.nx σ (upd H2 a (.ins C dx (putF f y fs)))) : sFld K ta tv f D σ H := q
theorem o_meth (q : ta σ H fun x H1 => ∃ a dx fs, x = .ref a ∧ H1 a = some (.ins C dx fs) ∧ fs.lookup f = none ∧ t σ H1 fun vs H2 => sp (x :: vs) H2 Q E) : tMeth C f sp [] E ta t σ H Q := by
  unfold tMeth
  simp only [List.append_nil]
  exact q
end
/-- o.m(e, ..) where the method may raise: what it raises is wished for at the slots as they stand -/
def tMethX (C : Addr) (m : Str) (pr : Sp) (E : L2.St → XK) (ta : TE) (t : TA) : TE := fun sl Hh q => ta sl Hh fun x H1 => ∃ a dx fs, x = .ref a ∧ H1 a = some (.ins C dx fs) ∧ fs.lookup m = none ∧ t sl H1 fun vs H2 => pr (x :: vs) H2 q (E sl)
section
variable {X : Cx} {cx : CXT} {lv : Nat} {f C : Addr} {fu : FuncData} {pl : List Str} {pr : Sp} {E : L2.St → XK} {m : Str} {p1 p2 : Pos} {e o : Expr} {es : List Expr} {ta : TE} {t : TA} {ps : Sem Bool}
theorem pe_methX (he : PE X o ta) (c : Cls X.K C) (hm : Meth X.K C m f) (F : FnOk X.prog X.w X.K X.mg X.base cx lv f fu pl pr) (ro : Room lv X.A) (bi : Binds X.K fu pl []) (at_ : ∀ sl, PassesAt cx X sl (E sl)) (ha : PA X (e :: es) t)
    (hst : starEach (e :: es) X.env = (false, eval e X.env) :: starEach es X.env := by rfl) (hbk : (backTo p1 (starEach es X.env)).any (·.1) = false := by rfl)
    (hev : eval (.Call (.Attribute o m p2) (e :: es) [] p1) X.env = (do
      let ov ← eval o X.env
      standAt p2.atName
      let (fn, fst) ← holding [ov] (getMethod ov m ps)
      callWith p1 fn fst (backTo p1 (starEach (e :: es) X.env)) (backToKw p1 (keywordEach [] X.env))) := by rfl) : PE X (.Call (.Attribute o m p2) (e :: es) [] p1) (tMethX C m pr E ta t) := by
  constructor
  intro pins s sl Hh q I h
  refine PySem.W.methodCall_KW (pl := ps) (thn (he.run pins s sl Hh _ I h) fun u s1 ⟨x, H1, I1, rx, a, dx, fs, ex, at1, no, go⟩ => ?_) hev
  subst ex
  have eu : u = Value.ref a := rx
  subst eu
  refine getmeth_ok I1 at1 c hm no (PySem.W.callWith_K (first := [.ref a]) (h₀ := X.base) I.ok.mod.kin hm.kp (thn (ha.run p1 pins s1 sl H1 _ I1 go) fun us s2 ⟨vs, H2, I2, r, go2⟩ => ?_) hst hbk)
  exact ⟨I2.kIn, run_fnS (us := .ref a :: us) (vs := .ref a :: vs) F ro bi (at_ sl) I2 (.cons rfl r) go2⟩
theorem pe_methX0 (he : PE X o ta) (c : Cls X.K C) (hm : Meth X.K C m f) (F : FnOk X.prog X.w X.K X.mg X.base cx lv f fu pl pr) (ro : Room lv X.A) (bi : Binds X.K fu pl []) (at_ : ∀ sl, PassesAt cx X sl (E sl))
    (hev : eval (.Call (.Attribute o m p2) [] [] p1) X.env = (do
      let ov ← eval o X.env
      standAt p2.atName
      let (fn, fst) ← holding [ov] (getMethod ov m ps)
      callWith p1 fn fst (backTo p1 (starEach [] X.env)) (backToKw p1 (keywordEach [] X.env))) := by rfl) : PE X (.Call (.Attribute o m p2) [] [] p1) (tMethX C m pr E ta tNil) := by
  constructor
  intro pins s sl Hh q I h
  refine PySem.W.methodCall_KW (pl := ps) (thn (he.run pins s sl Hh _ I h) fun u s1 ⟨x, H1, I1, rx, a, dx, fs, ex, at1, no, go⟩ => ?_) hev
  subst ex
  have eu : u = Value.ref a := rx
  subst eu
  refine getmeth_ok I1 at1 c hm no ?_
  exact PySem.W.callWith_K0 (first := [.ref a]) I1.kIn hm.kp (run_fnS (us := [.ref a]) (vs := [.ref a]) F ro bi (at_ sl) I1 (.cons rfl .nil) go)
end
end Sf
namespace Sf
open PySem PySem.Spec PyProof.Rows L2
/-- raise C('..'), C at this address -/
def tRaise (E : XK) (C : Addr) : TS := fun _ _ Hh => E (.ref C) none Hh
/-- a suite where the held error is known -/
def tIs (c : Value) (dx : Option Addr) (ty : Value) (t : TS) : TS := fun D sl Hh => c = ty ∧ dx = none ∧ t D sl Hh
abbrev rdTupIndex (K : PySem.W.Frag) : V → List V → Hp → VK → Prop := fun x xs H Q => ∃ p, ∃ ys : List Str, ∃ z j, x = .ref p ∧ xs = [.str z] ∧ SqT K H p (ys.map V.str) ∧ ys[j]? = some z ∧ (∀ m, m < j → ys[m]? ≠ some z) ∧ Q (.int (j : Nat)) H
section
variable {X : Cx} {cx : CXT} {lv : Nat} {ad : Addr} {fu : FuncData} {pl : List Str} {pr : Sp} {E : XK} {x : Str} {st : Stmt} {p pos : Pos} {e : Expr} {es : List Expr} {t : TA}
theorem pss_is {ss : List Stmt} {c : Value} {dx : Option Addr} {ty : Value} {t : TS} (h : c = ty → dx = none → PSs X ss t) : PSs X ss (tIs c dx ty t) := by
  constructor
  rintro pins s sl Hh D I ⟨h1, h2, q⟩
  exact (h h1 h2).run pins s sl Hh D I q
theorem nm_of {C : Addr} (g : X.mg x = some (.ref C)) (hg : Gl X x := by rfl) (hd : (x == ("__debug__" : Str)) = false := by decide) : Names X x (.ref C) := ⟨hg, hd, .inl g⟩
/-- f(e, ..) by a promise for any caller -/
theorem pe_callP (D : Df X.K X.mg x st pl ad fu) (F : FnOk X.prog X.w X.K X.mg X.base cx lv ad fu pl pr) (ro : Room lv X.A) (ps : Passes cx X E) (ha : PA X (e :: es) t) (hg : Gl X x := by rfl)
    (dbg : (x == ("__debug__" : Str)) = false := by decide) (hst : starEach (e :: es) X.env = (false, eval e X.env) :: starEach es X.env := by rfl) (hbk : (backTo pos (starEach es X.env)).any (·.1) = false := by rfl) :
    PE X (.Call (.Name x p) (e :: es) [] pos) (rCallG pr E t) := by
  have r := pe_call (dvs := []) (p := p) (pos := pos) F ro hg D.m D.F.kp D.b .nil ps ha dbg hst hbk
  refine ⟨fun pins s sl Hh q I h => r.run pins s sl Hh q I ?_⟩
  show t sl Hh fun vs H1 => pr (vs ++ []) H1 q E
  simp only [List.append_nil]
  exact h
/-- sum(t), t a tuple of ints -/
def rSumT (K : PySem.W.Frag) : List V → Hp → VK → Prop := fun vs H Q => ∃ (a : Addr) (ns : List Int), vs = [V.ref a] ∧ SqT K H a (ns.map V.int) ∧ Q (.int ns.sum) H
theorem sum_tup {prog : Program} {w : World} {A : Around} {E : Value → Shared → Prop} {s : Shared} {l : Addr} {xs : Array (Int × Tok)} {Q : Value → Shared → Prop} (hh : A.handled = none) (hl : s.heap.IsTuple l (intItems xs))
    (h : ∀ h' tk t', (∀ b o, s.heap.get? b = some o → h'.get? b = some o) → Q (.int (preSum (numAt xs) xs.size) t') { s with heap := h', toks := tk }) : wpAny (model prog w) A (call (.builtin "sum") [.ref l]) Q E s := by
  have lt : l < s.heap.objs.size := by
    obtain ⟨_, e, _⟩ := hl
    exact Heap.lt_size e
  refine call_sum_walkG (wpAny_pyIter_tuple hl ⟨_, _, _, _, _, _, numAt xs, rfl, Walks.tuple (A := A.in1) hh _ l (Nat.ne_of_lt lt) (intItems xs), ⟨⟨_, Heap.get?_push_size _ rfl, rfl, rfl⟩, hl.push _⟩, ?_, (fun _ _ => intItems_at), fun h' tk t' hk => ?_⟩)
  · intro b hb
    show b < (s.heap.push _).objs.size
    rw [Heap.size_push]
    simp only [List.mem_cons, List.not_mem_nil, or_false] at hb
    rcases hb with e | e
    · rw [e]; exact Nat.lt_succ_self _
    · rw [e]; exact Nat.lt_succ_of_lt lt
  · have kept : ∀ b o, s.heap.get? b = some o → h'.get? b = some o := fun b o e => by
      refine hk b o (fun m => ?_) (Heap.get?_push_of_some _ e)
      have := Heap.lt_size e
      rw [List.mem_singleton.mp m] at this
      exact absurd this (Nat.lt_irrefl _)
    have q := h h' tk t' kept
    simpa [intItems] using q
theorem cr_sumT (hc : X.calm = true) : CallR X (.builtin "sum") (rSumT X.K) := by
  intro pins s sl Hh vs us q I r h
  obtain ⟨a, ns, rfl, ht, go⟩ := h
  obtain ⟨its, rv, tu, _⟩ := I.tuple ht
  rw [Vals.ref1 r]
  obtain ⟨xs, e⟩ := rv.ints.allInts.items
  have hn : numsOf (intItems xs).toList = ns := by rw [← e]; exact rv.ints.numsOf
  rw [nums_intItems] at hn
  have tu2 : s.heap.IsTuple a (intItems xs) := by rw [← e]; exact tu
  refine sum_tup (I.ok.hd hc) tu2 fun h' tk t' kept => ⟨.int _, Hh, I.kept kept, ⟨_, rfl⟩, ?_⟩
  rw [preSum_eq, List.take_of_length_le (by simp), hn]
  exact go
end
end Sf
/-! a tuple made while the law runs, its object known: its methods may be called -/
namespace Sf
open PySem PySem.Spec PyProof.Rows L2
/-- tuple(list): the new object has no dict -/
def rdTupleF (K : PySem.W.Frag) : List V → Hp → VK → Prop := fun a H Q => ∃ p ys, a = [.ref p] ∧ SqL K H p ys ∧ ∀ l o, H l = none → o.dict = none → Q (.ref l) (upd H l (.frz o (.tup ys)))
/-- t.m(..), t such a tuple -/
def tBMT (r : V → List V → Hp → VK → Prop) (to : TE) (t : TA) : TE := fun σ H Q => to σ H fun x H1 => (∃ p o xs, x = .ref p ∧ H1 p = some (.frz o (.tup xs)) ∧ o.dict = none) ∧ t σ H1 fun ys H2 => r x ys H2 Q
section
variable {X : Cx} {o e : Expr} {es : List Expr} {to : TE} {t : TA} {name : Str} {apos cpos : Pos} {id : String} {r : V → List V → Hp → VK → Prop}
theorem call_tuple_frz : CallR X (.type "tuple") (rdTupleF X.K) := by
  intro pins s sl Hh xs us q I rv h
  obtain ⟨p, ys, rfl, hq, go⟩ := h
  obtain ⟨u, rfl, ru⟩ := vals1 rv
  have eu : u = Value.ref p := ru
  subst eu
  obtain ⟨its, rs, pl, small⟩ := I.list hq
  have ln := rs.length
  refine call_tuple_list pl.isList (fun h2 kp => ?_) (by simp only [List.size_toArray]; omega)
  have I1 : Inv X pins sl Hh { s with heap := h2 } := I.kept (t' := s.toks) kp
  have at_ : (h2.push { cls := .type "tuple", data := .seq its.toArray }).get? h2.objs.size = some { cls := .type "tuple", data := .seq its.toArray } := Heap.get?_push_size _ rfl
  have I2 : Inv X pins sl (upd Hh h2.objs.size (.frz { cls := .type "tuple", data := .seq its.toArray } (.tup ys))) { s with heap := h2.push { cls := .type "tuple", data := .seq its.toArray } } :=
    I1.laid (t' := s.toks) (fun b ob e => Heap.get?_push_of_some _ e) (Nat.le_refl _) ⟨at_, small, its, rs, IsTup.new _ _⟩
  exact ⟨.ref h2.objs.size, _, I2, rfl, go _ _ (I1.hok.fresh (Nat.le_refl _)) rfl⟩
theorem pe_bmT (pa : PlainAttrs "tuple") (slot : Slot "tuple" name id) (hty : typeOf (.builtin id) = pure (.type "method_descriptor")) (hm : MtR X id r) (ho : PE X o to) (ha : PA X (e :: es) t)
    (hbase : attributeBase o name X.env (eval o X.env) = eval o X.env := by rfl)
    (few : ((backTo cpos (starEach (e :: es) X.env)).all (fun x => !x.1) && (backToKw cpos (keywordEach [] X.env)).all (fun x => x.1.isSome) && decide ((e :: es).length + ([] : List Keyword).length + (if ([] : List Keyword).isEmpty then 0 else 1) < 30)) = true := by rfl)
    (line : (apos.endLine == cpos.line) = true := by rfl) (st : starEach (e :: es) X.env = (false, eval e X.env) :: starEach es X.env := by rfl) (bk : (backTo cpos (starEach es X.env)).any (·.1) = false := by rfl) :
    PE X (.Call (.Attribute o name apos) (e :: es) [] cpos) (tBMT r to t) := by
  constructor
  intro pins s sl Hh q I h
  refine wpAny_Call_method_late hbase few line rfl (thn (ho.run pins s sl Hh _ I h) fun v s1 ⟨x, H1, I1, r1, ⟨p, ob, xs, ex, at_, nod⟩, go⟩ => ?_)
  subst ex
  have ev : v = Value.ref p := r1
  subst ev
  have ok : ObjOk X.prog X.w H1 s1.heap p (.frz ob (.tup xs)) := I1.hok p _ at_
  obtain ⟨g, _, its, _, o2, g2, c2, _⟩ := ok
  have eo : o2 = ob := Option.some.inj (g2.symm.trans g)
  subst eo
  refine ⟨"tuple", id, pa, slot, hty, ⟨o2, g, c2⟩, fun a e2 => ?_, ?_⟩
  · have ea : p = a := Value.ref.inj e2
    subst ea
    exact ⟨o2, g, nod⟩
  · have hA := ha.run cpos pins s1 sl H1 _ I1 go
    rw [st] at hA ⊢
    refine Calls.callWith_builtin (by show (false || (backTo cpos (starEach es X.env)).any (·.1)) = false; rw [bk]; rfl) (Calls.evalArgs_plain ?_)
    exact thn hA fun us s2 ⟨vs, H2, I2, r2, go2⟩ => hm pins s2 sl H2 (.ref p) vs (.ref p) us q I2 rfl r2 go2
end
end Sf
namespace Sf
open PySem PySem.Spec PyProof.Rows L2
/-- data that is short and shown short -/
structure Shw (d : PyData) (n h : Nat) : Prop where
  sh : d.showable = true
  nd : d.hasDict = false
  dp : d.depth ≤ h
  ls : d.leavesShort 13 = true
  we : d.bulk ≤ n
structure ShwA (ds : List PyData) (n h : Nat) : Prop where
  sh : PyData.showableAll ds = true
  nd : PyData.hasDictAll ds = false
  dp : PyData.depthAll ds ≤ h
  ls : PyData.leavesShortAll 13 ds = true
  we : PyData.bulkAll ds ≤ n
theorem Shw.le {d : PyData} {n m h k : Nat} (s : Shw d n h) (a : n ≤ m) (b : h ≤ k) : Shw d m k := ⟨s.sh, s.nd, Nat.le_trans s.dp b, s.ls, Nat.le_trans s.we a⟩
theorem ShwA.le {d : List PyData} {n m h k : Nat} (s : ShwA d n h) (a : n ≤ m) (b : h ≤ k) : ShwA d m k := ⟨s.sh, s.nd, Nat.le_trans s.dp b, s.ls, Nat.le_trans s.we a⟩
theorem Shw.non : Shw .none 0 0 := ⟨rfl, rfl, Nat.le_refl _, rfl, Nat.le_refl _⟩
theorem Shw.bl (b : Bool) : Shw (.bool b) 0 0 := ⟨rfl, rfl, Nat.le_refl _, rfl, Nat.le_refl _⟩
theorem Shw.str {x : Str} (h : Sm x) : Shw (.str x) x.length 0 := by
  refine ⟨rfl, rfl, Nat.le_refl _, ?_, ?_⟩
  · simp only [PyData.leavesShort, List.all_eq_true, decide_eq_true_eq]
    intro c hc
    exact Nat.lt_trans (h c hc) (by decide)
  · simp only [PyData.bulk]; exact Nat.le_refl _
theorem Shw.tup {ds : List PyData} {n h : Nat} (s : ShwA ds n h) : Shw (.tuple ds) n (h + 1) :=
  ⟨by simpa only [PyData.showable] using s.sh, by simpa only [PyData.hasDict] using s.nd, by simpa only [PyData.depth] using Nat.succ_le_succ s.dp, by simpa only [PyData.leavesShort] using s.ls, by simpa only [PyData.bulk] using s.we⟩
theorem Shw.lst {ds : List PyData} {n h : Nat} (s : ShwA ds n h) : Shw (.list ds) n (h + 1) :=
  ⟨by simpa only [PyData.showable] using s.sh, by simpa only [PyData.hasDict] using s.nd, by simpa only [PyData.depth] using Nat.succ_le_succ s.dp, by simpa only [PyData.leavesShort] using s.ls, by simpa only [PyData.bulk] using s.we⟩
theorem ShwA.nil : ShwA [] 0 0 := ⟨rfl, rfl, Nat.le_refl _, rfl, Nat.le_refl _⟩
theorem ShwA.cons {d : PyData} {ds : List PyData} {n m h : Nat} (a : Shw d n h) (s : ShwA ds m h) : ShwA (d :: ds) (n + 1 + m) h := by
  refine ⟨?_, ?_, ?_, ?_, ?_⟩
  · simp only [PyData.showableAll, a.sh, s.sh, Bool.and_self]
  · simp only [PyData.hasDictAll, a.nd, s.nd, Bool.or_self]
  · simp only [PyData.depthAll]
    exact Nat.max_le.mpr ⟨a.dp, s.dp⟩
  · simp only [PyData.leavesShortAll, a.ls, s.ls, Bool.and_self]
  · simp only [PyData.bulkAll]
    have := a.we
    have := s.we
    omega
theorem ofString_len (z : Int) : (PyData.shown (.int z)).length = (toString z).length := by
  show (Str.ofString (toString z)).length = _
  rw [PySem.ofString_length]
theorem Shw.int {z : Int} (h0 : z.natAbs < 2 ^ 36) : Shw (.int z) 0 0 := by
  have h2 : z.natAbs.log2 < 36 := by
    by_cases hz : z.natAbs = 0
    · rw [hz]; decide
    · exact (Nat.log2_lt hz).mpr h0
  refine ⟨?_, rfl, Nat.le_refl _, ?_, ?_⟩
  · simp only [PyData.showable, decide_eq_true_eq]
    omega
  · simp only [PyData.leavesShort, decide_eq_true_eq]
    rw [ofString_len]
    exact int_text_length_le10 (k := 12) (by decide) (Nat.lt_trans h0 (by decide))
  · simp only [PyData.bulk]
    exact Nat.le_refl _
theorem ShwA.strs : ∀ {l : List Str}, (∀ y ∈ l, Sm y) → ShwA (l.map .str) ((l.map Str.length).sum + l.length) 0
  | [], _ => .nil
  | a :: r, h => by
    have := ShwA.cons (Shw.str (h a (by simp))) (ShwA.strs (l := r) fun y hy => h y (by simp [hy]))
    refine this.le ?_ (Nat.le_refl _)
    simp only [List.map_cons, List.sum_cons, List.length_cons]
    omega
theorem ShwA.ints : ∀ {l : List Int}, (∀ y ∈ l, y.natAbs < 2 ^ 36) → ShwA (l.map .int) l.length 0
  | [], _ => .nil
  | a :: r, h => by
    have := ShwA.cons (Shw.int (h a (by simp))) (ShwA.ints (l := r) fun y hy => h y (by simp [hy]))
    refine this.le ?_ (Nat.le_refl _)
    simp only [List.length_cons]
    omega
theorem Shw.fits {d : PyData} {n h : Nat} (s : Shw d n h) (hn : n ≤ 1000000) : (PyData.list [d]).shown.length ≤ sizeLine := by
  have e := Shw.lst (ShwA.cons s (ShwA.nil.le (Nat.le_refl _) (Nat.zero_le _)))
  have b := PyData.shown_le_bulk 13 (by decide) _ e.ls
  have w := e.we
  have z := sizeLine_eq
  omega
end Sf
/-! the end of a row whose law's promise (FnG) is for callers without guards -/
namespace Sf
open PySem PySem.Spec PyProof.Rows L2
/-- what the law's call must show -/
def Told (s1 : Shared) (r : Result) (s' : Shared) : Prop := r = .ok (.ret (.bool true)) ∧ OldK s1.heap s'.heap ∧ s'.os = s1.os ∧ AllBare s'.gens
section
variable {Pg : Program} {wo : World} {Kf : PySem.W.Frag} {glo gb : Str → Option Value} {lv : Nat} {fa a : Addr} {fu : FuncData} {x : Str} {pr : Sp} {s1 : Shared} {us : List Value} {ns : List Int}
/-- the call from a tracked heap Hh that knows the script at most -/
theorem call_from (kin : Kf.In s1.heap) (gl : s1.heap.Ns mainGlobals glo) (bl : s1.heap.Ns builtinsNs gb) (boot : ∀ y : Str, y ≠ "__name__" → gb y = bootBuiltins y) (nol : s1.heap.NoLimit) (gens : s1.gens = #[])
    (ob : s1.heap.get? a = some ⟨.type "list", none, .seq us.toArray, #[]⟩) (ro : Room lv callerA) (bt : BindsTo s1 fu ⟨[.ref a], []⟩ [(x, .ref a)])
    (F : ∀ bs : Heap, Kf.In bs → bs.Ns mainGlobals glo → FnG Pg wo Kf glo bs CX0 lv fa fu [x] pr) (Hh : Hp) (only : Only Hh) (ok : HOk Pg wo Hh s1.heap) (mine : ∀ b, Hh b ≠ none → b = a) (out : Hh a ≠ none → Kf.lookup a = none)
    (hp : pr [.ref a] Hh (fun v _ => v = .bl true) fun _ _ _ => False) : codeAny (model Pg wo) callerA (.call (.ref fa) ⟨[.ref a], []⟩) (Told s1) s1 := by
  have free : ∀ {b : Addr} {o : Obj}, s1.heap.get? b = some o → (∀ h : b = a, False) → (hidT s1.heap Hh).get? b = some o := fun {b o} e nb => by
    refine hidT_get e ?_
    cases q : Hh b with
    | none => rfl
    | some z => exact (nb (mine b (by rw [q]; simp))).elim
  have nsB : ∀ {b : Addr} {m : Str → Option Value}, s1.heap.Ns b m → (hidT s1.heap Hh).Ns b m := by
    rintro b m ⟨o, es, ep, e, d, r⟩
    refine ⟨o, es, ep, free e fun hb => ?_, d, r⟩
    subst hb
    rw [ob] at e
    injection e with e
    subst e
    have d' : Data.seq us.toArray _ = Data.dict es ep := d
    nomatch d'
  have kb : Kf.In (hidT s1.heap Hh) := fun b o e => by
    refine hidT_get (kin b o e) ?_
    cases q : Hh b with
    | none => rfl
    | some z =>
      have hb := mine b (by rw [q]; simp)
      subst hb
      have := out (by rw [q]; simp)
      rw [e] at this
      nomatch this
  have lim : (hidT s1.heap Hh).NoLimit := by
    obtain ⟨mc, z1, z2⟩ := nol
    exact ⟨mc, nsB z1, z2⟩
  have md : Mod Kf glo (hidT s1.heap Hh) := ⟨kb, nsB gl, ⟨gb, nsB bl, boot⟩, lim⟩
  have nob : ∀ b : Addr, b ∉ ([] : List Addr) := fun b => by simp
  have en : Env0 Pg wo Kf glo (hidT s1.heap Hh) callerA [] s1 Hh := ⟨rfl, md, fun b o e => of_hidT e, Nat.le_of_eq (hidT_size _ _), trivial, fun b hb => (nob b hb).elim, ok, .of_eq gens⟩
  refine codeAny_mono ((F _ kb (nsB gl)).go callerA [] s1 Hh ⟨[.ref a], []⟩ [.ref a] [.ref a] _ _ rfl ro en bt (.cons rfl .nil) hp) fun r s' h => ?_
  match r, h with
  | .error e, h => exact False.elim h
  | .ok .next, h => exact False.elim h
  | .ok .brk, h => exact False.elim h
  | .ok .cont, h => exact False.elim h
  | .ok (.ret u), ⟨v, H2, os, bare, un, ok2, rl, q⟩ =>
    have q2 : v = .bl true := q
    rw [q2] at rl
    have ru : u = Value.bool true := rl
    refine ⟨by rw [ru], OldK.of_keep fun b o e => ?_, os, bare⟩
    rcases only b with z | ⟨fo, ys, z⟩
    · exact un.keep b o e z (nob b) (nob b)
    · have before := (ok b _ z).1
      have after := (ok2 b _ (un.frzs b fo _ z)).1
      rw [before] at e
      rw [← Option.some.inj e]
      exact after
theorem call_law (kin : Kf.In s1.heap) (gl : s1.heap.Ns mainGlobals glo) (bl : s1.heap.Ns builtinsNs gb) (boot : ∀ y : Str, y ≠ "__name__" → gb y = bootBuiltins y) (nol : s1.heap.NoLimit) (gens : s1.gens = #[])
    (ob : s1.heap.get? a = some ⟨.type "list", none, .seq us.toArray, #[]⟩) (li : IntsAre us ns) (small : ns.length ≤ sizeLine) (ro : Room lv callerA) (bt : BindsTo s1 fu ⟨[.ref a], []⟩ [(x, .ref a)])
    (F : ∀ bs : Heap, Kf.In bs → bs.Ns mainGlobals glo → FnG Pg wo Kf glo bs CX0 lv fa fu [x] pr)
    (hp : ∀ Hh : Hp, SqL Kf Hh a (ns.map V.int) → pr [.ref a] Hh (fun v _ => v = .bl true) fun _ _ _ => False) : codeAny (model Pg wo) callerA (.call (.ref fa) ⟨[.ref a], []⟩) (Told s1) s1 := by
  have vals := vals_ints li
  have long := li.length
  by_cases hk : Kf.lookup a = none
  · have yes : ∀ u : HO, (fun b => if b = a then some u else none : Hp) a = some u := fun u => if_pos rfl
    have no : ∀ (u : HO) (b : Addr), b ≠ a → (fun b => if b = a then some u else none : Hp) b = none := fun u b n => if_neg n
    refine call_from kin gl bl boot nol gens ob ro bt F (fun b => if b = a then some (.frz ⟨.type "list", none, .seq us.toArray, #[]⟩ (.lst (ns.map V.int))) else none) (fun b => ?_) (fun b u z => ?_) (fun b z => ?_) (fun _ => hk) (hp _ (.inl (.inr ⟨_, yes _⟩)))
    · by_cases hb : b = a
      · subst hb; exact .inr ⟨_, _, yes _⟩
      · exact .inl (no _ b hb)
    · by_cases hb : b = a
      · subst hb
        rw [yes] at z
        injection z with z
        subst z
        exact ⟨ob, by rw [List.length_map]; exact small, us, _, vals, ob⟩
      · rw [no _ b hb] at z
        nomatch z
    · by_cases hb : b = a
      · exact hb
      · exact absurd (no _ b hb) z
  · obtain ⟨o, ho⟩ := Option.ne_none_iff_exists'.mp hk
    have same := kin a o ho
    rw [ob] at same
    have eo := (Option.some.inj same).symm
    subst eo
    refine call_from kin gl bl boot nol gens ob ro bt F (fun _ => none) (fun _ => .inl rfl) (fun b u z => nomatch z) (fun b z => absurd rfl z) (fun z => absurd rfl z) (hp _ (.inr ⟨_, us.toArray, _, ho, rfl, rfl, rfl, ?_, by simpa using vals⟩))
    rw [List.size_toArray, long]
    exact small
end
/-- a law row's walk, its only argument the script -/
theorem walk_G {l : PySem.W.OpenLaw} {n lv : Nat} {q : Program} {loose : List Str} {XP : (Str → Option Value) → Heap → Prop} {YP : World → Heap → Prop} {d : DefRec} {Kf : Params → PySem.W.Frag} {pr : PySem.W.Frag → Sp}
    (most : l.most = some n) (small : n ≤ sizeLine) (plain : d.params.defaults = []) (ro : Room lv callerA) (kin : ∀ (w : World) (h : Heap), YP w h → (Kf w.params).In h) (nm : d.name = "law")
    (F : ∀ (w : World) (glo : Str → Option Value) (h : Heap), (Kf w.params).In h → h.Ns mainGlobals glo →
      ∃ (fa : Addr) (fu : FuncData), glo "law" = some (.ref fa) ∧ Binds (Kf w.params) fu ["script"] [] ∧ ∀ bs : Heap, (Kf w.params).In bs → bs.Ns mainGlobals glo → FnG l.prog w (Kf w.params) glo bs CX0 lv fa fu ["script"] (pr (Kf w.params)))
    (hp : ∀ (K : PySem.W.Frag) (Hh : Hp) (a : Addr) (ns : List Int), ns.length ≤ n → SqL K Hh a (ns.map V.int) → pr K [.ref a] Hh (fun v _ => v = .bl true) fun _ _ _ => False) :
    PySem.W.WalkO q loose XP YP l.row.toRowW d [] (fun f vs => PySem.call f vs) := by
  refine Att.attach_call most plain fun w s0 s1 glo gb fa o pm cd doc a us ns G Y _ _ _ at_ ob li le gens => ?_
  have ki := kin w _ Y
  obtain ⟨f2, fu, e2, bi, fn⟩ := F w glo _ ki G.T.g
  rw [nm, e2] at at_
  have ef : f2 = fa := Value.ref.inj (Option.some.inj at_)
  subst ef
  exact call_law ki G.T.g G.T.b G.T.builtins G.T.nolimit gens ob li (Nat.le_trans le small) ro (bi s1 [.ref a] ki rfl) fn (fun Hh sq => hp _ Hh a ns le sq)
/-! ### what the top wrote -/
section
variable {K : PySem.W.Frag} {h : Heap} {mg : Str → Option Value} {x : Str} {f : Addr} {w : World}
theorem df_mk {st : Stmt} {pl : List Str} {od an : Option Addr} {sl : Array (Option Value)} {oc kV dc pm cd ct : Value} (X : K.In h) (G : h.Ns mainGlobals mg) (a : PySem.W.nsIn K mainGlobals x = some (some (.ref f)))
    (l : K.lookup f = some ⟨oc, od, .func (PySem.W.fnOf x x (defArgs st) (defBody st) (defScope st) .none kV dc pm an cd ct), sl⟩) (c : PySem.W.codeIn K cd x = true) (k : PySem.W.keepIn K (.ref f) = true)
    (b : ∀ F : Fun K x x st f (PySem.W.fnOf x x (defArgs st) (defBody st) (defScope st) .none kV dc pm an cd ct), Binds K (PySem.W.fnOf x x (defArgs st) (defBody st) (defScope st) .none kV dc pm an cd ct) pl []) : ∃ ad fu, Df K mg x st pl ad fu :=
  ⟨f, _, fun_mk l c k, PySem.W.mg_of X G a, b (fun_mk l c k)⟩
theorem gc_mk {v : V} {u : Value} (X : K.In h) (G : h.Ns mainGlobals mg) (a : PySem.W.nsIn K mainGlobals x = some (some u)) (r : RelV v u) : Gc mg x v := ⟨u, PySem.W.mg_of X G a, r⟩
theorem sqT_mk {xs : List V} {od : Option Addr} {its : Array Value} {n : Nat} {sl : Array (Option Value)} (l : K.lookup f = some ⟨.type "tuple", od, .seq its n, sl⟩) (z : its.size ≤ 1000) (v : Vals xs its.toList) : ∀ H, SqT K H f xs :=
  fun H => .inr ⟨_, its, n, l, rfl, rfl, sz (Nat.le_trans z (by decide)), v⟩
/-- a written dict's entries -/
def Ents (P : Params) : List DictEntry → List (Str × Int) → Prop
  | [], [] => True
  | e :: r, q :: m => (∃ t t2, e.key = .str q.1 t ∧ e.hash = PyData.keyHash P q.1 ∧ e.val = .int q.2 t2) ∧ Ents P r m
  | _, _ => False
theorem ents_lit {P : Params} : ∀ {es : List DictEntry} {m : List (Str × Int)}, Ents P es m → PySem.W.KeysLit P es
  | [], _, _ => trivial
  | _ :: _, _ :: _, ⟨⟨t, _, a, b, _⟩, r⟩ => ⟨⟨_, t, a, b⟩, ents_lit r⟩
  | _ :: _, [], h => h.elim
theorem ents_find {P : Params} (z : Str) : ∀ {es : List DictEntry} {m : List (Str × Int)}, Ents P es m → (es.any (·.refKey) = false) ∧ (m.lookup z = none → es.find? (·.key.isStr z) = none) ∧ ∀ i, m.lookup z = some i → ∃ e t, es.find? (·.key.isStr z) = some e ∧ e.val = .int i t
  | [], [], _ => ⟨rfl, fun _ => rfl, fun i h => nomatch h⟩
  | e :: r, q :: m, ⟨⟨t, t2, a, _, b⟩, h⟩ => by
    obtain ⟨i1, i2, i3⟩ := ents_find z h
    obtain ⟨k, n⟩ := q
    have er : e.refKey = false := by unfold DictEntry.refKey; rw [a]
    refine ⟨by rw [List.any_cons, er, i1]; rfl, ?_⟩
    rw [List.lookup_cons]
    by_cases hz : z = k
    · subst hz
      have ek : e.key.isStr z = true := by rw [a]; simp [Value.isStr]
      simp only [beq_self_eq_true]
      refine ⟨(fun y => nomatch y), fun i y => ⟨e, t2, by rw [List.find?_cons, ek], ?_⟩⟩
      have : n = i := Option.some.inj y
      rw [b, this]
    · have ek : e.key.isStr z = false := by rw [a]; simp [Value.isStr]; exact fun y => hz y.symm
      have ez : (z == k) = false := by simpa using hz
      rw [ez, List.find?_cons, ek]
      exact ⟨i2, i3⟩
  | [], _ :: _, h => h.elim
  | _ :: _, [], h => h.elim
theorem kd_mk {m : List (Str × Int)} {es : Array DictEntry} {n : Nat} (l : K.lookup f = some ⟨.type "dict", none, .dict es n, #[]⟩) (e : Ents w.params es.toList m) (lo : (f == sysModules) = false) : (∃ es n, KDict K w f es n) ∧ KdInts K f m := by
  refine ⟨⟨es, n, l, ents_lit e, lo⟩, fun z => ?_⟩
  obtain ⟨h1, h2, h3⟩ := ents_find z e
  unfold PySem.W.nsIn
  rw [l]
  dsimp only
  cases q : m.lookup z with
  | none =>
    rw [h2 q]
    dsimp only
    rw [h1]
    exact ⟨none, rfl, (fun _ => rfl), fun i y => by cases y⟩
  | some i =>
    obtain ⟨e, t, e1, e2⟩ := h3 i q
    rw [e1]
    exact ⟨some e.val, rfl, (fun y => nomatch y), fun j y => ⟨t, by rw [e2, Option.some.inj y]⟩⟩
end
end Sf
/-! data of a program over a small heap of its own: what stands for what -/
namespace Dv
open PySem PySem.Spec PyProof.Rows L2 Sf
/-- values; ref i is a thing that changes, at the i-th place of the small heap; lst, obj as values: things that change no more -/
inductive D where
  | non | bl (b : Bool) | int (i : Int) | str (x : Str) | ty (n : String) | cls (n : Nat)
  | tup (k : Bool) (ds : List D) | lst (ds : List D) | obj (C : Nat) (fs : List (Nat × D)) | ref (i : Nat) | scr (ns : List Int) | held (a : Addr)
abbrev MH := List D
abbrev EnvD := List (Option D)
/-- which objects of the real heap the cells are; which are under way -/
structure Fs where
  cs : List Addr
  bl : List Addr
def Fs.Free (F : Fs) (a : Addr) : Prop := a ∉ F.cs ∧ a ∉ F.bl
def Fs.add (F : Fs) (a : Addr) : Fs := ⟨F.cs ++ [a], F.bl⟩
def Fs.block (F : Fs) (a : Addr) : Fs := ⟨F.cs, a :: F.bl⟩
/-- what is fixed: the objects of the module, the classes, the names of fields -/
structure Cc where
  K : PySem.W.Frag
  ca : Nat → Addr
  fn : List Str
  nd : fn.Nodup
inductive TupAt (K : PySem.W.Frag) (F : Fs) (H : Hp) : Bool → Addr → List V → Prop
  | kn {a : Addr} {o : Obj} {its : Array Value} {n : Nat} {vs : List V} : K.lookup a = some o → o.cls = .type "tuple" → o.data = .seq its n → its.size ≤ sizeLine → Vals vs its.toList → TupAt K F H false a vs
  | rd {a : Addr} {vs : List V} : F.Free a → H a = some (.tup vs) → TupAt K F H false a vs
  | fz {k : Bool} {a : Addr} {o : Obj} {vs : List V} : F.Free a → H a = some (.frz o (.tup vs)) → (k = true → o.dict = none) → TupAt K F H k a vs
inductive ScrAt (K : PySem.W.Frag) (F : Fs) (H : Hp) : Addr → List V → Prop
  | kn {a : Addr} {o : Obj} {its : Array Value} {n : Nat} {vs : List V} : K.lookup a = some o → o.cls = .type "list" → o.dict = none → o.data = .seq its n → its.size ≤ sizeLine → Vals vs its.toList → ScrAt K F H a vs
  | rd {a : Addr} {vs : List V} : F.Free a → H a = some (.lst vs) → ScrAt K F H a vs
  | fz {a : Addr} {o : Obj} {vs : List V} : F.Free a → H a = some (.frz o (.lst vs)) → ScrAt K F H a vs
mutual
inductive RelD (c : Cc) (F : Fs) (H : Hp) : D → V → Prop
  | non : RelD c F H .non .non
  | bl (b : Bool) : RelD c F H (.bl b) (.bl b)
  | int (i : Int) : RelD c F H (.int i) (.int i)
  | str (x : Str) : RelD c F H (.str x) (.str x)
  | ty (n : String) : RelD c F H (.ty n) (.ty n)
  | cls (n : Nat) : RelD c F H (.cls n) (.ref (c.ca n))
  | ref {i : Nat} {a : Addr} : F.cs[i]? = some a → RelD c F H (.ref i) (.ref a)
  | tup {k : Bool} {ds : List D} {a : Addr} {vs : List V} : TupAt c.K F H k a vs → RelDs c F H ds vs → RelD c F H (.tup k ds) (.ref a)
  | lst {ds : List D} {a : Addr} {vs : List V} : F.Free a → H a = some (.lst vs) → RelDs c F H ds vs → RelD c F H (.lst ds) (.ref a)
  | obj {C : Nat} {fs : List (Nat × D)} {a dx : Addr} {vs : List (Str × V)} : F.Free a → H a = some (.ins (c.ca C) dx vs) → RelFs c F H fs vs → RelD c F H (.obj C fs) (.ref a)
  | scr {ns : List Int} {a : Addr} : ScrAt c.K F H a (ns.map V.int) → RelD c F H (.scr ns) (.ref a)
  | held (a : Addr) : RelD c F H (.held a) (.ref a)
inductive RelDs (c : Cc) (F : Fs) (H : Hp) : List D → List V → Prop
  | nil : RelDs c F H [] []
  | cons {d : D} {v : V} {ds : List D} {vs : List V} : RelD c F H d v → RelDs c F H ds vs → RelDs c F H (d :: ds) (v :: vs)
inductive RelFs (c : Cc) (F : Fs) (H : Hp) : List (Nat × D) → List (Str × V) → Prop
  | nil : RelFs c F H [] []
  | cons {n : Nat} {s : Str} {d : D} {v : V} {ds : List (Nat × D)} {vs : List (Str × V)} : c.fn[n]? = some s → RelD c F H d v → RelFs c F H ds vs → RelFs c F H ((n, d) :: ds) ((s, v) :: vs)
end
theorem nodup_at {α : Type} {a : α} : ∀ {l : List α} {i j : Nat}, l.Nodup → l[i]? = some a → l[j]? = some a → i = j
  | [], _, _, _, h, _ => by simp at h
  | x :: r, 0, 0, _, _, _ => rfl
  | x :: r, 0, j + 1, n, h, g => by
    have e : x = a := by simpa using h
    have m : a ∈ r := List.mem_of_getElem? (by simpa using g)
    exact absurd (e ▸ m) (List.nodup_cons.mp n).1
  | x :: r, i + 1, 0, n, h, g => by
    have e : x = a := by simpa using g
    have m : a ∈ r := List.mem_of_getElem? (by simpa using h)
    exact absurd (e ▸ m) (List.nodup_cons.mp n).1
  | x :: r, i + 1, j + 1, n, h, g => by
    exact congrArg (· + 1) (nodup_at (List.nodup_cons.mp n).2 (by simpa using h) (by simpa using g))
/-- what has come about: the cells stand for what they stood for, all else is as it was -/
structure Ext (F : Fs) (H : Hp) (F' : Fs) (H' : Hp) : Prop where
  pre : ∀ (i : Nat) a, F.cs[i]? = some a → F'.cs[i]? = some a
  kp : ∀ a o, H a = some o → a ∉ F.cs → H' a = some o ∧ a ∉ F'.cs
  bl : F'.bl = F.bl
inductive CellAt (c : Cc) (F : Fs) (H : Hp) : D → Addr → Prop
  | lst {ds : List D} {a : Addr} {vs : List V} : H a = some (.lst vs) → RelDs c F H ds vs → CellAt c F H (.lst ds) a
  | obj {C : Nat} {fs : List (Nat × D)} {a dx : Addr} {vs : List (Str × V)} : H a = some (.ins (c.ca C) dx vs) → RelFs c F H fs vs → CellAt c F H (.obj C fs) a
structure Sim (c : Cc) (F : Fs) (h : MH) (H : Hp) : Prop where
  nd : F.cs.Nodup
  len : F.cs.length = h.length
  at_ : ∀ (i : Nat) d, h[i]? = some d → ∃ a, F.cs[i]? = some a ∧ CellAt c F H d a
  ap : ∀ a ∈ F.cs, a ∉ F.bl
  bs : ∀ b ∈ F.bl, ∃ o, H b = some o
section
variable {c : Cc} {F F' F'' : Fs} {h h' : MH} {H H' H'' : Hp} {a l : Addr} {o : HO} {d x y : D} {ds es : List D} {v u : V} {vs us : List V} {i j : Nat} {k : Bool}
theorem Ext.refl (F : Fs) (H : Hp) : Ext F H F H := ⟨fun _ _ e => e, fun _ _ e f => ⟨e, f⟩, rfl⟩
theorem Ext.trans (e : Ext F H F' H') (g : Ext F' H' F'' H'') : Ext F H F'' H'' := ⟨fun i a h => g.pre i a (e.pre i a h), fun a o h n => g.kp a o (e.kp a o h n).1 (e.kp a o h n).2, g.bl.trans e.bl⟩
theorem Ext.free (e : Ext F H F' H') (h : H a = some o) (f : F.Free a) : H' a = some o ∧ F'.Free a := ⟨(e.kp a o h f.1).1, (e.kp a o h f.1).2, by rw [e.bl]; exact f.2⟩
/-- what is enough for values to stand for the same data -/
structure Tr (F : Fs) (H : Hp) (F' : Fs) (H' : Hp) : Prop where
  pre : ∀ (i : Nat) a, F.cs[i]? = some a → F'.cs[i]? = some a
  fr : ∀ a o, H a = some o → F.Free a → H' a = some o ∧ F'.Free a
theorem Ext.tr (e : Ext F H F' H') : Tr F H F' H' := ⟨e.pre, fun _ _ h f => e.free h f⟩
theorem TupAt.tr (e : Tr F H F' H') (h : TupAt c.K F H k a vs) : TupAt c.K F' H' k a vs := by
  cases h with
  | kn h1 h2 h3 h4 h5 => exact .kn h1 h2 h3 h4 h5
  | rd f h => exact .rd (e.fr _ _ h f).2 (e.fr _ _ h f).1
  | fz f h z => exact .fz (e.fr _ _ h f).2 (e.fr _ _ h f).1 z
theorem ScrAt.tr (e : Tr F H F' H') (h : ScrAt c.K F H a vs) : ScrAt c.K F' H' a vs := by
  cases h with
  | kn h1 h2 h3 h4 h5 h6 => exact .kn h1 h2 h3 h4 h5 h6
  | rd f h => exact .rd (e.fr _ _ h f).2 (e.fr _ _ h f).1
  | fz f h => exact .fz (e.fr _ _ h f).2 (e.fr _ _ h f).1
mutual
theorem RelD.tr (e : Tr F H F' H') : ∀ {d : D} {v : V}, RelD c F H d v → RelD c F' H' d v
  | _, _, .non => .non
  | _, _, .bl b => .bl b
  | _, _, .int b => .int b
  | _, _, .str b => .str b
  | _, _, .ty b => .ty b
  | _, _, .cls b => .cls b
  | _, _, .ref h => .ref (e.pre _ _ h)
  | _, _, .tup h r => .tup (h.tr e) (RelDs.tr e r)
  | _, _, .lst f h r => .lst (e.fr _ _ h f).2 (e.fr _ _ h f).1 (RelDs.tr e r)
  | _, _, .obj f h r => .obj (e.fr _ _ h f).2 (e.fr _ _ h f).1 (RelFs.tr e r)
  | _, _, .scr h => .scr (h.tr e)
  | _, _, .held a => .held a
theorem RelDs.tr (e : Tr F H F' H') : ∀ {d : List D} {v : List V}, RelDs c F H d v → RelDs c F' H' d v
  | _, _, .nil => .nil
  | _, _, .cons h r => .cons (RelD.tr e h) (RelDs.tr e r)
theorem RelFs.tr (e : Tr F H F' H') : ∀ {d : List (Nat × D)} {v : List (Str × V)}, RelFs c F H d v → RelFs c F' H' d v
  | _, _, .nil => .nil
  | _, _, .cons n h r => .cons n (RelD.tr e h) (RelFs.tr e r)
end
theorem TupAt.ext (e : Ext F H F' H') (h : TupAt c.K F H k a vs) : TupAt c.K F' H' k a vs := h.tr e.tr
theorem ScrAt.ext (e : Ext F H F' H') (h : ScrAt c.K F H a vs) : ScrAt c.K F' H' a vs := h.tr e.tr
theorem RelD.ext (e : Ext F H F' H') {d : D} {v : V} (r : RelD c F H d v) : RelD c F' H' d v := r.tr e.tr
theorem RelDs.ext (e : Ext F H F' H') {d : List D} {v : List V} (r : RelDs c F H d v) : RelDs c F' H' d v := r.tr e.tr
theorem RelFs.ext (e : Ext F H F' H') {d : List (Nat × D)} {v : List (Str × V)} (r : RelFs c F H d v) : RelFs c F' H' d v := r.tr e.tr
theorem RelDs.len : ∀ {ds : List D} {vs : List V}, RelDs c F H ds vs → ds.length = vs.length
  | _, _, .nil => rfl
  | _, _, .cons _ r => by simp [RelDs.len r]
theorem RelFs.len : ∀ {ds : List (Nat × D)} {vs : List (Str × V)}, RelFs c F H ds vs → ds.length = vs.length
  | _, _, .nil => rfl
  | _, _, .cons _ _ r => by simp [RelFs.len r]
theorem RelDs.get : ∀ {ds : List D} {vs : List V} {i : Nat} {d : D}, RelDs c F H ds vs → ds[i]? = some d → ∃ v, vs[i]? = some v ∧ RelD c F H d v
  | _, _, i, d, .nil, h => by simp at h
  | _, _, 0, d, .cons r _, h => ⟨_, rfl, by simpa using Option.some.inj h ▸ r⟩
  | _, _, i + 1, d, .cons _ r, h => by simpa using RelDs.get r (by simpa using h)
theorem RelDs.app : ∀ {ds es : List D} {vs us : List V}, RelDs c F H ds vs → RelDs c F H es us → RelDs c F H (ds ++ es) (vs ++ us)
  | _, _, _, _, .nil, h => h
  | _, _, _, _, .cons a r, h => .cons a (RelDs.app r h)
theorem RelDs.set : ∀ {ds : List D} {vs : List V} (i : Nat), RelDs c F H ds vs → RelD c F H d v → RelDs c F H (ds.set i d) (vs.set i v)
  | _, _, _, .nil, _ => .nil
  | _, _, 0, .cons _ r, h => .cons h r
  | _, _, i + 1, .cons a r, h => .cons a (RelDs.set i r h)
theorem RelDs.drop : ∀ {ds : List D} {vs : List V} (i : Nat), RelDs c F H ds vs → RelDs c F H (ds.drop i) (vs.drop i)
  | _, _, 0, r => r
  | _, _, _ + 1, .nil => .nil
  | _, _, i + 1, .cons _ r => RelDs.drop i r
theorem RelDs.take : ∀ {ds : List D} {vs : List V} (i : Nat), RelDs c F H ds vs → RelDs c F H (ds.take i) (vs.take i)
  | _, _, 0, _ => .nil
  | _, _, _ + 1, .nil => .nil
  | _, _, i + 1, .cons a r => .cons a (RelDs.take i r)
theorem RelDs.rev : ∀ {ds : List D} {vs : List V}, RelDs c F H ds vs → RelDs c F H ds.reverse vs.reverse
  | _, _, .nil => .nil
  | _, _, .cons a r => by simp only [List.reverse_cons]; exact (RelDs.rev r).app (.cons a .nil)
theorem RelDs.dropLast : ∀ {ds : List D} {vs : List V}, RelDs c F H ds vs → RelDs c F H ds.dropLast vs.dropLast
  | _, _, .nil => .nil
  | _, _, .cons a .nil => .nil
  | _, _, .cons a (.cons b r) => .cons a (RelDs.dropLast (.cons b r))
theorem RelDs.ints : ∀ (ns : List Int), RelDs c F H (ns.map .int) (ns.map V.int)
  | [] => .nil
  | i :: r => .cons (.int i) (RelDs.ints r)
theorem RelDs.strs : ∀ (ns : List Str), RelDs c F H (ns.map .str) (ns.map V.str)
  | [] => .nil
  | i :: r => .cons (.str i) (RelDs.strs r)
theorem TupAt.sqT (h : TupAt c.K F H k a vs) : SqT c.K H a vs := by
  cases h with
  | kn h1 h2 h3 h4 h5 => exact .inr ⟨_, _, _, h1, h2, h3, h4, h5⟩
  | rd f h => exact .inl (.inl h)
  | fz f h z => exact .inl (.inr ⟨_, h⟩)
theorem ScrAt.sqL (h : ScrAt c.K F H a vs) : SqL c.K H a vs := by
  cases h with
  | kn h1 h2 h3 h4 h5 h6 => exact .inr ⟨_, _, _, h1, h2, h3, h4, h5, h6⟩
  | rd f h => exact .inl (.inl h)
  | fz f h => exact .inl (.inr ⟨_, h⟩)
/-! ### changes of the real heap -/
theorem Ext.new (h : H l = none) : Ext F H F (upd H l o) := ⟨fun _ _ e => e, fun a u e n => ⟨g_new h e, n⟩, rfl⟩
theorem Ext.cell (h : H l = none) : Ext F H (F.add l) (upd H l o) := by
  refine ⟨fun i a e => ?_, fun a u e n => ⟨g_new h e, fun m => ?_⟩, rfl⟩
  · show (F.cs ++ [l])[i]? = some a
    rw [List.getElem?_append_left (List.getElem?_eq_some_iff.mp e).1]; exact e
  · rcases List.mem_append.mp m with m | m
    · exact n m
    · rw [List.mem_singleton.mp m] at e; rw [h] at e; cases e
theorem Ext.set (h : a ∈ F.cs) : Ext F H F (upd H a o) := ⟨fun _ _ e => e, fun b u e n => ⟨g_mut (fun z => n (z ▸ h)) e, n⟩, rfl⟩
theorem Sim.mem (s : Sim c F h H) (ha : a ∈ F.cs) : ∃ o, H a = some o := by
  obtain ⟨i, hi⟩ := List.mem_iff_getElem?.mp ha
  have hl : i < h.length := by rw [← s.len]; exact (List.getElem?_eq_some_iff.mp hi).1
  obtain ⟨b, hb, cb⟩ := s.at_ i _ (List.getElem?_eq_getElem hl)
  generalize h[i] = z at cb
  rw [hi] at hb
  have e := Option.some.inj hb
  subst e
  cases cb with
  | lst y _ => exact ⟨_, y⟩
  | obj y _ => exact ⟨_, y⟩
theorem Sim.out (s : Sim c F h H) (hl : H l = none) : l ∉ F.cs := fun m => by
  obtain ⟨o, e⟩ := s.mem m
  rw [hl] at e; cases e
theorem Sim.nbl (s : Sim c F h H) (hl : H l = none) : l ∉ F.bl := fun m => by
  obtain ⟨o, e⟩ := s.bs l m
  rw [hl] at e; cases e
theorem Sim.bext (s : Sim c F h H) (e : Ext F H F' H') : ∀ b ∈ F'.bl, ∃ o, H' b = some o := fun b m => by
  rw [e.bl] at m
  obtain ⟨o, z⟩ := s.bs b m
  exact ⟨o, (e.kp b o z fun w => s.ap b w m).1⟩
theorem CellAt.ext (e : Ext F H F' H') (hk : H' a = H a) (k : CellAt c F H d a) : CellAt c F' H' d a := by
  cases k with
  | lst z r => exact .lst (by rw [hk]; exact z) (r.ext e)
  | obj z r => exact .obj (by rw [hk]; exact z) (r.ext e)
/-- an object comes that is none of the cells -/
theorem Sim.new (s : Sim c F h H) (hl : H l = none) : Sim c F h (upd H l o) := by
  refine ⟨s.nd, s.len, fun i d e => ?_, s.ap, s.bext (Ext.new hl)⟩
  obtain ⟨a, ha, k⟩ := s.at_ i d e
  refine ⟨a, ha, k.ext (Ext.new hl) (upd_ne ?_)⟩
  rintro rfl
  exact s.out hl (List.mem_of_getElem? ha)
theorem Sim.cell (s : Sim c F h H) (hl : H l = none) (kd : ∀ {F' : Fs} {H' : Hp}, Ext F H F' H' → H' l = some o → CellAt c F' H' d l) : Sim c (F.add l) (h ++ [d]) (upd H l o) := by
  have hb := s.nbl hl
  refine ⟨?_, ?_, fun i x e => ?_, fun a m => ?_, s.bext (Ext.cell hl)⟩
  · show (F.cs ++ [l]).Nodup
    rw [List.nodup_append]
    refine ⟨s.nd, by simp, fun a ha b hb e => ?_⟩
    rw [List.mem_singleton.mp hb] at e
    exact s.out hl (e ▸ ha)
  · show (F.cs ++ [l]).length = _
    simp [s.len]
  · show ∃ a, (F.cs ++ [l])[i]? = some a ∧ _
    by_cases hi : i < h.length
    · rw [List.getElem?_append_left hi] at e
      obtain ⟨a, ha, k⟩ := s.at_ i x e
      refine ⟨a, by rw [List.getElem?_append_left (by rw [s.len]; exact hi)]; exact ha, k.ext (Ext.cell hl) (upd_ne ?_)⟩
      rintro rfl
      exact s.out hl (List.mem_of_getElem? ha)
    · have e2 := (List.getElem?_eq_some_iff.mp e).1
      rw [List.length_append, List.length_singleton] at e2
      have ei : i = h.length := by omega
      subst ei
      rw [List.getElem?_append_right (Nat.le_refl _), Nat.sub_self] at e
      have ex : d = x := Option.some.inj e
      subst ex
      refine ⟨l, ?_, kd (Ext.cell hl) upd_same⟩
      rw [← s.len, List.getElem?_append_right (Nat.le_refl _), Nat.sub_self]; rfl
  · rcases List.mem_append.mp m with m | m
    · exact s.ap a m
    · rw [List.mem_singleton.mp m]; exact hb
/-- a cell is written -/
theorem Sim.set (s : Sim c F h H) (ha : F.cs[i]? = some a) (kd : CellAt c F (upd H a o) d a) : Sim c F (h.set i d) (upd H a o) := by
  refine ⟨s.nd, by rw [List.length_set]; exact s.len, fun j x e => ?_, s.ap, s.bext (Ext.set (List.mem_of_getElem? ha))⟩
  by_cases hj : j = i
  · subst hj
    have hl : j < h.length := by rw [← s.len]; exact (List.getElem?_eq_some_iff.mp ha).1
    rw [List.getElem?_set_self hl] at e
    have ex : d = x := Option.some.inj e
    subst ex
    exact ⟨a, ha, kd⟩
  · rw [List.getElem?_set_ne (Ne.symm hj)] at e
    obtain ⟨b, hb, k⟩ := s.at_ j x e
    refine ⟨b, hb, k.ext (Ext.set (List.mem_of_getElem? ha)) (upd_ne ?_)⟩
    rintro rfl
    exact hj (nodup_at s.nd hb ha)
/-! ### a list under way -/
theorem CellAt.tr (e : Tr F H F' H') (hk : H' a = H a) (k : CellAt c F H d a) : CellAt c F' H' d a := by
  cases k with
  | lst z r => exact .lst (by rw [hk]; exact z) (r.tr e)
  | obj z r => exact .obj (by rw [hk]; exact z) (r.tr e)
theorem Tr.block (hl : H l = none) : Tr F H (F.block l) (upd H l o) := by
  refine ⟨fun _ _ e => e, fun a u e f => ?_⟩
  have ne : a ≠ l := ne_of_none e hl
  exact ⟨g_mut ne e, f.1, fun m => by
    rcases List.mem_cons.mp m with m | m
    · exact ne m
    · exact f.2 m⟩
theorem Tr.mutB : Tr (F.block l) H (F.block l) (upd H l o) := ⟨fun _ _ e => e, fun a u e f => ⟨g_mut (fun z => f.2 (z ▸ List.mem_cons_self)) e, f⟩⟩
theorem Tr.unblock : Tr (F.block l) H F H := ⟨fun _ _ e => e, fun a u e f => ⟨e, f.1, fun m => f.2 (List.mem_cons_of_mem _ m)⟩⟩
theorem Tr.trans (e : Tr F H F' H') (g : Tr F' H' F'' H'') : Tr F H F'' H'' := ⟨fun i a h => g.pre i a (e.pre i a h), fun a o h f => g.fr a o (e.fr a o h f).1 (e.fr a o h f).2⟩
theorem Sim.block (s : Sim c F h H) (hl : H l = none) : Sim c (F.block l) h (upd H l o) := by
  refine ⟨s.nd, s.len, fun i d e => ?_, fun a m z => ?_, fun b m => ?_⟩
  · obtain ⟨a, ha, k⟩ := s.at_ i d e
    refine ⟨a, ha, k.tr (Tr.block hl) (upd_ne ?_)⟩
    rintro rfl
    exact s.out hl (List.mem_of_getElem? ha)
  · rcases List.mem_cons.mp z with z | z
    · exact s.out hl (z ▸ m)
    · exact s.ap a m z
  · by_cases e : b = l
    · subst e; exact ⟨_, upd_same⟩
    · rcases List.mem_cons.mp m with m | m
      · exact absurd m e
      · obtain ⟨u, z⟩ := s.bs b m
        exact ⟨u, by rw [upd_ne e]; exact z⟩
theorem Sim.mutB (s : Sim c (F.block l) h H) : Sim c (F.block l) h (upd H l o) := by
  have out : l ∉ F.cs := fun m => s.ap l m List.mem_cons_self
  refine ⟨s.nd, s.len, fun i d e => ?_, s.ap, fun b m => ?_⟩
  · obtain ⟨a, ha, k⟩ := s.at_ i d e
    refine ⟨a, ha, k.tr Tr.mutB (upd_ne ?_)⟩
    rintro rfl
    exact out (List.mem_of_getElem? ha)
  · by_cases e : b = l
    · subst e; exact ⟨_, upd_same⟩
    · obtain ⟨u, z⟩ := s.bs b m
      exact ⟨u, by rw [upd_ne e]; exact z⟩
theorem Sim.unblock (s : Sim c (F.block l) h H) : Sim c F h H := by
  refine ⟨s.nd, s.len, fun i d e => ?_, fun a m z => s.ap a m (List.mem_cons_of_mem _ z), fun b m => s.bs b (List.mem_cons_of_mem _ m)⟩
  obtain ⟨a, ha, k⟩ := s.at_ i d e
  exact ⟨a, ha, k.tr Tr.unblock rfl⟩
theorem Tr.adopt : Tr (F.block l) H (F.add l) H := by
  refine ⟨fun i a e => ?_, fun a u e f => ⟨e, fun m => ?_, fun m => f.2 (List.mem_cons_of_mem _ m)⟩⟩
  · show (F.cs ++ [l])[i]? = some a
    have e' : F.cs[i]? = some a := e
    rw [List.getElem?_append_left (List.getElem?_eq_some_iff.mp e').1]; exact e'
  · rcases List.mem_append.mp m with m | m
    · exact f.1 m
    · exact f.2 (by rw [List.mem_singleton.mp m]; exact List.mem_cons_self)
theorem Sim.adopt (s : Sim c (F.block l) h H) (e : H l = some (.lst vs)) (r : RelDs c (F.block l) H ds vs) (nb : l ∉ F.bl) : Sim c (F.add l) (h ++ [.lst ds]) H := by
  have out : l ∉ F.cs := fun m => s.ap l m List.mem_cons_self
  refine ⟨?_, ?_, fun i x e2 => ?_, fun a m => ?_, fun b m => s.bs b (List.mem_cons_of_mem _ m)⟩
  · show (F.cs ++ [l]).Nodup
    rw [List.nodup_append]
    refine ⟨s.nd, by simp, fun a ha b hb e => ?_⟩
    rw [List.mem_singleton.mp hb] at e
    exact out (e ▸ ha)
  · show (F.cs ++ [l]).length = _
    have := s.len
    simp only [Fs.block] at this
    simp [this]
  · have ln : F.cs.length = h.length := s.len
    show ∃ a, (F.cs ++ [l])[i]? = some a ∧ _
    by_cases hi : i < h.length
    · rw [List.getElem?_append_left hi] at e2
      obtain ⟨a, ha, k⟩ := s.at_ i x e2
      exact ⟨a, by rw [List.getElem?_append_left (by rw [ln]; exact hi)]; exact ha, k.tr Tr.adopt rfl⟩
    · have e3 := (List.getElem?_eq_some_iff.mp e2).1
      rw [List.length_append, List.length_singleton] at e3
      have ei : i = h.length := by omega
      subst ei
      rw [List.getElem?_append_right (Nat.le_refl _), Nat.sub_self] at e2
      have ex : D.lst ds = x := Option.some.inj e2
      subst ex
      refine ⟨l, ?_, .lst e (r.tr Tr.adopt)⟩
      rw [← ln, List.getElem?_append_right (Nat.le_refl _), Nat.sub_self]; rfl
  · rcases List.mem_append.mp m with m | m
    · exact fun z => s.ap a m (List.mem_cons_of_mem _ z)
    · rw [List.mem_singleton.mp m]; exact nb
end
end Dv
/-! what a reading says of data: expressions -/
namespace Dv
open PySem PySem.Spec PyProof.Rows L2 Sf
structure Exn where
  cls : Nat
  pl : Option (List (Nat × D))
abbrev DXc := Exn → MH → Prop
abbrev DK := D → MH → Prop
abbrev DG (α : Type) := EnvD → MH → DXc → (α → MH → Prop) → Prop
/-! ### slots -/
def lk : EnvD → Nat → Option D
  | [], _ => none
  | x :: _, 0 => x
  | _ :: r, n + 1 => lk r n
def st : EnvD → Nat → D → EnvD
  | [], _, _ => []
  | _ :: r, 0, d => some d :: r
  | x :: r, n + 1, d => x :: st r n d
def un : EnvD → Nat → EnvD
  | [], _ => []
  | _ :: r, 0 => none :: r
  | x :: r, n + 1 => x :: un r n
theorem lk_st : ∀ {δ : EnvD} {i j : Nat} {d x : D}, lk (st δ i d) j = some x → (j = i ∧ x = d ∧ i < δ.length) ∨ (j ≠ i ∧ lk δ j = some x)
  | [], _, _, _, _, h => by simp [st, lk] at h
  | _ :: r, 0, 0, d, x, h => .inl ⟨rfl, by simpa [st, lk] using h.symm, by simp⟩
  | _ :: r, 0, j + 1, d, x, h => .inr ⟨by simp, by simpa [st, lk] using h⟩
  | _ :: r, i + 1, 0, d, x, h => .inr ⟨by simp, by simpa [st, lk] using h⟩
  | _ :: r, i + 1, j + 1, d, x, h => by
    have h' : lk (st r i d) j = some x := by simpa [st, lk] using h
    rcases lk_st h' with ⟨a, b, e⟩ | ⟨a, b⟩
    · exact .inl ⟨by omega, b, by simp; omega⟩
    · exact .inr ⟨by omega, b⟩
theorem st_len : ∀ (δ : EnvD) (i : Nat) (d : D), (st δ i d).length = δ.length
  | [], _, _ => rfl
  | _ :: r, 0, d => rfl
  | _ :: r, i + 1, d => by simp [st, st_len r i d]
theorem lk_un : ∀ {δ : EnvD} {i j : Nat} {x : D}, lk (un δ i) j = some x → j ≠ i ∧ lk δ j = some x
  | [], _, _, _, h => by simp [un, lk] at h
  | _ :: r, 0, 0, x, h => by simp [un, lk] at h
  | _ :: r, 0, j + 1, x, h => ⟨by simp, by simpa [un, lk] using h⟩
  | _ :: r, i + 1, 0, x, h => ⟨by simp, by simpa [un, lk] using h⟩
  | _ :: r, i + 1, j + 1, x, h => by
    have h' : lk (un r i) j = some x := by simpa [un, lk] using h
    obtain ⟨a, b⟩ := lk_un h'
    exact ⟨by omega, b⟩
theorem un_len : ∀ (δ : EnvD) (i : Nat), (un δ i).length = δ.length
  | [], _ => rfl
  | _ :: r, 0 => rfl
  | _ :: r, i + 1 => by simp [un, un_len r i]
def RelE (c : Cc) (F : Fs) (H : Hp) (δ : EnvD) (σ : L2.St) : Prop := δ.length ≤ σ.length ∧ ∀ i d, lk δ i = some d → ∃ v, σ[i]? = some (some v) ∧ RelD c F H d v
def RelX (c : Cc) (F : Fs) (H : Hp) (e : Exn) (ty : Value) (dx : Option Addr) : Prop :=
  ty = .ref (c.ca e.cls) ∧ ((e.pl = none ∧ dx = none) ∨ ∃ fs d vs, e.pl = some fs ∧ dx = some d ∧ F.Free d ∧ H d = some (.xd vs) ∧ RelFs c F H fs vs)
/-! ### what a reading must say -/
def XOk (c : Cc) (W : WX) (F : Fs) (H : Hp) (σ : L2.St) (X : DXc) : Prop := ∀ F' h' H' e ty dx, Ext F H F' H' → Sim c F' h' H' → X e h' → RelX c F' H' e ty dx → W ty dx σ H'
def QOk (c : Cc) {α β : Type} (Rl : Fs → Hp → α → β → Prop) (F : Fs) (H : Hp) (Q : α → MH → Prop) (R : β → Hp → Prop) : Prop := ∀ F' h' H' x y, Ext F H F' H' → Sim c F' h' H' → Rl F' H' x y → Q x h' → R y H'
def SG (c : Cc) (W : WX) {α β : Type} (Rl : Fs → Hp → α → β → Prop) (t : L2.St → Hp → (β → Hp → Prop) → Prop) (w : DG α) : Prop :=
  ∀ F h H δ σ X Q R, Sim c F h H → RelE c F H δ σ → w δ h X Q → XOk c W F H σ X → QOk c Rl F H Q R → t σ H R
abbrev SE (c : Cc) (W : WX) (t : TE) (w : DG D) : Prop := SG c W (RelD c) t w
abbrev SA (c : Cc) (W : WX) (t : TA) (w : DG (List D)) : Prop := SG c W (RelDs c) t w
abbrev EqB (_ : Fs) (_ : Hp) (x y : Bool) : Prop := x = y
abbrev EqO (_ : Fs) (_ : Hp) (x y : Option Int) : Prop := x = y
abbrev ST (c : Cc) (W : WX) (t : TT) (w : DG Bool) : Prop := SG c W EqB t w
abbrev SO (c : Cc) (W : WX) (t : TO) (w : DG (Option Int)) : Prop := SG c W EqO t w
section
variable {c : Cc} {W : WX} {F F' F'' : Fs} {h h' : MH} {H H' H'' : Hp} {a l : Addr} {o : HO} {d x y : D} {ds es : List D} {v u : V} {vs us : List V} {i j : Nat} {k : Bool} {δ : EnvD} {σ : L2.St} {X : DXc} {α β : Type} {Rl : Fs → Hp → α → β → Prop} {Q : α → MH → Prop} {R : β → Hp → Prop}
theorem RelE.ext (r : RelE c F H δ σ) (e : Ext F H F' H') : RelE c F' H' δ σ := ⟨r.1, fun i d hk => by
  obtain ⟨v, a, b⟩ := r.2 i d hk
  exact ⟨v, a, b.ext e⟩⟩
theorem RelE.st (r : RelE c F H δ σ) (hd : RelD c F H d v) (i : Nat) : RelE c F H (Dv.st δ i d) (σ.set i (some v)) := by
  refine ⟨by rw [st_len, List.length_set]; exact r.1, fun j x hk => ?_⟩
  rcases lk_st hk with ⟨rfl, rfl, hl⟩ | ⟨n, hk⟩
  · exact ⟨v, List.getElem?_set_self (Nat.lt_of_lt_of_le hl r.1), hd⟩
  · obtain ⟨u, a, b⟩ := r.2 j x hk
    exact ⟨u, by rw [List.getElem?_set_ne (Ne.symm n)]; exact a, b⟩
theorem RelE.un (r : RelE c F H δ σ) (i : Nat) (z : Option V) : RelE c F H (Dv.un δ i) (σ.set i z) := by
  refine ⟨by rw [un_len, List.length_set]; exact r.1, fun j x hk => ?_⟩
  obtain ⟨n, hk⟩ := lk_un hk
  obtain ⟨u, a, b⟩ := r.2 j x hk
  exact ⟨u, by rw [List.getElem?_set_ne (Ne.symm n)]; exact a, b⟩
theorem XOk.ext (x : XOk c W F H σ X) (e : Ext F H F' H') : XOk c W F' H' σ X := fun F2 h2 H2 e2 ty dx g => x F2 h2 H2 e2 ty dx (e.trans g)
theorem QOk.ext (q : QOk c Rl F H Q R) (e : Ext F H F' H') : QOk c Rl F' H' Q R := fun F2 h2 H2 x y g => q F2 h2 H2 x y (e.trans g)
theorem QOk.at_ (q : QOk c Rl F H Q R) {x : α} {y : β} (s : Sim c F h H) (r : Rl F H x y) (w : Q x h) : R y H := q F h H x y (Ext.refl F H) s r w
/-! ### names, constants -/
def dVar (i : Nat) : DG D := fun δ h _ Q => match lk δ i with
  | some d => Q d h
  | none => False
theorem s_var : SE c W (tVar i) (dVar i) := by
  intro F h H δ σ X Q R s e w x q
  unfold dVar at w
  cases hk : lk δ i with
  | none => rw [hk] at w; exact w.elim
  | some d =>
    rw [hk] at w
    obtain ⟨v, h1, r⟩ := e.2 i d hk
    exact ⟨v, h1, q.at_ s r w⟩
def dC (d : D) : DG D := fun _ h _ Q => Q d h
theorem s_c (hr : ∀ F H, RelD c F H d v) : SE c W (tC v) (dC d) := fun F h H δ σ X Q R s e w x q => q.at_ s (hr F H) w
/-! ### two operands, one, arguments -/
abbrev DO2 := D → D → MH → DK → Prop
def dOp (o : DO2) (ta tb : DG D) : DG D := fun δ h X Q => ta δ h X fun x h1 => tb δ h1 X fun y h2 => o x y h2 Q
def SO2 (c : Cc) (r : R2) (o : DO2) : Prop := ∀ F h H x y u v Q R, Sim c F h H → RelD c F H x u → RelD c F H y v → o x y h Q → QOk c (RelD c) F H Q R → r u v H R
theorem s_op {ta tb : TE} {wa wb : DG D} {r : R2} {o : DO2} (so : SO2 c r o) (sa : SE c W ta wa) (sb : SE c W tb wb) : SE c W (tOp r ta tb) (dOp o wa wb) := by
  intro F h H δ σ X Q R s e w x q
  refine sa F h H δ σ X _ _ s e w x fun F1 h1 H1 d1 v1 e1 s1 r1 w1 => ?_
  refine sb F1 h1 H1 δ σ X _ _ s1 (e.ext e1) w1 (x.ext e1) fun F2 h2 H2 d2 v2 e2 s2 r2 w2 => ?_
  exact so F2 h2 H2 _ _ _ _ _ _ s2 (r1.ext e2) r2 w2 (q.ext (e1.trans e2))
abbrev DO1 := D → MH → DK → Prop
def dUn (o : DO1) (ta : DG D) : DG D := fun δ h X Q => ta δ h X fun x h1 => o x h1 Q
def SO1 (c : Cc) (r : V → Hp → VK → Prop) (o : DO1) : Prop := ∀ F h H x u Q R, Sim c F h H → RelD c F H x u → o x h Q → QOk c (RelD c) F H Q R → r u H R
theorem s_un {ta : TE} {wa : DG D} {r : V → Hp → VK → Prop} {o : DO1} (so : SO1 c r o) (sa : SE c W ta wa) : SE c W (tUn r ta) (dUn o wa) := by
  intro F h H δ σ X Q R s e w x q
  refine sa F h H δ σ X _ _ s e w x fun F1 h1 H1 d1 v1 e1 s1 r1 w1 => ?_
  exact so F1 h1 H1 _ _ _ _ s1 r1 w1 (q.ext e1)
def dNil : DG (List D) := fun _ h _ Q => Q [] h
def dCons (ta : DG D) (tr : DG (List D)) : DG (List D) := fun δ h X Q => ta δ h X fun x h1 => tr δ h1 X fun xs h2 => Q (x :: xs) h2
theorem s_nil : SA c W tNil dNil := fun F h H δ σ X Q R s e w x q => q.at_ s .nil w
theorem s_cons {ta : TE} {tr : TA} {wa : DG D} {wr : DG (List D)} (sa : SE c W ta wa) (sr : SA c W tr wr) : SA c W (tCons ta tr) (dCons wa wr) := by
  intro F h H δ σ X Q R s e w x q
  refine sa F h H δ σ X _ _ s e w x fun F1 h1 H1 d1 v1 e1 s1 r1 w1 => ?_
  refine sr F1 h1 H1 δ σ X _ _ s1 (e.ext e1) w1 (x.ext e1) fun F2 h2 H2 d2 v2 e2 s2 r2 w2 => ?_
  exact q F2 h2 H2 _ _ (e1.trans e2) s2 (.cons (r1.ext e2) r2) w2
abbrev DOn := List D → MH → DK → Prop
def dB (o : DOn) (ta : DG (List D)) : DG D := fun δ h X Q => ta δ h X fun xs h1 => o xs h1 Q
def SOn (c : Cc) (r : List V → Hp → VK → Prop) (o : DOn) : Prop := ∀ F h H xs us Q R, Sim c F h H → RelDs c F H xs us → o xs h Q → QOk c (RelD c) F H Q R → r us H R
theorem s_b {t : TA} {wa : DG (List D)} {r : List V → Hp → VK → Prop} {o : DOn} (so : SOn c r o) (sa : SA c W t wa) : SE c W (tCB r t) (dB o wa) := by
  intro F h H δ σ X Q R s e w x q
  refine sa F h H δ σ X _ _ s e w x fun F1 h1 H1 d1 v1 e1 s1 r1 w1 => ?_
  exact so F1 h1 H1 _ _ _ _ s1 r1 w1 (q.ext e1)
/-! ### displays -/
/-- a new list: one that will change, or one that changes no more -/
def newL (ds : List D) (h : MH) (Q : DK) : Prop := Q (.ref h.length) (h ++ [.lst ds]) ∨ Q (.lst ds) h
theorem newL_ok (s : Sim c F h H) (r : RelDs c F H ds vs) {Q : DK} {R : VK} (w : newL ds h Q) (q : QOk c (RelD c) F H Q R) (l : Addr) (hl : H l = none) : R (.ref l) (upd H l (.lst vs)) := by
  rcases w with w | w
  · refine q (F.add l) _ _ _ _ (Ext.cell hl) (s.cell (o := .lst vs) hl fun e z => .lst z (r.ext e)) (.ref ?_) w
    show (F.cs ++ [l])[h.length]? = _
    rw [← s.len, List.getElem?_append_right (Nat.le_refl _), Nat.sub_self]; rfl
  · exact q F h _ _ _ (Ext.new hl) (s.new hl) (.lst ⟨s.out hl, s.nbl hl⟩ upd_same (r.ext (Ext.new hl))) w
theorem newT_ok (s : Sim c F h H) (r : RelDs c F H ds vs) {Q : DK} {R : VK} (w : Q (.tup false ds) h) (q : QOk c (RelD c) F H Q R) (l : Addr) (hl : H l = none) : R (.ref l) (upd H l (.tup vs)) :=
  q F h _ _ _ (Ext.new hl) (s.new hl) (.tup (.rd ⟨s.out hl, s.nbl hl⟩ upd_same) (r.ext (Ext.new hl))) w
def dTup (ta : DG (List D)) : DG D := fun δ h X Q => ta δ h X fun ds h1 => ds.length ≤ sizeLine ∧ Q (.tup false ds) h1
def dLst (ta : DG (List D)) : DG D := fun δ h X Q => ta δ h X fun ds h1 => ds.length ≤ sizeLine ∧ newL ds h1 Q
theorem s_tup {t : TA} {wa : DG (List D)} (sa : SA c W t wa) : SE c W (tTup t) (dTup wa) := by
  intro F h H δ σ X Q R s e w x q
  refine sa F h H δ σ X _ _ s e w x fun F1 h1 H1 d1 v1 e1 s1 r1 w1 => ?_
  exact ⟨by rw [← r1.len]; exact w1.1, newT_ok s1 r1 w1.2 (q.ext e1)⟩
theorem s_lst {t : TA} {wa : DG (List D)} (sa : SA c W t wa) : SE c W (tLst t) (dLst wa) := by
  intro F h H δ σ X Q R s e w x q
  refine sa F h H δ σ X _ _ s e w x fun F1 h1 H1 d1 v1 e1 s1 r1 w1 => ?_
  exact ⟨by rw [← r1.len]; exact w1.1, newL_ok s1 r1 w1.2 (q.ext e1)⟩
/-! ### truth -/
def dTest (ta : DG D) : DG Bool := fun δ h X Q => ta δ h X fun x h1 => match x with
  | .bl b => Q b h1
  | _ => False
theorem bl_of {Q : Bool → MH → Prop} (w : match x with | .bl b => Q b h | _ => False) : ∃ b, x = .bl b ∧ Q b h := by
  cases x <;> first | exact w.elim | exact ⟨_, rfl, w⟩
theorem RelD.bl_inv {b : Bool} (r : RelD c F H (.bl b) v) : v = .bl b := by cases r; rfl
theorem RelD.int_inv {i : Int} (r : RelD c F H (.int i) v) : v = .int i := by cases r; rfl
theorem RelD.str_inv {i : Str} (r : RelD c F H (.str i) v) : v = .str i := by cases r; rfl
theorem RelD.non_inv (r : RelD c F H .non v) : v = .non := by cases r; rfl
theorem s_test {ta : TE} {wa : DG D} (sa : SE c W ta wa) : ST c W (tTest ta) (dTest wa) := by
  intro F h H δ σ X Q R s e w x q
  refine sa F h H δ σ X _ _ s e w x fun F1 h1 H1 d1 v1 e1 s1 r1 w1 => ?_
  obtain ⟨b, rfl, w1⟩ := bl_of w1
  exact ⟨b, r1.bl_inv, q F1 h1 H1 _ _ e1 s1 rfl w1⟩
theorem s_B {ta : TE} {wa : DG D} (sa : SE c W ta wa) : ST c W (tB ta) (dTest wa) := s_test sa
/-- both ways of a test -/
abbrev ifd (b : Bool) (A B : Prop) : Prop := (b = true → A) ∧ (b = false → B)
theorem ifd_ok {b : Bool} {A B A' B' : Prop} (w : ifd b A B) (f : A → A') (g : B → B') : if b = true then A' else B' := by
  cases b
  · rw [if_neg (by decide)]; exact g (w.2 rfl)
  · rw [if_pos rfl]; exact f (w.1 rfl)
def dAnd (t u : DG Bool) : DG Bool := fun δ h X Q => t δ h X fun b h1 => ifd b (u δ h1 X Q) (Q false h1)
def dOr (t u : DG Bool) : DG Bool := fun δ h X Q => t δ h X fun b h1 => ifd b (Q true h1) (u δ h1 X Q)
def dNot (t : DG Bool) : DG Bool := fun δ h X Q => t δ h X fun b h1 => Q (!b) h1
theorem s_and {t u : TT} {wt wu : DG Bool} (st : ST c W t wt) (su : ST c W u wu) : ST c W (tAnd t u) (dAnd wt wu) := by
  intro F h H δ σ X Q R s e w x q
  refine st F h H δ σ X _ _ s e w x fun F1 h1 H1 d1 v1 e1 s1 r1 w1 => ?_
  have r1 : d1 = v1 := r1
  subst r1
  exact ifd_ok w1 (fun w2 => su F1 h1 H1 δ σ X _ _ s1 (e.ext e1) w2 (x.ext e1) (q.ext e1)) fun w2 => q F1 h1 H1 _ _ e1 s1 rfl w2
theorem s_or {t u : TT} {wt wu : DG Bool} (st : ST c W t wt) (su : ST c W u wu) : ST c W (tOr t u) (dOr wt wu) := by
  intro F h H δ σ X Q R s e w x q
  refine st F h H δ σ X _ _ s e w x fun F1 h1 H1 d1 v1 e1 s1 r1 w1 => ?_
  have r1 : d1 = v1 := r1
  subst r1
  exact ifd_ok w1 (fun w2 => q F1 h1 H1 _ _ e1 s1 rfl w2) fun w2 => su F1 h1 H1 δ σ X _ _ s1 (e.ext e1) w2 (x.ext e1) (q.ext e1)
theorem s_not {t : TT} {wt : DG Bool} (st : ST c W t wt) : ST c W (tNot t) (dNot wt) := by
  intro F h H δ σ X Q R s e w x q
  refine st F h H δ σ X _ _ s e w x fun F1 h1 H1 d1 v1 e1 s1 r1 w1 => ?_
  have r1 : d1 = v1 := r1
  subst r1
  exact q F1 h1 H1 _ _ e1 s1 rfl w1
def dYes : DG Bool := fun _ h _ Q => Q true h
theorem s_yes : ST c W tYes dYes := fun F h H δ σ X Q R s e w x q => q.at_ s rfl w
def blk (x : D) (k : Bool → Prop) : Prop := match x with
  | .bl b => k b
  | _ => False
theorem blk_of {k : Bool → Prop} (w : blk x k) : ∃ b, x = .bl b ∧ k b := by
  unfold blk at w
  cases x <;> first | exact w.elim | exact ⟨_, rfl, w⟩
def dAndV (t u : DG D) : DG D := fun δ h X Q => t δ h X fun x h1 => blk x fun b => ifd b (u δ h1 X Q) (Q (.bl false) h1)
def dOrV (t u : DG D) : DG D := fun δ h X Q => t δ h X fun x h1 => blk x fun b => ifd b (Q (.bl true) h1) (u δ h1 X Q)
def dNotV (t : DG D) : DG D := fun δ h X Q => t δ h X fun x h1 => blk x fun b => Q (.bl (!b)) h1
theorem s_andV {t u : TE} {wt wu : DG D} (st : SE c W t wt) (su : SE c W u wu) : SE c W (tAndV t u) (dAndV wt wu) := by
  intro F h H δ σ X Q R s e w x q
  refine st F h H δ σ X _ _ s e w x fun F1 h1 H1 d1 v1 e1 s1 r1 w1 => ?_
  obtain ⟨b, rfl, w1⟩ := blk_of w1
  exact ⟨b, r1.bl_inv, ifd_ok w1 (fun w2 => su F1 h1 H1 δ σ X _ _ s1 (e.ext e1) w2 (x.ext e1) (q.ext e1)) fun w2 => q F1 h1 H1 _ _ e1 s1 (.bl _) w2⟩
theorem s_orV {t u : TE} {wt wu : DG D} (st : SE c W t wt) (su : SE c W u wu) : SE c W (tOrV t u) (dOrV wt wu) := by
  intro F h H δ σ X Q R s e w x q
  refine st F h H δ σ X _ _ s e w x fun F1 h1 H1 d1 v1 e1 s1 r1 w1 => ?_
  obtain ⟨b, rfl, w1⟩ := blk_of w1
  exact ⟨b, r1.bl_inv, ifd_ok w1 (fun w2 => q F1 h1 H1 _ _ e1 s1 (.bl _) w2) fun w2 => su F1 h1 H1 δ σ X _ _ s1 (e.ext e1) w2 (x.ext e1) (q.ext e1)⟩
theorem s_notV {t : TE} {wt : DG D} (st : SE c W t wt) : SE c W (tNotV t) (dNotV wt) := by
  intro F h H δ σ X Q R s e w x q
  refine st F h H δ σ X _ _ s e w x fun F1 h1 H1 d1 v1 e1 s1 r1 w1 => ?_
  obtain ⟨b, rfl, w1⟩ := blk_of w1
  exact ⟨b, r1.bl_inv, q F1 h1 H1 _ _ e1 s1 (.bl _) w1⟩
def dIf (t : DG Bool) (ta tb : DG D) : DG D := fun δ h X Q => t δ h X fun b h1 => ifd b (ta δ h1 X Q) (tb δ h1 X Q)
theorem s_if {t : TT} {ta tb : TE} {wt : DG Bool} {wa wb : DG D} (st : ST c W t wt) (sa : SE c W ta wa) (sb : SE c W tb wb) : SE c W (tIf t ta tb) (dIf wt wa wb) := by
  intro F h H δ σ X Q R s e w x q
  refine st F h H δ σ X _ _ s e w x fun F1 h1 H1 d1 v1 e1 s1 r1 w1 => ?_
  have r1 : d1 = v1 := r1
  subst r1
  exact ifd_ok w1 (fun w2 => sa F1 h1 H1 δ σ X _ _ s1 (e.ext e1) w2 (x.ext e1) (q.ext e1)) fun w2 => sb F1 h1 H1 δ σ X _ _ s1 (e.ext e1) w2 (x.ext e1) (q.ext e1)
def dChain (o o' : DO2) (ta tb tc : DG D) : DG D := fun δ h X Q => ta δ h X fun x h1 => tb δ h1 X fun y h2 => o x y h2 fun z h3 => blk z fun b => ifd b (tc δ h3 X fun u h4 => o' y u h4 Q) (Q (.bl false) h3)
theorem s_chain {ta tb tc : TE} {wa wb wc : DG D} {r r' : R2} {o o' : DO2} (so : SO2 c r o) (so' : SO2 c r' o') (sa : SE c W ta wa) (sb : SE c W tb wb) (sc : SE c W tc wc) : SE c W (tChain r r' ta tb tc) (dChain o o' wa wb wc) := by
  intro F h H δ σ X Q R s e w x q
  refine sa F h H δ σ X _ _ s e w x fun F1 h1 H1 d1 v1 e1 s1 r1 w1 => ?_
  refine sb F1 h1 H1 δ σ X _ _ s1 (e.ext e1) w1 (x.ext e1) fun F2 h2 H2 d2 v2 e2 s2 r2 w2 => ?_
  refine so F2 h2 H2 _ _ _ _ _ _ s2 (r1.ext e2) r2 w2 fun F3 h3 H3 d3 v3 e3 s3 r3 w3 => ?_
  obtain ⟨b, rfl, w3⟩ := blk_of w3
  have e13 := e1.trans (e2.trans e3)
  refine ⟨b, r3.bl_inv, ifd_ok w3 (fun w4 => ?_) fun w4 => q F3 h3 H3 _ _ e13 s3 (.bl _) w4⟩
  refine sc F3 h3 H3 δ σ X _ _ s3 (e.ext e13) w4 (x.ext e13) fun F4 h4 H4 d4 v4 e4 s4 r4 w5 => ?_
  exact so' F4 h4 H4 _ _ _ _ _ _ s4 (r2.ext (e3.trans e4)) r4 w5 (q.ext (e13.trans e4))
/-! ### parts of slices -/
def dPart (ta : DG D) : DG (Option Int) := fun δ h X Q => ta δ h X fun x h1 => match x with
  | .int i => Q (some i) h1
  | _ => False
def dNoPart : DG (Option Int) := fun _ h _ Q => Q none h
theorem s_part {ta : TE} {wa : DG D} (sa : SE c W ta wa) : SO c W (tPart ta) (dPart wa) := by
  intro F h H δ σ X Q R s e w x q
  refine sa F h H δ σ X _ _ s e w x fun F1 h1 H1 d1 v1 e1 s1 r1 w1 => ?_
  cases d1 <;> first | exact w1.elim | skip
  exact ⟨_, r1.int_inv, q F1 h1 H1 _ _ e1 s1 rfl w1⟩
theorem s_nop : SO c W tNoPart dNoPart := fun F h H δ σ X Q R s e w x q => q.at_ s rfl w
abbrev DOs := D → Option Int → Option Int → MH → DK → Prop
def SOs (c : Cc) (r : V → Option Int → Option Int → Hp → VK → Prop) (o : DOs) : Prop := ∀ F h H x u lo hi Q R, Sim c F h H → RelD c F H x u → o x lo hi h Q → QOk c (RelD c) F H Q R → r u lo hi H R
def dSl (o : DOs) (ta : DG D) (tl th : DG (Option Int)) : DG D := fun δ h X Q => ta δ h X fun x h1 => tl δ h1 X fun l h2 => th δ h2 X fun u h3 => o x l u h3 Q
theorem s_sl {ta : TE} {tl th : TO} {wa : DG D} {wl wh : DG (Option Int)} {r : V → Option Int → Option Int → Hp → VK → Prop} {o : DOs} (so : SOs c r o) (sa : SE c W ta wa) (sl : SO c W tl wl) (sh : SO c W th wh) : SE c W (L2.tSl r ta tl th) (dSl o wa wl wh) := by
  intro F h H δ σ X Q R s e w x q
  refine sa F h H δ σ X _ _ s e w x fun F1 h1 H1 d1 v1 e1 s1 r1 w1 => ?_
  refine sl F1 h1 H1 δ σ X _ _ s1 (e.ext e1) w1 (x.ext e1) fun F2 h2 H2 d2 v2 e2 s2 r2 w2 => ?_
  have r2 : d2 = v2 := r2
  subst r2
  refine sh F2 h2 H2 δ σ X _ _ s2 (e.ext (e1.trans e2)) w2 (x.ext (e1.trans e2)) fun F3 h3 H3 d3 v3 e3 s3 r3 w3 => ?_
  have r3 : d3 = v3 := r3
  subst r3
  exact so F3 h3 H3 _ _ _ _ _ _ s3 (r1.ext (e2.trans e3)) w3 (q.ext (e1.trans (e2.trans e3)))
/-! ### methods of lists and texts -/
abbrev DOm := D → List D → MH → DK → Prop
def SOm (c : Cc) (r : V → List V → Hp → VK → Prop) (o : DOm) : Prop := ∀ F h H x u xs us Q R, Sim c F h H → RelD c F H x u → RelDs c F H xs us → o x xs h Q → QOk c (RelD c) F H Q R → r u us H R
end
end Dv
/-! what a reading says of data: operations -/
namespace Dv
open PySem PySem.Spec PyProof.Rows L2 Sf
section
variable {c : Cc} {W : WX} {F F' F'' : Fs} {h h' : MH} {H H' H'' : Hp} {a l : Addr} {o : HO} {d x y : D} {ds es : List D} {v u : V} {vs us : List V} {i j : Nat} {k : Bool} {δ : EnvD} {σ : L2.St} {X : DXc}
theorem Sim.lst (s : Sim c F h H) (r : RelD c F H (.ref i) v) (e : h[i]? = some (.lst ds)) : ∃ a vs, v = .ref a ∧ F.cs[i]? = some a ∧ H a = some (.lst vs) ∧ RelDs c F H ds vs := by
  cases r with
  | @ref _ a hi =>
    obtain ⟨b, hb, k⟩ := s.at_ i _ e
    rw [hi] at hb
    obtain rfl := Option.some.inj hb
    cases k with
    | lst z r => exact ⟨_, _, rfl, hi, z, r⟩
theorem Sim.obj (s : Sim c F h H) {C : Nat} {fs : List (Nat × D)} (r : RelD c F H (.ref i) v) (e : h[i]? = some (.obj C fs)) : ∃ a dx vs, v = .ref a ∧ F.cs[i]? = some a ∧ H a = some (.ins (c.ca C) dx vs) ∧ RelFs c F H fs vs := by
  cases r with
  | @ref _ a hi =>
    obtain ⟨b, hb, k⟩ := s.at_ i _ e
    rw [hi] at hb
    obtain rfl := Option.some.inj hb
    cases k with
    | obj z r => exact ⟨_, _, _, rfl, hi, z, r⟩
/-- the items of a list -/
def wL (x : D) (h : MH) (k : List D → Prop) : Prop := match x with
  | .lst ds => k ds
  | .ref i => ∃ ds, h[i]? = some (.lst ds) ∧ k ds
  | .scr ns => k (ns.map .int)
  | _ => False
theorem wL_of {k : List D → Prop} (s : Sim c F h H) (r : RelD c F H x v) (w : wL x h k) : ∃ a ds vs, v = .ref a ∧ SqL c.K H a vs ∧ RelDs c F H ds vs ∧ k ds := by
  cases x with
  | lst ds => cases r with
    | lst f e r => exact ⟨_, _, _, rfl, SqL.of e, r, w⟩
  | ref i =>
    obtain ⟨ds, e, w⟩ := w
    obtain ⟨a, vs, rfl, _, z, r2⟩ := s.lst r e
    exact ⟨_, _, _, rfl, SqL.of z, r2, w⟩
  | scr ns => cases r with
    | scr q => exact ⟨_, _, _, rfl, q.sqL, RelDs.ints ns, w⟩
  | _ => exact w.elim
/-- of a list that is no script -/
def wM (x : D) (h : MH) (k : List D → Prop) : Prop := match x with
  | .lst ds => k ds
  | .ref i => ∃ ds, h[i]? = some (.lst ds) ∧ k ds
  | _ => False
theorem wM_of {k : List D → Prop} (s : Sim c F h H) (r : RelD c F H x v) (w : wM x h k) : ∃ a ds vs, v = .ref a ∧ H a = some (.lst vs) ∧ RelDs c F H ds vs ∧ k ds := by
  cases x with
  | lst ds => cases r with
    | lst f e r => exact ⟨_, _, _, rfl, e, r, w⟩
  | ref i =>
    obtain ⟨ds, e, w⟩ := w
    obtain ⟨a, vs, rfl, _, z, r2⟩ := s.lst r e
    exact ⟨_, _, _, rfl, z, r2, w⟩
  | _ => exact w.elim
def wT (x : D) (k : List D → Prop) : Prop := match x with
  | .tup _ ds => k ds
  | _ => False
theorem wT_of {k : List D → Prop} (r : RelD c F H x v) (w : wT x k) : ∃ a ds vs, v = .ref a ∧ SqT c.K H a vs ∧ RelDs c F H ds vs ∧ k ds ∧ ∃ b, x = .tup b ds ∧ TupAt c.K F H b a vs := by
  cases x with
  | tup b ds => cases r with
    | tup t r => exact ⟨_, _, _, rfl, t.sqT, r, w, _, rfl, t⟩
  | _ => exact w.elim
/-- of a list or a tuple -/
def wS (x : D) (h : MH) (k : List D → Prop) : Prop := match x with
  | .tup _ ds => k ds
  | .lst ds => k ds
  | .ref i => ∃ ds, h[i]? = some (.lst ds) ∧ k ds
  | .scr ns => k (ns.map .int)
  | _ => False
theorem wS_of {k : List D → Prop} (s : Sim c F h H) (r : RelD c F H x v) (w : wS x h k) : ∃ a ds vs, v = .ref a ∧ (SqL c.K H a vs ∨ SqT c.K H a vs) ∧ RelDs c F H ds vs ∧ k ds := by
  cases x with
  | tup b ds => cases r with
    | tup t r => exact ⟨_, _, _, rfl, .inr t.sqT, r, w⟩
  | lst ds => cases r with
    | lst f e r => exact ⟨_, _, _, rfl, .inl (SqL.of e), r, w⟩
  | ref i =>
    obtain ⟨ds, e, w⟩ := w
    obtain ⟨a, vs, rfl, _, z, r2⟩ := s.lst r e
    exact ⟨_, _, _, rfl, .inl (SqL.of z), r2, w⟩
  | scr ns => cases r with
    | scr q => exact ⟨_, _, _, rfl, .inl q.sqL, RelDs.ints ns, w⟩
  | _ => exact w.elim
/-! ### ints -/
def oI (C : Int → Int → Prop) (g : Int → Int → D) : DO2 := fun x y h Q => match x, y with
  | .int i, .int j => C i j ∧ Q (g i j) h
  | _, _ => False
def oI0 (g : Int → Int → D) : DO2 := fun x y h Q => match x, y with
  | .int i, .int j => Q (g i j) h
  | _, _ => False
theorem so_I {C : Int → Int → Prop} {g : Int → Int → D} {gv : Int → Int → V} (hg : ∀ F H i j, RelD c F H (g i j) (gv i j)) : SO2 c (rI C gv) (oI C g) := by
  intro F h H x y u v Q R s rx ry w q
  cases x <;> first | exact w.elim | skip
  cases y <;> first | exact w.elim | skip
  cases rx; cases ry
  exact ⟨_, _, rfl, rfl, w.1, q.at_ s (hg _ _ _ _) w.2⟩
theorem so_I0 {g : Int → Int → D} {gv : Int → Int → V} (hg : ∀ F H i j, RelD c F H (g i j) (gv i j)) : SO2 c (rI0 gv) (oI0 g) := by
  intro F h H x y u v Q R s rx ry w q
  cases x <;> first | exact w.elim | skip
  cases y <;> first | exact w.elim | skip
  cases rx; cases ry
  exact ⟨_, _, rfl, rfl, q.at_ s (hg _ _ _ _) w⟩
def oAdd : DO2 := fun x y h Q => match x, y with
  | .int i, .int j => Q (.int (i + j)) h
  | _, _ => False
def oSub : DO2 := fun x y h Q => match x, y with
  | .int i, .int j => Q (.int (i - j)) h
  | _, _ => False
def oMul : DO2 := fun x y h Q => match x, y with
  | .int i, .int j => CMul i j ∧ Q (.int (i * j)) h
  | _, _ => False
def oDiv : DO2 := fun x y h Q => match x, y with
  | .int i, .int j => CDiv i j ∧ Q (.int (i / j)) h
  | _, _ => False
def oMod : DO2 := fun x y h Q => match x, y with
  | .int i, .int j => 0 < j ∧ Q (.int (i % j)) h
  | _, _ => False
def oPow : DO2 := fun x y h Q => match x, y with
  | .int i, .int j => CPow i j ∧ Q (.int (i ^ j.toNat)) h
  | _, _ => False
def oLt : DO2 := fun x y h Q => match x, y with
  | .int i, .int j => Q (.bl (decide (i < j))) h
  | _, _ => False
def oLe : DO2 := fun x y h Q => match x, y with
  | .int i, .int j => Q (.bl (decide (i ≤ j))) h
  | _, _ => False
def oGt : DO2 := fun x y h Q => match x, y with
  | .int i, .int j => Q (.bl (decide (j < i))) h
  | _, _ => False
def oGe : DO2 := fun x y h Q => match x, y with
  | .int i, .int j => Q (.bl (decide (j ≤ i))) h
  | _, _ => False
theorem so_add : SO2 c rdAdd oAdd := by
  intro F h H x y u v Q R s rx ry w q
  cases x <;> first | exact w.elim | skip
  cases y <;> first | exact w.elim | skip
  cases rx; cases ry
  exact ⟨_, _, rfl, rfl, q.at_ s (.int _) w⟩
theorem so_sub : SO2 c rdSub oSub := by
  intro F h H x y u v Q R s rx ry w q
  cases x <;> first | exact w.elim | skip
  cases y <;> first | exact w.elim | skip
  cases rx; cases ry
  exact ⟨_, _, rfl, rfl, q.at_ s (.int _) w⟩
theorem so_mul : SO2 c rdMul oMul := by
  intro F h H x y u v Q R s rx ry w q
  cases x <;> first | exact w.elim | skip
  cases y <;> first | exact w.elim | skip
  cases rx; cases ry
  exact ⟨_, _, rfl, rfl, w.1, q.at_ s (.int _) w.2⟩
theorem so_div : SO2 c rdDiv oDiv := by
  intro F h H x y u v Q R s rx ry w q
  cases x <;> first | exact w.elim | skip
  cases y <;> first | exact w.elim | skip
  cases rx; cases ry
  exact ⟨_, _, rfl, rfl, w.1, q.at_ s (.int _) w.2⟩
theorem so_mod : SO2 c rdMod oMod := by
  intro F h H x y u v Q R s rx ry w q
  cases x <;> first | exact w.elim | skip
  cases y <;> first | exact w.elim | skip
  cases rx; cases ry
  exact ⟨_, _, rfl, rfl, w.1, q.at_ s (.int _) w.2⟩
theorem so_pow : SO2 c rdPow oPow := by
  intro F h H x y u v Q R s rx ry w q
  cases x <;> first | exact w.elim | skip
  cases y <;> first | exact w.elim | skip
  cases rx; cases ry
  exact ⟨_, _, rfl, rfl, w.1, q.at_ s (.int _) w.2⟩
theorem so_lt : SO2 c rdLt oLt := by
  intro F h H x y u v Q R s rx ry w q
  cases x <;> first | exact w.elim | skip
  cases y <;> first | exact w.elim | skip
  cases rx; cases ry
  exact ⟨_, _, rfl, rfl, q.at_ s (.bl _) w⟩
theorem so_le : SO2 c rdLe oLe := by
  intro F h H x y u v Q R s rx ry w q
  cases x <;> first | exact w.elim | skip
  cases y <;> first | exact w.elim | skip
  cases rx; cases ry
  exact ⟨_, _, rfl, rfl, q.at_ s (.bl _) w⟩
theorem so_gt : SO2 c rdGt oGt := by
  intro F h H x y u v Q R s rx ry w q
  cases x <;> first | exact w.elim | skip
  cases y <;> first | exact w.elim | skip
  cases rx; cases ry
  exact ⟨_, _, rfl, rfl, q.at_ s (.bl _) w⟩
theorem so_ge : SO2 c rdGe oGe := by
  intro F h H x y u v Q R s rx ry w q
  cases x <;> first | exact w.elim | skip
  cases y <;> first | exact w.elim | skip
  cases rx; cases ry
  exact ⟨_, _, rfl, rfl, q.at_ s (.bl _) w⟩
def oNeg : DO1 := fun x h Q => match x with
  | .int i => Q (.int (-i)) h
  | _ => False
theorem so_neg : SO1 c (rU fun i => .int (-i)) oNeg := by
  intro F h H x u Q R s rx w q
  cases x <;> first | exact w.elim | skip
  cases rx
  exact ⟨_, rfl, q.at_ s (.int _) w⟩
/-! ### texts -/
def oAddS : DO2 := fun x y h Q => match x, y with
  | .str i, .str j => i.length + j.length ≤ sizeLine ∧ Q (.str (i ++ j)) h
  | _, _ => False
theorem so_addS : SO2 c rdAddS oAddS := by
  intro F h H x y u v Q R s rx ry w q
  cases x <;> first | exact w.elim | skip
  cases y <;> first | exact w.elim | skip
  cases rx; cases ry
  exact ⟨_, _, rfl, rfl, w.1, q.at_ s (.str _) w.2⟩
/-! ### == of scalars -/
def oEq : DO2 := fun x y h Q => match x, y with
  | .int i, .int j => Q (.bl (decide (i = j))) h
  | .str i, .str j => Q (.bl (decide (i = j))) h
  | .bl i, .bl j => Q (.bl (decide (i = j))) h
  | .non, .non => Q (.bl true) h
  | .non, .int _ => Q (.bl false) h
  | .non, .str _ => Q (.bl false) h
  | .non, .bl _ => Q (.bl false) h
  | .int _, .non => Q (.bl false) h
  | .str _, .non => Q (.bl false) h
  | .bl _, .non => Q (.bl false) h
  | .int _, .str _ => Q (.bl false) h
  | .str _, .int _ => Q (.bl false) h
  | _, _ => False
def oNe : DO2 := fun x y h Q => oEq x y h fun z h1 => match z with
  | .bl b => Q (.bl (!b)) h1
  | _ => False
theorem so_eq : SO2 c rEq oEq := by
  intro F h H x y u v Q R s rx ry w q
  cases x <;> cases y <;> first | exact w.elim | (cases rx; cases ry; refine ⟨rfl, q.at_ (x := .bl _) s ?_ w⟩; first | exact .bl _ | (simp; exact .bl _))
theorem so_ne : SO2 c rNe oNe := by
  intro F h H x y u v Q R s rx ry w q
  cases x <;> cases y <;> first | exact w.elim | (cases rx; cases ry; refine ⟨rfl, q.at_ (x := .bl _) s ?_ w⟩; first | exact .bl _ | (simp; exact .bl _))
def oIsN : DO2 := fun x y h Q => match x, y with
  | .non, .non => Q (.bl true) h
  | _, .non => Q (.bl false) h
  | _, _ => False
def oNotN : DO2 := fun x y h Q => match x, y with
  | .non, .non => Q (.bl false) h
  | _, .non => Q (.bl true) h
  | _, _ => False
theorem so_isN : SO2 c rdIsN oIsN := by
  intro F h H x y u v Q R s rx ry w q
  cases y <;> first | (cases x <;> exact w.elim) | skip
  cases ry
  refine ⟨rfl, ?_⟩
  cases x <;> cases rx <;> exact q.at_ (x := .bl _) s (.bl _) w
theorem so_notN : SO2 c rdNotN oNotN := by
  intro F h H x y u v Q R s rx ry w q
  cases y <;> first | (cases x <;> exact w.elim) | skip
  cases ry
  refine ⟨rfl, ?_⟩
  cases x <;> cases rx <;> exact q.at_ (x := .bl _) s (.bl _) w
/-! ### data -/
mutual
inductive DP (h : MH) : D → PyData → Prop
  | non : DP h .non .none
  | bl (b : Bool) : DP h (.bl b) (.bool b)
  | int (i : Int) : DP h (.int i) (.int i)
  | str (x : Str) : DP h (.str x) (.str x)
  | tup {k : Bool} {ds : List D} {ps : List PyData} : DPs h ds ps → DP h (.tup k ds) (.tuple ps)
  | lst {ds : List D} {ps : List PyData} : DPs h ds ps → DP h (.lst ds) (.list ps)
  | ref {i : Nat} {ds : List D} {ps : List PyData} : h[i]? = some (.lst ds) → DPs h ds ps → DP h (.ref i) (.list ps)
inductive DPs (h : MH) : List D → List PyData → Prop
  | nil : DPs h [] []
  | cons {d : D} {p : PyData} {ds : List D} {ps : List PyData} : DP h d p → DPs h ds ps → DPs h (d :: ds) (p :: ps)
end
mutual
theorem DP.dp (s : Sim c F h H) : ∀ {d : D} {p : PyData} {v : V}, DP h d p → RelD c F H d v → Dp c.K H v p
  | _, _, _, .non, r => by cases r; exact .non
  | _, _, _, .bl b, r => by cases r; exact .bl b
  | _, _, _, .int b, r => by cases r; exact .int b
  | _, _, _, .str b, r => by cases r; exact .str b
  | _, _, _, .tup ps, r => by cases r with | tup t r => exact .tup t.sqT (DPs.dps s ps r)
  | _, _, _, .lst ps, r => by cases r with | lst f e r => exact .lst (SqL.of e) (DPs.dps s ps r)
  | _, _, _, .ref e ps, r => by
    obtain ⟨a, vs, rfl, _, z, r2⟩ := s.lst r e
    exact .lst (SqL.of z) (DPs.dps s ps r2)
theorem DPs.dps (s : Sim c F h H) : ∀ {d : List D} {p : List PyData} {v : List V}, DPs h d p → RelDs c F H d v → DpAll c.K H v p
  | _, _, _, .nil, .nil => .nil
  | _, _, _, .cons p ps, .cons r rs => .cons (DP.dp s p r) (DPs.dps s ps rs)
end
inductive EqDK (x y : D) (h : MH) (Q : DK) : Prop
  | mk (p e : PyData) (a : DP h x p) (b : DP h y e) (sp : SeqAt.shaped p = true) (se : SeqAt.shaped e = true) (q : Q (.bl (PyData.eqv p e)) h) : EqDK x y h Q
inductive NeDK (x y : D) (h : MH) (Q : DK) : Prop
  | mk (p e : PyData) (a : DP h x p) (b : DP h y e) (sp : SeqAt.shaped p = true) (se : SeqAt.shaped e = true) (q : Q (.bl (!PyData.eqv p e)) h) : NeDK x y h Q
def oEqD : DO2 := fun x y h Q => EqDK x y h Q
def oNeD : DO2 := fun x y h Q => NeDK x y h Q
theorem so_eqD : SO2 c (rEqD c.K) oEqD := by
  intro F h H x y u v Q R s rx ry ⟨p, e, a, b, h1, h2, w⟩ q
  exact ⟨p, e, a.dp s rx, b.dp s ry, h1, h2, q.at_ s (.bl _) w⟩
theorem so_neD : SO2 c (rNeD c.K) oNeD := by
  intro F h H x y u v Q R s rx ry ⟨p, e, a, b, h1, h2, w⟩ q
  exact ⟨p, e, a.dp s rx, b.dp s ry, h1, h2, q.at_ s (.bl _) w⟩
inductive InDK (neg : Bool) (x y : D) (h : MH) (Q : DK) : Prop
  | mk (p : PyData) (ps : List PyData) (a : DP h x p) (b : DP h y (.list ps)) (sp : SeqAt.shaped p = true) (se : SeqAt.shaped (.list ps) = true) (q : Q (.bl (if neg then !ps.any fun z => PyData.eqv z p else ps.any fun z => PyData.eqv z p)) h) : InDK neg x y h Q
def oInD (neg : Bool) : DO2 := fun x y h Q => InDK neg x y h Q
theorem so_inD : SO2 c (rInD c.K) (oInD false) := by
  intro F h H x y u v Q R s rx ry ⟨p, e, a, b, h1, h2, w⟩ q
  exact ⟨p, e, a.dp s rx, b.dp s ry, h1, h2, q.at_ s (.bl _) w⟩
theorem so_notInD : SO2 c (rNotInD c.K) (oInD true) := by
  intro F h H x y u v Q R s rx ry ⟨p, e, a, b, h1, h2, w⟩ q
  exact ⟨p, e, a.dp s rx, b.dp s ry, h1, h2, q.at_ s (.bl _) w⟩
/-! ### in, of flat things -/
def flatD : D → Bool
  | .non => true
  | .bl _ => true
  | .int _ => true
  | .str _ => true
  | _ => false
def eqF : D → D → Bool
  | .non, .non => true
  | .bl a, .bl b => a == b
  | .bl a, .int b => (if a then 1 else 0) == b
  | .int a, .bl b => a == (if b then 1 else 0)
  | .int a, .int b => a == b
  | .str a, .str b => a == b
  | _, _ => false
theorem flat_rel (r : RelD c F H d v) (f : flatD d = true) : flatV v = true := by cases r <;> first | rfl | cases f
theorem flats_rel : ∀ {ds : List D} {vs : List V}, RelDs c F H ds vs → ds.all flatD = true → vs.all flatV = true
  | _, _, .nil, _ => rfl
  | _, _, .cons r rs, f => by
    simp only [List.all_cons, Bool.and_eq_true] at f ⊢
    exact ⟨flat_rel r f.1, flats_rel rs f.2⟩
theorem eqF_rel (r : RelD c F H d v) (f : flatD d = true) (r2 : RelD c F H x u) (f2 : flatD x = true) : L2.eqV v u = eqF d x := by
  cases r <;> first | (cases f; done) | (cases r2 <;> first | (cases f2; done) | rfl)
theorem inF_rel (r2 : RelD c F H x u) (f2 : flatD x = true) : ∀ {ds : List D} {vs : List V}, RelDs c F H ds vs → ds.all flatD = true → inV u vs = ds.any fun z => eqF z x
  | _, _, .nil, _ => rfl
  | _, _, .cons r rs, f => by
    simp only [List.all_cons, Bool.and_eq_true] at f
    have ih := inF_rel r2 f2 rs f.2
    unfold inV at ih ⊢
    rw [List.any_cons, List.any_cons, ih, eqF_rel r f.1 r2 f2]
def oIn (neg : Bool) : DO2 := fun x y h Q => wS y h fun ds => flatD x = true ∧ ds.all flatD = true ∧ Q (.bl (if neg then !ds.any fun z => eqF z x else ds.any fun z => eqF z x)) h
theorem so_in (neg : Bool) : SO2 c (rIn c.K neg) (oIn neg) := by
  intro F h H x y u v Q R s rx ry w q
  obtain ⟨a, ds, vs, rfl, sq, rs, f1, f2, w⟩ := wS_of s ry w
  refine ⟨a, vs, rfl, sq, flat_rel rx f1, flats_rel rs f2, ?_⟩
  rw [inF_rel rx f1 rs f2]
  exact q.at_ s (.bl _) w
theorem any_strs (z : Str) : ∀ l : List Str, ((l.map D.str).any fun y => eqF y (.str z)) = decide (z ∈ l)
  | [] => rfl
  | x :: r => by
    rw [List.map_cons, List.any_cons, any_strs z r]
    by_cases e : x = z
    · subst e; simp [eqF]
    · have e2 : ¬ z = x := fun q => e q.symm
      simp [eqF, e, e2]
theorem any_ints (z : Int) : ∀ l : List Int, ((l.map D.int).any fun y => eqF y (.int z)) = decide (z ∈ l)
  | [] => rfl
  | x :: r => by
    rw [List.map_cons, List.any_cons, any_ints z r]
    by_cases e : x = z
    · subst e; simp [eqF]
    · have e2 : ¬ z = x := fun q => e q.symm
      simp [eqF, e, e2]
theorem all_strs (l : List Str) : (l.map D.str).all flatD = true := by simp [flatD]
theorem all_ints (l : List Int) : (l.map D.int).all flatD = true := by simp [flatD]
/-- a sign in a text -/
def oInS (neg : Bool) : DO2 := fun x y h Q => match x, y with
  | .str a, .str z => ∃ ch : Nat, a = ⟨#[ch]⟩ ∧ Q (.bl (if neg then !decide (ch ∈ z.cps.toList) else decide (ch ∈ z.cps.toList))) h
  | _, _ => False
theorem so_inS : SO2 c rdInS (oInS false) := by
  intro F h H x y u v Q R s rx ry w q
  cases x <;> first | exact w.elim | skip
  cases y <;> first | exact w.elim | skip
  cases rx; cases ry
  obtain ⟨ch, rfl, w⟩ := w
  exact ⟨_, _, rfl, rfl, q.at_ s (.bl _) w⟩
theorem so_notInS : SO2 c rdNotInS (oInS true) := by
  intro F h H x y u v Q R s rx ry w q
  cases x <;> first | exact w.elim | skip
  cases y <;> first | exact w.elim | skip
  cases rx; cases ry
  obtain ⟨ch, rfl, w⟩ := w
  exact ⟨_, _, rfl, rfl, q.at_ s (.bl _) w⟩
/-! ### items -/
def ixK (ds : List D) (y : D) (h : MH) (Q : DK) : Prop := match y with
  | .int i => ∃ d, atI ds i = some d ∧ Q d h
  | _ => False
theorem at_rel (r : RelDs c F H ds vs) {i : Int} (e : atI ds i = some d) : ∃ v, atI vs i = some v ∧ RelD c F H d v := by
  unfold atI at e ⊢
  rw [← r.len]
  cases q : ixN ds.length i with
  | none => rw [q] at e; cases e
  | some j => rw [q] at e; exact r.get e
def oIxL : DO2 := fun x y h Q => wL x h fun ds => ixK ds y h Q
def oIxT : DO2 := fun x y h Q => wT x fun ds => ixK ds y h Q
theorem so_ixL : SO2 c (rIxL c.K) oIxL := by
  intro F h H x y u v Q R s rx ry w q
  obtain ⟨a, ds, vs, rfl, sq, rs, w⟩ := wL_of s rx w
  cases y <;> first | exact w.elim | skip
  cases ry
  obtain ⟨d, e, w⟩ := w
  obtain ⟨z, e2, r⟩ := at_rel rs e
  exact ⟨_, _, _, _, rfl, rfl, sq, e2, q.at_ s r w⟩
theorem so_ixT : SO2 c (rIxT c.K) oIxT := by
  intro F h H x y u v Q R s rx ry w q
  obtain ⟨a, ds, vs, rfl, sq, rs, w, _⟩ := wT_of rx w
  cases y <;> first | exact w.elim | skip
  cases ry
  obtain ⟨d, e, w⟩ := w
  obtain ⟨z, e2, r⟩ := at_rel rs e
  exact ⟨_, _, _, _, rfl, rfl, sq, e2, q.at_ s r w⟩
def oIxS : DO2 := fun x y h Q => match x, y with
  | .str z, .int i => z.length ≤ sizeLine ∧ ∃ ch, atI z.cps.toList i = some ch ∧ Q (.str ⟨#[ch]⟩) h
  | _, _ => False
theorem so_ixS : SO2 c rIxS oIxS := by
  intro F h H x y u v Q R s rx ry w q
  cases x <;> first | exact w.elim | skip
  cases y <;> first | exact w.elim | skip
  cases rx; cases ry
  obtain ⟨a, ch, b, w⟩ := w
  exact ⟨_, _, _, rfl, rfl, a, b, q.at_ s (.str _) w⟩
/-! ### put together, cut, said again -/
def oCat : DO2 := fun x y h Q => wM x h fun ds => wM y h fun es => ds.length + es.length ≤ sizeLine ∧ newL (ds ++ es) h Q
theorem so_cat : SO2 c rCat oCat := by
  intro F h H x y u v Q R s rx ry w q
  obtain ⟨a, ds, vs, rfl, sq, rs, w⟩ := wM_of s rx w
  obtain ⟨b, es, us, rfl, sq2, rs2, w, w2⟩ := wM_of s ry w
  exact ⟨_, _, _, _, rfl, rfl, sq, sq2, by rw [← rs.len, ← rs2.len]; exact w, newL_ok s (rs.app rs2) w2 q⟩
theorem TupAt.un {b : Bool} (t : TupAt c.K F H b a vs) : TupAt c.K F H false a vs := by
  cases t with
  | kn h1 h2 h3 h4 h5 => exact .kn h1 h2 h3 h4 h5
  | rd f h => exact .rd f h
  | fz f h z => exact .fz f h (fun y => by cases y)
def oCatT : DO2 := fun x y h Q => wT x fun ds => wT y fun es => ds.length + es.length ≤ sizeLine ∧ Q (.tup false (ds ++ es)) h
theorem so_catT : SO2 c (rCatA c.K) oCatT := by
  intro F h H x y u v Q R s rx ry w q
  obtain ⟨a, ds, vs, rfl, sq, rs, w, _, _, t1⟩ := wT_of rx w
  obtain ⟨b, es, us, rfl, sq2, rs2, ⟨w, w2⟩, _, _, t2⟩ := wT_of ry w
  refine ⟨_, _, _, _, rfl, rfl, sq, sq2, by rw [← rs.len, ← rs2.len]; exact w, fun e => ?_, fun _ e => ?_, fun _ _ => newT_ok s (rs.app rs2) w2 q⟩
  · have : ds = [] := List.eq_nil_of_length_eq_zero (by rw [rs.len, e]; rfl)
    subst this
    exact q.at_ s (.tup t2.un rs2) w2
  · have : es = [] := List.eq_nil_of_length_eq_zero (by rw [rs2.len, e]; rfl)
    subst this
    rw [List.append_nil] at w2
    exact q.at_ s (.tup t1.un rs) w2
theorem rep_rel (r : RelDs c F H ds vs) : ∀ n : Nat, RelDs c F H (List.replicate n ds).flatten (List.replicate n vs).flatten
  | 0 => .nil
  | n + 1 => by simp only [List.replicate_succ, List.flatten_cons]; exact r.app (rep_rel r n)
def oRepT : DO2 := fun x y h Q => wT x fun ds => match y with
  | .int k => ds ≠ [] ∧ 2 ≤ k ∧ k ≤ 1000 ∧ ds.length ≤ 1000 ∧ Q (.tup false (List.replicate k.toNat ds).flatten) h
  | _ => False
theorem so_repT : SO2 c (rRepT c.K) oRepT := by
  intro F h H x y u v Q R s rx ry w q
  obtain ⟨a, ds, vs, rfl, sq, rs, w, _⟩ := wT_of rx w
  cases y <;> first | exact w.elim | skip
  cases ry
  obtain ⟨h1, h2, h3, h4, w⟩ := w
  exact ⟨_, _, _, rfl, rfl, sq, fun e => h1 (List.eq_nil_of_length_eq_zero (by rw [rs.len, e]; rfl)), h2, h3, by rw [← rs.len]; exact h4, newT_ok s (rep_rel rs _) w q⟩
def oRep : DO2 := fun x y h Q => wM x h fun ds => match y with
  | .int k => -(2 ^ 63) ≤ k ∧ k < 2 ^ 63 ∧ ds.length * k.toNat ≤ sizeLine ∧ newL (List.replicate k.toNat ds).flatten h Q
  | _ => False
theorem so_rep : SO2 c rRep oRep := by
  intro F h H x y u v Q R s rx ry w q
  obtain ⟨a, ds, vs, rfl, sq, rs, w⟩ := wM_of s rx w
  cases y <;> first | exact w.elim | skip
  cases ry
  obtain ⟨h1, h2, h3, w⟩ := w
  exact ⟨_, _, _, rfl, rfl, sq, h1, h2, by rw [← rs.len]; exact h3, newL_ok s (rep_rel rs _) w q⟩
def cutL {α : Type} (xs : List α) (lo hi : Option Int) : List α := (xs.drop (HT.sIx xs.length 0 lo)).take (HT.sIx xs.length xs.length hi - HT.sIx xs.length 0 lo)
theorem cut_rel (r : RelDs c F H ds vs) (lo hi : Option Int) : RelDs c F H (cutL ds lo hi) (cutV vs lo hi) := by
  unfold cutL cutV
  rw [← r.len]
  exact (r.drop _).take _
def oSlL : DOs := fun x lo hi h Q => wL x h fun ds => newL (cutL ds lo hi) h Q
theorem so_slL : SOs c (rSlL c.K) oSlL := by
  intro F h H x u lo hi Q R s rx w q
  obtain ⟨a, ds, vs, rfl, sq, rs, w⟩ := wL_of s rx w
  exact ⟨_, _, rfl, sq, newL_ok s (cut_rel rs lo hi) w q⟩
def oSlT : DOs := fun x lo hi h Q => wT x fun ds => Q (.tup false (cutL ds lo hi)) h
theorem so_slT : SOs c (rSlA c.K) oSlT := by
  intro F h H x u lo hi Q R s rx w q
  obtain ⟨a, ds, vs, rfl, sq, rs, w, _, _, t⟩ := wT_of rx w
  refine ⟨_, _, rfl, sq, fun ⟨e1, e2⟩ => ?_, fun _ => newT_ok s (cut_rel rs lo hi) w q⟩
  have e : cutL ds lo hi = ds := by
    unfold cutL
    rw [rs.len, e1, e2, ← rs.len]
    simp
  rw [e] at w
  exact q.at_ s (.tup t.un rs) w
def oSlS : DOs := fun x lo hi h Q => match x with
  | .str z => z.length ≤ sizeLine ∧ Q (.str (cutS z lo hi)) h
  | _ => False
theorem so_slS : SOs c rSlS oSlS := by
  intro F h H x u lo hi Q R s rx w q
  cases x <;> first | exact w.elim | skip
  cases rx
  exact ⟨_, rfl, w.1, q.at_ s (.str _) w.2⟩
/-! ### builtin calls -/
def b1 (xs : List D) (k : D → Prop) : Prop := match xs with
  | [x] => k x
  | _ => False
theorem b1_of {xs : List D} {us : List V} {k : D → Prop} (r : RelDs c F H xs us) (w : b1 xs k) : ∃ x u, us = [u] ∧ RelD c F H x u ∧ k x := by
  match xs, r, w with
  | [_], .cons r .nil, w => exact ⟨_, _, rfl, r, w⟩
def b2 (xs : List D) (k : D → D → Prop) : Prop := match xs with
  | [x, y] => k x y
  | _ => False
theorem b2_of {xs : List D} {us : List V} {k : D → D → Prop} (r : RelDs c F H xs us) (w : b2 xs k) : ∃ x y u v, us = [u, v] ∧ RelD c F H x u ∧ RelD c F H y v ∧ k x y := by
  match xs, r, w with
  | [_, _], .cons r (.cons r2 .nil), w => exact ⟨_, _, _, _, rfl, r, r2, w⟩
def bLen : DOn := fun xs h Q => b1 xs fun x => wS x h fun ds => Q (.int ds.length) h
theorem so_len : SOn c (rdLen c.K) bLen := by
  intro F h H xs us Q R s r w q
  obtain ⟨x, u, rfl, rx, w⟩ := b1_of r w
  obtain ⟨a, ds, vs, rfl, sq, rs, w⟩ := wS_of s rx w
  exact ⟨_, _, rfl, sq, by rw [← rs.len]; exact q.at_ s (.int _) w⟩
def bLenS : DOn := fun xs h Q => b1 xs fun x => match x with
  | .str z => z.length ≤ sizeLine ∧ Q (.int z.length) h
  | _ => False
theorem so_lenS : SOn c rdLenS bLenS := by
  intro F h H xs us Q R s r w q
  obtain ⟨x, u, rfl, rx, w⟩ := b1_of r w
  cases x <;> first | exact w.elim | skip
  cases rx
  exact ⟨_, rfl, w.1, q.at_ s (.int _) w.2⟩
def bI1 (g : Int → Int) : DOn := fun xs h Q => b1 xs fun x => match x with
  | .int i => Q (.int (g i)) h
  | _ => False
def bI2 (g : Int → Int → Int) : DOn := fun xs h Q => b2 xs fun x y => match x, y with
  | .int i, .int j => Q (.int (g i j)) h
  | _, _ => False
def bAbs : DOn := fun xs h Q => b1 xs fun x => match x with
  | .int i => Q (.int (if i < 0 then -i else i)) h
  | _ => False
def bMin2 : DOn := fun xs h Q => b2 xs fun x y => match x, y with
  | .int i, .int j => Q (.int (if j < i then j else i)) h
  | _, _ => False
def bMax2 : DOn := fun xs h Q => b2 xs fun x y => match x, y with
  | .int i, .int j => Q (.int (if j > i then j else i)) h
  | _, _ => False
theorem so_abs : SOn c rdAbs bAbs := by
  intro F h H xs us Q R s r w q
  obtain ⟨x, u, rfl, rx, w⟩ := b1_of r w
  cases x <;> first | exact w.elim | skip
  cases rx
  exact ⟨_, rfl, q.at_ s (.int _) w⟩
theorem so_min2 : SOn c rdMin2 bMin2 := by
  intro F h H xs us Q R s r w q
  obtain ⟨x, y, u, v, rfl, rx, ry, w⟩ := b2_of r w
  cases x <;> first | exact w.elim | skip
  cases y <;> first | exact w.elim | skip
  cases rx; cases ry
  exact ⟨_, _, rfl, q.at_ s (.int _) w⟩
theorem so_max2 : SOn c rdMax2 bMax2 := by
  intro F h H xs us Q R s r w q
  obtain ⟨x, y, u, v, rfl, rx, ry, w⟩ := b2_of r w
  cases x <;> first | exact w.elim | skip
  cases y <;> first | exact w.elim | skip
  cases rx; cases ry
  exact ⟨_, _, rfl, q.at_ s (.int _) w⟩
def bInt : DOn := fun xs h Q => b1 xs fun x => match x with
  | .int i => Q (.int i) h
  | .bl b => Q (.int (if b then 1 else 0)) h
  | _ => False
theorem so_int : SOn c rdInt bInt := by
  intro F h H xs us Q R s r w q
  obtain ⟨x, u, rfl, rx, w⟩ := b1_of r w
  cases x <;> first | exact w.elim | skip
  · cases rx
    exact .inr ⟨_, rfl, q.at_ s (.int _) w⟩
  · cases rx
    exact .inl ⟨_, rfl, q.at_ s (.int _) w⟩
def bStr : DOn := fun xs h Q => b1 xs fun x => match x with
  | .int i => i.natAbs.log2 < 1920 ∧ Q (.str (toString i)) h
  | _ => False
theorem so_str : SOn c rdStr bStr := by
  intro F h H xs us Q R s r w q
  obtain ⟨x, u, rfl, rx, w⟩ := b1_of r w
  cases x <;> first | exact w.elim | skip
  cases rx
  exact ⟨_, rfl, w.1, q.at_ s (.str _) w.2⟩
def bIntS : DOn := fun xs h Q => b1 xs fun x => match x with
  | .str z => ∃ n, PySem.intText? z = some n ∧ z.length ≤ 640 ∧ Q (.int n) h
  | _ => False
theorem so_intS : SOn c rdIntS bIntS := by
  intro F h H xs us Q R s r w q
  obtain ⟨x, u, rfl, rx, w⟩ := b1_of r w
  cases x <;> first | exact w.elim | skip
  cases rx
  obtain ⟨n, h1, h2, w⟩ := w
  exact ⟨_, n, rfl, h1, h2, q.at_ s (.int _) w⟩
def bTup : DOn := fun xs h Q => b1 xs fun x => wS x h fun ds => Q (.tup false ds) h
theorem so_tuple : SOn c (rdTuple c.K) bTup := by
  intro F h H xs us Q R s r w q
  obtain ⟨x, u, rfl, rx, w⟩ := b1_of r w
  by_cases ht : ∃ b ds, x = .tup b ds
  · obtain ⟨b, ds, rfl⟩ := ht
    cases rx with
    | tup t r2 => exact ⟨_, _, rfl, .inr ⟨t.sqT, q.at_ s (.tup t.un r2) w⟩⟩
  · have w2 : wL x h fun ds => Q (.tup false ds) h := by
      cases x <;> first | exact w | exact absurd ⟨_, _, rfl⟩ ht
    obtain ⟨a, ds, vs, rfl, sq, rs, w⟩ := wL_of s rx w2
    exact ⟨_, _, rfl, .inl ⟨sq, newT_ok s rs w q⟩⟩
def bTupF : DOn := fun xs h Q => b1 xs fun x => wL x h fun ds => Q (.tup true ds) h
theorem so_tupleF : SOn c (rdTupleF c.K) bTupF := by
  intro F h H xs us Q R s r w q
  obtain ⟨x, u, rfl, rx, w⟩ := b1_of r w
  obtain ⟨a, ds, vs, rfl, sq, rs, w⟩ := wL_of s rx w
  exact ⟨_, _, rfl, sq, fun l ob hl hd => q F h _ _ _ (Ext.new hl) (s.new hl) (.tup (.fz ⟨s.out hl, s.nbl hl⟩ upd_same fun _ => hd) (rs.ext (Ext.new hl))) w⟩
def bList : DOn := fun xs h Q => b1 xs fun x => wS x h fun ds => newL ds h Q
theorem so_list : SOn c (rdList c.K) bList := by
  intro F h H xs us Q R s r w q
  obtain ⟨x, u, rfl, rx, w⟩ := b1_of r w
  obtain ⟨a, ds, vs, rfl, sq, rs, w⟩ := wS_of s rx w
  exact ⟨_, _, rfl, sq, newL_ok s rs w q⟩
theorem bls_inv : ∀ {bs : List Bool} {vs : List V}, RelDs c F H (bs.map .bl) vs → vs = bs.map V.bl
  | [], _, .nil => rfl
  | b :: r, _, .cons x rs => by rw [x.bl_inv, bls_inv rs]; rfl
theorem ints_inv : ∀ {bs : List Int} {vs : List V}, RelDs c F H (bs.map .int) vs → vs = bs.map V.int
  | [], _, .nil => rfl
  | b :: r, _, .cons x rs => by rw [x.int_inv, ints_inv rs]; rfl
theorem strs_inv : ∀ {bs : List Str} {vs : List V}, RelDs c F H (bs.map .str) vs → vs = bs.map V.str
  | [], _, .nil => rfl
  | b :: r, _, .cons x rs => by rw [x.str_inv, strs_inv rs]; rfl
def bAll : DOn := fun xs h Q => b1 xs fun x => wL x h fun ds => ∃ bs : List Bool, ds = bs.map .bl ∧ Q (.bl (bs.all id)) h
theorem so_all : SOn c (rAll c.K) bAll := by
  intro F h H xs us Q R s r w q
  obtain ⟨x, u, rfl, rx, w⟩ := b1_of r w
  obtain ⟨a, ds, vs, rfl, sq, rs, bs, rfl, w⟩ := wL_of s rx w
  rw [bls_inv rs] at sq
  exact ⟨_, bs, rfl, sq, q.at_ s (.bl _) w⟩
def bAny : DOn := fun xs h Q => b1 xs fun x => wL x h fun ds => ∃ bs : List Bool, ds = bs.map .bl ∧ Q (.bl (bs.any id)) h
theorem so_any : SOn c (rAny c.K) bAny := by
  intro F h H xs us Q R s r w q
  obtain ⟨x, u, rfl, rx, w⟩ := b1_of r w
  obtain ⟨a, ds, vs, rfl, sq, rs, bs, rfl, w⟩ := wL_of s rx w
  rw [bls_inv rs] at sq
  exact ⟨_, bs, rfl, sq, q.at_ s (.bl _) w⟩
def bSum : DOn := fun xs h Q => b1 xs fun x => wL x h fun ds => ∃ bs : List Int, ds = bs.map .int ∧ Q (.int bs.sum) h
theorem so_sum : SOn c (rSum c.K) bSum := by
  intro F h H xs us Q R s r w q
  obtain ⟨x, u, rfl, rx, w⟩ := b1_of r w
  obtain ⟨a, ds, vs, rfl, sq, rs, bs, rfl, w⟩ := wL_of s rx w
  rw [ints_inv rs] at sq
  exact ⟨_, bs, rfl, sq, q.at_ s (.int _) w⟩
def bSumT : DOn := fun xs h Q => b1 xs fun x => wT x fun ds => ∃ bs : List Int, ds = bs.map .int ∧ Q (.int bs.sum) h
theorem so_sumT : SOn c (rSumT c.K) bSumT := by
  intro F h H xs us Q R s r w q
  obtain ⟨x, u, rfl, rx, w⟩ := b1_of r w
  obtain ⟨a, ds, vs, rfl, sq, rs, ⟨bs, rfl, w⟩, _⟩ := wT_of rx w
  rw [ints_inv rs] at sq
  exact ⟨_, bs, rfl, sq, q.at_ s (.int _) w⟩
def bMax : DOn := fun xs h Q => b1 xs fun x => wL x h fun ds => ∃ bs : List Int, ds = bs.map .int ∧ 0 < bs.length ∧ ∀ m, m ∈ bs → (∀ y, y ∈ bs → y ≤ m) → Q (.int m) h
theorem so_max : SOn c (rMax c.K) bMax := by
  intro F h H xs us Q R s r w q
  obtain ⟨x, u, rfl, rx, w⟩ := b1_of r w
  obtain ⟨a, ds, vs, rfl, sq, rs, bs, rfl, hl, w⟩ := wL_of s rx w
  rw [ints_inv rs] at sq
  exact ⟨_, bs, rfl, sq, hl, fun m h1 h2 => q.at_ s (.int _) (w m h1 h2)⟩
def bMin : DOn := fun xs h Q => b1 xs fun x => wL x h fun ds => ∃ bs : List Int, ds = bs.map .int ∧ 0 < bs.length ∧ ∀ m, m ∈ bs → (∀ y, y ∈ bs → m ≤ y) → Q (.int m) h
theorem so_min : SOn c (rMin c.K) bMin := by
  intro F h H xs us Q R s r w q
  obtain ⟨x, u, rfl, rx, w⟩ := b1_of r w
  obtain ⟨a, ds, vs, rfl, sq, rs, bs, rfl, hl, w⟩ := wL_of s rx w
  rw [ints_inv rs] at sq
  exact ⟨_, bs, rfl, sq, hl, fun m h1 h2 => q.at_ s (.int _) (w m h1 h2)⟩
def bSorted : DOn := fun xs h Q => b1 xs fun x => wL x h fun ds => ∃ bs : List Int, ds = bs.map .int ∧ ∀ ns : List Int, ns.Perm bs → ns.Pairwise (· ≤ ·) → newL (ns.map .int) h Q
theorem so_sorted : SOn c (rSortedI c.K) bSorted := by
  intro F h H xs us Q R s r w q
  obtain ⟨x, u, rfl, rx, w⟩ := b1_of r w
  obtain ⟨a, ds, vs, rfl, sq, rs, bs, rfl, w⟩ := wL_of s rx w
  rw [ints_inv rs] at sq
  exact ⟨_, bs, rfl, sq, fun ns p h1 h2 hp => newL_ok s (RelDs.ints ns) (w ns h1 h2) q p hp⟩
def isRef (x : D) : Prop := match x with
  | .tup _ _ => True
  | .lst _ => True
  | .ref _ => True
  | _ => False
inductive ReprK (x : D) (h : MH) (Q : DK) : Prop
  | mk (p : PyData) (a : DP h x p) (r : isRef x) (sh : p.showable = true) (nd : p.hasDict = false) (dp : p.depth ≤ 60) (ln : p.shown.length ≤ sizeLine) (q : Q (.str p.shown) h) : ReprK x h Q
def bRepr : DOn := fun xs h Q => b1 xs fun x => ReprK x h Q
theorem so_repr : SOn c (rReprD c.K) bRepr := by
  intro F h H xs us Q R s r w q
  obtain ⟨x, u, rfl, rx, p, dp, hx, h1, h2, h3, h4, w⟩ := b1_of r w
  have dp2 := dp.dp s rx
  cases x <;> first | exact hx.elim | skip
  all_goals (cases rx; exact ⟨_, p, rfl, dp2, h1, h2, h3, h4, q.at_ s (.str _) w⟩)
end
end Dv
/-! what a reading says of data: methods of lists, statements, loops, comprehensions -/
namespace Dv
open PySem PySem.Spec PyProof.Rows L2 Sf
section
variable {c : Cc} {W : WX} {F F' F'' : Fs} {h h' : MH} {H H' H'' : Hp} {a l : Addr} {o : HO} {d x y : D} {ds es : List D} {v u : V} {vs us : List V} {i j : Nat} {k : Bool} {δ : EnvD} {σ : L2.St} {X : DXc}
/-! ### methods of lists -/
def isL (x : D) (h : MH) : Prop := match x with
  | .lst _ => True
  | .ref i => ∃ ds, h[i]? = some (.lst ds)
  | _ => False
theorem isL_of (s : Sim c F h H) (r : RelD c F H x v) (w : isL x h) : tyV c.K "list" v H := by
  cases x with
  | lst ds => cases r with
    | lst f e r => exact .inl ⟨rfl, _, SqL.of e⟩
  | ref i =>
    obtain ⟨ds, e⟩ := w
    obtain ⟨a, vs, rfl, _, z, r2⟩ := s.lst r e
    exact .inl ⟨rfl, _, SqL.of z⟩
  | _ => exact w.elim
def dM (o : DOm) (ta : DG D) (t : DG (List D)) : DG D := fun δ h X Q => ta δ h X fun x h1 => isL x h1 ∧ t δ h1 X fun xs h2 => o x xs h2 Q
def dM0 (o : DOm) (ta : DG D) : DG D := fun δ h X Q => ta δ h X fun x h1 => isL x h1 ∧ o x [] h1 Q
theorem s_m {ta : TE} {t : TA} {wa : DG D} {wt : DG (List D)} {r : V → List V → Hp → VK → Prop} {o : DOm} (so : SOm c r o) (sa : SE c W ta wa) (st : SA c W t wt) : SE c W (tBM c.K "list" r ta t) (dM o wa wt) := by
  intro F h H δ σ X Q R s e w x q
  refine sa F h H δ σ X _ _ s e w x fun F1 h1 H1 d1 v1 e1 s1 r1 w1 => ⟨isL_of s1 r1 w1.1, ?_⟩
  refine st F1 h1 H1 δ σ X _ _ s1 (e.ext e1) w1.2 (x.ext e1) fun F2 h2 H2 d2 v2 e2 s2 r2 w2 => ?_
  exact so F2 h2 H2 _ _ _ _ _ _ s2 (r1.ext e2) r2 w2 (q.ext (e1.trans e2))
theorem s_m0 {ta : TE} {wa : DG D} {r : V → List V → Hp → VK → Prop} {o : DOm} (so : SOm c r o) (sa : SE c W ta wa) : SE c W (tBM0 c.K "list" r ta) (dM0 o wa) := by
  intro F h H δ σ X Q R s e w x q
  refine sa F h H δ σ X _ _ s e w x fun F1 h1 H1 d1 v1 e1 s1 r1 w1 => ⟨isL_of s1 r1 w1.1, ?_⟩
  exact so F1 h1 H1 _ _ _ _ _ _ s1 r1 .nil w1.2 (q.ext e1)
def mAppend : DOm := fun x xs h Q => b1 xs fun y => match x with
  | .ref i => ∃ ds, h[i]? = some (.lst ds) ∧ ds.length < sizeLine ∧ ∀ h', h' = h.set i (.lst (ds ++ [y])) → Q .non h'
  | _ => False
theorem setL_ok (s : Sim c F h H) (ha : F.cs[i]? = some a) (r : RelDs c F H ds vs) {x : D} {v : V} (rx : RelD c F H x v) {Q : DK} {R : VK} (w : Q x (h.set i (.lst ds))) (q : QOk c (RelD c) F H Q R) : R v (upd H a (.lst vs)) := by
  have e := Ext.set (H := H) (o := .lst vs) (List.mem_of_getElem? ha)
  exact q F _ _ _ _ e (s.set ha (.lst upd_same (r.ext e))) (rx.ext e) w
theorem so_append : SOm c rAppend mAppend := by
  intro F h H x u xs us Q R s rx r w q
  obtain ⟨y, v, rfl, ry, w⟩ := b1_of r w
  cases x <;> first | exact w.elim | skip
  obtain ⟨ds, e, hl, w⟩ := w
  obtain ⟨a, vs, rfl, ha, z, r2⟩ := s.lst rx e
  exact ⟨_, _, _, rfl, rfl, z, by rw [← r2.len]; exact hl, setL_ok s ha (r2.app (.cons ry .nil)) .non (w _ rfl) q⟩
def mExtend : DOm := fun x xs h Q => b1 xs fun y => match x with
  | .ref i => ∃ ds, h[i]? = some (.lst ds) ∧ wM y h fun es => ds.length + es.length ≤ sizeLine ∧ ∀ h', h' = h.set i (.lst (ds ++ es)) → Q .non h'
  | _ => False
theorem so_extend : SOm c rExtend mExtend := by
  intro F h H x u xs us Q R s rx r w q
  obtain ⟨y, v, rfl, ry, w⟩ := b1_of r w
  cases x <;> first | exact w.elim | skip
  obtain ⟨ds, e, w⟩ := w
  obtain ⟨a, vs, rfl, ha, z, r2⟩ := s.lst rx e
  obtain ⟨b, es, us, rfl, z2, r3, hl, w⟩ := wM_of s ry w
  exact ⟨_, _, _, _, rfl, rfl, z, z2, by rw [← r2.len, ← r3.len]; exact hl, setL_ok s ha (r2.app r3) .non (w _ rfl) q⟩
def mPop : DOm := fun x xs h Q => match xs with
  | [] => match x with
    | .ref i => ∃ ds y, h[i]? = some (.lst ds) ∧ ds[ds.length - 1]? = some y ∧ ∀ h', h' = h.set i (.lst ds.dropLast) → Q y h'
    | _ => False
  | _ => False
theorem so_pop : SOm c rPop mPop := by
  intro F h H x u xs us Q R s rx r w q
  match xs, r, w with
  | [], .nil, w =>
    cases x <;> first | exact w.elim | skip
    obtain ⟨ds, y, e, hl, w⟩ := w
    obtain ⟨a, vs, rfl, ha, z, r2⟩ := s.lst rx e
    obtain ⟨v, hv, ry⟩ := r2.get hl
    exact ⟨_, _, _, rfl, rfl, z, by rw [← r2.len]; exact hv, setL_ok s ha r2.dropLast ry (w _ rfl) q⟩
  | _ :: _, _, w => exact w.elim
inductive IndK (x y : D) (h : MH) (Q : DK) : Prop
  | mk (p : PyData) (ps : List PyData) (j : Nat) (z : PyData) (a : DP h x (.list ps)) (b : DP h y p) (sl : SeqAt.shaped (.list ps) = true) (sd : SeqAt.shaped p = true) (g1 : ps[j]? = some z) (g2 : PyData.eqv z p = true) (g3 : ∀ (m : Nat) (z' : PyData), m < j → ps[m]? = some z' → PyData.eqv z' p = false) (q : Q (.int (j : Nat)) h) : IndK x y h Q
def mIndexD : DOm := fun x xs h Q => b1 xs fun y => IndK x y h Q
theorem so_indexD : SOm c (rIndexD c.K) mIndexD := by
  intro F h H x u xs us Q R s rx r w q
  obtain ⟨y, v, rfl, ry, p, ps, j, z, dx, dy, h1, h2, h3, h4, h5, w⟩ := b1_of r w
  have dx2 := dx.dp s rx
  have hu : ∃ a, u = .ref a := by
    cases dx2 with
    | lst _ _ => exact ⟨_, rfl⟩
  obtain ⟨a, rfl⟩ := hu
  exact ⟨a, _, p, ps, j, z, rfl, rfl, dx2, dy.dp s ry, h1, h2, h3, h4, h5, q.at_ s (.int _) w⟩
/-- t.index(x), t a tuple of texts whose object is known -/
def dIxT (ta : DG D) (t : DG (List D)) : DG D := fun δ h X Q => ta δ h X fun x h1 => (∃ ds, x = .tup true ds) ∧ t δ h1 X fun xs h2 => b1 xs fun y => match x, y with
  | .tup _ ds, .str z => ∃ (ls : List Str) (j : Nat), ds = ls.map .str ∧ ls[j]? = some z ∧ (∀ m, m < j → ls[m]? ≠ some z) ∧ Q (.int (j : Nat)) h2
  | _, _ => False
theorem s_ixT {ta : TE} {t : TA} {wa : DG D} {wt : DG (List D)} (sa : SE c W ta wa) (st : SA c W t wt) : SE c W (tBMT (rdTupIndex c.K) ta t) (dIxT wa wt) := by
  intro F h H δ σ X Q R s e w x q
  refine sa F h H δ σ X _ _ s e w x fun F1 h1 H1 d1 v1 e1 s1 r1 w1 => ?_
  obtain ⟨⟨ds, rfl⟩, w1⟩ := w1
  have r1' := r1
  cases r1 with
  | @tup _ _ a vs t r =>
    refine ⟨?_, ?_⟩
    · cases t with
      | fz f hh z => exact ⟨_, _, _, rfl, hh, z rfl⟩
    refine st F1 h1 H1 δ σ X _ _ s1 (e.ext e1) w1 (x.ext e1) fun F2 h2 H2 d2 v2 e2 s2 r2 w2 => ?_
    obtain ⟨y, v, rfl, ry, w2⟩ := b1_of r2 w2
    cases y <;> first | exact w2.elim | skip
    cases ry
    obtain ⟨ls, j, rfl, g1, g2, w2⟩ := w2
    have e3 := strs_inv r
    subst e3
    exact ⟨_, ls, _, j, rfl, rfl, (t.ext e2).sqT, g1, g2, q F2 h2 H2 _ _ (e1.trans e2) s2 (.int _) w2⟩
/-! ### attributes -/
def getN (f : Nat) : List (Nat × D) → Option D
  | [] => none
  | (n, d) :: r => if n = f then some d else getN f r
def putN (f : Nat) (v : D) : List (Nat × D) → List (Nat × D)
  | [] => [(f, v)]
  | (n, d) :: r => if n = f then (n, v) :: r else (n, d) :: putN f v r
/-- the attributes of an object of the class C -/
def wO (C : Nat) (x : D) (h : MH) (k : List (Nat × D) → Prop) : Prop := match x with
  | .obj C' fs => C' = C ∧ k fs
  | .ref i => ∃ fs, h[i]? = some (.obj C fs) ∧ k fs
  | _ => False
theorem wO_of {C : Nat} {k : List (Nat × D) → Prop} (s : Sim c F h H) (r : RelD c F H x v) (w : wO C x h k) : ∃ a dx fs vs, v = .ref a ∧ H a = some (.ins (c.ca C) dx vs) ∧ RelFs c F H fs vs ∧ k fs := by
  cases x with
  | obj C' fs => cases r with
    | obj f e r => obtain ⟨rfl, w⟩ := w; exact ⟨_, _, _, _, rfl, e, r, w⟩
  | ref i =>
    obtain ⟨ds, e, w⟩ := w
    obtain ⟨a, dx, vs, rfl, _, z, r2⟩ := s.obj r e
    exact ⟨_, _, _, _, rfl, z, r2, w⟩
  | _ => exact w.elim
theorem lk_1 {k : Str} {v : V} {r : List (Str × V)} : List.lookup k ((k, v) :: r) = some v := by simp [List.lookup]
theorem lk_2 {k g : Str} {v : V} {r : List (Str × V)} (h : (k == g) = false) : List.lookup k ((g, v) :: r) = List.lookup k r := by simp only [List.lookup, h]
theorem fn_ne (c : Cc) {n m : Nat} {s t : Str} (h1 : c.fn[n]? = some s) (h2 : c.fn[m]? = some t) (hn : n ≠ m) : s ≠ t := fun e => hn (nodup_at c.nd h1 (e ▸ h2))
theorem getN_rel {f : Nat} {nm : Str} (hf : c.fn[f]? = some nm) : ∀ {fs : List (Nat × D)} {vs : List (Str × V)} {d : D}, RelFs c F H fs vs → getN f fs = some d → ∃ v, vs.lookup nm = some v ∧ RelD c F H d v
  | _, _, _, .nil, h => by cases h
  | _, _, d, @RelFs.cons _ _ _ n s' d' v' _ _ hn r rs, h => by
    unfold getN at h
    by_cases e : n = f
    · subst e
      rw [if_pos rfl] at h
      rw [hf] at hn
      obtain rfl := Option.some.inj hn
      exact ⟨_, lk_1, Option.some.inj h ▸ r⟩
    · rw [if_neg e] at h
      obtain ⟨v, e2, r2⟩ := getN_rel hf rs h
      exact ⟨v, (lk_2 (by simpa using fn_ne c hf hn (Ne.symm e))).trans e2, r2⟩
theorem putN_rel {f : Nat} {nm : Str} (hf : c.fn[f]? = some nm) (rv : RelD c F H d v) : ∀ {fs : List (Nat × D)} {vs : List (Str × V)}, RelFs c F H fs vs → RelFs c F H (putN f d fs) (putF nm v vs)
  | _, _, .nil => .cons hf rv .nil
  | _, _, @RelFs.cons _ _ _ n s' d' v' _ _ hn r rs => by
    unfold putN
    by_cases e : n = f
    · subst e
      rw [if_pos rfl]
      have hn' := hn
      rw [hf] at hn'
      obtain rfl := Option.some.inj hn'
      rw [show putF nm v ((nm, v') :: _) = (nm, v) :: _ from if_pos rfl]
      exact .cons hn rv rs
    · rw [if_neg e]
      have ne := fn_ne c hf hn (Ne.symm e)
      rw [show putF nm v ((s', v') :: _) = (s', v') :: putF nm v _ from if_neg (fun z => ne z.symm)]
      exact .cons hn r (putN_rel hf rv rs)
theorem noN_rel {m : Str} (hm : m ∉ c.fn) : ∀ {fs : List (Nat × D)} {vs : List (Str × V)}, RelFs c F H fs vs → vs.lookup m = none
  | _, _, .nil => rfl
  | _, _, .cons hn r rs => (lk_2 (by simpa using fun z : m = _ => hm (z ▸ List.mem_of_getElem? hn))).trans (noN_rel hm rs)
def dFld (C : Nat) (ta : DG D) (f : Nat) : DG D := fun δ h X Q => ta δ h X fun x h1 => wO C x h1 fun fs => ∃ d, getN f fs = some d ∧ Q d h1
theorem s_fld {C f : Nat} {nm : Str} {ta : TE} {wa : DG D} (hf : c.fn[f]? = some nm) (cl : Cls c.K (c.ca C)) (na : NoAttr c.K (c.ca C) nm) (sa : SE c W ta wa) : SE c W (tFld c.K ta nm) (dFld C wa f) := by
  intro F h H δ σ X Q R s e w x q
  refine sa F h H δ σ X _ _ s e w x fun F1 h1 H1 d1 v1 e1 s1 r1 w1 => ?_
  obtain ⟨a, dx, fs, vs, rfl, e2, rf, d, g, w1⟩ := wO_of s1 r1 w1
  obtain ⟨v, lv, rv⟩ := getN_rel hf rf g
  exact ⟨a, _, dx, vs, v, rfl, e2, cl, na, lv, q F1 h1 H1 _ _ e1 s1 rv w1⟩
/-! ### statements -/
structure DEnds where
  nx : EnvD → MH → Prop
  rt : DK
  bk : EnvD → MH → Prop
  ct : EnvD → MH → Prop
  ex : EnvD → Exn → MH → Prop
abbrev DS := DEnds → EnvD → MH → Prop
def NOk (c : Cc) (F : Fs) (H : Hp) (N : EnvD → MH → Prop) (R : L2.St → Hp → Prop) : Prop := ∀ F' h' H' δ' σ', Ext F H F' H' → Sim c F' h' H' → RelE c F' H' δ' σ' → N δ' h' → R σ' H'
structure EOk (c : Cc) (W : WX) (F : Fs) (H : Hp) (DD : DEnds) (D : Ends) : Prop where
  nx : NOk c F H DD.nx D.nx
  rt : QOk c (RelD c) F H DD.rt D.rt
  bk : NOk c F H DD.bk D.bk
  ct : NOk c F H DD.ct D.ct
  ex : ∀ F' h' H' δ' σ' e ty dx, Ext F H F' H' → Sim c F' h' H' → RelE c F' H' δ' σ' → DD.ex δ' e h' → RelX c F' H' e ty dx → W ty dx σ' H'
def SS (c : Cc) (W : WX) (t : TS) (w : DS) : Prop := ∀ F h H δ σ DD D, Sim c F h H → RelE c F H δ σ → w DD δ h → EOk c W F H DD D → t D σ H
theorem NOk.ext {N : EnvD → MH → Prop} {R : L2.St → Hp → Prop} (q : NOk c F H N R) (e : Ext F H F' H') : NOk c F' H' N R := fun F2 h2 H2 a b g => q F2 h2 H2 a b (e.trans g)
theorem NOk.at_ {N : EnvD → MH → Prop} {R : L2.St → Hp → Prop} (q : NOk c F H N R) (s : Sim c F h H) (e : RelE c F H δ σ) (w : N δ h) : R σ H := q F h H δ σ (Ext.refl F H) s e w
theorem EOk.ext {DD : DEnds} {D : Ends} (q : EOk c W F H DD D) (e : Ext F H F' H') : EOk c W F' H' DD D := ⟨q.nx.ext e, q.rt.ext e, q.bk.ext e, q.ct.ext e, fun F2 h2 H2 a b x ty dx g => q.ex F2 h2 H2 a b x ty dx (e.trans g)⟩
theorem EOk.xk {DD : DEnds} {D : Ends} (q : EOk c W F H DD D) (e : RelE c F H δ σ) : XOk c W F H σ (DD.ex δ) := fun F2 h2 H2 x ty dx g s w r => q.ex F2 h2 H2 δ σ x ty dx g s (e.ext g) w r
def dNext : DS := fun DD δ h => DD.nx δ h
theorem s_next : SS c W tNext dNext := fun F h H δ σ DD D s e w q => q.nx.at_ s e w
def dBreak : DS := fun DD δ h => DD.bk δ h
theorem s_break : SS c W tBreak dBreak := fun F h H δ σ DD D s e w q => q.bk.at_ s e w
def dCont : DS := fun DD δ h => DD.ct δ h
theorem s_cont : SS c W tCont dCont := fun F h H δ σ DD D s e w q => q.ct.at_ s e w
def DEnds.nxt (DD : DEnds) (N : EnvD → MH → Prop) : DEnds := { DD with nx := N }
def DEnds.loop (DD : DEnds) (N : EnvD → MH → Prop) : DEnds := { DD with nx := N, ct := N, bk := DD.nx }
def dSeq (t u : DS) : DS := fun DD δ h => t (DD.nxt (u DD)) δ h
theorem s_seq {t u : TS} {wt wu : DS} (st : SS c W t wt) (su : SS c W u wu) : SS c W (tSeq t u) (dSeq wt wu) := fun F h H δ σ DD D s e w q =>
  st F h H δ σ _ _ s e w ⟨fun F1 h1 H1 d1 v1 e1 s1 r1 w1 => su F1 h1 H1 d1 v1 _ _ s1 r1 w1 (q.ext e1), q.rt, q.bk, q.ct, q.ex⟩
def dRet (ta : DG D) : DS := fun DD δ h => ta δ h (DD.ex δ) DD.rt
theorem s_ret {ta : TE} {wa : DG D} (sa : SE c W ta wa) : SS c W (tRet ta) (dRet wa) := fun F h H δ σ DD D s e w q => sa F h H δ σ _ _ _ s e w (q.xk e) q.rt
def dRetN : DS := fun DD δ h => DD.rt .non h
theorem s_retN : SS c W tRetN dRetN := fun F h H δ σ DD D s e w q => q.rt.at_ s .non w
def dDrop (ta : DG D) : DS := fun DD δ h => ta δ h (DD.ex δ) fun _ h1 => DD.nx δ h1
theorem s_drop {ta : TE} {wa : DG D} (sa : SE c W ta wa) : SS c W (tDrop ta) (dDrop wa) := fun F h H δ σ DD D s e w q => sa F h H δ σ _ _ _ s e w (q.xk e) fun F1 h1 H1 d1 v1 e1 s1 r1 w1 => q.nx F1 h1 H1 δ σ e1 s1 (e.ext e1) w1
def dIfS (t : DG Bool) (a b : DS) : DS := fun DD δ h => t δ h (DD.ex δ) fun k h1 => ifd k (a DD δ h1) (b DD δ h1)
theorem s_ifS {t : TT} {ta tb : TS} {wt : DG Bool} {wa wb : DS} (st : ST c W t wt) (sa : SS c W ta wa) (sb : SS c W tb wb) : SS c W (tIfS t ta tb) (dIfS wt wa wb) := by
  intro F h H δ σ DD D s e w q
  refine st F h H δ σ _ _ _ s e w (q.xk e) fun F1 h1 H1 d1 v1 e1 s1 r1 w1 => ?_
  have r1 : d1 = v1 := r1
  subst r1
  exact ifd_ok w1 (fun w2 => sa F1 h1 H1 δ σ _ _ s1 (e.ext e1) w2 (q.ext e1)) fun w2 => sb F1 h1 H1 δ σ _ _ s1 (e.ext e1) w2 (q.ext e1)
/-! ### targets -/
abbrev DTg := D → EnvD → MH → (EnvD → MH → Prop) → Prop
abbrev DTgs := List D → EnvD → MH → (EnvD → MH → Prop) → Prop
def STg (c : Cc) (t : TG) (w : DTg) : Prop := ∀ F h H δ σ x u N R, Sim c F h H → RelE c F H δ σ → RelD c F H x u → w x δ h N → NOk c F H N R → t u σ H R
def STgs (c : Cc) (t : TGs) (w : DTgs) : Prop := ∀ F h H δ σ x u N R, Sim c F h H → RelE c F H δ σ → RelDs c F H x u → w x δ h N → NOk c F H N R → t u σ H R
def noX : DXc := fun _ _ => False
def noW : WX := fun _ _ _ _ => False
theorem noX_ok : XOk c W F H σ noX := fun _ _ _ _ _ _ _ _ z => z.elim
def gdName (i : Nat) : DTg := fun x δ h N => N (st δ i x) h
theorem s_gname : STg c (gName i) (gdName i) := fun F h H δ σ x u N R s e r w q => q.at_ s (e.st r i) w
def gdNil : DTgs := fun xs δ h N => match xs with
  | [] => N δ h
  | _ => False
theorem s_gnil : STgs c gNil gdNil := fun F h H δ σ x u N R s e r w q => by
  match x, r, w with
  | [], .nil, w => exact ⟨rfl, q.at_ s e w⟩
def gdCons (g : DTg) (t : DTgs) : DTgs := fun xs δ h N => match xs with
  | x :: r => g x δ h fun δ1 h1 => t r δ1 h1 N
  | _ => False
theorem s_gcons {g : TG} {wg : DTg} {t : TGs} {w : DTgs} (sg : STg c g wg) (st : STgs c t w) : STgs c (gCons g t) (gdCons wg w) := fun F h H δ σ x u N R s e r w q => by
  match x, r, w with
  | _ :: _, .cons r rs, w =>
    refine ⟨_, _, rfl, sg F h H _ _ _ _ _ _ s e r w fun F1 h1 H1 d1 v1 e1 s1 r1 w1 => ?_⟩
    exact st F1 h1 H1 _ _ _ _ N R s1 r1 (rs.ext e1) w1 (q.ext e1)
def gdTup (n : Nat) (t : DTgs) : DTg := fun x δ h N => wT x fun ds => ds.length = n ∧ t ds δ h N
theorem s_gtup {t : TGs} {w : DTgs} {n : Nat} (st : STgs c t w) : STg c (gTup c.K n t) (gdTup n w) := fun F h H δ σ x u N R s e r w q => by
  obtain ⟨a, ds, vs, rfl, sq, rs, ⟨hn, w⟩, _⟩ := wT_of r w
  exact ⟨_, _, rfl, sq, by rw [← rs.len]; exact hn, st F h H δ σ ds vs N R s e rs w q⟩
def gdUnl (n : Nat) (t : DTgs) : DTg := fun x δ h N => wL x h fun ds => ds.length = n ∧ t ds δ h N
theorem s_gunl {t : TGs} {w : DTgs} {n : Nat} (st : STgs c t w) : STg c (gUnl c.K n t) (gdUnl n w) := fun F h H δ σ x u N R s e r w q => by
  obtain ⟨a, ds, vs, rfl, sq, rs, hn, w⟩ := wL_of s r w
  exact ⟨_, _, rfl, sq, by rw [← rs.len]; exact hn, st F h H δ σ ds vs N R s e rs w q⟩
/-- one place of a list is set -/
def setK (o i v : D) (h : MH) (N : MH → Prop) : Prop := match o, i with
  | .ref n, .int k => ∃ ds j, h[n]? = some (.lst ds) ∧ ixN ds.length k = some j ∧ ∀ h', h' = h.set n (.lst (ds.set j v)) → N h'
  | _, _ => False
theorem setK_ok {o i v : D} {uo ui uv : V} {N : MH → Prop} {R : Hp → Prop} (s : Sim c F h H) (ro : RelD c F H o uo) (ri : RelD c F H i ui) (rv : RelD c F H v uv) (w : setK o i v h N) (q : ∀ h' H', Ext F H F H' → Sim c F h' H' → N h' → R H') : rSetL uo ui uv H R := by
  cases o <;> first | exact w.elim | skip
  cases i <;> first | exact w.elim | skip
  cases ri
  obtain ⟨ds, j, e, hj, w⟩ := w
  obtain ⟨a, vs, rfl, ha, z, r2⟩ := s.lst ro e
  have ex := Ext.set (H := H) (o := .lst (vs.set j uv)) (List.mem_of_getElem? ha)
  exact ⟨a, vs, _, j, rfl, rfl, z, by rw [← r2.len]; exact hj, q _ _ ex (s.set ha (.lst upd_same ((r2.set j rv).ext ex))) (w _ rfl)⟩
def gdSub (to ti : DG D) : DTg := fun v δ h N => to δ h noX fun o h1 => ti δ h1 noX fun i h2 => setK o i v h2 fun h3 => N δ h3
theorem s_gsub {to ti : TE} {wo wi : DG D} (so : SE c W to wo) (si : SE c W ti wi) : STg c (gSub to ti rSetL) (gdSub wo wi) := fun F h H δ σ x u N R s e r w q => by
  refine so F h H δ σ noX _ _ s e w noX_ok fun F1 h1 H1 d1 v1 e1 s1 r1 w1 => ?_
  refine si F1 h1 H1 δ σ noX _ _ s1 (e.ext e1) w1 noX_ok fun F2 h2 H2 d2 v2 e2 s2 r2 w2 => ?_
  have e12 := e1.trans e2
  exact setK_ok s2 (r1.ext e2) r2 (r.ext e12) w2 fun h3 H3 e3 s3 w3 => q F2 h3 H3 _ _ (e12.trans e3) s3 (e.ext (e12.trans e3)) w3
def dAsg (ta : DG D) (g : DTg) : DS := fun DD δ h => ta δ h (DD.ex δ) fun x h1 => g x δ h1 fun δ2 h2 => DD.nx δ2 h2
theorem s_asg {ta : TE} {wa : DG D} {g : TG} {wg : DTg} (sa : SE c W ta wa) (sg : STg c g wg) : SS c W (tAsg ta g) (dAsg wa wg) := by
  intro F h H δ σ DD D s e w q
  refine sa F h H δ σ _ _ _ s e w (q.xk e) fun F1 h1 H1 d1 v1 e1 s1 r1 w1 => ?_
  exact sg F1 h1 H1 δ σ _ _ _ _ s1 (e.ext e1) r1 w1 (q.nx.ext e1)
def dPar (i j : Nat) (ta : DG (List D)) : DS := fun DD δ h => ta δ h (DD.ex δ) fun xs h1 => b2 xs fun x y => DD.nx (st (st δ i x) j y) h1
theorem s_par {t : TA} {wa : DG (List D)} (sa : SA c W t wa) : SS c W (tPar i j t) (dPar i j wa) := by
  intro F h H δ σ DD D s e w q
  refine sa F h H δ σ _ _ _ s e w (q.xk e) fun F1 h1 H1 d1 v1 e1 s1 r1 w1 => ?_
  obtain ⟨x, y, u, v, rfl, rx, ry, w1⟩ := b2_of r1 w1
  exact ⟨u, v, rfl, q.nx F1 h1 H1 _ _ e1 s1 (((e.ext e1).st rx i).st ry j) w1⟩
def dAug (i : Nat) (f : Int → Int → Int) (ta : DG D) : DS := fun DD δ h => match lk δ i with
  | some x => ta δ h (DD.ex δ) fun y h1 => oI0 (fun a b => .int (f a b)) x y h1 fun z h2 => DD.nx (st δ i z) h2
  | none => False
theorem s_aug {ta : TE} {wa : DG D} {f : Int → Int → Int} (sa : SE c W ta wa) : SS c W (tAug i ta (ipI f)) (dAug i f wa) := by
  intro F h H δ σ DD D s e w q
  unfold dAug at w
  cases hk : lk δ i with
  | none => rw [hk] at w; exact w.elim
  | some d =>
    rw [hk] at w
    obtain ⟨v, hv, r⟩ := e.2 i d hk
    refine ⟨v, hv, sa F h H δ σ _ _ _ s e w (q.xk e) fun F1 h1 H1 d1 v1 e1 s1 r1 w1 => ?_⟩
    have r' := r.ext e1
    cases d <;> first | exact w1.elim | skip
    cases d1 <;> first | exact w1.elim | skip
    cases r'; cases r1
    exact ⟨_, _, rfl, rfl, q.nx F1 h1 H1 _ _ e1 s1 ((e.ext e1).st (.int _) i) w1⟩
/-- o.f = e -/
def setO (C : Nat) (x : D) (f : Nat) (v : D) (h : MH) (N : MH → Prop) : Prop := match x with
  | .ref n => ∃ fs, h[n]? = some (.obj C fs) ∧ fs.length < 1000 ∧ ∀ h', h' = h.set n (.obj C (putN f v fs)) → N h'
  | _ => False
def dSetF (C : Nat) (ta : DG D) (f : Nat) (tv : DG D) : DS := fun DD δ h => tv δ h (DD.ex δ) fun y h1 => ta δ h1 (DD.ex δ) fun x h2 => setO C x f y h2 fun h3 => DD.nx δ h3
theorem s_setF {C f : Nat} {nm : Str} {ta tv : TE} {wa wv : DG D} (hf : c.fn[f]? = some nm) (cl : Cls c.K (c.ca C)) (na : NoAttr c.K (c.ca C) nm) (sa : SE c W ta wa) (sv : SE c W tv wv) : SS c W (sFld c.K ta tv nm) (dSetF C wa f wv) := by
  intro F h H δ σ DD D s e w q
  refine sv F h H δ σ _ _ _ s e w (q.xk e) fun F1 h1 H1 d1 v1 e1 s1 r1 w1 => ?_
  refine sa F1 h1 H1 δ σ _ _ _ s1 (e.ext e1) w1 ((q.xk e).ext e1) fun F2 h2 H2 d2 v2 e2 s2 r2 w2 => ?_
  cases d2 <;> first | exact w2.elim | skip
  obtain ⟨fs, eo, hl, w2⟩ := w2
  obtain ⟨a, dx, vs, rfl, ha, z, rf⟩ := s2.obj r2 eo
  have ex := Ext.set (H := H2) (o := .ins (c.ca C) dx (putF nm v1 vs)) (List.mem_of_getElem? ha)
  refine ⟨a, _, dx, vs, rfl, z, cl, na, by rw [← rf.len]; exact hl, ?_⟩
  have e12 := (e1.trans e2).trans ex
  exact q.nx F2 _ _ _ _ e12 (s2.set ha (.obj upd_same ((putN_rel hf (r1.ext e2) rf).ext ex))) (e.ext e12) (w2 _ rfl)
/-- o.f += e, ints -/
def dAugF (C : Nat) (ta : DG D) (f : Nat) (g : Int → Int → Int) (tv : DG D) : DS := fun DD δ h => ta δ h (DD.ex δ) fun x h1 => match x with
  | .ref n => ∃ fs i, h1[n]? = some (.obj C fs) ∧ getN f fs = some (.int i) ∧ tv δ h1 (DD.ex δ) fun y h2 => match y with
    | .int j => ∃ fs2, h2[n]? = some (.obj C fs2) ∧ fs2.length < 1000 ∧ ∀ h', h' = h2.set n (.obj C (putN f (.int (g i j)) fs2)) → DD.nx δ h'
    | _ => False
  | _ => False
theorem s_augF {C f : Nat} {nm : Str} {g : Int → Int → Int} {rd : V → V → Hp → VK → Prop} {ta tv : TE} {wa wv : DG D} (hrd : rd = fun x y H Q => ∃ i j, x = .int i ∧ y = .int j ∧ Q (.int (g i j)) H) (hf : c.fn[f]? = some nm) (cl : Cls c.K (c.ca C)) (na : NoAttr c.K (c.ca C) nm)
    (sa : SE c W ta wa) (sv : SE c W tv wv) : SS c W (sFldAug c.K ta tv rd nm) (dAugF C wa f g wv) := by
  subst hrd
  intro F h H δ σ DD D s e w q
  refine sa F h H δ σ _ _ _ s e w (q.xk e) fun F1 h1 H1 d1 v1 e1 s1 r1 w1 => ?_
  cases d1 <;> first | exact w1.elim | skip
  obtain ⟨fs, i, eo, eg, w1⟩ := w1
  obtain ⟨a, dx, vs, rfl, ha, z, rf⟩ := s1.obj r1 eo
  obtain ⟨v0, lv, r0⟩ := getN_rel hf rf eg
  refine ⟨a, _, dx, vs, v0, rfl, z, cl, na, lv, ?_⟩
  refine sv F1 h1 H1 δ σ _ _ _ s1 (e.ext e1) w1 ((q.xk e).ext e1) fun F2 h2 H2 d2 v2 e2 s2 r2 w2 => ?_
  cases d2 <;> first | exact w2.elim | skip
  obtain ⟨fs2, eo2, hl, w2⟩ := w2
  obtain ⟨a2, dx2, vs2, ea, ha2, z2, rf2⟩ := s2.obj (r1.ext e2) eo2
  obtain rfl := V.ref.inj ea
  refine ⟨_, _, r0.int_inv, r2.int_inv, dx2, vs2, z2, by rw [← rf2.len]; exact hl, ?_⟩
  have ex : ∀ o, Ext F2 H2 F2 (upd H2 a o) := fun o => Ext.set (List.mem_of_getElem? ha2)
  exact q.nx F2 _ _ _ _ ((e1.trans e2).trans (ex _)) (s2.set ha2 (.obj upd_same ((putN_rel hf (.int _) rf2).ext (ex _)))) (e.ext ((e1.trans e2).trans (ex _))) (w2 _ rfl)
end
end Dv
/-! loops, comprehensions -/
namespace Dv
open PySem PySem.Spec PyProof.Rows L2 Sf
section
variable {c : Cc} {W : WX} {F F' F'' : Fs} {h h' : MH} {H H' H'' : Hp} {a l : Addr} {o : HO} {d x y : D} {ds es : List D} {v u : V} {vs us : List V} {i j : Nat} {k : Bool} {δ : EnvD} {σ : L2.St} {X : DXc}
/-- the items, and what must stand at each turn -/
abbrev DIt := EnvD → MH → DXc → (List D → (MH → Prop) → MH → Prop) → Prop
def ItOk (c : Cc) (J : It) (F1 : Fs) (H1 : Hp) (xs : List D) (ok : MH → Prop) : Prop :=
  ∀ F h H, Tr F1 H1 F H → Sim c F h H → ok h → (∀ i x, xs[i]? = some x → J.go i H ∧ ∀ u H', J.yld i H u H' → Ext F H F H' ∧ Sim c F h H' ∧ RelD c F H' x u) ∧ ∀ i, xs.length ≤ i → J.stop i H
def SI (c : Cc) (W : WX) (t : TI) (w : DIt) : Prop := ∀ F h H δ σ X N R, Sim c F h H → RelE c F H δ σ → w δ h X N → XOk c W F H σ X →
  (∀ F' h' H' xs ok J, Ext F H F' H' → Sim c F' h' H' → ItOk c J F' H' xs ok → N xs ok h' → R J H') → t σ H R
abbrev okT : MH → Prop := fun _ => True
/-- a list's items -/
def wI (x : D) (h : MH) (N : List D → (MH → Prop) → MH → Prop) : Prop := match x with
  | .lst ds => N ds okT h
  | .ref i => ∃ ds, h[i]? = some (.lst ds) ∧ N ds (fun h' => h'[i]? = some (.lst ds)) h
  | .scr ns => N (ns.map .int) okT h
  | _ => False
theorem wI_of {N : List D → (MH → Prop) → MH → Prop} (s : Sim c F h H) (r : RelD c F H x v) (w : wI x h N) :
    ∃ a ds vs ok, v = .ref a ∧ SqL c.K H a vs ∧ RelDs c F H ds vs ∧ N ds ok h ∧ ∀ F' h' H', Tr F H F' H' → Sim c F' h' H' → ok h' → ∃ vs', SqL c.K H' a vs' ∧ RelDs c F' H' ds vs' := by
  cases x with
  | lst ds => cases r with
    | lst f e r => exact ⟨_, _, _, _, rfl, SqL.of e, r, w, fun F' h' H' e2 s2 _ => ⟨_, SqL.of (e2.fr _ _ e f).1, r.tr e2⟩⟩
  | ref i =>
    obtain ⟨ds, e, w⟩ := w
    obtain ⟨a, vs, rfl, _, z, r2⟩ := s.lst r e
    refine ⟨_, _, _, _, rfl, SqL.of z, r2, w, fun F' h' H' e2 s2 ok => ?_⟩
    obtain ⟨b, vs', eb, _, z', r3⟩ := s2.lst (r.tr e2) ok
    obtain rfl := V.ref.inj eb
    exact ⟨_, SqL.of z', r3⟩
  | scr ns => cases r with
    | scr q => exact ⟨_, _, _, _, rfl, q.sqL, RelDs.ints ns, w, fun F' h' H' e2 s2 _ => ⟨_, (q.tr e2).sqL, RelDs.ints ns⟩⟩
  | _ => exact w.elim
def iL (ta : DG D) : DIt := fun δ h X N => ta δ h X fun x h1 => wI x h1 N
theorem s_iL {ta : TE} {wa : DG D} (sa : SE c W ta wa) : SI c W (iList c.K ta) (iL wa) := by
  intro F h H δ σ X N R s e w x q
  refine sa F h H δ σ X _ _ s e w x fun F1 h1 H1 d1 v1 e1 s1 r1 w1 => ?_
  obtain ⟨a, ds, vs, ok, rfl, sq, rs, w1, st⟩ := wI_of s1 r1 w1
  refine ⟨a, rfl, ⟨_, sq⟩, q F1 h1 H1 ds ok _ e1 s1 (fun F2 h2 H2 e2 s2 k => ?_) w1⟩
  obtain ⟨vs', sq', rs'⟩ := st F2 h2 H2 e2 s2 k
  refine ⟨fun i x hx => ?_, fun i hi => ⟨_, sq', by rw [← rs'.len]; exact hi⟩⟩
  obtain ⟨z, hz, rz⟩ := rs'.get hx
  refine ⟨⟨_, _, sq', hz⟩, fun u H' y => ?_⟩
  obtain ⟨rfl, y⟩ := y
  have e3 := y _ sq'
  rw [hz] at e3
  obtain rfl := Option.some.inj e3
  exact ⟨Ext.refl _ _, s2, rz⟩
def iT (ta : DG D) : DIt := fun δ h X N => ta δ h X fun x h1 => wT x fun ds => N ds okT h1
theorem s_iT {ta : TE} {wa : DG D} (sa : SE c W ta wa) : SI c W (iTup c.K ta) (iT wa) := by
  intro F h H δ σ X N R s e w x q
  refine sa F h H δ σ X _ _ s e w x fun F1 h1 H1 d1 v1 e1 s1 r1 w1 => ?_
  obtain ⟨a, ds, vs, rfl, sq, rs, w1, b, _, t⟩ := wT_of r1 w1
  refine ⟨a, rfl, ⟨_, sq⟩, q F1 h1 H1 ds _ _ e1 s1 (fun F2 h2 H2 e2 s2 k => ?_) w1⟩
  have sq' := (t.tr e2).sqT
  have rs' := rs.tr e2
  refine ⟨fun i x hx => ?_, fun i hi => ⟨_, sq', by rw [← rs'.len]; exact hi⟩⟩
  obtain ⟨z, hz, rz⟩ := rs'.get hx
  refine ⟨⟨_, _, sq', hz⟩, fun u H' y => ?_⟩
  obtain ⟨rfl, y⟩ := y
  have e3 := y _ sq'
  rw [hz] at e3
  obtain rfl := Option.some.inj e3
  exact ⟨Ext.refl _ _, s2, rz⟩
def rngD (lo : Int) (n : Nat) : List D := (List.range n).map fun (k : Nat) => D.int (lo + (k : Int))
theorem rngD_len (lo : Int) (n : Nat) : (rngD lo n).length = n := by simp [rngD]
theorem rngD_get {lo : Int} {n i : Nat} {x : D} (h : (rngD lo n)[i]? = some x) : i < n ∧ x = .int (lo + (i : Int)) := by
  have hl := (List.getElem?_eq_some_iff.mp h).1
  rw [rngD_len] at hl
  refine ⟨hl, ?_⟩
  unfold rngD at h
  rw [List.getElem?_map, List.getElem?_range hl] at h
  exact (Option.some.inj h).symm
theorem rng_ok {F1 : Fs} {H1 : Hp} (lo : Int) (n : Nat) : ItOk c (Itr lo n) F1 H1 (rngD lo n) okT := fun F2 h2 H2 e2 s2 k => by
  refine ⟨fun i x hx => ?_, fun i hi => by rw [rngD_len] at hi; exact hi⟩
  obtain ⟨hi, rfl⟩ := rngD_get hx
  refine ⟨hi, fun u H' y => ?_⟩
  obtain ⟨rfl, rfl⟩ := y
  exact ⟨Ext.refl _ _, s2, .int _⟩
def iR1 (ta : DG (List D)) : DIt := fun δ h X N => ta δ h X fun xs h1 => b1 xs fun x => match x with
  | .int j => -(2 ^ 62) ≤ j ∧ j < 2 ^ 62 ∧ N (rngD 0 j.toNat) okT h1
  | _ => False
theorem s_iR1 {t : TA} {wa : DG (List D)} (sa : SA c W t wa) : SI c W (iRng1 t) (iR1 wa) := by
  intro F h H δ σ X N R s e w x q
  refine sa F h H δ σ X _ _ s e w x fun F1 h1 H1 d1 v1 e1 s1 r1 w1 => ?_
  obtain ⟨y, u, rfl, ry, w1⟩ := b1_of r1 w1
  cases y <;> first | exact w1.elim | skip
  cases ry
  exact ⟨_, rfl, w1.1, w1.2.1, q F1 h1 H1 _ _ _ e1 s1 (rng_ok 0 _) w1.2.2⟩
def iR2 (ta : DG (List D)) : DIt := fun δ h X N => ta δ h X fun xs h1 => b2 xs fun x y => match x, y with
  | .int i, .int j => (-(2 ^ 62) ≤ i ∧ i < 2 ^ 62 ∧ -(2 ^ 62) ≤ j ∧ j < 2 ^ 62) ∧ N (rngD i (j - i).toNat) okT h1
  | _, _ => False
theorem s_iR2 {t : TA} {wa : DG (List D)} (sa : SA c W t wa) : SI c W (iRng2 t) (iR2 wa) := by
  intro F h H δ σ X N R s e w x q
  refine sa F h H δ σ X _ _ s e w x fun F1 h1 H1 d1 v1 e1 s1 r1 w1 => ?_
  obtain ⟨y, z, u, v, rfl, ry, rz, w1⟩ := b2_of r1 w1
  cases y <;> first | exact w1.elim | skip
  cases z <;> first | exact w1.elim | skip
  cases ry; cases rz
  exact ⟨_, _, rfl, w1.1, q F1 h1 H1 _ _ _ e1 s1 (rng_ok _ _) w1.2⟩
def rngC (lo st : Int) (n : Nat) : List D := (List.range n).map fun (k : Nat) => D.int (lo + (k : Int) * st)
/-- range(i, j, -1) -/
def iR3 (ta : DG (List D)) : DIt := fun δ h X N => ta δ h X fun xs h1 => match xs with
  | [.int i, .int j, .int k] => ∃ n, RgC i j k n ∧ N (rngC i k n) okT h1
  | _ => False
theorem rngC_len (lo st : Int) (n : Nat) : (rngC lo st n).length = n := by simp [rngC]
theorem s_iR3 {t : TA} {wa : DG (List D)} (sa : SA c W t wa) : SI c W (iRng3 t) (iR3 wa) := by
  intro F h H δ σ X N R s e w x q
  refine sa F h H δ σ X _ _ s e w x fun F1 h1 H1 d1 v1 e1 s1 r1 w1 => ?_
  split at w1
  · rename_i i j k
    obtain ⟨n, hn, w1⟩ := w1
    cases r1 with
    | cons ra r1 => cases r1 with
      | cons rb r1 => cases r1 with
        | cons rc r1 =>
          cases r1; cases ra; cases rb; cases rc
          refine ⟨_, _, _, n, rfl, hn, q F1 h1 H1 _ _ _ e1 s1 (fun F2 h2 H2 e2 s2 _ => ⟨fun a x hx => ?_, fun a ha => by rw [rngC_len] at ha; exact ha⟩) w1⟩
          have hl := (List.getElem?_eq_some_iff.mp hx).1
          rw [rngC_len] at hl
          unfold rngC at hx
          rw [List.getElem?_map, List.getElem?_range hl] at hx
          obtain rfl := Option.some.inj hx
          refine ⟨hl, fun u H' y => ?_⟩
          obtain ⟨rfl, rfl⟩ := y
          exact ⟨Ext.refl _ _, s2, .int _⟩
  · exact w1.elim
/-- reversed(list) -/
def iRv (ta : DG (List D)) : DIt := fun δ h X N => ta δ h X fun xs h1 => b1 xs fun x => wI x h1 fun ds ok h2 => N ds.reverse ok h2
theorem s_iRv {t : TA} {wa : DG (List D)} (sa : SA c W t wa) : SI c W (iRev c.K t) (iRv wa) := by
  intro F h H δ σ X N R s e w x q
  refine sa F h H δ σ X _ _ s e w x fun F1 h1 H1 d1 v1 e1 s1 r1 w1 => ?_
  obtain ⟨y, u, rfl, ry, w1⟩ := b1_of r1 w1
  obtain ⟨a, ds, vs, ok, rfl, sq, rs, w1, st⟩ := wI_of s1 ry w1
  refine ⟨a, vs, rfl, sq, q F1 h1 H1 _ ok _ e1 s1 (fun F2 h2 H2 e2 s2 k => ?_) w1⟩
  obtain ⟨vs', sq', rs'⟩ := st F2 h2 H2 e2 s2 k
  have ln : vs'.length = vs.length := by rw [← rs'.len, ← rs.len]
  refine ⟨fun i x hx => ?_, fun i hi => by rw [List.length_reverse, rs.len] at hi; exact hi⟩
  have hl := (List.getElem?_eq_some_iff.mp hx).1
  rw [List.length_reverse] at hl
  rw [List.getElem?_reverse hl] at hx
  obtain ⟨z, hz, rz⟩ := rs'.get hx
  have e5 : ds.length - 1 - i = vs.length - 1 - i := by rw [rs.len]
  rw [e5] at hz
  refine ⟨⟨by rw [← rs.len]; exact hl, _, _, sq', hz⟩, fun u H' y => ?_⟩
  obtain ⟨rfl, y⟩ := y
  have e3 := y _ sq'
  rw [hz] at e3
  obtain rfl := Option.some.inj e3
  exact ⟨Ext.refl _ _, s2, rz⟩
/-- enumerate(list) -/
def iEn (ta : DG (List D)) : DIt := fun δ h X N => ta δ h X fun xs h1 => b1 xs fun x => wI x h1 fun ds ok h2 => N (ds.mapIdx fun i d => .tup false [.int (i : Int), d]) ok h2
theorem s_iEn {t : TA} {wa : DG (List D)} (sa : SA c W t wa) : SI c W (iEnum c.K t) (iEn wa) := by
  intro F h H δ σ X N R s e w x q
  refine sa F h H δ σ X _ _ s e w x fun F1 h1 H1 d1 v1 e1 s1 r1 w1 => ?_
  obtain ⟨y, u, rfl, ry, w1⟩ := b1_of r1 w1
  obtain ⟨a, ds, vs, ok, rfl, sq, rs, w1, st⟩ := wI_of s1 ry w1
  refine ⟨a, vs, rfl, sq, q F1 h1 H1 _ ok _ e1 s1 (fun F2 h2 H2 e2 s2 k => ?_) w1⟩
  obtain ⟨vs', sq', rs'⟩ := st F2 h2 H2 e2 s2 k
  refine ⟨fun i x hx => ?_, fun i hi => ⟨_, sq', by rw [List.length_mapIdx] at hi; rw [← rs'.len]; exact hi⟩⟩
  rw [List.getElem?_mapIdx] at hx
  cases hd : ds[i]? with
  | none => rw [hd] at hx; cases hx
  | some d0 =>
    rw [hd] at hx
    obtain rfl := Option.some.inj hx
    obtain ⟨z, hz, rz⟩ := rs'.get hd
    refine ⟨⟨_, _, sq', hz⟩, fun u H' y => ?_⟩
    obtain ⟨T, x, rfl, hT, rfl, y⟩ := y
    have e3 := y _ sq'
    rw [hz] at e3
    obtain rfl := Option.some.inj e3
    exact ⟨Ext.new hT, s2.new hT, .tup (.rd ⟨s2.out hT, s2.nbl hT⟩ upd_same) (.cons (.int _) (.cons (rz.ext (Ext.new hT)) .nil))⟩
/-- zip(list, list) -/
def iZp (ta : DG (List D)) : DIt := fun δ h X N => ta δ h X fun xs h1 => b2 xs fun x y => wI x h1 fun ds ok h2 => wI y h2 fun es ok2 h3 => N ((ds.zip es).map fun p => .tup false [p.1, p.2]) (fun h => ok h ∧ ok2 h) h3
theorem s_iZp {t : TA} {wa : DG (List D)} (sa : SA c W t wa) : SI c W (iZip c.K t) (iZp wa) := by
  intro F h H δ σ X N R s e w x q
  refine sa F h H δ σ X _ _ s e w x fun F1 h1 H1 d1 v1 e1 s1 r1 w1 => ?_
  obtain ⟨y, y2, u, u2, rfl, ry, ry2, w1⟩ := b2_of r1 w1
  obtain ⟨a, ds, vs, ok, rfl, sq, rs, w1, st⟩ := wI_of s1 ry w1
  obtain ⟨b, es, us, ok2, rfl, sq2, rs2, w1, st2⟩ := wI_of s1 ry2 w1
  refine ⟨a, b, vs, us, rfl, sq, sq2, q F1 h1 H1 _ _ _ e1 s1 (fun F2 h2 H2 e2 s2 k => ?_) w1⟩
  obtain ⟨vs', sq', rs'⟩ := st F2 h2 H2 e2 s2 k.1
  obtain ⟨us', sq2', rs2'⟩ := st2 F2 h2 H2 e2 s2 k.2
  refine ⟨fun i x hx => ?_, fun i hi => ⟨_, _, sq', sq2', by rw [List.length_map, List.length_zip] at hi; rw [← rs'.len, ← rs2'.len]; omega⟩⟩
  rw [List.getElem?_map] at hx
  cases hd : (ds.zip es)[i]? with
  | none => rw [hd] at hx; cases hx
  | some p =>
    rw [hd] at hx
    obtain rfl := Option.some.inj hx
    obtain ⟨g1, g2⟩ := List.getElem?_zip_eq_some.mp hd
    obtain ⟨z, hz, rz⟩ := rs'.get g1
    obtain ⟨z2, hz2, rz2⟩ := rs2'.get g2
    refine ⟨⟨_, _, _, _, sq', sq2', hz, hz2⟩, fun u H' y => ?_⟩
    obtain ⟨T, x, x2, rfl, hT, rfl, y, y2⟩ := y
    have e3 := y _ sq'
    rw [hz] at e3
    obtain rfl := Option.some.inj e3
    have e4 := y2 _ sq2'
    rw [hz2] at e4
    obtain rfl := Option.some.inj e4
    exact ⟨Ext.new hT, s2.new hT, .tup (.rd ⟨s2.out hT, s2.nbl hT⟩ upd_same) (.cons (rz.ext (Ext.new hT)) (.cons (rz2.ext (Ext.new hT)) .nil))⟩
/-- the signs of a text -/
def iSg (ta : DG D) : DIt := fun δ h X N => ta δ h X fun x h1 => match x with
  | .str z => N (z.cps.toList.map fun ch => .str ⟨#[ch]⟩) okT h1
  | _ => False
theorem s_iSg {ta : TE} {wa : DG D} (sa : SE c W ta wa) : SI c W (iStr ta) (iSg wa) := by
  intro F h H δ σ X N R s e w x q
  refine sa F h H δ σ X _ _ s e w x fun F1 h1 H1 d1 v1 e1 s1 r1 w1 => ?_
  cases d1 <;> first | exact w1.elim | skip
  cases r1
  rename_i z
  refine ⟨_, rfl, q F1 h1 H1 _ _ _ e1 s1 (fun F2 h2 H2 e2 s2 k => ⟨fun i x hx => ?_, fun i hi => (by show z.cps.size ≤ i; simpa using hi)⟩) w1⟩
  rw [List.getElem?_map] at hx
  cases hd : z.cps.toList[i]? with
  | none => rw [hd] at hx; cases hx
  | some ch =>
    rw [hd] at hx
    obtain rfl := Option.some.inj hx
    have hl : i < z.cps.size := by simpa using (List.getElem?_eq_some_iff.mp hd).1
    refine ⟨hl, fun u H' y => ?_⟩
    obtain ⟨rfl, ch2, y, rfl⟩ := y
    have e3 : z.cps[i]? = some ch := by simpa using hd
    rw [e3] at y
    obtain rfl := Option.some.inj y
    exact ⟨Ext.refl _ _, s2, .str _⟩
/-! ### for -/
def dFor (it : DIt) (g : DTg) (tb : DS) : DS := fun DD δ h => it δ h (DD.ex δ) fun xs ok h1 => ∃ I : Nat → EnvD → MH → Prop, I 0 δ h1 ∧
  (∀ i δ h x, I i δ h → xs[i]? = some x → ok h ∧ g x δ h fun δ2 h2 => tb (DD.loop (I (i + 1))) δ2 h2) ∧ ∀ δ h, I xs.length δ h → ok h ∧ DD.nx δ h
theorem s_for {wi : TI} {di : DIt} {g : TG} {wg : DTg} {tb : TS} {wb : DS} (si : SI c W wi di) (sg : STg c g wg) (sb : SS c W tb wb) : SS c W (tFor wi g tb) (dFor di wg wb) := by
  intro F h H δ σ DD D s e w q
  refine si F h H δ σ _ _ _ s e w (q.xk e) fun F1 h1 H1 xs ok J e1 s1 io w1 => ?_
  obtain ⟨I, i0, step, fin⟩ := w1
  refine ⟨fun i m σ' H' => m + i = xs.length ∧ ∃ F' h' δ', Ext F1 H1 F' H' ∧ Sim c F' h' H' ∧ RelE c F' H' δ' σ' ∧ I i δ' h', ⟨xs.length, rfl, F1, h1, δ, Ext.refl _ _, s1, e.ext e1, i0⟩, ?_⟩
  rintro i m σ' H' ⟨hm, F2, h2, δ2, e2, s2, r2, w2⟩
  cases hx : xs[i]? with
  | none =>
    have hl := List.getElem?_eq_none_iff.mp hx
    have hi : i = xs.length := by omega
    subst hi
    obtain ⟨k, w3⟩ := fin _ _ w2
    exact .inl ⟨(io F2 h2 H' e2.tr s2 k).2 _ (Nat.le_refl _), (q.nx.ext (e1.trans e2)).at_ s2 r2 w3⟩
  | some x =>
    have hl := (List.getElem?_eq_some_iff.mp hx).1
    obtain ⟨k, w3⟩ := step _ _ _ _ w2 hx
    obtain ⟨go, yl⟩ := (io F2 h2 H' e2.tr s2 k).1 i x hx
    refine .inr ⟨go, fun σ3 H3 => (m - 1) + (i + 1) = xs.length ∧ ∃ F' h' δ', Ext F1 H1 F' H3 ∧ Sim c F' h' H3 ∧ RelE c F' H3 δ' σ3 ∧ I (i + 1) δ' h', fun σ3 H3 z => ⟨m - 1, by omega, z⟩, fun u H3 y => ?_⟩
    obtain ⟨e3, s3, r3⟩ := yl u H3 y
    refine sg F2 h2 H3 δ2 σ' x u _ _ s3 (r2.ext e3) r3 w3 fun F4 h4 H4 δ4 σ4 e4 s4 r4 w4 => ?_
    have e14 := e2.trans (e3.trans e4)
    have q4 := q.ext (e1.trans e14)
    have nk : NOk c F4 H4 (I (i + 1)) (fun σ3 H3 => (m - 1) + (i + 1) = xs.length ∧ ∃ F' h' δ', Ext F1 H1 F' H3 ∧ Sim c F' h' H3 ∧ RelE c F' H3 δ' σ3 ∧ I (i + 1) δ' h') := fun F5 h5 H5 δ5 σ5 e5 s5 r5 w5 => ⟨by omega, F5, h5, δ5, e14.trans e5, s5, r5, w5⟩
    exact sb F4 h4 H4 δ4 σ4 _ _ s4 r4 w4 ⟨nk, q4.rt, q4.nx, nk, q4.ex⟩
def dWhile (t : DG Bool) (tb : DS) : DS := fun DD δ h => ∃ I : Nat → EnvD → MH → Prop, (∃ m, I m δ h) ∧ ∀ m δ h, I m δ h → t δ h (DD.ex δ) fun b h1 => ifd b (∃ N : EnvD → MH → Prop, (∀ δ' h', N δ' h' → ∃ m', m' < m ∧ I m' δ' h') ∧ tb (DD.loop N) δ h1) (DD.nx δ h1)
theorem s_while {t : TT} {wt : DG Bool} {tb : TS} {wb : DS} (st : ST c W t wt) (sb : SS c W tb wb) : SS c W (tWhile t tb) (dWhile wt wb) := by
  intro F h H δ σ DD D s e w q
  obtain ⟨I, ⟨m0, i0⟩, step⟩ := w
  refine ⟨fun m σ' H' => ∃ F' h' δ', Ext F H F' H' ∧ Sim c F' h' H' ∧ RelE c F' H' δ' σ' ∧ I m δ' h', ⟨m0, F, h, δ, Ext.refl _ _, s, e, i0⟩, ?_⟩
  rintro m σ' H' ⟨F2, h2, δ2, e2, s2, r2, w2⟩
  refine st F2 h2 H' δ2 σ' _ _ _ s2 r2 (step _ _ _ w2) ((q.ext e2).xk r2) fun F3 h3 H3 d3 v3 e3 s3 r3 w3 => ?_
  have r3 : d3 = v3 := r3
  subst r3
  have q3 := q.ext (e2.trans e3)
  refine ifd_ok w3 (fun w4 => ?_) fun w4 => q3.nx.at_ s3 (r2.ext e3) w4
  obtain ⟨N, hN, w4⟩ := w4
  refine ⟨fun σ5 H5 => ∃ F' h' δ', Ext F H F' H5 ∧ Sim c F' h' H5 ∧ RelE c F' H5 δ' σ5 ∧ N δ' h', fun σ5 H5 ⟨F5, h5, δ5, e5, s5, r5, w5⟩ => ?_, ?_⟩
  · obtain ⟨m', hm, w6⟩ := hN _ _ w5
    exact ⟨m', hm, F5, h5, δ5, e5, s5, r5, w6⟩
  · have nk : NOk c F3 H3 N (fun σ5 H5 => ∃ F' h' δ', Ext F H F' H5 ∧ Sim c F' h' H5 ∧ RelE c F' H5 δ' σ5 ∧ N δ' h') := fun F5 h5 H5 δ5 σ5 e5 s5 r5 w5 => ⟨F5, h5, δ5, (e2.trans e3).trans e5, s5, r5, w5⟩
    exact sb F3 h3 H3 δ2 σ' _ _ s3 (r2.ext e3) w4 ⟨nk, q3.rt, q3.nx, nk, q3.ex⟩
/-! ### comprehensions -/
def unL (δ : EnvD) : List Nat → EnvD
  | [] => δ
  | v :: vs => un (unL δ vs) v
theorem RelE.wipe (e : RelE c F H δ σ) : ∀ vs : List Nat, RelE c F H (unL δ vs) (wipe σ vs)
  | [] => e
  | v :: vs => (e.wipe vs).un v none
theorem wipe_none (σ : L2.St) : ∀ (vs : List Nat) (j : Nat), j ∈ vs → ∀ (z : Option V), L2.wipe (σ.set j z) vs = L2.wipe σ vs
  | [], j, h, z => by simp at h
  | v :: vs, j, h, z => by
    show (L2.wipe (σ.set j z) vs).set v none = (L2.wipe σ vs).set v none
    by_cases hv : j ∈ vs
    · rw [wipe_none σ vs j hv z]
    · have e : j = v := by
        rcases List.mem_cons.mp h with h | h
        · exact h
        · exact absurd h hv
      subst e
      have com : ∀ (ws : List Nat), j ∉ ws → L2.wipe (σ.set j z) ws = (L2.wipe σ ws).set j z := by
        intro ws
        induction ws with
        | nil => intro _; rfl
        | cons w ws ih =>
          intro hn
          have hn' : j ≠ w ∧ j ∉ ws := by simpa using hn
          show (L2.wipe (σ.set j z) ws).set w none = ((L2.wipe σ ws).set w none).set j z
          rw [ih hn'.2, List.set_comm _ _ hn'.1]
      rw [com vs hv, List.set_set]
theorem wipe_wipe (σ : L2.St) : ∀ (ws vs : List Nat), (∀ j ∈ ws, j ∈ vs) → L2.wipe (L2.wipe σ ws) vs = L2.wipe σ vs
  | [], _, _ => rfl
  | w :: ws, vs, h => by
    show L2.wipe ((L2.wipe σ ws).set w none) vs = _
    rw [wipe_none _ _ _ (h w (by simp)), wipe_wipe σ ws vs fun j hj => h j (by simp [hj])]
/-- a target that writes none but the slots vs -/
def Wp (g : TG) (vs : List Nat) : Prop := ∀ v σ H (Q : L2.St → Hp → Prop), g v σ H Q → g v σ H fun σ2 H2 => wipe σ2 vs = wipe σ vs ∧ Q σ2 H2
def Wps (g : TGs) (vs : List Nat) : Prop := ∀ v σ H (Q : L2.St → Hp → Prop), g v σ H Q → g v σ H fun σ2 H2 => wipe σ2 vs = wipe σ vs ∧ Q σ2 H2
theorem wp_name {i : Nat} {ws : List Nat} (hi : i ∈ ws) : Wp (gName i) ws := fun v σ H Q q => ⟨wipe_none σ ws i hi _, q⟩
theorem wp_nil {ws : List Nat} : Wps gNil ws := fun v σ H Q q => ⟨q.1, rfl, q.2⟩
theorem wp_cons {i : Nat} {t : TGs} {ws : List Nat} (hi : i ∈ ws) (ht : Wps t ws) : Wps (gCons (gName i) t) ws := by
  rintro v σ H Q ⟨a, r, rfl, q⟩
  refine ⟨a, r, rfl, ?_⟩
  have z := ht _ _ _ _ q
  rw [wipe_none σ ws i hi] at z
  exact z
theorem wp_tup {K : PySem.W.Frag} {n : Nat} {t : TGs} {ws : List Nat} (ht : Wps t ws) : Wp (gTup K n t) ws := by
  rintro v σ H Q ⟨a, xs, rfl, sq, ln, q⟩
  exact ⟨a, xs, rfl, sq, ln, ht _ _ _ _ q⟩
def dLc (it : DIt) (g : DTg) (t : DG Bool) (te : DG D) (ws : List Nat) : DG D := fun δ h X Q => it δ h X fun xs ok h1 => ∃ I : Nat → List D → MH → Prop, I 0 [] h1 ∧
  (∀ i acc h x, I i acc h → xs[i]? = some x → ok h ∧ g x (unL δ ws) h fun δ2 h2 => t δ2 h2 noX fun b h3 => ifd b (te δ2 h3 noX fun y h4 => acc.length < sizeLine ∧ I (i + 1) (acc ++ [y]) h4) (I (i + 1) acc h3)) ∧
  ∀ acc h, I xs.length acc h → ok h ∧ newL acc h Q
theorem Ext.out (e : Ext F H F' H') (g : Ext (F'.block l) H' F'' H'') : Ext F H ⟨F''.cs, F.bl⟩ H'' := ⟨fun i a h => g.pre i a (e.pre i a h), fun a o h n => g.kp a o (e.kp a o h n).1 (e.kp a o h n).2, rfl⟩
theorem Ext.mutO (e : Ext F H F' H') (hl : H l = none) : Ext F H F' (upd H' l o) := ⟨e.pre, fun a u h n => ⟨g_mut (ne_of_none h hl) (e.kp a u h n).1, (e.kp a u h n).2⟩, e.bl⟩
theorem Ext.trB (e : Ext F H F' H') (hl : H l = none) : Tr F H (F'.block l) H' := ⟨e.pre, fun a u h n => ⟨(e.free h n).1, (e.free h n).2.1, fun m => by
  rcases List.mem_cons.mp m with m | m
  · exact ne_of_none h hl m
  · exact (e.free h n).2.2 m⟩⟩
theorem Ext.addO (e : Ext F H F' H') (hl : H l = none) : Ext F H (F'.add l) H' := by
  refine ⟨fun i a h => ?_, fun a u h n => ⟨(e.kp a u h n).1, fun m => ?_⟩, e.bl⟩
  · have z := e.pre i a h
    show (F'.cs ++ [l])[i]? = some a
    rw [List.getElem?_append_left (List.getElem?_eq_some_iff.mp z).1]; exact z
  · rcases List.mem_append.mp m with m | m
    · exact (e.kp a u h n).2 m
    · exact ne_of_none h hl (List.mem_singleton.mp m)
theorem RelE.tr (r : RelE c F H δ σ) (e : Tr F H F' H') : RelE c F' H' δ σ := ⟨r.1, fun i d hk => by
  obtain ⟨v, a, b⟩ := r.2 i d hk
  exact ⟨v, a, b.tr e⟩⟩
theorem blk_eta {F4 : Fs} {b : List Addr} (e : F4.bl = l :: b) : F4 = (⟨F4.cs, b⟩ : Fs).block l := by
  cases F4; simp only at e; subst e; rfl
theorem s_lc {wi : TI} {di : DIt} {g : TG} {wg : DTg} {tt : TT} {wt : DG Bool} {te : TE} {we : DG D} {ws : List Nat} (si : SI c W wi di) (sg : STg c g wg) (hw : Wp g ws) (st : ST c W tt wt) (se : SE c W te we) : SE c W (tLc wi g tt te ws) (dLc di wg wt we ws) := by
  intro F h H δ σ X Q R s e w x q
  refine si F h H δ σ _ _ _ s e w x fun F1 h1 H1 xs ok J e1 s1 io w1 => ?_
  obtain ⟨I, i0, step, fin⟩ := w1
  intro l hl
  have nb := s1.nbl hl
  refine ⟨fun i m H' => m + i = xs.length ∧ ∃ F' h' acc va, Ext F1 H1 F' H' ∧ Sim c (F'.block l) h' H' ∧ H' l = some (.lst va) ∧ RelDs c (F'.block l) H' acc va ∧ I i acc h',
    ⟨xs.length, rfl, F1, h1, [], [], (Ext.refl _ _).mutO hl, s1.block hl, upd_same, .nil, i0⟩, ?_⟩
  rintro i m H' ⟨hm, F2, h2, acc, va, e2, s2, a2, r2, w2⟩
  have tr := e2.trB hl
  cases hx : xs[i]? with
  | none =>
    have hlen := List.getElem?_eq_none_iff.mp hx
    have hi : i = xs.length := by omega
    subst hi
    obtain ⟨k, w3⟩ := fin _ _ w2
    refine .inl ⟨(io _ h2 H' tr s2 k).2 _ (Nat.le_refl _), ?_⟩
    rcases w3 with w3 | w3
    · refine q (F2.add l) _ _ _ _ (e1.trans (e2.addO hl)) (s2.adopt a2 r2 (by rw [e2.bl]; exact nb)) (.ref ?_) w3
      show (F2.cs ++ [l])[h2.length]? = _
      have ln : F2.cs.length = h2.length := s2.len
      rw [← ln, List.getElem?_append_right (Nat.le_refl _), Nat.sub_self]; rfl
    · exact q F2 _ _ _ _ (e1.trans e2) s2.unblock (.lst ⟨fun m => s2.ap l m List.mem_cons_self, by rw [e2.bl]; exact nb⟩ a2 (r2.tr Tr.unblock)) w3
  | some x0 =>
    have hlen := (List.getElem?_eq_some_iff.mp hx).1
    obtain ⟨k, w3⟩ := step _ _ _ _ w2 hx
    obtain ⟨go, yl⟩ := (io _ h2 H' tr s2 k).1 i x0 hx
    refine .inr ⟨go, fun H' => (m - 1) + (i + 1) = xs.length ∧ ∃ F' h' acc va, Ext F1 H1 F' H' ∧ Sim c (F'.block l) h' H' ∧ H' l = some (.lst va) ∧ RelDs c (F'.block l) H' acc va ∧ I (i + 1) acc h', fun H' z => ⟨m - 1, by omega, z⟩, fun u H3 y => ?_⟩
    obtain ⟨e3, s3, r3⟩ := yl u H3 y
    have eδ : RelE c (F2.block l) H3 (unL δ ws) (L2.wipe σ ws) := ((((e.ext e1).tr tr).ext e3).wipe ws)
    have body : g u (L2.wipe σ ws) H3 fun σ2 H2 => tt σ2 H2 fun b H3 => if b = true then te σ2 H3 fun y H4 => ∃ acc, H4 l = some (.lst acc) ∧ acc.length < sizeLine ∧ ((m - 1) + (i + 1) = xs.length ∧ ∃ F' h' acc' va, Ext F1 H1 F' (upd H4 l (.lst (acc ++ [y]))) ∧ Sim c (F'.block l) h' (upd H4 l (.lst (acc ++ [y]))) ∧ (upd H4 l (.lst (acc ++ [y]))) l = some (.lst va) ∧ RelDs c (F'.block l) (upd H4 l (.lst (acc ++ [y]))) acc' va ∧ I (i + 1) acc' h')
        else ((m - 1) + (i + 1) = xs.length ∧ ∃ F' h' acc va, Ext F1 H1 F' H3 ∧ Sim c (F'.block l) h' H3 ∧ H3 l = some (.lst va) ∧ RelDs c (F'.block l) H3 acc va ∧ I (i + 1) acc h') := by
      refine sg _ h2 H3 _ _ x0 u _ _ s3 eδ r3 w3 fun F4 h4 H4 δ4 σ4 e4 s4 r4 w4 => ?_
      refine st F4 h4 H4 δ4 σ4 noX _ _ s4 r4 w4 noX_ok fun F5 h5 H5 b b' e5 s5 eb w5 => ?_
      have eb : b = b' := eb
      subst eb
      have e35 := e3.trans (e4.trans e5)
      have a5 : H5 l = some (.lst va) := (e35.kp l _ a2 fun m => s2.ap l m List.mem_cons_self).1
      refine ifd_ok w5 (fun w6 => ?_) fun w6 => ?_
      · refine se F5 h5 H5 δ4 σ4 noX _ _ s5 (r4.ext e5) w6 noX_ok fun F6 h6 H6 y yv e6 s6 r6 w7 => ?_
        have e36 := e35.trans e6
        have a6 : H6 l = some (.lst va) := (e36.kp l _ a2 fun m => s2.ap l m List.mem_cons_self).1
        refine ⟨va, a6, by rw [← r2.len]; exact w7.1, by omega, ?_⟩
        have ebl : F6.bl = l :: F2.bl := e36.bl
        rw [e2.bl] at ebl
        have eF := blk_eta ebl
        have o6 := (Ext.out e2 e36).mutO (o := .lst (va ++ [yv])) hl
        have r2' := r2.ext e36
        rw [eF] at s6 r6 r2'
        exact ⟨⟨F6.cs, F1.bl⟩, h6, acc ++ [y], va ++ [yv], o6, s6.mutB, upd_same, (r2'.app (.cons r6 .nil)).tr Tr.mutB, w7.2⟩
      · refine ⟨by omega, ?_⟩
        have ebl : F5.bl = l :: F2.bl := e35.bl
        rw [e2.bl] at ebl
        have eF := blk_eta ebl
        have r2' := r2.ext e35
        rw [eF] at s5 r2'
        exact ⟨⟨F5.cs, F1.bl⟩, h5, acc, va, Ext.out e2 e35, s5, a5, r2', w6⟩
    have := hw _ _ _ _ body
    rw [wipe_wipe σ ws ws fun _ h => h] at this
    exact this
/-- a comprehension without a test -/
inductive LcK (xs : List D) (ok : MH → Prop) (h1 : MH) (Q : DK) (B : D → MH → DK → Prop) : Prop
  | mk (I : Nat → List D → MH → Prop) (h0 : I 0 [] h1) (step : ∀ i acc h x, I i acc h → xs[i]? = some x → ok h ∧ B x h fun y h4 => acc.length < sizeLine ∧ I (i + 1) (acc ++ [y]) h4) (fin : ∀ acc h, I xs.length acc h → ok h ∧ newL acc h Q) : LcK xs ok h1 Q B
def dLc0 (it : DIt) (g : DTg) (te : DG D) (ws : List Nat) : DG D := fun δ h X Q => it δ h X fun xs ok h1 => LcK xs ok h1 Q fun x h K => g x (unL δ ws) h fun δ2 h2 => te δ2 h2 noX K
theorem ifd_true {A B : Prop} : ifd true A B = A := propext ⟨fun z => z.1 rfl, fun z => ⟨fun _ => z, fun e => by cases e⟩⟩
theorem lc0_eq (it : DIt) (g : DTg) (te : DG D) (ws : List Nat) : dLc0 it g te ws = dLc it g dYes te ws := by
  funext δ h X Q
  have key : ∀ (K : D → MH → Prop) (E : MH → Prop), (fun (δ2 : EnvD) (h2 : MH) => dYes δ2 h2 noX fun b h3 => ifd b (te δ2 h3 noX K) (E h3)) = fun δ2 h2 => te δ2 h2 noX K := fun K E => by
    funext δ2 h2
    exact ifd_true
  unfold dLc0 dLc
  congr 1
  funext xs ok h1
  apply propext
  constructor
  · rintro ⟨I, h0, step, fin⟩
    refine ⟨I, h0, fun i acc h x w e => ⟨(step i acc h x w e).1, ?_⟩, fin⟩
    rw [key (fun y h4 => acc.length < sizeLine ∧ I (i + 1) (acc ++ [y]) h4) (fun h3 => I (i + 1) acc h3)]
    exact (step i acc h x w e).2
  · rintro ⟨I, h0, step, fin⟩
    refine ⟨I, h0, fun i acc h x w e => ⟨(step i acc h x w e).1, ?_⟩, fin⟩
    have z := (step i acc h x w e).2
    rw [key (fun y h4 => acc.length < sizeLine ∧ I (i + 1) (acc ++ [y]) h4) (fun h3 => I (i + 1) acc h3)] at z
    exact z
theorem s_lc0 {wi : TI} {di : DIt} {g : TG} {wg : DTg} {te : TE} {we : DG D} {ws : List Nat} (si : SI c W wi di) (sg : STg c g wg) (hw : Wp g ws) (se : SE c W te we) : SE c W (tLc wi g tYes te ws) (dLc0 di wg we ws) := by
  rw [lc0_eq]
  exact s_lc si sg hw s_yes se
/-- each item gives an item, nothing changes -/
theorem lc_pure {xs : List D} {ok : MH → Prop} {h : MH} {Q : DK} {B : D → MH → DK → Prop} (out : List D) (hl : out.length = xs.length) (hz : xs.length ≤ 1000000) (hok : ok h) (step : ∀ (i : Nat) x y, xs[i]? = some x → out[i]? = some y → ∀ K : DK, K y h → B x h K) (fin : newL out h Q) : LcK xs ok h Q B := by
  refine ⟨fun i acc h' => h' = h ∧ acc = out.take i, ⟨rfl, rfl⟩, ?_, ?_⟩
  · rintro i acc h' x ⟨rfl, rfl⟩ e
    have hi := (List.getElem?_eq_some_iff.mp e).1
    have ho : i < out.length := by omega
    refine ⟨hok, step i x out[i] e (List.getElem?_eq_getElem ho) _ ⟨?_, rfl, ?_⟩⟩
    · exact szl (by rw [List.length_take]; omega)
    · exact (take_more (List.getElem?_eq_getElem ho)).symm
  · rintro acc h' ⟨rfl, rfl⟩
    rw [← hl, List.take_of_length_le (Nat.le_refl _)]
    exact ⟨hok, fin⟩
theorem lc_map {α : Type} {l : List α} {f : α → D} {ok : MH → Prop} {h : MH} {Q : DK} {B : D → MH → DK → Prop} {rep : α → D} (hz : l.length ≤ 1000000) (hok : ok h) (step : ∀ a ∈ l, ∀ K : DK, K (f a) h → B (rep a) h K) (fin : newL (l.map f) h Q) : LcK (l.map rep) ok h Q B := by
  refine lc_pure (l.map f) (by simp) (by simpa using hz) hok (fun i x y e1 e2 K k => ?_) fin
  rw [List.getElem?_map] at e1 e2
  cases e : l[i]? with
  | none => rw [e] at e1; cases e1
  | some a =>
    rw [e] at e1 e2
    obtain rfl := Option.some.inj e1
    obtain rfl := Option.some.inj e2
    exact step a (List.mem_of_getElem? e) K k
end
end Dv
/-! calls, objects, errors, defs -/
namespace Dv
open PySem PySem.Spec PyProof.Rows L2 Sf
/-! ### what lies below a place -/
mutual
def bd (n : Nat) : D → Bool
  | .ref i => decide (i < n)
  | .tup _ ds => bds n ds
  | .lst ds => bds n ds
  | .obj _ fs => bdf n fs
  | _ => true
def bds (n : Nat) : List D → Bool
  | [] => true
  | d :: r => bd n d && bds n r
def bdf (n : Nat) : List (Nat × D) → Bool
  | [] => true
  | (_, d) :: r => bd n d && bdf n r
end
def Fs.cut (F : Fs) (n : Nat) : Fs := ⟨F.cs.take n, F.bl⟩
mutual
inductive Vw (m : Nat) (h : MH) : D → D → Prop
  | id {d : D} : bd m d = true → Vw m h d d
  | tup {k : Bool} {ds es : List D} : Vws m h ds es → Vw m h (.tup k ds) (.tup k es)
  | lst {ds es : List D} : Vws m h ds es → Vw m h (.lst ds) (.lst es)
  | obj {C : Nat} {fs gs : List (Nat × D)} : Vwf m h fs gs → Vw m h (.obj C fs) (.obj C gs)
  | rlst {i : Nat} {ds es : List D} : m ≤ i → h[i]? = some (.lst ds) → Vws m h ds es → Vw m h (.ref i) (.lst es)
  | robj {i C : Nat} {fs gs : List (Nat × D)} : m ≤ i → h[i]? = some (.obj C fs) → Vwf m h fs gs → Vw m h (.ref i) (.obj C gs)
inductive Vws (m : Nat) (h : MH) : List D → List D → Prop
  | nil : Vws m h [] []
  | cons {d e : D} {ds es : List D} : Vw m h d e → Vws m h ds es → Vws m h (d :: ds) (e :: es)
inductive Vwf (m : Nat) (h : MH) : List (Nat × D) → List (Nat × D) → Prop
  | nil : Vwf m h [] []
  | cons {n : Nat} {d e : D} {ds es : List (Nat × D)} : Vw m h d e → Vwf m h ds es → Vwf m h ((n, d) :: ds) ((n, e) :: es)
end
section
variable {c : Cc} {W : WX} {F F' F'' : Fs} {h h' : MH} {H H' H'' : Hp} {a l : Addr} {o : HO} {d x y : D} {ds es : List D} {v u : V} {vs us : List V} {i j m n : Nat} {k : Bool} {δ : EnvD} {σ : L2.St} {X : DXc}
mutual
theorem RelD.bd : ∀ {d : D} {v : V}, RelD c F H d v → Dv.bd F.cs.length d = true
  | _, _, .non => rfl
  | _, _, .bl _ => rfl
  | _, _, .int _ => rfl
  | _, _, .str _ => rfl
  | _, _, .ty _ => rfl
  | _, _, .cls _ => rfl
  | _, _, .ref h => by simp only [Dv.bd, decide_eq_true_eq]; exact (List.getElem?_eq_some_iff.mp h).1
  | _, _, .tup _ r => by simp only [Dv.bd]; exact RelDs.bd r
  | _, _, .lst _ _ r => by simp only [Dv.bd]; exact RelDs.bd r
  | _, _, .obj _ _ r => by simp only [Dv.bd]; exact RelFs.bd r
  | _, _, .scr _ => rfl
  | _, _, .held _ => rfl
theorem RelDs.bd : ∀ {d : List D} {v : List V}, RelDs c F H d v → Dv.bds F.cs.length d = true
  | _, _, .nil => rfl
  | _, _, .cons a r => by simp only [Dv.bds, Bool.and_eq_true]; exact ⟨RelD.bd a, RelDs.bd r⟩
theorem RelFs.bd : ∀ {d : List (Nat × D)} {v : List (Str × V)}, RelFs c F H d v → Dv.bdf F.cs.length d = true
  | _, _, .nil => rfl
  | _, _, .cons _ a r => by simp only [Dv.bdf, Bool.and_eq_true]; exact ⟨RelD.bd a, RelFs.bd r⟩
end
theorem CellAt.bd (k : CellAt c F H d a) : Dv.bd F.cs.length d = true := by
  cases k with
  | lst _ r => simp only [Dv.bd]; exact r.bd
  | obj _ r => simp only [Dv.bd]; exact r.bd
mutual
theorem bd_mono (hm : n ≤ m) : ∀ {d : D}, bd n d = true → bd m d = true
  | .non, _ => rfl
  | .bl _, _ => rfl
  | .int _, _ => rfl
  | .str _, _ => rfl
  | .ty _, _ => rfl
  | .cls _, _ => rfl
  | .ref i, h => by simp only [bd, decide_eq_true_eq] at h ⊢; omega
  | .tup _ ds, h => by simp only [bd] at h ⊢; exact bds_mono hm h
  | .lst ds, h => by simp only [bd] at h ⊢; exact bds_mono hm h
  | .obj _ fs, h => by simp only [bd] at h ⊢; exact bdf_mono hm h
  | .scr _, _ => rfl
  | .held _, _ => rfl
theorem bds_mono (hm : n ≤ m) : ∀ {d : List D}, bds n d = true → bds m d = true
  | [], _ => rfl
  | _ :: _, h => by simp only [bds, Bool.and_eq_true] at h ⊢; exact ⟨bd_mono hm h.1, bds_mono hm h.2⟩
theorem bdf_mono (hm : n ≤ m) : ∀ {d : List (Nat × D)}, bdf n d = true → bdf m d = true
  | [], _ => rfl
  | (_, _) :: _, h => by simp only [bdf, Bool.and_eq_true] at h ⊢; exact ⟨bd_mono hm h.1, bdf_mono hm h.2⟩
end
theorem Fs.Free.cut (f : F.Free a) : (F.cut m).Free a := ⟨fun q => f.1 (List.mem_of_mem_take q), f.2⟩
theorem TupAt.cut (t : TupAt c.K F H k a vs) : TupAt c.K (F.cut m) H k a vs := by
  cases t with
  | kn h1 h2 h3 h4 h5 => exact .kn h1 h2 h3 h4 h5
  | rd f h => exact .rd f.cut h
  | fz f h z => exact .fz f.cut h z
theorem ScrAt.cut (t : ScrAt c.K F H a vs) : ScrAt c.K (F.cut m) H a vs := by
  cases t with
  | kn h1 h2 h3 h4 h5 h6 => exact .kn h1 h2 h3 h4 h5 h6
  | rd f h => exact .rd f.cut h
  | fz f h => exact .fz f.cut h
mutual
theorem RelD.cut : ∀ {d : D} {v : V}, RelD c F H d v → Dv.bd m d = true → RelD c (F.cut m) H d v
  | _, _, .non, _ => .non
  | _, _, .bl b, _ => .bl b
  | _, _, .int b, _ => .int b
  | _, _, .str b, _ => .str b
  | _, _, .ty b, _ => .ty b
  | _, _, .cls b, _ => .cls b
  | _, _, .ref h, z => .ref (by
      simp only [Dv.bd, decide_eq_true_eq] at z
      show (F.cs.take m)[_]? = _
      rw [List.getElem?_take_of_lt z]; exact h)
  | _, _, .tup t r, z => .tup t.cut (RelDs.cut r (by simpa only [Dv.bd] using z))
  | _, _, .lst f e r, z => .lst f.cut e (RelDs.cut r (by simpa only [Dv.bd] using z))
  | _, _, .obj f e r, z => .obj f.cut e (RelFs.cut r (by simpa only [Dv.bd] using z))
  | _, _, .scr t, _ => .scr t.cut
  | _, _, .held a, _ => .held a
theorem RelDs.cut : ∀ {d : List D} {v : List V}, RelDs c F H d v → Dv.bds m d = true → RelDs c (F.cut m) H d v
  | _, _, .nil, _ => .nil
  | _, _, .cons a r, z => by simp only [Dv.bds, Bool.and_eq_true] at z; exact .cons (RelD.cut a z.1) (RelDs.cut r z.2)
theorem RelFs.cut : ∀ {d : List (Nat × D)} {v : List (Str × V)}, RelFs c F H d v → Dv.bdf m d = true → RelFs c (F.cut m) H d v
  | _, _, .nil, _ => .nil
  | _, _, .cons n a r, z => by simp only [Dv.bdf, Bool.and_eq_true] at z; exact .cons n (RelD.cut a z.1) (RelFs.cut r z.2)
end
theorem CellAt.cut (k : CellAt c F H d a) (z : Dv.bd m d = true) : CellAt c (F.cut m) H d a := by
  cases k with
  | lst e r => exact .lst e (r.cut (by simpa only [Dv.bd] using z))
  | obj e r => exact .obj e (r.cut (by simpa only [Dv.bd] using z))
theorem free_cut (s : Sim c F h H) (hm : m ≤ i) (e : F.cs[i]? = some a) : (F.cut m).Free a := by
  refine ⟨fun q => ?_, s.ap a (List.mem_of_getElem? e)⟩
  obtain ⟨j, hj⟩ := List.mem_iff_getElem?.mp q
  have hj : (F.cs.take m)[j]? = some a := hj
  have hl := (List.getElem?_eq_some_iff.mp hj).1
  have hl2 : j < m := by rw [List.length_take] at hl; omega
  rw [List.getElem?_take_of_lt hl2] at hj
  have := nodup_at s.nd hj e
  omega
mutual
theorem Vw.rel (s : Sim c F h H) : ∀ {d e : D} {v : V}, Vw m h d e → RelD c F H d v → RelD c (F.cut m) H e v
  | _, _, _, .id z, r => r.cut z
  | _, _, _, .tup w, r => by cases r with | tup t r => exact .tup t.cut (Vws.rel s w r)
  | _, _, _, .lst w, r => by cases r with | lst f e r => exact .lst f.cut e (Vws.rel s w r)
  | _, _, _, .obj w, r => by cases r with | obj f e r => exact .obj f.cut e (Vwf.rel s w r)
  | _, _, _, .rlst hm e w, r => by
    obtain ⟨a, vs, rfl, ha, z, r2⟩ := s.lst r e
    exact .lst (free_cut s hm ha) z (Vws.rel s w r2)
  | _, _, _, .robj hm e w, r => by
    obtain ⟨a, dx, vs, rfl, ha, z, r2⟩ := s.obj r e
    exact .obj (free_cut s hm ha) z (Vwf.rel s w r2)
theorem Vws.rel (s : Sim c F h H) : ∀ {d e : List D} {v : List V}, Vws m h d e → RelDs c F H d v → RelDs c (F.cut m) H e v
  | _, _, _, .nil, .nil => .nil
  | _, _, _, .cons w ws, .cons r rs => .cons (Vw.rel s w r) (Vws.rel s ws rs)
theorem Vwf.rel (s : Sim c F h H) : ∀ {d e : List (Nat × D)} {v : List (Str × V)}, Vwf m h d e → RelFs c F H d v → RelFs c (F.cut m) H e v
  | _, _, _, .nil, .nil => .nil
  | _, _, _, .cons w ws, .cons n r rs => .cons n (Vw.rel s w r) (Vwf.rel s ws rs)
end
/-- the cells from the m-th on are forgotten -/
theorem Sim.cut {h1 g : MH} (s : Sim c F (h1 ++ g) H) (z : ∀ (i : Nat) x, h1[i]? = some x → Dv.bd h1.length x = true) : Sim c (F.cut h1.length) h1 H := by
  have ln : F.cs.length = (h1 ++ g).length := s.len
  rw [List.length_append] at ln
  refine ⟨?_, ?_, fun i x e => ?_, fun a q => s.ap a (List.mem_of_mem_take q), s.bs⟩
  · exact List.Sublist.nodup (List.take_sublist _ _) s.nd
  · show (F.cs.take h1.length).length = _
    rw [List.length_take]; omega
  · have hl := (List.getElem?_eq_some_iff.mp e).1
    obtain ⟨a, ha, k⟩ := s.at_ i x (by rw [List.getElem?_append_left hl]; exact e)
    refine ⟨a, ?_, k.cut (z i x e)⟩
    show (F.cs.take h1.length)[i]? = _
    rw [List.getElem?_take_of_lt hl]; exact ha
theorem Ext.cut (e : Ext F H F' H') (hm : F.cs.length ≤ m) : Ext F H (F'.cut m) H' := by
  refine ⟨fun i a h => ?_, fun a o h n => ⟨(e.kp a o h n).1, fun q => (e.kp a o h n).2 (List.mem_of_mem_take q)⟩, e.bl⟩
  have hl := (List.getElem?_eq_some_iff.mp h).1
  show (F'.cs.take m)[i]? = _
  rw [List.getElem?_take_of_lt (by omega)]
  exact e.pre i a h
/-- what a def hands back: all as it stands, or without what is not needed any more -/
inductive Out (h0 h : MH) (d : D) (Q : DK) : Prop
  | keep : Q d h → Out h0 h d Q
  | cut (h1 g : MH) (e : D) : h = h1 ++ g → h0.length ≤ h1.length → (∀ (i : Nat) x, h1[i]? = some x → h0[i]? = some x ∨ bd h1.length x = true) → Vw h1.length h d e → Q e h1 → Out h0 h d Q
inductive OutX (h0 h : MH) (e : Exn) (X : DXc) : Prop
  | keep : X e h → OutX h0 h e X
  | cut (h1 g : MH) : h = h1 ++ g → h0.length ≤ h1.length → (∀ (i : Nat) x, h1[i]? = some x → h0[i]? = some x ∨ bd h1.length x = true) → e.pl = none → X e h1 → OutX h0 h e X
theorem cut_bd {h0 h1 : MH} (s : Sim c F h0 H) (hl : h0.length ≤ h1.length) (hz : ∀ (i : Nat) x, h1[i]? = some x → h0[i]? = some x ∨ bd h1.length x = true) : ∀ (i : Nat) x, h1[i]? = some x → bd h1.length x = true := fun i x e => by
  rcases hz i x e with z | z
  · obtain ⟨a, _, k⟩ := s.at_ i x z
    exact bd_mono (by rw [s.len]; exact hl) k.bd
  · exact z
theorem Out.ok {h0 : MH} {Q : DK} {R : VK} (s0 : Sim c F h0 H) (e : Ext F H F' H') (s : Sim c F' h' H') (r : RelD c F' H' d v) (w : Out h0 h' d Q) (q : QOk c (RelD c) F H Q R) : R v H' := by
  cases w with
  | keep w => exact q _ _ _ _ _ e s r w
  | cut h1 g d' eh hl hz vw w =>
    have r2 := vw.rel s r
    subst eh
    exact q _ _ _ _ _ (e.cut (by rw [s0.len]; exact hl)) (s.cut (cut_bd s0 hl hz)) r2 w
abbrev DSpec := List D → MH → DXc → DK → Prop
def fnE (h : MH) (X : DXc) (Q : DK) : DEnds := ⟨fun _ h' => Out h h' .non Q, fun d h' => Out h h' d Q, fun _ _ => False, fun _ _ => False, fun _ e h' => OutX h h' e X⟩
def dFn (n N : Nat) (b : DS) : DSpec := fun ds h X Q => ds.length = n ∧ b (fnE h X Q) (ds.map some ++ List.replicate (N - n) none) h
def XE (c : Cc) (F : Fs) (H : Hp) (X : DXc) (E : XK) : Prop := ∀ F' h' H' e ty dx, Ext F H F' H' → Sim c F' h' H' → X e h' → RelX c F' H' e ty dx → E ty dx H'
/-- the promise of a def by what it does with data -/
def spX (c : Cc) (S : DSpec) : Sp := fun vs H Q E => ∃ F h ds X Qd, Sim c F h H ∧ RelDs c F H ds vs ∧ S ds h X Qd ∧ QOk c (RelD c) F H Qd Q ∧ XE c F H X E
/-- of one that raises nothing -/
def spN (c : Cc) (S : DSpec) : Sp := fun vs H Q _ => ∃ F h ds Qd, Sim c F h H ∧ RelDs c F H ds vs ∧ S ds h noX Qd ∧ QOk c (RelD c) F H Qd Q
theorem RelX.keep {e : Exn} {ty : Value} {dx : Option Addr} (r : RelX c F H e ty dx) (z : e.pl = none) : RelX c F' H' e ty dx := ⟨r.1, by
  rcases r.2 with r | ⟨fs, d, vs, h1, _⟩
  · exact .inl r
  · rw [z] at h1; cases h1⟩
theorem OutX.ok {h0 : MH} {e : Exn} {ty : Value} {dx : Option Addr} {E : XK} (s0 : Sim c F h0 H) (ex : Ext F H F' H') (s : Sim c F' h' H') (r : RelX c F' H' e ty dx) (w : OutX h0 h' e X) (q : XE c F H X E) : E ty dx H' := by
  cases w with
  | keep w => exact q _ _ _ _ _ _ ex s w r
  | cut h1 g eh hl hz z w =>
    subst eh
    exact q _ _ _ _ _ _ (ex.cut (by rw [s0.len]; exact hl)) (s.cut (cut_bd s0 hl hz)) w (r.keep z)
theorem lk_at : ∀ {δ : EnvD} {i : Nat} {d : D}, lk δ i = some d → δ[i]? = some (some d)
  | [], _, _, h => by cases h
  | x :: _, 0, d, h => by have h : x = some d := h; rw [h]; rfl
  | _ :: r, i + 1, d, h => by simpa using lk_at (δ := r) h
theorem startE (r : RelDs c F H ds vs) {N : List Str} {n : Nat} (hn : n ≤ N.length - vs.length) : RelE c F H (ds.map some ++ List.replicate n none) (L2.start N vs) := by
  unfold L2.start
  refine ⟨by simp [r.len]; omega, fun i d hk => ?_⟩
  have h1 := lk_at hk
  have hl : i < ds.length := by
    by_cases hi : i < ds.length
    · exact hi
    · exfalso
      rw [List.getElem?_append_right (by simpa using hi), List.getElem?_replicate] at h1
      split at h1 <;> cases h1
  rw [List.getElem?_append_left (by simpa using hl), List.getElem?_map] at h1
  cases e : ds[i]? with
  | none => rw [e] at h1; cases h1
  | some d' =>
    rw [e] at h1
    have e2 : d' = d := by simpa using h1
    subst e2
    obtain ⟨v, hv, rv⟩ := r.get e
    refine ⟨v, ?_, rv⟩
    rw [List.getElem?_append_left (by have := (List.getElem?_eq_some_iff.mp hv).1; simpa using this), List.getElem?_map, hv]; rfl
abbrev wX (E : XK) : WX := fun ty dx _ H => E ty dx H
theorem fn_x {t : TS} {b : DS} {nm : List Str} {n N : Nat} {q : VK} {E : XK} (st : SS c (wX E) t b) (hN : N = nm.length) (h0 : spX c (dFn n N b) vs H q E) (hl : vs.length = n) : t { nx := fun _ H' => q .non H', rt := q } (L2.start nm vs) H := by
  obtain ⟨F, h, ds, X, Qd, s, r, ⟨hn, w⟩, qk, xk⟩ := h0
  refine st F h H _ _ _ _ s (startE r (by rw [hN, hl]; exact Nat.le_refl _)) w ⟨fun F' h' H' δ' σ' e s' r' w' => w'.ok s e s' .non qk, fun F' h' H' d v e s' r' w' => w'.ok s e s' r' qk, fun _ _ _ _ _ _ _ _ z => z.elim, fun _ _ _ _ _ _ _ _ z => z.elim, fun F' h' H' δ' σ' ex ty dx e s' r' w' rx => w'.ok s e s' rx xk⟩
theorem fn_p {t : TS} {b : DS} {nm : List Str} {n N : Nat} {q : VK} {E : XK} (st : SS c noW t b) (hN : N = nm.length) (h0 : spN c (dFn n N b) vs H q E) (hl : vs.length = n) : t { nx := fun _ H' => q .non H', rt := q } (L2.start nm vs) H := by
  obtain ⟨F, h, ds, Qd, s, r, ⟨hn, w⟩, qk⟩ := h0
  refine st F h H _ _ _ _ s (startE r (by rw [hN, hl]; exact Nat.le_refl _)) w ⟨fun F' h' H' δ' σ' e s' r' w' => w'.ok s e s' .non qk, fun F' h' H' d v e s' r' w' => w'.ok s e s' r' qk, fun _ _ _ _ _ _ _ _ z => z.elim, fun _ _ _ _ _ _ _ _ z => z.elim, fun F' h' H' δ' σ' ex ty dx e s' r' w' rx => ?_⟩
  cases w' with
  | keep z => exact z.elim
  | cut _ _ _ _ _ _ z => exact z.elim
theorem spX_len {S : DSpec} {n : Nat} (hS : ∀ ds h X Q, S ds h X Q → ds.length = n) {q : VK} {E : XK} (h0 : spX c S vs H q E) : vs.length = n := by
  obtain ⟨F, h, ds, X, Qd, s, r, w, _⟩ := h0
  rw [← r.len]; exact hS _ _ _ _ w
theorem spN_len {S : DSpec} {n : Nat} (hS : ∀ ds h X Q, S ds h X Q → ds.length = n) {q : VK} {E : XK} (h0 : spN c S vs H q E) : vs.length = n := by
  obtain ⟨F, h, ds, Qd, s, r, w, _⟩ := h0
  rw [← r.len]; exact hS _ _ _ _ w
/-! ### calls -/
structure Cl (S : DSpec) (ds : List D) (h : MH) (X : DXc) (Q : DK) : Prop where
  run : S ds h X Q
def dCall (S : DSpec) (ta : DG (List D)) : DG D := fun δ h X Q => ta δ h X fun ds h1 => Cl S ds h1 X Q
def dCallN (S : DSpec) (ta : DG (List D)) : DG D := fun δ h X Q => ta δ h X fun ds h1 => Cl S ds h1 noX Q
theorem s_call {S : DSpec} {E : XK} {t : TA} {wa : DG (List D)} (sa : SA c (wX E) t wa) : SE c (wX E) (rCallG (spX c S) E t) (dCall S wa) := by
  intro F h H δ σ X Q R s e w x q
  refine sa F h H δ σ X _ _ s e w x fun F1 h1 H1 d1 v1 e1 s1 r1 w1 => ?_
  exact ⟨F1, h1, d1, X, Q, s1, r1, w1.run, q.ext e1, fun F2 h2 H2 ex ty dx e2 s2 w2 r2 => x F2 h2 H2 ex ty dx (e1.trans e2) s2 w2 r2⟩
theorem s_callS {S : DSpec} {t : TA} {wa : DG (List D)} (sa : SA c W t wa) : SE c W (tCallS (spX c S) (WE W) t) (dCall S wa) := by
  intro F h H δ σ X Q R s e w x q
  refine sa F h H δ σ X _ _ s e w x fun F1 h1 H1 d1 v1 e1 s1 r1 w1 => ?_
  exact ⟨F1, h1, d1, X, Q, s1, r1, w1.run, q.ext e1, fun F2 h2 H2 ex ty dx e2 s2 w2 r2 => x F2 h2 H2 ex ty dx (e1.trans e2) s2 w2 r2⟩
theorem s_callN {S : DSpec} {E : XK} {t : TA} {wa : DG (List D)} (sa : SA c W t wa) : SE c W (rCallG (spN c S) E t) (dCallN S wa) := by
  intro F h H δ σ X Q R s e w x q
  refine sa F h H δ σ X _ _ s e w x fun F1 h1 H1 d1 v1 e1 s1 r1 w1 => ?_
  exact ⟨F1, h1, d1, Q, s1, r1, w1.run, q.ext e1⟩
def isO (C : Nat) (x : D) (h : MH) : Prop := match x with
  | .obj C' _ => C' = C
  | .ref i => ∃ fs, h[i]? = some (.obj C fs)
  | _ => False
theorem isO_of {C : Nat} {mt : Str} (hm : mt ∉ c.fn) (s : Sim c F h H) (r : RelD c F H x v) (w : isO C x h) : ∃ a dx vs, v = .ref a ∧ H a = some (.ins (c.ca C) dx vs) ∧ vs.lookup mt = none := by
  cases x with
  | obj C' fs => cases r with
    | obj f e r => obtain rfl := w; exact ⟨_, _, _, rfl, e, noN_rel hm r⟩
  | ref i =>
    obtain ⟨ds, e⟩ := w
    obtain ⟨a, dx, vs, rfl, _, z, r2⟩ := s.obj r e
    exact ⟨_, _, _, rfl, z, noN_rel hm r2⟩
  | _ => exact w.elim
def dMeth (C : Nat) (S : DSpec) (ta : DG D) (t : DG (List D)) : DG D := fun δ h X Q => ta δ h X fun x h1 => isO C x h1 ∧ t δ h1 X fun xs h2 => Cl S (x :: xs) h2 X Q
def dMethN (C : Nat) (S : DSpec) (ta : DG D) (t : DG (List D)) : DG D := fun δ h X Q => ta δ h X fun x h1 => isO C x h1 ∧ t δ h1 X fun xs h2 => Cl S (x :: xs) h2 noX Q
theorem s_meth {C : Nat} {mt : Str} {S : DSpec} {E : XK} {ta : TE} {t : TA} {wa : DG D} {wt : DG (List D)} (hm : mt ∉ c.fn) (sa : SE c (wX E) ta wa) (st : SA c (wX E) t wt) : SE c (wX E) (tMeth (c.ca C) mt (spX c S) [] E ta t) (dMeth C S wa wt) := by
  intro F h H δ σ X Q R s e w x q
  refine sa F h H δ σ X _ _ s e w x fun F1 h1 H1 d1 v1 e1 s1 r1 w1 => ?_
  obtain ⟨a, dx, vs, rfl, z, lk0⟩ := isO_of hm s1 r1 w1.1
  refine ⟨a, dx, vs, rfl, z, lk0, ?_⟩
  refine st F1 h1 H1 δ σ X _ _ s1 (e.ext e1) w1.2 (x.ext e1) fun F2 h2 H2 d2 v2 e2 s2 r2 w2 => ?_
  rw [List.append_nil]
  exact ⟨F2, h2, d1 :: d2, X, Q, s2, .cons (r1.ext e2) r2, w2.run, q.ext (e1.trans e2), fun F3 h3 H3 ex ty dx e3 s3 w3 r3 => x F3 h3 H3 ex ty dx ((e1.trans e2).trans e3) s3 w3 r3⟩
theorem s_methN {C : Nat} {mt : Str} {S : DSpec} {E : XK} {ta : TE} {t : TA} {wa : DG D} {wt : DG (List D)} (hm : mt ∉ c.fn) (sa : SE c W ta wa) (st : SA c W t wt) : SE c W (tMeth (c.ca C) mt (spN c S) [] E ta t) (dMethN C S wa wt) := by
  intro F h H δ σ X Q R s e w x q
  refine sa F h H δ σ X _ _ s e w x fun F1 h1 H1 d1 v1 e1 s1 r1 w1 => ?_
  obtain ⟨a, dx, vs, rfl, z, lk0⟩ := isO_of hm s1 r1 w1.1
  refine ⟨a, dx, vs, rfl, z, lk0, ?_⟩
  refine st F1 h1 H1 δ σ X _ _ s1 (e.ext e1) w1.2 (x.ext e1) fun F2 h2 H2 d2 v2 e2 s2 r2 w2 => ?_
  rw [List.append_nil]
  exact ⟨F2, h2, d1 :: d2, Q, s2, .cons (r1.ext e2) r2, w2.run, q.ext (e1.trans e2)⟩
theorem s_methX {C : Nat} {mt : Str} {S : DSpec} {ta : TE} {t : TA} {wa : DG D} {wt : DG (List D)} (hm : mt ∉ c.fn) (sa : SE c W ta wa) (st : SA c W t wt) : SE c W (tMethX (c.ca C) mt (spX c S) (WE W) ta t) (dMeth C S wa wt) := by
  intro F h H δ σ X Q R s e w x q
  refine sa F h H δ σ X _ _ s e w x fun F1 h1 H1 d1 v1 e1 s1 r1 w1 => ?_
  obtain ⟨a, dx, vs, rfl, z, lk0⟩ := isO_of hm s1 r1 w1.1
  refine ⟨a, dx, vs, rfl, z, lk0, ?_⟩
  refine st F1 h1 H1 δ σ X _ _ s1 (e.ext e1) w1.2 (x.ext e1) fun F2 h2 H2 d2 v2 e2 s2 r2 w2 => ?_
  exact ⟨F2, h2, d1 :: d2, X, Q, s2, .cons (r1.ext e2) r2, w2.run, q.ext (e1.trans e2), fun F3 h3 H3 ex ty dx e3 s3 w3 r3 => x F3 h3 H3 ex ty dx ((e1.trans e2).trans e3) s3 w3 r3⟩
/-- the new object: one that will change, or one that changes no more -/
def mkQ (C : Nat) (h1 h2 : MH) (Q : DK) : Prop := Q (.ref h1.length) h2 ∨ ∃ fs, h2 = h1 ++ [.obj C fs] ∧ bdf h1.length fs = true ∧ Q (.obj C fs) h1
def dMake (C : Nat) (S : DSpec) (ta : DG (List D)) : DG D := fun δ h X Q => ta δ h X fun xs h1 => Cl S (.ref h1.length :: xs) (h1 ++ [.obj C []]) X fun r h2 => r = .non ∧ mkQ C h1 h2 Q
def dMakeN (C : Nat) (S : DSpec) (ta : DG (List D)) : DG D := fun δ h X Q => ta δ h X fun xs h1 => Cl S (.ref h1.length :: xs) (h1 ++ [.obj C []]) noX fun r h2 => r = .non ∧ mkQ C h1 h2 Q
theorem make_ok {C : Nat} {xa dx : Addr} (s : Sim c F h H) (h1 : H xa = none) (h2 : H dx = none) (hne : dx ≠ xa) : Sim c (F.add xa) (h ++ [.obj C []]) (upd (upd H dx (.own xa)) xa (.ins (c.ca C) dx [])) ∧ Ext F H (F.add xa) (upd (upd H dx (.own xa)) xa (.ins (c.ca C) dx [])) ∧ (F.add xa).cs[h.length]? = some xa := by
  have e1 : upd H dx (.own xa) xa = none := by rw [upd_ne (Ne.symm hne)]; exact h1
  refine ⟨(s.new h2).cell (o := .ins (c.ca C) dx []) e1 fun _ z => .obj z .nil, (Ext.new h2).trans (Ext.cell e1), ?_⟩
  show (F.cs ++ [xa])[h.length]? = _
  rw [← s.len, List.getElem?_append_right (Nat.le_refl _), Nat.sub_self]; rfl
theorem mk_end {C n : Nat} {xa : Addr} {F1 F2 : Fs} {h1 h2 : MH} {H1 H2 : Hp} {Q : DK} {R : VK} (s1 : Sim c F1 h1 H1) (e : Ext F1 H1 F2 H2) (ha : F2.cs[h1.length]? = some xa) (s2 : Sim c F2 h2 H2) (w : mkQ C h1 h2 Q) (q : QOk c (RelD c) F1 H1 Q R) : R (.ref xa) H2 := by
  rcases w with w | ⟨fs, rfl, hb, w⟩
  · exact q F2 _ _ _ _ e s2 (.ref ha) w
  · obtain ⟨a, dx, vs, ea, _, z, rf⟩ := s2.obj (i := h1.length) (C := C) (fs := fs) (.ref ha) (by rw [List.getElem?_append_right (Nat.le_refl _), Nat.sub_self]; rfl)
    obtain rfl := V.ref.inj ea
    have sc := s2.cut (cut_bd s1 (Nat.le_refl _) fun i x hx => .inl hx)
    exact q _ _ _ _ _ (e.cut (by rw [s1.len]; exact Nat.le_refl _)) sc (.obj (free_cut s2 (Nat.le_refl _) ha) z (rf.cut hb)) w
theorem s_makeN {C : Nat} {S : DSpec} {E : XK} {t : TA} {wt : DG (List D)} (st : SA c W t wt) : SE c W (tMake (c.ca C) (spN c S) [] E t) (dMakeN C S wt) := by
  intro F h H δ σ X Q R s e w x q
  refine st F h H δ σ X _ _ s e w x fun F1 h1 H1 d1 v1 e1 s1 r1 w1 => ?_
  intro xa dx n1 n2 hne
  obtain ⟨sm, em, at_⟩ := make_ok (C := C) s1 n1 n2 hne
  rw [List.append_nil]
  refine ⟨F1.add xa, _, _, _, sm, .cons (.ref at_) (r1.ext em), w1.run, fun F2 h2 H2 d2 v2 e2 s2 r2 w2 => ?_⟩
  obtain ⟨rfl, w2⟩ := w2
  exact ⟨r2.non_inv, mk_end (n := 0) s1 (em.trans e2) (e2.pre _ _ at_) s2 w2 (q.ext e1)⟩
theorem s_makeX {C : Nat} {S : DSpec} {E : XK} {t : TA} {wt : DG (List D)} (st : SA c (wX E) t wt) : SE c (wX E) (tMake (c.ca C) (spX c S) [] E t) (dMake C S wt) := by
  intro F h H δ σ X Q R s e w x q
  refine st F h H δ σ X _ _ s e w x fun F1 h1 H1 d1 v1 e1 s1 r1 w1 => ?_
  intro xa dx n1 n2 hne
  obtain ⟨sm, em, at_⟩ := make_ok (C := C) s1 n1 n2 hne
  rw [List.append_nil]
  refine ⟨F1.add xa, _, _, X, _, sm, .cons (.ref at_) (r1.ext em), w1.run, fun F2 h2 H2 d2 v2 e2 s2 r2 w2 => ?_, fun F3 h3 H3 ex ty dx e3 s3 w3 r3 => x F3 h3 H3 ex ty dx ((e1.trans em).trans e3) s3 w3 r3⟩
  obtain ⟨rfl, w2⟩ := w2
  exact ⟨r2.non_inv, mk_end (n := 0) s1 (em.trans e2) (e2.pre _ _ at_) s2 w2 (q.ext e1)⟩
/-! ### errors -/
def dRaise (C : Nat) : DS := fun DD δ h => DD.ex δ ⟨C, none⟩ h
theorem s_raise {C : Nat} {E : XK} : SS c (wX E) (Sf.tRaise E (c.ca C)) (dRaise C) := fun F h H δ σ DD D s e w q => q.ex F h H δ σ _ (.ref (c.ca C)) none (Ext.refl _ _) s e w ⟨rfl, .inl ⟨rfl, rfl⟩⟩
/-- the clauses: class, slot, suite (of the held error's address); tb tells which class is whose kind -/
structure DCl where
  cls : Nat
  slot : Nat
  su : Addr → DS
def hands (tb : Nat → Nat → Option Bool) (DD : DEnds) : List DCl → EnvD → Exn → MH → Prop
  | [], δ, e, h => DD.ex δ e h
  | q :: r, δ, e, h => match tb e.cls q.cls with
    | some true => e.cls = q.cls ∧ e.pl = none ∧ ∀ ad, q.su ad { DD with nx := fun δ h => DD.nx (un δ q.slot) h, bk := fun δ h => DD.bk (un δ q.slot) h, ct := fun δ h => DD.ct (un δ q.slot) h } (st δ q.slot (.held ad)) h
    | some false => hands tb DD r δ e h
    | none => False
def dTry (tb : Nat → Nat → Option Bool) (b : DS) (l : List DCl) : DS := fun DD δ h => b { DD with ex := fun δ1 e h1 => hands tb DD l δ1 e h1 } δ h
/-- what the clauses read stands for what they do -/
inductive SHs (c : Cc) (W : WX) : List Sf.Cl → List DCl → Prop
  | nil : SHs c W [] []
  | cons {C i : Nat} {t : Addr → TS} {su : Addr → DS} {l : List Sf.Cl} {m : List DCl} : (∀ ad, SS c W (t ad) (su ad)) → SHs c W l m → SHs c W ((.ref (c.ca C), i, fun ah cc dx => Sf.tIs cc dx (.ref (c.ca C)) (t ah)) :: l) (⟨C, i, su⟩ :: m)
theorem un_set (σ : L2.St) (i : Nat) : True := trivial
theorem hands_ok {tb : Nat → Nat → Option Bool} (ht : ∀ a b y, tb a b = some y → PySem.W.exmOne c.K (.ref (c.ca a)) (.ref (c.ca b)) = some y) {DD : DEnds} {D : Ends} (q : EOk c W F H DD D) : ∀ {l : List Sf.Cl} {m : List DCl}, SHs c W l m → ∀ {F' : Fs} {h' : MH} {H' : Hp} {δ : EnvD} {σ : L2.St} {e : Exn} {ty : Value} {dx : Option Addr},
    Ext F H F' H' → Sim c F' h' H' → RelE c F' H' δ σ → RelX c F' H' e ty dx → hands tb DD m δ e h' → Sf.wishA c.K W D l ty dx σ H'
  | _, _, .nil, F', h', H', δ, σ, e, ty, dx, ex, s, re, rx, w => q.ex F' h' H' δ σ e ty dx ex s re w rx
  | _, _, @SHs.cons _ _ C i t su l m st r, F', h', H', δ, σ, e, ty, dx, ex, s, re, rx, w => by
    have w : (match tb e.cls C with | some true => e.cls = C ∧ e.pl = none ∧ ∀ ad, su ad { DD with nx := fun δ h => DD.nx (un δ i) h, bk := fun δ h => DD.bk (un δ i) h, ct := fun δ h => DD.ct (un δ i) h } (Dv.st δ i (.held ad)) h' | some false => hands tb DD m δ e h' | none => False) := w
    obtain ⟨rfl, rp⟩ := id rx
    cases hb : tb e.cls C with
    | none => rw [hb] at w; exact w.elim
    | some y =>
      rw [hb] at w
      refine ⟨y, ht _ _ _ hb, fun hy => ?_, fun hy ad hn => ?_⟩
      · subst hy
        exact hands_ok ht q r ex s re rx w
      · subst hy
        obtain ⟨e1, e2, w⟩ := w
        have q2 := q.ext ex
        refine ⟨by rw [e1], ?_, ?_⟩
        · rcases rp with rp | ⟨fs, d, vs, h1, _⟩
          · exact rp.2
          · rw [e2] at h1; cases h1
        · exact st ad F' h' H' _ _ _ _ s (re.st (.held ad) i) (w ad) ⟨fun F2 h2 H2 δ2 σ2 g s2 r2 w2 => q2.nx F2 h2 H2 _ _ g s2 (r2.un i none) w2, q2.rt, fun F2 h2 H2 δ2 σ2 g s2 r2 w2 => q2.bk F2 h2 H2 _ _ g s2 (r2.un i none) w2, fun F2 h2 H2 δ2 σ2 g s2 r2 w2 => q2.ct F2 h2 H2 _ _ g s2 (r2.un i none) w2, q2.ex⟩
theorem s_try {tb : Nat → Nat → Option Bool} (ht : ∀ a b y, tb a b = some y → PySem.W.exmOne c.K (.ref (c.ca a)) (.ref (c.ca b)) = some y) {past : WX} {t : WX → TS} {b : DS} {l : List Sf.Cl} {m : List DCl} (sb : ∀ W, SS c W (t W) b) (sh : SHs c past l m) :
    SS c past (fun D sl Hh => (fun W => t W) (Sf.wishA c.K past D l) D sl Hh) (dTry tb b m) := by
  intro F h H δ σ DD D s e w q
  refine sb _ F h H δ σ _ _ s e w ⟨q.nx, q.rt, q.bk, q.ct, fun F' h' H' δ' σ' ex ty dx g s' r' w' rx => ?_⟩
  exact hands_ok ht q sh g s' r' rx w'
/-- isinstance(e, C), isinstance(e, (C, ..)), e the held error of class D0 -/
def dIsE (ad : Addr) (kit : Nat → Nat → Option Bool) (D0 i n : Nat) : DG D := fun δ h X Q => lk δ i = some (.held ad) ∧ ∃ b, kit D0 n = some b ∧ Q (.bl b) h
theorem s_isE {ad : Addr} {kit : Nat → Nat → Option Bool} {D0 n : Nat} (hk : ∀ a b y, kit a b = some y → PySem.W.kitOne c.K (.ref (c.ca a)) (.ref (c.ca b)) = some y) : SE c W (tCB (rIsE c.K (c.ca D0) ad) (tCons (tVar i) (tCons (tC (.ref (c.ca n))) tNil))) (dIsE ad kit D0 i n) := by
  intro F h H δ σ X Q R s e w x q
  obtain ⟨hl, b, hb, w⟩ := w
  obtain ⟨v, hv, rv⟩ := e.2 i _ hl
  cases rv
  exact ⟨_, hv, _, _, b, rfl, fun u r => r, hk _ _ _ hb, q.at_ s (.bl _) w⟩
def anyKit (kit : Nat → Nat → Option Bool) (D0 : Nat) : List Nat → Option Bool
  | [] => some false
  | n :: r => match kit D0 n, anyKit kit D0 r with
    | some a, some b => some (a || b)
    | _, _ => none
def clsTA (ca : Nat → Addr) : List Nat → TA
  | [] => tNil
  | n :: r => tCons (tC (.ref (ca n))) (clsTA ca r)
theorem clsTA_run {ca : Nat → Addr} : ∀ (ns : List Nat) {QA : List V → Hp → Prop}, QA (ns.map fun n => .ref (ca n)) H → clsTA ca ns σ H QA
  | [], _, q => q
  | n :: r, QA, q => clsTA_run (QA := fun xs H2 => QA (.ref (ca n) :: xs) H2) r q
theorem anyKit_ok {kit : Nat → Nat → Option Bool} {D0 : Nat} (hk : ∀ a b y, kit a b = some y → PySem.W.kitOne c.K (.ref (c.ca a)) (.ref (c.ca b)) = some y) : ∀ {ns : List Nat} {b : Bool}, anyKit kit D0 ns = some b → PySem.W.kitAny c.K (.ref (c.ca D0)) (ns.map fun n => .ref (c.ca n)) = some b
  | [], b, h => by cases h; rfl
  | n :: r, b, h => by
    unfold anyKit at h
    cases h1 : kit D0 n with
    | none => rw [h1] at h; cases h
    | some y =>
      cases h2 : anyKit kit D0 r with
      | none => rw [h1, h2] at h; cases h
      | some z =>
        rw [h1, h2] at h
        have e : (y || z) = b := Option.some.inj h
        refine L2.kitAny_cons (hk _ _ _ h1) (fun hy => ?_) (fun hy => ?_)
        · subst hy; rw [← e, Bool.false_or]; exact anyKit_ok hk h2
        · subst hy; rw [← e]; rfl
theorem clsv_all {ca : Nat → Addr} : ∀ ns : List Nat, Paired ClsV (ns.map fun n => V.ref (ca n)) (ns.map fun n => Value.ref (ca n))
  | [] => .nil
  | n :: r => .cons (.own _) (clsv_all r)
def dIsEs (ad : Addr) (kit : Nat → Nat → Option Bool) (D0 i : Nat) (ns : List Nat) : DG D := fun δ h X Q => lk δ i = some (.held ad) ∧ ∃ b, anyKit kit D0 ns = some b ∧ Q (.bl b) h
theorem s_isEs {ad : Addr} {kit : Nat → Nat → Option Bool} {D0 : Nat} {ns : List Nat} (hk : ∀ a b y, kit a b = some y → PySem.W.kitOne c.K (.ref (c.ca a)) (.ref (c.ca b)) = some y) (hl : ns.length ≤ 1000) :
    SE c W (tCB (rIsEs c.K (c.ca D0) ad) (tCons (tVar i) (tCons (tTup (clsTA c.ca ns)) tNil))) (dIsEs ad kit D0 i ns) := by
  intro F h H δ σ X Q R s e w x q
  obtain ⟨hlk, b, hb, w⟩ := w
  obtain ⟨v, hv, rv⟩ := e.2 i _ hlk
  cases rv
  refine ⟨_, hv, ?_⟩
  show tTup (clsTA c.ca ns) σ H fun x H1 => tNil σ H1 fun xs H2 => _
  refine clsTA_run ns ⟨sz (by rw [List.length_map]; omega), fun p hp => ?_⟩
  refine ⟨p, _, _, b, rfl, upd_same, clsv_all ns, anyKit_ok hk hb, ?_⟩
  exact q F h _ _ _ (Ext.new hp) (s.new hp) (.bl _) w
end
/-! ### tables of classes -/
def tbl : List (Nat × Nat × Bool) → Nat → Nat → Option Bool
  | [], _, _ => none
  | (p, q, v) :: r, a, b => if a = p ∧ b = q then some v else tbl r a b
inductive AllT (P : Nat → Nat → Bool → Prop) : List (Nat × Nat × Bool) → Prop
  | nil : AllT P []
  | cons {p q : Nat} {v : Bool} {r : List (Nat × Nat × Bool)} : P p q v → AllT P r → AllT P ((p, q, v) :: r)
theorem tbl_ok {P : Nat → Nat → Bool → Prop} {l : List (Nat × Nat × Bool)} (h : AllT P l) : ∀ a b y, tbl l a b = some y → P a b y := by
  induction h with
  | nil => intro a b y z; cases z
  | cons hp _ ih =>
    intro a b y z
    unfold tbl at z
    split at z
    · rename_i e
      obtain ⟨rfl, rfl⟩ := e
      cases z
      exact hp
    · exact ih a b y z
/-! ### level 0 -/
section
variable {Pg : Program} {wo : World} {Kf : PySem.W.Frag} {glo : Str → Option Value} {bs : Heap} {cx : CXT} {lv : Nat} {ad : Addr} {fu : FuncData} {pl : List Str} {pr : Sp} {c : Cc} {S : DSpec}
theorem fn_zero (h : ∀ a b q e, ¬ pr a b q e) : FnOk Pg wo Kf glo bs cx lv ad fu pl pr := ⟨fun a b q e z => (h a b q e z).elim, fun _ _ _ _ _ _ _ _ _ _ _ _ _ z => (h _ _ _ _ z).elim⟩
theorem fng_zero (h : ∀ a b q e, ¬ pr a b q e) : FnG Pg wo Kf glo bs cx lv ad fu pl pr := ⟨fun a b q e z => (h a b q e z).elim, fun _ _ _ _ _ _ _ _ _ _ _ _ _ _ z => (h _ _ _ _ z).elim⟩
theorem spX_no (h : ∀ ds h X Q, ¬ S ds h X Q) : ∀ a b q e, ¬ spX c S a b q e := fun a b q e ⟨F, hh, ds, X, Qd, _, _, z, _⟩ => h _ _ _ _ z
theorem spN_no (h : ∀ ds h X Q, ¬ S ds h X Q) : ∀ a b q e, ¬ spN c S a b q e := fun a b q e ⟨F, hh, ds, Qd, _, _, z, _⟩ => h _ _ _ _ z
end
end Dv
/-! an error that leaves a comprehension -/
namespace Dv
open PySem PySem.Spec PyProof.Rows L2 Sf
/-- an error flies in X, out of a call: what stood before it is a state of X -/
def FX (X : Cx) (E : XK) (er : Value) (t : Shared) : Prop :=
  ∃ (ea : Addr) (G : Heap) (t0 : Shared) (pl : List (Addr × Obj)) (sl : L2.St) (Hh : Hp) (ty : Value) (dx : Option Addr),
    er = .ref ea ∧ Inv X pl sl Hh t0 ∧ (∀ b o, t0.heap.get? b = some o → b ∉ frs X.stack → G.get? b = some o) ∧ t0.heap.UpToSlots t.heap ∧
      HandSPX.FlyingZ G X.stack ea (Zc ty dx) t.heap ∧ Hh ea = none ∧ t.os = t0.os ∧ AllBare t.gens ∧ E ty dx Hh
theorem zc_one {o : Obj} {t u : Value} {d e : Option Addr} (a : Zc t d o) (b : Zc u e o) : t = u ∧ d = e := ⟨a.1.symm.trans b.1, a.2.symm.trans b.2⟩
theorem fx_call {X : Cx} {E : XK} {pl : List (Addr × Obj)} {sl : L2.St} {Hh : Hp} {t0 t : Shared} {er : Value} (I : Inv X pl sl Hh t0) (cx : L2.CX X.prog X.w X.stack Hh t0 E er t) : FX X E er t := by
  have x := XE.of_call (W := fun ty dx _ H => E ty dx H) I (fun _ _ _ z => z) cx
  obtain ⟨ea, B, H1, ty, dx, rfl, fl, _⟩ := cx
  obtain ⟨eb, G, t1, pl1, sl1, H2, ty1, dx1, e1, J, nb, up, sky, na, os, ag, w⟩ := x
  obtain rfl := Value.ref.inj e1
  obtain ⟨_, _, _, oe, vs, T, oT, ts, g1, gz, g2, g3, _, _, g4, g5, g6⟩ := fl
  rcases sky with ⟨_, _, _, oe2, vs2, k1, _, k2, k3⟩ | fl2 | ⟨q1, q2, q3, oe2, vs2, T2, oT2, ts2, k1, kz, k2, k3, k4, k5, k6, k7, k8⟩
  · rw [g1] at k1
    obtain rfl := Option.some.inj k1
    rw [g2] at k2
    injection k2 with k2
    subst k2
    rw [g3] at k3
    cases k3
  · exact ⟨ea, G, t1, pl1, sl1, H2, ty1, dx1, rfl, J, nb, up, fl2, na, os, ag, w⟩
  · rw [g1] at k1
    obtain rfl := Option.some.inj k1
    rw [g2] at k2
    injection k2 with k2
    subst k2
    rw [g3] at k3
    obtain rfl := Value.ref.inj (Option.some.inj k3)
    rw [g4] at k6
    obtain rfl := Option.some.inj k6
    rw [g5] at k7
    injection k7 with k7
    subst k7
    rw [g6] at k8
    have := Option.some.inj k8
    simp [rawInt] at this
/-- the block of a comprehension whose element may raise -/
abbrev bx (X : Cx) (E : XK) (s : Shared) (Hh : Hp) (sc : Scope) (ce : Env) (fp : List Addr) : Cx := { X.blk s Hh sc ce fp with xe := FX (X.blk s Hh sc ce fp) E }
theorem bx_passes {X : Cx} {E : XK} {s : Shared} {Hh : Hp} {sc : Scope} {ce : Env} {fp : List Addr} : Passes (L2.CX X.prog X.w) (bx X E s Hh sc ce fp) E := fun pl sl H2 t0 er t I cx => fx_call (X := X.blk s Hh sc ce fp) (I.wish fun _ _ => False) cx
theorem traced_but {g h1 h2 : Heap} {ea C : Addr} {Z : Obj → Prop} {fl : Value} {m : Str → Option Value} (t : HandSPX.TracedZ h1 g ea Z fl) (ns : h1.Ns C m) (sb : Heap.SameBut C h1 h2) : HandSPX.TracedZ h2 g ea Z fl ∧ ea ≠ C := by
  obtain ⟨oe, vs, T, oT, ts, g1, gz, g2, g3, g0, gn, g4, g5, g6⟩ := t
  obtain ⟨oC, es, ep, c1, c2, _⟩ := ns
  have n1 : ea ≠ C := fun z => by
    subst z; rw [g1] at c1; injection c1 with c1; subst c1; rw [g2] at c2; cases c2
  have n2 : T ≠ C := fun z => by
    subst z; rw [g4] at c1; injection c1 with c1; subst c1; rw [g5] at c2; cases c2
  exact ⟨⟨oe, vs, T, oT, ts, (sb.2 ea n1).trans g1, gz, g2, g3, g0, gn, (sb.2 T n2).trans g4, g5, g6⟩, n1⟩
theorem traced_ground {g g' h1 : Heap} {ea : Addr} {Z : Obj → Prop} {fl : Value} (t : HandSPX.TracedZ h1 g ea Z fl) (k : ∀ b o, (∃ vs, o.data = .fields vs) → h1.get? b = some o → g.get? b = none → g'.get? b = none) : HandSPX.TracedZ h1 g' ea Z fl := by
  obtain ⟨oe, vs, T, oT, ts, g1, gz, g2, g3, g0, gn, g4, g5, g6⟩ := t
  exact ⟨oe, vs, T, oT, ts, g1, gz, g2, g3, k T oT ⟨_, g5⟩ g4 g0, gn, g4, g5, g6⟩
theorem frames_out {g h : Heap} : ∀ {l : List Env}, h.FunFrames g l → ∀ L ∈ frs l, g.get? L = none
  | [], _, L, hm => by simp [frs] at hm
  | en :: l, f, L, hm => by
    obtain ⟨_, ⟨L0, o, hf, h0, _, _⟩, hr⟩ := f
    simp only [frs, List.filterMap_cons, hf] at hm
    rcases List.mem_cons.mp hm with e | hm
    · rw [e]; exact h0
    · exact frames_out hr L hm
/-- the error goes on in the def's own frame -/
theorem fx_out {X : Cx} {E : XK} {pins : List (Addr × Obj)} {s0 : Shared} {H3 : Hp} {sc : Scope} {ce : Env} {fp : List Addr} {er : Value} {t : Shared} {σ : L2.St} (hs : X.stack = X.env :: X.outer) (hf : X.env.frame = some X.env.locals) (tk : Takes X (wX E)) (hce : ce.frame = X.env.frame) (hC : ce.locals = s0.heap.objs.size)
    (I3 : Inv X pins σ H3 s0) (f3 : ∀ b ∈ fp, FpOk X pins H3 b) (fx : FX (X.blk s0 H3 sc ce fp) E er t) :
    notedBy (model X.prog X.w) X.A ce (CompFails (model X.prog X.w) X.A X.xe ce) er t := by
  obtain ⟨ea, G, t0, pl, sl, Hh, ty, dx, rfl, J, nb, up, fl, na, os, ag, w⟩ := fx
  have nb : ∀ b o, t0.heap.get? b = some o → b ∉ frs X.stack → G.get? b = some o := nb
  have fl : HandSPX.FlyingZ G X.stack ea (Zc ty dx) t.heap := fl
  obtain ⟨mC, nsC, _⟩ := J.loc
  have nsC : t0.heap.Ns ce.locals mC := nsC
  have I9 : Inv X pins σ Hh t0 := I3.call' (ch := fp) J.os J.base J.hok J.bare fun b hb => ⟨(f3 b hb).2.2.2.1, (f3 b hb).2.1, (f3 b hb).2.2.2.2.1, (f3 b hb).2.2.2.2.2⟩
  have freeC : Hh ce.locals = none := J.free
  have CnF : ce.locals ∉ frs X.stack := by
    intro hm
    rcases List.mem_cons.mp (I3.stkSub _ hm) with z | z
    · have h1 := I3.lt
      rw [← z, hC] at h1
      exact Nat.lt_irrefl _ h1
    · exact I3.nofs (a := ce.locals) (by rw [hC]; exact Nat.le_refl _) z
  -- the ground without the block's names
  obtain ⟨G2, g1, g2⟩ := restrict G fun b => decide (b ≠ ce.locals)
  have gle : ∀ b o, G2.get? b = some o → G.get? b = some o ∧ b ≠ ce.locals := fun b o e => by
    by_cases hb : b = ce.locals
    · rw [g2 b (by simp [hb])] at e; cases e
    · rw [g1 b (by simp [hb])] at e; exact ⟨e, hb⟩
  have gno : ∀ b, G.get? b = none → G2.get? b = none := fun b e => by
    cases q : G2.get? b with
    | none => rfl
    | some o => rw [(gle b o q).1] at e; cases e
  obtain ⟨x1, x2, x3, x4⟩ := fl
  have out := frames_out x3
  have fl2 : HandSPX.FlyingZ G2 X.stack ea (Zc ty dx) t.heap := ⟨fun b o e => x1 b o (gle b o e).1, gno _ x2, funFrames_none x3 fun L hL => gno _ (out L hL), traced_ground x4 fun b o _ _ e => gno _ e⟩
  have frm : X.A.frames = some (X.env :: X.outer) := I3.ok.frames.trans (congrArg some hs)
  show wpAny (model X.prog X.w) X.A (noteFrame (.ref ea) ce) _ _ t
  rw [noteFrame_env _ hce]
  rw [hs] at fl2
  refine HandSPX.looks_onZ Zc.steady frm hf fl2 fun h1 held up1 => ?_
  have ns1 : h1.Ns ce.locals mC := (nsC.upToSlots up).upToSlots up1
  refine ⟨mC, ns1, fun h2 m2 ns2 sb => ?_⟩
  obtain ⟨y1, y2, y3, y4⟩ := held
  obtain ⟨tr2, neC⟩ := traced_but y4 ns1 sb
  have st2 : G2.StaysIn h2 := fun b o e => (sb.2 b (gle b o e).2).trans (y1 b o e)
  have ff2 : h2.FunFrames G2 (X.env :: X.outer) := Heap.FunFrames.sameBut sb ns2 y3
  obtain ⟨oe, vs, T, oT, ts, q1, qz, q2, q3, q0, qn, q4, q5, q6⟩ := id tr2
  unfold PySem.passOn
  refine wpAny_bind (wpAny_field q1 q2 q3 ?_)
  rw [if_neg (show ¬ ((Value.ref T == Value.none) = true) from by simp), hce, hf]
  refine wpAny_bind (HandSPX.setFlight_onZ (l := X.env :: X.outer) ⟨st2, y2, ff2, tr2⟩ fun h3 held3 up3 => wpAny_throw (tk _ _ ?_))
  obtain ⟨oC, es, ep, c1, c2, c3⟩ := ns2
  obtain ⟨slC, c4⟩ := up3 _ _ c1 fun vs z => by rw [c2] at z; cases z
  -- the state before the error, the block's names as they are left
  obtain ⟨oC0, es0, ep0, d1, d2, d3⟩ := nsC
  have fr : (({ oC with slots := slC } : Obj)).isFreed = false := (Heap.get?_some_iff.mp c4).2
  have u1 : (t0.heap.update ce.locals fun _ => { oC with slots := slC }).get? ce.locals = some { oC with slots := slC } := Heap.get?_update_self _ d1 fr
  have u2 : ∀ b, b ≠ ce.locals → (t0.heap.update ce.locals fun _ => { oC with slots := slC }).get? b = t0.heap.get? b := fun b hb => Heap.get?_update_other _ _ (Ne.symm hb)
  obtain ⟨z1, z2, z3, z4⟩ := held3
  obtain ⟨G3, p1, p2⟩ := restrict h3 fun b => (G2.get? b).isSome || decide (b = ce.locals)
  have gno3 : ∀ b, b ≠ ce.locals → G2.get? b = none → G3.get? b = none := fun b hb e => p2 b (by simp [hb, e])
  have g3in : ∀ b o, G3.get? b = some o → h3.get? b = some o := fun b o e => by
    cases q : ((G2.get? b).isSome || decide (b = ce.locals)) with
    | false => rw [p2 b q] at e; cases e
    | true => rw [p1 b q] at e; exact e
  have out2 := frames_out z3
  obtain ⟨f0, f1, f2, f4, f5, f6⟩ : FpOk X pins Hh ce.locals := by
    rw [hC]
    exact I3.fpOk (Nat.le_refl _) (by rw [← hC]; exact freeC)
  refine ⟨ea, G3, { t0 with heap := t0.heap.update ce.locals fun _ => { oC with slots := slC } }, pins, σ, Hh, ty, dx, rfl, I9.turned (t' := t0.toks) (fun b o hb e => (u2 b hb).trans e) f0 f1 f4 f5 f6, fun b o e hb => ?_, fun b o e hd => ?_, .inr (.inr ?_), na, os, ag, w⟩
  · by_cases hbC : b = ce.locals
    · subst hbC
      have e : (t0.heap.update ce.locals fun _ => { oC with slots := slC }).get? ce.locals = some o := e
      rw [u1] at e
      rw [p1 _ (by simp), c4, e]
    · have e : (t0.heap.update ce.locals fun _ => { oC with slots := slC }).get? b = some o := e
      rw [u2 b hbC] at e
      have g := nb b o e hb
      have g' : G2.get? b = some o := by rw [g1 b (by simp [hbC])]; exact g
      rw [p1 b (by simp [g'])]
      exact z1 b o g'
  · by_cases hbC : b = ce.locals
    · subst hbC
      have e : (t0.heap.update ce.locals fun _ => { oC with slots := slC }).get? ce.locals = some o := e
      rw [u1] at e
      have e := Option.some.inj e
      subst e
      exact ⟨slC, c4⟩
    · have e : (t0.heap.update ce.locals fun _ => { oC with slots := slC }).get? b = some o := e
      rw [u2 b hbC] at e
      obtain ⟨s1, e1⟩ := up b o e hd
      obtain ⟨s2, e2⟩ := up1 b _ e1 hd
      obtain ⟨s3, e3⟩ := up3 b _ ((sb.2 b hbC).trans e2) hd
      exact ⟨s3, e3⟩
  · rw [hs]
    refine ⟨g3in, gno3 _ neC (gno _ x2), funFrames_none z3 fun L hL => gno3 L (fun z => ?_) (out2 L hL), traced_ground z4 fun b o hd e g => gno3 b (fun z => ?_) g⟩
    · rw [hs] at CnF
      exact CnF (z ▸ hL)
    · subst z
      have e : h3.get? ce.locals = some o := e
      rw [c4] at e
      obtain ⟨vs, hd⟩ := hd
      have e := Option.some.inj e
      subst e
      rw [show ({ oC with slots := slC } : Obj).data = oC.data from rfl, c2] at hd
      cases hd
end Dv
namespace Dv
open PySem PySem.Spec PyProof.Rows L2 Sf
theorem lcx_core {X : Cx} {E : XK} {pins : List (Addr × Obj)} {s : Shared} {σ : L2.St} {H : Hp} {Q : VK} {elt tg iter : Expr} {ifs : List Expr} {sc : Scope} {own : List (Str × Nat)} {pos pos' : Pos} {wi : TI} {g : TG} {tt : TT} {te : TE} {use : Option (Value → Sem Unit)} {Qf : Value → Shared → Prop}
    (hst : X.stack = X.env :: X.outer) (hfr : X.env.frame = some X.env.locals) (tk : Takes X (wX E)) (hcalm : X.calm = true) (hnd : X.N.Nodup) (I : Inv X pins σ H s) (hi : PI X tg iter wi) (okb : BlkOk X.N X.env.scope sc own)
    (pG : ∀ (t : Shared) (Hh : Hp) (C : Addr) (cl : List (Str × Addr)) (fp : List Addr), PG (bx X E t Hh sc (compEnvC sc cl C X.env) fp) tg g)
    (pT : ∀ (t : Shared) (Hh : Hp) (C : Addr) (cl : List (Str × Addr)) (fp : List Addr), PTs (bx X E t Hh sc (compEnvC sc cl C X.env) fp) ifs tt)
    (pE : ∀ (t : Shared) (Hh : Hp) (C : Addr) (cl : List (Str × Addr)) (fp : List Addr), PE (bx X E t Hh sc (compEnvC sc cl C X.env) fp) elt te) (hset : ∀ x, foldedSetIterable iter X.env x = pure x)
    (rd : tLc wi g tt te (own.map (·.2)) σ H Q)
    (fin : ∀ D C t m H1, Inv X pins σ H1 t → Q (.ref D) H1 → t.heap.Ns C m → FpOk X pins H1 C → ∀ ce : Env, ce.locals = C → compEnds (model X.prog X.w) X.A X.xe use Qf (.ref D) ce (.ok .next) t) :
    wpAny (model X.prog X.w) X.A (comprehension (.ListComp elt [⟨tg, iter, ifs, 0⟩] sc pos) sc X.env pos' (newList []) false (eval iter X.env) use) Qf X.xe s := by
  have clos : ∀ y ∈ sc.names, y.2 = .free → ∃ c, X.env.cells.lookup y.1 = some c := fun y hy e => by
    rcases okb.free y hy e with z | z
    · exact I.ok.has _ (.inl z)
    · exact I.ok.has _ (.inr z)
  refine comprehension_at (use := use) rfl hset (closure_ok clos) okb.kind (fun y hy e => by rw [okb.uniq y hy, e]) (thn (hi.run pins s σ H _ I rd) fun xv sa hx => thn hx fun itv sb hb => ?_)
  obtain ⟨it, fp, tn, J, Hb, rfl, Ib, T, stb, fpb, q⟩ := hb
  refine wpAny_newObj_type (newEnv_comp ?_) (by show 0 ≤ sizeLine; decide)
  generalize hD : sb.heap.objs.size = Dd
  have freeD : Hb Dd = none := Ib.hok.fresh (Nat.le_of_eq hD)
  obtain ⟨Wd, ⟨n0, begin_⟩, turn⟩ := q Dd freeD
  generalize hsc : ({ sb with heap := sb.heap.push { cls := .type "list", data := .seq ([] : List Value).toArray } } : Shared) = sl
  have Il : Inv X pins σ (upd Hb Dd (.lst [])) sl := by
    subst hsc
    refine Ib.laid (t' := sb.toks) (fun b o e => Heap.get?_push_of_some _ e) (Nat.le_of_eq hD) ⟨Nat.zero_le _, [], 0, .nil, ?_⟩
    subst hD
    exact Heap.get?_push_size _ rfl
  have heapl : sl.heap = sb.heap.push { cls := .type "list", data := .seq ([] : List Value).toArray } := by subst hsc; rfl
  have low : ∀ b ∈ fp, b < sb.heap.objs.size := fun b hb => by
    obtain ⟨o, e, _⟩ := T.obj _ _ stb b hb
    exact Heap.lt_size e
  have fpl : ∀ b ∈ fp, FpOk X pins (upd Hb Dd (.lst [])) b ∧ b < sl.heap.objs.size := fun b hb => by
    have lt := low b hb
    refine ⟨⟨?_, (fpb b hb).2⟩, by rw [heapl, Heap.size_push]; exact Nat.lt_succ_of_lt lt⟩
    rw [upd_ne (by rw [← hD]; exact Nat.ne_of_lt lt)]
    exact (fpb b hb).1
  have stl : tn 0 sl.heap := T.keep _ _ _ stb fun b _ o e => by rw [heapl]; exact Heap.get?_push_of_some _ e
  have Im := block_start Il okb hnd fpl
  have kG := pG sl (upd Hb Dd (.lst [])) sl.heap.objs.size (cellsFrom (sl.heap.objs.size + 1) sc.names (cloFrom X.env.cells sc.names [])) fp
  have kT := pT sl (upd Hb Dd (.lst [])) sl.heap.objs.size (cellsFrom (sl.heap.objs.size + 1) sc.names (cloFrom X.env.cells sc.names [])) fp
  have kE := pE sl (upd Hb Dd (.lst [])) sl.heap.objs.size (cellsFrom (sl.heap.objs.size + 1) sc.names (cloFrom X.env.cells sc.names [])) fp
  show codeAny _ _ (.compStart (.ListComp elt [⟨tg, iter, ifs, 0⟩] sc pos) 0 (.ref it) (.ref Dd) (compEnvC sc (cellsFrom (sl.heap.objs.size + 1) sc.names (cloFrom X.env.cells sc.names [])) sl.heap.objs.size X.env)) (compEnds (model X.prog X.w) X.A X.xe use Qf (.ref Dd) (compEnvC sc (cellsFrom (sl.heap.objs.size + 1) sc.names (cloFrom X.env.cells sc.names [])) sl.heap.objs.size X.env)) _
  have nofp : ∀ b ∈ fp, (upd Hb Dd (.lst [])) b = none := fun b hb => (fpl b hb).1.1
  generalize hce : compEnvC sc (cellsFrom (sl.heap.objs.size + 1) sc.names (cloFrom X.env.cells sc.names [])) sl.heap.objs.size X.env = ce at Im kG kT kE ⊢
  have ceL : ce.locals = sl.heap.objs.size := by subst hce; rfl
  have ceF : ce.frame = X.env.frame := by subst hce; rfl
  generalize hHl : upd Hb Dd (.lst []) = Hl at Il Im kG kT kE begin_ nofp fpl
  generalize hsm : ({ sl with heap := pushCells (sl.heap.push { cls := .type "dict", data := .dict #[] }) sc.names } : Shared) = sm at Im ⊢
  have stm : tn 0 sm.heap := T.keep _ _ _ stl fun b _ o e => by rw [← hsm]; exact pushCells_keeps _ _ _ _ (Heap.get?_push_of_some _ e)
  have fpx : ∀ {σ1 : L2.St} {H1 : Hp} {t : Shared}, Inv (X.blk sl Hl sc ce fp) [] σ1 H1 t → (∀ b ∈ fp, H1 b = none) → ∀ b ∈ fp, FpOk (X.blk sl Hl sc ce fp) [] H1 b := fun {σ1 H1 t} I1 hn b hb =>
    ⟨hn b hb, (I1.ok.exf b hb).1, I1.ok.exfs b hb, .inl hb, fun x c e => (I1.ok.exf b hb).2 x c e, fun p hp => absurd (show p ∈ ([] : List (Addr × Obj)) ++ [] from hp) (by simp)⟩
  -- what is raised goes out
  have raised : ∀ er t, FX (X.blk sl Hl sc ce fp) E er t → notedBy (model X.prog X.w) X.A ce (CompFails (model X.prog X.w) X.A X.xe ce) er t := fun er t z => fx_out hst hfr tk ceF ceL Il (fun b hb => (fpl b hb).1) z
  have loop : codeAny (model X.prog X.w) X.A (.compLoop (.ListComp elt [⟨tg, iter, ifs, 0⟩] sc pos) 0 (.ref it) (.ref Dd) ce) (compEnds (model X.prog X.w) X.A X.xe use Qf (.ref Dd) ce) sm := by
    refine compLoop_any (fun n t => ∃ i H1, Inv (X.blk sl Hl sc ce fp) [] (L2.wipe σ (own.map (·.2))) H1 t ∧ tn i t.heap ∧ (∀ b ∈ fp, H1 b = none) ∧ Wd i n H1) ?_ n0 ⟨0, Hl, Im, stm, nofp, begin_⟩
    rintro n s5 ⟨i, H5, I5, st5, n5, w5⟩
    have ends : ∀ (x : Result) (t : Shared), compEnds (model X.prog X.w) X.A X.xe use Qf (.ref Dd) ce x t = compEnds (model X.prog X.w) X.A X.xe use Qf (.ref Dd) ce x t := fun _ _ => rfl
    have errs : (fun e s' => compEnds (model X.prog X.w) X.A X.xe use Qf (.ref Dd) ce (.error e) s') = CompFails (model X.prog X.w) X.A X.xe ce := by
      funext e s'
      cases use <;> rfl
    rw [errs]
    rcases turn i n H5 w5 with ⟨stop, qq⟩ | ⟨go, Nx, hNx, step⟩
    · have td := T.done (X.blk sl Hl sc ce fp) rfl rfl rfl hcalm i [] s5 _ H5 (fun _ _ => False) I5 (fpx I5 n5) st5 stop
      refine thnF td fun r s6 ⟨hr, I6⟩ => ?_
      subst hr
      have I7 : Inv X pins σ H5 s6 := Il.call' (ch := fp) I6.os I6.base I6.hok I6.bare fun b hb => ⟨(fpl b hb).1.2.2.2.1, (fpl b hb).1.2.1, (fpl b hb).1.2.2.2.2.1, (fpl b hb).1.2.2.2.2.2⟩
      have nC : H5 ce.locals = none := I6.free
      obtain ⟨m, hn, _⟩ := I6.loc
      have hn : s6.heap.Ns ce.locals m := hn
      exact fin Dd ce.locals s6 m H5 I7 qq hn (by rw [ceL]; exact Il.fpOk (Nat.le_refl _) (by rw [← ceL]; exact nC)) ce rfl
    · have ti := T.item (X.blk sl Hl sc ce fp) rfl rfl rfl hcalm i [] s5 _ H5 (fun _ _ => False) I5 (fpx I5 n5) st5 go
      refine thnF ti fun r s6 ⟨u, hr, h6⟩ => ?_
      subst hr
      refine thnF h6 fun _ s7 ⟨x, H7, I7, r7, y7, st7, n7⟩ => ?_
      have I7' := I7.pinned (fpx I7 n7) (T.obj _ _ st7)
      refine wpAny_mono (kG.run _ s7 _ H7 x u _ (I7'.wish _) r7 (step x H7 y7)) (fun _ s8 ⟨σ8, H8, I8, hw8, q8⟩ => ?_) raised
      refine wpAny_mono (kT.run _ s8 σ8 H8 _ I8 q8) (fun b s9 ⟨H9, I9, q9⟩ => ?_) raised
      have back : ∀ {t : Shared} {H1 : Hp}, Inv (X.blk sl Hl sc ce fp) ([] ++ pinsAt fp s7.heap) σ8 H1 t → Nx H1 → ∃ m, m < n ∧ ∃ i H1, Inv (X.blk sl Hl sc ce fp) [] (L2.wipe σ (own.map (·.2))) H1 t ∧ tn i t.heap ∧ (∀ b ∈ fp, H1 b = none) ∧ Wd i m H1 := fun {t H1} I1 nx => by
        obtain ⟨m', hm, w'⟩ := hNx H1 nx
        have pinned : ∀ b ∈ fp, ∀ o, s7.heap.get? b = some o → t.heap.get? b = some o ∧ H1 b = none := fun b hb o e =>
          let z := I1.pin (b, o) (List.mem_append_right _ (List.mem_append_right _ (mem_pinsAt hb e)))
          ⟨z.1, z.2.1⟩
        have len8 : (L2.wipe σ (own.map (·.2))).length = σ8.length := by rw [← hw8, wipe_length]
        refine ⟨m', hm, i + 1, H1, (I1.unpinned (pins := [])).weak len8 (fun j v e => ?_), T.keep _ _ _ st7 fun b hb o e => (pinned b hb o e).1, fun b hb => ?_, w'⟩
        · rw [← hw8] at e
          exact (wipe_some e).1
        · obtain ⟨o, e, _⟩ := T.obj _ _ st7 b hb
          exact (pinned b hb o e).2
      cases b with
      | false =>
        simp only [Bool.false_eq_true, if_false] at q9 ⊢
        exact back (I9.wish _) q9
      | true =>
        simp only [if_true] at q9 ⊢
        refine wpAny_mono (kE.run _ s9 σ8 H9 _ I9 q9) (fun z s10 ⟨yv, H10, I10, r10, acc, hD10, hz10, nx⟩ => ?_) raised
        exact app_ok (X := X.blk sl Hl sc ce fp) (I10.wish _) hD10 hz10 r10 fun s11 I11 => back I11 nx
  exact codeAny_compStart_list loop (T.self X.A 0 _ _ _ stm loop)
section
variable {X : Cx} {E : XK}
theorem pe_lcx {elt tg iter : Expr} {ifs : List Expr} {sc : Scope} {own : List (Str × Nat)} {pos : Pos} {wi : TI} {g : TG} {tt : TT} {te : TE} (hst : X.stack = X.env :: X.outer) (hfr : X.env.frame = some X.env.locals) (tk : Takes X (wX E)) (hcalm : X.calm = true) (hnd : X.N.Nodup) (hi : PI X tg iter wi) (okb : BlkOk X.N X.env.scope sc own)
    (pG : ∀ (t : Shared) (Hh : Hp) (C : Addr) (cl : List (Str × Addr)) (fp : List Addr), PG (bx X E t Hh sc (compEnvC sc cl C X.env) fp) tg g)
    (pT : ∀ (t : Shared) (Hh : Hp) (C : Addr) (cl : List (Str × Addr)) (fp : List Addr), PTs (bx X E t Hh sc (compEnvC sc cl C X.env) fp) ifs tt)
    (pE : ∀ (t : Shared) (Hh : Hp) (C : Addr) (cl : List (Str × Addr)) (fp : List Addr), PE (bx X E t Hh sc (compEnvC sc cl C X.env) fp) elt te) (hset : ∀ x, foldedSetIterable iter X.env x = pure x := by intro _; rfl) :
    PE X (.ListComp elt [⟨tg, iter, ifs, 0⟩] sc pos) (tLc wi g tt te (own.map (·.2))) := by
  refine ⟨fun pins s σ H Q I rd => ?_⟩
  rw [eval_ListComp]
  refine lcx_core hst hfr tk hcalm hnd I hi okb pG pT pE hset rd fun Dd C t m H1 I1 q hn f ce hce => ?_
  subst hce
  obtain ⟨f0, f1, f2, f3, f4, f5⟩ := f
  exact ⟨m, hn, fun h2 sb => ⟨.ref Dd, H1, I1.turned (t' := t.toks) (fun b o hb e => (sb.2 b hb).trans e) f0 f1 f3 f4 f5, rfl, q⟩⟩
end
end Dv
namespace Dv
open PySem PySem.Spec PyProof.Rows L2 Sf
section
variable {c : Cc} {F F' F'' : Fs} {h h' : MH} {H H' H'' : Hp} {l : Addr} {σ σ' : L2.St} {X : DXc} {E : XK}
theorem RelX.tr {e : Exn} {ty : Value} {dx : Option Addr} (r : RelX c F H e ty dx) (t : Tr F H F' H') : RelX c F' H' e ty dx := ⟨r.1, by
  rcases r.2 with r | ⟨fs, d, vs, h1, h2, h3, h4, h5⟩
  · exact .inl r
  · exact .inr ⟨fs, d, vs, h1, h2, (t.fr _ _ h4 h3).2, (t.fr _ _ h4 h3).1, h5.tr t⟩⟩
theorem XOk.blk (x : XOk c (wX E) F H σ X) (e : Ext F H F' H') : XOk c (wX E) (F'.block l) H' σ' X := fun F2 h2 H2 ex ty dx g s w r => by
  have eb : F2.bl = l :: F'.bl := g.bl
  rw [e.bl] at eb
  have o := Ext.out e g
  have eF := blk_eta eb
  rw [eF] at s r
  exact x _ h2 H2 ex ty dx o s.unblock w (r.tr Tr.unblock)
def dLcX (it : DIt) (g : DTg) (t : DG Bool) (te : DG D) (ws : List Nat) : DG D := fun δ h X Q => it δ h X fun xs ok h1 => ∃ I : Nat → List D → MH → Prop, I 0 [] h1 ∧
  (∀ i acc h x, I i acc h → xs[i]? = some x → ok h ∧ g x (unL δ ws) h fun δ2 h2 => t δ2 h2 noX fun b h3 => ifd b (te δ2 h3 X fun y h4 => acc.length < sizeLine ∧ I (i + 1) (acc ++ [y]) h4) (I (i + 1) acc h3)) ∧
  ∀ acc h, I xs.length acc h → ok h ∧ newL acc h Q
theorem s_lcx {wi : TI} {di : DIt} {g : TG} {wg : DTg} {tt : TT} {wt : DG Bool} {te : TE} {we : DG D} {ws : List Nat} (si : SI c (wX E) wi di) (sg : STg c g wg) (hw : Wp g ws) (st : ST c (wX E) tt wt) (se : SE c (wX E) te we) : SE c (wX E) (tLc wi g tt te ws) (dLcX di wg wt we ws) := by
  intro F h H δ σ X Q R s e w x q
  refine si F h H δ σ _ _ _ s e w x fun F1 h1 H1 xs ok J e1 s1 io w1 => ?_
  obtain ⟨I, i0, step, fin⟩ := w1
  intro l hl
  have nb := s1.nbl hl
  refine ⟨fun i m H' => m + i = xs.length ∧ ∃ F' h' acc va, Ext F1 H1 F' H' ∧ Sim c (F'.block l) h' H' ∧ H' l = some (.lst va) ∧ RelDs c (F'.block l) H' acc va ∧ I i acc h',
    ⟨xs.length, rfl, F1, h1, [], [], (Ext.refl _ _).mutO hl, s1.block hl, upd_same, .nil, i0⟩, ?_⟩
  rintro i m H' ⟨hm, F2, h2, acc, va, e2, s2, a2, r2, w2⟩
  have tr := e2.trB hl
  cases hx : xs[i]? with
  | none =>
    have hlen := List.getElem?_eq_none_iff.mp hx
    have hi : i = xs.length := by omega
    subst hi
    obtain ⟨k, w3⟩ := fin _ _ w2
    refine .inl ⟨(io _ h2 H' tr s2 k).2 _ (Nat.le_refl _), ?_⟩
    rcases w3 with w3 | w3
    · refine q (F2.add l) _ _ _ _ (e1.trans (e2.addO hl)) (s2.adopt a2 r2 (by rw [e2.bl]; exact nb)) (.ref ?_) w3
      show (F2.cs ++ [l])[h2.length]? = _
      have ln : F2.cs.length = h2.length := s2.len
      rw [← ln, List.getElem?_append_right (Nat.le_refl _), Nat.sub_self]; rfl
    · exact q F2 _ _ _ _ (e1.trans e2) s2.unblock (.lst ⟨fun m => s2.ap l m List.mem_cons_self, by rw [e2.bl]; exact nb⟩ a2 (r2.tr Tr.unblock)) w3
  | some x0 =>
    have hlen := (List.getElem?_eq_some_iff.mp hx).1
    obtain ⟨k, w3⟩ := step _ _ _ _ w2 hx
    obtain ⟨go, yl⟩ := (io _ h2 H' tr s2 k).1 i x0 hx
    refine .inr ⟨go, fun H' => (m - 1) + (i + 1) = xs.length ∧ ∃ F' h' acc va, Ext F1 H1 F' H' ∧ Sim c (F'.block l) h' H' ∧ H' l = some (.lst va) ∧ RelDs c (F'.block l) H' acc va ∧ I (i + 1) acc h', fun H' z => ⟨m - 1, by omega, z⟩, fun u H3 y => ?_⟩
    obtain ⟨e3, s3, r3⟩ := yl u H3 y
    have eδ : RelE c (F2.block l) H3 (unL δ ws) (L2.wipe σ ws) := ((((e.ext e1).tr tr).ext e3).wipe ws)
    have body : g u (L2.wipe σ ws) H3 fun σ2 H2 => tt σ2 H2 fun b H3 => if b = true then te σ2 H3 fun y H4 => ∃ acc, H4 l = some (.lst acc) ∧ acc.length < sizeLine ∧ ((m - 1) + (i + 1) = xs.length ∧ ∃ F' h' acc' va, Ext F1 H1 F' (upd H4 l (.lst (acc ++ [y]))) ∧ Sim c (F'.block l) h' (upd H4 l (.lst (acc ++ [y]))) ∧ (upd H4 l (.lst (acc ++ [y]))) l = some (.lst va) ∧ RelDs c (F'.block l) (upd H4 l (.lst (acc ++ [y]))) acc' va ∧ I (i + 1) acc' h')
        else ((m - 1) + (i + 1) = xs.length ∧ ∃ F' h' acc va, Ext F1 H1 F' H3 ∧ Sim c (F'.block l) h' H3 ∧ H3 l = some (.lst va) ∧ RelDs c (F'.block l) H3 acc va ∧ I (i + 1) acc h') := by
      refine sg _ h2 H3 _ _ x0 u _ _ s3 eδ r3 w3 fun F4 h4 H4 δ4 σ4 e4 s4 r4 w4 => ?_
      refine st F4 h4 H4 δ4 σ4 noX _ _ s4 r4 w4 noX_ok fun F5 h5 H5 b b' e5 s5 eb w5 => ?_
      have eb : b = b' := eb
      subst eb
      have e35 := e3.trans (e4.trans e5)
      have a5 : H5 l = some (.lst va) := (e35.kp l _ a2 fun m => s2.ap l m List.mem_cons_self).1
      refine ifd_ok w5 (fun w6 => ?_) fun w6 => ?_
      · refine se F5 h5 H5 δ4 σ4 X _ _ s5 (r4.ext e5) w6 (((x.ext e1).blk e2).ext e35) fun F6 h6 H6 y yv e6 s6 r6 w7 => ?_
        have e36 := e35.trans e6
        have a6 : H6 l = some (.lst va) := (e36.kp l _ a2 fun m => s2.ap l m List.mem_cons_self).1
        refine ⟨va, a6, by rw [← r2.len]; exact w7.1, by omega, ?_⟩
        have ebl : F6.bl = l :: F2.bl := e36.bl
        rw [e2.bl] at ebl
        have eF := blk_eta ebl
        have o6 := (Ext.out e2 e36).mutO (o := .lst (va ++ [yv])) hl
        have r2' := r2.ext e36
        rw [eF] at s6 r6 r2'
        exact ⟨⟨F6.cs, F1.bl⟩, h6, acc ++ [y], va ++ [yv], o6, s6.mutB, upd_same, (r2'.app (.cons r6 .nil)).tr Tr.mutB, w7.2⟩
      · refine ⟨by omega, ?_⟩
        have ebl : F5.bl = l :: F2.bl := e35.bl
        rw [e2.bl] at ebl
        have eF := blk_eta ebl
        have r2' := r2.ext e35
        rw [eF] at s5 r2'
        exact ⟨⟨F5.cs, F1.bl⟩, h5, acc, va, Ext.out e2 e35, s5, a5, r2', w6⟩
    have := hw _ _ _ _ body
    rw [wipe_wipe σ ws ws fun _ h => h] at this
    exact this
def dLcX0 (it : DIt) (g : DTg) (te : DG D) (ws : List Nat) : DG D := fun δ h X Q => it δ h X fun xs ok h1 => LcK xs ok h1 Q fun x h K => g x (unL δ ws) h fun δ2 h2 => te δ2 h2 X K
theorem lcx0_eq (it : DIt) (g : DTg) (te : DG D) (ws : List Nat) : dLcX0 it g te ws = dLcX it g dYes te ws := by
  funext δ h X Q
  have key : ∀ (K : D → MH → Prop) (E : MH → Prop), (fun (δ2 : EnvD) (h2 : MH) => dYes δ2 h2 noX fun b h3 => ifd b (te δ2 h3 X K) (E h3)) = fun δ2 h2 => te δ2 h2 X K := fun K E => by
    funext δ2 h2
    exact ifd_true
  unfold dLcX0 dLcX
  congr 1
  funext xs ok h1
  apply propext
  constructor
  · rintro ⟨I, h0, step, fin⟩
    refine ⟨I, h0, fun i acc h x w e => ⟨(step i acc h x w e).1, ?_⟩, fin⟩
    rw [key (fun y h4 => acc.length < sizeLine ∧ I (i + 1) (acc ++ [y]) h4) (fun h3 => I (i + 1) acc h3)]
    exact (step i acc h x w e).2
  · rintro ⟨I, h0, step, fin⟩
    refine ⟨I, h0, fun i acc h x w e => ⟨(step i acc h x w e).1, ?_⟩, fin⟩
    have z := (step i acc h x w e).2
    rw [key (fun y h4 => acc.length < sizeLine ∧ I (i + 1) (acc ++ [y]) h4) (fun h3 => I (i + 1) acc h3)] at z
    exact z
theorem s_lcx0 {wi : TI} {di : DIt} {g : TG} {wg : DTg} {te : TE} {we : DG D} {ws : List Nat} (si : SI c (wX E) wi di) (sg : STg c g wg) (hw : Wp g ws) (se : SE c (wX E) te we) : SE c (wX E) (tLc wi g tYes te ws) (dLcX0 di wg we ws) := by
  rw [lcx0_eq]
  exact s_lcx si sg hw s_yes se
end
end Dv
/-! lemmas for proofs over data -/
namespace Dv
open PySem PySem.Spec PyProof.Rows L2 Sf
section
variable {h h0 h1 h2 g : MH} {x y d : D} {i j n m : Nat} {Q : DK} {S S' : List Nat} {ds es : List D}
theorem at_new : (h ++ [x])[h.length]? = some x := by simp
theorem at_new2 : (h ++ [x, y])[h.length + 1]? = some y := by
  rw [List.getElem?_append_right (by omega)]; simp
theorem at_app (e : h[i]? = some x) : (h ++ g)[i]? = some x := by
  rw [List.getElem?_append_left (List.getElem?_eq_some_iff.mp e).1]; exact e
theorem set_new : (h ++ [x]).set h.length y = h ++ [y] := by
  rw [List.set_append_right _ _ (Nat.le_refl _), Nat.sub_self]; rfl
theorem set_app (hi : i < h.length) : (h ++ g).set i x = h.set i x ++ g := List.set_append_left _ _ hi
theorem at_lt (e : h[i]? = some x) : i < h.length := (List.getElem?_eq_some_iff.mp e).1
theorem at_set (hi : i < h.length) : (h.set i x)[i]? = some x := by simp [hi]
/-- the cells but those of S stand -/
def Eqs (S : List Nat) (h h' : MH) : Prop := h'.length = h.length ∧ ∀ i, i ∉ S → h'[i]? = h[i]?
theorem Eqs.refl (S : List Nat) (h : MH) : Eqs S h h := ⟨rfl, fun _ _ => rfl⟩
theorem Eqs.trans (a : Eqs S h0 h1) (b : Eqs S h1 h2) : Eqs S h0 h2 := ⟨b.1.trans a.1, fun i n => (b.2 i n).trans (a.2 i n)⟩
theorem Eqs.sub (a : Eqs S h0 h1) (k : ∀ x ∈ S, x ∈ S') : Eqs S' h0 h1 := ⟨a.1, fun i n => a.2 i fun z => n (k i z)⟩
theorem Eqs.set (a : Eqs S h0 h1) (hi : i ∈ S) : Eqs S h0 (h1.set i x) := ⟨by rw [List.length_set]; exact a.1, fun j n => by
  rw [List.getElem?_set_ne (fun z : i = j => n (z ▸ hi))]; exact a.2 j n⟩
theorem Eqs.get (a : Eqs S h0 h1) (hi : i ∉ S) (e : h0[i]? = some x) : h1[i]? = some x := (a.2 i hi).trans e
theorem Eqs.split (a : Eqs S (h1 ++ g) h2) (k : ∀ i ∈ S, i < h1.length) : ∃ h', h2 = h' ++ g ∧ Eqs S h1 h' := by
  have ln : h2.length = h1.length + g.length := by rw [a.1, List.length_append]
  refine ⟨h2.take h1.length, ?_, ?_, fun i n => ?_⟩
  · have : h2.drop h1.length = g := by
      apply List.ext_getElem?
      intro i
      rw [List.getElem?_drop, a.2 _ (fun z => by have := k _ z; omega), List.getElem?_append_right (by omega)]
      congr 1; omega
    rw [← this, List.take_append_drop]
  · rw [List.length_take]; omega
  · by_cases hi : i < h1.length
    · rw [List.getElem?_take_of_lt hi, a.2 i n, List.getElem?_append_left hi]
    · rw [List.getElem?_eq_none (by rw [List.length_take]; omega), List.getElem?_eq_none (by omega)]
theorem Eqs.app (a : Eqs S h0 h1) : Eqs S (h0 ++ g) (h1 ++ g) := ⟨by simp [a.1], fun i n => by
  have l := a.1
  by_cases hi : i < h0.length
  · rw [List.getElem?_append_left hi, List.getElem?_append_left (by omega), a.2 i n]
  · rw [List.getElem?_append_right (by omega), List.getElem?_append_right (by omega), a.1]⟩
/-! ### what holds no reference -/
abbrev rf (d : D) : Prop := bd 0 d = true
theorem bds_map {α : Type} {f : α → D} : ∀ {l : List α}, (∀ x ∈ l, bd n (f x) = true) → bds n (l.map f) = true
  | [], _ => rfl
  | a :: r, h => by simp only [List.map_cons, bds, Bool.and_eq_true]; exact ⟨h a (by simp), bds_map fun x hx => h x (by simp [hx])⟩
theorem bds_all : ∀ {l : List D}, (∀ x ∈ l, bd n x = true) → bds n l = true
  | [], _ => rfl
  | a :: r, h => by simp only [bds, Bool.and_eq_true]; exact ⟨h a (by simp), bds_all fun x hx => h x (by simp [hx])⟩
theorem bds_of : ∀ {l : List D}, bds n l = true → ∀ x ∈ l, bd n x = true
  | a :: r, h, x, hx => by
    simp only [bds, Bool.and_eq_true] at h
    rcases List.mem_cons.mp hx with e | hx
    · rw [e]; exact h.1
    · exact bds_of h.2 x hx
theorem bds_app (a : bds n ds = true) (b : bds n es = true) : bds n (ds ++ es) = true := bds_all fun x hx => by
  rcases List.mem_append.mp hx with hx | hx
  · exact bds_of a x hx
  · exact bds_of b x hx
theorem rf_tup {k : Bool} (h : bds n ds = true) : bd n (.tup k ds) = true := by simpa only [bd] using h
theorem rf_lst (h : bds n ds = true) : bd n (.lst ds) = true := by simpa only [bd] using h
theorem bds_nil : bds n [] = true := rfl
theorem bds_cons (a : bd n d = true) (b : bds n ds = true) : bds n (d :: ds) = true := by simp only [bds, a, b, Bool.and_self]
theorem bds_ints (l : List Int) : bds n (l.map .int) = true := bds_map fun _ _ => rfl
theorem bds_strs (l : List Str) : bds n (l.map .str) = true := bds_map fun _ _ => rfl
theorem bds_bls (l : List Bool) : bds n (l.map .bl) = true := bds_map fun _ _ => rfl
theorem rf_up (a : rf d) : bd n d = true := bd_mono (Nat.zero_le _) a
theorem rfs_up (a : bds 0 ds = true) : bds n ds = true := bds_mono (Nat.zero_le _) a
/-! ### what a def hands back -/
/-- the cells of S are without references -/
def Rfs (S : List Nat) (h : MH) : Prop := ∀ i ∈ S, ∀ x, h[i]? = some x → rf x
theorem Rfs.nil : Rfs [] h := fun _ m => by simp at m
theorem Rfs.one (e : h[i]? = some x) (r : rf x) : Rfs [i] h := fun j m y e2 => by
  rw [List.mem_singleton.mp m, e] at e2
  rw [← Option.some.inj e2]; exact r
theorem Rfs.two (e : h[i]? = some x) (r : rf x) (e' : h[j]? = some y) (r' : rf y) : Rfs [i, j] h := fun k m z e2 => by
  rcases List.mem_cons.mp m with rfl | m
  · rw [e] at e2; rw [← Option.some.inj e2]; exact r
  · rw [List.mem_singleton.mp m, e'] at e2
    rw [← Option.some.inj e2]; exact r'
theorem cut_ok (a : Eqs S h0 h1) (r : Rfs S h1) : h0.length ≤ h1.length ∧ ∀ (i : Nat) x, h1[i]? = some x → h0[i]? = some x ∨ bd h1.length x = true := by
  refine ⟨Nat.le_of_eq a.1.symm, fun i x e => ?_⟩
  by_cases hi : i ∈ S
  · exact .inr (rf_up (r i hi x e))
  · exact .inl (by rw [← a.2 i hi]; exact e)
theorem out_eqs (a : Eqs S h0 h1) (r : Rfs S h1) (hd : rf d) (q : Q d h1) : Out h0 (h1 ++ g) d Q := .cut h1 g d rfl (cut_ok a r).1 (cut_ok a r).2 (.id (rf_up hd)) q
theorem out_pure (hd : rf d) (q : Q d h0) : Out h0 (h0 ++ g) d Q := out_eqs (S := []) (Eqs.refl _ _) Rfs.nil hd q
theorem vws_id : ∀ {es : List D}, bds 0 es = true → Vws m h es es
  | [], _ => .nil
  | e :: es, z => by simp only [bds, Bool.and_eq_true] at z; exact .cons (.id (rf_up z.1)) (vws_id z.2)
theorem out_eqsL (a : Eqs S h0 h1) (r : Rfs S h1) (hd : bds 0 ds = true) (q : Q (.lst ds) h1) : Out h0 (h1 ++ [.lst ds]) (.ref h1.length) Q :=
  .cut h1 [.lst ds] (.lst ds) rfl (cut_ok a r).1 (cut_ok a r).2 (.rlst (Nat.le_refl _) at_new (vws_id hd)) q
theorem out_lst (hd : bds 0 ds = true) (q : Q (.lst ds) h0) : Out h0 (h0 ++ [.lst ds]) (.ref h0.length) Q := out_eqsL (S := []) (Eqs.refl _ _) Rfs.nil hd q
/-! ### items -/
theorem atI_at {α : Type} {l : List α} {k : Int} {x : α} (h0 : 0 ≤ k) (e : l[k.toNat]? = some x) : atI l k = some x := at_int h0 e
theorem atI_map {α β : Type} {l : List α} {f : α → β} {k : Int} {x : α} (h0 : 0 ≤ k) (e : l[k.toNat]? = some x) : atI (l.map f) k = some (f x) := at_int h0 (by rw [List.getElem?_map, e]; rfl)
/-! ### tests -/
theorem dec_t {p : Prop} [Decidable p] (h : decide p = true) : p := of_decide_eq_true h
theorem dec_f {p : Prop} [Decidable p] (h : decide p = false) : ¬ p := of_decide_eq_false h
theorem ifdT {A B : Prop} (a : A) : ifd true A B := ⟨fun _ => a, fun e => by cases e⟩
theorem ifdF {A B : Prop} (b : B) : ifd false A B := ⟨fun e => (by cases e), fun _ => b⟩
theorem ifd_t {b : Bool} {A B : Prop} (e : b = true) (a : A) : ifd b A B := by subst e; exact ifdT a
theorem ifd_f {b : Bool} {A B : Prop} (e : b = false) (a : B) : ifd b A B := by subst e; exact ifdF a
end
end Dv
/-! tables: their mathematics -/
namespace Dv
open PySem PySem.Spec PyProof.Rows L2 Sf
structure Tb where
  L : List Str
  Vs : List Int
  Ps : List (List Int)
def Tb.p (t : Tb) : PyData := .tuple [.tuple (t.L.map .str), .tuple (t.Vs.map .int), .tuple (t.Ps.map fun r => .tuple (r.map .int))]
def Tb.n (t : Tb) : Nat := t.Ps.length
def inR (n : Nat) (a : Int) : Prop := -1 ≤ a ∧ a < n
def Tb.mul (t : Tb) (a b : Int) : Int := if a < 0 then b else if b < 0 then a else (t.Ps.getD a.toNat []).getD b.toNat 0
def Tb.val (t : Tb) (x : Str) : Int := t.Vs.getD (t.L.idxOf x) 0
def Tb.fold (t : Tb) (l : List Str) : Int := l.foldl (fun a x => t.mul a (t.val x)) (-1)
def LetOk (x : Str) : Prop := 1 ≤ x.length ∧ x.length ≤ 10 ∧ Sm x ∧ 113 ∉ x.cps.toList
structure Tb.Good (t : Tb) : Prop where
  l0 : t.L ≠ []
  lv : t.Vs.length = t.L.length
  l4 : t.L.length ≤ 4
  vr : ∀ v ∈ t.Vs, 0 ≤ v ∧ v < t.n
  n256 : t.n ≤ 256
  row : ∀ r ∈ t.Ps, r.length = t.n ∧ ∀ x ∈ r, 0 ≤ x ∧ x < t.n
  as : ∀ a b c : Int, 0 ≤ a → a < t.n → 0 ≤ b → b < t.n → 0 ≤ c → c < t.n → t.mul (t.mul a b) c = t.mul a (t.mul b c)
  wd : ∀ x ∈ t.L, LetOk x
/-- a map of rooms -/
def MapOk (r : Nat) (f : List Int) : Prop := f.length = r ∧ ∀ x ∈ f, 0 ≤ x ∧ x < r
def Tb.d (t : Tb) : D := .tup false [.tup true (t.L.map .str), .tup false (t.Vs.map .int), .tup false (t.Ps.map fun r => .tup false (r.map .int))]
theorem snoc_rec {α : Type} {P : List α → Prop} (h0 : P []) (h1 : ∀ l x, P l → P (l ++ [x])) (l : List α) : P l := by
  have : ∀ l : List α, P l.reverse := by
    intro l
    induction l with
    | nil => exact h0
    | cons a r ih => rw [List.reverse_cons]; exact h1 _ _ ih
  have := this l.reverse
  rwa [List.reverse_reverse] at this
section
variable {t : Tb} {a b c : Int} {x y : Str} {l r : List Str}
theorem mul_l (h : a < 0) : t.mul a b = b := if_pos h
theorem mul_r (h : 0 ≤ a) (h2 : b < 0) : t.mul a b = a := by
  unfold Tb.mul
  rw [if_neg (by omega), if_pos h2]
theorem mul_in (h : 0 ≤ a) (h2 : 0 ≤ b) : t.mul a b = (t.Ps.getD a.toNat []).getD b.toNat 0 := by
  unfold Tb.mul
  rw [if_neg (by omega), if_neg (by omega)]
theorem row_at (g : t.Good) (h : 0 ≤ a) (h2 : a < t.n) : ∃ q, t.Ps[a.toNat]? = some q ∧ q ∈ t.Ps ∧ q.length = t.n ∧ ∀ x ∈ q, 0 ≤ x ∧ x < t.n := by
  have hl : a.toNat < t.Ps.length := by unfold Tb.n at h2; omega
  refine ⟨t.Ps[a.toNat], List.getElem?_eq_getElem hl, List.getElem_mem hl, ?_⟩
  exact g.row _ (List.getElem_mem hl)
theorem mul_at (g : t.Good) (h : 0 ≤ a) (h2 : a < t.n) (h3 : 0 ≤ b) (h4 : b < t.n) : ∃ q, t.Ps[a.toNat]? = some q ∧ q[b.toNat]? = some (t.mul a b) ∧ 0 ≤ t.mul a b ∧ t.mul a b < t.n := by
  obtain ⟨q, e, _, hl, hr⟩ := row_at g h h2
  have hb : b.toNat < q.length := by omega
  have e2 : t.mul a b = q[b.toNat] := by
    rw [mul_in h h3]
    simp only [List.getD_eq_getElem?_getD, e, Option.getD_some, List.getElem?_eq_getElem hb]
  refine ⟨q, e, by rw [e2]; exact List.getElem?_eq_getElem hb, ?_, ?_⟩
  · rw [e2]; exact (hr _ (List.getElem_mem hb)).1
  · rw [e2]; exact (hr _ (List.getElem_mem hb)).2
theorem mul_R (g : t.Good) (ha : inR t.n a) (hb : inR t.n b) : inR t.n (t.mul a b) := by
  by_cases h : a < 0
  · rw [mul_l h]; exact hb
  · by_cases h2 : b < 0
    · rw [mul_r (by omega) h2]; exact ha
    · obtain ⟨q, _, _, h3, h4⟩ := mul_at g (by omega) ha.2 (by omega) hb.2
      exact ⟨by omega, h4⟩
theorem mul_pos (g : t.Good) (ha : 0 ≤ a) (ha2 : a < t.n) (hb : inR t.n b) : 0 ≤ t.mul a b := by
  by_cases h2 : b < 0
  · rw [mul_r ha h2]; exact ha
  · exact (mul_at g ha ha2 (by omega) hb.2).choose_spec.2.2.1
theorem mul_as (g : t.Good) (ha : inR t.n a) (hb : inR t.n b) (hc : inR t.n c) : t.mul (t.mul a b) c = t.mul a (t.mul b c) := by
  by_cases h : a < 0
  · rw [mul_l h, mul_l h]
  · by_cases h2 : b < 0
    · rw [mul_r (by omega) h2, mul_l h2]
    · by_cases h3 : c < 0
      · have := mul_pos g (by omega) ha.2 hb
        rw [mul_r this h3, mul_r (a := b) (by omega) h3]
      · exact g.as a b c (by omega) ha.2 (by omega) hb.2 (by omega) hc.2
theorem val_at (g : t.Good) (h : x ∈ t.L) : t.Vs[t.L.idxOf x]? = some (t.val x) := by
  have hl : t.L.idxOf x < t.Vs.length := by rw [g.lv]; exact List.idxOf_lt_length_iff.mpr h
  unfold Tb.val
  rw [List.getD_eq_getElem?_getD, List.getElem?_eq_getElem hl]
  rfl
theorem val_r (g : t.Good) (h : x ∈ t.L) : 0 ≤ t.val x ∧ t.val x < t.n := g.vr _ (List.mem_of_getElem? (val_at g h))
theorem val_R (g : t.Good) (h : x ∈ t.L) : inR t.n (t.val x) := ⟨by have := val_r g h; omega, (val_r g h).2⟩
theorem fold_nil : t.fold [] = -1 := rfl
theorem fold_snoc : t.fold (l ++ [x]) = t.mul (t.fold l) (t.val x) := by
  unfold Tb.fold
  rw [List.foldl_append]
  rfl
theorem fold_one : t.fold [x] = t.val x := by
  show t.mul (-1) (t.val x) = _
  exact mul_l (by decide)
theorem n_pos (g : t.Good) : (0 : Int) < t.n := by
  have : ∃ x, x ∈ t.L := List.exists_mem_of_ne_nil _ g.l0
  obtain ⟨x, hx⟩ := this
  have := val_r g hx
  omega
theorem fold_R (g : t.Good) (h : ∀ x ∈ l, x ∈ t.L) : inR t.n (t.fold l) := by
  induction l using snoc_rec with
  | h0 => have := n_pos g; exact ⟨Int.le_refl _, by rw [fold_nil]; omega⟩
  | h1 l x ih =>
    rw [fold_snoc]
    exact mul_R g (ih fun y hy => h y (by simp [hy])) (val_R g (h x (by simp)))
theorem fold_pos (g : t.Good) (h : ∀ x ∈ l, x ∈ t.L) (hn : l ≠ []) : 0 ≤ t.fold l := by
  induction l using snoc_rec with
  | h0 => exact absurd rfl hn
  | h1 l x ih =>
    rw [fold_snoc]
    have hx := val_r g (h x (by simp))
    have hl : ∀ y ∈ l, y ∈ t.L := fun y hy => h y (by simp [hy])
    by_cases e : l = []
    · subst e
      rw [fold_nil, mul_l (by decide)]
      exact hx.1
    · exact mul_pos g (ih hl e) (fold_R g hl).2 (val_R g (h x (by simp)))
theorem fold_app (g : t.Good) (h : ∀ x ∈ l, x ∈ t.L) (h2 : ∀ x ∈ r, x ∈ t.L) : t.fold (l ++ r) = t.mul (t.fold l) (t.fold r) := by
  induction r using snoc_rec with
  | h0 =>
    rw [List.append_nil, fold_nil]
    by_cases e : l = []
    · subst e; rw [fold_nil, mul_l (by decide)]
    · rw [mul_r (fold_pos g h e) (by decide)]
  | h1 r x ih =>
    have hr : ∀ y ∈ r, y ∈ t.L := fun y hy => h2 y (by simp [hy])
    rw [← List.append_assoc, fold_snoc, fold_snoc, ih hr, mul_as g (fold_R g h) (fold_R g hr) (val_R g (h2 x (by simp)))]
theorem fold_cons (g : t.Good) (hx : x ∈ t.L) (h : ∀ x ∈ l, x ∈ t.L) : t.fold (x :: l) = t.mul (t.val x) (t.fold l) := by
  have := fold_app (t := t) (l := [x]) (r := l) g (by simpa using hx) h
  rw [fold_one] at this
  exact this
end
def comp (f x : List Int) : List Int := x.map fun k => f.getD k.toNat 0
theorem comp_ok {r : Nat} {f x : List Int} (hf : MapOk r f) (hx : MapOk r x) : MapOk r (comp f x) := by
  refine ⟨by unfold comp; rw [List.length_map]; exact hx.1, fun y hy => ?_⟩
  obtain ⟨k, hk, rfl⟩ := List.mem_map.mp hy
  have := hx.2 k hk
  have hl : k.toNat < f.length := by rw [hf.1]; omega
  rw [List.getD_eq_getElem?_getD, List.getElem?_eq_getElem hl]
  exact hf.2 _ (List.getElem_mem hl)
theorem comp_as {r : Nat} {f y x : List Int} (hy : y.length = r) (hx : MapOk r x) : comp (comp f y) x = comp f (comp y x) := by
  unfold comp
  rw [List.map_map]
  refine List.map_congr_left fun k hk => ?_
  have := hx.2 k hk
  have hl : k.toNat < y.length := by omega
  simp only [Function.comp_apply, List.getD_eq_getElem?_getD, List.getElem?_map, List.getElem?_eq_getElem hl]
  rfl
inductive GenM (ms : List (List Int)) : List Int → Prop
  | base {f : List Int} : f ∈ ms → GenM ms f
  | step {f x : List Int} : f ∈ ms → GenM ms x → GenM ms (comp f x)
theorem gen_ok {ms : List (List Int)} {r : Nat} (hm : ∀ f ∈ ms, MapOk r f) {x : List Int} (h : GenM ms x) : MapOk r x := by
  induction h with
  | base h => exact hm _ h
  | step h _ ih => exact comp_ok (hm _ h) ih
theorem gen_closed {ms fo : List (List Int)} {r : Nat} (hm : ∀ f ∈ ms, MapOk r f) (hg : ∀ x ∈ fo, GenM ms x) (hc : ∀ x ∈ fo, ∀ f ∈ ms, comp f x ∈ fo) {y : List Int} (h : GenM ms y) : ∀ x ∈ fo, comp y x ∈ fo := by
  induction h with
  | base h => exact fun x hx => hc x hx _ h
  | @step f y h hy ih =>
    intro x hx
    rw [comp_as (gen_ok hm hy).1 (gen_ok hm (hg x hx))]
    exact hc _ (ih x hx) _ h
theorem nodup_lt : ∀ (n : Nat) (l : List Nat), l.Nodup → (∀ x ∈ l, x < n) → l.length ≤ n
  | 0, l, _, h => by
    cases l with
    | nil => exact Nat.le_refl _
    | cons a r => exact absurd (h a (by simp)) (by omega)
  | n + 1, l, d, h => by
    have i := nodup_lt n (l.filter fun x => decide (x ≠ n)) (d.filter _) fun x hx => by
      have := List.mem_filter.mp hx
      have h2 := h x this.1
      have h3 : x ≠ n := of_decide_eq_true this.2
      omega
    have one : ∀ l : List Nat, l.Nodup → l.length ≤ (l.filter fun x => decide (x ≠ n)).length + 1 := by
      intro l
      induction l with
      | nil => intro _; simp
      | cons a r ih =>
        intro d
        have d2 := List.nodup_cons.mp d
        by_cases e : a = n
        · subst e
          have : r.filter (fun x => decide (x ≠ a)) = r := List.filter_eq_self.mpr fun x hx => by
            simp only [ne_eq, decide_eq_true_eq]
            intro z
            subst z
            exact d2.1 hx
          rw [List.filter_cons_of_neg (by simp), this]
          simp
        · rw [List.filter_cons_of_pos (by simpa using e)]
          have := ih d2.2
          simp only [List.length_cons]
          omega
    have := one l d
    omega
def code : List Int → Nat
  | [] => 0
  | x :: r => x.toNat + 4 * code r
theorem code_lt : ∀ (l : List Int), (∀ x ∈ l, 0 ≤ x ∧ x < 4) → code l < 4 ^ l.length
  | [], _ => by simp [code]
  | x :: r, h => by
    have i := code_lt r fun y hy => h y (by simp [hy])
    have hx := h x (by simp)
    rw [code, List.length_cons, Nat.pow_succ]
    omega
theorem code_inj : ∀ (l m : List Int), l.length = m.length → (∀ x ∈ l, 0 ≤ x ∧ x < 4) → (∀ x ∈ m, 0 ≤ x ∧ x < 4) → code l = code m → l = m
  | [], [], _, _, _, _ => rfl
  | [], _ :: _, h, _, _, _ => by simp at h
  | _ :: _, [], h, _, _, _ => by simp at h
  | x :: r, y :: q, hl, h1, h2, e => by
    have hx := h1 x (by simp)
    have hy := h2 y (by simp)
    simp only [code] at e
    have e1 : x = y := by omega
    have e2 : code r = code q := by omega
    rw [e1, code_inj r q (by simpa using hl) (fun z hz => h1 z (by simp [hz])) (fun z hz => h2 z (by simp [hz])) e2]
theorem few_maps {fo : List (List Int)} {r : Nat} (hr : r ≤ 4) (d : fo.Nodup) (h : ∀ f ∈ fo, MapOk r f) : fo.length ≤ 256 := by
  have ok : ∀ f ∈ fo, ∀ x ∈ f, 0 ≤ x ∧ x < 4 := fun f hf x hx => by have := (h f hf).2 x hx; omega
  have d2 : (fo.map code).Nodup := by
    rw [List.nodup_iff_pairwise_ne, List.pairwise_map]
    refine List.Pairwise.imp_of_mem (fun {a b} ha hb n e => n (code_inj a b (by rw [(h a ha).1, (h b hb).1]) (ok a ha) (ok b hb) e)) (List.nodup_iff_pairwise_ne.mp d)
  have := nodup_lt 256 _ d2 fun x hx => by
    obtain ⟨f, hf, rfl⟩ := List.mem_map.mp hx
    refine Nat.lt_of_lt_of_le (code_lt f (ok f hf)) ?_
    rw [(h f hf).1]
    exact Nat.pow_le_pow_right (n := 4) (by decide) hr
  rw [List.length_map] at this
  exact this
/-- the table of the maps found -/
def prods (fo : List (List Int)) : List (List Int) := fo.map fun x => fo.map fun y => ((fo.idxOf (comp y x) : Nat) : Int)
theorem tab_good {ws : List Str} {ms fo : List (List Int)} {r : Nat} (hr : r ≤ 4) (hw : ws.length = ms.length) (h0 : ms ≠ []) (h4 : ms.length ≤ 4) (hm : ∀ f ∈ ms, MapOk r f) (hin : ∀ f ∈ ms, f ∈ fo) (d : fo.Nodup) (hg : ∀ x ∈ fo, GenM ms x)
    (hc : ∀ x ∈ fo, ∀ f ∈ ms, comp f x ∈ fo) (wd : ∀ x ∈ ws, LetOk x) : (Tb.mk ws (ms.map fun f => ((fo.idxOf f : Nat) : Int)) (prods fo)).Good := by
  have hn : (Tb.mk ws (ms.map fun f => ((fo.idxOf f : Nat) : Int)) (prods fo)).n = fo.length := by unfold Tb.n prods; simp
  have ok : ∀ f ∈ fo, MapOk r f := fun f hf => gen_ok hm (hg f hf)
  have cl : ∀ y ∈ fo, ∀ x ∈ fo, comp y x ∈ fo := fun y hy x hx => gen_closed hm hg hc (hg y hy) x hx
  have at_ : ∀ i j : Nat, (hi : i < fo.length) → (hj : j < fo.length) → (Tb.mk ws (ms.map fun f => ((fo.idxOf f : Nat) : Int)) (prods fo)).mul i j = ((fo.idxOf (comp fo[j] fo[i]) : Nat) : Int) := by
    intro i j hi hj
    rw [mul_in (by omega) (by omega)]
    unfold prods
    simp only [Int.toNat_natCast, List.getD_eq_getElem?_getD, List.getElem?_map, List.getElem?_eq_getElem hi, List.getElem?_eq_getElem hj, Option.map_some, Option.getD_some]
  have idx : ∀ y ∈ fo, ∃ h : fo.idxOf y < fo.length, fo[fo.idxOf y] = y := fun y hy => ⟨List.idxOf_lt_length_iff.mpr hy, List.getElem_idxOf _⟩
  refine ⟨fun e => h0 (List.eq_nil_of_length_eq_zero (by rw [← hw]; simp_all)), by simp [hw], by show ws.length ≤ 4; omega, fun v hv => ?_, by rw [hn]; exact few_maps hr d ok, fun q hq => ?_, ?_, wd⟩
  · obtain ⟨f, hf, rfl⟩ := List.mem_map.mp hv
    rw [hn]
    have := List.idxOf_lt_length_iff.mpr (hin f hf)
    omega
  · obtain ⟨x, hx, rfl⟩ := List.mem_map.mp (show q ∈ fo.map _ from hq)
    rw [hn]
    refine ⟨by simp, fun v hv => ?_⟩
    obtain ⟨y, hy, rfl⟩ := List.mem_map.mp hv
    have := List.idxOf_lt_length_iff.mpr (cl y hy x hx)
    omega
  · intro a b c ha ha2 hb hb2 hc hc2
    rw [hn] at ha2 hb2 hc2
    obtain ⟨i, rfl⟩ := Int.eq_ofNat_of_zero_le ha
    obtain ⟨j, rfl⟩ := Int.eq_ofNat_of_zero_le hb
    obtain ⟨k, rfl⟩ := Int.eq_ofNat_of_zero_le hc
    have hi : i < fo.length := by omega
    have hj : j < fo.length := by omega
    have hk : k < fo.length := by omega
    have m1 := cl _ (List.getElem_mem hj) _ (List.getElem_mem hi)
    have m2 := cl _ (List.getElem_mem hk) _ (List.getElem_mem hj)
    obtain ⟨l1, e1⟩ := idx _ m1
    obtain ⟨l2, e2⟩ := idx _ m2
    rw [at_ i j hi hj, at_ j k hj hk, at_ _ k l1 hk, at_ i _ hi l2, e1, e2, comp_as (ok _ (List.getElem_mem hj)).1 (ok _ (List.getElem_mem hi))]
def md (f : List Int) : PyData := .tuple (f.map .int)
theorem eqv_ints : ∀ a b : List Int, PyData.eqvAll (a.map .int) (b.map .int) = decide (a = b)
  | [], [] => by simp [PyData.eqvAll]
  | [], _ :: _ => by simp [PyData.eqvAll]
  | _ :: _, [] => by simp [PyData.eqvAll]
  | x :: a, y :: b => by
    rw [List.map_cons, List.map_cons, PyData.eqvAll, eqv_ints a b, PyData.eqv]
    by_cases h : x = y
    · subst h; simp
    · simp [h]
theorem eqv_md (a b : List Int) : PyData.eqv (md a) (md b) = decide (a = b) := by
  unfold md
  rw [PyData.eqv]
  exact eqv_ints a b
theorem any_md (fo : List (List Int)) (f : List Int) : ((fo.map md).any fun z => PyData.eqv z (md f)) = decide (f ∈ fo) := by
  induction fo with
  | nil => rfl
  | cons a r ih =>
    rw [List.map_cons, List.any_cons, ih, eqv_md]
    by_cases h : a = f
    · subst h; simp
    · have h' : ¬ f = a := fun e => h e.symm
      simp [h, h']
theorem lay_ints (f : List Int) : PyData.canLayAll0 (f.map .int) = true ∧ PyData.depthAll (f.map .int) = 0 := by
  induction f with
  | nil => exact ⟨rfl, rfl⟩
  | cons a r ih => exact ⟨by simp [PyData.canLayAll0, PyData.canLay0, ih.1], by simp [PyData.depthAll, PyData.depth, ih.2]⟩
theorem shape_md (f : List Int) : SeqAt.shaped (md f) = true := by
  unfold SeqAt.shaped md
  simp [PyData.canLay0, PyData.depth, lay_ints f]
theorem shape_mds (fo : List (List Int)) : SeqAt.shaped (.list (fo.map md)) = true := by
  have : PyData.canLayAll0 (fo.map md) = true ∧ PyData.depthAll (fo.map md) ≤ 1 := by
    induction fo with
    | nil => exact ⟨rfl, by simp [PyData.depthAll]⟩
    | cons a r ih => exact ⟨by simp [PyData.canLayAll0, md, PyData.canLay0, lay_ints a, ih.1], by simp only [List.map_cons, PyData.depthAll]; exact Nat.max_le.mpr ⟨by simp [md, PyData.depth, lay_ints a], ih.2⟩⟩
  have h2 := this.2
  unfold SeqAt.shaped
  simp [PyData.canLay0, PyData.depth, this.1]
  omega
theorem filt_true {α : Type} (l : List α) : l.filter (fun _ => true) = l := List.filter_eq_self.mpr fun _ _ => rfl
theorem nodup_snoc {l : List (List Int)} {x : List Int} (d : l.Nodup) (h : x ∉ l) : (l ++ [x]).Nodup := by
  rw [List.nodup_append]
  exact ⟨d, by simp, fun a ha b hb e => h (by rw [← List.mem_singleton.mp hb, ← e]; exact ha)⟩
theorem get_app {α : Type} {l e : List α} {k : Nat} {x : α} (h : l[k]? = some x) : (l ++ e)[k]? = some x := by
  rw [List.getElem?_append_left (lt_get h)]; exact h
theorem sum_len {l : List Str} (h : ∀ x ∈ l, LetOk x) : (l.map Str.length).sum ≤ 10 * l.length := by
  induction l with
  | nil => simp
  | cons a r ih =>
    have := (h a (by simp)).2.1
    have := ih fun x hx => h x (by simp [hx])
    simp only [List.map_cons, List.sum_cons, List.length_cons]
    omega
theorem shw_strs {l : List Str} {n : Nat} (h : ∀ x ∈ l, LetOk x) (hn : 11 * l.length ≤ n) : Shw (.tuple (l.map .str)) n 1 := by
  have := sum_len h
  exact (Shw.tup (ShwA.strs fun y hy => (h y hy).2.2.1)).le (by omega) (by omega)
theorem fold_small {t : Tb} (g : t.Good) {l : List Str} (h : ∀ x ∈ l, x ∈ t.L) : (t.fold l).natAbs < 2 ^ 36 := by
  have := fold_R g h
  have := g.n256
  unfold inR at *
  omega
theorem q_not {x : Str} {l : List Str} (h : ∀ y ∈ l, LetOk y) (hx : x.length = 0 ∨ 113 ∈ x.cps.toList) : x ∉ l := fun m => by
  obtain ⟨a, _, _, b⟩ := h x m
  rcases hx with e | e
  · omega
  · exact b e
theorem sm_of {x : Str} (h : x.cps.toList.all (fun c => decide (c < 200)) = true) : Sm x := fun c hc => of_decide_eq_true (List.all_eq_true.mp h c hc)
theorem told_sm : Sm ("told" : Str) := sm_of (by decide +kernel)
theorem told_len : ("told" : Str).length = 4 := by decide +kernel
theorem Shw.fits0 {d : PyData} {n h : Nat} (s : Shw d n h) (hn : n ≤ 1000000) : d.shown.length ≤ sizeLine := by
  have b := PyData.shown_le_bulk 13 (by decide) _ s.ls
  have w := s.we
  have z := sizeLine_eq
  omega
theorem shw_rows : ∀ {ps : List (List Int)} {c : Nat}, (∀ r ∈ ps, r.length ≤ c ∧ ∀ x ∈ r, x.natAbs < 2 ^ 36) → ShwA (ps.map fun r => .tuple (r.map .int)) ((c + 1) * ps.length) 1
  | [], c, _ => ShwA.nil.le (Nat.zero_le _) (Nat.zero_le _)
  | r :: ps, c, h => by
    obtain ⟨h1, h2⟩ := h r (by simp)
    have a := ShwA.cons ((Shw.tup (ShwA.ints h2)).le h1 (Nat.le_refl _)) (shw_rows (ps := ps) (c := c) fun r hr => h r (by simp [hr]))
    refine a.le ?_ (Nat.le_refl _)
    rw [List.length_cons, Nat.mul_succ]
    omega
theorem shw_tab {t : Tb} (g : t.Good) : Shw t.p 70000 3 := by
  have n256 := g.n256
  have a := shw_strs (l := t.L) (n := 100) g.wd (by have := g.l4; omega)
  have b := Shw.tup (ShwA.ints (l := t.Vs) fun y hy => by have := g.vr y hy; omega)
  have c := Shw.tup (shw_rows (ps := t.Ps) (c := 256) fun r hr => ⟨by have := (g.row r hr).1; omega, fun x hx => by have := (g.row r hr).2 x hx; omega⟩)
  have l4 := g.l4
  have lv := g.lv
  have lp : t.Ps.length ≤ 256 := n256
  have d := Shw.tup (ShwA.cons (a.le (Nat.le_refl _) (by omega : 1 ≤ 2)) (ShwA.cons (b.le (Nat.le_refl _) (by omega : 0 + 1 ≤ 2)) (ShwA.cons (c.le (Nat.le_refl _) (by omega : 1 + 1 ≤ 2)) (ShwA.nil.le (Nat.le_refl _) (Nat.zero_le 2)))))
  refine Shw.le d ?_ (by omega)
  omega
theorem dps_map {α : Type} {h : MH} {f : α → D} {g : α → PyData} : ∀ {l : List α}, (∀ x ∈ l, DP h (f x) (g x)) → DPs h (l.map f) (l.map g)
  | [], _ => .nil
  | a :: r, z => .cons (z a (by simp)) (dps_map fun x hx => z x (by simp [hx]))
theorem dps_i {h : MH} (l : List Int) : DPs h (l.map .int) (l.map .int) := dps_map fun _ _ => .int _
theorem dps_s {h : MH} (l : List Str) : DPs h (l.map .str) (l.map .str) := dps_map fun _ _ => .str _
theorem Tb.dp {h : MH} (t : Tb) : DP h t.d t.p := .tup (.cons (.tup (dps_s _)) (.cons (.tup (dps_i _)) (.cons (.tup (dps_map fun r _ => .tup (dps_i r))) .nil)))
theorem Tb.rf (t : Tb) : rf t.d := rf_tup (bds_cons (rf_tup (bds_strs _)) (bds_cons (rf_tup (bds_ints _)) (bds_cons (rf_tup (bds_map fun r _ => rf_tup (bds_ints r))) bds_nil)))
/-! ### the law's source of numbers -/
def StD (h : MH) (st n : Nat) : Prop := ∃ (j : Nat) (ns : List Int), j ≤ n ∧ h[st]? = some (.lst [.lst (ns.map .int), .int (j : Int)]) ∧ ns ≠ [] ∧ ns.length ≤ 100000 ∧ ∀ x ∈ ns, 0 ≤ x ∧ x < 1009
theorem StD.le {h : MH} {st n m : Nat} (s : StD h st n) (k : n ≤ m) : StD h st m := by
  obtain ⟨j, ns, a, b⟩ := s
  exact ⟨j, ns, Nat.le_trans a k, b⟩
theorem StD.lt {h : MH} {st n : Nat} (s : StD h st n) : st < h.length := by
  obtain ⟨j, ns, a, b, _⟩ := s
  exact at_lt b
theorem StD.app {h g : MH} {st n : Nat} (s : StD h st n) : StD (h ++ g) st n := by
  obtain ⟨j, ns, a, b, c⟩ := s
  exact ⟨j, ns, a, at_app b, c⟩
theorem StD.cut {h g : MH} {st n : Nat} (s : StD (h ++ g) st n) (hl : st < h.length) : StD h st n := by
  obtain ⟨j, ns, a, b, c⟩ := s
  rw [List.getElem?_append_left hl] at b
  exact ⟨j, ns, a, b, c⟩
theorem StD.eqs {h h' : MH} {st n : Nat} {S : List Nat} (s : StD h st n) (e : Eqs S h h') (hn : st ∉ S) : StD h' st n := by
  obtain ⟨j, ns, a, b, c⟩ := s
  exact ⟨j, ns, a, e.get hn b, c⟩
theorem StD.rfs {h : MH} {st n : Nat} (s : StD h st n) : Rfs [st] h := by
  obtain ⟨j, ns, a, b, c⟩ := s
  exact Rfs.one b (rf_lst (bds_cons (rf_lst (bds_ints _)) (bds_cons rfl bds_nil)))
theorem Rfs.cons {S : List Nat} {h : MH} {i : Nat} (a : Rfs [i] h) (b : Rfs S h) : Rfs (i :: S) h := fun j m x e => by
  rcases List.mem_cons.mp m with rfl | m
  · exact a j (by simp) x e
  · exact b j m x e
end Dv
/-! trees: their mathematics -/
namespace Dv
open PySem PySem.Spec PyProof.Rows L2 Sf
inductive T where
  | lf (v : Int) (x : Str)
  | nd (v : Int) (l r : T)
def T.v : T → Int
  | .lf v _ => v
  | .nd v _ _ => v
def T.h : T → Nat
  | .lf _ _ => 0
  | .nd _ l r => 1 + max l.h r.h
def T.n : T → Nat
  | .lf _ _ => 1
  | .nd _ l r => l.n + r.n
def T.ls : T → List Str
  | .lf _ x => [x]
  | .nd _ l r => l.ls ++ r.ls
def T.d : T → D
  | .lf v x => .tup false [.int v, .str x]
  | .nd v l r => .tup false [.int v, l.d, r.d]
def T.p : T → PyData
  | .lf v x => .tuple [.int v, .str x]
  | .nd v l r => .tuple [.int v, l.p, r.p]
/-- the tree as the program's object -/
def T.pt : T → D
  | .lf v x => .obj 20 [(0, T.d (.lf v x)), (1, .non), (2, .non), (3, .int 0), (4, .int 1)]
  | .nd v l r => .obj 20 [(0, T.d (.nd v l r)), (1, l.pt), (2, r.pt), (3, .int ((T.nd v l r).h : Nat)), (4, .int ((T.nd v l r).n : Nat))]
def T.Rt (t : Tb) : T → Prop
  | .lf v x => x ∈ t.L ∧ v = t.val x
  | .nd v l r => (l.h ≤ r.h + 1 ∧ r.h ≤ l.h + 1) ∧ l.Rt t ∧ r.Rt t ∧ v = t.mul l.v r.v
theorem T.n_len : ∀ a : T, a.ls.length = a.n
  | .lf _ _ => rfl
  | .nd _ l r => by simp [T.ls, T.n, l.n_len, r.n_len]
theorem T.n_pos : ∀ a : T, 0 < a.n
  | .lf _ _ => Nat.one_pos
  | .nd _ l r => by have := l.n_pos; simp only [T.n]; omega
theorem T.dp {h : MH} : ∀ a : T, DP h a.d a.p
  | .lf v x => .tup (.cons (.int v) (.cons (.str x) .nil))
  | .nd v l r => .tup (.cons (.int v) (.cons l.dp (.cons r.dp .nil)))
theorem T.rf : ∀ a : T, Dv.rf a.d
  | .lf v x => rfl
  | .nd v l r => rf_tup (bds_cons rfl (bds_cons l.rf (bds_cons r.rf bds_nil)))
theorem T.ptrf : ∀ a : T, Dv.rf a.pt
  | .lf v x => rfl
  | .nd v l r => by
    show bdf 0 _ = true
    simp only [bdf, Bool.and_eq_true]
    exact ⟨(T.nd v l r).rf, l.ptrf, r.ptrf, rfl, rfl, trivial⟩
section
variable {t : Tb} {l r a b x y f s : T} {v w : Int} {c d : Nat}
theorem T.Rt.vr (g : t.Good) : ∀ {a : T}, a.Rt t → 0 ≤ a.v ∧ a.v < t.n
  | .lf v x, h => by
    obtain ⟨h1, h2⟩ := h
    rw [show (T.lf v x).v = v from rfl, h2]
    exact val_r g h1
  | .nd v l r, h => by
    obtain ⟨_, hl, hr, hv⟩ := h
    have a := hl.vr g
    have b := hr.vr g
    rw [show (T.nd v l r).v = v from rfl, hv]
    exact (mul_at g a.1 a.2 b.1 b.2).choose_spec.2.2
theorem T.Rt.lss : ∀ {a : T}, a.Rt t → ∀ x ∈ a.ls, x ∈ t.L
  | .lf v x, h, y, hy => by rw [List.mem_singleton.mp hy]; exact h.1
  | .nd v l r, h, y, hy => by
    rcases List.mem_append.mp hy with hy | hy
    · exact h.2.1.lss y hy
    · exact h.2.2.1.lss y hy
def mkT (t : Tb) (l r : T) : T := .nd (t.mul l.v r.v) l r
theorem mkT_rt (hl : l.Rt t) (hr : r.Rt t) (h1 : l.h ≤ r.h + 1) (h2 : r.h ≤ l.h + 1) : (mkT t l r).Rt t := ⟨⟨h1, h2⟩, hl, hr, rfl⟩
theorem mkT_h : (mkT t l r).h = 1 + max l.h r.h := rfl
theorem mkT_ls : (mkT t l r).ls = l.ls ++ r.ls := rfl
theorem nd_h : (T.nd v l r).h = 1 + max l.h r.h := rfl
/-- what righting gives, and the products made -/
inductive Rgt (t : Tb) : T → T → T → Nat → Prop
  | a {l r : T} : r.h ≤ l.h + 1 → Rgt t l r (mkT t l r) 1
  | b {l f s : T} {v : Int} : l.h + 1 < (T.nd v f s).h → f.h ≤ s.h → Rgt t l (.nd v f s) (mkT t (mkT t l f) s) 2
  | c {l p q s : T} {v w : Int} : l.h + 1 < (T.nd v (.nd w p q) s).h → s.h < (T.nd w p q).h → Rgt t l (.nd v (.nd w p q) s) (mkT t (mkT t l p) (mkT t q s)) 3
inductive Lft (t : Tb) : T → T → T → Nat → Prop
  | a {l r : T} : l.h ≤ r.h + 1 → Lft t l r (mkT t l r) 1
  | b {r f s : T} {v : Int} : r.h + 1 < (T.nd v f s).h → s.h ≤ f.h → Lft t (.nd v f s) r (mkT t f (mkT t s r)) 2
  | c {r f p q : T} {v w : Int} : r.h + 1 < (T.nd v f (.nd w p q)).h → f.h < (T.nd w p q).h → Lft t (.nd v f (.nd w p q)) r (mkT t (mkT t f p) (mkT t q r)) 3
inductive Jn (t : Tb) : T → T → T → Nat → Prop
  | nr {l r : T} : l.h ≤ r.h + 1 → r.h ≤ l.h + 1 → Jn t l r (mkT t l r) 1
  | hi {a b r x y : T} {v : Int} {c d : Nat} : r.h + 1 < (T.nd v a b).h → Jn t b r x c → x.Rt t → x.h ≤ max b.h r.h + 1 → Rgt t a x y d → Jn t (.nd v a b) r y (c + d)
  | lo {l a b x y : T} {v : Int} {c d : Nat} : l.h + 1 < (T.nd v a b).h → Jn t l a x c → x.Rt t → x.h ≤ max l.h a.h + 1 → Lft t x b y d → Jn t l (.nd v a b) y (c + d)
/-- what is known of a joined tree -/
structure JnOk (t : Tb) (l r y : T) (c : Nat) : Prop where
  rt : y.Rt t
  ls : y.ls = l.ls ++ r.ls
  lo : max l.h r.h ≤ y.h
  hi : y.h ≤ max l.h r.h + 1
  ct : c ≤ 3 * (l.h + r.h + 1)
theorem rgt_ok {k : Nat} (ha : a.Rt t) (hx : x.Rt t) (h1 : a.h ≤ b.h + 1) (h2 : b.h ≤ a.h + 1) (h3 : b.h ≤ x.h) (h4 : x.h ≤ b.h + 1) : ∃ y d, Rgt t a x y d ∧ y.Rt t ∧ y.ls = a.ls ++ x.ls ∧ 1 + max a.h b.h ≤ y.h ∧ y.h ≤ 1 + max a.h b.h + 1 ∧ d ≤ 3 := by
  by_cases c1 : x.h ≤ a.h + 1
  · exact ⟨_, _, .a c1, mkT_rt ha hx (by omega) (by omega), rfl, by rw [mkT_h]; omega, by rw [mkT_h]; omega, by omega⟩
  · cases x with
    | lf v x => exact absurd (Nat.zero_le _) c1
    | nd v f s =>
      obtain ⟨⟨b1, b2⟩, hf, hs, _⟩ := hx
      have e := nd_h (v := v) (l := f) (r := s)
      by_cases c2 : f.h ≤ s.h
      · refine ⟨_, _, .b (by omega) c2, mkT_rt (mkT_rt ha hf (by omega) (by omega)) hs (by rw [mkT_h]; omega) (by rw [mkT_h]; omega), ?_, by rw [mkT_h, mkT_h]; omega, by rw [mkT_h, mkT_h]; omega, by omega⟩
        rw [mkT_ls, mkT_ls, T.ls, List.append_assoc]
      · cases f with
        | lf v x => exact absurd (Nat.zero_le _) c2
        | nd w p q =>
          obtain ⟨⟨b3, b4⟩, hp, hq, _⟩ := hf
          have e2 := nd_h (v := w) (l := p) (r := q)
          refine ⟨_, _, .c (by omega) (by omega), mkT_rt (mkT_rt ha hp (by omega) (by omega)) (mkT_rt hq hs (by omega) (by omega)) (by rw [mkT_h, mkT_h]; omega) (by rw [mkT_h, mkT_h]; omega), ?_, by rw [mkT_h, mkT_h, mkT_h]; omega, by rw [mkT_h, mkT_h, mkT_h]; omega, by omega⟩
          simp only [mkT_ls, T.ls, List.append_assoc]
theorem lft_ok {k : Nat} (hb : b.Rt t) (hx : x.Rt t) (h1 : a.h ≤ b.h + 1) (h2 : b.h ≤ a.h + 1) (h3 : a.h ≤ x.h) (h4 : x.h ≤ a.h + 1) : ∃ y d, Lft t x b y d ∧ y.Rt t ∧ y.ls = x.ls ++ b.ls ∧ 1 + max a.h b.h ≤ y.h ∧ y.h ≤ 1 + max a.h b.h + 1 ∧ d ≤ 3 := by
  by_cases c1 : x.h ≤ b.h + 1
  · exact ⟨_, _, .a c1, mkT_rt hx hb (by omega) (by omega), rfl, by rw [mkT_h]; omega, by rw [mkT_h]; omega, by omega⟩
  · cases x with
    | lf v x => exact absurd (Nat.zero_le _) c1
    | nd v f s =>
      obtain ⟨⟨b1, b2⟩, hf, hs, _⟩ := hx
      have e := nd_h (v := v) (l := f) (r := s)
      by_cases c2 : s.h ≤ f.h
      · refine ⟨_, _, .b (by omega) c2, mkT_rt hf (mkT_rt hs hb (by omega) (by omega)) (by rw [mkT_h]; omega) (by rw [mkT_h]; omega), ?_, by rw [mkT_h, mkT_h]; omega, by rw [mkT_h, mkT_h]; omega, by omega⟩
        rw [mkT_ls, mkT_ls, T.ls, List.append_assoc]
      · cases s with
        | lf v x => exact absurd (Nat.zero_le _) c2
        | nd w p q =>
          obtain ⟨⟨b3, b4⟩, hp, hq, _⟩ := hs
          have e2 := nd_h (v := w) (l := p) (r := q)
          refine ⟨_, _, .c (by omega) (by omega), mkT_rt (mkT_rt hf hp (by omega) (by omega)) (mkT_rt hq hb (by omega) (by omega)) (by rw [mkT_h, mkT_h]; omega) (by rw [mkT_h, mkT_h]; omega), ?_, by rw [mkT_h, mkT_h, mkT_h]; omega, by rw [mkT_h, mkT_h, mkT_h]; omega, by omega⟩
          simp only [mkT_ls, T.ls, List.append_assoc]
theorem jn_ex : ∀ (n : Nat) (l r : T), l.h + r.h ≤ n → l.Rt t → r.Rt t → ∃ y c, Jn t l r y c ∧ JnOk t l r y c := by
  intro n
  induction n with
  | zero =>
    intro l r hn hl hr
    exact ⟨_, _, .nr (by omega) (by omega), mkT_rt hl hr (by omega) (by omega), rfl, by rw [mkT_h]; omega, by rw [mkT_h]; omega, by omega⟩
  | succ n ih =>
    intro l r hn hl hr
    by_cases c1 : l.h ≤ r.h + 1
    · by_cases c2 : r.h ≤ l.h + 1
      · exact ⟨_, _, .nr c1 c2, mkT_rt hl hr c1 c2, rfl, by rw [mkT_h]; omega, by rw [mkT_h]; omega, by omega⟩
      · cases r with
        | lf v x => exact absurd (Nat.zero_le _) c2
        | nd v a b =>
          obtain ⟨⟨b1, b2⟩, ha, hb, _⟩ := hr
          have e := nd_h (v := v) (l := a) (r := b)
          obtain ⟨x, c, j, o⟩ := ih l a (by omega) hl ha
          have o1 := o.lo
          have o2 := o.hi
          have o3 := o.ct
          obtain ⟨y, d, j2, p1, p2, p3, p4, p5⟩ := lft_ok (k := 0) (a := a) hb o.rt b1 b2 (by omega) (by omega)
          exact ⟨y, c + d, .lo (by omega) j o.rt o.hi j2, p1, by rw [p2, o.ls, T.ls, List.append_assoc], by omega, by omega, by omega⟩
    · cases l with
      | lf v x => exact absurd (Nat.zero_le _) c1
      | nd v a b =>
        obtain ⟨⟨b1, b2⟩, ha, hb, _⟩ := hl
        have e := nd_h (v := v) (l := a) (r := b)
        obtain ⟨x, c, j, o⟩ := ih b r (by omega) hb hr
        have o1 := o.lo
        have o2 := o.hi
        have o3 := o.ct
        obtain ⟨y, d, j2, p1, p2, p3, p4, p5⟩ := rgt_ok (k := 0) (b := b) ha o.rt b1 b2 (by omega) (by omega)
        exact ⟨y, c + d, .hi (by omega) j o.rt o.hi j2, p1, by rw [p2, o.ls, T.ls, List.append_assoc], by omega, by omega, by omega⟩
/-! ### with nothing on a side -/
def oLs : Option T → List Str
  | none => []
  | some a => a.ls
def oRt (t : Tb) : Option T → Prop
  | none => True
  | some a => a.Rt t
def oH : Option T → Nat
  | none => 0
  | some a => a.h
def oD : Option T → D
  | none => .non
  | some a => a.d
def oP : Option T → PyData
  | none => .none
  | some a => a.p
def oPt : Option T → D
  | none => .non
  | some a => a.pt
inductive Jo (t : Tb) : Option T → Option T → Option T → Nat → Prop
  | l {a : Option T} : Jo t none a a 0
  | r {a : T} : Jo t (some a) none (some a) 0
  | b {l r y : T} {c : Nat} : Jn t l r y c → Jo t (some l) (some r) (some y) c
theorem jo_ex {l r : Option T} (hl : oRt t l) (hr : oRt t r) : ∃ y c, Jo t l r y c ∧ oRt t y ∧ oLs y = oLs l ++ oLs r ∧ oH y ≤ max (oH l) (oH r) + 1 ∧ c ≤ 3 * (oH l + oH r + 1) := by
  cases l with
  | none => exact ⟨r, 0, .l, hr, rfl, by simp [oH], by omega⟩
  | some l =>
    cases r with
    | none => exact ⟨some l, 0, .r, hl, by simp [oLs], by simp [oH], by omega⟩
    | some r =>
      obtain ⟨y, c, j, o⟩ := jn_ex _ l r (Nat.le_refl _) hl hr
      exact ⟨some y, c, .b j, o.rt, o.ls, o.hi, o.ct⟩
/-- what cutting gives -/
inductive Ct (t : Tb) : T → Nat → Option T → Option T → Nat → Prop
  | z {a : T} : Ct t a 0 none (some a) 0
  | a {a : T} : Ct t a a.n (some a) none 0
  | l {v : Int} {l r : T} {p c d : Nat} {x y z : Option T} : 0 < p → p ≤ l.n → Ct t l p x y c → oRt t y → oH y ≤ l.h + 1 → Jo t y (some r) z d → Ct t (.nd v l r) p x z (c + d)
  | r {v : Int} {l r : T} {p c d : Nat} {x y z : Option T} : l.n < p → p < l.n + r.n → Ct t r (p - l.n) x y c → oRt t x → oH x ≤ r.h + 1 → Jo t (some l) x z d → Ct t (.nd v l r) p z y (c + d)
structure CtOk (t : Tb) (a : T) (p : Nat) (x y : Option T) (c : Nat) : Prop where
  r1 : oRt t x
  r2 : oRt t y
  l1 : oLs x = a.ls.take p
  l2 : oLs y = a.ls.drop p
  h1 : oH x ≤ a.h + 1
  h2 : oH y ≤ a.h + 1
  ct : c ≤ 6 * (a.h + 1) * (a.h + 1)
theorem sq_le {h k c d e : Nat} (h1 : c ≤ 6 * (h + 1) * (h + 1)) (h2 : h < k) (h3 : d ≤ 3 * (e + 1)) (h4 : e ≤ 2 * k + 1) : c + d ≤ 6 * (k + 1) * (k + 1) := by
  have a1 : 6 * (h + 1) * (h + 1) ≤ 6 * k * k := Nat.mul_le_mul (Nat.mul_le_mul_left 6 h2) h2
  have a2 : 6 * (k + 1) * (k + 1) = 6 * k * k + 12 * k + 6 := by
    simp only [Nat.mul_add, Nat.add_mul, Nat.mul_one, Nat.one_mul, Nat.mul_assoc]; omega
  omega
theorem ct_ex : ∀ (a : T) (p : Nat), a.Rt t → p ≤ a.n → ∃ x y c, Ct t a p x y c ∧ CtOk t a p x y c := by
  intro a
  induction a with
  | lf v x =>
    intro p ha hp
    by_cases h0 : p = 0
    · subst h0; exact ⟨_, _, _, .z, trivial, ha, rfl, rfl, Nat.zero_le _, Nat.le_succ _, Nat.zero_le _⟩
    · have hp : p ≤ 1 := hp
      have e : p = 1 := by omega
      subst e
      exact ⟨_, _, _, .a, ha, trivial, rfl, rfl, Nat.le_succ _, Nat.zero_le _, Nat.zero_le _⟩
  | nd v l r il ir =>
    intro p ha hp
    obtain ⟨⟨b1, b2⟩, hl, hr, hv⟩ := id ha
    have hh := nd_h (v := v) (l := l) (r := r)
    have ln := l.n_len
    have rn := r.n_len
    by_cases h0 : p = 0
    · subst h0; exact ⟨_, _, _, .z, trivial, ha, rfl, rfl, Nat.zero_le _, Nat.le_succ _, Nat.zero_le _⟩
    · by_cases h1 : p = (T.nd v l r).n
      · subst h1
        exact ⟨_, _, _, .a, ha, trivial, by rw [← T.n_len, List.take_length]; rfl, by rw [← T.n_len, List.drop_length]; rfl, Nat.le_succ _, Nat.zero_le _, Nat.zero_le _⟩
      · have hp2 : p ≤ l.n + r.n := hp
        have h1 : p ≠ l.n + r.n := h1
        by_cases h2 : p ≤ l.n
        · obtain ⟨x, y, c, k, o⟩ := il p hl h2
          obtain ⟨z, d, j, j1, j2, j3, j4⟩ := jo_ex (t := t) (l := y) (r := some r) o.r2 hr
          have o1 := o.h1
          have o2 := o.h2
          have er : oH (some r) = r.h := rfl
          rw [er] at j3 j4
          refine ⟨x, z, c + d, .l (by omega) h2 k o.r2 o.h2 j, o.r1, j1, ?_, ?_, by omega, by omega, sq_le o.ct (by omega) j4 (by omega)⟩
          · rw [o.l1, T.ls, List.take_append_of_le_length (by omega)]
          · rw [j2, o.l2, T.ls, List.drop_append_of_le_length (by omega)]; rfl
        · obtain ⟨x, y, c, k, o⟩ := ir (p - l.n) hr (by omega)
          obtain ⟨z, d, j, j1, j2, j3, j4⟩ := jo_ex (t := t) (l := some l) (r := x) hl o.r1
          have o1 := o.h1
          have o2 := o.h2
          have er : oH (some l) = l.h := rfl
          rw [er] at j3 j4
          refine ⟨z, y, c + d, .r (by omega) (by omega) k o.r1 o.h1 j, j1, o.r2, ?_, ?_, by omega, by omega, sq_le o.ct (by omega) j4 (by omega)⟩
          · rw [j2, o.l1, T.ls, List.take_append, ln, List.take_of_length_le (l := l.ls) (by omega)]; rfl
          · rw [o.l2, T.ls, List.drop_append, ln, List.drop_eq_nil_of_le (as := l.ls) (by omega)]; rfl
/-! ### built of leaves -/
def lfT (t : Tb) (x : Str) : T := .lf (t.val x) x
inductive Bt (t : Tb) : List Str → T → Nat → Prop
  | o {x : Str} : Bt t [x] (lfT t x) 0
  | m {l : List Str} {a b : T} {c d : Nat} : 2 ≤ l.length → Bt t (l.take ((l.length + 1) / 2)) a c → Bt t (l.drop ((l.length + 1) / 2)) b d → Bt t l (mkT t a b) (c + d + 1)
/-- heights of trees that are built -/
def lg : Nat → Nat → Nat
  | 0, _ => 0
  | _ + 1, 0 => 0
  | _ + 1, 1 => 0
  | k + 1, n => 1 + lg k ((n + 1) / 2)
theorem pow_n : ∀ {a : T}, a.Rt t → 2 ^ (a.h / 2) ≤ a.n
  | .lf _ _, _ => by simp [T.h, T.n]
  | .nd v l r, h => by
    obtain ⟨⟨b1, b2⟩, hl, hr, _⟩ := h
    have il := pow_n hl
    have ir := pow_n hr
    have hh := nd_h (v := v) (l := l) (r := r)
    have e : (T.nd v l r).n = l.n + r.n := rfl
    by_cases c : (T.nd v l r).h ≤ 1
    · have : (T.nd v l r).h / 2 = 0 := by omega
      rw [this, e]
      have := l.n_pos
      simp only [Nat.pow_zero]; omega
    · have h1 : (T.nd v l r).h / 2 = ((T.nd v l r).h - 2) / 2 + 1 := by omega
      have h2 : ((T.nd v l r).h - 2) / 2 ≤ l.h / 2 := by omega
      have h3 : ((T.nd v l r).h - 2) / 2 ≤ r.h / 2 := by omega
      have p2 := Nat.pow_le_pow_right (n := 2) (by decide) h2
      have p3 := Nat.pow_le_pow_right (n := 2) (by decide) h3
      rw [h1, Nat.pow_succ, e]
      omega
theorem h_le {a : T} (h : a.Rt t) {k : Nat} (hn : a.n < 2 ^ k) : a.h ≤ 2 * k := by
  have p := pow_n h
  by_cases c : a.h ≤ 2 * k
  · exact c
  · have : 2 ^ k ≤ 2 ^ (a.h / 2) := Nat.pow_le_pow_right (by decide) (by omega)
    omega
end
end Dv
namespace Dv
open PySem PySem.Spec PyProof.Rows L2 Sf
section
variable {t : Tb}
theorem bt_ex : ∀ (n : Nat) (l : List Str), l.length ≤ n → l ≠ [] → (∀ x ∈ l, x ∈ t.L) → ∃ a, Bt t l a (l.length - 1) ∧ a.Rt t ∧ a.ls = l ∧ l.length ≤ 2 ^ a.h ∧ 2 ^ a.h < 2 * l.length := by
  intro n
  induction n with
  | zero =>
    intro l hn h0 _
    exact absurd (List.eq_nil_of_length_eq_zero (by omega)) h0
  | succ n ih =>
    intro l hn h0 hl
    by_cases c : l.length ≤ 1
    · cases l with
      | nil => exact absurd rfl h0
      | cons x r =>
        cases r with
        | nil => exact ⟨lfT t x, .o, ⟨hl x (by simp), rfl⟩, rfl, by simp [lfT, T.h], by simp [lfT, T.h]⟩
        | cons y r => simp at c
    · have e1 : (l.take ((l.length + 1) / 2)).length = (l.length + 1) / 2 := by rw [List.length_take]; omega
      have e2 : (l.drop ((l.length + 1) / 2)).length = l.length - (l.length + 1) / 2 := List.length_drop
      obtain ⟨a, ba, ra, la, a1, a2⟩ := ih (l.take ((l.length + 1) / 2)) (by omega) (fun z => by rw [z] at e1; simp at e1; omega) fun x hx => hl x (List.mem_of_mem_take hx)
      obtain ⟨b, bb, rb, lb, b1, b2⟩ := ih (l.drop ((l.length + 1) / 2)) (by omega) (fun z => by rw [z] at e2; simp at e2; omega) fun x hx => hl x (List.mem_of_mem_drop hx)
      rw [e1] at a1 a2 ba
      rw [e2] at b1 b2 bb
      have m1 : a.h ≤ b.h + 1 := by
        by_cases z : a.h ≤ b.h + 1
        · exact z
        · have : 2 ^ (b.h + 2) ≤ 2 ^ a.h := Nat.pow_le_pow_right (by decide) (by omega)
          rw [Nat.pow_add] at this
          omega
      have m2 : b.h ≤ a.h + 1 := by
        by_cases z : b.h ≤ a.h + 1
        · exact z
        · have : 2 ^ (a.h + 2) ≤ 2 ^ b.h := Nat.pow_le_pow_right (by decide) (by omega)
          rw [Nat.pow_add] at this
          omega
      refine ⟨mkT t a b, ?_, mkT_rt ra rb m1 m2, by rw [mkT_ls, la, lb, List.take_append_drop], ?_, ?_⟩
      · have := Bt.m (by omega) ba bb
        have e : (l.length + 1) / 2 - 1 + (l.length - (l.length + 1) / 2 - 1) + 1 = l.length - 1 := by omega
        rw [e] at this
        exact this
      · rw [mkT_h]
        rcases Nat.le_total a.h b.h with z | z
        · rw [Nat.max_eq_right z, Nat.pow_add]
          have : 2 ^ a.h ≤ 2 ^ b.h := Nat.pow_le_pow_right (by decide) z
          omega
        · rw [Nat.max_eq_left z, Nat.pow_add]
          have : 2 ^ b.h ≤ 2 ^ a.h := Nat.pow_le_pow_right (by decide) z
          omega
      · rw [mkT_h]
        have ev : a.h = 0 ∨ 2 ^ a.h = 2 * 2 ^ (a.h - 1) := by
          rcases Nat.eq_zero_or_pos a.h with z | z
          · exact .inl z
          · right
            have : a.h = (a.h - 1) + 1 := by omega
            conv => lhs; rw [this, Nat.pow_succ]
            omega
        rcases Nat.le_total a.h b.h with z | z
        · rw [Nat.max_eq_right z, Nat.pow_add]
          omega
        · rw [Nat.max_eq_left z, Nat.pow_add]
          rcases ev with ev | ev
          · rw [ev] at a1 ⊢
            omega
          · omega
end
end Dv
namespace Dv
open PySem PySem.Spec PyProof.Rows L2 Sf
/-- the leaves themselves -/
def T.fl : T → List T
  | .lf v x => [.lf v x]
  | .nd _ l r => l.fl ++ r.fl
def T.sz : T → Nat
  | .lf _ _ => 1
  | .nd _ l r => 1 + l.sz + r.sz
theorem T.sz_n : ∀ a : T, a.sz + 1 = 2 * a.n
  | .lf _ _ => rfl
  | .nd _ l r => by have := l.sz_n; have := r.sz_n; simp only [T.sz, T.n]; omega
theorem T.sz_pos (a : T) : 0 < a.sz := by cases a <;> simp [T.sz] <;> omega
def T.x : T → Str
  | .lf _ x => x
  | .nd _ _ _ => ""
theorem T.fl_ls : ∀ a : T, a.fl.map T.x = a.ls
  | .lf _ _ => rfl
  | .nd _ l r => by simp [T.fl, T.ls, l.fl_ls, r.fl_ls]
theorem T.fl_lf : ∀ a : T, ∀ b ∈ a.fl, ∃ v x, b = .lf v x
  | .lf v x, b, h => ⟨v, x, List.mem_singleton.mp h⟩
  | .nd _ l r, b, h => by
    rcases List.mem_append.mp h with h | h
    · exact l.fl_lf b h
    · exact r.fl_lf b h
theorem T.fl_len : ∀ a : T, a.fl.length = a.n
  | .lf _ _ => rfl
  | .nd _ l r => by simp [T.fl, T.n, l.fl_len, r.fl_len]
theorem eqv_strs : ∀ a b : List Str, PyData.eqvAll (a.map .str) (b.map .str) = decide (a = b)
  | [], [] => by simp [PyData.eqvAll]
  | [], _ :: _ => by simp [PyData.eqvAll]
  | _ :: _, [] => by simp [PyData.eqvAll]
  | x :: a, y :: b => by
    rw [List.map_cons, List.map_cons, PyData.eqvAll, eqv_strs a b, PyData.eqv]
    by_cases h : x = y
    · subst h; simp
    · simp [h]
theorem lay_strs (f : List Str) (h : ∀ x ∈ f, PyData.strOk x = true) : PyData.canLayAll0 (f.map .str) = true ∧ PyData.depthAll (f.map .str) = 0 := by
  induction f with
  | nil => exact ⟨rfl, rfl⟩
  | cons a r ih => simp [PyData.canLayAll0, PyData.canLay0, PyData.depthAll, PyData.depth, ih fun x hx => h x (by simp [hx]), h a (by simp)]
theorem shape_strT (f : List Str) (h : ∀ x ∈ f, PyData.strOk x = true) : SeqAt.shaped (.tuple (f.map .str)) = true := by
  unfold SeqAt.shaped
  simp [PyData.canLay0, PyData.depth, lay_strs f h]
theorem shape_strL (f : List Str) (h : ∀ x ∈ f, PyData.strOk x = true) : SeqAt.shaped (.list (f.map .str)) = true := by
  unfold SeqAt.shaped
  simp [PyData.canLay0, PyData.depth, lay_strs f h]
end Dv
set_option maxHeartbeats 4000000
namespace K93
open PySem PySem.Spec PyProof.Rows L2 Sf Dv
def fnames : List Str := ["tree", "left", "right", "height", "many", "table", "products"]
def exmT : List (Nat × Nat × Bool) := [(22, 22, true), (25, 22, false), (25, 25, true)]
def kitT : List (Nat × Nat × Bool) := [(22, 21, true), (22, 24, false), (22, 25, false), (22, 23, false), (25, 21, true), (25, 24, false), (25, 22, false), (25, 23, false)]
abbrev exmD : Nat → Nat → Option Bool := tbl exmT
abbrev kitD : Nat → Nat → Option Bool := tbl kitT
theorem nf_both : Str.ofString "both" ∉ fnames := by decide +kernel
theorem nf_built : Str.ofString "built" ∉ fnames := by decide +kernel
theorem nf_cut : Str.ofString "cut" ∉ fnames := by decide +kernel
theorem nf_joined : Str.ofString "joined" ∉ fnames := by decide +kernel
theorem nf_lefted : Str.ofString "lefted" ∉ fnames := by decide +kernel
theorem nf_node : Str.ofString "node" ∉ fnames := by decide +kernel
theorem nf_righted : Str.ofString "righted" ∉ fnames := by decide +kernel
abbrev i_times : Nat := 8
abbrev i_is_leaf : Nat := 10
abbrev i_leaf_of : Nat := 11
abbrev i_Part_init : Nat := 2200
abbrev i_part_of : Nat := 13
abbrev i_tree_of : Nat := 14
abbrev i_Maker_init : Nat := 2500
abbrev i_Maker_node : Nat := 2501
abbrev i_Maker_built : Nat := 2502
abbrev i_Maker_righted : Nat := 2504
abbrev i_Maker_lefted : Nat := 2505
abbrev i_Maker_joined : Nat := 2503
abbrev i_Maker_both : Nat := 2506
abbrev i_Maker_cut : Nat := 2507
abbrev i_leaves_of : Nat := 16
abbrev i_built : Nat := 17
abbrev i_joined : Nat := 18
abbrev i_cut_at : Nat := 19
abbrev i_judge_part : Nat := 21
abbrev i_judge_tree : Nat := 20
abbrev i_law_stream : Nat := 23
abbrev i_law_same : Nat := 25
abbrev i_law_word : Nat := 26
abbrev i_law_map : Nat := 28
abbrev i_law_built : Nat := 29
abbrev i_law_table : Nat := 30
abbrev i_law_log : Nat := 33
abbrev i_law_next : Nat := 24
abbrev i_law_letters : Nat := 27
abbrev i_law_height : Nat := 34
abbrev i_law_many : Nat := 35
abbrev i_law_node : Nat := 36
abbrev i_law_leaf : Nat := 37
abbrev i_law_made_of : Nat := 38
abbrev i_law_ordered : Nat := 39
abbrev i_law_beside : Nat := 40
abbrev i_law_join : Nat := 41
abbrev i_law_cut : Nat := 42
abbrev i_law_leaves : Nat := 43
abbrev i_law_right_tree : Nat := 44
abbrev i_law_told : Nat := 45
abbrev i_law_spoilt : Nat := 46
abbrev i_law_chain : Nat := 47
abbrev i_law_judged : Nat := 48
abbrev i_law : Nat := 49
/-! times : slots 0=table 1=first 2=second -/
def d_times (Φ : Nat → DSpec) : DS :=
  (dSeq (dIfS (dTest (dOp oLt (dVar 1) (dC (.int 0)))) (dRet (dVar 2)) dNext)
    (dSeq (dIfS (dTest (dOp oLt (dVar 2) (dC (.int 0)))) (dRet (dVar 1)) dNext)
    (dRet (dOp oIxT (dOp oIxT (dOp oIxT (dVar 0) (dC (.int 2))) (dVar 1)) (dVar 2)))))
/-! is_leaf : slots 0=tree -/
def d_is_leaf (Φ : Nat → DSpec) : DS :=
  (dRet (dOp oEq (dB bLen (dCons (dVar 0) dNil)) (dC (.int 2))))
/-! leaf_of : slots 0=table 1=letter -/
def d_leaf_of (Φ : Nat → DSpec) : DS :=
  (dSeq (dIfS (dTest (dOp (oIn true) (dVar 1) (dOp oIxT (dVar 0) (dC (.int 0))))) (dRaise 22) dNext)
    (dRet (dTup (dCons (dOp oIxT (dOp oIxT (dVar 0) (dC (.int 1))) (dIxT (dOp oIxT (dVar 0) (dC (.int 0))) (dCons (dVar 1) dNil))) (dCons (dVar 1) dNil)))))
/-! Part.__init__ : slots 0=self 1=tree 2=left 3=right -/
def d_Part_init (Φ : Nat → DSpec) : DS :=
  (dSeq (dSetF 20 (dVar 0) 0 (dVar 1))
    (dSeq (dSetF 20 (dVar 0) 1 (dVar 2))
    (dSeq (dSetF 20 (dVar 0) 2 (dVar 3))
    (dSeq (dSetF 20 (dVar 0) 3 (dIf (dTest (dOp oIsN (dVar 2) (dC .non))) (dC (.int 0)) (dOp oAdd (dC (.int 1)) (dB bMax2 (dCons (dFld 20 (dVar 2) 3) (dCons (dFld 20 (dVar 3) 3) dNil))))))
    (dSetF 20 (dVar 0) 4 (dIf (dTest (dOp oIsN (dVar 2) (dC .non))) (dC (.int 1)) (dOp oAdd (dFld 20 (dVar 2) 4) (dFld 20 (dVar 3) 4))))))))
/-! part_of : slots 0=tree -/
def d_part_of (Φ : Nat → DSpec) : DS :=
  (dSeq (dIfS (dTest (dCallN (Φ 10) (dCons (dVar 0) dNil))) (dRet (dMakeN 20 (Φ 2200) (dCons (dVar 0) (dCons (dC .non) (dCons (dC .non) dNil))))) dNext)
    (dRet (dMakeN 20 (Φ 2200) (dCons (dVar 0) (dCons (dCallN (Φ 13) (dCons (dOp oIxT (dVar 0) (dC (.int 1))) dNil)) (dCons (dCallN (Φ 13) (dCons (dOp oIxT (dVar 0) (dC (.int 2))) dNil)) dNil))))))
/-! tree_of : slots 0=part -/
def d_tree_of (Φ : Nat → DSpec) : DS :=
  (dRet (dIf (dTest (dOp oIsN (dVar 0) (dC .non))) (dC .non) (dFld 20 (dVar 0) 0)))
/-! Maker.__init__ : slots 0=self 1=table -/
def d_Maker_init (Φ : Nat → DSpec) : DS :=
  (dSeq (dSetF 26 (dVar 0) 5 (dVar 1))
    (dSetF 26 (dVar 0) 6 (dC (.int 0))))
/-! Maker.node : slots 0=self 1=left 2=right -/
def d_Maker_node (Φ : Nat → DSpec) : DS :=
  (dSeq (dAugF 26 (dVar 0) 6 (fun i j => i + j) (dC (.int 1)))
    (dRet (dMakeN 20 (Φ 2200) (dCons (dTup (dCons (dCallN (Φ 8) (dCons (dFld 26 (dVar 0) 5) (dCons (dOp oIxT (dFld 20 (dVar 1) 0) (dC (.int 0))) (dCons (dOp oIxT (dFld 20 (dVar 2) 0) (dC (.int 0))) dNil)))) (dCons (dFld 20 (dVar 1) 0) (dCons (dFld 20 (dVar 2) 0) dNil)))) (dCons (dVar 1) (dCons (dVar 2) dNil))))))
/-! Maker.built : slots 0=self 1=leaves 2=half -/
def d_Maker_built (Φ : Nat → DSpec) : DS :=
  (dSeq (dIfS (dTest (dOp oEq (dB bLen (dCons (dVar 1) dNil)) (dC (.int 1)))) (dRet (dMakeN 20 (Φ 2200) (dCons (dOp oIxL (dVar 1) (dC (.int 0))) (dCons (dC .non) (dCons (dC .non) dNil))))) dNext)
    (dSeq (dAsg (dOp oDiv (dOp oAdd (dB bLen (dCons (dVar 1) dNil)) (dC (.int 1))) (dC (.int 2))) (gdName 2))
    (dRet (dMethN 26 (Φ 2501) (dVar 0) (dCons (dMethN 26 (Φ 2502) (dVar 0) (dCons (dSl oSlL (dVar 1) dNoPart (dPart (dVar 2))) dNil)) (dCons (dMethN 26 (Φ 2502) (dVar 0) (dCons (dSl oSlL (dVar 1) (dPart (dVar 2)) dNoPart) dNil)) dNil))))))
/-! Maker.righted : slots 0=self 1=left 2=right 3=first 4=second -/
def d_Maker_righted (Φ : Nat → DSpec) : DS :=
  (dSeq (dIfS (dTest (dOp oLe (dOp oSub (dFld 20 (dVar 2) 3) (dFld 20 (dVar 1) 3)) (dC (.int 1)))) (dRet (dMethN 26 (Φ 2501) (dVar 0) (dCons (dVar 1) (dCons (dVar 2) dNil)))) dNext)
    (dSeq (dPar 3 4 (dCons (dFld 20 (dVar 2) 1) (dCons (dFld 20 (dVar 2) 2) dNil)))
    (dSeq (dIfS (dTest (dOp oLe (dFld 20 (dVar 3) 3) (dFld 20 (dVar 4) 3))) (dRet (dMethN 26 (Φ 2501) (dVar 0) (dCons (dMethN 26 (Φ 2501) (dVar 0) (dCons (dVar 1) (dCons (dVar 3) dNil))) (dCons (dVar 4) dNil)))) dNext)
    (dRet (dMethN 26 (Φ 2501) (dVar 0) (dCons (dMethN 26 (Φ 2501) (dVar 0) (dCons (dVar 1) (dCons (dFld 20 (dVar 3) 1) dNil))) (dCons (dMethN 26 (Φ 2501) (dVar 0) (dCons (dFld 20 (dVar 3) 2) (dCons (dVar 4) dNil))) dNil)))))))
/-! Maker.lefted : slots 0=self 1=left 2=right 3=first 4=second -/
def d_Maker_lefted (Φ : Nat → DSpec) : DS :=
  (dSeq (dIfS (dTest (dOp oLe (dOp oSub (dFld 20 (dVar 1) 3) (dFld 20 (dVar 2) 3)) (dC (.int 1)))) (dRet (dMethN 26 (Φ 2501) (dVar 0) (dCons (dVar 1) (dCons (dVar 2) dNil)))) dNext)
    (dSeq (dPar 3 4 (dCons (dFld 20 (dVar 1) 1) (dCons (dFld 20 (dVar 1) 2) dNil)))
    (dSeq (dIfS (dTest (dOp oLe (dFld 20 (dVar 4) 3) (dFld 20 (dVar 3) 3))) (dRet (dMethN 26 (Φ 2501) (dVar 0) (dCons (dVar 3) (dCons (dMethN 26 (Φ 2501) (dVar 0) (dCons (dVar 4) (dCons (dVar 2) dNil))) dNil)))) dNext)
    (dRet (dMethN 26 (Φ 2501) (dVar 0) (dCons (dMethN 26 (Φ 2501) (dVar 0) (dCons (dVar 3) (dCons (dFld 20 (dVar 4) 1) dNil))) (dCons (dMethN 26 (Φ 2501) (dVar 0) (dCons (dFld 20 (dVar 4) 2) (dCons (dVar 2) dNil))) dNil)))))))
/-! Maker.joined : slots 0=self 1=left 2=right -/
def d_Maker_joined (Φ : Nat → DSpec) : DS :=
  (dSeq (dIfS (dTest (dOp oLe (dB bAbs (dCons (dOp oSub (dFld 20 (dVar 1) 3) (dFld 20 (dVar 2) 3)) dNil)) (dC (.int 1)))) (dRet (dMethN 26 (Φ 2501) (dVar 0) (dCons (dVar 1) (dCons (dVar 2) dNil)))) dNext)
    (dSeq (dIfS (dTest (dOp oGt (dFld 20 (dVar 1) 3) (dFld 20 (dVar 2) 3))) (dRet (dMethN 26 (Φ 2504) (dVar 0) (dCons (dFld 20 (dVar 1) 1) (dCons (dMethN 26 (Φ 2503) (dVar 0) (dCons (dFld 20 (dVar 1) 2) (dCons (dVar 2) dNil))) dNil)))) dNext)
    (dRet (dMethN 26 (Φ 2505) (dVar 0) (dCons (dMethN 26 (Φ 2503) (dVar 0) (dCons (dVar 1) (dCons (dFld 20 (dVar 2) 1) dNil))) (dCons (dFld 20 (dVar 2) 2) dNil))))))
/-! Maker.both : slots 0=self 1=left 2=right -/
def d_Maker_both (Φ : Nat → DSpec) : DS :=
  (dSeq (dIfS (dOr (dTest (dOp oIsN (dVar 1) (dC .non))) (dTest (dOp oIsN (dVar 2) (dC .non)))) (dRet (dIf (dTest (dOp oIsN (dVar 2) (dC .non))) (dVar 1) (dVar 2))) dNext)
    (dRet (dMethN 26 (Φ 2503) (dVar 0) (dCons (dVar 1) (dCons (dVar 2) dNil)))))
/-! Maker.cut : slots 0=self 1=part 2=place 3=first 4=rest -/
def d_Maker_cut (Φ : Nat → DSpec) : DS :=
  (dSeq (dIfS (dOr (dTest (dOp oIsN (dVar 1) (dC .non))) (dTest (dOp oEq (dVar 2) (dC (.int 0))))) (dRet (dTup (dCons (dC .non) (dCons (dVar 1) dNil)))) dNext)
    (dSeq (dIfS (dTest (dOp oEq (dVar 2) (dFld 20 (dVar 1) 4))) (dRet (dTup (dCons (dVar 1) (dCons (dC .non) dNil)))) dNext)
    (dSeq (dIfS (dTest (dOp oLe (dVar 2) (dFld 20 (dFld 20 (dVar 1) 1) 4))) (dSeq (dAsg (dMethN 26 (Φ 2507) (dVar 0) (dCons (dFld 20 (dVar 1) 1) (dCons (dVar 2) dNil))) (gdTup 2 (gdCons (gdName 3) (gdCons (gdName 4) gdNil))))
    (dRet (dTup (dCons (dVar 3) (dCons (dMethN 26 (Φ 2506) (dVar 0) (dCons (dVar 4) (dCons (dFld 20 (dVar 1) 2) dNil))) dNil))))) dNext)
    (dSeq (dAsg (dMethN 26 (Φ 2507) (dVar 0) (dCons (dFld 20 (dVar 1) 2) (dCons (dOp oSub (dVar 2) (dFld 20 (dFld 20 (dVar 1) 1) 4)) dNil))) (gdTup 2 (gdCons (gdName 3) (gdCons (gdName 4) gdNil))))
    (dRet (dTup (dCons (dMethN 26 (Φ 2506) (dVar 0) (dCons (dFld 20 (dVar 1) 1) (dCons (dVar 3) dNil))) (dCons (dVar 4) dNil))))))))
/-! leaves_of : slots 0=tree 1=found 2=waiting 3=one -/
def d_leaves_of (Φ : Nat → DSpec) : DS :=
  (dSeq (dAsg (dLst dNil) (gdName 1))
    (dSeq (dAsg (dLst (dCons (dVar 0) dNil)) (gdName 2))
    (dSeq (dWhile (dTest (dOp oGt (dB bLen (dCons (dVar 2) dNil)) (dC (.int 0)))) (dSeq (dAsg (dM0 mPop (dVar 2)) (gdName 3))
    (dIfS (dTest (dCallN (Φ 10) (dCons (dVar 3) dNil))) (dDrop (dM mAppend (dVar 1) (dCons (dVar 3) dNil))) (dDrop (dM mExtend (dVar 2) (dCons (dLst (dCons (dOp oIxT (dVar 3) (dC (.int 2))) (dCons (dOp oIxT (dVar 3) (dC (.int 1))) dNil))) dNil))))))
    (dRet (dVar 1)))))
/-! built : slots 0=table 1=log 2=maker 3=part 4=letter -/
def d_built (Φ : Nat → DSpec) : DS :=
  (dSeq (dIfS (dTest (dOp oEq (dB bLen (dCons (dVar 1) dNil)) (dC (.int 0)))) (dRaise 22) dNext)
    (dSeq (dAsg (dMakeN 26 (Φ 2500) (dCons (dVar 0) dNil)) (gdName 2))
    (dSeq (dAsg (dMethN 26 (Φ 2502) (dVar 2) (dCons (dLcX0 (iT (dVar 1)) (gdName 4) (dCall (Φ 11) (dCons (dVar 0) (dCons (dVar 4) dNil))) [4]) dNil)) (gdName 3))
    (dRet (dTup (dCons (dFld 20 (dVar 3) 0) (dCons (dFld 26 (dVar 2) 6) dNil)))))))
/-! joined : slots 0=table 1=first 2=second 3=maker 4=part -/
def d_joined (Φ : Nat → DSpec) : DS :=
  (dSeq (dAsg (dMakeN 26 (Φ 2500) (dCons (dVar 0) dNil)) (gdName 3))
    (dSeq (dAsg (dMethN 26 (Φ 2503) (dVar 3) (dCons (dCallN (Φ 13) (dCons (dVar 1) dNil)) (dCons (dCallN (Φ 13) (dCons (dVar 2) dNil)) dNil))) (gdName 4))
    (dRet (dTup (dCons (dFld 20 (dVar 4) 0) (dCons (dFld 26 (dVar 3) 6) dNil))))))
/-! cut_at : slots 0=table 1=tree 2=place 3=maker 4=part 5=first 6=second -/
def d_cut_at (Φ : Nat → DSpec) : DS :=
  (dSeq (dAsg (dMakeN 26 (Φ 2500) (dCons (dVar 0) dNil)) (gdName 3))
    (dSeq (dAsg (dCallN (Φ 13) (dCons (dVar 1) dNil)) (gdName 4))
    (dSeq (dIfS (dNot (dTest (dChain oLe oLe (dC (.int 0)) (dVar 2) (dFld 20 (dVar 4) 4)))) (dRaise 22) dNext)
    (dSeq (dAsg (dMethN 26 (Φ 2507) (dVar 3) (dCons (dVar 4) (dCons (dVar 2) dNil))) (gdTup 2 (gdCons (gdName 5) (gdCons (gdName 6) gdNil))))
    (dRet (dTup (dCons (dCallN (Φ 14) (dCons (dVar 5) dNil)) (dCons (dCallN (Φ 14) (dCons (dVar 6) dNil)) (dCons (dFld 26 (dVar 3) 6) dNil)))))))))
/-! judge_part : slots 0=table 1=tree 2=first 3=second -/
def d_judge_part (Φ : Nat → DSpec) : DS :=
  (dSeq (dIfS (dTest (dCallN (Φ 10) (dCons (dVar 1) dNil))) (dSeq (dIfS (dOr (dTest (dOp (oIn true) (dOp oIxT (dVar 1) (dC (.int 1))) (dOp oIxT (dVar 0) (dC (.int 0))))) (dTest (dOp oNe (dOp oIxT (dVar 1) (dC (.int 0))) (dOp oIxT (dOp oIxT (dVar 0) (dC (.int 1))) (dIxT (dOp oIxT (dVar 0) (dC (.int 0))) (dCons (dOp oIxT (dVar 1) (dC (.int 1))) dNil)))))) (dRaise 25) dNext)
    (dRet (dC (.int 0)))) dNext)
    (dSeq (dPar 2 3 (dCons (dCall (Φ 21) (dCons (dVar 0) (dCons (dOp oIxT (dVar 1) (dC (.int 1))) dNil))) (dCons (dCall (Φ 21) (dCons (dVar 0) (dCons (dOp oIxT (dVar 1) (dC (.int 2))) dNil))) dNil)))
    (dSeq (dIfS (dOr (dTest (dOp oGt (dB bAbs (dCons (dOp oSub (dVar 2) (dVar 3)) dNil)) (dC (.int 1)))) (dTest (dOp oNe (dOp oIxT (dVar 1) (dC (.int 0))) (dCallN (Φ 8) (dCons (dVar 0) (dCons (dOp oIxT (dOp oIxT (dVar 1) (dC (.int 1))) (dC (.int 0))) (dCons (dOp oIxT (dOp oIxT (dVar 1) (dC (.int 2))) (dC (.int 0))) dNil))))))) (dRaise 25) dNext)
    (dRet (dOp oAdd (dC (.int 1)) (dB bMax2 (dCons (dVar 2) (dCons (dVar 3) dNil))))))))
/-! judge_tree : slots 0=table 1=log 2=tree 3=leaf -/
def d_judge_tree (Φ : Nat → DSpec) : DS :=
  (dSeq (dIfS (dTest (dOp oNeD (dLc0 (iL (dCallN (Φ 16) (dCons (dVar 2) dNil))) (gdName 3) (dOp oIxT (dVar 3) (dC (.int 1))) [3]) (dB bList (dCons (dVar 1) dNil)))) (dRaise 25) dNext)
    (dDrop (dCall (Φ 21) (dCons (dVar 0) (dCons (dVar 2) dNil)))))
/-! _law_stream : slots 0=script 1=numbers 2=cell 3=rest 4=k 5=mixed -/
def d_law_stream (Φ : Nat → DSpec) : DS :=
  (dSeq (dAsg (dLst dNil) (gdName 1))
    (dSeq (dFor (iL (dSl oSlL (dVar 0) dNoPart (dPart (dC (.int 63))))) (gdName 2)
    (dSeq (dAsg (dB bAbs (dCons (dB bInt (dCons (dVar 2) dNil)) dNil)) (gdName 3))
    (dIfS (dTest (dOp oGe (dVar 3) (dOp oPow (dC (.int 10)) (dC (.int 18))))) (dFor (iR1 (dCons (dC (.int 60)) dNil)) (gdName 4)
    (dSeq (dDrop (dM mAppend (dVar 1) (dCons (dOp oMod (dB bInt (dCons (dVar 3) dNil)) (dC (.int 1009))) dNil)))
    (dSeq (dAsg (dOp oDiv (dVar 3) (dC (.int 1009))) (gdName 3))
    (dIfS (dTest (dOp oEq (dVar 3) (dC (.int 0)))) dBreak dNext)))) (dSeq (dAsg (dOp oMod (dB bInt (dCons (dVar 3) dNil)) (dC (.int 2147483647))) (gdName 5))
    (dFor (iR1 (dCons (dC (.int 10)) dNil)) (gdName 4)
    (dSeq (dAsg (dOp oMod (dB bInt (dCons (dOp oAdd (dOp oAdd (dOp oMul (dVar 5) (dC (.int 48271))) (dOp oMul (dC (.int 7)) (dVar 4))) (dC (.int 11))) dNil)) (dC (.int 2147483647))) (gdName 5))
    (dDrop (dM mAppend (dVar 1) (dCons (dOp oMod (dOp oMod (dB bInt (dCons (dOp oAdd (dOp oMul (dVar 5) (dC (.int 69621))) (dVar 4)) dNil)) (dC (.int 2147483629))) (dC (.int 1009))) dNil)))))))))
    (dSeq (dIfS (dTest (dOp oEq (dB bLen (dCons (dVar 1) dNil)) (dC (.int 0)))) (dDrop (dM mAppend (dVar 1) (dCons (dC (.int 0)) dNil))) dNext)
    (dRet (dVar 1)))))
/-! _law_same : slots 0=told 1=due -/
def d_law_same (Φ : Nat → DSpec) : DS :=
  (dRet (dOp oEq (dB bRepr (dCons (dLst (dCons (dVar 0) dNil)) dNil)) (dB bRepr (dCons (dLst (dCons (dVar 1) dNil)) dNil))))
/-! _law_word : slots 0=state 1=taken 2=word 3=k -/
def d_law_word (Φ : Nat → DSpec) : DS :=
  (dSeq (dAsg (dC (.str "")) (gdName 2))
    (dSeq (dFor (iR1 (dCons (dOp oIxL (dLst (dCons (dC (.int 1)) (dCons (dC (.int 2)) (dCons (dOp oAdd (dC (.int 1)) (dCallN (Φ 24) (dCons (dVar 0) (dCons (dC (.int 8)) dNil)))) dNil)))) (dCallN (Φ 24) (dCons (dVar 0) (dCons (dC (.int 3)) dNil)))) dNil)) (gdName 3)
    (dAsg (dOp oAddS (dVar 2) (dOp oIxS (dC (.str "abyz")) (dCallN (Φ 24) (dCons (dVar 0) (dCons (dC (.int 4)) dNil))))) (gdName 2)))
    (dSeq (dIfS (dTest (dOp (oIn false) (dVar 2) (dVar 1))) (dRet (dOp oAddS (dC (.str "c")) (dOp oIxS (dC (.str "abcdefghijklmnopqrstuvwxyz")) (dB bLen (dCons (dVar 1) dNil))))) dNext)
    (dRet (dVar 2)))))
/-! _law_map : slots 0=state 1=rooms 2=kind 3=one 4=other 5=turn 6=k -/
def d_law_map (Φ : Nat → DSpec) : DS :=
  (dSeq (dIfS (dTest (dOp oEq (dVar 2) (dC (.int 0)))) (dRet (dB bTup (dCons (dLc0 (iR1 (dCons (dVar 1) dNil)) (gdName 6) (dCallN (Φ 24) (dCons (dVar 0) (dCons (dVar 1) dNil))) [6]) dNil))) dNext)
    (dSeq (dIfS (dTest (dOp oEq (dVar 2) (dC (.int 1)))) (dRet (dB bTup (dCons (dB bSorted (dCons (dLc0 (iR1 (dCons (dVar 1) dNil)) (gdName 6) (dCallN (Φ 24) (dCons (dVar 0) (dCons (dVar 1) dNil))) [6]) dNil)) dNil))) dNext)
    (dSeq (dIfS (dTest (dOp oEq (dVar 2) (dC (.int 2)))) (dSeq (dAsg (dCallN (Φ 24) (dCons (dVar 0) (dCons (dVar 1) dNil))) (gdName 5))
    (dRet (dB bTup (dCons (dLc0 (iR1 (dCons (dVar 1) dNil)) (gdName 6) (dOp oMod (dB bInt (dCons (dOp oAdd (dVar 6) (dVar 5)) dNil)) (dVar 1)) [6]) dNil)))) dNext)
    (dSeq (dIfS (dTest (dOp oEq (dVar 2) (dC (.int 3)))) (dRet (dOp oRepT (dTup (dCons (dCallN (Φ 24) (dCons (dVar 0) (dCons (dVar 1) dNil))) dNil)) (dVar 1))) dNext)
    (dSeq (dIfS (dTest (dOp oEq (dVar 2) (dC (.int 4)))) (dRet (dB bTup (dCons (dLc0 (iR1 (dCons (dVar 1) dNil)) (gdName 6) (dB bMin2 (dCons (dOp oSub (dVar 1) (dC (.int 1))) (dCons (dOp oAdd (dOp oAdd (dVar 6) (dC (.int 1))) (dCallN (Φ 24) (dCons (dVar 0) (dCons (dC (.int 2)) dNil)))) dNil))) [6]) dNil))) dNext)
    (dSeq (dAsg (dCallN (Φ 24) (dCons (dVar 0) (dCons (dOp oSub (dVar 1) (dC (.int 1))) dNil))) (gdName 3))
    (dSeq (dAsg (dCallN (Φ 24) (dCons (dVar 0) (dCons (dOp oSub (dVar 1) (dC (.int 1))) dNil))) (gdName 4))
    (dRet (dB bTup (dCons (dLc0 (iR1 (dCons (dVar 1) dNil)) (gdName 6) (dOp oIxL (dLst (dCons (dOp oSub (dVar 1) (dC (.int 1))) (dCons (dVar 4) dNil))) (dB bInt (dCons (dOp oEq (dVar 6) (dVar 3)) dNil))) [6]) dNil))))))))))
/-! _law_built : slots 0=letters 1=maps 2=found 3=one 4=at 5=products 6=longer 7=other 8=room -/
def d_law_built (Φ : Nat → DSpec) : DS :=
  (dSeq (dAsg (dLst dNil) (gdName 2))
    (dSeq (dFor (iL (dVar 1)) (gdName 3)
    (dIfS (dTest (dOp (oInD true) (dVar 3) (dVar 2))) (dDrop (dM mAppend (dVar 2) (dCons (dVar 3) dNil))) dNext))
    (dSeq (dFor (iR1 (dCons (dC (.int 400)) dNil)) (gdName 4)
    (dIfS (dTest (dOp oLt (dVar 4) (dB bLen (dCons (dVar 2) dNil)))) (dFor (iL (dVar 1)) (gdName 3)
    (dSeq (dAsg (dB bTup (dCons (dLc0 (iT (dOp oIxL (dVar 2) (dVar 4))) (gdName 8) (dOp oIxT (dVar 3) (dVar 8)) [8]) dNil)) (gdName 6))
    (dIfS (dTest (dOp (oInD true) (dVar 6) (dVar 2))) (dDrop (dM mAppend (dVar 2) (dCons (dVar 6) dNil))) dNext))) dNext))
    (dSeq (dAsg (dLst dNil) (gdName 5))
    (dSeq (dFor (iL (dVar 2)) (gdName 3)
    (dDrop (dM mAppend (dVar 5) (dCons (dB bTup (dCons (dLc0 (iL (dVar 2)) (gdName 7) (dM mIndexD (dVar 2) (dCons (dB bTup (dCons (dLc0 (iT (dVar 3)) (gdName 8) (dOp oIxT (dVar 7) (dVar 8)) [8]) dNil)) dNil)) [7]) dNil)) dNil))))
    (dRet (dTup (dCons (dVar 0) (dCons (dB bTup (dCons (dLc0 (iL (dVar 1)) (gdName 3) (dM mIndexD (dVar 2) (dCons (dVar 3) dNil)) [3]) dNil)) (dCons (dB bTup (dCons (dVar 5) dNil)) dNil))))))))))
/-! _law_table : slots 0=state 1=rooms 2=kinds 3=maps 4=k 5=kind -/
def d_law_table (Φ : Nat → DSpec) : DS :=
  (dSeq (dIfS (dTest (dOp oEq (dCallN (Φ 24) (dCons (dVar 0) (dCons (dC (.int 7)) dNil))) (dC (.int 0)))) (dRet (dCallN (Φ 29) (dCons (dCallN (Φ 27) (dCons (dVar 0) (dCons (dC (.int 4)) dNil))) (dCons (dLc0 (iR1 (dCons (dC (.int 4)) dNil)) (gdName 4) (dCallN (Φ 28) (dCons (dVar 0) (dCons (dC (.int 2)) (dCons (dC (.int 0)) dNil)))) [4]) dNil)))) dNext)
    (dSeq (dAsg (dOp oIxL (dLst (dCons (dC (.int 3)) (dCons (dC (.int 3)) (dCons (dC (.int 2)) (dCons (dC (.int 4)) dNil))))) (dCallN (Φ 24) (dCons (dVar 0) (dCons (dC (.int 4)) dNil)))) (gdName 1))
    (dSeq (dAsg (dOp oIxL (dLst (dCons (dLst (dCons (dC (.int 0)) dNil)) (dCons (dLst (dCons (dC (.int 0)) (dCons (dC (.int 1)) dNil))) (dCons (dLst (dCons (dC (.int 1)) (dCons (dC (.int 3)) dNil))) (dCons (dLst (dCons (dC (.int 0)) (dCons (dC (.int 2)) dNil))) (dCons (dLst (dCons (dC (.int 2)) (dCons (dC (.int 3)) dNil))) (dCons (dLst (dCons (dC (.int 1)) (dCons (dC (.int 4)) dNil))) (dCons (dLst (dCons (dC (.int 5)) dNil)) (dCons (dLst (dCons (dC (.int 5)) (dCons (dC (.int 3)) dNil))) dNil))))))))) (dCallN (Φ 24) (dCons (dVar 0) (dCons (dC (.int 8)) dNil)))) (gdName 2))
    (dSeq (dAsg (dLst dNil) (gdName 3))
    (dSeq (dFor (iR1 (dCons (dOp oIxL (dLst (dCons (dC (.int 2)) (dCons (dC (.int 3)) (dCons (dC (.int 2)) (dCons (dC (.int 1)) dNil))))) (dCallN (Φ 24) (dCons (dVar 0) (dCons (dC (.int 4)) dNil)))) dNil)) (gdName 4)
    (dSeq (dAsg (dOp oIxL (dVar 2) (dCallN (Φ 24) (dCons (dVar 0) (dCons (dB bLen (dCons (dVar 2) dNil)) dNil)))) (gdName 5))
    (dDrop (dM mAppend (dVar 3) (dCons (dCallN (Φ 28) (dCons (dVar 0) (dCons (dVar 1) (dCons (dOp oIxL (dLst (dCons (dVar 5) (dCons (dC (.int 1)) dNil))) (dB bInt (dCons (dAndV (dOp oEq (dVar 5) (dC (.int 0))) (dOp oEq (dVar 1) (dC (.int 4)))) dNil))) dNil)))) dNil)))))
    (dSeq (dIfS (dAnd (dTest (dOp oEq (dVar 1) (dC (.int 4)))) (dTest (dOp (oIn false) (dC (.int 2)) (dVar 2)))) (dAsg (dSl oSlL (dVar 3) dNoPart (dPart (dC (.int 1)))) (gdName 3)) dNext)
    (dRet (dCallN (Φ 29) (dCons (dCallN (Φ 27) (dCons (dVar 0) (dCons (dB bLen (dCons (dVar 3) dNil)) dNil))) (dCons (dVar 3) dNil))))))))))
/-! _law_log : slots 0=state 1=table 2=many 3=k -/
def d_law_log (Φ : Nat → DSpec) : DS :=
  (dRet (dB bTup (dCons (dLc0 (iR1 (dCons (dVar 2) dNil)) (gdName 3) (dOp oIxT (dOp oIxT (dVar 1) (dC (.int 0))) (dCallN (Φ 24) (dCons (dVar 0) (dCons (dB bLen (dCons (dOp oIxT (dVar 1) (dC (.int 0))) dNil)) dNil)))) [3]) dNil)))
/-! _law_next : slots 0=state 1=many 2=turn -/
def d_law_next (Φ : Nat → DSpec) : DS :=
  (dSeq (dAsg (dOp oAdd (dOp oIxL (dVar 0) (dC (.int 1))) (dC (.int 1))) (gdSub (dVar 0) (dC (.int 1))))
    (dSeq (dAsg (dOp oDiv (dOp oIxL (dVar 0) (dC (.int 1))) (dB bLen (dCons (dOp oIxL (dVar 0) (dC (.int 0))) dNil))) (gdName 2))
    (dRet (dOp oMod (dB bInt (dCons (dOp oAdd (dOp oAdd (dOp oIxL (dOp oIxL (dVar 0) (dC (.int 0))) (dOp oMod (dOp oIxL (dVar 0) (dC (.int 1))) (dB bLen (dCons (dOp oIxL (dVar 0) (dC (.int 0))) dNil)))) (dOp oMul (dVar 2) (dC (.int 389)))) (dOp oMul (dOp oMul (dOp oIxL (dVar 0) (dC (.int 1))) (dVar 2)) (dC (.int 17)))) dNil)) (dVar 1)))))
/-! _law_letters : slots 0=state 1=many 2=found 3=k -/
def d_law_letters (Φ : Nat → DSpec) : DS :=
  (dSeq (dAsg (dLst dNil) (gdName 2))
    (dSeq (dFor (iR1 (dCons (dVar 1) dNil)) (gdName 3)
    (dDrop (dM mAppend (dVar 2) (dCons (dCallN (Φ 26) (dCons (dVar 0) (dCons (dVar 2) dNil))) dNil))))
    (dRet (dB bTupF (dCons (dVar 2) dNil)))))
/-! _law_height : slots 0=tree -/
def d_law_height (Φ : Nat → DSpec) : DS :=
  (dSeq (dIfS (dTest (dOp oEq (dB bLen (dCons (dVar 0) dNil)) (dC (.int 2)))) (dRet (dC (.int 0))) dNext)
    (dRet (dOp oAdd (dC (.int 1)) (dB bMax2 (dCons (dCallN (Φ 34) (dCons (dOp oIxT (dVar 0) (dC (.int 1))) dNil)) (dCons (dCallN (Φ 34) (dCons (dOp oIxT (dVar 0) (dC (.int 2))) dNil)) dNil))))))
/-! _law_many : slots 0=tree -/
def d_law_many (Φ : Nat → DSpec) : DS :=
  (dSeq (dIfS (dTest (dOp oEq (dB bLen (dCons (dVar 0) dNil)) (dC (.int 2)))) (dRet (dC (.int 1))) dNext)
    (dRet (dOp oAdd (dCallN (Φ 35) (dCons (dOp oIxT (dVar 0) (dC (.int 1))) dNil)) (dCallN (Φ 35) (dCons (dOp oIxT (dVar 0) (dC (.int 2))) dNil)))))
/-! _law_node : slots 0=table 1=left 2=right 3=count -/
def d_law_node (Φ : Nat → DSpec) : DS :=
  (dSeq (dAsg (dOp oAdd (dOp oIxL (dVar 3) (dC (.int 0))) (dC (.int 1))) (gdSub (dVar 3) (dC (.int 0))))
    (dRet (dTup (dCons (dOp oIxT (dOp oIxT (dOp oIxT (dVar 0) (dC (.int 2))) (dOp oIxT (dVar 1) (dC (.int 0)))) (dOp oIxT (dVar 2) (dC (.int 0)))) (dCons (dVar 1) (dCons (dVar 2) dNil))))))
/-! _law_leaf : slots 0=table 1=letter -/
def d_law_leaf (Φ : Nat → DSpec) : DS :=
  (dRet (dTup (dCons (dOp oIxT (dOp oIxT (dVar 0) (dC (.int 1))) (dIxT (dOp oIxT (dVar 0) (dC (.int 0))) (dCons (dVar 1) dNil))) (dCons (dVar 1) dNil))))
/-! _law_made_of : slots 0=table 1=leaves 2=count 3=half -/
def d_law_made_of (Φ : Nat → DSpec) : DS :=
  (dSeq (dIfS (dTest (dOp oEq (dB bLen (dCons (dVar 1) dNil)) (dC (.int 1)))) (dRet (dOp oIxL (dVar 1) (dC (.int 0)))) dNext)
    (dSeq (dAsg (dOp oDiv (dOp oAdd (dB bLen (dCons (dVar 1) dNil)) (dC (.int 1))) (dC (.int 2))) (gdName 3))
    (dRet (dCallN (Φ 36) (dCons (dVar 0) (dCons (dCallN (Φ 38) (dCons (dVar 0) (dCons (dSl oSlL (dVar 1) dNoPart (dPart (dVar 3))) (dCons (dVar 2) dNil)))) (dCons (dCallN (Φ 38) (dCons (dVar 0) (dCons (dSl oSlL (dVar 1) (dPart (dVar 3)) dNoPart) (dCons (dVar 2) dNil)))) (dCons (dVar 2) dNil))))))))
/-! _law_ordered : slots 0=table 1=first 2=second 3=is_left 4=count -/
def d_law_ordered (Φ : Nat → DSpec) : DS :=
  (dSeq (dIfS (dTest (dVar 3)) (dRet (dCallN (Φ 36) (dCons (dVar 0) (dCons (dVar 1) (dCons (dVar 2) (dCons (dVar 4) dNil)))))) dNext)
    (dRet (dCallN (Φ 36) (dCons (dVar 0) (dCons (dVar 2) (dCons (dVar 1) (dCons (dVar 4) dNil)))))))
/-! _law_beside : slots 0=table 1=low 2=high 3=is_left 4=count 5=first 6=near 7=far 8=one 9=other -/
def d_law_beside (Φ : Nat → DSpec) : DS :=
  (dSeq (dIfS (dTest (dOp oLe (dCallN (Φ 34) (dCons (dVar 2) dNil)) (dOp oAdd (dCallN (Φ 34) (dCons (dVar 1) dNil)) (dC (.int 1))))) (dRet (dCallN (Φ 39) (dCons (dVar 0) (dCons (dVar 1) (dCons (dVar 2) (dCons (dVar 3) (dCons (dVar 4) dNil))))))) dNext)
    (dSeq (dPar 6 7 (dCons (dOp oIxT (dVar 2) (dC (.int 1))) (dCons (dOp oIxT (dVar 2) (dC (.int 2))) dNil)))
    (dSeq (dIfS (dNot (dTest (dVar 3))) (dPar 6 7 (dCons (dOp oIxT (dVar 2) (dC (.int 2))) (dCons (dOp oIxT (dVar 2) (dC (.int 1))) dNil))) dNext)
    (dSeq (dIfS (dTest (dOp oLe (dCallN (Φ 34) (dCons (dVar 6) dNil)) (dCallN (Φ 34) (dCons (dVar 7) dNil)))) (dRet (dCallN (Φ 39) (dCons (dVar 0) (dCons (dCallN (Φ 39) (dCons (dVar 0) (dCons (dVar 1) (dCons (dVar 6) (dCons (dVar 3) (dCons (dVar 4) dNil)))))) (dCons (dVar 7) (dCons (dVar 3) (dCons (dVar 4) dNil))))))) dNext)
    (dSeq (dPar 8 9 (dCons (dOp oIxT (dVar 6) (dC (.int 1))) (dCons (dOp oIxT (dVar 6) (dC (.int 2))) dNil)))
    (dSeq (dIfS (dNot (dTest (dVar 3))) (dPar 8 9 (dCons (dOp oIxT (dVar 6) (dC (.int 2))) (dCons (dOp oIxT (dVar 6) (dC (.int 1))) dNil))) dNext)
    (dSeq (dAsg (dCallN (Φ 39) (dCons (dVar 0) (dCons (dVar 1) (dCons (dVar 8) (dCons (dVar 3) (dCons (dVar 4) dNil)))))) (gdName 5))
    (dRet (dCallN (Φ 39) (dCons (dVar 0) (dCons (dVar 5) (dCons (dCallN (Φ 39) (dCons (dVar 0) (dCons (dVar 9) (dCons (dVar 7) (dCons (dVar 3) (dCons (dVar 4) dNil)))))) (dCons (dVar 3) (dCons (dVar 4) dNil))))))))))))))
/-! _law_join : slots 0=table 1=left 2=right 3=count 4=high 5=low -/
def d_law_join (Φ : Nat → DSpec) : DS :=
  (dSeq (dIfS (dOr (dTest (dOp oIsN (dVar 1) (dC .non))) (dTest (dOp oIsN (dVar 2) (dC .non)))) (dRet (dOp oIxL (dLst (dCons (dVar 1) (dCons (dVar 2) dNil))) (dB bInt (dCons (dOp oIsN (dVar 1) (dC .non)) dNil)))) dNext)
    (dSeq (dPar 4 5 (dCons (dCallN (Φ 34) (dCons (dVar 1) dNil)) (dCons (dCallN (Φ 34) (dCons (dVar 2) dNil)) dNil)))
    (dSeq (dIfS (dTest (dOp oLt (dB bAbs (dCons (dOp oSub (dVar 4) (dVar 5)) dNil)) (dC (.int 2)))) (dRet (dCallN (Φ 36) (dCons (dVar 0) (dCons (dVar 1) (dCons (dVar 2) (dCons (dVar 3) dNil)))))) dNext)
    (dSeq (dIfS (dTest (dOp oGt (dVar 4) (dVar 5))) (dRet (dCallN (Φ 40) (dCons (dVar 0) (dCons (dOp oIxT (dVar 1) (dC (.int 1))) (dCons (dCallN (Φ 41) (dCons (dVar 0) (dCons (dOp oIxT (dVar 1) (dC (.int 2))) (dCons (dVar 2) (dCons (dVar 3) dNil))))) (dCons (dC (.bl true)) (dCons (dVar 3) dNil))))))) dNext)
    (dRet (dCallN (Φ 40) (dCons (dVar 0) (dCons (dOp oIxT (dVar 2) (dC (.int 2))) (dCons (dCallN (Φ 41) (dCons (dVar 0) (dCons (dVar 1) (dCons (dOp oIxT (dVar 2) (dC (.int 1))) (dCons (dVar 3) dNil))))) (dCons (dC (.bl false)) (dCons (dVar 3) dNil)))))))))))
/-! _law_cut : slots 0=table 1=tree 2=place 3=count 4=many 5=first 6=ahead 7=behind -/
def d_law_cut (Φ : Nat → DSpec) : DS :=
  (dSeq (dIfS (dTest (dOp oEq (dVar 2) (dC (.int 0)))) (dRet (dTup (dCons (dC .non) (dCons (dVar 1) dNil)))) dNext)
    (dSeq (dAsg (dCallN (Φ 35) (dCons (dVar 1) dNil)) (gdName 4))
    (dSeq (dIfS (dTest (dOp oEq (dVar 2) (dVar 4))) (dRet (dTup (dCons (dVar 1) (dCons (dC .non) dNil)))) dNext)
    (dSeq (dAsg (dCallN (Φ 35) (dCons (dOp oIxT (dVar 1) (dC (.int 1))) dNil)) (gdName 5))
    (dSeq (dIfS (dTest (dOp oLe (dVar 2) (dVar 5))) (dSeq (dAsg (dCallN (Φ 42) (dCons (dVar 0) (dCons (dOp oIxT (dVar 1) (dC (.int 1))) (dCons (dVar 2) (dCons (dVar 3) dNil))))) (gdTup 2 (gdCons (gdName 6) (gdCons (gdName 7) gdNil))))
    (dRet (dTup (dCons (dVar 6) (dCons (dCallN (Φ 41) (dCons (dVar 0) (dCons (dVar 7) (dCons (dOp oIxT (dVar 1) (dC (.int 2))) (dCons (dVar 3) dNil))))) dNil))))) dNext)
    (dSeq (dAsg (dCallN (Φ 42) (dCons (dVar 0) (dCons (dOp oIxT (dVar 1) (dC (.int 2))) (dCons (dOp oSub (dVar 2) (dVar 5)) (dCons (dVar 3) dNil))))) (gdTup 2 (gdCons (gdName 6) (gdCons (gdName 7) gdNil))))
    (dRet (dTup (dCons (dCallN (Φ 41) (dCons (dVar 0) (dCons (dOp oIxT (dVar 1) (dC (.int 1))) (dCons (dVar 6) (dCons (dVar 3) dNil))))) (dCons (dVar 7) dNil))))))))))
/-! _law_leaves : slots 0=tree -/
def d_law_leaves (Φ : Nat → DSpec) : DS :=
  (dSeq (dIfS (dTest (dOp oEq (dB bLen (dCons (dVar 0) dNil)) (dC (.int 2)))) (dRet (dLst (dCons (dOp oIxT (dVar 0) (dC (.int 1))) dNil))) dNext)
    (dRet (dOp oCat (dCallN (Φ 43) (dCons (dOp oIxT (dVar 0) (dC (.int 1))) dNil)) (dCallN (Φ 43) (dCons (dOp oIxT (dVar 0) (dC (.int 2))) dNil)))))
/-! _law_right_tree : slots 0=table 1=tree -/
def d_law_right_tree (Φ : Nat → DSpec) : DS :=
  (dSeq (dIfS (dTest (dOp oEq (dB bLen (dCons (dVar 1) dNil)) (dC (.int 2)))) (dRet (dAndV (dOp (oIn false) (dOp oIxT (dVar 1) (dC (.int 1))) (dOp oIxT (dVar 0) (dC (.int 0)))) (dOp oEq (dOp oIxT (dVar 1) (dC (.int 0))) (dOp oIxT (dOp oIxT (dVar 0) (dC (.int 1))) (dIxT (dOp oIxT (dVar 0) (dC (.int 0))) (dCons (dOp oIxT (dVar 1) (dC (.int 1))) dNil)))))) dNext)
    (dSeq (dIfS (dOr (dTest (dOp oGt (dB bAbs (dCons (dOp oSub (dCallN (Φ 34) (dCons (dOp oIxT (dVar 1) (dC (.int 1))) dNil)) (dCallN (Φ 34) (dCons (dOp oIxT (dVar 1) (dC (.int 2))) dNil))) dNil)) (dC (.int 1)))) (dOr (dNot (dTest (dCallN (Φ 44) (dCons (dVar 0) (dCons (dOp oIxT (dVar 1) (dC (.int 1))) dNil))))) (dNot (dTest (dCallN (Φ 44) (dCons (dVar 0) (dCons (dOp oIxT (dVar 1) (dC (.int 2))) dNil))))))) (dRet (dC (.bl false))) dNext)
    (dRet (dOp oEq (dOp oIxT (dVar 1) (dC (.int 0))) (dOp oIxT (dOp oIxT (dOp oIxT (dVar 0) (dC (.int 2))) (dOp oIxT (dOp oIxT (dVar 1) (dC (.int 1))) (dC (.int 0)))) (dOp oIxT (dOp oIxT (dVar 1) (dC (.int 2))) (dC (.int 0))))))))
/-! _law_told : slots 0=way 1=table 2=first 3=second 4=e -/
def d_law_told (Φ : Nat → DSpec) : DS :=
  (dTry exmD (dSeq (dIfS (dTest (dOp oEq (dVar 0) (dC (.int 0)))) (dRet (dTup (dCons (dC (.str "told")) (dCons (dCall (Φ 17) (dCons (dVar 1) (dCons (dVar 2) dNil))) dNil)))) dNext)
    (dSeq (dIfS (dTest (dOp oEq (dVar 0) (dC (.int 1)))) (dRet (dTup (dCons (dC (.str "told")) (dCons (dCallN (Φ 18) (dCons (dVar 1) (dCons (dVar 2) (dCons (dVar 3) dNil)))) dNil)))) dNext)
    (dSeq (dIfS (dTest (dOp oEq (dVar 0) (dC (.int 2)))) (dRet (dTup (dCons (dC (.str "told")) (dCons (dCall (Φ 19) (dCons (dVar 1) (dCons (dVar 2) (dCons (dVar 3) dNil)))) dNil)))) dNext)
    (dRet (dTup (dCons (dC (.str "told")) (dCons (dCall (Φ 20) (dCons (dVar 1) (dCons (dVar 2) (dCons (dVar 3) dNil)))) dNil))))))) (⟨22, 4, fun ah => (dRet (dOp oIxL (dLst (dCons (dC (.str "refused")) (dCons (dC (.str "odd")) dNil))) (dB bInt (dCons (dOrV (dNotV (dIsE ah kitD 22 4 21)) (dIsEs ah kitD 22 4 [24, 25, 23])) dNil))))⟩ :: (⟨25, 4, fun ah => (dRet (dOp oIxL (dLst (dCons (dC (.str "paper")) (dCons (dC (.str "odd")) dNil))) (dB bInt (dCons (dOrV (dNotV (dIsE ah kitD 25 4 21)) (dIsEs ah kitD 25 4 [24, 22, 23])) dNil))))⟩ :: [])))
/-! _law_spoilt : slots 0=state 1=table 2=tree 3=way 4=many 5=value 6=letter -/
def d_law_spoilt (Φ : Nat → DSpec) : DS :=
  (dSeq (dAsg (dCallN (Φ 24) (dCons (dVar 0) (dCons (dC (.int 9)) dNil))) (gdName 3))
    (dSeq (dAsg (dB bLen (dCons (dOp oIxT (dVar 1) (dC (.int 2))) dNil)) (gdName 4))
    (dSeq (dIfS (dTest (dOp oEq (dB bLen (dCons (dVar 2) dNil)) (dC (.int 2)))) (dSeq (dAsg (dOp oIxL (dLst (dCons (dCallN (Φ 24) (dCons (dVar 0) (dCons (dVar 4) dNil))) (dCons (dVar 4) (dCons (dUn oNeg (dC (.int 1))) dNil)))) (dCallN (Φ 24) (dCons (dVar 0) (dCons (dC (.int 3)) dNil)))) (gdName 5))
    (dSeq (dAsg (dOp oIxL (dLst (dCons (dOp oIxT (dOp oIxT (dVar 1) (dC (.int 0))) (dCallN (Φ 24) (dCons (dVar 0) (dCons (dB bLen (dCons (dOp oIxT (dVar 1) (dC (.int 0))) dNil)) dNil)))) (dCons (dC (.str "qq")) dNil))) (dCallN (Φ 24) (dCons (dVar 0) (dCons (dC (.int 2)) dNil)))) (gdName 6))
    (dRet (dOp oIxL (dLst (dCons (dTup (dCons (dVar 5) (dCons (dOp oIxT (dVar 2) (dC (.int 1))) dNil))) (dCons (dTup (dCons (dOp oIxT (dVar 2) (dC (.int 0))) (dCons (dVar 6) dNil))) (dCons (dTup (dCons (dOp oIxT (dVar 2) (dC (.int 0))) (dCons (dVar 2) (dCons (dVar 2) dNil)))) dNil)))) (dCallN (Φ 24) (dCons (dVar 0) (dCons (dC (.int 3)) dNil))))))) dNext)
    (dSeq (dIfS (dTest (dOp oEq (dVar 3) (dC (.int 0)))) (dRet (dTup (dCons (dOp oIxL (dLst (dCons (dCallN (Φ 24) (dCons (dVar 0) (dCons (dVar 4) dNil))) (dCons (dVar 4) (dCons (dUn oNeg (dC (.int 1))) dNil)))) (dCallN (Φ 24) (dCons (dVar 0) (dCons (dC (.int 3)) dNil)))) (dCons (dOp oIxT (dVar 2) (dC (.int 1))) (dCons (dOp oIxT (dVar 2) (dC (.int 2))) dNil))))) dNext)
    (dSeq (dIfS (dTest (dOp oEq (dVar 3) (dC (.int 1)))) (dRet (dTup (dCons (dOp oIxT (dVar 2) (dC (.int 0))) (dCons (dOp oIxT (dVar 2) (dC (.int 2))) (dCons (dOp oIxT (dVar 2) (dC (.int 1))) dNil))))) dNext)
    (dSeq (dIfS (dTest (dOp oEq (dVar 3) (dC (.int 2)))) (dRet (dOp oIxT (dVar 2) (dOp oAdd (dC (.int 1)) (dCallN (Φ 24) (dCons (dVar 0) (dCons (dC (.int 2)) dNil)))))) dNext)
    (dSeq (dIfS (dAnd (dTest (dOp oEq (dVar 3) (dC (.int 3)))) (dTest (dOp oEq (dB bLen (dCons (dOp oIxT (dVar 2) (dC (.int 1))) dNil)) (dC (.int 3))))) (dRet (dTup (dCons (dOp oIxT (dVar 2) (dC (.int 0))) (dCons (dOp oIxT (dOp oIxT (dVar 2) (dC (.int 1))) (dC (.int 1))) (dCons (dTup (dCons (dOp oIxT (dOp oIxT (dOp oIxT (dVar 1) (dC (.int 2))) (dOp oIxT (dOp oIxT (dOp oIxT (dVar 2) (dC (.int 1))) (dC (.int 2))) (dC (.int 0)))) (dOp oIxT (dOp oIxT (dVar 2) (dC (.int 2))) (dC (.int 0)))) (dCons (dOp oIxT (dOp oIxT (dVar 2) (dC (.int 1))) (dC (.int 2))) (dCons (dOp oIxT (dVar 2) (dC (.int 2))) dNil)))) dNil))))) dNext)
    (dSeq (dIfS (dTest (dOp oEq (dCallN (Φ 24) (dCons (dVar 0) (dCons (dC (.int 2)) dNil))) (dC (.int 0)))) (dRet (dTup (dCons (dOp oIxT (dVar 2) (dC (.int 0))) (dCons (dCallN (Φ 46) (dCons (dVar 0) (dCons (dVar 1) (dCons (dOp oIxT (dVar 2) (dC (.int 1))) dNil)))) (dCons (dOp oIxT (dVar 2) (dC (.int 2))) dNil))))) dNext)
    (dRet (dTup (dCons (dOp oIxT (dVar 2) (dC (.int 0))) (dCons (dOp oIxT (dVar 2) (dC (.int 1))) (dCons (dCallN (Φ 46) (dCons (dVar 0) (dCons (dVar 1) (dCons (dOp oIxT (dVar 2) (dC (.int 2))) dNil)))) dNil)))))))))))))
/-! _law_chain : slots 0=table 1=log 2=tree 3=letter -/
def d_law_chain (Φ : Nat → DSpec) : DS :=
  (dSeq (dAsg (dCallN (Φ 37) (dCons (dVar 0) (dCons (dOp oIxT (dVar 1) (dC (.int 0))) dNil))) (gdName 2))
    (dSeq (dFor (iT (dSl oSlT (dVar 1) (dPart (dC (.int 1))) (dPart (dC (.int 12))))) (gdName 3)
    (dAsg (dCallN (Φ 36) (dCons (dVar 0) (dCons (dVar 2) (dCons (dCallN (Φ 37) (dCons (dVar 0) (dCons (dVar 3) dNil))) (dCons (dLst (dCons (dC (.int 0)) dNil)) dNil))))) (gdName 2)))
    (dRet (dVar 2))))
/-! _law_judged : slots 0=state 1=table 2=log 3=tree 4=rows 5=k 6=other 7=own 8=one 9=good -/
def d_law_judged (Φ : Nat → DSpec) : DS :=
  (dSeq (dAsg (dLst (dCons (dTup (dCons (dVar 2) (dCons (dVar 3) dNil))) (dCons (dTup (dCons (dOp oCatT (dSl oSlT (dVar 2) dNoPart (dPart (dUn oNeg (dC (.int 1))))) (dTup (dCons (dC (.str "qq")) dNil))) (dCons (dVar 3) dNil))) (dCons (dTup (dCons (dOp oCatT (dVar 2) (dSl oSlT (dVar 2) dNoPart (dPart (dC (.int 1))))) (dCons (dVar 3) dNil))) (dCons (dTup (dCons (dSl oSlT (dVar 2) dNoPart (dPart (dC (.int 12)))) (dCons (dCallN (Φ 47) (dCons (dVar 1) (dCons (dVar 2) dNil))) dNil))) dNil))))) (gdName 4))
    (dSeq (dFor (iR1 (dCons (dC (.int 4)) dNil)) (gdName 5)
    (dDrop (dM mAppend (dVar 4) (dCons (dTup (dCons (dVar 2) (dCons (dCallN (Φ 46) (dCons (dVar 0) (dCons (dVar 1) (dCons (dVar 3) dNil)))) dNil))) dNil))))
    (dSeq (dAsg (dCallN (Φ 46) (dCons (dVar 0) (dCons (dVar 1) (dCons (dVar 3) dNil)))) (gdName 6))
    (dSeq (dDrop (dM mAppend (dVar 4) (dCons (dTup (dCons (dB bTup (dCons (dCallN (Φ 43) (dCons (dVar 6) dNil)) dNil)) (dCons (dVar 6) dNil))) dNil)))
    (dSeq (dFor (iL (dVar 4)) (gdTup 2 (gdCons (gdName 7) (gdCons (gdName 8) gdNil)))
    (dSeq (dAsg (dAndV (dOp oEqD (dB bTup (dCons (dCallN (Φ 43) (dCons (dVar 8) dNil)) dNil)) (dVar 7)) (dCallN (Φ 44) (dCons (dVar 1) (dCons (dVar 8) dNil)))) (gdName 9))
    (dIfS (dNot (dTest (dCallN (Φ 25) (dCons (dCallN (Φ 45) (dCons (dC (.int 3)) (dCons (dVar 1) (dCons (dVar 7) (dCons (dVar 8) dNil))))) (dCons (dOp oIxL (dLst (dCons (dC (.str "paper")) (dCons (dTup (dCons (dC (.str "told")) (dCons (dC .non) dNil))) dNil))) (dB bInt (dCons (dVar 9) dNil))) dNil))))) (dRet (dC (.bl false))) dNext)))
    (dRet (dC (.bl true))))))))
/-! law : slots 0=script 1=state 2=table 3=logs 4=trees 5=k 6=kept 7=turn 8=log 9=count 10=tree 11=j 12=both 13=place 14=at 15=part 16=ahead 17=behind 18=own 19=letter 20=odd -/
def d_law (Φ : Nat → DSpec) : DS :=
  (dSeq (dAsg (dLst (dCons (dCallN (Φ 23) (dCons (dVar 0) dNil)) (dCons (dC (.int 0)) dNil))) (gdName 1))
    (dSeq (dAsg (dCallN (Φ 30) (dCons (dVar 1) dNil)) (gdName 2))
    (dSeq (dAsg (dLst dNil) (gdName 3))
    (dSeq (dAsg (dLst dNil) (gdName 4))
    (dSeq (dFor (iR1 (dCons (dC (.int 3)) dNil)) (gdName 5)
    (dSeq (dAsg (dCallN (Φ 33) (dCons (dVar 1) (dCons (dVar 2) (dCons (dOp oAdd (dC (.int 1)) (dCallN (Φ 24) (dCons (dVar 1) (dCons (dOp oIxL (dLst (dCons (dC (.int 8)) (dCons (dC (.int 60)) (dCons (dOp oIxL (dLst (dCons (dC (.int 60)) (dCons (dC (.int 300)) dNil))) (dB bInt (dCons (dOp oEq (dCallN (Φ 24) (dCons (dVar 1) (dCons (dC (.int 12)) dNil))) (dC (.int 0))) dNil))) dNil)))) (dVar 5)) dNil)))) dNil)))) (gdName 8))
    (dSeq (dAsg (dLst (dCons (dC (.int 0)) dNil)) (gdName 9))
    (dSeq (dAsg (dCallN (Φ 38) (dCons (dVar 2) (dCons (dLc0 (iT (dVar 8)) (gdName 19) (dCallN (Φ 37) (dCons (dVar 2) (dCons (dVar 19) dNil))) [19]) (dCons (dVar 9) dNil)))) (gdName 10))
    (dSeq (dIfS (dNot (dTest (dCallN (Φ 25) (dCons (dCallN (Φ 45) (dCons (dC (.int 0)) (dCons (dVar 2) (dCons (dVar 8) (dCons (dTup dNil) dNil))))) (dCons (dTup (dCons (dC (.str "told")) (dCons (dTup (dCons (dVar 10) (dCons (dOp oIxL (dVar 9) (dC (.int 0))) dNil))) dNil))) dNil))))) (dRet (dC (.bl false))) dNext)
    (dSeq (dDrop (dM mAppend (dVar 3) (dCons (dVar 8) dNil)))
    (dDrop (dM mAppend (dVar 4) (dCons (dVar 10) dNil)))))))))
    (dSeq (dAsg (dB bRepr (dCons (dTup (dCons (dVar 2) (dCons (dVar 3) (dCons (dVar 4) dNil)))) dNil)) (gdName 6))
    (dSeq (dFor (iR1 (dCons (dC (.int 6)) dNil)) (gdName 7)
    (dSeq (dAsg (dCallN (Φ 24) (dCons (dVar 1) (dCons (dC (.int 3)) dNil))) (gdName 5))
    (dSeq (dAsg (dCallN (Φ 24) (dCons (dVar 1) (dCons (dC (.int 3)) dNil))) (gdName 11))
    (dSeq (dAsg (dLst (dCons (dC (.int 0)) dNil)) (gdName 9))
    (dSeq (dAsg (dCallN (Φ 41) (dCons (dVar 2) (dCons (dOp oIxL (dVar 4) (dVar 5)) (dCons (dOp oIxL (dVar 4) (dVar 11)) (dCons (dVar 9) dNil))))) (gdName 12))
    (dSeq (dIfS (dOr (dNot (dTest (dCallN (Φ 25) (dCons (dCallN (Φ 45) (dCons (dC (.int 1)) (dCons (dVar 2) (dCons (dOp oIxL (dVar 4) (dVar 5)) (dCons (dOp oIxL (dVar 4) (dVar 11)) dNil))))) (dCons (dTup (dCons (dC (.str "told")) (dCons (dTup (dCons (dVar 12) (dCons (dOp oIxL (dVar 9) (dC (.int 0))) dNil))) dNil))) dNil))))) (dNot (dTest (dCallN (Φ 44) (dCons (dVar 2) (dCons (dVar 12) dNil)))))) (dRet (dC (.bl false))) dNext)
    (dSeq (dAsg (dOp oCatT (dOp oIxL (dVar 3) (dVar 5)) (dOp oIxL (dVar 3) (dVar 11))) (gdName 8))
    (dSeq (dAsg (dCallN (Φ 24) (dCons (dVar 1) (dCons (dOp oAdd (dB bLen (dCons (dVar 8) dNil)) (dC (.int 1))) dNil))) (gdName 13))
    (dSeq (dAsg (dLst (dCons (dC (.int 0)) dNil)) (gdName 9))
    (dSeq (dAsg (dCallN (Φ 42) (dCons (dVar 2) (dCons (dVar 12) (dCons (dVar 13) (dCons (dVar 9) dNil))))) (gdTup 2 (gdCons (gdName 16) (gdCons (gdName 17) gdNil))))
    (dSeq (dIfS (dNot (dTest (dCallN (Φ 25) (dCons (dCallN (Φ 45) (dCons (dC (.int 2)) (dCons (dVar 2) (dCons (dVar 12) (dCons (dVar 13) dNil))))) (dCons (dTup (dCons (dC (.str "told")) (dCons (dTup (dCons (dVar 16) (dCons (dVar 17) (dCons (dOp oIxL (dVar 9) (dC (.int 0))) dNil)))) dNil))) dNil))))) (dRet (dC (.bl false))) dNext)
    (dSeq (dFor (iL (dLst (dCons (dTup (dCons (dVar 16) (dCons (dSl oSlT (dVar 8) dNoPart (dPart (dVar 13))) dNil))) (dCons (dTup (dCons (dVar 17) (dCons (dSl oSlT (dVar 8) (dPart (dVar 13)) dNoPart) dNil))) dNil)))) (gdTup 2 (gdCons (gdName 15) (gdCons (gdName 18) gdNil)))
    (dIfS (dOr (dTest (dOp oNe (dOp oIsN (dVar 15) (dC .non)) (dOp oEq (dB bLen (dCons (dVar 18) dNil)) (dC (.int 0))))) (dAnd (dTest (dOp oNotN (dVar 15) (dC .non))) (dOr (dTest (dOp oNeD (dB bTup (dCons (dCallN (Φ 43) (dCons (dVar 15) dNil)) dNil)) (dVar 18))) (dNot (dTest (dCallN (Φ 44) (dCons (dVar 2) (dCons (dVar 15) dNil)))))))) (dRet (dC (.bl false))) dNext))
    (dSeq (dIfS (dNot (dTest (dB bAll (dCons (dLc0 (iL (dLst (dCons (dUn oNeg (dC (.int 1))) (dCons (dOp oAdd (dB bLen (dCons (dVar 8) dNil)) (dC (.int 1))) dNil)))) (gdName 20) (dOp oEq (dCallN (Φ 45) (dCons (dC (.int 2)) (dCons (dVar 2) (dCons (dVar 12) (dCons (dVar 20) dNil))))) (dC (.str "refused"))) [20]) dNil)))) (dRet (dC (.bl false))) dNext)
    (dSeq (dIfS (dAnd (dTest (dOp oLt (dVar 7) (dC (.int 2)))) (dNot (dTest (dCallN (Φ 48) (dCons (dVar 1) (dCons (dVar 2) (dCons (dVar 8) (dCons (dVar 12) dNil)))))))) (dRet (dC (.bl false))) dNext)
    (dSeq (dIfS (dTest (dOp oNe (dB bRepr (dCons (dTup (dCons (dVar 2) (dCons (dVar 3) (dCons (dVar 4) dNil)))) dNil)) (dVar 6))) (dRet (dC (.bl false))) dNext)
    (dSeq (dAsg (dCallN (Φ 24) (dCons (dVar 1) (dCons (dC (.int 3)) dNil))) (gdName 14))
    (dSeq (dAsg (dOp oIxL (dLst (dCons (dVar 16) (dCons (dVar 17) dNil))) (dB bInt (dCons (dOp oLt (dVar 13) (dOp oSub (dB bLen (dCons (dVar 8) dNil)) (dVar 13))) dNil))) (gdName 15))
    (dSeq (dAsg (dTup (dCons (dB bTup (dCons (dCallN (Φ 43) (dCons (dVar 15) dNil)) dNil)) (dCons (dVar 15) dNil))) (gdTup 2 (gdCons (gdSub (dVar 3) (dVar 14)) (gdCons (gdSub (dVar 4) (dVar 14)) gdNil))))
    (dAsg (dB bRepr (dCons (dTup (dCons (dVar 2) (dCons (dVar 3) (dCons (dVar 4) dNil)))) dNil)) (gdName 6))))))))))))))))))))
    (dRet (dAndV (dOp oEq (dCallN (Φ 45) (dCons (dC (.int 0)) (dCons (dVar 2) (dCons (dTup dNil) (dCons (dTup dNil) dNil))))) (dC (.str "refused"))) (dOp oEq (dCallN (Φ 45) (dCons (dC (.int 0)) (dCons (dVar 2) (dCons (dOp oCatT (dOp oIxL (dVar 3) (dC (.int 0))) (dTup (dCons (dC (.str "qq")) dNil))) (dCons (dTup dNil) dNil))))) (dC (.str "refused"))))))))))))
def F : Nat → Nat → DSpec
  | 0, _ => fun _ _ _ _ => False
  | k + 1, g => if g = 8 then dFn 3 3 (d_times (F k)) else if g = 10 then dFn 1 1 (d_is_leaf (F k)) else if g = 11 then dFn 2 2 (d_leaf_of (F k)) else if g = 2200 then dFn 4 4 (d_Part_init (F k)) else if g = 13 then dFn 1 1 (d_part_of (F k)) else if g = 14 then dFn 1 1 (d_tree_of (F k)) else if g = 2500 then dFn 2 2 (d_Maker_init (F k)) else if g = 2501 then dFn 3 3 (d_Maker_node (F k)) else if g = 2502 then dFn 2 3 (d_Maker_built (F k)) else if g = 2504 then dFn 3 5 (d_Maker_righted (F k)) else if g = 2505 then dFn 3 5 (d_Maker_lefted (F k)) else if g = 2503 then dFn 3 3 (d_Maker_joined (F k)) else if g = 2506 then dFn 3 3 (d_Maker_both (F k)) else if g = 2507 then dFn 3 5 (d_Maker_cut (F k)) else if g = 16 then dFn 1 4 (d_leaves_of (F k)) else if g = 17 then dFn 2 5 (d_built (F k)) else if g = 18 then dFn 3 5 (d_joined (F k)) else if g = 19 then dFn 3 7 (d_cut_at (F k)) else if g = 21 then dFn 2 4 (d_judge_part (F k)) else if g = 20 then dFn 3 4 (d_judge_tree (F k)) else if g = 23 then dFn 1 6 (d_law_stream (F k)) else if g = 25 then dFn 2 2 (d_law_same (F k)) else if g = 26 then dFn 2 4 (d_law_word (F k)) else if g = 28 then dFn 3 7 (d_law_map (F k)) else if g = 29 then dFn 2 9 (d_law_built (F k)) else if g = 30 then dFn 1 6 (d_law_table (F k)) else if g = 33 then dFn 3 4 (d_law_log (F k)) else if g = 24 then dFn 2 3 (d_law_next (F k)) else if g = 27 then dFn 2 4 (d_law_letters (F k)) else if g = 34 then dFn 1 1 (d_law_height (F k)) else if g = 35 then dFn 1 1 (d_law_many (F k)) else if g = 36 then dFn 4 4 (d_law_node (F k)) else if g = 37 then dFn 2 2 (d_law_leaf (F k)) else if g = 38 then dFn 3 4 (d_law_made_of (F k)) else if g = 39 then dFn 5 5 (d_law_ordered (F k)) else if g = 40 then dFn 5 10 (d_law_beside (F k)) else if g = 41 then dFn 4 6 (d_law_join (F k)) else if g = 42 then dFn 4 8 (d_law_cut (F k)) else if g = 43 then dFn 1 1 (d_law_leaves (F k)) else if g = 44 then dFn 2 2 (d_law_right_tree (F k)) else if g = 45 then dFn 4 5 (d_law_told (F k)) else if g = 46 then dFn 3 7 (d_law_spoilt (F k)) else if g = 47 then dFn 2 4 (d_law_chain (F k)) else if g = 48 then dFn 4 10 (d_law_judged (F k)) else if g = 49 then dFn 1 21 (d_law (F k)) else fun _ _ _ _ => False
end K93
namespace K93
open PySem PySem.Spec PyProof.Rows L2 Sf Dv
abbrev cc (K : PySem.W.Frag) (ca : Nat → Addr) : Cc := ⟨K, ca, fnames, by decide +kernel⟩
def topS (i : Nat) : Stmt := PySem.Challenge.pw_scarpface_k93_trees_joined_and_cut.main.body.getD i (.Pass ⟨0, 0, 0, 0⟩)
structure Tx (w : World) (K : PySem.W.Frag) (mg : Str → Option Value) (ad : Nat → Addr) (fu : Nat → FuncData) (ca : Nat → Addr) : Prop where
  d_times : Df K mg "times" (topS 8) ["table", "first", "second"] (ad 8) (fu 8)
  d_is_leaf : Df K mg "is_leaf" (topS 10) ["tree"] (ad 10) (fu 10)
  d_leaf_of : Df K mg "leaf_of" (topS 11) ["table", "letter"] (ad 11) (fu 11)
  d_Part_init : Fun K "__init__" "Part.__init__" (inClass (topS 12) 0) (ad 2200) (fu 2200)
  bi_Part_init : Binds K (fu 2200) ["self", "tree", "left", "right"] []
  mk_Part : Mk K (ca 20) (ad 2200)
  d_part_of : Df K mg "part_of" (topS 13) ["tree"] (ad 13) (fu 13)
  d_tree_of : Df K mg "tree_of" (topS 14) ["part"] (ad 14) (fu 14)
  d_Maker_init : Fun K "__init__" "Maker.__init__" (inClass (topS 15) 0) (ad 2500) (fu 2500)
  bi_Maker_init : Binds K (fu 2500) ["self", "table"] []
  mk_Maker : Mk K (ca 26) (ad 2500)
  d_Maker_node : Fun K "node" "Maker.node" (inClass (topS 15) 1) (ad 2501) (fu 2501)
  bi_Maker_node : Binds K (fu 2501) ["self", "left", "right"] []
  m_Maker_node : Meth K (ca 26) "node" (ad 2501)
  d_Maker_built : Fun K "built" "Maker.built" (inClass (topS 15) 2) (ad 2502) (fu 2502)
  bi_Maker_built : Binds K (fu 2502) ["self", "leaves"] []
  m_Maker_built : Meth K (ca 26) "built" (ad 2502)
  d_Maker_joined : Fun K "joined" "Maker.joined" (inClass (topS 15) 3) (ad 2503) (fu 2503)
  bi_Maker_joined : Binds K (fu 2503) ["self", "left", "right"] []
  m_Maker_joined : Meth K (ca 26) "joined" (ad 2503)
  d_Maker_righted : Fun K "righted" "Maker.righted" (inClass (topS 15) 4) (ad 2504) (fu 2504)
  bi_Maker_righted : Binds K (fu 2504) ["self", "left", "right"] []
  m_Maker_righted : Meth K (ca 26) "righted" (ad 2504)
  d_Maker_lefted : Fun K "lefted" "Maker.lefted" (inClass (topS 15) 5) (ad 2505) (fu 2505)
  bi_Maker_lefted : Binds K (fu 2505) ["self", "left", "right"] []
  m_Maker_lefted : Meth K (ca 26) "lefted" (ad 2505)
  d_Maker_both : Fun K "both" "Maker.both" (inClass (topS 15) 6) (ad 2506) (fu 2506)
  bi_Maker_both : Binds K (fu 2506) ["self", "left", "right"] []
  m_Maker_both : Meth K (ca 26) "both" (ad 2506)
  d_Maker_cut : Fun K "cut" "Maker.cut" (inClass (topS 15) 7) (ad 2507) (fu 2507)
  bi_Maker_cut : Binds K (fu 2507) ["self", "part", "place"] []
  m_Maker_cut : Meth K (ca 26) "cut" (ad 2507)
  d_leaves_of : Df K mg "leaves_of" (topS 16) ["tree"] (ad 16) (fu 16)
  d_built : Df K mg "built" (topS 17) ["table", "log"] (ad 17) (fu 17)
  d_joined : Df K mg "joined" (topS 18) ["table", "first", "second"] (ad 18) (fu 18)
  d_cut_at : Df K mg "cut_at" (topS 19) ["table", "tree", "place"] (ad 19) (fu 19)
  d_judge_tree : Df K mg "judge_tree" (topS 20) ["table", "log", "tree"] (ad 20) (fu 20)
  d_judge_part : Df K mg "judge_part" (topS 21) ["table", "tree"] (ad 21) (fu 21)
  d_law_stream : Df K mg "_law_stream" (topS 23) ["script"] (ad 23) (fu 23)
  d_law_next : Df K mg "_law_next" (topS 24) ["state", "many"] (ad 24) (fu 24)
  d_law_same : Df K mg "_law_same" (topS 25) ["told", "due"] (ad 25) (fu 25)
  d_law_word : Df K mg "_law_word" (topS 26) ["state", "taken"] (ad 26) (fu 26)
  d_law_letters : Df K mg "_law_letters" (topS 27) ["state", "many"] (ad 27) (fu 27)
  d_law_map : Df K mg "_law_map" (topS 28) ["state", "rooms", "kind"] (ad 28) (fu 28)
  d_law_built : Df K mg "_law_built" (topS 29) ["letters", "maps"] (ad 29) (fu 29)
  d_law_table : Df K mg "_law_table" (topS 30) ["state"] (ad 30) (fu 30)
  d_law_log : Df K mg "_law_log" (topS 33) ["state", "table", "many"] (ad 33) (fu 33)
  d_law_height : Df K mg "_law_height" (topS 34) ["tree"] (ad 34) (fu 34)
  d_law_many : Df K mg "_law_many" (topS 35) ["tree"] (ad 35) (fu 35)
  d_law_node : Df K mg "_law_node" (topS 36) ["table", "left", "right", "count"] (ad 36) (fu 36)
  d_law_leaf : Df K mg "_law_leaf" (topS 37) ["table", "letter"] (ad 37) (fu 37)
  d_law_made_of : Df K mg "_law_made_of" (topS 38) ["table", "leaves", "count"] (ad 38) (fu 38)
  d_law_ordered : Df K mg "_law_ordered" (topS 39) ["table", "first", "second", "is_left", "count"] (ad 39) (fu 39)
  d_law_beside : Df K mg "_law_beside" (topS 40) ["table", "low", "high", "is_left", "count"] (ad 40) (fu 40)
  d_law_join : Df K mg "_law_join" (topS 41) ["table", "left", "right", "count"] (ad 41) (fu 41)
  d_law_cut : Df K mg "_law_cut" (topS 42) ["table", "tree", "place", "count"] (ad 42) (fu 42)
  d_law_leaves : Df K mg "_law_leaves" (topS 43) ["tree"] (ad 43) (fu 43)
  d_law_right_tree : Df K mg "_law_right_tree" (topS 44) ["table", "tree"] (ad 44) (fu 44)
  d_law_told : Df K mg "_law_told" (topS 45) ["way", "table", "first", "second"] (ad 45) (fu 45)
  d_law_spoilt : Df K mg "_law_spoilt" (topS 46) ["state", "table", "tree"] (ad 46) (fu 46)
  d_law_chain : Df K mg "_law_chain" (topS 47) ["table", "log"] (ad 47) (fu 47)
  d_law_judged : Df K mg "_law_judged" (topS 48) ["state", "table", "log", "tree"] (ad 48) (fu 48)
  d_law : Df K mg "law" (topS 49) ["script"] (ad 49) (fu 49)
  b_abs : mg "abs" = none
  b_all : mg "all" = none
  b_int : mg "int" = none
  b_isinstance : mg "isinstance" = none
  b_len : mg "len" = none
  b_list : mg "list" = none
  b_max : mg "max" = none
  b_min : mg "min" = none
  b_range : mg "range" = none
  b_repr : mg "repr" = none
  b_sorted : mg "sorted" = none
  b_tuple : mg "tuple" = none
  g_Part : Gc mg "Part" (.ref (ca 20))
  gc_Part : mg "Part" = some (.ref (ca 20))
  c_Part : Cls K (ca 20)
  n_Part_tree : NoAttr K (ca 20) "tree"
  n_Part_left : NoAttr K (ca 20) "left"
  n_Part_right : NoAttr K (ca 20) "right"
  n_Part_height : NoAttr K (ca 20) "height"
  n_Part_many : NoAttr K (ca 20) "many"
  g_Maker : Gc mg "Maker" (.ref (ca 26))
  gc_Maker : mg "Maker" = some (.ref (ca 26))
  c_Maker : Cls K (ca 26)
  n_Maker_table : NoAttr K (ca 26) "table"
  n_Maker_products : NoAttr K (ca 26) "products"
  g_ScarpError : Gc mg "ScarpError" (.ref (ca 21))
  gc_ScarpError : mg "ScarpError" = some (.ref (ca 21))
  g_NotAllowed : Gc mg "NotAllowed" (.ref (ca 22))
  gc_NotAllowed : mg "NotAllowed" = some (.ref (ca 22))
  g_TooLarge : Gc mg "TooLarge" (.ref (ca 23))
  gc_TooLarge : mg "TooLarge" = some (.ref (ca 23))
  g_Missing : Gc mg "Missing" (.ref (ca 24))
  gc_Missing : mg "Missing" = some (.ref (ca 24))
  g_BadPaper : Gc mg "BadPaper" (.ref (ca 25))
  gc_BadPaper : mg "BadPaper" = some (.ref (ca 25))
  x_NotAllowed : PySem.W.excIn K (ca 22) [.type "ValueError", .type "Exception", .type "BaseException", .type "object"] "ValueError.__new__" = true
  k_NotAllowed : PySem.W.keepIn K (.ref (ca 22)) = true
  bb_NotAllowed : PySem.W.subIn K (.ref (ca 22)) (.type "BaseException") = some true
  ty_NotAllowed : PySem.W.typeIn K (.ref (ca 22)) = some (.type "type")
  e_NotAllowed : ExcC K (ca 22)
  x_BadPaper : PySem.W.excIn K (ca 25) [.type "ValueError", .type "Exception", .type "BaseException", .type "object"] "ValueError.__new__" = true
  k_BadPaper : PySem.W.keepIn K (.ref (ca 25)) = true
  bb_BadPaper : PySem.W.subIn K (.ref (ca 25)) (.type "BaseException") = some true
  ty_BadPaper : PySem.W.typeIn K (.ref (ca 25)) = some (.type "type")
  e_BadPaper : ExcC K (ca 25)
  em_NotAllowed_NotAllowed : PySem.W.exmOne K (.ref (ca 22)) (.ref (ca 22)) = some true
  em_BadPaper_NotAllowed : PySem.W.exmOne K (.ref (ca 25)) (.ref (ca 22)) = some false
  em_BadPaper_BadPaper : PySem.W.exmOne K (.ref (ca 25)) (.ref (ca 25)) = some true
  ki_NotAllowed_ScarpError : PySem.W.kitOne K (.ref (ca 22)) (.ref (ca 21)) = some true
  ki_NotAllowed_Missing : PySem.W.kitOne K (.ref (ca 22)) (.ref (ca 24)) = some false
  ki_NotAllowed_BadPaper : PySem.W.kitOne K (.ref (ca 22)) (.ref (ca 25)) = some false
  ki_NotAllowed_TooLarge : PySem.W.kitOne K (.ref (ca 22)) (.ref (ca 23)) = some false
  ki_BadPaper_ScarpError : PySem.W.kitOne K (.ref (ca 25)) (.ref (ca 21)) = some true
  ki_BadPaper_Missing : PySem.W.kitOne K (.ref (ca 25)) (.ref (ca 24)) = some false
  ki_BadPaper_NotAllowed : PySem.W.kitOne K (.ref (ca 25)) (.ref (ca 22)) = some false
  ki_BadPaper_TooLarge : PySem.W.kitOne K (.ref (ca 25)) (.ref (ca 23)) = some false
theorem exm_ok {w : World} {K : PySem.W.Frag} {mg : Str → Option Value} {ad : Nat → Addr} {fu : Nat → FuncData} {ca : Nat → Addr} (T : Tx w K mg ad fu ca) : ∀ a b y, exmD a b = some y → PySem.W.exmOne K (.ref (ca a)) (.ref (ca b)) = some y := tbl_ok (P := fun a b y => PySem.W.exmOne K (.ref (ca a)) (.ref (ca b)) = some y) (.cons T.em_NotAllowed_NotAllowed (.cons T.em_BadPaper_NotAllowed (.cons T.em_BadPaper_BadPaper .nil)))
theorem kit_ok {w : World} {K : PySem.W.Frag} {mg : Str → Option Value} {ad : Nat → Addr} {fu : Nat → FuncData} {ca : Nat → Addr} (T : Tx w K mg ad fu ca) : ∀ a b y, kitD a b = some y → PySem.W.kitOne K (.ref (ca a)) (.ref (ca b)) = some y := tbl_ok (P := fun a b y => PySem.W.kitOne K (.ref (ca a)) (.ref (ca b)) = some y) (.cons T.ki_NotAllowed_ScarpError (.cons T.ki_NotAllowed_Missing (.cons T.ki_NotAllowed_BadPaper (.cons T.ki_NotAllowed_TooLarge (.cons T.ki_BadPaper_ScarpError (.cons T.ki_BadPaper_Missing (.cons T.ki_BadPaper_NotAllowed (.cons T.ki_BadPaper_TooLarge .nil))))))))
end K93
set_option maxHeartbeats 4000000
namespace K93
open PySem PySem.Spec PyProof.Rows L2 Sf Dv
section
variable {P : Program} {w : World} {K : PySem.W.Frag} {mg : Str → Option Value} {base : Heap} {ad : Nat → Addr} {fu : Nat → FuncData} {ca : Nat → Addr}
/-! times : slots 0=table 1=first 2=second -/
def t_times (K : PySem.W.Frag) (ca : Nat → Addr) (Φ : Nat → DSpec) : TS := 
  (tSeq (tIfS (tTest (tOp rdLt (tVar 1) (tC (.int 0)))) (tRet (tVar 2)) tNext)
    (tSeq (tIfS (tTest (tOp rdLt (tVar 2) (tC (.int 0)))) (tRet (tVar 1)) tNext)
    (tRet (tOp (rIxT K) (tOp (rIxT K) (tOp (rIxT K) (tVar 0) (tC (.int 2))) (tVar 1)) (tVar 2)))))
theorem snd_times (T : Tx w K mg ad fu ca) (Φ : Nat → DSpec) : SS (cc K ca) noW (t_times K ca Φ) (d_times Φ) := by
  unfold t_times d_times
  exact (s_seq (s_ifS (s_test (s_op so_lt s_var (s_c fun _ _ => .int _))) (s_ret s_var) s_next)
    (s_seq (s_ifS (s_test (s_op so_lt s_var (s_c fun _ _ => .int _))) (s_ret s_var) s_next)
    (s_ret (s_op so_ixT (s_op so_ixT (s_op so_ixT s_var (s_c fun _ _ => .int _)) s_var) s_var))))
theorem sc_times : FnScope ["table", "first", "second"] ["table", "first", "second"] (defScope (topS 8)) := ⟨rfl, rfl, rfl, by decide +kernel, rfl, by decide +kernel, by decide +kernel⟩
theorem body_times {k : Nat} {Φ : Nat → DSpec} (T : Tx w K mg ad fu ca) : BodyP P w K mg base (2 * k + 1) "times" (topS 8) (ad 8) ["table", "first", "second"] (t_times K ca Φ) := by
  intro cdv R out s Hh E ro
  have nd := sc_times.nd
  have hu := ro.units0
  have hu65 : R.units + 3 + 65 < cLine := by have := ro.un; show R.units + 3 + 65 < cLine; have e : (R.deeper (envOfC "times" (defScope (topS 8)) s.heap.objs.size (ad 8) cdv)).units = R.units + 3 := rfl; rw [e] at this; omega
  unfold t_times
  exact (pss_cons (ps_if (pt_cmpR op_lt (pv 1) pe_int (by rfl)) (pss_one (ps_ret (pv 2))) pss_nil)
    (pss_cons (ps_if (pt_cmpR op_lt (pv 2) pe_int (by rfl)) (pss_one (ps_ret (pv 1))) pss_nil)
    (pss_one (ps_ret (pe_ix ix_tup (pe_ix ix_tup (pe_ix ix_tup (pv 0) pe_int (fun _ _ => rfl)) (pv 1) (fun _ _ => rfl)) (pv 2) (fun _ _ => rfl))))))
/-! is_leaf : slots 0=tree -/
def t_is_leaf (K : PySem.W.Frag) (ca : Nat → Addr) (Φ : Nat → DSpec) : TS := 
  (tRet (tOp rEq (tCB (rdLen K) (tCons (tVar 0) tNil)) (tC (.int 2))))
theorem snd_is_leaf (T : Tx w K mg ad fu ca) (Φ : Nat → DSpec) : SS (cc K ca) noW (t_is_leaf K ca Φ) (d_is_leaf Φ) := by
  unfold t_is_leaf d_is_leaf
  exact (s_ret (s_op so_eq (s_b so_len (s_cons s_var s_nil)) (s_c fun _ _ => .int _)))
theorem sc_is_leaf : FnScope ["tree"] ["tree"] (defScope (topS 10)) := ⟨rfl, rfl, rfl, by decide +kernel, rfl, by decide +kernel, by decide +kernel⟩
theorem body_is_leaf {k : Nat} {Φ : Nat → DSpec} (T : Tx w K mg ad fu ca) : BodyP P w K mg base (2 * k + 1) "is_leaf" (topS 10) (ad 10) ["tree"] (t_is_leaf K ca Φ) := by
  intro cdv R out s Hh E ro
  have nd := sc_is_leaf.nd
  have hu := ro.units0
  have hu65 : R.units + 3 + 65 < cLine := by have := ro.un; show R.units + 3 + 65 < cLine; have e : (R.deeper (envOfC "is_leaf" (defScope (topS 10)) s.heap.objs.size (ad 10) cdv)).units = R.units + 3 := rfl; rw [e] at this; omega
  unfold t_is_leaf
  exact (pss_one (ps_ret (pe_cmpR op_eq (pe_callB call_len_seq (by rfl) T.b_len (by decide +kernel) (pa_cons (pv 0) pa_nil)) pe_int (by rfl))))
/-! leaf_of : slots 0=table 1=letter -/
def t_leaf_of (K : PySem.W.Frag) (ca : Nat → Addr) (Φ : Nat → DSpec) : XK → TS := fun E =>
  (tSeq (tIfS (tTest (tOp (rIn K true) (tVar 1) (tOp (rIxT K) (tVar 0) (tC (.int 0))))) (Sf.tRaise E (ca 22)) tNext)
    (tRet (tTup (tCons (tOp (rIxT K) (tOp (rIxT K) (tVar 0) (tC (.int 1))) (tBMT (rdTupIndex K) (tOp (rIxT K) (tVar 0) (tC (.int 0))) (tCons (tVar 1) tNil))) (tCons (tVar 1) tNil)))))
theorem snd_leaf_of (T : Tx w K mg ad fu ca) (Φ : Nat → DSpec) (E : XK) : SS (cc K ca) (wX E) (t_leaf_of K ca Φ E) (d_leaf_of Φ) := by
  unfold t_leaf_of d_leaf_of
  exact (s_seq (s_ifS (s_test (s_op (so_in true) s_var (s_op so_ixT s_var (s_c fun _ _ => .int _)))) s_raise s_next)
    (s_ret (s_tup (s_cons (s_op so_ixT (s_op so_ixT s_var (s_c fun _ _ => .int _)) (s_ixT (s_op so_ixT s_var (s_c fun _ _ => .int _)) (s_cons s_var s_nil))) (s_cons s_var s_nil)))))
theorem sc_leaf_of : FnScope ["table", "letter"] ["table", "letter"] (defScope (topS 11)) := ⟨rfl, rfl, rfl, by decide +kernel, rfl, by decide +kernel, by decide +kernel⟩
theorem body_leaf_of {k : Nat} {Φ : Nat → DSpec} (T : Tx w K mg ad fu ca) : BodyX P w K mg base (2 * k + 1) "leaf_of" (topS 11) (ad 11) ["table", "letter"] (t_leaf_of K ca Φ) := by
  intro cdv R out s Hh E ro
  have nd := sc_leaf_of.nd
  have hu := ro.units0
  have hu65 : R.units + 3 + 65 < cLine := by have := ro.un; show R.units + 3 + 65 < cLine; have e : (R.deeper (envOfC "leaf_of" (defScope (topS 11)) s.heap.objs.size (ad 11) cdv)).units = R.units + 3 := rfl; rw [e] at this; omega
  unfold t_leaf_of
  exact (pss_cons (ps_if (pt_cmpR op_notIn_seq (pv 1) (pe_ix ix_tup (pv 0) pe_int (fun _ _ => rfl)) (by rfl)) (pss_one (ps_raise rfl (takes_of rfl rfl rfl rfl) (pmk_own PySem.F.excBase_ValueError T.x_NotAllowed T.gc_NotAllowed T.k_NotAllowed (raises_own T.bb_NotAllowed T.ty_NotAllowed) (by exact rfl)))) pss_nil)
    (pss_one (ps_ret (pe_tup (pa_cons (pe_ix ix_tup (pe_ix ix_tup (pv 0) pe_int (fun _ _ => rfl)) (pe_bmT PySem.F.plainAttrs_tuple PySem.F.slot_tuple_index PySem.F.type_tuple_index mt_tup_index (pe_ix ix_tup (pv 0) pe_int (fun _ _ => rfl)) (pa_cons (pv 1) pa_nil)) (fun _ _ => rfl)) (pa_cons (pv 1) pa_nil))))))
/-! Part.__init__ : slots 0=self 1=tree 2=left 3=right -/
def t_Part_init (K : PySem.W.Frag) (ca : Nat → Addr) (Φ : Nat → DSpec) : TS := 
  (tSeq (sFld K (tVar 0) (tVar 1) "tree")
    (tSeq (sFld K (tVar 0) (tVar 2) "left")
    (tSeq (sFld K (tVar 0) (tVar 3) "right")
    (tSeq (sFld K (tVar 0) (tIf (tTest (tOp rdIsN (tVar 2) (tC .non))) (tC (.int 0)) (tOp rdAdd (tC (.int 1)) (tCB rdMax2 (tCons (tFld K (tVar 2) "height") (tCons (tFld K (tVar 3) "height") tNil))))) "height")
    (sFld K (tVar 0) (tIf (tTest (tOp rdIsN (tVar 2) (tC .non))) (tC (.int 1)) (tOp rdAdd (tFld K (tVar 2) "many") (tFld K (tVar 3) "many"))) "many")))))
theorem snd_Part_init (T : Tx w K mg ad fu ca) (Φ : Nat → DSpec) : SS (cc K ca) noW (t_Part_init K ca Φ) (d_Part_init Φ) := by
  unfold t_Part_init d_Part_init
  exact (s_seq (s_setF (C := 20) (f := 0) rfl T.c_Part T.n_Part_tree s_var s_var)
    (s_seq (s_setF (C := 20) (f := 1) rfl T.c_Part T.n_Part_left s_var s_var)
    (s_seq (s_setF (C := 20) (f := 2) rfl T.c_Part T.n_Part_right s_var s_var)
    (s_seq (s_setF (C := 20) (f := 3) rfl T.c_Part T.n_Part_height s_var (s_if (s_test (s_op so_isN s_var (s_c fun _ _ => .non))) (s_c fun _ _ => .int _) (s_op so_add (s_c fun _ _ => .int _) (s_b so_max2 (s_cons (s_fld (C := 20) (f := 3) rfl T.c_Part T.n_Part_height s_var) (s_cons (s_fld (C := 20) (f := 3) rfl T.c_Part T.n_Part_height s_var) s_nil))))))
    (s_setF (C := 20) (f := 4) rfl T.c_Part T.n_Part_many s_var (s_if (s_test (s_op so_isN s_var (s_c fun _ _ => .non))) (s_c fun _ _ => .int _) (s_op so_add (s_fld (C := 20) (f := 4) rfl T.c_Part T.n_Part_many s_var) (s_fld (C := 20) (f := 4) rfl T.c_Part T.n_Part_many s_var))))))))
theorem sc_Part_init : FnScope ["self", "tree", "left", "right"] ["self", "tree", "left", "right"] (defScope (inClass (topS 12) 0)) := ⟨rfl, rfl, rfl, by decide +kernel, rfl, by decide +kernel, by decide +kernel⟩
theorem body_Part_init {k : Nat} {Φ : Nat → DSpec} (T : Tx w K mg ad fu ca) : BodyP P w K mg base (2 * k + 1) "Part.__init__" (inClass (topS 12) 0) (ad 2200) ["self", "tree", "left", "right"] (t_Part_init K ca Φ) := by
  intro cdv R out s Hh E ro
  have nd := sc_Part_init.nd
  have hu := ro.units0
  have hu65 : R.units + 3 + 65 < cLine := by have := ro.un; show R.units + 3 + 65 < cLine; have e : (R.deeper (envOfC "Part.__init__" (defScope (inClass (topS 12) 0)) s.heap.objs.size (ad 2200) cdv)).units = R.units + 3 := rfl; rw [e] at this; omega
  unfold t_Part_init
  exact (pss_cons (ps_fld (pv 0) (pv 1) rfl)
    (pss_cons (ps_fld (pv 0) (pv 2) rfl)
    (pss_cons (ps_fld (pv 0) (pv 3) rfl)
    (pss_cons (ps_fld (pv 0) (pe_ifExp (pt_cmpR op_isN (pv 2) pe_non (by rfl)) pe_int (pe_op op_add pe_int (pe_callB (call_max2 rfl) (by rfl) T.b_max (by decide +kernel) (pa_cons (pe_fld (pv 2) rfl) (pa_cons (pe_fld (pv 3) rfl) pa_nil))))) rfl)
    (pss_one (ps_fld (pv 0) (pe_ifExp (pt_cmpR op_isN (pv 2) pe_non (by rfl)) pe_int (pe_op op_add (pe_fld (pv 2) rfl) (pe_fld (pv 3) rfl))) rfl))))))
/-! part_of : slots 0=tree -/
def t_part_of (K : PySem.W.Frag) (ca : Nat → Addr) (Φ : Nat → DSpec) : TS := 
  (tSeq (tIfS (tB (rCallG (spN (cc K ca) (Φ 10)) E0 (tCons (tVar 0) tNil))) (tRet (tMake (ca 20) (spN (cc K ca) (Φ 2200)) [] E0 (tCons (tVar 0) (tCons (tC .non) (tCons (tC .non) tNil))))) tNext)
    (tRet (tMake (ca 20) (spN (cc K ca) (Φ 2200)) [] E0 (tCons (tVar 0) (tCons (rCallG (spN (cc K ca) (Φ 13)) E0 (tCons (tOp (rIxT K) (tVar 0) (tC (.int 1))) tNil)) (tCons (rCallG (spN (cc K ca) (Φ 13)) E0 (tCons (tOp (rIxT K) (tVar 0) (tC (.int 2))) tNil)) tNil))))))
theorem snd_part_of (T : Tx w K mg ad fu ca) (Φ : Nat → DSpec) : SS (cc K ca) noW (t_part_of K ca Φ) (d_part_of Φ) := by
  unfold t_part_of d_part_of
  exact (s_seq (s_ifS (s_B (s_callN (s_cons s_var s_nil))) (s_ret (s_makeN (s_cons s_var (s_cons (s_c fun _ _ => .non) (s_cons (s_c fun _ _ => .non) s_nil))))) s_next)
    (s_ret (s_makeN (s_cons s_var (s_cons (s_callN (s_cons (s_op so_ixT s_var (s_c fun _ _ => .int _)) s_nil)) (s_cons (s_callN (s_cons (s_op so_ixT s_var (s_c fun _ _ => .int _)) s_nil)) s_nil))))))
theorem sc_part_of : FnScope ["tree"] ["tree"] (defScope (topS 13)) := ⟨rfl, rfl, rfl, by decide +kernel, rfl, by decide +kernel, by decide +kernel⟩
theorem body_part_of {k : Nat} {Φ : Nat → DSpec} (T : Tx w K mg ad fu ca) (F_Part_init : FnOk P w K mg base CX0 (2 * k) (ad 2200) (fu 2200) ["self", "tree", "left", "right"] (spN (cc K ca) (Φ 2200))) (F_is_leaf : FnOk P w K mg base CX0 (2 * k) (ad 10) (fu 10) ["tree"] (spN (cc K ca) (Φ 10))) (F_part_of : FnOk P w K mg base CX0 (2 * k) (ad 13) (fu 13) ["tree"] (spN (cc K ca) (Φ 13))) : BodyP P w K mg base (2 * k + 1) "part_of" (topS 13) (ad 13) ["tree"] (t_part_of K ca Φ) := by
  intro cdv R out s Hh E ro
  have nd := sc_part_of.nd
  have hu := ro.units0
  have hu65 : R.units + 3 + 65 < cLine := by have := ro.un; show R.units + 3 + 65 < cLine; have e : (R.deeper (envOfC "part_of" (defScope (topS 13)) s.heap.objs.size (ad 13) cdv)).units = R.units + 3 := rfl; rw [e] at this; omega
  unfold t_part_of
  exact (pss_cons (ps_if (pt_val (pe_callP T.d_is_leaf F_is_leaf (ro.mono (by omega)) pass0 (pa_cons (pv 0) pa_nil))) (pss_one (ps_ret (pe_make T.mk_Part F_Part_init (ro.mono (by omega)) (by rfl) T.gc_Part T.bi_Part_init .nil pass0 (pa_cons (pv 0) (pa_cons pe_non (pa_cons pe_non pa_nil)))))) pss_nil)
    (pss_one (ps_ret (pe_make T.mk_Part F_Part_init (ro.mono (by omega)) (by rfl) T.gc_Part T.bi_Part_init .nil pass0 (pa_cons (pv 0) (pa_cons (pe_callP T.d_part_of F_part_of (ro.mono (by omega)) pass0 (pa_cons (pe_ix ix_tup (pv 0) pe_int (fun _ _ => rfl)) pa_nil)) (pa_cons (pe_callP T.d_part_of F_part_of (ro.mono (by omega)) pass0 (pa_cons (pe_ix ix_tup (pv 0) pe_int (fun _ _ => rfl)) pa_nil)) pa_nil)))))))
/-! tree_of : slots 0=part -/
def t_tree_of (K : PySem.W.Frag) (ca : Nat → Addr) (Φ : Nat → DSpec) : TS := 
  (tRet (tIf (tTest (tOp rdIsN (tVar 0) (tC .non))) (tC .non) (tFld K (tVar 0) "tree")))
theorem snd_tree_of (T : Tx w K mg ad fu ca) (Φ : Nat → DSpec) : SS (cc K ca) noW (t_tree_of K ca Φ) (d_tree_of Φ) := by
  unfold t_tree_of d_tree_of
  exact (s_ret (s_if (s_test (s_op so_isN s_var (s_c fun _ _ => .non))) (s_c fun _ _ => .non) (s_fld (C := 20) (f := 0) rfl T.c_Part T.n_Part_tree s_var)))
theorem sc_tree_of : FnScope ["part"] ["part"] (defScope (topS 14)) := ⟨rfl, rfl, rfl, by decide +kernel, rfl, by decide +kernel, by decide +kernel⟩
theorem body_tree_of {k : Nat} {Φ : Nat → DSpec} (T : Tx w K mg ad fu ca) : BodyP P w K mg base (2 * k + 1) "tree_of" (topS 14) (ad 14) ["part"] (t_tree_of K ca Φ) := by
  intro cdv R out s Hh E ro
  have nd := sc_tree_of.nd
  have hu := ro.units0
  have hu65 : R.units + 3 + 65 < cLine := by have := ro.un; show R.units + 3 + 65 < cLine; have e : (R.deeper (envOfC "tree_of" (defScope (topS 14)) s.heap.objs.size (ad 14) cdv)).units = R.units + 3 := rfl; rw [e] at this; omega
  unfold t_tree_of
  exact (pss_one (ps_ret (pe_ifExp (pt_cmpR op_isN (pv 0) pe_non (by rfl)) pe_non (pe_fld (pv 0) rfl))))
/-! Maker.__init__ : slots 0=self 1=table -/
def t_Maker_init (K : PySem.W.Frag) (ca : Nat → Addr) (Φ : Nat → DSpec) : TS := 
  (tSeq (sFld K (tVar 0) (tVar 1) "table")
    (sFld K (tVar 0) (tC (.int 0)) "products"))
theorem snd_Maker_init (T : Tx w K mg ad fu ca) (Φ : Nat → DSpec) : SS (cc K ca) noW (t_Maker_init K ca Φ) (d_Maker_init Φ) := by
  unfold t_Maker_init d_Maker_init
  exact (s_seq (s_setF (C := 26) (f := 5) rfl T.c_Maker T.n_Maker_table s_var s_var)
    (s_setF (C := 26) (f := 6) rfl T.c_Maker T.n_Maker_products s_var (s_c fun _ _ => .int _)))
theorem sc_Maker_init : FnScope ["self", "table"] ["self", "table"] (defScope (inClass (topS 15) 0)) := ⟨rfl, rfl, rfl, by decide +kernel, rfl, by decide +kernel, by decide +kernel⟩
theorem body_Maker_init {k : Nat} {Φ : Nat → DSpec} (T : Tx w K mg ad fu ca) : BodyP P w K mg base (2 * k + 1) "Maker.__init__" (inClass (topS 15) 0) (ad 2500) ["self", "table"] (t_Maker_init K ca Φ) := by
  intro cdv R out s Hh E ro
  have nd := sc_Maker_init.nd
  have hu := ro.units0
  have hu65 : R.units + 3 + 65 < cLine := by have := ro.un; show R.units + 3 + 65 < cLine; have e : (R.deeper (envOfC "Maker.__init__" (defScope (inClass (topS 15) 0)) s.heap.objs.size (ad 2500) cdv)).units = R.units + 3 := rfl; rw [e] at this; omega
  unfold t_Maker_init
  exact (pss_cons (ps_fld (pv 0) (pv 1) rfl)
    (pss_one (ps_fld (pv 0) pe_int rfl)))
/-! Maker.node : slots 0=self 1=left 2=right -/
def t_Maker_node (K : PySem.W.Frag) (ca : Nat → Addr) (Φ : Nat → DSpec) : TS := 
  (tSeq (sFldAug K (tVar 0) (tC (.int 1)) L2.rAdd "products")
    (tRet (tMake (ca 20) (spN (cc K ca) (Φ 2200)) [] E0 (tCons (tTup (tCons (rCallG (spN (cc K ca) (Φ 8)) E0 (tCons (tFld K (tVar 0) "table") (tCons (tOp (rIxT K) (tFld K (tVar 1) "tree") (tC (.int 0))) (tCons (tOp (rIxT K) (tFld K (tVar 2) "tree") (tC (.int 0))) tNil)))) (tCons (tFld K (tVar 1) "tree") (tCons (tFld K (tVar 2) "tree") tNil)))) (tCons (tVar 1) (tCons (tVar 2) tNil))))))
theorem snd_Maker_node (T : Tx w K mg ad fu ca) (Φ : Nat → DSpec) : SS (cc K ca) noW (t_Maker_node K ca Φ) (d_Maker_node Φ) := by
  unfold t_Maker_node d_Maker_node
  exact (s_seq (s_augF (C := 26) (f := 6) (g := fun i j => i + j) rfl rfl T.c_Maker T.n_Maker_products s_var (s_c fun _ _ => .int _))
    (s_ret (s_makeN (s_cons (s_tup (s_cons (s_callN (s_cons (s_fld (C := 26) (f := 5) rfl T.c_Maker T.n_Maker_table s_var) (s_cons (s_op so_ixT (s_fld (C := 20) (f := 0) rfl T.c_Part T.n_Part_tree s_var) (s_c fun _ _ => .int _)) (s_cons (s_op so_ixT (s_fld (C := 20) (f := 0) rfl T.c_Part T.n_Part_tree s_var) (s_c fun _ _ => .int _)) s_nil)))) (s_cons (s_fld (C := 20) (f := 0) rfl T.c_Part T.n_Part_tree s_var) (s_cons (s_fld (C := 20) (f := 0) rfl T.c_Part T.n_Part_tree s_var) s_nil)))) (s_cons s_var (s_cons s_var s_nil))))))
theorem sc_Maker_node : FnScope ["self", "left", "right"] ["self", "left", "right"] (defScope (inClass (topS 15) 1)) := ⟨rfl, rfl, rfl, by decide +kernel, rfl, by decide +kernel, by decide +kernel⟩
theorem body_Maker_node {k : Nat} {Φ : Nat → DSpec} (T : Tx w K mg ad fu ca) (F_Part_init : FnOk P w K mg base CX0 (2 * k) (ad 2200) (fu 2200) ["self", "tree", "left", "right"] (spN (cc K ca) (Φ 2200))) (F_times : FnOk P w K mg base CX0 (2 * k) (ad 8) (fu 8) ["table", "first", "second"] (spN (cc K ca) (Φ 8))) : BodyP P w K mg base (2 * k + 1) "Maker.node" (inClass (topS 15) 1) (ad 2501) ["self", "left", "right"] (t_Maker_node K ca Φ) := by
  intro cdv R out s Hh E ro
  have nd := sc_Maker_node.nd
  have hu := ro.units0
  have hu65 : R.units + 3 + 65 < cLine := by have := ro.un; show R.units + 3 + 65 < cLine; have e : (R.deeper (envOfC "Maker.node" (defScope (inClass (topS 15) 1)) s.heap.objs.size (ad 2501) cdv)).units = R.units + 3 := rfl; rw [e] at this; omega
  unfold t_Maker_node
  exact (pss_cons (ps_fldaug (pv 0) pe_int in_add)
    (pss_one (ps_ret (pe_make T.mk_Part F_Part_init (ro.mono (by omega)) (by rfl) T.gc_Part T.bi_Part_init .nil pass0 (pa_cons (pe_tup (pa_cons (pe_callP T.d_times F_times (ro.mono (by omega)) pass0 (pa_cons (pe_fld (pv 0) rfl) (pa_cons (pe_ix ix_tup (pe_fld (pv 1) rfl) pe_int (fun _ _ => rfl)) (pa_cons (pe_ix ix_tup (pe_fld (pv 2) rfl) pe_int (fun _ _ => rfl)) pa_nil)))) (pa_cons (pe_fld (pv 1) rfl) (pa_cons (pe_fld (pv 2) rfl) pa_nil)))) (pa_cons (pv 1) (pa_cons (pv 2) pa_nil)))))))
/-! Maker.built : slots 0=self 1=leaves 2=half -/
def t_Maker_built (K : PySem.W.Frag) (ca : Nat → Addr) (Φ : Nat → DSpec) : TS := 
  (tSeq (tIfS (tTest (tOp rEq (tCB (rdLen K) (tCons (tVar 1) tNil)) (tC (.int 1)))) (tRet (tMake (ca 20) (spN (cc K ca) (Φ 2200)) [] E0 (tCons (tOp (rIxL K) (tVar 1) (tC (.int 0))) (tCons (tC .non) (tCons (tC .non) tNil))))) tNext)
    (tSeq (tAsg (tOp rdDiv (tOp rdAdd (tCB (rdLen K) (tCons (tVar 1) tNil)) (tC (.int 1))) (tC (.int 2))) (gName 2))
    (tRet (tMeth (ca 26) "node" (spN (cc K ca) (Φ 2501)) [] E0 (tVar 0) (tCons (tMeth (ca 26) "built" (spN (cc K ca) (Φ 2502)) [] E0 (tVar 0) (tCons (L2.tSl (rSlL K) (tVar 1) tNoPart (tPart (tVar 2))) tNil)) (tCons (tMeth (ca 26) "built" (spN (cc K ca) (Φ 2502)) [] E0 (tVar 0) (tCons (L2.tSl (rSlL K) (tVar 1) (tPart (tVar 2)) tNoPart) tNil)) tNil))))))
theorem snd_Maker_built (T : Tx w K mg ad fu ca) (Φ : Nat → DSpec) : SS (cc K ca) noW (t_Maker_built K ca Φ) (d_Maker_built Φ) := by
  unfold t_Maker_built d_Maker_built
  exact (s_seq (s_ifS (s_test (s_op so_eq (s_b so_len (s_cons s_var s_nil)) (s_c fun _ _ => .int _))) (s_ret (s_makeN (s_cons (s_op so_ixL s_var (s_c fun _ _ => .int _)) (s_cons (s_c fun _ _ => .non) (s_cons (s_c fun _ _ => .non) s_nil))))) s_next)
    (s_seq (s_asg (s_op so_div (s_op so_add (s_b so_len (s_cons s_var s_nil)) (s_c fun _ _ => .int _)) (s_c fun _ _ => .int _)) s_gname)
    (s_ret (s_methN nf_node s_var (s_cons (s_methN nf_built s_var (s_cons (s_sl so_slL s_var s_nop (s_part s_var)) s_nil)) (s_cons (s_methN nf_built s_var (s_cons (s_sl so_slL s_var (s_part s_var) s_nop) s_nil)) s_nil))))))
theorem sc_Maker_built : FnScope ["self", "leaves", "half"] ["self", "leaves"] (defScope (inClass (topS 15) 2)) := ⟨rfl, rfl, rfl, by decide +kernel, rfl, by decide +kernel, by decide +kernel⟩
theorem body_Maker_built {k : Nat} {Φ : Nat → DSpec} (T : Tx w K mg ad fu ca) (F_Maker_built : FnOk P w K mg base CX0 (2 * k) (ad 2502) (fu 2502) ["self", "leaves"] (spN (cc K ca) (Φ 2502))) (F_Maker_node : FnOk P w K mg base CX0 (2 * k) (ad 2501) (fu 2501) ["self", "left", "right"] (spN (cc K ca) (Φ 2501))) (F_Part_init : FnOk P w K mg base CX0 (2 * k) (ad 2200) (fu 2200) ["self", "tree", "left", "right"] (spN (cc K ca) (Φ 2200))) : BodyP P w K mg base (2 * k + 1) "Maker.built" (inClass (topS 15) 2) (ad 2502) ["self", "leaves", "half"] (t_Maker_built K ca Φ) := by
  intro cdv R out s Hh E ro
  have nd := sc_Maker_built.nd
  have hu := ro.units0
  have hu65 : R.units + 3 + 65 < cLine := by have := ro.un; show R.units + 3 + 65 < cLine; have e : (R.deeper (envOfC "Maker.built" (defScope (inClass (topS 15) 2)) s.heap.objs.size (ad 2502) cdv)).units = R.units + 3 := rfl; rw [e] at this; omega
  unfold t_Maker_built
  exact (pss_cons (ps_if (pt_cmpR op_eq (pe_callB call_len_seq (by rfl) T.b_len (by decide +kernel) (pa_cons (pv 1) pa_nil)) pe_int (by rfl)) (pss_one (ps_ret (pe_make T.mk_Part F_Part_init (ro.mono (by omega)) (by rfl) T.gc_Part T.bi_Part_init .nil pass0 (pa_cons (pe_ix ix_list (pv 1) pe_int (fun _ _ => rfl)) (pa_cons pe_non (pa_cons pe_non pa_nil)))))) pss_nil)
    (pss_cons (ps_set (i := 2) nd rfl (by first | exact Or.inl rfl | exact Or.inr rfl) (pe_op op_fdiv (pe_op op_add (pe_callB call_len_seq (by rfl) T.b_len (by decide +kernel) (pa_cons (pv 1) pa_nil)) pe_int) pe_int))
    (pss_one (ps_ret (pe_meth (pv 0) T.c_Maker T.m_Maker_node F_Maker_node (ro.mono (by omega)) T.bi_Maker_node .nil pass0 (pa_cons (pe_meth (pv 0) T.c_Maker T.m_Maker_built F_Maker_built (ro.mono (by omega)) T.bi_Maker_built .nil pass0 (pa_cons (pe_slice sl_list (pv 1) po_none (po_some (pv 2))) pa_nil)) (pa_cons (pe_meth (pv 0) T.c_Maker T.m_Maker_built F_Maker_built (ro.mono (by omega)) T.bi_Maker_built .nil pass0 (pa_cons (pe_slice sl_list (pv 1) (po_some (pv 2)) po_none) pa_nil)) pa_nil)))))))
/-! Maker.righted : slots 0=self 1=left 2=right 3=first 4=second -/
def t_Maker_righted (K : PySem.W.Frag) (ca : Nat → Addr) (Φ : Nat → DSpec) : TS := 
  (tSeq (tIfS (tTest (tOp rdLe (tOp rdSub (tFld K (tVar 2) "height") (tFld K (tVar 1) "height")) (tC (.int 1)))) (tRet (tMeth (ca 26) "node" (spN (cc K ca) (Φ 2501)) [] E0 (tVar 0) (tCons (tVar 1) (tCons (tVar 2) tNil)))) tNext)
    (tSeq (tPar 3 4 (tCons (tFld K (tVar 2) "left") (tCons (tFld K (tVar 2) "right") tNil)))
    (tSeq (tIfS (tTest (tOp rdLe (tFld K (tVar 3) "height") (tFld K (tVar 4) "height"))) (tRet (tMeth (ca 26) "node" (spN (cc K ca) (Φ 2501)) [] E0 (tVar 0) (tCons (tMeth (ca 26) "node" (spN (cc K ca) (Φ 2501)) [] E0 (tVar 0) (tCons (tVar 1) (tCons (tVar 3) tNil))) (tCons (tVar 4) tNil)))) tNext)
    (tRet (tMeth (ca 26) "node" (spN (cc K ca) (Φ 2501)) [] E0 (tVar 0) (tCons (tMeth (ca 26) "node" (spN (cc K ca) (Φ 2501)) [] E0 (tVar 0) (tCons (tVar 1) (tCons (tFld K (tVar 3) "left") tNil))) (tCons (tMeth (ca 26) "node" (spN (cc K ca) (Φ 2501)) [] E0 (tVar 0) (tCons (tFld K (tVar 3) "right") (tCons (tVar 4) tNil))) tNil)))))))
theorem snd_Maker_righted (T : Tx w K mg ad fu ca) (Φ : Nat → DSpec) : SS (cc K ca) noW (t_Maker_righted K ca Φ) (d_Maker_righted Φ) := by
  unfold t_Maker_righted d_Maker_righted
  exact (s_seq (s_ifS (s_test (s_op so_le (s_op so_sub (s_fld (C := 20) (f := 3) rfl T.c_Part T.n_Part_height s_var) (s_fld (C := 20) (f := 3) rfl T.c_Part T.n_Part_height s_var)) (s_c fun _ _ => .int _))) (s_ret (s_methN nf_node s_var (s_cons s_var (s_cons s_var s_nil)))) s_next)
    (s_seq (s_par (s_cons (s_fld (C := 20) (f := 1) rfl T.c_Part T.n_Part_left s_var) (s_cons (s_fld (C := 20) (f := 2) rfl T.c_Part T.n_Part_right s_var) s_nil)))
    (s_seq (s_ifS (s_test (s_op so_le (s_fld (C := 20) (f := 3) rfl T.c_Part T.n_Part_height s_var) (s_fld (C := 20) (f := 3) rfl T.c_Part T.n_Part_height s_var))) (s_ret (s_methN nf_node s_var (s_cons (s_methN nf_node s_var (s_cons s_var (s_cons s_var s_nil))) (s_cons s_var s_nil)))) s_next)
    (s_ret (s_methN nf_node s_var (s_cons (s_methN nf_node s_var (s_cons s_var (s_cons (s_fld (C := 20) (f := 1) rfl T.c_Part T.n_Part_left s_var) s_nil))) (s_cons (s_methN nf_node s_var (s_cons (s_fld (C := 20) (f := 2) rfl T.c_Part T.n_Part_right s_var) (s_cons s_var s_nil))) s_nil)))))))
theorem sc_Maker_righted : FnScope ["self", "left", "right", "first", "second"] ["self", "left", "right"] (defScope (inClass (topS 15) 4)) := ⟨rfl, rfl, rfl, by decide +kernel, rfl, by decide +kernel, by decide +kernel⟩
theorem body_Maker_righted {k : Nat} {Φ : Nat → DSpec} (T : Tx w K mg ad fu ca) (F_Maker_node : FnOk P w K mg base CX0 (2 * k) (ad 2501) (fu 2501) ["self", "left", "right"] (spN (cc K ca) (Φ 2501))) : BodyP P w K mg base (2 * k + 1) "Maker.righted" (inClass (topS 15) 4) (ad 2504) ["self", "left", "right", "first", "second"] (t_Maker_righted K ca Φ) := by
  intro cdv R out s Hh E ro
  have nd := sc_Maker_righted.nd
  have hu := ro.units0
  have hu65 : R.units + 3 + 65 < cLine := by have := ro.un; show R.units + 3 + 65 < cLine; have e : (R.deeper (envOfC "Maker.righted" (defScope (inClass (topS 15) 4)) s.heap.objs.size (ad 2504) cdv)).units = R.units + 3 := rfl; rw [e] at this; omega
  unfold t_Maker_righted
  exact (pss_cons (ps_if (pt_cmpR op_le (pe_op op_sub (pe_fld (pv 2) rfl) (pe_fld (pv 1) rfl)) pe_int (by rfl)) (pss_one (ps_ret (pe_meth (pv 0) T.c_Maker T.m_Maker_node F_Maker_node (ro.mono (by omega)) T.bi_Maker_node .nil pass0 (pa_cons (pv 1) (pa_cons (pv 2) pa_nil))))) pss_nil)
    (pss_cons (ps_par (i := 3) (j := 4) rfl nd rfl rfl (by decide) rfl rfl (pa_cons (pe_fld (pv 2) rfl) (pa_cons (pe_fld (pv 2) rfl) pa_nil)) (by rfl))
    (pss_cons (ps_if (pt_cmpR op_le (pe_fld (pv 3) rfl) (pe_fld (pv 4) rfl) (by rfl)) (pss_one (ps_ret (pe_meth (pv 0) T.c_Maker T.m_Maker_node F_Maker_node (ro.mono (by omega)) T.bi_Maker_node .nil pass0 (pa_cons (pe_meth (pv 0) T.c_Maker T.m_Maker_node F_Maker_node (ro.mono (by omega)) T.bi_Maker_node .nil pass0 (pa_cons (pv 1) (pa_cons (pv 3) pa_nil))) (pa_cons (pv 4) pa_nil))))) pss_nil)
    (pss_one (ps_ret (pe_meth (pv 0) T.c_Maker T.m_Maker_node F_Maker_node (ro.mono (by omega)) T.bi_Maker_node .nil pass0 (pa_cons (pe_meth (pv 0) T.c_Maker T.m_Maker_node F_Maker_node (ro.mono (by omega)) T.bi_Maker_node .nil pass0 (pa_cons (pv 1) (pa_cons (pe_fld (pv 3) rfl) pa_nil))) (pa_cons (pe_meth (pv 0) T.c_Maker T.m_Maker_node F_Maker_node (ro.mono (by omega)) T.bi_Maker_node .nil pass0 (pa_cons (pe_fld (pv 3) rfl) (pa_cons (pv 4) pa_nil))) pa_nil))))))))
/-! Maker.lefted : slots 0=self 1=left 2=right 3=first 4=second -/
def t_Maker_lefted (K : PySem.W.Frag) (ca : Nat → Addr) (Φ : Nat → DSpec) : TS := 
  (tSeq (tIfS (tTest (tOp rdLe (tOp rdSub (tFld K (tVar 1) "height") (tFld K (tVar 2) "height")) (tC (.int 1)))) (tRet (tMeth (ca 26) "node" (spN (cc K ca) (Φ 2501)) [] E0 (tVar 0) (tCons (tVar 1) (tCons (tVar 2) tNil)))) tNext)
    (tSeq (tPar 3 4 (tCons (tFld K (tVar 1) "left") (tCons (tFld K (tVar 1) "right") tNil)))
    (tSeq (tIfS (tTest (tOp rdLe (tFld K (tVar 4) "height") (tFld K (tVar 3) "height"))) (tRet (tMeth (ca 26) "node" (spN (cc K ca) (Φ 2501)) [] E0 (tVar 0) (tCons (tVar 3) (tCons (tMeth (ca 26) "node" (spN (cc K ca) (Φ 2501)) [] E0 (tVar 0) (tCons (tVar 4) (tCons (tVar 2) tNil))) tNil)))) tNext)
    (tRet (tMeth (ca 26) "node" (spN (cc K ca) (Φ 2501)) [] E0 (tVar 0) (tCons (tMeth (ca 26) "node" (spN (cc K ca) (Φ 2501)) [] E0 (tVar 0) (tCons (tVar 3) (tCons (tFld K (tVar 4) "left") tNil))) (tCons (tMeth (ca 26) "node" (spN (cc K ca) (Φ 2501)) [] E0 (tVar 0) (tCons (tFld K (tVar 4) "right") (tCons (tVar 2) tNil))) tNil)))))))
theorem snd_Maker_lefted (T : Tx w K mg ad fu ca) (Φ : Nat → DSpec) : SS (cc K ca) noW (t_Maker_lefted K ca Φ) (d_Maker_lefted Φ) := by
  unfold t_Maker_lefted d_Maker_lefted
  exact (s_seq (s_ifS (s_test (s_op so_le (s_op so_sub (s_fld (C := 20) (f := 3) rfl T.c_Part T.n_Part_height s_var) (s_fld (C := 20) (f := 3) rfl T.c_Part T.n_Part_height s_var)) (s_c fun _ _ => .int _))) (s_ret (s_methN nf_node s_var (s_cons s_var (s_cons s_var s_nil)))) s_next)
    (s_seq (s_par (s_cons (s_fld (C := 20) (f := 1) rfl T.c_Part T.n_Part_left s_var) (s_cons (s_fld (C := 20) (f := 2) rfl T.c_Part T.n_Part_right s_var) s_nil)))
    (s_seq (s_ifS (s_test (s_op so_le (s_fld (C := 20) (f := 3) rfl T.c_Part T.n_Part_height s_var) (s_fld (C := 20) (f := 3) rfl T.c_Part T.n_Part_height s_var))) (s_ret (s_methN nf_node s_var (s_cons s_var (s_cons (s_methN nf_node s_var (s_cons s_var (s_cons s_var s_nil))) s_nil)))) s_next)
    (s_ret (s_methN nf_node s_var (s_cons (s_methN nf_node s_var (s_cons s_var (s_cons (s_fld (C := 20) (f := 1) rfl T.c_Part T.n_Part_left s_var) s_nil))) (s_cons (s_methN nf_node s_var (s_cons (s_fld (C := 20) (f := 2) rfl T.c_Part T.n_Part_right s_var) (s_cons s_var s_nil))) s_nil)))))))
theorem sc_Maker_lefted : FnScope ["self", "left", "right", "first", "second"] ["self", "left", "right"] (defScope (inClass (topS 15) 5)) := ⟨rfl, rfl, rfl, by decide +kernel, rfl, by decide +kernel, by decide +kernel⟩
theorem body_Maker_lefted {k : Nat} {Φ : Nat → DSpec} (T : Tx w K mg ad fu ca) (F_Maker_node : FnOk P w K mg base CX0 (2 * k) (ad 2501) (fu 2501) ["self", "left", "right"] (spN (cc K ca) (Φ 2501))) : BodyP P w K mg base (2 * k + 1) "Maker.lefted" (inClass (topS 15) 5) (ad 2505) ["self", "left", "right", "first", "second"] (t_Maker_lefted K ca Φ) := by
  intro cdv R out s Hh E ro
  have nd := sc_Maker_lefted.nd
  have hu := ro.units0
  have hu65 : R.units + 3 + 65 < cLine := by have := ro.un; show R.units + 3 + 65 < cLine; have e : (R.deeper (envOfC "Maker.lefted" (defScope (inClass (topS 15) 5)) s.heap.objs.size (ad 2505) cdv)).units = R.units + 3 := rfl; rw [e] at this; omega
  unfold t_Maker_lefted
  exact (pss_cons (ps_if (pt_cmpR op_le (pe_op op_sub (pe_fld (pv 1) rfl) (pe_fld (pv 2) rfl)) pe_int (by rfl)) (pss_one (ps_ret (pe_meth (pv 0) T.c_Maker T.m_Maker_node F_Maker_node (ro.mono (by omega)) T.bi_Maker_node .nil pass0 (pa_cons (pv 1) (pa_cons (pv 2) pa_nil))))) pss_nil)
    (pss_cons (ps_par (i := 3) (j := 4) rfl nd rfl rfl (by decide) rfl rfl (pa_cons (pe_fld (pv 1) rfl) (pa_cons (pe_fld (pv 1) rfl) pa_nil)) (by rfl))
    (pss_cons (ps_if (pt_cmpR op_le (pe_fld (pv 4) rfl) (pe_fld (pv 3) rfl) (by rfl)) (pss_one (ps_ret (pe_meth (pv 0) T.c_Maker T.m_Maker_node F_Maker_node (ro.mono (by omega)) T.bi_Maker_node .nil pass0 (pa_cons (pv 3) (pa_cons (pe_meth (pv 0) T.c_Maker T.m_Maker_node F_Maker_node (ro.mono (by omega)) T.bi_Maker_node .nil pass0 (pa_cons (pv 4) (pa_cons (pv 2) pa_nil))) pa_nil))))) pss_nil)
    (pss_one (ps_ret (pe_meth (pv 0) T.c_Maker T.m_Maker_node F_Maker_node (ro.mono (by omega)) T.bi_Maker_node .nil pass0 (pa_cons (pe_meth (pv 0) T.c_Maker T.m_Maker_node F_Maker_node (ro.mono (by omega)) T.bi_Maker_node .nil pass0 (pa_cons (pv 3) (pa_cons (pe_fld (pv 4) rfl) pa_nil))) (pa_cons (pe_meth (pv 0) T.c_Maker T.m_Maker_node F_Maker_node (ro.mono (by omega)) T.bi_Maker_node .nil pass0 (pa_cons (pe_fld (pv 4) rfl) (pa_cons (pv 2) pa_nil))) pa_nil))))))))
/-! Maker.joined : slots 0=self 1=left 2=right -/
def t_Maker_joined (K : PySem.W.Frag) (ca : Nat → Addr) (Φ : Nat → DSpec) : TS := 
  (tSeq (tIfS (tTest (tOp rdLe (tCB rdAbs (tCons (tOp rdSub (tFld K (tVar 1) "height") (tFld K (tVar 2) "height")) tNil)) (tC (.int 1)))) (tRet (tMeth (ca 26) "node" (spN (cc K ca) (Φ 2501)) [] E0 (tVar 0) (tCons (tVar 1) (tCons (tVar 2) tNil)))) tNext)
    (tSeq (tIfS (tTest (tOp rdGt (tFld K (tVar 1) "height") (tFld K (tVar 2) "height"))) (tRet (tMeth (ca 26) "righted" (spN (cc K ca) (Φ 2504)) [] E0 (tVar 0) (tCons (tFld K (tVar 1) "left") (tCons (tMeth (ca 26) "joined" (spN (cc K ca) (Φ 2503)) [] E0 (tVar 0) (tCons (tFld K (tVar 1) "right") (tCons (tVar 2) tNil))) tNil)))) tNext)
    (tRet (tMeth (ca 26) "lefted" (spN (cc K ca) (Φ 2505)) [] E0 (tVar 0) (tCons (tMeth (ca 26) "joined" (spN (cc K ca) (Φ 2503)) [] E0 (tVar 0) (tCons (tVar 1) (tCons (tFld K (tVar 2) "left") tNil))) (tCons (tFld K (tVar 2) "right") tNil))))))
theorem snd_Maker_joined (T : Tx w K mg ad fu ca) (Φ : Nat → DSpec) : SS (cc K ca) noW (t_Maker_joined K ca Φ) (d_Maker_joined Φ) := by
  unfold t_Maker_joined d_Maker_joined
  exact (s_seq (s_ifS (s_test (s_op so_le (s_b so_abs (s_cons (s_op so_sub (s_fld (C := 20) (f := 3) rfl T.c_Part T.n_Part_height s_var) (s_fld (C := 20) (f := 3) rfl T.c_Part T.n_Part_height s_var)) s_nil)) (s_c fun _ _ => .int _))) (s_ret (s_methN nf_node s_var (s_cons s_var (s_cons s_var s_nil)))) s_next)
    (s_seq (s_ifS (s_test (s_op so_gt (s_fld (C := 20) (f := 3) rfl T.c_Part T.n_Part_height s_var) (s_fld (C := 20) (f := 3) rfl T.c_Part T.n_Part_height s_var))) (s_ret (s_methN nf_righted s_var (s_cons (s_fld (C := 20) (f := 1) rfl T.c_Part T.n_Part_left s_var) (s_cons (s_methN nf_joined s_var (s_cons (s_fld (C := 20) (f := 2) rfl T.c_Part T.n_Part_right s_var) (s_cons s_var s_nil))) s_nil)))) s_next)
    (s_ret (s_methN nf_lefted s_var (s_cons (s_methN nf_joined s_var (s_cons s_var (s_cons (s_fld (C := 20) (f := 1) rfl T.c_Part T.n_Part_left s_var) s_nil))) (s_cons (s_fld (C := 20) (f := 2) rfl T.c_Part T.n_Part_right s_var) s_nil))))))
theorem sc_Maker_joined : FnScope ["self", "left", "right"] ["self", "left", "right"] (defScope (inClass (topS 15) 3)) := ⟨rfl, rfl, rfl, by decide +kernel, rfl, by decide +kernel, by decide +kernel⟩
theorem body_Maker_joined {k : Nat} {Φ : Nat → DSpec} (T : Tx w K mg ad fu ca) (F_Maker_joined : FnOk P w K mg base CX0 (2 * k) (ad 2503) (fu 2503) ["self", "left", "right"] (spN (cc K ca) (Φ 2503))) (F_Maker_lefted : FnOk P w K mg base CX0 (2 * k) (ad 2505) (fu 2505) ["self", "left", "right"] (spN (cc K ca) (Φ 2505))) (F_Maker_node : FnOk P w K mg base CX0 (2 * k) (ad 2501) (fu 2501) ["self", "left", "right"] (spN (cc K ca) (Φ 2501))) (F_Maker_righted : FnOk P w K mg base CX0 (2 * k) (ad 2504) (fu 2504) ["self", "left", "right"] (spN (cc K ca) (Φ 2504))) : BodyP P w K mg base (2 * k + 1) "Maker.joined" (inClass (topS 15) 3) (ad 2503) ["self", "left", "right"] (t_Maker_joined K ca Φ) := by
  intro cdv R out s Hh E ro
  have nd := sc_Maker_joined.nd
  have hu := ro.units0
  have hu65 : R.units + 3 + 65 < cLine := by have := ro.un; show R.units + 3 + 65 < cLine; have e : (R.deeper (envOfC "Maker.joined" (defScope (inClass (topS 15) 3)) s.heap.objs.size (ad 2503) cdv)).units = R.units + 3 := rfl; rw [e] at this; omega
  unfold t_Maker_joined
  exact (pss_cons (ps_if (pt_cmpR op_le (pe_callB call_abs (by rfl) T.b_abs (by decide +kernel) (pa_cons (pe_op op_sub (pe_fld (pv 1) rfl) (pe_fld (pv 2) rfl)) pa_nil)) pe_int (by rfl)) (pss_one (ps_ret (pe_meth (pv 0) T.c_Maker T.m_Maker_node F_Maker_node (ro.mono (by omega)) T.bi_Maker_node .nil pass0 (pa_cons (pv 1) (pa_cons (pv 2) pa_nil))))) pss_nil)
    (pss_cons (ps_if (pt_cmpR op_gt (pe_fld (pv 1) rfl) (pe_fld (pv 2) rfl) (by rfl)) (pss_one (ps_ret (pe_meth (pv 0) T.c_Maker T.m_Maker_righted F_Maker_righted (ro.mono (by omega)) T.bi_Maker_righted .nil pass0 (pa_cons (pe_fld (pv 1) rfl) (pa_cons (pe_meth (pv 0) T.c_Maker T.m_Maker_joined F_Maker_joined (ro.mono (by omega)) T.bi_Maker_joined .nil pass0 (pa_cons (pe_fld (pv 1) rfl) (pa_cons (pv 2) pa_nil))) pa_nil))))) pss_nil)
    (pss_one (ps_ret (pe_meth (pv 0) T.c_Maker T.m_Maker_lefted F_Maker_lefted (ro.mono (by omega)) T.bi_Maker_lefted .nil pass0 (pa_cons (pe_meth (pv 0) T.c_Maker T.m_Maker_joined F_Maker_joined (ro.mono (by omega)) T.bi_Maker_joined .nil pass0 (pa_cons (pv 1) (pa_cons (pe_fld (pv 2) rfl) pa_nil))) (pa_cons (pe_fld (pv 2) rfl) pa_nil)))))))
/-! Maker.both : slots 0=self 1=left 2=right -/
def t_Maker_both (K : PySem.W.Frag) (ca : Nat → Addr) (Φ : Nat → DSpec) : TS := 
  (tSeq (tIfS (tOr (tTest (tOp rdIsN (tVar 1) (tC .non))) (tTest (tOp rdIsN (tVar 2) (tC .non)))) (tRet (tIf (tTest (tOp rdIsN (tVar 2) (tC .non))) (tVar 1) (tVar 2))) tNext)
    (tRet (tMeth (ca 26) "joined" (spN (cc K ca) (Φ 2503)) [] E0 (tVar 0) (tCons (tVar 1) (tCons (tVar 2) tNil)))))
theorem snd_Maker_both (T : Tx w K mg ad fu ca) (Φ : Nat → DSpec) : SS (cc K ca) noW (t_Maker_both K ca Φ) (d_Maker_both Φ) := by
  unfold t_Maker_both d_Maker_both
  exact (s_seq (s_ifS (s_or (s_test (s_op so_isN s_var (s_c fun _ _ => .non))) (s_test (s_op so_isN s_var (s_c fun _ _ => .non)))) (s_ret (s_if (s_test (s_op so_isN s_var (s_c fun _ _ => .non))) s_var s_var)) s_next)
    (s_ret (s_methN nf_joined s_var (s_cons s_var (s_cons s_var s_nil)))))
theorem sc_Maker_both : FnScope ["self", "left", "right"] ["self", "left", "right"] (defScope (inClass (topS 15) 6)) := ⟨rfl, rfl, rfl, by decide +kernel, rfl, by decide +kernel, by decide +kernel⟩
theorem body_Maker_both {k : Nat} {Φ : Nat → DSpec} (T : Tx w K mg ad fu ca) (F_Maker_joined : FnOk P w K mg base CX0 (2 * k) (ad 2503) (fu 2503) ["self", "left", "right"] (spN (cc K ca) (Φ 2503))) : BodyP P w K mg base (2 * k + 1) "Maker.both" (inClass (topS 15) 6) (ad 2506) ["self", "left", "right"] (t_Maker_both K ca Φ) := by
  intro cdv R out s Hh E ro
  have nd := sc_Maker_both.nd
  have hu := ro.units0
  have hu65 : R.units + 3 + 65 < cLine := by have := ro.un; show R.units + 3 + 65 < cLine; have e : (R.deeper (envOfC "Maker.both" (defScope (inClass (topS 15) 6)) s.heap.objs.size (ad 2506) cdv)).units = R.units + 3 := rfl; rw [e] at this; omega
  unfold t_Maker_both
  exact (pss_cons (ps_if (PW.pt (pw_or (pt_cmpR op_isN (pv 1) pe_non (by rfl)) (pw_or1 (pt_cmpR op_isN (pv 2) pe_non (by rfl))))) (pss_one (ps_ret (pe_ifExp (pt_cmpR op_isN (pv 2) pe_non (by rfl)) (pv 1) (pv 2)))) pss_nil)
    (pss_one (ps_ret (pe_meth (pv 0) T.c_Maker T.m_Maker_joined F_Maker_joined (ro.mono (by omega)) T.bi_Maker_joined .nil pass0 (pa_cons (pv 1) (pa_cons (pv 2) pa_nil))))))
/-! Maker.cut : slots 0=self 1=part 2=place 3=first 4=rest -/
def t_Maker_cut (K : PySem.W.Frag) (ca : Nat → Addr) (Φ : Nat → DSpec) : TS := 
  (tSeq (tIfS (tOr (tTest (tOp rdIsN (tVar 1) (tC .non))) (tTest (tOp rEq (tVar 2) (tC (.int 0))))) (tRet (tTup (tCons (tC .non) (tCons (tVar 1) tNil)))) tNext)
    (tSeq (tIfS (tTest (tOp rEq (tVar 2) (tFld K (tVar 1) "many"))) (tRet (tTup (tCons (tVar 1) (tCons (tC .non) tNil)))) tNext)
    (tSeq (tIfS (tTest (tOp rdLe (tVar 2) (tFld K (tFld K (tVar 1) "left") "many"))) (tSeq (tAsg (tMeth (ca 26) "cut" (spN (cc K ca) (Φ 2507)) [] E0 (tVar 0) (tCons (tFld K (tVar 1) "left") (tCons (tVar 2) tNil))) (gTup K 2 (gCons (gName 3) (gCons (gName 4) gNil))))
    (tRet (tTup (tCons (tVar 3) (tCons (tMeth (ca 26) "both" (spN (cc K ca) (Φ 2506)) [] E0 (tVar 0) (tCons (tVar 4) (tCons (tFld K (tVar 1) "right") tNil))) tNil))))) tNext)
    (tSeq (tAsg (tMeth (ca 26) "cut" (spN (cc K ca) (Φ 2507)) [] E0 (tVar 0) (tCons (tFld K (tVar 1) "right") (tCons (tOp rdSub (tVar 2) (tFld K (tFld K (tVar 1) "left") "many")) tNil))) (gTup K 2 (gCons (gName 3) (gCons (gName 4) gNil))))
    (tRet (tTup (tCons (tMeth (ca 26) "both" (spN (cc K ca) (Φ 2506)) [] E0 (tVar 0) (tCons (tFld K (tVar 1) "left") (tCons (tVar 3) tNil))) (tCons (tVar 4) tNil))))))))
theorem snd_Maker_cut (T : Tx w K mg ad fu ca) (Φ : Nat → DSpec) : SS (cc K ca) noW (t_Maker_cut K ca Φ) (d_Maker_cut Φ) := by
  unfold t_Maker_cut d_Maker_cut
  exact (s_seq (s_ifS (s_or (s_test (s_op so_isN s_var (s_c fun _ _ => .non))) (s_test (s_op so_eq s_var (s_c fun _ _ => .int _)))) (s_ret (s_tup (s_cons (s_c fun _ _ => .non) (s_cons s_var s_nil)))) s_next)
    (s_seq (s_ifS (s_test (s_op so_eq s_var (s_fld (C := 20) (f := 4) rfl T.c_Part T.n_Part_many s_var))) (s_ret (s_tup (s_cons s_var (s_cons (s_c fun _ _ => .non) s_nil)))) s_next)
    (s_seq (s_ifS (s_test (s_op so_le s_var (s_fld (C := 20) (f := 4) rfl T.c_Part T.n_Part_many (s_fld (C := 20) (f := 1) rfl T.c_Part T.n_Part_left s_var)))) (s_seq (s_asg (s_methN nf_cut s_var (s_cons (s_fld (C := 20) (f := 1) rfl T.c_Part T.n_Part_left s_var) (s_cons s_var s_nil))) (s_gtup (s_gcons s_gname (s_gcons s_gname s_gnil))))
    (s_ret (s_tup (s_cons s_var (s_cons (s_methN nf_both s_var (s_cons s_var (s_cons (s_fld (C := 20) (f := 2) rfl T.c_Part T.n_Part_right s_var) s_nil))) s_nil))))) s_next)
    (s_seq (s_asg (s_methN nf_cut s_var (s_cons (s_fld (C := 20) (f := 2) rfl T.c_Part T.n_Part_right s_var) (s_cons (s_op so_sub s_var (s_fld (C := 20) (f := 4) rfl T.c_Part T.n_Part_many (s_fld (C := 20) (f := 1) rfl T.c_Part T.n_Part_left s_var))) s_nil))) (s_gtup (s_gcons s_gname (s_gcons s_gname s_gnil))))
    (s_ret (s_tup (s_cons (s_methN nf_both s_var (s_cons (s_fld (C := 20) (f := 1) rfl T.c_Part T.n_Part_left s_var) (s_cons s_var s_nil))) (s_cons s_var s_nil))))))))
theorem sc_Maker_cut : FnScope ["self", "part", "place", "first", "rest"] ["self", "part", "place"] (defScope (inClass (topS 15) 7)) := ⟨rfl, rfl, rfl, by decide +kernel, rfl, by decide +kernel, by decide +kernel⟩
theorem body_Maker_cut {k : Nat} {Φ : Nat → DSpec} (T : Tx w K mg ad fu ca) (F_Maker_both : FnOk P w K mg base CX0 (2 * k) (ad 2506) (fu 2506) ["self", "left", "right"] (spN (cc K ca) (Φ 2506))) (F_Maker_cut : FnOk P w K mg base CX0 (2 * k) (ad 2507) (fu 2507) ["self", "part", "place"] (spN (cc K ca) (Φ 2507))) : BodyP P w K mg base (2 * k + 1) "Maker.cut" (inClass (topS 15) 7) (ad 2507) ["self", "part", "place", "first", "rest"] (t_Maker_cut K ca Φ) := by
  intro cdv R out s Hh E ro
  have nd := sc_Maker_cut.nd
  have hu := ro.units0
  have hu65 : R.units + 3 + 65 < cLine := by have := ro.un; show R.units + 3 + 65 < cLine; have e : (R.deeper (envOfC "Maker.cut" (defScope (inClass (topS 15) 7)) s.heap.objs.size (ad 2507) cdv)).units = R.units + 3 := rfl; rw [e] at this; omega
  unfold t_Maker_cut
  exact (pss_cons (ps_if (PW.pt (pw_or (pt_cmpR op_isN (pv 1) pe_non (by rfl)) (pw_or1 (pt_cmpR op_eq (pv 2) pe_int (by rfl))))) (pss_one (ps_ret (pe_tup (pa_cons pe_non (pa_cons (pv 1) pa_nil))))) pss_nil)
    (pss_cons (ps_if (pt_cmpR op_eq (pv 2) (pe_fld (pv 1) rfl) (by rfl)) (pss_one (ps_ret (pe_tup (pa_cons (pv 1) (pa_cons pe_non pa_nil))))) pss_nil)
    (pss_cons (ps_if (pt_cmpR op_le (pv 2) (pe_fld (pe_fld (pv 1) rfl) rfl) (by rfl)) (pss_cons (ps_asg (pe_meth (pv 0) T.c_Maker T.m_Maker_cut F_Maker_cut (ro.mono (by omega)) T.bi_Maker_cut .nil pass0 (pa_cons (pe_fld (pv 1) rfl) (pa_cons (pv 2) pa_nil))) (pg_tup rfl (pgs_cons (pg_name (i := 3) nd rfl (by first | exact Or.inl rfl | exact Or.inr rfl)) (pgs_cons (pg_name (i := 4) nd rfl (by first | exact Or.inl rfl | exact Or.inr rfl)) pgs_nil))))
    (pss_one (ps_ret (pe_tup (pa_cons (pv 3) (pa_cons (pe_meth (pv 0) T.c_Maker T.m_Maker_both F_Maker_both (ro.mono (by omega)) T.bi_Maker_both .nil pass0 (pa_cons (pv 4) (pa_cons (pe_fld (pv 1) rfl) pa_nil))) pa_nil)))))) pss_nil)
    (pss_cons (ps_asg (pe_meth (pv 0) T.c_Maker T.m_Maker_cut F_Maker_cut (ro.mono (by omega)) T.bi_Maker_cut .nil pass0 (pa_cons (pe_fld (pv 1) rfl) (pa_cons (pe_op op_sub (pv 2) (pe_fld (pe_fld (pv 1) rfl) rfl)) pa_nil))) (pg_tup rfl (pgs_cons (pg_name (i := 3) nd rfl (by first | exact Or.inl rfl | exact Or.inr rfl)) (pgs_cons (pg_name (i := 4) nd rfl (by first | exact Or.inl rfl | exact Or.inr rfl)) pgs_nil))))
    (pss_one (ps_ret (pe_tup (pa_cons (pe_meth (pv 0) T.c_Maker T.m_Maker_both F_Maker_both (ro.mono (by omega)) T.bi_Maker_both .nil pass0 (pa_cons (pe_fld (pv 1) rfl) (pa_cons (pv 3) pa_nil))) (pa_cons (pv 4) pa_nil)))))))))
/-! leaves_of : slots 0=tree 1=found 2=waiting 3=one -/
def t_leaves_of (K : PySem.W.Frag) (ca : Nat → Addr) (Φ : Nat → DSpec) : TS := 
  (tSeq (tAsg (tLst tNil) (gName 1))
    (tSeq (tAsg (tLst (tCons (tVar 0) tNil)) (gName 2))
    (tSeq (tWhile (tTest (tOp rdGt (tCB (rdLen K) (tCons (tVar 2) tNil)) (tC (.int 0)))) (tSeq (tAsg (tBM0 K "list" rPop (tVar 2)) (gName 3))
    (tIfS (tB (rCallG (spN (cc K ca) (Φ 10)) E0 (tCons (tVar 3) tNil))) (tDrop (tBM K "list" rAppend (tVar 1) (tCons (tVar 3) tNil))) (tDrop (tBM K "list" rExtend (tVar 2) (tCons (tLst (tCons (tOp (rIxT K) (tVar 3) (tC (.int 2))) (tCons (tOp (rIxT K) (tVar 3) (tC (.int 1))) tNil))) tNil))))))
    (tRet (tVar 1)))))
theorem snd_leaves_of (T : Tx w K mg ad fu ca) (Φ : Nat → DSpec) : SS (cc K ca) noW (t_leaves_of K ca Φ) (d_leaves_of Φ) := by
  unfold t_leaves_of d_leaves_of
  exact (s_seq (s_asg (s_lst s_nil) s_gname)
    (s_seq (s_asg (s_lst (s_cons s_var s_nil)) s_gname)
    (s_seq (s_while (s_test (s_op so_gt (s_b so_len (s_cons s_var s_nil)) (s_c fun _ _ => .int _))) (s_seq (s_asg (s_m0 so_pop s_var) s_gname)
    (s_ifS (s_B (s_callN (s_cons s_var s_nil))) (s_drop (s_m so_append s_var (s_cons s_var s_nil))) (s_drop (s_m so_extend s_var (s_cons (s_lst (s_cons (s_op so_ixT s_var (s_c fun _ _ => .int _)) (s_cons (s_op so_ixT s_var (s_c fun _ _ => .int _)) s_nil))) s_nil))))))
    (s_ret s_var))))
theorem sc_leaves_of : FnScope ["tree", "found", "waiting", "one"] ["tree"] (defScope (topS 16)) := ⟨rfl, rfl, rfl, by decide +kernel, rfl, by decide +kernel, by decide +kernel⟩
theorem body_leaves_of {k : Nat} {Φ : Nat → DSpec} (T : Tx w K mg ad fu ca) (F_is_leaf : FnOk P w K mg base CX0 (2 * k) (ad 10) (fu 10) ["tree"] (spN (cc K ca) (Φ 10))) : BodyP P w K mg base (2 * k + 1) "leaves_of" (topS 16) (ad 16) ["tree", "found", "waiting", "one"] (t_leaves_of K ca Φ) := by
  intro cdv R out s Hh E ro
  have nd := sc_leaves_of.nd
  have hu := ro.units0
  have hu65 : R.units + 3 + 65 < cLine := by have := ro.un; show R.units + 3 + 65 < cLine; have e : (R.deeper (envOfC "leaves_of" (defScope (topS 16)) s.heap.objs.size (ad 16) cdv)).units = R.units + 3 := rfl; rw [e] at this; omega
  unfold t_leaves_of
  exact (pss_cons (ps_set (i := 1) nd rfl (by first | exact Or.inl rfl | exact Or.inr rfl) (pe_lst pa_nil))
    (pss_cons (ps_set (i := 2) nd rfl (by first | exact Or.inl rfl | exact Or.inr rfl) (pe_lst (pa_cons (pv 0) pa_nil)))
    (pss_cons (ps_while PassesOwn.never (pt_cmpR op_gt (pe_callB call_len_seq (by rfl) T.b_len (by decide +kernel) (pa_cons (pv 2) pa_nil)) pe_int (by rfl)) (pss_cons (ps_set (i := 3) nd rfl (by first | exact Or.inl rfl | exact Or.inr rfl) (pe_bm0 PySem.F.plainAttrs_list PySem.F.slot_list_pop PySem.F.type_list_pop mt_pop (pv 2)))
    (pss_one (ps_if (pt_val (pe_callP T.d_is_leaf F_is_leaf (ro.mono (by omega)) pass0 (pa_cons (pv 3) pa_nil))) (pss_one (ps_expr (pe_bm PySem.F.plainAttrs_list PySem.F.slot_list_append PySem.F.type_list_append mt_append (pv 1) (pa_cons (pv 3) pa_nil)))) (pss_one (ps_expr (pe_bm PySem.F.plainAttrs_list PySem.F.slot_list_extend PySem.F.type_list_extend mt_extend (pv 2) (pa_cons (pe_lst (pa_cons (pe_ix ix_tup (pv 3) pe_int (fun _ _ => rfl)) (pa_cons (pe_ix ix_tup (pv 3) pe_int (fun _ _ => rfl)) pa_nil))) pa_nil))))))))
    (pss_one (ps_ret (pv 1))))))
/-! built : slots 0=table 1=log 2=maker 3=part 4=letter -/
def t_built (K : PySem.W.Frag) (ca : Nat → Addr) (Φ : Nat → DSpec) : XK → TS := fun E =>
  (tSeq (tIfS (tTest (tOp rEq (tCB (rdLen K) (tCons (tVar 1) tNil)) (tC (.int 0)))) (Sf.tRaise E (ca 22)) tNext)
    (tSeq (tAsg (tMake (ca 26) (spN (cc K ca) (Φ 2500)) [] E0 (tCons (tVar 0) tNil)) (gName 2))
    (tSeq (tAsg (tMeth (ca 26) "built" (spN (cc K ca) (Φ 2502)) [] E0 (tVar 2) (tCons (tLc (iTup K (tVar 1)) (gName 4) tYes (rCallG (spX (cc K ca) (Φ 11)) E (tCons (tVar 0) (tCons (tVar 4) tNil))) [4]) tNil)) (gName 3))
    (tRet (tTup (tCons (tFld K (tVar 3) "tree") (tCons (tFld K (tVar 2) "products") tNil)))))))
theorem snd_built (T : Tx w K mg ad fu ca) (Φ : Nat → DSpec) (E : XK) : SS (cc K ca) (wX E) (t_built K ca Φ E) (d_built Φ) := by
  unfold t_built d_built
  exact (s_seq (s_ifS (s_test (s_op so_eq (s_b so_len (s_cons s_var s_nil)) (s_c fun _ _ => .int _))) s_raise s_next)
    (s_seq (s_asg (s_makeN (s_cons s_var s_nil)) s_gname)
    (s_seq (s_asg (s_methN nf_built s_var (s_cons (s_lcx0 (s_iT s_var) s_gname (wp_name (by decide)) (s_call (s_cons s_var (s_cons s_var s_nil)))) s_nil)) s_gname)
    (s_ret (s_tup (s_cons (s_fld (C := 20) (f := 0) rfl T.c_Part T.n_Part_tree s_var) (s_cons (s_fld (C := 26) (f := 6) rfl T.c_Maker T.n_Maker_products s_var) s_nil)))))))
theorem sc_built : FnScope ["table", "log", "maker", "part", "letter"] ["table", "log"] (defScope (topS 17)) := ⟨rfl, rfl, rfl, by decide +kernel, rfl, by decide +kernel, by decide +kernel⟩
theorem body_built {k : Nat} {Φ : Nat → DSpec} (T : Tx w K mg ad fu ca) (F_Maker_init : FnOk P w K mg base CX0 (2 * k) (ad 2500) (fu 2500) ["self", "table"] (spN (cc K ca) (Φ 2500))) (F_Maker_built : FnOk P w K mg base CX0 (2 * k) (ad 2502) (fu 2502) ["self", "leaves"] (spN (cc K ca) (Φ 2502))) (F_leaf_of : FnOk P w K mg base (L2.CX P w) (2 * k) (ad 11) (fu 11) ["table", "letter"] (spX (cc K ca) (Φ 11))) : BodyX P w K mg base (2 * k + 1) "built" (topS 17) (ad 17) ["table", "log", "maker", "part", "letter"] (t_built K ca Φ) := by
  intro cdv R out s Hh E ro
  have nd := sc_built.nd
  have hu := ro.units0
  have hu65 : R.units + 3 + 65 < cLine := by have := ro.un; show R.units + 3 + 65 < cLine; have e : (R.deeper (envOfC "built" (defScope (topS 17)) s.heap.objs.size (ad 17) cdv)).units = R.units + 3 := rfl; rw [e] at this; omega
  unfold t_built
  exact (pss_cons (ps_if (pt_cmpR op_eq (pe_callB call_len_seq (by rfl) T.b_len (by decide +kernel) (pa_cons (pv 1) pa_nil)) pe_int (by rfl)) (pss_one (ps_raise rfl (takes_of rfl rfl rfl rfl) (pmk_own PySem.F.excBase_ValueError T.x_NotAllowed T.gc_NotAllowed T.k_NotAllowed (raises_own T.bb_NotAllowed T.ty_NotAllowed) (by exact rfl)))) pss_nil)
    (pss_cons (ps_set (i := 2) nd rfl (by first | exact Or.inl rfl | exact Or.inr rfl) (pe_make T.mk_Maker F_Maker_init (ro.mono (by omega)) (by rfl) T.gc_Maker T.bi_Maker_init .nil pass0 (pa_cons (pv 0) pa_nil)))
    (pss_cons (ps_set (i := 3) nd rfl (by first | exact Or.inl rfl | exact Or.inr rfl) (pe_meth (pv 2) T.c_Maker T.m_Maker_built F_Maker_built (ro.mono (by omega)) T.bi_Maker_built .nil pass0 (pa_cons (pe_lcx (E := E) (own := [("letter", 4)]) rfl rfl (takes_of rfl rfl rfl rfl) rfl nd (pi_tup (pv 1)) (blkOk_by (own := [("letter", 4)]) (N := ["table", "log", "maker", "part", "letter"]) (sc := defScope (topS 17)) (by decide +kernel)) (fun _ _ _ _ _ => (pg_name (i := 4) nd rfl (by first | exact Or.inl rfl | exact Or.inr rfl))) (fun _ _ _ _ _ => pts_nil) (fun _ _ _ _ _ => (pe_callP T.d_leaf_of F_leaf_of (ro.mono (by omega)) bx_passes (pa_cons (pv 0) (pa_cons (pv 4) pa_nil))))) pa_nil)))
    (pss_one (ps_ret (pe_tup (pa_cons (pe_fld (pv 3) rfl) (pa_cons (pe_fld (pv 2) rfl) pa_nil))))))))
/-! joined : slots 0=table 1=first 2=second 3=maker 4=part -/
def t_joined (K : PySem.W.Frag) (ca : Nat → Addr) (Φ : Nat → DSpec) : TS := 
  (tSeq (tAsg (tMake (ca 26) (spN (cc K ca) (Φ 2500)) [] E0 (tCons (tVar 0) tNil)) (gName 3))
    (tSeq (tAsg (tMeth (ca 26) "joined" (spN (cc K ca) (Φ 2503)) [] E0 (tVar 3) (tCons (rCallG (spN (cc K ca) (Φ 13)) E0 (tCons (tVar 1) tNil)) (tCons (rCallG (spN (cc K ca) (Φ 13)) E0 (tCons (tVar 2) tNil)) tNil))) (gName 4))
    (tRet (tTup (tCons (tFld K (tVar 4) "tree") (tCons (tFld K (tVar 3) "products") tNil))))))
theorem snd_joined (T : Tx w K mg ad fu ca) (Φ : Nat → DSpec) : SS (cc K ca) noW (t_joined K ca Φ) (d_joined Φ) := by
  unfold t_joined d_joined
  exact (s_seq (s_asg (s_makeN (s_cons s_var s_nil)) s_gname)
    (s_seq (s_asg (s_methN nf_joined s_var (s_cons (s_callN (s_cons s_var s_nil)) (s_cons (s_callN (s_cons s_var s_nil)) s_nil))) s_gname)
    (s_ret (s_tup (s_cons (s_fld (C := 20) (f := 0) rfl T.c_Part T.n_Part_tree s_var) (s_cons (s_fld (C := 26) (f := 6) rfl T.c_Maker T.n_Maker_products s_var) s_nil))))))
theorem sc_joined : FnScope ["table", "first", "second", "maker", "part"] ["table", "first", "second"] (defScope (topS 18)) := ⟨rfl, rfl, rfl, by decide +kernel, rfl, by decide +kernel, by decide +kernel⟩
theorem body_joined {k : Nat} {Φ : Nat → DSpec} (T : Tx w K mg ad fu ca) (F_Maker_init : FnOk P w K mg base CX0 (2 * k) (ad 2500) (fu 2500) ["self", "table"] (spN (cc K ca) (Φ 2500))) (F_Maker_joined : FnOk P w K mg base CX0 (2 * k) (ad 2503) (fu 2503) ["self", "left", "right"] (spN (cc K ca) (Φ 2503))) (F_part_of : FnOk P w K mg base CX0 (2 * k) (ad 13) (fu 13) ["tree"] (spN (cc K ca) (Φ 13))) : BodyP P w K mg base (2 * k + 1) "joined" (topS 18) (ad 18) ["table", "first", "second", "maker", "part"] (t_joined K ca Φ) := by
  intro cdv R out s Hh E ro
  have nd := sc_joined.nd
  have hu := ro.units0
  have hu65 : R.units + 3 + 65 < cLine := by have := ro.un; show R.units + 3 + 65 < cLine; have e : (R.deeper (envOfC "joined" (defScope (topS 18)) s.heap.objs.size (ad 18) cdv)).units = R.units + 3 := rfl; rw [e] at this; omega
  unfold t_joined
  exact (pss_cons (ps_set (i := 3) nd rfl (by first | exact Or.inl rfl | exact Or.inr rfl) (pe_make T.mk_Maker F_Maker_init (ro.mono (by omega)) (by rfl) T.gc_Maker T.bi_Maker_init .nil pass0 (pa_cons (pv 0) pa_nil)))
    (pss_cons (ps_set (i := 4) nd rfl (by first | exact Or.inl rfl | exact Or.inr rfl) (pe_meth (pv 3) T.c_Maker T.m_Maker_joined F_Maker_joined (ro.mono (by omega)) T.bi_Maker_joined .nil pass0 (pa_cons (pe_callP T.d_part_of F_part_of (ro.mono (by omega)) pass0 (pa_cons (pv 1) pa_nil)) (pa_cons (pe_callP T.d_part_of F_part_of (ro.mono (by omega)) pass0 (pa_cons (pv 2) pa_nil)) pa_nil))))
    (pss_one (ps_ret (pe_tup (pa_cons (pe_fld (pv 4) rfl) (pa_cons (pe_fld (pv 3) rfl) pa_nil)))))))
/-! cut_at : slots 0=table 1=tree 2=place 3=maker 4=part 5=first 6=second -/
def t_cut_at (K : PySem.W.Frag) (ca : Nat → Addr) (Φ : Nat → DSpec) : XK → TS := fun E =>
  (tSeq (tAsg (tMake (ca 26) (spN (cc K ca) (Φ 2500)) [] E0 (tCons (tVar 0) tNil)) (gName 3))
    (tSeq (tAsg (rCallG (spN (cc K ca) (Φ 13)) E0 (tCons (tVar 1) tNil)) (gName 4))
    (tSeq (tIfS (tNot (tTest (tChain rdLe rdLe (tC (.int 0)) (tVar 2) (tFld K (tVar 4) "many")))) (Sf.tRaise E (ca 22)) tNext)
    (tSeq (tAsg (tMeth (ca 26) "cut" (spN (cc K ca) (Φ 2507)) [] E0 (tVar 3) (tCons (tVar 4) (tCons (tVar 2) tNil))) (gTup K 2 (gCons (gName 5) (gCons (gName 6) gNil))))
    (tRet (tTup (tCons (rCallG (spN (cc K ca) (Φ 14)) E0 (tCons (tVar 5) tNil)) (tCons (rCallG (spN (cc K ca) (Φ 14)) E0 (tCons (tVar 6) tNil)) (tCons (tFld K (tVar 3) "products") tNil)))))))))
theorem snd_cut_at (T : Tx w K mg ad fu ca) (Φ : Nat → DSpec) (E : XK) : SS (cc K ca) (wX E) (t_cut_at K ca Φ E) (d_cut_at Φ) := by
  unfold t_cut_at d_cut_at
  exact (s_seq (s_asg (s_makeN (s_cons s_var s_nil)) s_gname)
    (s_seq (s_asg (s_callN (s_cons s_var s_nil)) s_gname)
    (s_seq (s_ifS (s_not (s_test (s_chain so_le so_le (s_c fun _ _ => .int _) s_var (s_fld (C := 20) (f := 4) rfl T.c_Part T.n_Part_many s_var)))) s_raise s_next)
    (s_seq (s_asg (s_methN nf_cut s_var (s_cons s_var (s_cons s_var s_nil))) (s_gtup (s_gcons s_gname (s_gcons s_gname s_gnil))))
    (s_ret (s_tup (s_cons (s_callN (s_cons s_var s_nil)) (s_cons (s_callN (s_cons s_var s_nil)) (s_cons (s_fld (C := 26) (f := 6) rfl T.c_Maker T.n_Maker_products s_var) s_nil)))))))))
theorem sc_cut_at : FnScope ["table", "tree", "place", "maker", "part", "first", "second"] ["table", "tree", "place"] (defScope (topS 19)) := ⟨rfl, rfl, rfl, by decide +kernel, rfl, by decide +kernel, by decide +kernel⟩
theorem body_cut_at {k : Nat} {Φ : Nat → DSpec} (T : Tx w K mg ad fu ca) (F_Maker_init : FnOk P w K mg base CX0 (2 * k) (ad 2500) (fu 2500) ["self", "table"] (spN (cc K ca) (Φ 2500))) (F_Maker_cut : FnOk P w K mg base CX0 (2 * k) (ad 2507) (fu 2507) ["self", "part", "place"] (spN (cc K ca) (Φ 2507))) (F_part_of : FnOk P w K mg base CX0 (2 * k) (ad 13) (fu 13) ["tree"] (spN (cc K ca) (Φ 13))) (F_tree_of : FnOk P w K mg base CX0 (2 * k) (ad 14) (fu 14) ["part"] (spN (cc K ca) (Φ 14))) : BodyX P w K mg base (2 * k + 1) "cut_at" (topS 19) (ad 19) ["table", "tree", "place", "maker", "part", "first", "second"] (t_cut_at K ca Φ) := by
  intro cdv R out s Hh E ro
  have nd := sc_cut_at.nd
  have hu := ro.units0
  have hu65 : R.units + 3 + 65 < cLine := by have := ro.un; show R.units + 3 + 65 < cLine; have e : (R.deeper (envOfC "cut_at" (defScope (topS 19)) s.heap.objs.size (ad 19) cdv)).units = R.units + 3 := rfl; rw [e] at this; omega
  unfold t_cut_at
  exact (pss_cons (ps_set (i := 3) nd rfl (by first | exact Or.inl rfl | exact Or.inr rfl) (pe_make T.mk_Maker F_Maker_init (ro.mono (by omega)) (by rfl) T.gc_Maker T.bi_Maker_init .nil pass0 (pa_cons (pv 0) pa_nil)))
    (pss_cons (ps_set (i := 4) nd rfl (by first | exact Or.inl rfl | exact Or.inr rfl) (pe_callP T.d_part_of F_part_of (ro.mono (by omega)) pass0 (pa_cons (pv 1) pa_nil)))
    (pss_cons (ps_if (pt_not (pt_chain op_le op_le pe_int (pv 2) (pe_fld (pv 4) rfl))) (pss_one (ps_raise rfl (takes_of rfl rfl rfl rfl) (pmk_own PySem.F.excBase_ValueError T.x_NotAllowed T.gc_NotAllowed T.k_NotAllowed (raises_own T.bb_NotAllowed T.ty_NotAllowed) (by exact rfl)))) pss_nil)
    (pss_cons (ps_asg (pe_meth (pv 3) T.c_Maker T.m_Maker_cut F_Maker_cut (ro.mono (by omega)) T.bi_Maker_cut .nil pass0 (pa_cons (pv 4) (pa_cons (pv 2) pa_nil))) (pg_tup rfl (pgs_cons (pg_name (i := 5) nd rfl (by first | exact Or.inl rfl | exact Or.inr rfl)) (pgs_cons (pg_name (i := 6) nd rfl (by first | exact Or.inl rfl | exact Or.inr rfl)) pgs_nil))))
    (pss_one (ps_ret (pe_tup (pa_cons (pe_callP T.d_tree_of F_tree_of (ro.mono (by omega)) pass0 (pa_cons (pv 5) pa_nil)) (pa_cons (pe_callP T.d_tree_of F_tree_of (ro.mono (by omega)) pass0 (pa_cons (pv 6) pa_nil)) (pa_cons (pe_fld (pv 3) rfl) pa_nil))))))))))
/-! judge_part : slots 0=table 1=tree 2=first 3=second -/
def t_judge_part (K : PySem.W.Frag) (ca : Nat → Addr) (Φ : Nat → DSpec) : XK → TS := fun E =>
  (tSeq (tIfS (tB (rCallG (spN (cc K ca) (Φ 10)) E0 (tCons (tVar 1) tNil))) (tSeq (tIfS (tOr (tTest (tOp (rIn K true) (tOp (rIxT K) (tVar 1) (tC (.int 1))) (tOp (rIxT K) (tVar 0) (tC (.int 0))))) (tTest (tOp rNe (tOp (rIxT K) (tVar 1) (tC (.int 0))) (tOp (rIxT K) (tOp (rIxT K) (tVar 0) (tC (.int 1))) (tBMT (rdTupIndex K) (tOp (rIxT K) (tVar 0) (tC (.int 0))) (tCons (tOp (rIxT K) (tVar 1) (tC (.int 1))) tNil)))))) (Sf.tRaise E (ca 25)) tNext)
    (tRet (tC (.int 0)))) tNext)
    (tSeq (tPar 2 3 (tCons (rCallG (spX (cc K ca) (Φ 21)) E (tCons (tVar 0) (tCons (tOp (rIxT K) (tVar 1) (tC (.int 1))) tNil))) (tCons (rCallG (spX (cc K ca) (Φ 21)) E (tCons (tVar 0) (tCons (tOp (rIxT K) (tVar 1) (tC (.int 2))) tNil))) tNil)))
    (tSeq (tIfS (tOr (tTest (tOp rdGt (tCB rdAbs (tCons (tOp rdSub (tVar 2) (tVar 3)) tNil)) (tC (.int 1)))) (tTest (tOp rNe (tOp (rIxT K) (tVar 1) (tC (.int 0))) (rCallG (spN (cc K ca) (Φ 8)) E0 (tCons (tVar 0) (tCons (tOp (rIxT K) (tOp (rIxT K) (tVar 1) (tC (.int 1))) (tC (.int 0))) (tCons (tOp (rIxT K) (tOp (rIxT K) (tVar 1) (tC (.int 2))) (tC (.int 0))) tNil))))))) (Sf.tRaise E (ca 25)) tNext)
    (tRet (tOp rdAdd (tC (.int 1)) (tCB rdMax2 (tCons (tVar 2) (tCons (tVar 3) tNil))))))))
theorem snd_judge_part (T : Tx w K mg ad fu ca) (Φ : Nat → DSpec) (E : XK) : SS (cc K ca) (wX E) (t_judge_part K ca Φ E) (d_judge_part Φ) := by
  unfold t_judge_part d_judge_part
  exact (s_seq (s_ifS (s_B (s_callN (s_cons s_var s_nil))) (s_seq (s_ifS (s_or (s_test (s_op (so_in true) (s_op so_ixT s_var (s_c fun _ _ => .int _)) (s_op so_ixT s_var (s_c fun _ _ => .int _)))) (s_test (s_op so_ne (s_op so_ixT s_var (s_c fun _ _ => .int _)) (s_op so_ixT (s_op so_ixT s_var (s_c fun _ _ => .int _)) (s_ixT (s_op so_ixT s_var (s_c fun _ _ => .int _)) (s_cons (s_op so_ixT s_var (s_c fun _ _ => .int _)) s_nil)))))) s_raise s_next)
    (s_ret (s_c fun _ _ => .int _))) s_next)
    (s_seq (s_par (s_cons (s_call (s_cons s_var (s_cons (s_op so_ixT s_var (s_c fun _ _ => .int _)) s_nil))) (s_cons (s_call (s_cons s_var (s_cons (s_op so_ixT s_var (s_c fun _ _ => .int _)) s_nil))) s_nil)))
    (s_seq (s_ifS (s_or (s_test (s_op so_gt (s_b so_abs (s_cons (s_op so_sub s_var s_var) s_nil)) (s_c fun _ _ => .int _))) (s_test (s_op so_ne (s_op so_ixT s_var (s_c fun _ _ => .int _)) (s_callN (s_cons s_var (s_cons (s_op so_ixT (s_op so_ixT s_var (s_c fun _ _ => .int _)) (s_c fun _ _ => .int _)) (s_cons (s_op so_ixT (s_op so_ixT s_var (s_c fun _ _ => .int _)) (s_c fun _ _ => .int _)) s_nil))))))) s_raise s_next)
    (s_ret (s_op so_add (s_c fun _ _ => .int _) (s_b so_max2 (s_cons s_var (s_cons s_var s_nil))))))))
theorem sc_judge_part : FnScope ["table", "tree", "first", "second"] ["table", "tree"] (defScope (topS 21)) := ⟨rfl, rfl, rfl, by decide +kernel, rfl, by decide +kernel, by decide +kernel⟩
theorem body_judge_part {k : Nat} {Φ : Nat → DSpec} (T : Tx w K mg ad fu ca) (F_is_leaf : FnOk P w K mg base CX0 (2 * k) (ad 10) (fu 10) ["tree"] (spN (cc K ca) (Φ 10))) (F_judge_part : FnOk P w K mg base (L2.CX P w) (2 * k) (ad 21) (fu 21) ["table", "tree"] (spX (cc K ca) (Φ 21))) (F_times : FnOk P w K mg base CX0 (2 * k) (ad 8) (fu 8) ["table", "first", "second"] (spN (cc K ca) (Φ 8))) : BodyX P w K mg base (2 * k + 1) "judge_part" (topS 21) (ad 21) ["table", "tree", "first", "second"] (t_judge_part K ca Φ) := by
  intro cdv R out s Hh E ro
  have nd := sc_judge_part.nd
  have hu := ro.units0
  have hu65 : R.units + 3 + 65 < cLine := by have := ro.un; show R.units + 3 + 65 < cLine; have e : (R.deeper (envOfC "judge_part" (defScope (topS 21)) s.heap.objs.size (ad 21) cdv)).units = R.units + 3 := rfl; rw [e] at this; omega
  unfold t_judge_part
  exact (pss_cons (ps_if (pt_val (pe_callP T.d_is_leaf F_is_leaf (ro.mono (by omega)) pass0 (pa_cons (pv 1) pa_nil))) (pss_cons (ps_if (PW.pt (pw_or (pt_cmpR op_notIn_seq (pe_ix ix_tup (pv 1) pe_int (fun _ _ => rfl)) (pe_ix ix_tup (pv 0) pe_int (fun _ _ => rfl)) (by rfl)) (pw_or1 (pt_cmpR op_ne (pe_ix ix_tup (pv 1) pe_int (fun _ _ => rfl)) (pe_ix ix_tup (pe_ix ix_tup (pv 0) pe_int (fun _ _ => rfl)) (pe_bmT PySem.F.plainAttrs_tuple PySem.F.slot_tuple_index PySem.F.type_tuple_index mt_tup_index (pe_ix ix_tup (pv 0) pe_int (fun _ _ => rfl)) (pa_cons (pe_ix ix_tup (pv 1) pe_int (fun _ _ => rfl)) pa_nil)) (fun _ _ => rfl)) (by rfl))))) (pss_one (ps_raise rfl (takes_of rfl rfl rfl rfl) (pmk_own PySem.F.excBase_ValueError T.x_BadPaper T.gc_BadPaper T.k_BadPaper (raises_own T.bb_BadPaper T.ty_BadPaper) (by exact rfl)))) pss_nil)
    (pss_one (ps_ret pe_int))) pss_nil)
    (pss_cons (ps_par (i := 2) (j := 3) rfl nd rfl rfl (by decide) rfl rfl (pa_cons (pe_callP T.d_judge_part F_judge_part (ro.mono (by omega)) (passes_call (takes_of rfl rfl rfl rfl) fun _ _ _ _ h => h) (pa_cons (pv 0) (pa_cons (pe_ix ix_tup (pv 1) pe_int (fun _ _ => rfl)) pa_nil))) (pa_cons (pe_callP T.d_judge_part F_judge_part (ro.mono (by omega)) (passes_call (takes_of rfl rfl rfl rfl) fun _ _ _ _ h => h) (pa_cons (pv 0) (pa_cons (pe_ix ix_tup (pv 1) pe_int (fun _ _ => rfl)) pa_nil))) pa_nil)) (by rfl))
    (pss_cons (ps_if (PW.pt (pw_or (pt_cmpR op_gt (pe_callB call_abs (by rfl) T.b_abs (by decide +kernel) (pa_cons (pe_op op_sub (pv 2) (pv 3)) pa_nil)) pe_int (by rfl)) (pw_or1 (pt_cmpR op_ne (pe_ix ix_tup (pv 1) pe_int (fun _ _ => rfl)) (pe_callP T.d_times F_times (ro.mono (by omega)) pass0 (pa_cons (pv 0) (pa_cons (pe_ix ix_tup (pe_ix ix_tup (pv 1) pe_int (fun _ _ => rfl)) pe_int (fun _ _ => rfl)) (pa_cons (pe_ix ix_tup (pe_ix ix_tup (pv 1) pe_int (fun _ _ => rfl)) pe_int (fun _ _ => rfl)) pa_nil)))) (by rfl))))) (pss_one (ps_raise rfl (takes_of rfl rfl rfl rfl) (pmk_own PySem.F.excBase_ValueError T.x_BadPaper T.gc_BadPaper T.k_BadPaper (raises_own T.bb_BadPaper T.ty_BadPaper) (by exact rfl)))) pss_nil)
    (pss_one (ps_ret (pe_op op_add pe_int (pe_callB (call_max2 rfl) (by rfl) T.b_max (by decide +kernel) (pa_cons (pv 2) (pa_cons (pv 3) pa_nil)))))))))
/-! judge_tree : slots 0=table 1=log 2=tree 3=leaf -/
def t_judge_tree (K : PySem.W.Frag) (ca : Nat → Addr) (Φ : Nat → DSpec) : XK → TS := fun E =>
  (tSeq (tIfS (tTest (tOp (rNeD K) (tLc (iList K (rCallG (spN (cc K ca) (Φ 16)) E0 (tCons (tVar 2) tNil))) (gName 3) tYes (tOp (rIxT K) (tVar 3) (tC (.int 1))) [3]) (tCB (rdList K) (tCons (tVar 1) tNil)))) (Sf.tRaise E (ca 25)) tNext)
    (tDrop (rCallG (spX (cc K ca) (Φ 21)) E (tCons (tVar 0) (tCons (tVar 2) tNil)))))
theorem snd_judge_tree (T : Tx w K mg ad fu ca) (Φ : Nat → DSpec) (E : XK) : SS (cc K ca) (wX E) (t_judge_tree K ca Φ E) (d_judge_tree Φ) := by
  unfold t_judge_tree d_judge_tree
  exact (s_seq (s_ifS (s_test (s_op so_neD (s_lc0 (s_iL (s_callN (s_cons s_var s_nil))) s_gname (wp_name (by decide)) (s_op so_ixT s_var (s_c fun _ _ => .int _))) (s_b so_list (s_cons s_var s_nil)))) s_raise s_next)
    (s_drop (s_call (s_cons s_var (s_cons s_var s_nil)))))
theorem sc_judge_tree : FnScope ["table", "log", "tree", "leaf"] ["table", "log", "tree"] (defScope (topS 20)) := ⟨rfl, rfl, rfl, by decide +kernel, rfl, by decide +kernel, by decide +kernel⟩
theorem body_judge_tree {k : Nat} {Φ : Nat → DSpec} (T : Tx w K mg ad fu ca) (F_judge_part : FnOk P w K mg base (L2.CX P w) (2 * k) (ad 21) (fu 21) ["table", "tree"] (spX (cc K ca) (Φ 21))) (F_leaves_of : FnOk P w K mg base CX0 (2 * k) (ad 16) (fu 16) ["tree"] (spN (cc K ca) (Φ 16))) : BodyX P w K mg base (2 * k + 1) "judge_tree" (topS 20) (ad 20) ["table", "log", "tree", "leaf"] (t_judge_tree K ca Φ) := by
  intro cdv R out s Hh E ro
  have nd := sc_judge_tree.nd
  have hu := ro.units0
  have hu65 : R.units + 3 + 65 < cLine := by have := ro.un; show R.units + 3 + 65 < cLine; have e : (R.deeper (envOfC "judge_tree" (defScope (topS 20)) s.heap.objs.size (ad 20) cdv)).units = R.units + 3 := rfl; rw [e] at this; omega
  unfold t_judge_tree
  exact (pss_cons (ps_if (pt_cmpR (op_neD (hu64 ro)) (pe_lc (own := [("leaf", 3)]) rfl nd (pi_list (pe_callP T.d_leaves_of F_leaves_of (ro.mono (by omega)) pass0 (pa_cons (pv 2) pa_nil))) (blkOk_by (own := [("leaf", 3)]) (N := ["table", "log", "tree", "leaf"]) (sc := defScope (topS 20)) (by decide +kernel)) (fun _ _ _ _ _ => (pg_name (i := 3) nd rfl (by first | exact Or.inl rfl | exact Or.inr rfl))) (fun _ _ _ _ _ => pts_nil) (fun _ _ _ _ _ => (pe_ix ix_tup (pv 3) pe_int (fun _ _ => rfl)))) (pe_callTy call_list_of (by rfl) T.b_list (by decide +kernel) (pa_cons (pv 1) pa_nil)) (by rfl)) (pss_one (ps_raise rfl (takes_of rfl rfl rfl rfl) (pmk_own PySem.F.excBase_ValueError T.x_BadPaper T.gc_BadPaper T.k_BadPaper (raises_own T.bb_BadPaper T.ty_BadPaper) (by exact rfl)))) pss_nil)
    (pss_one (ps_expr (pe_callP T.d_judge_part F_judge_part (ro.mono (by omega)) (passes_call (takes_of rfl rfl rfl rfl) fun _ _ _ _ h => h) (pa_cons (pv 0) (pa_cons (pv 2) pa_nil))))))
/-! _law_stream : slots 0=script 1=numbers 2=cell 3=rest 4=k 5=mixed -/
def t_law_stream (K : PySem.W.Frag) (ca : Nat → Addr) (Φ : Nat → DSpec) : TS := 
  (tSeq (tAsg (tLst tNil) (gName 1))
    (tSeq (tFor (iList K (L2.tSl (rSlL K) (tVar 0) tNoPart (tPart (tC (.int 63))))) (gName 2)
    (tSeq (tAsg (tCB rdAbs (tCons (tCB rdInt (tCons (tVar 2) tNil)) tNil)) (gName 3))
    (tIfS (tTest (tOp rdGe (tVar 3) (tOp rdPow (tC (.int 10)) (tC (.int 18))))) (tFor (iRng1 (tCons (tC (.int 60)) tNil)) (gName 4)
    (tSeq (tDrop (tBM K "list" rAppend (tVar 1) (tCons (tOp rdMod (tCB rdInt (tCons (tVar 3) tNil)) (tC (.int 1009))) tNil)))
    (tSeq (tAsg (tOp rdDiv (tVar 3) (tC (.int 1009))) (gName 3))
    (tIfS (tTest (tOp rEq (tVar 3) (tC (.int 0)))) tBreak tNext)))) (tSeq (tAsg (tOp rdMod (tCB rdInt (tCons (tVar 3) tNil)) (tC (.int 2147483647))) (gName 5))
    (tFor (iRng1 (tCons (tC (.int 10)) tNil)) (gName 4)
    (tSeq (tAsg (tOp rdMod (tCB rdInt (tCons (tOp rdAdd (tOp rdAdd (tOp rdMul (tVar 5) (tC (.int 48271))) (tOp rdMul (tC (.int 7)) (tVar 4))) (tC (.int 11))) tNil)) (tC (.int 2147483647))) (gName 5))
    (tDrop (tBM K "list" rAppend (tVar 1) (tCons (tOp rdMod (tOp rdMod (tCB rdInt (tCons (tOp rdAdd (tOp rdMul (tVar 5) (tC (.int 69621))) (tVar 4)) tNil)) (tC (.int 2147483629))) (tC (.int 1009))) tNil)))))))))
    (tSeq (tIfS (tTest (tOp rEq (tCB (rdLen K) (tCons (tVar 1) tNil)) (tC (.int 0)))) (tDrop (tBM K "list" rAppend (tVar 1) (tCons (tC (.int 0)) tNil))) tNext)
    (tRet (tVar 1)))))
theorem snd_law_stream (T : Tx w K mg ad fu ca) (Φ : Nat → DSpec) : SS (cc K ca) noW (t_law_stream K ca Φ) (d_law_stream Φ) := by
  unfold t_law_stream d_law_stream
  exact (s_seq (s_asg (s_lst s_nil) s_gname)
    (s_seq (s_for (s_iL (s_sl so_slL s_var s_nop (s_part (s_c fun _ _ => .int _)))) s_gname
    (s_seq (s_asg (s_b so_abs (s_cons (s_b so_int (s_cons s_var s_nil)) s_nil)) s_gname)
    (s_ifS (s_test (s_op so_ge s_var (s_op so_pow (s_c fun _ _ => .int _) (s_c fun _ _ => .int _)))) (s_for (s_iR1 (s_cons (s_c fun _ _ => .int _) s_nil)) s_gname
    (s_seq (s_drop (s_m so_append s_var (s_cons (s_op so_mod (s_b so_int (s_cons s_var s_nil)) (s_c fun _ _ => .int _)) s_nil)))
    (s_seq (s_asg (s_op so_div s_var (s_c fun _ _ => .int _)) s_gname)
    (s_ifS (s_test (s_op so_eq s_var (s_c fun _ _ => .int _))) s_break s_next)))) (s_seq (s_asg (s_op so_mod (s_b so_int (s_cons s_var s_nil)) (s_c fun _ _ => .int _)) s_gname)
    (s_for (s_iR1 (s_cons (s_c fun _ _ => .int _) s_nil)) s_gname
    (s_seq (s_asg (s_op so_mod (s_b so_int (s_cons (s_op so_add (s_op so_add (s_op so_mul s_var (s_c fun _ _ => .int _)) (s_op so_mul (s_c fun _ _ => .int _) s_var)) (s_c fun _ _ => .int _)) s_nil)) (s_c fun _ _ => .int _)) s_gname)
    (s_drop (s_m so_append s_var (s_cons (s_op so_mod (s_op so_mod (s_b so_int (s_cons (s_op so_add (s_op so_mul s_var (s_c fun _ _ => .int _)) s_var) s_nil)) (s_c fun _ _ => .int _)) (s_c fun _ _ => .int _)) s_nil)))))))))
    (s_seq (s_ifS (s_test (s_op so_eq (s_b so_len (s_cons s_var s_nil)) (s_c fun _ _ => .int _))) (s_drop (s_m so_append s_var (s_cons (s_c fun _ _ => .int _) s_nil))) s_next)
    (s_ret s_var))))
theorem sc_law_stream : FnScope ["script", "numbers", "cell", "rest", "k", "mixed"] ["script"] (defScope (topS 23)) := ⟨rfl, rfl, rfl, by decide +kernel, rfl, by decide +kernel, by decide +kernel⟩
theorem body_law_stream {k : Nat} {Φ : Nat → DSpec} (T : Tx w K mg ad fu ca) : Body P w K mg base (2 * k + 1) "_law_stream" (topS 23) (ad 23) ["script", "numbers", "cell", "rest", "k", "mixed"] (t_law_stream K ca Φ) := by
  intro cdv R out s Hh E gd ro
  have nd := sc_law_stream.nd
  have hu := ro.units0
  have hu65 : R.units + 3 + 65 < cLine := by have := ro.un; show R.units + 3 + 65 < cLine; have e : (R.deeper (envOfC "_law_stream" (defScope (topS 23)) s.heap.objs.size (ad 23) cdv)).units = R.units + 3 := rfl; rw [e] at this; omega
  unfold t_law_stream
  exact (pss_cons (ps_set (i := 1) nd rfl (by first | exact Or.inl rfl | exact Or.inr rfl) (pe_lst pa_nil))
    (pss_cons (ps_for PassesOwn.never rfl (pi_list (pe_slice sl_list (pv 0) po_none (po_some pe_int))) (pg_name (i := 2) nd rfl (by first | exact Or.inl rfl | exact Or.inr rfl))
    (pss_cons (ps_set (i := 3) nd rfl (by first | exact Or.inl rfl | exact Or.inr rfl) (pe_callB call_abs (by rfl) T.b_abs (by decide +kernel) (pa_cons (pe_callTy call_int1 (by rfl) T.b_int (by decide +kernel) (pa_cons (pv 2) pa_nil)) pa_nil)))
    (pss_one (ps_if (pt_cmpR op_ge (pv 3) (pe_op op_pow pe_int pe_int) (by rfl)) (pss_one (ps_for PassesOwn.never rfl (pi_range1 (by rfl) T.b_range (pa_cons pe_int pa_nil)) (pg_name (i := 4) nd rfl (by first | exact Or.inl rfl | exact Or.inr rfl))
    (pss_cons (ps_expr (pe_bm PySem.F.plainAttrs_list PySem.F.slot_list_append PySem.F.type_list_append mt_append (pv 1) (pa_cons (pe_op op_mod (pe_callTy call_int1 (by rfl) T.b_int (by decide +kernel) (pa_cons (pv 3) pa_nil)) pe_int) pa_nil)))
    (pss_cons (ps_set (i := 3) nd rfl (by first | exact Or.inl rfl | exact Or.inr rfl) (pe_op op_fdiv (pv 3) pe_int))
    (pss_one (ps_if (pt_cmpR op_eq (pv 3) pe_int (by rfl)) (pss_one ps_break) pss_nil)))))) (pss_cons (ps_set (i := 5) nd rfl (by first | exact Or.inl rfl | exact Or.inr rfl) (pe_op op_mod (pe_callTy call_int1 (by rfl) T.b_int (by decide +kernel) (pa_cons (pv 3) pa_nil)) pe_int))
    (pss_one (ps_for PassesOwn.never rfl (pi_range1 (by rfl) T.b_range (pa_cons pe_int pa_nil)) (pg_name (i := 4) nd rfl (by first | exact Or.inl rfl | exact Or.inr rfl))
    (pss_cons (ps_set (i := 5) nd rfl (by first | exact Or.inl rfl | exact Or.inr rfl) (pe_op op_mod (pe_callTy call_int1 (by rfl) T.b_int (by decide +kernel) (pa_cons (pe_op op_add (pe_op op_add (pe_op op_mul (pv 5) pe_int) (pe_op op_mul pe_int (pv 4))) pe_int) pa_nil)) pe_int))
    (pss_one (ps_expr (pe_bm PySem.F.plainAttrs_list PySem.F.slot_list_append PySem.F.type_list_append mt_append (pv 1) (pa_cons (pe_op op_mod (pe_op op_mod (pe_callTy call_int1 (by rfl) T.b_int (by decide +kernel) (pa_cons (pe_op op_add (pe_op op_mul (pv 5) pe_int) (pv 4)) pa_nil)) pe_int) pe_int) pa_nil))))))))))))
    (pss_cons (ps_if (pt_cmpR op_eq (pe_callB call_len_seq (by rfl) T.b_len (by decide +kernel) (pa_cons (pv 1) pa_nil)) pe_int (by rfl)) (pss_one (ps_expr (pe_bm PySem.F.plainAttrs_list PySem.F.slot_list_append PySem.F.type_list_append mt_append (pv 1) (pa_cons pe_int pa_nil)))) pss_nil)
    (pss_one (ps_ret (pv 1))))))
/-! _law_same : slots 0=told 1=due -/
def t_law_same (K : PySem.W.Frag) (ca : Nat → Addr) (Φ : Nat → DSpec) : TS := 
  (tRet (tOp rEq (tCB (rReprD K) (tCons (tLst (tCons (tVar 0) tNil)) tNil)) (tCB (rReprD K) (tCons (tLst (tCons (tVar 1) tNil)) tNil))))
theorem snd_law_same (T : Tx w K mg ad fu ca) (Φ : Nat → DSpec) : SS (cc K ca) noW (t_law_same K ca Φ) (d_law_same Φ) := by
  unfold t_law_same d_law_same
  exact (s_ret (s_op so_eq (s_b so_repr (s_cons (s_lst (s_cons s_var s_nil)) s_nil)) (s_b so_repr (s_cons (s_lst (s_cons s_var s_nil)) s_nil))))
theorem sc_law_same : FnScope ["told", "due"] ["told", "due"] (defScope (topS 25)) := ⟨rfl, rfl, rfl, by decide +kernel, rfl, by decide +kernel, by decide +kernel⟩
theorem body_law_same {k : Nat} {Φ : Nat → DSpec} (T : Tx w K mg ad fu ca) : Body P w K mg base (2 * k + 1) "_law_same" (topS 25) (ad 25) ["told", "due"] (t_law_same K ca Φ) := by
  intro cdv R out s Hh E gd ro
  have nd := sc_law_same.nd
  have hu := ro.units0
  have hu65 : R.units + 3 + 65 < cLine := by have := ro.un; show R.units + 3 + 65 < cLine; have e : (R.deeper (envOfC "_law_same" (defScope (topS 25)) s.heap.objs.size (ad 25) cdv)).units = R.units + 3 := rfl; rw [e] at this; omega
  unfold t_law_same
  exact (pss_one (ps_ret (pe_cmpR op_eq (pe_callB (call_reprD gd (hu64 ro)) (by rfl) T.b_repr (by decide +kernel) (pa_cons (pe_lst (pa_cons (pv 0) pa_nil)) pa_nil)) (pe_callB (call_reprD gd (hu64 ro)) (by rfl) T.b_repr (by decide +kernel) (pa_cons (pe_lst (pa_cons (pv 1) pa_nil)) pa_nil)) (by rfl))))
/-! _law_word : slots 0=state 1=taken 2=word 3=k -/
def t_law_word (K : PySem.W.Frag) (ca : Nat → Addr) (Φ : Nat → DSpec) : TS := 
  (tSeq (tAsg (tC (.str "")) (gName 2))
    (tSeq (tFor (iRng1 (tCons (tOp (rIxL K) (tLst (tCons (tC (.int 1)) (tCons (tC (.int 2)) (tCons (tOp rdAdd (tC (.int 1)) (rCallG (spN (cc K ca) (Φ 24)) E0 (tCons (tVar 0) (tCons (tC (.int 8)) tNil)))) tNil)))) (rCallG (spN (cc K ca) (Φ 24)) E0 (tCons (tVar 0) (tCons (tC (.int 3)) tNil)))) tNil)) (gName 3)
    (tAsg (tOp rdAddS (tVar 2) (tOp rIxS (tC (.str "abyz")) (rCallG (spN (cc K ca) (Φ 24)) E0 (tCons (tVar 0) (tCons (tC (.int 4)) tNil))))) (gName 2)))
    (tSeq (tIfS (tTest (tOp (rIn K false) (tVar 2) (tVar 1))) (tRet (tOp rdAddS (tC (.str "c")) (tOp rIxS (tC (.str "abcdefghijklmnopqrstuvwxyz")) (tCB (rdLen K) (tCons (tVar 1) tNil))))) tNext)
    (tRet (tVar 2)))))
theorem snd_law_word (T : Tx w K mg ad fu ca) (Φ : Nat → DSpec) : SS (cc K ca) noW (t_law_word K ca Φ) (d_law_word Φ) := by
  unfold t_law_word d_law_word
  exact (s_seq (s_asg (s_c fun _ _ => .str _) s_gname)
    (s_seq (s_for (s_iR1 (s_cons (s_op so_ixL (s_lst (s_cons (s_c fun _ _ => .int _) (s_cons (s_c fun _ _ => .int _) (s_cons (s_op so_add (s_c fun _ _ => .int _) (s_callN (s_cons s_var (s_cons (s_c fun _ _ => .int _) s_nil)))) s_nil)))) (s_callN (s_cons s_var (s_cons (s_c fun _ _ => .int _) s_nil)))) s_nil)) s_gname
    (s_asg (s_op so_addS s_var (s_op so_ixS (s_c fun _ _ => .str _) (s_callN (s_cons s_var (s_cons (s_c fun _ _ => .int _) s_nil))))) s_gname))
    (s_seq (s_ifS (s_test (s_op (so_in false) s_var s_var)) (s_ret (s_op so_addS (s_c fun _ _ => .str _) (s_op so_ixS (s_c fun _ _ => .str _) (s_b so_len (s_cons s_var s_nil))))) s_next)
    (s_ret s_var))))
theorem sc_law_word : FnScope ["state", "taken", "word", "k"] ["state", "taken"] (defScope (topS 26)) := ⟨rfl, rfl, rfl, by decide +kernel, rfl, by decide +kernel, by decide +kernel⟩
theorem body_law_word {k : Nat} {Φ : Nat → DSpec} (T : Tx w K mg ad fu ca) (G_law_next : FnG P w K mg base CX0 (2 * k) (ad 24) (fu 24) ["state", "many"] (spN (cc K ca) (Φ 24))) : Body P w K mg base (2 * k + 1) "_law_word" (topS 26) (ad 26) ["state", "taken", "word", "k"] (t_law_word K ca Φ) := by
  intro cdv R out s Hh E gd ro
  have nd := sc_law_word.nd
  have hu := ro.units0
  have hu65 : R.units + 3 + 65 < cLine := by have := ro.un; show R.units + 3 + 65 < cLine; have e : (R.deeper (envOfC "_law_word" (defScope (topS 26)) s.heap.objs.size (ad 26) cdv)).units = R.units + 3 := rfl; rw [e] at this; omega
  unfold t_law_word
  exact (pss_cons (ps_set (i := 2) nd rfl (by first | exact Or.inl rfl | exact Or.inr rfl) pe_str)
    (pss_cons (ps_for PassesOwn.never rfl (pi_range1 (by rfl) T.b_range (pa_cons (pe_ix ix_list (pe_lst (pa_cons pe_int (pa_cons pe_int (pa_cons (pe_op op_add pe_int (pe_callG T.d_law_next G_law_next gd (ro.mono (by omega)) pass0 (pa_cons (pv 0) (pa_cons pe_int pa_nil)))) pa_nil)))) (pe_callG T.d_law_next G_law_next gd (ro.mono (by omega)) pass0 (pa_cons (pv 0) (pa_cons pe_int pa_nil))) (fun _ _ => rfl)) pa_nil)) (pg_name (i := 3) nd rfl (by first | exact Or.inl rfl | exact Or.inr rfl))
    (pss_one (ps_set (i := 2) nd rfl (by first | exact Or.inl rfl | exact Or.inr rfl) (pe_op op_add_str (pv 2) (pe_ix ix_str pe_str (pe_callG T.d_law_next G_law_next gd (ro.mono (by omega)) pass0 (pa_cons (pv 0) (pa_cons pe_int pa_nil))) (fun _ _ => rfl))))))
    (pss_cons (ps_if (pt_cmpR op_in_seq (pv 2) (pv 1) (by rfl)) (pss_one (ps_ret (pe_op op_add_str pe_str (pe_ix ix_str pe_str (pe_callB call_len_seq (by rfl) T.b_len (by decide +kernel) (pa_cons (pv 1) pa_nil)) (fun _ _ => rfl))))) pss_nil)
    (pss_one (ps_ret (pv 2))))))
/-! _law_map : slots 0=state 1=rooms 2=kind 3=one 4=other 5=turn 6=k -/
def t_law_map (K : PySem.W.Frag) (ca : Nat → Addr) (Φ : Nat → DSpec) : TS := 
  (tSeq (tIfS (tTest (tOp rEq (tVar 2) (tC (.int 0)))) (tRet (tCB (rdTuple K) (tCons (tLc (iRng1 (tCons (tVar 1) tNil)) (gName 6) tYes (rCallG (spN (cc K ca) (Φ 24)) E0 (tCons (tVar 0) (tCons (tVar 1) tNil))) [6]) tNil))) tNext)
    (tSeq (tIfS (tTest (tOp rEq (tVar 2) (tC (.int 1)))) (tRet (tCB (rdTuple K) (tCons (tCB (rSortedI K) (tCons (tLc (iRng1 (tCons (tVar 1) tNil)) (gName 6) tYes (rCallG (spN (cc K ca) (Φ 24)) E0 (tCons (tVar 0) (tCons (tVar 1) tNil))) [6]) tNil)) tNil))) tNext)
    (tSeq (tIfS (tTest (tOp rEq (tVar 2) (tC (.int 2)))) (tSeq (tAsg (rCallG (spN (cc K ca) (Φ 24)) E0 (tCons (tVar 0) (tCons (tVar 1) tNil))) (gName 5))
    (tRet (tCB (rdTuple K) (tCons (tLc (iRng1 (tCons (tVar 1) tNil)) (gName 6) tYes (tOp rdMod (tCB rdInt (tCons (tOp rdAdd (tVar 6) (tVar 5)) tNil)) (tVar 1)) [6]) tNil)))) tNext)
    (tSeq (tIfS (tTest (tOp rEq (tVar 2) (tC (.int 3)))) (tRet (tOp (rRepT K) (tTup (tCons (rCallG (spN (cc K ca) (Φ 24)) E0 (tCons (tVar 0) (tCons (tVar 1) tNil))) tNil)) (tVar 1))) tNext)
    (tSeq (tIfS (tTest (tOp rEq (tVar 2) (tC (.int 4)))) (tRet (tCB (rdTuple K) (tCons (tLc (iRng1 (tCons (tVar 1) tNil)) (gName 6) tYes (tCB rdMin2 (tCons (tOp rdSub (tVar 1) (tC (.int 1))) (tCons (tOp rdAdd (tOp rdAdd (tVar 6) (tC (.int 1))) (rCallG (spN (cc K ca) (Φ 24)) E0 (tCons (tVar 0) (tCons (tC (.int 2)) tNil)))) tNil))) [6]) tNil))) tNext)
    (tSeq (tAsg (rCallG (spN (cc K ca) (Φ 24)) E0 (tCons (tVar 0) (tCons (tOp rdSub (tVar 1) (tC (.int 1))) tNil))) (gName 3))
    (tSeq (tAsg (rCallG (spN (cc K ca) (Φ 24)) E0 (tCons (tVar 0) (tCons (tOp rdSub (tVar 1) (tC (.int 1))) tNil))) (gName 4))
    (tRet (tCB (rdTuple K) (tCons (tLc (iRng1 (tCons (tVar 1) tNil)) (gName 6) tYes (tOp (rIxL K) (tLst (tCons (tOp rdSub (tVar 1) (tC (.int 1))) (tCons (tVar 4) tNil))) (tCB rdInt (tCons (tOp rEq (tVar 6) (tVar 3)) tNil))) [6]) tNil))))))))))
theorem snd_law_map (T : Tx w K mg ad fu ca) (Φ : Nat → DSpec) : SS (cc K ca) noW (t_law_map K ca Φ) (d_law_map Φ) := by
  unfold t_law_map d_law_map
  exact (s_seq (s_ifS (s_test (s_op so_eq s_var (s_c fun _ _ => .int _))) (s_ret (s_b so_tuple (s_cons (s_lc0 (s_iR1 (s_cons s_var s_nil)) s_gname (wp_name (by decide)) (s_callN (s_cons s_var (s_cons s_var s_nil)))) s_nil))) s_next)
    (s_seq (s_ifS (s_test (s_op so_eq s_var (s_c fun _ _ => .int _))) (s_ret (s_b so_tuple (s_cons (s_b so_sorted (s_cons (s_lc0 (s_iR1 (s_cons s_var s_nil)) s_gname (wp_name (by decide)) (s_callN (s_cons s_var (s_cons s_var s_nil)))) s_nil)) s_nil))) s_next)
    (s_seq (s_ifS (s_test (s_op so_eq s_var (s_c fun _ _ => .int _))) (s_seq (s_asg (s_callN (s_cons s_var (s_cons s_var s_nil))) s_gname)
    (s_ret (s_b so_tuple (s_cons (s_lc0 (s_iR1 (s_cons s_var s_nil)) s_gname (wp_name (by decide)) (s_op so_mod (s_b so_int (s_cons (s_op so_add s_var s_var) s_nil)) s_var)) s_nil)))) s_next)
    (s_seq (s_ifS (s_test (s_op so_eq s_var (s_c fun _ _ => .int _))) (s_ret (s_op so_repT (s_tup (s_cons (s_callN (s_cons s_var (s_cons s_var s_nil))) s_nil)) s_var)) s_next)
    (s_seq (s_ifS (s_test (s_op so_eq s_var (s_c fun _ _ => .int _))) (s_ret (s_b so_tuple (s_cons (s_lc0 (s_iR1 (s_cons s_var s_nil)) s_gname (wp_name (by decide)) (s_b so_min2 (s_cons (s_op so_sub s_var (s_c fun _ _ => .int _)) (s_cons (s_op so_add (s_op so_add s_var (s_c fun _ _ => .int _)) (s_callN (s_cons s_var (s_cons (s_c fun _ _ => .int _) s_nil)))) s_nil)))) s_nil))) s_next)
    (s_seq (s_asg (s_callN (s_cons s_var (s_cons (s_op so_sub s_var (s_c fun _ _ => .int _)) s_nil))) s_gname)
    (s_seq (s_asg (s_callN (s_cons s_var (s_cons (s_op so_sub s_var (s_c fun _ _ => .int _)) s_nil))) s_gname)
    (s_ret (s_b so_tuple (s_cons (s_lc0 (s_iR1 (s_cons s_var s_nil)) s_gname (wp_name (by decide)) (s_op so_ixL (s_lst (s_cons (s_op so_sub s_var (s_c fun _ _ => .int _)) (s_cons s_var s_nil))) (s_b so_int (s_cons (s_op so_eq s_var s_var) s_nil)))) s_nil))))))))))
theorem sc_law_map : FnScope ["state", "rooms", "kind", "one", "other", "turn", "k"] ["state", "rooms", "kind"] (defScope (topS 28)) := ⟨rfl, rfl, rfl, by decide +kernel, rfl, by decide +kernel, by decide +kernel⟩
theorem body_law_map {k : Nat} {Φ : Nat → DSpec} (T : Tx w K mg ad fu ca) (G_law_next : FnG P w K mg base CX0 (2 * k) (ad 24) (fu 24) ["state", "many"] (spN (cc K ca) (Φ 24))) : Body P w K mg base (2 * k + 1) "_law_map" (topS 28) (ad 28) ["state", "rooms", "kind", "one", "other", "turn", "k"] (t_law_map K ca Φ) := by
  intro cdv R out s Hh E gd ro
  have nd := sc_law_map.nd
  have hu := ro.units0
  have hu65 : R.units + 3 + 65 < cLine := by have := ro.un; show R.units + 3 + 65 < cLine; have e : (R.deeper (envOfC "_law_map" (defScope (topS 28)) s.heap.objs.size (ad 28) cdv)).units = R.units + 3 := rfl; rw [e] at this; omega
  unfold t_law_map
  exact (pss_cons (ps_if (pt_cmpR op_eq (pv 2) pe_int (by rfl)) (pss_one (ps_ret (pe_callTy call_tuple_of (by rfl) T.b_tuple (by decide +kernel) (pa_cons (pe_lc (own := [("k", 6)]) rfl nd (pi_range1 (by rfl) T.b_range (pa_cons (pv 1) pa_nil)) (blkOk_by (own := [("k", 6)]) (N := ["state", "rooms", "kind", "one", "other", "turn", "k"]) (sc := defScope (topS 28)) (by decide +kernel)) (fun _ _ _ _ _ => (pg_name (i := 6) nd rfl (by first | exact Or.inl rfl | exact Or.inr rfl))) (fun _ _ _ _ _ => pts_nil) (fun _ _ _ _ _ => (pe_callG T.d_law_next G_law_next gd (ro.mono (by omega)) pass0 (pa_cons (pv 0) (pa_cons (pv 1) pa_nil))))) pa_nil)))) pss_nil)
    (pss_cons (ps_if (pt_cmpR op_eq (pv 2) pe_int (by rfl)) (pss_one (ps_ret (pe_callTy call_tuple_of (by rfl) T.b_tuple (by decide +kernel) (pa_cons (pe_callB cr_sortedI (by rfl) T.b_sorted (by decide +kernel) (pa_cons (pe_lc (own := [("k", 6)]) rfl nd (pi_range1 (by rfl) T.b_range (pa_cons (pv 1) pa_nil)) (blkOk_by (own := [("k", 6)]) (N := ["state", "rooms", "kind", "one", "other", "turn", "k"]) (sc := defScope (topS 28)) (by decide +kernel)) (fun _ _ _ _ _ => (pg_name (i := 6) nd rfl (by first | exact Or.inl rfl | exact Or.inr rfl))) (fun _ _ _ _ _ => pts_nil) (fun _ _ _ _ _ => (pe_callG T.d_law_next G_law_next gd (ro.mono (by omega)) pass0 (pa_cons (pv 0) (pa_cons (pv 1) pa_nil))))) pa_nil)) pa_nil)))) pss_nil)
    (pss_cons (ps_if (pt_cmpR op_eq (pv 2) pe_int (by rfl)) (pss_cons (ps_set (i := 5) nd rfl (by first | exact Or.inl rfl | exact Or.inr rfl) (pe_callG T.d_law_next G_law_next gd (ro.mono (by omega)) pass0 (pa_cons (pv 0) (pa_cons (pv 1) pa_nil))))
    (pss_one (ps_ret (pe_callTy call_tuple_of (by rfl) T.b_tuple (by decide +kernel) (pa_cons (pe_lc (own := [("k", 6)]) rfl nd (pi_range1 (by rfl) T.b_range (pa_cons (pv 1) pa_nil)) (blkOk_by (own := [("k", 6)]) (N := ["state", "rooms", "kind", "one", "other", "turn", "k"]) (sc := defScope (topS 28)) (by decide +kernel)) (fun _ _ _ _ _ => (pg_name (i := 6) nd rfl (by first | exact Or.inl rfl | exact Or.inr rfl))) (fun _ _ _ _ _ => pts_nil) (fun _ _ _ _ _ => (pe_op op_mod (pe_callTy call_int1 (by rfl) T.b_int (by decide +kernel) (pa_cons (pe_op op_add (pv 6) (pv 5)) pa_nil)) (pv 1)))) pa_nil))))) pss_nil)
    (pss_cons (ps_if (pt_cmpR op_eq (pv 2) pe_int (by rfl)) (pss_one (ps_ret (pe_op op_repT (pe_tup (pa_cons (pe_callG T.d_law_next G_law_next gd (ro.mono (by omega)) pass0 (pa_cons (pv 0) (pa_cons (pv 1) pa_nil))) pa_nil)) (pv 1)))) pss_nil)
    (pss_cons (ps_if (pt_cmpR op_eq (pv 2) pe_int (by rfl)) (pss_one (ps_ret (pe_callTy call_tuple_of (by rfl) T.b_tuple (by decide +kernel) (pa_cons (pe_lc (own := [("k", 6)]) rfl nd (pi_range1 (by rfl) T.b_range (pa_cons (pv 1) pa_nil)) (blkOk_by (own := [("k", 6)]) (N := ["state", "rooms", "kind", "one", "other", "turn", "k"]) (sc := defScope (topS 28)) (by decide +kernel)) (fun _ _ _ _ _ => (pg_name (i := 6) nd rfl (by first | exact Or.inl rfl | exact Or.inr rfl))) (fun _ _ _ _ _ => pts_nil) (fun _ _ _ _ _ => (pe_callB (call_min2 rfl) (by rfl) T.b_min (by decide +kernel) (pa_cons (pe_op op_sub (pv 1) pe_int) (pa_cons (pe_op op_add (pe_op op_add (pv 6) pe_int) (pe_callG T.d_law_next G_law_next gd (ro.mono (by omega)) pass0 (pa_cons (pv 0) (pa_cons pe_int pa_nil)))) pa_nil))))) pa_nil)))) pss_nil)
    (pss_cons (ps_set (i := 3) nd rfl (by first | exact Or.inl rfl | exact Or.inr rfl) (pe_callG T.d_law_next G_law_next gd (ro.mono (by omega)) pass0 (pa_cons (pv 0) (pa_cons (pe_op op_sub (pv 1) pe_int) pa_nil))))
    (pss_cons (ps_set (i := 4) nd rfl (by first | exact Or.inl rfl | exact Or.inr rfl) (pe_callG T.d_law_next G_law_next gd (ro.mono (by omega)) pass0 (pa_cons (pv 0) (pa_cons (pe_op op_sub (pv 1) pe_int) pa_nil))))
    (pss_one (ps_ret (pe_callTy call_tuple_of (by rfl) T.b_tuple (by decide +kernel) (pa_cons (pe_lc (own := [("k", 6)]) rfl nd (pi_range1 (by rfl) T.b_range (pa_cons (pv 1) pa_nil)) (blkOk_by (own := [("k", 6)]) (N := ["state", "rooms", "kind", "one", "other", "turn", "k"]) (sc := defScope (topS 28)) (by decide +kernel)) (fun _ _ _ _ _ => (pg_name (i := 6) nd rfl (by first | exact Or.inl rfl | exact Or.inr rfl))) (fun _ _ _ _ _ => pts_nil) (fun _ _ _ _ _ => (pe_ix ix_list (pe_lst (pa_cons (pe_op op_sub (pv 1) pe_int) (pa_cons (pv 4) pa_nil))) (pe_callTy call_int1 (by rfl) T.b_int (by decide +kernel) (pa_cons (pe_cmpR op_eq (pv 6) (pv 3) (by rfl)) pa_nil)) (fun _ _ => rfl)))) pa_nil)))))))))))
/-! _law_built : slots 0=letters 1=maps 2=found 3=one 4=at 5=products 6=longer 7=other 8=room -/
def t_law_built (K : PySem.W.Frag) (ca : Nat → Addr) (Φ : Nat → DSpec) : TS := 
  (tSeq (tAsg (tLst tNil) (gName 2))
    (tSeq (tFor (iList K (tVar 1)) (gName 3)
    (tIfS (tTest (tOp (rNotInD K) (tVar 3) (tVar 2))) (tDrop (tBM K "list" rAppend (tVar 2) (tCons (tVar 3) tNil))) tNext))
    (tSeq (tFor (iRng1 (tCons (tC (.int 400)) tNil)) (gName 4)
    (tIfS (tTest (tOp rdLt (tVar 4) (tCB (rdLen K) (tCons (tVar 2) tNil)))) (tFor (iList K (tVar 1)) (gName 3)
    (tSeq (tAsg (tCB (rdTuple K) (tCons (tLc (iTup K (tOp (rIxL K) (tVar 2) (tVar 4))) (gName 8) tYes (tOp (rIxT K) (tVar 3) (tVar 8)) [8]) tNil)) (gName 6))
    (tIfS (tTest (tOp (rNotInD K) (tVar 6) (tVar 2))) (tDrop (tBM K "list" rAppend (tVar 2) (tCons (tVar 6) tNil))) tNext))) tNext))
    (tSeq (tAsg (tLst tNil) (gName 5))
    (tSeq (tFor (iList K (tVar 2)) (gName 3)
    (tDrop (tBM K "list" rAppend (tVar 5) (tCons (tCB (rdTuple K) (tCons (tLc (iList K (tVar 2)) (gName 7) tYes (tBM K "list" (rIndexD K) (tVar 2) (tCons (tCB (rdTuple K) (tCons (tLc (iTup K (tVar 3)) (gName 8) tYes (tOp (rIxT K) (tVar 7) (tVar 8)) [8]) tNil)) tNil)) [7]) tNil)) tNil))))
    (tRet (tTup (tCons (tVar 0) (tCons (tCB (rdTuple K) (tCons (tLc (iList K (tVar 1)) (gName 3) tYes (tBM K "list" (rIndexD K) (tVar 2) (tCons (tVar 3) tNil)) [3]) tNil)) (tCons (tCB (rdTuple K) (tCons (tVar 5) tNil)) tNil))))))))))
theorem snd_law_built (T : Tx w K mg ad fu ca) (Φ : Nat → DSpec) : SS (cc K ca) noW (t_law_built K ca Φ) (d_law_built Φ) := by
  unfold t_law_built d_law_built
  exact (s_seq (s_asg (s_lst s_nil) s_gname)
    (s_seq (s_for (s_iL s_var) s_gname
    (s_ifS (s_test (s_op so_notInD s_var s_var)) (s_drop (s_m so_append s_var (s_cons s_var s_nil))) s_next))
    (s_seq (s_for (s_iR1 (s_cons (s_c fun _ _ => .int _) s_nil)) s_gname
    (s_ifS (s_test (s_op so_lt s_var (s_b so_len (s_cons s_var s_nil)))) (s_for (s_iL s_var) s_gname
    (s_seq (s_asg (s_b so_tuple (s_cons (s_lc0 (s_iT (s_op so_ixL s_var s_var)) s_gname (wp_name (by decide)) (s_op so_ixT s_var s_var)) s_nil)) s_gname)
    (s_ifS (s_test (s_op so_notInD s_var s_var)) (s_drop (s_m so_append s_var (s_cons s_var s_nil))) s_next))) s_next))
    (s_seq (s_asg (s_lst s_nil) s_gname)
    (s_seq (s_for (s_iL s_var) s_gname
    (s_drop (s_m so_append s_var (s_cons (s_b so_tuple (s_cons (s_lc0 (s_iL s_var) s_gname (wp_name (by decide)) (s_m so_indexD s_var (s_cons (s_b so_tuple (s_cons (s_lc0 (s_iT s_var) s_gname (wp_name (by decide)) (s_op so_ixT s_var s_var)) s_nil)) s_nil))) s_nil)) s_nil))))
    (s_ret (s_tup (s_cons s_var (s_cons (s_b so_tuple (s_cons (s_lc0 (s_iL s_var) s_gname (wp_name (by decide)) (s_m so_indexD s_var (s_cons s_var s_nil))) s_nil)) (s_cons (s_b so_tuple (s_cons s_var s_nil)) s_nil))))))))))
theorem sc_law_built : FnScope ["letters", "maps", "found", "one", "at", "products", "longer", "other", "room"] ["letters", "maps"] (defScope (topS 29)) := ⟨rfl, rfl, rfl, by decide +kernel, rfl, by decide +kernel, by decide +kernel⟩
theorem body_law_built {k : Nat} {Φ : Nat → DSpec} (T : Tx w K mg ad fu ca) : Body P w K mg base (2 * k + 1) "_law_built" (topS 29) (ad 29) ["letters", "maps", "found", "one", "at", "products", "longer", "other", "room"] (t_law_built K ca Φ) := by
  intro cdv R out s Hh E gd ro
  have nd := sc_law_built.nd
  have hu := ro.units0
  have hu65 : R.units + 3 + 65 < cLine := by have := ro.un; show R.units + 3 + 65 < cLine; have e : (R.deeper (envOfC "_law_built" (defScope (topS 29)) s.heap.objs.size (ad 29) cdv)).units = R.units + 3 := rfl; rw [e] at this; omega
  unfold t_law_built
  exact (pss_cons (ps_set (i := 2) nd rfl (by first | exact Or.inl rfl | exact Or.inr rfl) (pe_lst pa_nil))
    (pss_cons (ps_for PassesOwn.never rfl (pi_list (pv 1)) (pg_name (i := 3) nd rfl (by first | exact Or.inl rfl | exact Or.inr rfl))
    (pss_one (ps_if (pt_cmpR (op_notInD hu65) (pv 3) (pv 2) (by rfl)) (pss_one (ps_expr (pe_bm PySem.F.plainAttrs_list PySem.F.slot_list_append PySem.F.type_list_append mt_append (pv 2) (pa_cons (pv 3) pa_nil)))) pss_nil)))
    (pss_cons (ps_for PassesOwn.never rfl (pi_range1 (by rfl) T.b_range (pa_cons pe_int pa_nil)) (pg_name (i := 4) nd rfl (by first | exact Or.inl rfl | exact Or.inr rfl))
    (pss_one (ps_if (pt_cmpR op_lt (pv 4) (pe_callB call_len_seq (by rfl) T.b_len (by decide +kernel) (pa_cons (pv 2) pa_nil)) (by rfl)) (pss_one (ps_for PassesOwn.never rfl (pi_list (pv 1)) (pg_name (i := 3) nd rfl (by first | exact Or.inl rfl | exact Or.inr rfl))
    (pss_cons (ps_set (i := 6) nd rfl (by first | exact Or.inl rfl | exact Or.inr rfl) (pe_callTy call_tuple_of (by rfl) T.b_tuple (by decide +kernel) (pa_cons (pe_lc (own := [("room", 8)]) rfl nd (pi_tup (pe_ix ix_list (pv 2) (pv 4) (fun _ _ => rfl))) (blkOk_by (own := [("room", 8)]) (N := ["letters", "maps", "found", "one", "at", "products", "longer", "other", "room"]) (sc := defScope (topS 29)) (by decide +kernel)) (fun _ _ _ _ _ => (pg_name (i := 8) nd rfl (by first | exact Or.inl rfl | exact Or.inr rfl))) (fun _ _ _ _ _ => pts_nil) (fun _ _ _ _ _ => (pe_ix ix_tup (pv 3) (pv 8) (fun _ _ => rfl)))) pa_nil)))
    (pss_one (ps_if (pt_cmpR (op_notInD hu65) (pv 6) (pv 2) (by rfl)) (pss_one (ps_expr (pe_bm PySem.F.plainAttrs_list PySem.F.slot_list_append PySem.F.type_list_append mt_append (pv 2) (pa_cons (pv 6) pa_nil)))) pss_nil))))) pss_nil)))
    (pss_cons (ps_set (i := 5) nd rfl (by first | exact Or.inl rfl | exact Or.inr rfl) (pe_lst pa_nil))
    (pss_cons (ps_for PassesOwn.never rfl (pi_list (pv 2)) (pg_name (i := 3) nd rfl (by first | exact Or.inl rfl | exact Or.inr rfl))
    (pss_one (ps_expr (pe_bm PySem.F.plainAttrs_list PySem.F.slot_list_append PySem.F.type_list_append mt_append (pv 5) (pa_cons (pe_callTy call_tuple_of (by rfl) T.b_tuple (by decide +kernel) (pa_cons (pe_lc (own := [("other", 7)]) rfl nd (pi_list (pv 2)) (blkOk_by (own := [("other", 7)]) (N := ["letters", "maps", "found", "one", "at", "products", "longer", "other", "room"]) (sc := defScope (topS 29)) (by decide +kernel)) (fun _ _ _ _ _ => (pg_name (i := 7) nd rfl (by first | exact Or.inl rfl | exact Or.inr rfl))) (fun _ _ _ _ _ => pts_nil) (fun _ _ _ _ _ => (pe_bm PySem.F.plainAttrs_list PySem.F.slot_list_index PySem.F.type_list_index (mt_indexD hu65) (pv 2) (pa_cons (pe_callTy call_tuple_of (by rfl) T.b_tuple (by decide +kernel) (pa_cons (pe_lc (own := [("room", 8)]) rfl nd (pi_tup (pv 3)) (blkOk_by (own := [("room", 8)]) (by rfl)) (fun _ _ _ _ _ => (pg_name (i := 8) nd rfl (by first | exact Or.inl rfl | exact Or.inr rfl))) (fun _ _ _ _ _ => pts_nil) (fun _ _ _ _ _ => (pe_ix ix_tup (pv 7) (pv 8) (fun _ _ => rfl)))) pa_nil)) pa_nil)))) pa_nil)) pa_nil)))))
    (pss_one (ps_ret (pe_tup (pa_cons (pv 0) (pa_cons (pe_callTy call_tuple_of (by rfl) T.b_tuple (by decide +kernel) (pa_cons (pe_lc (own := [("one", 3)]) rfl nd (pi_list (pv 1)) (blkOk_by (own := [("one", 3)]) (N := ["letters", "maps", "found", "one", "at", "products", "longer", "other", "room"]) (sc := defScope (topS 29)) (by decide +kernel)) (fun _ _ _ _ _ => (pg_name (i := 3) nd rfl (by first | exact Or.inl rfl | exact Or.inr rfl))) (fun _ _ _ _ _ => pts_nil) (fun _ _ _ _ _ => (pe_bm PySem.F.plainAttrs_list PySem.F.slot_list_index PySem.F.type_list_index (mt_indexD hu65) (pv 2) (pa_cons (pv 3) pa_nil)))) pa_nil)) (pa_cons (pe_callTy call_tuple_of (by rfl) T.b_tuple (by decide +kernel) (pa_cons (pv 5) pa_nil)) pa_nil)))))))))))
/-! _law_table : slots 0=state 1=rooms 2=kinds 3=maps 4=k 5=kind -/
def t_law_table (K : PySem.W.Frag) (ca : Nat → Addr) (Φ : Nat → DSpec) : TS := 
  (tSeq (tIfS (tTest (tOp rEq (rCallG (spN (cc K ca) (Φ 24)) E0 (tCons (tVar 0) (tCons (tC (.int 7)) tNil))) (tC (.int 0)))) (tRet (rCallG (spN (cc K ca) (Φ 29)) E0 (tCons (rCallG (spN (cc K ca) (Φ 27)) E0 (tCons (tVar 0) (tCons (tC (.int 4)) tNil))) (tCons (tLc (iRng1 (tCons (tC (.int 4)) tNil)) (gName 4) tYes (rCallG (spN (cc K ca) (Φ 28)) E0 (tCons (tVar 0) (tCons (tC (.int 2)) (tCons (tC (.int 0)) tNil)))) [4]) tNil)))) tNext)
    (tSeq (tAsg (tOp (rIxL K) (tLst (tCons (tC (.int 3)) (tCons (tC (.int 3)) (tCons (tC (.int 2)) (tCons (tC (.int 4)) tNil))))) (rCallG (spN (cc K ca) (Φ 24)) E0 (tCons (tVar 0) (tCons (tC (.int 4)) tNil)))) (gName 1))
    (tSeq (tAsg (tOp (rIxL K) (tLst (tCons (tLst (tCons (tC (.int 0)) tNil)) (tCons (tLst (tCons (tC (.int 0)) (tCons (tC (.int 1)) tNil))) (tCons (tLst (tCons (tC (.int 1)) (tCons (tC (.int 3)) tNil))) (tCons (tLst (tCons (tC (.int 0)) (tCons (tC (.int 2)) tNil))) (tCons (tLst (tCons (tC (.int 2)) (tCons (tC (.int 3)) tNil))) (tCons (tLst (tCons (tC (.int 1)) (tCons (tC (.int 4)) tNil))) (tCons (tLst (tCons (tC (.int 5)) tNil)) (tCons (tLst (tCons (tC (.int 5)) (tCons (tC (.int 3)) tNil))) tNil))))))))) (rCallG (spN (cc K ca) (Φ 24)) E0 (tCons (tVar 0) (tCons (tC (.int 8)) tNil)))) (gName 2))
    (tSeq (tAsg (tLst tNil) (gName 3))
    (tSeq (tFor (iRng1 (tCons (tOp (rIxL K) (tLst (tCons (tC (.int 2)) (tCons (tC (.int 3)) (tCons (tC (.int 2)) (tCons (tC (.int 1)) tNil))))) (rCallG (spN (cc K ca) (Φ 24)) E0 (tCons (tVar 0) (tCons (tC (.int 4)) tNil)))) tNil)) (gName 4)
    (tSeq (tAsg (tOp (rIxL K) (tVar 2) (rCallG (spN (cc K ca) (Φ 24)) E0 (tCons (tVar 0) (tCons (tCB (rdLen K) (tCons (tVar 2) tNil)) tNil)))) (gName 5))
    (tDrop (tBM K "list" rAppend (tVar 3) (tCons (rCallG (spN (cc K ca) (Φ 28)) E0 (tCons (tVar 0) (tCons (tVar 1) (tCons (tOp (rIxL K) (tLst (tCons (tVar 5) (tCons (tC (.int 1)) tNil))) (tCB rdInt (tCons (tAndV (tOp rEq (tVar 5) (tC (.int 0))) (tOp rEq (tVar 1) (tC (.int 4)))) tNil))) tNil)))) tNil)))))
    (tSeq (tIfS (tAnd (tTest (tOp rEq (tVar 1) (tC (.int 4)))) (tTest (tOp (rIn K false) (tC (.int 2)) (tVar 2)))) (tAsg (L2.tSl (rSlL K) (tVar 3) tNoPart (tPart (tC (.int 1)))) (gName 3)) tNext)
    (tRet (rCallG (spN (cc K ca) (Φ 29)) E0 (tCons (rCallG (spN (cc K ca) (Φ 27)) E0 (tCons (tVar 0) (tCons (tCB (rdLen K) (tCons (tVar 3) tNil)) tNil))) (tCons (tVar 3) tNil))))))))))
theorem snd_law_table (T : Tx w K mg ad fu ca) (Φ : Nat → DSpec) : SS (cc K ca) noW (t_law_table K ca Φ) (d_law_table Φ) := by
  unfold t_law_table d_law_table
  exact (s_seq (s_ifS (s_test (s_op so_eq (s_callN (s_cons s_var (s_cons (s_c fun _ _ => .int _) s_nil))) (s_c fun _ _ => .int _))) (s_ret (s_callN (s_cons (s_callN (s_cons s_var (s_cons (s_c fun _ _ => .int _) s_nil))) (s_cons (s_lc0 (s_iR1 (s_cons (s_c fun _ _ => .int _) s_nil)) s_gname (wp_name (by decide)) (s_callN (s_cons s_var (s_cons (s_c fun _ _ => .int _) (s_cons (s_c fun _ _ => .int _) s_nil))))) s_nil)))) s_next)
    (s_seq (s_asg (s_op so_ixL (s_lst (s_cons (s_c fun _ _ => .int _) (s_cons (s_c fun _ _ => .int _) (s_cons (s_c fun _ _ => .int _) (s_cons (s_c fun _ _ => .int _) s_nil))))) (s_callN (s_cons s_var (s_cons (s_c fun _ _ => .int _) s_nil)))) s_gname)
    (s_seq (s_asg (s_op so_ixL (s_lst (s_cons (s_lst (s_cons (s_c fun _ _ => .int _) s_nil)) (s_cons (s_lst (s_cons (s_c fun _ _ => .int _) (s_cons (s_c fun _ _ => .int _) s_nil))) (s_cons (s_lst (s_cons (s_c fun _ _ => .int _) (s_cons (s_c fun _ _ => .int _) s_nil))) (s_cons (s_lst (s_cons (s_c fun _ _ => .int _) (s_cons (s_c fun _ _ => .int _) s_nil))) (s_cons (s_lst (s_cons (s_c fun _ _ => .int _) (s_cons (s_c fun _ _ => .int _) s_nil))) (s_cons (s_lst (s_cons (s_c fun _ _ => .int _) (s_cons (s_c fun _ _ => .int _) s_nil))) (s_cons (s_lst (s_cons (s_c fun _ _ => .int _) s_nil)) (s_cons (s_lst (s_cons (s_c fun _ _ => .int _) (s_cons (s_c fun _ _ => .int _) s_nil))) s_nil))))))))) (s_callN (s_cons s_var (s_cons (s_c fun _ _ => .int _) s_nil)))) s_gname)
    (s_seq (s_asg (s_lst s_nil) s_gname)
    (s_seq (s_for (s_iR1 (s_cons (s_op so_ixL (s_lst (s_cons (s_c fun _ _ => .int _) (s_cons (s_c fun _ _ => .int _) (s_cons (s_c fun _ _ => .int _) (s_cons (s_c fun _ _ => .int _) s_nil))))) (s_callN (s_cons s_var (s_cons (s_c fun _ _ => .int _) s_nil)))) s_nil)) s_gname
    (s_seq (s_asg (s_op so_ixL s_var (s_callN (s_cons s_var (s_cons (s_b so_len (s_cons s_var s_nil)) s_nil)))) s_gname)
    (s_drop (s_m so_append s_var (s_cons (s_callN (s_cons s_var (s_cons s_var (s_cons (s_op so_ixL (s_lst (s_cons s_var (s_cons (s_c fun _ _ => .int _) s_nil))) (s_b so_int (s_cons (s_andV (s_op so_eq s_var (s_c fun _ _ => .int _)) (s_op so_eq s_var (s_c fun _ _ => .int _))) s_nil))) s_nil)))) s_nil)))))
    (s_seq (s_ifS (s_and (s_test (s_op so_eq s_var (s_c fun _ _ => .int _))) (s_test (s_op (so_in false) (s_c fun _ _ => .int _) s_var))) (s_asg (s_sl so_slL s_var s_nop (s_part (s_c fun _ _ => .int _))) s_gname) s_next)
    (s_ret (s_callN (s_cons (s_callN (s_cons s_var (s_cons (s_b so_len (s_cons s_var s_nil)) s_nil))) (s_cons s_var s_nil))))))))))
theorem sc_law_table : FnScope ["state", "rooms", "kinds", "maps", "k", "kind"] ["state"] (defScope (topS 30)) := ⟨rfl, rfl, rfl, by decide +kernel, rfl, by decide +kernel, by decide +kernel⟩
theorem body_law_table {k : Nat} {Φ : Nat → DSpec} (T : Tx w K mg ad fu ca) (G_law_built : FnG P w K mg base CX0 (2 * k) (ad 29) (fu 29) ["letters", "maps"] (spN (cc K ca) (Φ 29))) (G_law_letters : FnG P w K mg base CX0 (2 * k) (ad 27) (fu 27) ["state", "many"] (spN (cc K ca) (Φ 27))) (G_law_map : FnG P w K mg base CX0 (2 * k) (ad 28) (fu 28) ["state", "rooms", "kind"] (spN (cc K ca) (Φ 28))) (G_law_next : FnG P w K mg base CX0 (2 * k) (ad 24) (fu 24) ["state", "many"] (spN (cc K ca) (Φ 24))) : Body P w K mg base (2 * k + 1) "_law_table" (topS 30) (ad 30) ["state", "rooms", "kinds", "maps", "k", "kind"] (t_law_table K ca Φ) := by
  intro cdv R out s Hh E gd ro
  have nd := sc_law_table.nd
  have hu := ro.units0
  have hu65 : R.units + 3 + 65 < cLine := by have := ro.un; show R.units + 3 + 65 < cLine; have e : (R.deeper (envOfC "_law_table" (defScope (topS 30)) s.heap.objs.size (ad 30) cdv)).units = R.units + 3 := rfl; rw [e] at this; omega
  unfold t_law_table
  exact (pss_cons (ps_if (pt_cmpR op_eq (pe_callG T.d_law_next G_law_next gd (ro.mono (by omega)) pass0 (pa_cons (pv 0) (pa_cons pe_int pa_nil))) pe_int (by rfl)) (pss_one (ps_ret (pe_callG T.d_law_built G_law_built gd (ro.mono (by omega)) pass0 (pa_cons (pe_callG T.d_law_letters G_law_letters gd (ro.mono (by omega)) pass0 (pa_cons (pv 0) (pa_cons pe_int pa_nil))) (pa_cons (pe_lc (own := [("k", 4)]) rfl nd (pi_range1 (by rfl) T.b_range (pa_cons pe_int pa_nil)) (blkOk_by (own := [("k", 4)]) (N := ["state", "rooms", "kinds", "maps", "k", "kind"]) (sc := defScope (topS 30)) (by decide +kernel)) (fun _ _ _ _ _ => (pg_name (i := 4) nd rfl (by first | exact Or.inl rfl | exact Or.inr rfl))) (fun _ _ _ _ _ => pts_nil) (fun _ _ _ _ _ => (pe_callG T.d_law_map G_law_map gd (ro.mono (by omega)) pass0 (pa_cons (pv 0) (pa_cons pe_int (pa_cons pe_int pa_nil)))))) pa_nil))))) pss_nil)
    (pss_cons (ps_set (i := 1) nd rfl (by first | exact Or.inl rfl | exact Or.inr rfl) (pe_ix ix_list (pe_lst (pa_cons pe_int (pa_cons pe_int (pa_cons pe_int (pa_cons pe_int pa_nil))))) (pe_callG T.d_law_next G_law_next gd (ro.mono (by omega)) pass0 (pa_cons (pv 0) (pa_cons pe_int pa_nil))) (fun _ _ => rfl)))
    (pss_cons (ps_set (i := 2) nd rfl (by first | exact Or.inl rfl | exact Or.inr rfl) (pe_ix ix_list (pe_lst (pa_cons (pe_lst (pa_cons pe_int pa_nil)) (pa_cons (pe_lst (pa_cons pe_int (pa_cons pe_int pa_nil))) (pa_cons (pe_lst (pa_cons pe_int (pa_cons pe_int pa_nil))) (pa_cons (pe_lst (pa_cons pe_int (pa_cons pe_int pa_nil))) (pa_cons (pe_lst (pa_cons pe_int (pa_cons pe_int pa_nil))) (pa_cons (pe_lst (pa_cons pe_int (pa_cons pe_int pa_nil))) (pa_cons (pe_lst (pa_cons pe_int pa_nil)) (pa_cons (pe_lst (pa_cons pe_int (pa_cons pe_int pa_nil))) pa_nil))))))))) (pe_callG T.d_law_next G_law_next gd (ro.mono (by omega)) pass0 (pa_cons (pv 0) (pa_cons pe_int pa_nil))) (fun _ _ => rfl)))
    (pss_cons (ps_set (i := 3) nd rfl (by first | exact Or.inl rfl | exact Or.inr rfl) (pe_lst pa_nil))
    (pss_cons (ps_for PassesOwn.never rfl (pi_range1 (by rfl) T.b_range (pa_cons (pe_ix ix_list (pe_lst (pa_cons pe_int (pa_cons pe_int (pa_cons pe_int (pa_cons pe_int pa_nil))))) (pe_callG T.d_law_next G_law_next gd (ro.mono (by omega)) pass0 (pa_cons (pv 0) (pa_cons pe_int pa_nil))) (fun _ _ => rfl)) pa_nil)) (pg_name (i := 4) nd rfl (by first | exact Or.inl rfl | exact Or.inr rfl))
    (pss_cons (ps_set (i := 5) nd rfl (by first | exact Or.inl rfl | exact Or.inr rfl) (pe_ix ix_list (pv 2) (pe_callG T.d_law_next G_law_next gd (ro.mono (by omega)) pass0 (pa_cons (pv 0) (pa_cons (pe_callB call_len_seq (by rfl) T.b_len (by decide +kernel) (pa_cons (pv 2) pa_nil)) pa_nil))) (fun _ _ => rfl)))
    (pss_one (ps_expr (pe_bm PySem.F.plainAttrs_list PySem.F.slot_list_append PySem.F.type_list_append mt_append (pv 3) (pa_cons (pe_callG T.d_law_map G_law_map gd (ro.mono (by omega)) pass0 (pa_cons (pv 0) (pa_cons (pv 1) (pa_cons (pe_ix ix_list (pe_lst (pa_cons (pv 5) (pa_cons pe_int pa_nil))) (pe_callTy call_int1 (by rfl) T.b_int (by decide +kernel) (pa_cons (pe_and (pe_cmpR op_eq (pv 5) pe_int (by rfl)) (pe_one (pe_cmpR op_eq (pv 1) pe_int (by rfl)))) pa_nil)) (fun _ _ => rfl)) pa_nil)))) pa_nil))))))
    (pss_cons (ps_if (PW.pt (pw_and (pt_cmpR op_eq (pv 1) pe_int (by rfl)) (pw_and1 (pt_cmpR op_in_seq pe_int (pv 2) (by rfl))))) (pss_one (ps_set (i := 3) nd rfl (by first | exact Or.inl rfl | exact Or.inr rfl) (pe_slice sl_list (pv 3) po_none (po_some pe_int)))) pss_nil)
    (pss_one (ps_ret (pe_callG T.d_law_built G_law_built gd (ro.mono (by omega)) pass0 (pa_cons (pe_callG T.d_law_letters G_law_letters gd (ro.mono (by omega)) pass0 (pa_cons (pv 0) (pa_cons (pe_callB call_len_seq (by rfl) T.b_len (by decide +kernel) (pa_cons (pv 3) pa_nil)) pa_nil))) (pa_cons (pv 3) pa_nil)))))))))))
/-! _law_log : slots 0=state 1=table 2=many 3=k -/
def t_law_log (K : PySem.W.Frag) (ca : Nat → Addr) (Φ : Nat → DSpec) : TS := 
  (tRet (tCB (rdTuple K) (tCons (tLc (iRng1 (tCons (tVar 2) tNil)) (gName 3) tYes (tOp (rIxT K) (tOp (rIxT K) (tVar 1) (tC (.int 0))) (rCallG (spN (cc K ca) (Φ 24)) E0 (tCons (tVar 0) (tCons (tCB (rdLen K) (tCons (tOp (rIxT K) (tVar 1) (tC (.int 0))) tNil)) tNil)))) [3]) tNil)))
theorem snd_law_log (T : Tx w K mg ad fu ca) (Φ : Nat → DSpec) : SS (cc K ca) noW (t_law_log K ca Φ) (d_law_log Φ) := by
  unfold t_law_log d_law_log
  exact (s_ret (s_b so_tuple (s_cons (s_lc0 (s_iR1 (s_cons s_var s_nil)) s_gname (wp_name (by decide)) (s_op so_ixT (s_op so_ixT s_var (s_c fun _ _ => .int _)) (s_callN (s_cons s_var (s_cons (s_b so_len (s_cons (s_op so_ixT s_var (s_c fun _ _ => .int _)) s_nil)) s_nil))))) s_nil)))
theorem sc_law_log : FnScope ["state", "table", "many", "k"] ["state", "table", "many"] (defScope (topS 33)) := ⟨rfl, rfl, rfl, by decide +kernel, rfl, by decide +kernel, by decide +kernel⟩
theorem body_law_log {k : Nat} {Φ : Nat → DSpec} (T : Tx w K mg ad fu ca) (G_law_next : FnG P w K mg base CX0 (2 * k) (ad 24) (fu 24) ["state", "many"] (spN (cc K ca) (Φ 24))) : Body P w K mg base (2 * k + 1) "_law_log" (topS 33) (ad 33) ["state", "table", "many", "k"] (t_law_log K ca Φ) := by
  intro cdv R out s Hh E gd ro
  have nd := sc_law_log.nd
  have hu := ro.units0
  have hu65 : R.units + 3 + 65 < cLine := by have := ro.un; show R.units + 3 + 65 < cLine; have e : (R.deeper (envOfC "_law_log" (defScope (topS 33)) s.heap.objs.size (ad 33) cdv)).units = R.units + 3 := rfl; rw [e] at this; omega
  unfold t_law_log
  exact (pss_one (ps_ret (pe_callTy call_tuple_of (by rfl) T.b_tuple (by decide +kernel) (pa_cons (pe_lc (own := [("k", 3)]) rfl nd (pi_range1 (by rfl) T.b_range (pa_cons (pv 2) pa_nil)) (blkOk_by (own := [("k", 3)]) (N := ["state", "table", "many", "k"]) (sc := defScope (topS 33)) (by decide +kernel)) (fun _ _ _ _ _ => (pg_name (i := 3) nd rfl (by first | exact Or.inl rfl | exact Or.inr rfl))) (fun _ _ _ _ _ => pts_nil) (fun _ _ _ _ _ => (pe_ix ix_tup (pe_ix ix_tup (pv 1) pe_int (fun _ _ => rfl)) (pe_callG T.d_law_next G_law_next gd (ro.mono (by omega)) pass0 (pa_cons (pv 0) (pa_cons (pe_callB call_len_seq (by rfl) T.b_len (by decide +kernel) (pa_cons (pe_ix ix_tup (pv 1) pe_int (fun _ _ => rfl)) pa_nil)) pa_nil))) (fun _ _ => rfl)))) pa_nil))))
/-! _law_next : slots 0=state 1=many 2=turn -/
def t_law_next (K : PySem.W.Frag) (ca : Nat → Addr) (Φ : Nat → DSpec) : TS := 
  (tSeq (tAsg (tOp rdAdd (tOp (rIxL K) (tVar 0) (tC (.int 1))) (tC (.int 1))) (gSub (tVar 0) (tC (.int 1)) rSetL))
    (tSeq (tAsg (tOp rdDiv (tOp (rIxL K) (tVar 0) (tC (.int 1))) (tCB (rdLen K) (tCons (tOp (rIxL K) (tVar 0) (tC (.int 0))) tNil))) (gName 2))
    (tRet (tOp rdMod (tCB rdInt (tCons (tOp rdAdd (tOp rdAdd (tOp (rIxL K) (tOp (rIxL K) (tVar 0) (tC (.int 0))) (tOp rdMod (tOp (rIxL K) (tVar 0) (tC (.int 1))) (tCB (rdLen K) (tCons (tOp (rIxL K) (tVar 0) (tC (.int 0))) tNil)))) (tOp rdMul (tVar 2) (tC (.int 389)))) (tOp rdMul (tOp rdMul (tOp (rIxL K) (tVar 0) (tC (.int 1))) (tVar 2)) (tC (.int 17)))) tNil)) (tVar 1)))))
theorem snd_law_next (T : Tx w K mg ad fu ca) (Φ : Nat → DSpec) : SS (cc K ca) noW (t_law_next K ca Φ) (d_law_next Φ) := by
  unfold t_law_next d_law_next
  exact (s_seq (s_asg (s_op so_add (s_op so_ixL s_var (s_c fun _ _ => .int _)) (s_c fun _ _ => .int _)) (s_gsub (W := noW) s_var (s_c fun _ _ => .int _)))
    (s_seq (s_asg (s_op so_div (s_op so_ixL s_var (s_c fun _ _ => .int _)) (s_b so_len (s_cons (s_op so_ixL s_var (s_c fun _ _ => .int _)) s_nil))) s_gname)
    (s_ret (s_op so_mod (s_b so_int (s_cons (s_op so_add (s_op so_add (s_op so_ixL (s_op so_ixL s_var (s_c fun _ _ => .int _)) (s_op so_mod (s_op so_ixL s_var (s_c fun _ _ => .int _)) (s_b so_len (s_cons (s_op so_ixL s_var (s_c fun _ _ => .int _)) s_nil)))) (s_op so_mul s_var (s_c fun _ _ => .int _))) (s_op so_mul (s_op so_mul (s_op so_ixL s_var (s_c fun _ _ => .int _)) s_var) (s_c fun _ _ => .int _))) s_nil)) s_var))))
theorem sc_law_next : FnScope ["state", "many", "turn"] ["state", "many"] (defScope (topS 24)) := ⟨rfl, rfl, rfl, by decide +kernel, rfl, by decide +kernel, by decide +kernel⟩
theorem body_law_next {k : Nat} {Φ : Nat → DSpec} (T : Tx w K mg ad fu ca) : Body P w K mg base (2 * k + 1) "_law_next" (topS 24) (ad 24) ["state", "many", "turn"] (t_law_next K ca Φ) := by
  intro cdv R out s Hh E gd ro
  have nd := sc_law_next.nd
  have hu := ro.units0
  have hu65 : R.units + 3 + 65 < cLine := by have := ro.un; show R.units + 3 + 65 < cLine; have e : (R.deeper (envOfC "_law_next" (defScope (topS 24)) s.heap.objs.size (ad 24) cdv)).units = R.units + 3 := rfl; rw [e] at this; omega
  unfold t_law_next
  exact (pss_cons (ps_asg (pe_op op_add (pe_ix ix_list (pv 0) pe_int (fun _ _ => rfl)) pe_int) (pg_sub (pv 0) pe_int set_list))
    (pss_cons (ps_set (i := 2) nd rfl (by first | exact Or.inl rfl | exact Or.inr rfl) (pe_op op_fdiv (pe_ix ix_list (pv 0) pe_int (fun _ _ => rfl)) (pe_callB call_len_seq (by rfl) T.b_len (by decide +kernel) (pa_cons (pe_ix ix_list (pv 0) pe_int (fun _ _ => rfl)) pa_nil))))
    (pss_one (ps_ret (pe_op op_mod (pe_callTy call_int1 (by rfl) T.b_int (by decide +kernel) (pa_cons (pe_op op_add (pe_op op_add (pe_ix ix_list (pe_ix ix_list (pv 0) pe_int (fun _ _ => rfl)) (pe_op op_mod (pe_ix ix_list (pv 0) pe_int (fun _ _ => rfl)) (pe_callB call_len_seq (by rfl) T.b_len (by decide +kernel) (pa_cons (pe_ix ix_list (pv 0) pe_int (fun _ _ => rfl)) pa_nil))) (fun _ _ => rfl)) (pe_op op_mul (pv 2) pe_int)) (pe_op op_mul (pe_op op_mul (pe_ix ix_list (pv 0) pe_int (fun _ _ => rfl)) (pv 2)) pe_int)) pa_nil)) (pv 1))))))
/-! _law_letters : slots 0=state 1=many 2=found 3=k -/
def t_law_letters (K : PySem.W.Frag) (ca : Nat → Addr) (Φ : Nat → DSpec) : TS := 
  (tSeq (tAsg (tLst tNil) (gName 2))
    (tSeq (tFor (iRng1 (tCons (tVar 1) tNil)) (gName 3)
    (tDrop (tBM K "list" rAppend (tVar 2) (tCons (rCallG (spN (cc K ca) (Φ 26)) E0 (tCons (tVar 0) (tCons (tVar 2) tNil))) tNil))))
    (tRet (tCB (rdTupleF K) (tCons (tVar 2) tNil)))))
theorem snd_law_letters (T : Tx w K mg ad fu ca) (Φ : Nat → DSpec) : SS (cc K ca) noW (t_law_letters K ca Φ) (d_law_letters Φ) := by
  unfold t_law_letters d_law_letters
  exact (s_seq (s_asg (s_lst s_nil) s_gname)
    (s_seq (s_for (s_iR1 (s_cons s_var s_nil)) s_gname
    (s_drop (s_m so_append s_var (s_cons (s_callN (s_cons s_var (s_cons s_var s_nil))) s_nil))))
    (s_ret (s_b so_tupleF (s_cons s_var s_nil)))))
theorem sc_law_letters : FnScope ["state", "many", "found", "k"] ["state", "many"] (defScope (topS 27)) := ⟨rfl, rfl, rfl, by decide +kernel, rfl, by decide +kernel, by decide +kernel⟩
theorem body_law_letters {k : Nat} {Φ : Nat → DSpec} (T : Tx w K mg ad fu ca) (G_law_word : FnG P w K mg base CX0 (2 * k) (ad 26) (fu 26) ["state", "taken"] (spN (cc K ca) (Φ 26))) : Body P w K mg base (2 * k + 1) "_law_letters" (topS 27) (ad 27) ["state", "many", "found", "k"] (t_law_letters K ca Φ) := by
  intro cdv R out s Hh E gd ro
  have nd := sc_law_letters.nd
  have hu := ro.units0
  have hu65 : R.units + 3 + 65 < cLine := by have := ro.un; show R.units + 3 + 65 < cLine; have e : (R.deeper (envOfC "_law_letters" (defScope (topS 27)) s.heap.objs.size (ad 27) cdv)).units = R.units + 3 := rfl; rw [e] at this; omega
  unfold t_law_letters
  exact (pss_cons (ps_set (i := 2) nd rfl (by first | exact Or.inl rfl | exact Or.inr rfl) (pe_lst pa_nil))
    (pss_cons (ps_for PassesOwn.never rfl (pi_range1 (by rfl) T.b_range (pa_cons (pv 1) pa_nil)) (pg_name (i := 3) nd rfl (by first | exact Or.inl rfl | exact Or.inr rfl))
    (pss_one (ps_expr (pe_bm PySem.F.plainAttrs_list PySem.F.slot_list_append PySem.F.type_list_append mt_append (pv 2) (pa_cons (pe_callG T.d_law_word G_law_word gd (ro.mono (by omega)) pass0 (pa_cons (pv 0) (pa_cons (pv 2) pa_nil))) pa_nil)))))
    (pss_one (ps_ret (pe_callTy call_tuple_frz (by rfl) T.b_tuple (by decide +kernel) (pa_cons (pv 2) pa_nil))))))
/-! _law_height : slots 0=tree -/
def t_law_height (K : PySem.W.Frag) (ca : Nat → Addr) (Φ : Nat → DSpec) : TS := 
  (tSeq (tIfS (tTest (tOp rEq (tCB (rdLen K) (tCons (tVar 0) tNil)) (tC (.int 2)))) (tRet (tC (.int 0))) tNext)
    (tRet (tOp rdAdd (tC (.int 1)) (tCB rdMax2 (tCons (rCallG (spN (cc K ca) (Φ 34)) E0 (tCons (tOp (rIxT K) (tVar 0) (tC (.int 1))) tNil)) (tCons (rCallG (spN (cc K ca) (Φ 34)) E0 (tCons (tOp (rIxT K) (tVar 0) (tC (.int 2))) tNil)) tNil))))))
theorem snd_law_height (T : Tx w K mg ad fu ca) (Φ : Nat → DSpec) : SS (cc K ca) noW (t_law_height K ca Φ) (d_law_height Φ) := by
  unfold t_law_height d_law_height
  exact (s_seq (s_ifS (s_test (s_op so_eq (s_b so_len (s_cons s_var s_nil)) (s_c fun _ _ => .int _))) (s_ret (s_c fun _ _ => .int _)) s_next)
    (s_ret (s_op so_add (s_c fun _ _ => .int _) (s_b so_max2 (s_cons (s_callN (s_cons (s_op so_ixT s_var (s_c fun _ _ => .int _)) s_nil)) (s_cons (s_callN (s_cons (s_op so_ixT s_var (s_c fun _ _ => .int _)) s_nil)) s_nil))))))
theorem sc_law_height : FnScope ["tree"] ["tree"] (defScope (topS 34)) := ⟨rfl, rfl, rfl, by decide +kernel, rfl, by decide +kernel, by decide +kernel⟩
theorem body_law_height {k : Nat} {Φ : Nat → DSpec} (T : Tx w K mg ad fu ca) (G_law_height : FnG P w K mg base CX0 (2 * k) (ad 34) (fu 34) ["tree"] (spN (cc K ca) (Φ 34))) : Body P w K mg base (2 * k + 1) "_law_height" (topS 34) (ad 34) ["tree"] (t_law_height K ca Φ) := by
  intro cdv R out s Hh E gd ro
  have nd := sc_law_height.nd
  have hu := ro.units0
  have hu65 : R.units + 3 + 65 < cLine := by have := ro.un; show R.units + 3 + 65 < cLine; have e : (R.deeper (envOfC "_law_height" (defScope (topS 34)) s.heap.objs.size (ad 34) cdv)).units = R.units + 3 := rfl; rw [e] at this; omega
  unfold t_law_height
  exact (pss_cons (ps_if (pt_cmpR op_eq (pe_callB call_len_seq (by rfl) T.b_len (by decide +kernel) (pa_cons (pv 0) pa_nil)) pe_int (by rfl)) (pss_one (ps_ret pe_int)) pss_nil)
    (pss_one (ps_ret (pe_op op_add pe_int (pe_callB (call_max2 rfl) (by rfl) T.b_max (by decide +kernel) (pa_cons (pe_callG T.d_law_height G_law_height gd (ro.mono (by omega)) pass0 (pa_cons (pe_ix ix_tup (pv 0) pe_int (fun _ _ => rfl)) pa_nil)) (pa_cons (pe_callG T.d_law_height G_law_height gd (ro.mono (by omega)) pass0 (pa_cons (pe_ix ix_tup (pv 0) pe_int (fun _ _ => rfl)) pa_nil)) pa_nil)))))))
/-! _law_many : slots 0=tree -/
def t_law_many (K : PySem.W.Frag) (ca : Nat → Addr) (Φ : Nat → DSpec) : TS := 
  (tSeq (tIfS (tTest (tOp rEq (tCB (rdLen K) (tCons (tVar 0) tNil)) (tC (.int 2)))) (tRet (tC (.int 1))) tNext)
    (tRet (tOp rdAdd (rCallG (spN (cc K ca) (Φ 35)) E0 (tCons (tOp (rIxT K) (tVar 0) (tC (.int 1))) tNil)) (rCallG (spN (cc K ca) (Φ 35)) E0 (tCons (tOp (rIxT K) (tVar 0) (tC (.int 2))) tNil)))))
theorem snd_law_many (T : Tx w K mg ad fu ca) (Φ : Nat → DSpec) : SS (cc K ca) noW (t_law_many K ca Φ) (d_law_many Φ) := by
  unfold t_law_many d_law_many
  exact (s_seq (s_ifS (s_test (s_op so_eq (s_b so_len (s_cons s_var s_nil)) (s_c fun _ _ => .int _))) (s_ret (s_c fun _ _ => .int _)) s_next)
    (s_ret (s_op so_add (s_callN (s_cons (s_op so_ixT s_var (s_c fun _ _ => .int _)) s_nil)) (s_callN (s_cons (s_op so_ixT s_var (s_c fun _ _ => .int _)) s_nil)))))
theorem sc_law_many : FnScope ["tree"] ["tree"] (defScope (topS 35)) := ⟨rfl, rfl, rfl, by decide +kernel, rfl, by decide +kernel, by decide +kernel⟩
theorem body_law_many {k : Nat} {Φ : Nat → DSpec} (T : Tx w K mg ad fu ca) (G_law_many : FnG P w K mg base CX0 (2 * k) (ad 35) (fu 35) ["tree"] (spN (cc K ca) (Φ 35))) : Body P w K mg base (2 * k + 1) "_law_many" (topS 35) (ad 35) ["tree"] (t_law_many K ca Φ) := by
  intro cdv R out s Hh E gd ro
  have nd := sc_law_many.nd
  have hu := ro.units0
  have hu65 : R.units + 3 + 65 < cLine := by have := ro.un; show R.units + 3 + 65 < cLine; have e : (R.deeper (envOfC "_law_many" (defScope (topS 35)) s.heap.objs.size (ad 35) cdv)).units = R.units + 3 := rfl; rw [e] at this; omega
  unfold t_law_many
  exact (pss_cons (ps_if (pt_cmpR op_eq (pe_callB call_len_seq (by rfl) T.b_len (by decide +kernel) (pa_cons (pv 0) pa_nil)) pe_int (by rfl)) (pss_one (ps_ret pe_int)) pss_nil)
    (pss_one (ps_ret (pe_op op_add (pe_callG T.d_law_many G_law_many gd (ro.mono (by omega)) pass0 (pa_cons (pe_ix ix_tup (pv 0) pe_int (fun _ _ => rfl)) pa_nil)) (pe_callG T.d_law_many G_law_many gd (ro.mono (by omega)) pass0 (pa_cons (pe_ix ix_tup (pv 0) pe_int (fun _ _ => rfl)) pa_nil))))))
/-! _law_node : slots 0=table 1=left 2=right 3=count -/
def t_law_node (K : PySem.W.Frag) (ca : Nat → Addr) (Φ : Nat → DSpec) : TS := 
  (tSeq (tAsg (tOp rdAdd (tOp (rIxL K) (tVar 3) (tC (.int 0))) (tC (.int 1))) (gSub (tVar 3) (tC (.int 0)) rSetL))
    (tRet (tTup (tCons (tOp (rIxT K) (tOp (rIxT K) (tOp (rIxT K) (tVar 0) (tC (.int 2))) (tOp (rIxT K) (tVar 1) (tC (.int 0)))) (tOp (rIxT K) (tVar 2) (tC (.int 0)))) (tCons (tVar 1) (tCons (tVar 2) tNil))))))
theorem snd_law_node (T : Tx w K mg ad fu ca) (Φ : Nat → DSpec) : SS (cc K ca) noW (t_law_node K ca Φ) (d_law_node Φ) := by
  unfold t_law_node d_law_node
  exact (s_seq (s_asg (s_op so_add (s_op so_ixL s_var (s_c fun _ _ => .int _)) (s_c fun _ _ => .int _)) (s_gsub (W := noW) s_var (s_c fun _ _ => .int _)))
    (s_ret (s_tup (s_cons (s_op so_ixT (s_op so_ixT (s_op so_ixT s_var (s_c fun _ _ => .int _)) (s_op so_ixT s_var (s_c fun _ _ => .int _))) (s_op so_ixT s_var (s_c fun _ _ => .int _))) (s_cons s_var (s_cons s_var s_nil))))))
theorem sc_law_node : FnScope ["table", "left", "right", "count"] ["table", "left", "right", "count"] (defScope (topS 36)) := ⟨rfl, rfl, rfl, by decide +kernel, rfl, by decide +kernel, by decide +kernel⟩
theorem body_law_node {k : Nat} {Φ : Nat → DSpec} (T : Tx w K mg ad fu ca) : Body P w K mg base (2 * k + 1) "_law_node" (topS 36) (ad 36) ["table", "left", "right", "count"] (t_law_node K ca Φ) := by
  intro cdv R out s Hh E gd ro
  have nd := sc_law_node.nd
  have hu := ro.units0
  have hu65 : R.units + 3 + 65 < cLine := by have := ro.un; show R.units + 3 + 65 < cLine; have e : (R.deeper (envOfC "_law_node" (defScope (topS 36)) s.heap.objs.size (ad 36) cdv)).units = R.units + 3 := rfl; rw [e] at this; omega
  unfold t_law_node
  exact (pss_cons (ps_asg (pe_op op_add (pe_ix ix_list (pv 3) pe_int (fun _ _ => rfl)) pe_int) (pg_sub (pv 3) pe_int set_list))
    (pss_one (ps_ret (pe_tup (pa_cons (pe_ix ix_tup (pe_ix ix_tup (pe_ix ix_tup (pv 0) pe_int (fun _ _ => rfl)) (pe_ix ix_tup (pv 1) pe_int (fun _ _ => rfl)) (fun _ _ => rfl)) (pe_ix ix_tup (pv 2) pe_int (fun _ _ => rfl)) (fun _ _ => rfl)) (pa_cons (pv 1) (pa_cons (pv 2) pa_nil)))))))
/-! _law_leaf : slots 0=table 1=letter -/
def t_law_leaf (K : PySem.W.Frag) (ca : Nat → Addr) (Φ : Nat → DSpec) : TS := 
  (tRet (tTup (tCons (tOp (rIxT K) (tOp (rIxT K) (tVar 0) (tC (.int 1))) (tBMT (rdTupIndex K) (tOp (rIxT K) (tVar 0) (tC (.int 0))) (tCons (tVar 1) tNil))) (tCons (tVar 1) tNil))))
theorem snd_law_leaf (T : Tx w K mg ad fu ca) (Φ : Nat → DSpec) : SS (cc K ca) noW (t_law_leaf K ca Φ) (d_law_leaf Φ) := by
  unfold t_law_leaf d_law_leaf
  exact (s_ret (s_tup (s_cons (s_op so_ixT (s_op so_ixT s_var (s_c fun _ _ => .int _)) (s_ixT (s_op so_ixT s_var (s_c fun _ _ => .int _)) (s_cons s_var s_nil))) (s_cons s_var s_nil))))
theorem sc_law_leaf : FnScope ["table", "letter"] ["table", "letter"] (defScope (topS 37)) := ⟨rfl, rfl, rfl, by decide +kernel, rfl, by decide +kernel, by decide +kernel⟩
theorem body_law_leaf {k : Nat} {Φ : Nat → DSpec} (T : Tx w K mg ad fu ca) : Body P w K mg base (2 * k + 1) "_law_leaf" (topS 37) (ad 37) ["table", "letter"] (t_law_leaf K ca Φ) := by
  intro cdv R out s Hh E gd ro
  have nd := sc_law_leaf.nd
  have hu := ro.units0
  have hu65 : R.units + 3 + 65 < cLine := by have := ro.un; show R.units + 3 + 65 < cLine; have e : (R.deeper (envOfC "_law_leaf" (defScope (topS 37)) s.heap.objs.size (ad 37) cdv)).units = R.units + 3 := rfl; rw [e] at this; omega
  unfold t_law_leaf
  exact (pss_one (ps_ret (pe_tup (pa_cons (pe_ix ix_tup (pe_ix ix_tup (pv 0) pe_int (fun _ _ => rfl)) (pe_bmT PySem.F.plainAttrs_tuple PySem.F.slot_tuple_index PySem.F.type_tuple_index mt_tup_index (pe_ix ix_tup (pv 0) pe_int (fun _ _ => rfl)) (pa_cons (pv 1) pa_nil)) (fun _ _ => rfl)) (pa_cons (pv 1) pa_nil)))))
/-! _law_made_of : slots 0=table 1=leaves 2=count 3=half -/
def t_law_made_of (K : PySem.W.Frag) (ca : Nat → Addr) (Φ : Nat → DSpec) : TS := 
  (tSeq (tIfS (tTest (tOp rEq (tCB (rdLen K) (tCons (tVar 1) tNil)) (tC (.int 1)))) (tRet (tOp (rIxL K) (tVar 1) (tC (.int 0)))) tNext)
    (tSeq (tAsg (tOp rdDiv (tOp rdAdd (tCB (rdLen K) (tCons (tVar 1) tNil)) (tC (.int 1))) (tC (.int 2))) (gName 3))
    (tRet (rCallG (spN (cc K ca) (Φ 36)) E0 (tCons (tVar 0) (tCons (rCallG (spN (cc K ca) (Φ 38)) E0 (tCons (tVar 0) (tCons (L2.tSl (rSlL K) (tVar 1) tNoPart (tPart (tVar 3))) (tCons (tVar 2) tNil)))) (tCons (rCallG (spN (cc K ca) (Φ 38)) E0 (tCons (tVar 0) (tCons (L2.tSl (rSlL K) (tVar 1) (tPart (tVar 3)) tNoPart) (tCons (tVar 2) tNil)))) (tCons (tVar 2) tNil))))))))
theorem snd_law_made_of (T : Tx w K mg ad fu ca) (Φ : Nat → DSpec) : SS (cc K ca) noW (t_law_made_of K ca Φ) (d_law_made_of Φ) := by
  unfold t_law_made_of d_law_made_of
  exact (s_seq (s_ifS (s_test (s_op so_eq (s_b so_len (s_cons s_var s_nil)) (s_c fun _ _ => .int _))) (s_ret (s_op so_ixL s_var (s_c fun _ _ => .int _))) s_next)
    (s_seq (s_asg (s_op so_div (s_op so_add (s_b so_len (s_cons s_var s_nil)) (s_c fun _ _ => .int _)) (s_c fun _ _ => .int _)) s_gname)
    (s_ret (s_callN (s_cons s_var (s_cons (s_callN (s_cons s_var (s_cons (s_sl so_slL s_var s_nop (s_part s_var)) (s_cons s_var s_nil)))) (s_cons (s_callN (s_cons s_var (s_cons (s_sl so_slL s_var (s_part s_var) s_nop) (s_cons s_var s_nil)))) (s_cons s_var s_nil))))))))
theorem sc_law_made_of : FnScope ["table", "leaves", "count", "half"] ["table", "leaves", "count"] (defScope (topS 38)) := ⟨rfl, rfl, rfl, by decide +kernel, rfl, by decide +kernel, by decide +kernel⟩
theorem body_law_made_of {k : Nat} {Φ : Nat → DSpec} (T : Tx w K mg ad fu ca) (G_law_made_of : FnG P w K mg base CX0 (2 * k) (ad 38) (fu 38) ["table", "leaves", "count"] (spN (cc K ca) (Φ 38))) (G_law_node : FnG P w K mg base CX0 (2 * k) (ad 36) (fu 36) ["table", "left", "right", "count"] (spN (cc K ca) (Φ 36))) : Body P w K mg base (2 * k + 1) "_law_made_of" (topS 38) (ad 38) ["table", "leaves", "count", "half"] (t_law_made_of K ca Φ) := by
  intro cdv R out s Hh E gd ro
  have nd := sc_law_made_of.nd
  have hu := ro.units0
  have hu65 : R.units + 3 + 65 < cLine := by have := ro.un; show R.units + 3 + 65 < cLine; have e : (R.deeper (envOfC "_law_made_of" (defScope (topS 38)) s.heap.objs.size (ad 38) cdv)).units = R.units + 3 := rfl; rw [e] at this; omega
  unfold t_law_made_of
  exact (pss_cons (ps_if (pt_cmpR op_eq (pe_callB call_len_seq (by rfl) T.b_len (by decide +kernel) (pa_cons (pv 1) pa_nil)) pe_int (by rfl)) (pss_one (ps_ret (pe_ix ix_list (pv 1) pe_int (fun _ _ => rfl)))) pss_nil)
    (pss_cons (ps_set (i := 3) nd rfl (by first | exact Or.inl rfl | exact Or.inr rfl) (pe_op op_fdiv (pe_op op_add (pe_callB call_len_seq (by rfl) T.b_len (by decide +kernel) (pa_cons (pv 1) pa_nil)) pe_int) pe_int))
    (pss_one (ps_ret (pe_callG T.d_law_node G_law_node gd (ro.mono (by omega)) pass0 (pa_cons (pv 0) (pa_cons (pe_callG T.d_law_made_of G_law_made_of gd (ro.mono (by omega)) pass0 (pa_cons (pv 0) (pa_cons (pe_slice sl_list (pv 1) po_none (po_some (pv 3))) (pa_cons (pv 2) pa_nil)))) (pa_cons (pe_callG T.d_law_made_of G_law_made_of gd (ro.mono (by omega)) pass0 (pa_cons (pv 0) (pa_cons (pe_slice sl_list (pv 1) (po_some (pv 3)) po_none) (pa_cons (pv 2) pa_nil)))) (pa_cons (pv 2) pa_nil)))))))))
/-! _law_ordered : slots 0=table 1=first 2=second 3=is_left 4=count -/
def t_law_ordered (K : PySem.W.Frag) (ca : Nat → Addr) (Φ : Nat → DSpec) : TS := 
  (tSeq (tIfS (tB (tVar 3)) (tRet (rCallG (spN (cc K ca) (Φ 36)) E0 (tCons (tVar 0) (tCons (tVar 1) (tCons (tVar 2) (tCons (tVar 4) tNil)))))) tNext)
    (tRet (rCallG (spN (cc K ca) (Φ 36)) E0 (tCons (tVar 0) (tCons (tVar 2) (tCons (tVar 1) (tCons (tVar 4) tNil)))))))
theorem snd_law_ordered (T : Tx w K mg ad fu ca) (Φ : Nat → DSpec) : SS (cc K ca) noW (t_law_ordered K ca Φ) (d_law_ordered Φ) := by
  unfold t_law_ordered d_law_ordered
  exact (s_seq (s_ifS (s_B s_var) (s_ret (s_callN (s_cons s_var (s_cons s_var (s_cons s_var (s_cons s_var s_nil)))))) s_next)
    (s_ret (s_callN (s_cons s_var (s_cons s_var (s_cons s_var (s_cons s_var s_nil)))))))
theorem sc_law_ordered : FnScope ["table", "first", "second", "is_left", "count"] ["table", "first", "second", "is_left", "count"] (defScope (topS 39)) := ⟨rfl, rfl, rfl, by decide +kernel, rfl, by decide +kernel, by decide +kernel⟩
theorem body_law_ordered {k : Nat} {Φ : Nat → DSpec} (T : Tx w K mg ad fu ca) (G_law_node : FnG P w K mg base CX0 (2 * k) (ad 36) (fu 36) ["table", "left", "right", "count"] (spN (cc K ca) (Φ 36))) : Body P w K mg base (2 * k + 1) "_law_ordered" (topS 39) (ad 39) ["table", "first", "second", "is_left", "count"] (t_law_ordered K ca Φ) := by
  intro cdv R out s Hh E gd ro
  have nd := sc_law_ordered.nd
  have hu := ro.units0
  have hu65 : R.units + 3 + 65 < cLine := by have := ro.un; show R.units + 3 + 65 < cLine; have e : (R.deeper (envOfC "_law_ordered" (defScope (topS 39)) s.heap.objs.size (ad 39) cdv)).units = R.units + 3 := rfl; rw [e] at this; omega
  unfold t_law_ordered
  exact (pss_cons (ps_if (pt_val (pv 3)) (pss_one (ps_ret (pe_callG T.d_law_node G_law_node gd (ro.mono (by omega)) pass0 (pa_cons (pv 0) (pa_cons (pv 1) (pa_cons (pv 2) (pa_cons (pv 4) pa_nil))))))) pss_nil)
    (pss_one (ps_ret (pe_callG T.d_law_node G_law_node gd (ro.mono (by omega)) pass0 (pa_cons (pv 0) (pa_cons (pv 2) (pa_cons (pv 1) (pa_cons (pv 4) pa_nil))))))))
/-! _law_beside : slots 0=table 1=low 2=high 3=is_left 4=count 5=first 6=near 7=far 8=one 9=other -/
def t_law_beside (K : PySem.W.Frag) (ca : Nat → Addr) (Φ : Nat → DSpec) : TS := 
  (tSeq (tIfS (tTest (tOp rdLe (rCallG (spN (cc K ca) (Φ 34)) E0 (tCons (tVar 2) tNil)) (tOp rdAdd (rCallG (spN (cc K ca) (Φ 34)) E0 (tCons (tVar 1) tNil)) (tC (.int 1))))) (tRet (rCallG (spN (cc K ca) (Φ 39)) E0 (tCons (tVar 0) (tCons (tVar 1) (tCons (tVar 2) (tCons (tVar 3) (tCons (tVar 4) tNil))))))) tNext)
    (tSeq (tPar 6 7 (tCons (tOp (rIxT K) (tVar 2) (tC (.int 1))) (tCons (tOp (rIxT K) (tVar 2) (tC (.int 2))) tNil)))
    (tSeq (tIfS (tNot (tB (tVar 3))) (tPar 6 7 (tCons (tOp (rIxT K) (tVar 2) (tC (.int 2))) (tCons (tOp (rIxT K) (tVar 2) (tC (.int 1))) tNil))) tNext)
    (tSeq (tIfS (tTest (tOp rdLe (rCallG (spN (cc K ca) (Φ 34)) E0 (tCons (tVar 6) tNil)) (rCallG (spN (cc K ca) (Φ 34)) E0 (tCons (tVar 7) tNil)))) (tRet (rCallG (spN (cc K ca) (Φ 39)) E0 (tCons (tVar 0) (tCons (rCallG (spN (cc K ca) (Φ 39)) E0 (tCons (tVar 0) (tCons (tVar 1) (tCons (tVar 6) (tCons (tVar 3) (tCons (tVar 4) tNil)))))) (tCons (tVar 7) (tCons (tVar 3) (tCons (tVar 4) tNil))))))) tNext)
    (tSeq (tPar 8 9 (tCons (tOp (rIxT K) (tVar 6) (tC (.int 1))) (tCons (tOp (rIxT K) (tVar 6) (tC (.int 2))) tNil)))
    (tSeq (tIfS (tNot (tB (tVar 3))) (tPar 8 9 (tCons (tOp (rIxT K) (tVar 6) (tC (.int 2))) (tCons (tOp (rIxT K) (tVar 6) (tC (.int 1))) tNil))) tNext)
    (tSeq (tAsg (rCallG (spN (cc K ca) (Φ 39)) E0 (tCons (tVar 0) (tCons (tVar 1) (tCons (tVar 8) (tCons (tVar 3) (tCons (tVar 4) tNil)))))) (gName 5))
    (tRet (rCallG (spN (cc K ca) (Φ 39)) E0 (tCons (tVar 0) (tCons (tVar 5) (tCons (rCallG (spN (cc K ca) (Φ 39)) E0 (tCons (tVar 0) (tCons (tVar 9) (tCons (tVar 7) (tCons (tVar 3) (tCons (tVar 4) tNil)))))) (tCons (tVar 3) (tCons (tVar 4) tNil))))))))))))))
theorem snd_law_beside (T : Tx w K mg ad fu ca) (Φ : Nat → DSpec) : SS (cc K ca) noW (t_law_beside K ca Φ) (d_law_beside Φ) := by
  unfold t_law_beside d_law_beside
  exact (s_seq (s_ifS (s_test (s_op so_le (s_callN (s_cons s_var s_nil)) (s_op so_add (s_callN (s_cons s_var s_nil)) (s_c fun _ _ => .int _)))) (s_ret (s_callN (s_cons s_var (s_cons s_var (s_cons s_var (s_cons s_var (s_cons s_var s_nil))))))) s_next)
    (s_seq (s_par (s_cons (s_op so_ixT s_var (s_c fun _ _ => .int _)) (s_cons (s_op so_ixT s_var (s_c fun _ _ => .int _)) s_nil)))
    (s_seq (s_ifS (s_not (s_B s_var)) (s_par (s_cons (s_op so_ixT s_var (s_c fun _ _ => .int _)) (s_cons (s_op so_ixT s_var (s_c fun _ _ => .int _)) s_nil))) s_next)
    (s_seq (s_ifS (s_test (s_op so_le (s_callN (s_cons s_var s_nil)) (s_callN (s_cons s_var s_nil)))) (s_ret (s_callN (s_cons s_var (s_cons (s_callN (s_cons s_var (s_cons s_var (s_cons s_var (s_cons s_var (s_cons s_var s_nil)))))) (s_cons s_var (s_cons s_var (s_cons s_var s_nil))))))) s_next)
    (s_seq (s_par (s_cons (s_op so_ixT s_var (s_c fun _ _ => .int _)) (s_cons (s_op so_ixT s_var (s_c fun _ _ => .int _)) s_nil)))
    (s_seq (s_ifS (s_not (s_B s_var)) (s_par (s_cons (s_op so_ixT s_var (s_c fun _ _ => .int _)) (s_cons (s_op so_ixT s_var (s_c fun _ _ => .int _)) s_nil))) s_next)
    (s_seq (s_asg (s_callN (s_cons s_var (s_cons s_var (s_cons s_var (s_cons s_var (s_cons s_var s_nil)))))) s_gname)
    (s_ret (s_callN (s_cons s_var (s_cons s_var (s_cons (s_callN (s_cons s_var (s_cons s_var (s_cons s_var (s_cons s_var (s_cons s_var s_nil)))))) (s_cons s_var (s_cons s_var s_nil))))))))))))))
theorem sc_law_beside : FnScope ["table", "low", "high", "is_left", "count", "first", "near", "far", "one", "other"] ["table", "low", "high", "is_left", "count"] (defScope (topS 40)) := ⟨rfl, rfl, rfl, by decide +kernel, rfl, by decide +kernel, by decide +kernel⟩
theorem body_law_beside {k : Nat} {Φ : Nat → DSpec} (T : Tx w K mg ad fu ca) (G_law_height : FnG P w K mg base CX0 (2 * k) (ad 34) (fu 34) ["tree"] (spN (cc K ca) (Φ 34))) (G_law_ordered : FnG P w K mg base CX0 (2 * k) (ad 39) (fu 39) ["table", "first", "second", "is_left", "count"] (spN (cc K ca) (Φ 39))) : Body P w K mg base (2 * k + 1) "_law_beside" (topS 40) (ad 40) ["table", "low", "high", "is_left", "count", "first", "near", "far", "one", "other"] (t_law_beside K ca Φ) := by
  intro cdv R out s Hh E gd ro
  have nd := sc_law_beside.nd
  have hu := ro.units0
  have hu65 : R.units + 3 + 65 < cLine := by have := ro.un; show R.units + 3 + 65 < cLine; have e : (R.deeper (envOfC "_law_beside" (defScope (topS 40)) s.heap.objs.size (ad 40) cdv)).units = R.units + 3 := rfl; rw [e] at this; omega
  unfold t_law_beside
  exact (pss_cons (ps_if (pt_cmpR op_le (pe_callG T.d_law_height G_law_height gd (ro.mono (by omega)) pass0 (pa_cons (pv 2) pa_nil)) (pe_op op_add (pe_callG T.d_law_height G_law_height gd (ro.mono (by omega)) pass0 (pa_cons (pv 1) pa_nil)) pe_int) (by rfl)) (pss_one (ps_ret (pe_callG T.d_law_ordered G_law_ordered gd (ro.mono (by omega)) pass0 (pa_cons (pv 0) (pa_cons (pv 1) (pa_cons (pv 2) (pa_cons (pv 3) (pa_cons (pv 4) pa_nil)))))))) pss_nil)
    (pss_cons (ps_par (i := 6) (j := 7) rfl nd rfl rfl (by decide) rfl rfl (pa_cons (pe_ix ix_tup (pv 2) pe_int (fun _ _ => rfl)) (pa_cons (pe_ix ix_tup (pv 2) pe_int (fun _ _ => rfl)) pa_nil)) (by rfl))
    (pss_cons (ps_if (pt_not (pt_val (pv 3))) (pss_one (ps_par (i := 6) (j := 7) rfl nd rfl rfl (by decide) rfl rfl (pa_cons (pe_ix ix_tup (pv 2) pe_int (fun _ _ => rfl)) (pa_cons (pe_ix ix_tup (pv 2) pe_int (fun _ _ => rfl)) pa_nil)) (by rfl))) pss_nil)
    (pss_cons (ps_if (pt_cmpR op_le (pe_callG T.d_law_height G_law_height gd (ro.mono (by omega)) pass0 (pa_cons (pv 6) pa_nil)) (pe_callG T.d_law_height G_law_height gd (ro.mono (by omega)) pass0 (pa_cons (pv 7) pa_nil)) (by rfl)) (pss_one (ps_ret (pe_callG T.d_law_ordered G_law_ordered gd (ro.mono (by omega)) pass0 (pa_cons (pv 0) (pa_cons (pe_callG T.d_law_ordered G_law_ordered gd (ro.mono (by omega)) pass0 (pa_cons (pv 0) (pa_cons (pv 1) (pa_cons (pv 6) (pa_cons (pv 3) (pa_cons (pv 4) pa_nil)))))) (pa_cons (pv 7) (pa_cons (pv 3) (pa_cons (pv 4) pa_nil)))))))) pss_nil)
    (pss_cons (ps_par (i := 8) (j := 9) rfl nd rfl rfl (by decide) rfl rfl (pa_cons (pe_ix ix_tup (pv 6) pe_int (fun _ _ => rfl)) (pa_cons (pe_ix ix_tup (pv 6) pe_int (fun _ _ => rfl)) pa_nil)) (by rfl))
    (pss_cons (ps_if (pt_not (pt_val (pv 3))) (pss_one (ps_par (i := 8) (j := 9) rfl nd rfl rfl (by decide) rfl rfl (pa_cons (pe_ix ix_tup (pv 6) pe_int (fun _ _ => rfl)) (pa_cons (pe_ix ix_tup (pv 6) pe_int (fun _ _ => rfl)) pa_nil)) (by rfl))) pss_nil)
    (pss_cons (ps_set (i := 5) nd rfl (by first | exact Or.inl rfl | exact Or.inr rfl) (pe_callG T.d_law_ordered G_law_ordered gd (ro.mono (by omega)) pass0 (pa_cons (pv 0) (pa_cons (pv 1) (pa_cons (pv 8) (pa_cons (pv 3) (pa_cons (pv 4) pa_nil)))))))
    (pss_one (ps_ret (pe_callG T.d_law_ordered G_law_ordered gd (ro.mono (by omega)) pass0 (pa_cons (pv 0) (pa_cons (pv 5) (pa_cons (pe_callG T.d_law_ordered G_law_ordered gd (ro.mono (by omega)) pass0 (pa_cons (pv 0) (pa_cons (pv 9) (pa_cons (pv 7) (pa_cons (pv 3) (pa_cons (pv 4) pa_nil)))))) (pa_cons (pv 3) (pa_cons (pv 4) pa_nil)))))))))))))))
/-! _law_join : slots 0=table 1=left 2=right 3=count 4=high 5=low -/
def t_law_join (K : PySem.W.Frag) (ca : Nat → Addr) (Φ : Nat → DSpec) : TS := 
  (tSeq (tIfS (tOr (tTest (tOp rdIsN (tVar 1) (tC .non))) (tTest (tOp rdIsN (tVar 2) (tC .non)))) (tRet (tOp (rIxL K) (tLst (tCons (tVar 1) (tCons (tVar 2) tNil))) (tCB rdInt (tCons (tOp rdIsN (tVar 1) (tC .non)) tNil)))) tNext)
    (tSeq (tPar 4 5 (tCons (rCallG (spN (cc K ca) (Φ 34)) E0 (tCons (tVar 1) tNil)) (tCons (rCallG (spN (cc K ca) (Φ 34)) E0 (tCons (tVar 2) tNil)) tNil)))
    (tSeq (tIfS (tTest (tOp rdLt (tCB rdAbs (tCons (tOp rdSub (tVar 4) (tVar 5)) tNil)) (tC (.int 2)))) (tRet (rCallG (spN (cc K ca) (Φ 36)) E0 (tCons (tVar 0) (tCons (tVar 1) (tCons (tVar 2) (tCons (tVar 3) tNil)))))) tNext)
    (tSeq (tIfS (tTest (tOp rdGt (tVar 4) (tVar 5))) (tRet (rCallG (spN (cc K ca) (Φ 40)) E0 (tCons (tVar 0) (tCons (tOp (rIxT K) (tVar 1) (tC (.int 1))) (tCons (rCallG (spN (cc K ca) (Φ 41)) E0 (tCons (tVar 0) (tCons (tOp (rIxT K) (tVar 1) (tC (.int 2))) (tCons (tVar 2) (tCons (tVar 3) tNil))))) (tCons (tC (.bl true)) (tCons (tVar 3) tNil))))))) tNext)
    (tRet (rCallG (spN (cc K ca) (Φ 40)) E0 (tCons (tVar 0) (tCons (tOp (rIxT K) (tVar 2) (tC (.int 2))) (tCons (rCallG (spN (cc K ca) (Φ 41)) E0 (tCons (tVar 0) (tCons (tVar 1) (tCons (tOp (rIxT K) (tVar 2) (tC (.int 1))) (tCons (tVar 3) tNil))))) (tCons (tC (.bl false)) (tCons (tVar 3) tNil)))))))))))
theorem snd_law_join (T : Tx w K mg ad fu ca) (Φ : Nat → DSpec) : SS (cc K ca) noW (t_law_join K ca Φ) (d_law_join Φ) := by
  unfold t_law_join d_law_join
  exact (s_seq (s_ifS (s_or (s_test (s_op so_isN s_var (s_c fun _ _ => .non))) (s_test (s_op so_isN s_var (s_c fun _ _ => .non)))) (s_ret (s_op so_ixL (s_lst (s_cons s_var (s_cons s_var s_nil))) (s_b so_int (s_cons (s_op so_isN s_var (s_c fun _ _ => .non)) s_nil)))) s_next)
    (s_seq (s_par (s_cons (s_callN (s_cons s_var s_nil)) (s_cons (s_callN (s_cons s_var s_nil)) s_nil)))
    (s_seq (s_ifS (s_test (s_op so_lt (s_b so_abs (s_cons (s_op so_sub s_var s_var) s_nil)) (s_c fun _ _ => .int _))) (s_ret (s_callN (s_cons s_var (s_cons s_var (s_cons s_var (s_cons s_var s_nil)))))) s_next)
    (s_seq (s_ifS (s_test (s_op so_gt s_var s_var)) (s_ret (s_callN (s_cons s_var (s_cons (s_op so_ixT s_var (s_c fun _ _ => .int _)) (s_cons (s_callN (s_cons s_var (s_cons (s_op so_ixT s_var (s_c fun _ _ => .int _)) (s_cons s_var (s_cons s_var s_nil))))) (s_cons (s_c fun _ _ => .bl _) (s_cons s_var s_nil))))))) s_next)
    (s_ret (s_callN (s_cons s_var (s_cons (s_op so_ixT s_var (s_c fun _ _ => .int _)) (s_cons (s_callN (s_cons s_var (s_cons s_var (s_cons (s_op so_ixT s_var (s_c fun _ _ => .int _)) (s_cons s_var s_nil))))) (s_cons (s_c fun _ _ => .bl _) (s_cons s_var s_nil)))))))))))
theorem sc_law_join : FnScope ["table", "left", "right", "count", "high", "low"] ["table", "left", "right", "count"] (defScope (topS 41)) := ⟨rfl, rfl, rfl, by decide +kernel, rfl, by decide +kernel, by decide +kernel⟩
theorem body_law_join {k : Nat} {Φ : Nat → DSpec} (T : Tx w K mg ad fu ca) (G_law_beside : FnG P w K mg base CX0 (2 * k) (ad 40) (fu 40) ["table", "low", "high", "is_left", "count"] (spN (cc K ca) (Φ 40))) (G_law_height : FnG P w K mg base CX0 (2 * k) (ad 34) (fu 34) ["tree"] (spN (cc K ca) (Φ 34))) (G_law_join : FnG P w K mg base CX0 (2 * k) (ad 41) (fu 41) ["table", "left", "right", "count"] (spN (cc K ca) (Φ 41))) (G_law_node : FnG P w K mg base CX0 (2 * k) (ad 36) (fu 36) ["table", "left", "right", "count"] (spN (cc K ca) (Φ 36))) : Body P w K mg base (2 * k + 1) "_law_join" (topS 41) (ad 41) ["table", "left", "right", "count", "high", "low"] (t_law_join K ca Φ) := by
  intro cdv R out s Hh E gd ro
  have nd := sc_law_join.nd
  have hu := ro.units0
  have hu65 : R.units + 3 + 65 < cLine := by have := ro.un; show R.units + 3 + 65 < cLine; have e : (R.deeper (envOfC "_law_join" (defScope (topS 41)) s.heap.objs.size (ad 41) cdv)).units = R.units + 3 := rfl; rw [e] at this; omega
  unfold t_law_join
  exact (pss_cons (ps_if (PW.pt (pw_or (pt_cmpR op_isN (pv 1) pe_non (by rfl)) (pw_or1 (pt_cmpR op_isN (pv 2) pe_non (by rfl))))) (pss_one (ps_ret (pe_ix ix_list (pe_lst (pa_cons (pv 1) (pa_cons (pv 2) pa_nil))) (pe_callTy call_int1 (by rfl) T.b_int (by decide +kernel) (pa_cons (pe_cmpR op_isN (pv 1) pe_non (by rfl)) pa_nil)) (fun _ _ => rfl)))) pss_nil)
    (pss_cons (ps_par (i := 4) (j := 5) rfl nd rfl rfl (by decide) rfl rfl (pa_cons (pe_callG T.d_law_height G_law_height gd (ro.mono (by omega)) pass0 (pa_cons (pv 1) pa_nil)) (pa_cons (pe_callG T.d_law_height G_law_height gd (ro.mono (by omega)) pass0 (pa_cons (pv 2) pa_nil)) pa_nil)) (by rfl))
    (pss_cons (ps_if (pt_cmpR op_lt (pe_callB call_abs (by rfl) T.b_abs (by decide +kernel) (pa_cons (pe_op op_sub (pv 4) (pv 5)) pa_nil)) pe_int (by rfl)) (pss_one (ps_ret (pe_callG T.d_law_node G_law_node gd (ro.mono (by omega)) pass0 (pa_cons (pv 0) (pa_cons (pv 1) (pa_cons (pv 2) (pa_cons (pv 3) pa_nil))))))) pss_nil)
    (pss_cons (ps_if (pt_cmpR op_gt (pv 4) (pv 5) (by rfl)) (pss_one (ps_ret (pe_callG T.d_law_beside G_law_beside gd (ro.mono (by omega)) pass0 (pa_cons (pv 0) (pa_cons (pe_ix ix_tup (pv 1) pe_int (fun _ _ => rfl)) (pa_cons (pe_callG T.d_law_join G_law_join gd (ro.mono (by omega)) pass0 (pa_cons (pv 0) (pa_cons (pe_ix ix_tup (pv 1) pe_int (fun _ _ => rfl)) (pa_cons (pv 2) (pa_cons (pv 3) pa_nil))))) (pa_cons pe_bl (pa_cons (pv 3) pa_nil)))))))) pss_nil)
    (pss_one (ps_ret (pe_callG T.d_law_beside G_law_beside gd (ro.mono (by omega)) pass0 (pa_cons (pv 0) (pa_cons (pe_ix ix_tup (pv 2) pe_int (fun _ _ => rfl)) (pa_cons (pe_callG T.d_law_join G_law_join gd (ro.mono (by omega)) pass0 (pa_cons (pv 0) (pa_cons (pv 1) (pa_cons (pe_ix ix_tup (pv 2) pe_int (fun _ _ => rfl)) (pa_cons (pv 3) pa_nil))))) (pa_cons pe_bl (pa_cons (pv 3) pa_nil))))))))))))
/-! _law_cut : slots 0=table 1=tree 2=place 3=count 4=many 5=first 6=ahead 7=behind -/
def t_law_cut (K : PySem.W.Frag) (ca : Nat → Addr) (Φ : Nat → DSpec) : TS := 
  (tSeq (tIfS (tTest (tOp rEq (tVar 2) (tC (.int 0)))) (tRet (tTup (tCons (tC .non) (tCons (tVar 1) tNil)))) tNext)
    (tSeq (tAsg (rCallG (spN (cc K ca) (Φ 35)) E0 (tCons (tVar 1) tNil)) (gName 4))
    (tSeq (tIfS (tTest (tOp rEq (tVar 2) (tVar 4))) (tRet (tTup (tCons (tVar 1) (tCons (tC .non) tNil)))) tNext)
    (tSeq (tAsg (rCallG (spN (cc K ca) (Φ 35)) E0 (tCons (tOp (rIxT K) (tVar 1) (tC (.int 1))) tNil)) (gName 5))
    (tSeq (tIfS (tTest (tOp rdLe (tVar 2) (tVar 5))) (tSeq (tAsg (rCallG (spN (cc K ca) (Φ 42)) E0 (tCons (tVar 0) (tCons (tOp (rIxT K) (tVar 1) (tC (.int 1))) (tCons (tVar 2) (tCons (tVar 3) tNil))))) (gTup K 2 (gCons (gName 6) (gCons (gName 7) gNil))))
    (tRet (tTup (tCons (tVar 6) (tCons (rCallG (spN (cc K ca) (Φ 41)) E0 (tCons (tVar 0) (tCons (tVar 7) (tCons (tOp (rIxT K) (tVar 1) (tC (.int 2))) (tCons (tVar 3) tNil))))) tNil))))) tNext)
    (tSeq (tAsg (rCallG (spN (cc K ca) (Φ 42)) E0 (tCons (tVar 0) (tCons (tOp (rIxT K) (tVar 1) (tC (.int 2))) (tCons (tOp rdSub (tVar 2) (tVar 5)) (tCons (tVar 3) tNil))))) (gTup K 2 (gCons (gName 6) (gCons (gName 7) gNil))))
    (tRet (tTup (tCons (rCallG (spN (cc K ca) (Φ 41)) E0 (tCons (tVar 0) (tCons (tOp (rIxT K) (tVar 1) (tC (.int 1))) (tCons (tVar 6) (tCons (tVar 3) tNil))))) (tCons (tVar 7) tNil))))))))))
theorem snd_law_cut (T : Tx w K mg ad fu ca) (Φ : Nat → DSpec) : SS (cc K ca) noW (t_law_cut K ca Φ) (d_law_cut Φ) := by
  unfold t_law_cut d_law_cut
  exact (s_seq (s_ifS (s_test (s_op so_eq s_var (s_c fun _ _ => .int _))) (s_ret (s_tup (s_cons (s_c fun _ _ => .non) (s_cons s_var s_nil)))) s_next)
    (s_seq (s_asg (s_callN (s_cons s_var s_nil)) s_gname)
    (s_seq (s_ifS (s_test (s_op so_eq s_var s_var)) (s_ret (s_tup (s_cons s_var (s_cons (s_c fun _ _ => .non) s_nil)))) s_next)
    (s_seq (s_asg (s_callN (s_cons (s_op so_ixT s_var (s_c fun _ _ => .int _)) s_nil)) s_gname)
    (s_seq (s_ifS (s_test (s_op so_le s_var s_var)) (s_seq (s_asg (s_callN (s_cons s_var (s_cons (s_op so_ixT s_var (s_c fun _ _ => .int _)) (s_cons s_var (s_cons s_var s_nil))))) (s_gtup (s_gcons s_gname (s_gcons s_gname s_gnil))))
    (s_ret (s_tup (s_cons s_var (s_cons (s_callN (s_cons s_var (s_cons s_var (s_cons (s_op so_ixT s_var (s_c fun _ _ => .int _)) (s_cons s_var s_nil))))) s_nil))))) s_next)
    (s_seq (s_asg (s_callN (s_cons s_var (s_cons (s_op so_ixT s_var (s_c fun _ _ => .int _)) (s_cons (s_op so_sub s_var s_var) (s_cons s_var s_nil))))) (s_gtup (s_gcons s_gname (s_gcons s_gname s_gnil))))
    (s_ret (s_tup (s_cons (s_callN (s_cons s_var (s_cons (s_op so_ixT s_var (s_c fun _ _ => .int _)) (s_cons s_var (s_cons s_var s_nil))))) (s_cons s_var s_nil))))))))))
theorem sc_law_cut : FnScope ["table", "tree", "place", "count", "many", "first", "ahead", "behind"] ["table", "tree", "place", "count"] (defScope (topS 42)) := ⟨rfl, rfl, rfl, by decide +kernel, rfl, by decide +kernel, by decide +kernel⟩
theorem body_law_cut {k : Nat} {Φ : Nat → DSpec} (T : Tx w K mg ad fu ca) (G_law_cut : FnG P w K mg base CX0 (2 * k) (ad 42) (fu 42) ["table", "tree", "place", "count"] (spN (cc K ca) (Φ 42))) (G_law_join : FnG P w K mg base CX0 (2 * k) (ad 41) (fu 41) ["table", "left", "right", "count"] (spN (cc K ca) (Φ 41))) (G_law_many : FnG P w K mg base CX0 (2 * k) (ad 35) (fu 35) ["tree"] (spN (cc K ca) (Φ 35))) : Body P w K mg base (2 * k + 1) "_law_cut" (topS 42) (ad 42) ["table", "tree", "place", "count", "many", "first", "ahead", "behind"] (t_law_cut K ca Φ) := by
  intro cdv R out s Hh E gd ro
  have nd := sc_law_cut.nd
  have hu := ro.units0
  have hu65 : R.units + 3 + 65 < cLine := by have := ro.un; show R.units + 3 + 65 < cLine; have e : (R.deeper (envOfC "_law_cut" (defScope (topS 42)) s.heap.objs.size (ad 42) cdv)).units = R.units + 3 := rfl; rw [e] at this; omega
  unfold t_law_cut
  exact (pss_cons (ps_if (pt_cmpR op_eq (pv 2) pe_int (by rfl)) (pss_one (ps_ret (pe_tup (pa_cons pe_non (pa_cons (pv 1) pa_nil))))) pss_nil)
    (pss_cons (ps_set (i := 4) nd rfl (by first | exact Or.inl rfl | exact Or.inr rfl) (pe_callG T.d_law_many G_law_many gd (ro.mono (by omega)) pass0 (pa_cons (pv 1) pa_nil)))
    (pss_cons (ps_if (pt_cmpR op_eq (pv 2) (pv 4) (by rfl)) (pss_one (ps_ret (pe_tup (pa_cons (pv 1) (pa_cons pe_non pa_nil))))) pss_nil)
    (pss_cons (ps_set (i := 5) nd rfl (by first | exact Or.inl rfl | exact Or.inr rfl) (pe_callG T.d_law_many G_law_many gd (ro.mono (by omega)) pass0 (pa_cons (pe_ix ix_tup (pv 1) pe_int (fun _ _ => rfl)) pa_nil)))
    (pss_cons (ps_if (pt_cmpR op_le (pv 2) (pv 5) (by rfl)) (pss_cons (ps_asg (pe_callG T.d_law_cut G_law_cut gd (ro.mono (by omega)) pass0 (pa_cons (pv 0) (pa_cons (pe_ix ix_tup (pv 1) pe_int (fun _ _ => rfl)) (pa_cons (pv 2) (pa_cons (pv 3) pa_nil))))) (pg_tup rfl (pgs_cons (pg_name (i := 6) nd rfl (by first | exact Or.inl rfl | exact Or.inr rfl)) (pgs_cons (pg_name (i := 7) nd rfl (by first | exact Or.inl rfl | exact Or.inr rfl)) pgs_nil))))
    (pss_one (ps_ret (pe_tup (pa_cons (pv 6) (pa_cons (pe_callG T.d_law_join G_law_join gd (ro.mono (by omega)) pass0 (pa_cons (pv 0) (pa_cons (pv 7) (pa_cons (pe_ix ix_tup (pv 1) pe_int (fun _ _ => rfl)) (pa_cons (pv 3) pa_nil))))) pa_nil)))))) pss_nil)
    (pss_cons (ps_asg (pe_callG T.d_law_cut G_law_cut gd (ro.mono (by omega)) pass0 (pa_cons (pv 0) (pa_cons (pe_ix ix_tup (pv 1) pe_int (fun _ _ => rfl)) (pa_cons (pe_op op_sub (pv 2) (pv 5)) (pa_cons (pv 3) pa_nil))))) (pg_tup rfl (pgs_cons (pg_name (i := 6) nd rfl (by first | exact Or.inl rfl | exact Or.inr rfl)) (pgs_cons (pg_name (i := 7) nd rfl (by first | exact Or.inl rfl | exact Or.inr rfl)) pgs_nil))))
    (pss_one (ps_ret (pe_tup (pa_cons (pe_callG T.d_law_join G_law_join gd (ro.mono (by omega)) pass0 (pa_cons (pv 0) (pa_cons (pe_ix ix_tup (pv 1) pe_int (fun _ _ => rfl)) (pa_cons (pv 6) (pa_cons (pv 3) pa_nil))))) (pa_cons (pv 7) pa_nil)))))))))))
/-! _law_leaves : slots 0=tree -/
def t_law_leaves (K : PySem.W.Frag) (ca : Nat → Addr) (Φ : Nat → DSpec) : TS := 
  (tSeq (tIfS (tTest (tOp rEq (tCB (rdLen K) (tCons (tVar 0) tNil)) (tC (.int 2)))) (tRet (tLst (tCons (tOp (rIxT K) (tVar 0) (tC (.int 1))) tNil))) tNext)
    (tRet (tOp rCat (rCallG (spN (cc K ca) (Φ 43)) E0 (tCons (tOp (rIxT K) (tVar 0) (tC (.int 1))) tNil)) (rCallG (spN (cc K ca) (Φ 43)) E0 (tCons (tOp (rIxT K) (tVar 0) (tC (.int 2))) tNil)))))
theorem snd_law_leaves (T : Tx w K mg ad fu ca) (Φ : Nat → DSpec) : SS (cc K ca) noW (t_law_leaves K ca Φ) (d_law_leaves Φ) := by
  unfold t_law_leaves d_law_leaves
  exact (s_seq (s_ifS (s_test (s_op so_eq (s_b so_len (s_cons s_var s_nil)) (s_c fun _ _ => .int _))) (s_ret (s_lst (s_cons (s_op so_ixT s_var (s_c fun _ _ => .int _)) s_nil))) s_next)
    (s_ret (s_op so_cat (s_callN (s_cons (s_op so_ixT s_var (s_c fun _ _ => .int _)) s_nil)) (s_callN (s_cons (s_op so_ixT s_var (s_c fun _ _ => .int _)) s_nil)))))
theorem sc_law_leaves : FnScope ["tree"] ["tree"] (defScope (topS 43)) := ⟨rfl, rfl, rfl, by decide +kernel, rfl, by decide +kernel, by decide +kernel⟩
theorem body_law_leaves {k : Nat} {Φ : Nat → DSpec} (T : Tx w K mg ad fu ca) (G_law_leaves : FnG P w K mg base CX0 (2 * k) (ad 43) (fu 43) ["tree"] (spN (cc K ca) (Φ 43))) : Body P w K mg base (2 * k + 1) "_law_leaves" (topS 43) (ad 43) ["tree"] (t_law_leaves K ca Φ) := by
  intro cdv R out s Hh E gd ro
  have nd := sc_law_leaves.nd
  have hu := ro.units0
  have hu65 : R.units + 3 + 65 < cLine := by have := ro.un; show R.units + 3 + 65 < cLine; have e : (R.deeper (envOfC "_law_leaves" (defScope (topS 43)) s.heap.objs.size (ad 43) cdv)).units = R.units + 3 := rfl; rw [e] at this; omega
  unfold t_law_leaves
  exact (pss_cons (ps_if (pt_cmpR op_eq (pe_callB call_len_seq (by rfl) T.b_len (by decide +kernel) (pa_cons (pv 0) pa_nil)) pe_int (by rfl)) (pss_one (ps_ret (pe_lst (pa_cons (pe_ix ix_tup (pv 0) pe_int (fun _ _ => rfl)) pa_nil)))) pss_nil)
    (pss_one (ps_ret (pe_op op_cat (pe_callG T.d_law_leaves G_law_leaves gd (ro.mono (by omega)) pass0 (pa_cons (pe_ix ix_tup (pv 0) pe_int (fun _ _ => rfl)) pa_nil)) (pe_callG T.d_law_leaves G_law_leaves gd (ro.mono (by omega)) pass0 (pa_cons (pe_ix ix_tup (pv 0) pe_int (fun _ _ => rfl)) pa_nil))))))
/-! _law_right_tree : slots 0=table 1=tree -/
def t_law_right_tree (K : PySem.W.Frag) (ca : Nat → Addr) (Φ : Nat → DSpec) : TS := 
  (tSeq (tIfS (tTest (tOp rEq (tCB (rdLen K) (tCons (tVar 1) tNil)) (tC (.int 2)))) (tRet (tAndV (tOp (rIn K false) (tOp (rIxT K) (tVar 1) (tC (.int 1))) (tOp (rIxT K) (tVar 0) (tC (.int 0)))) (tOp rEq (tOp (rIxT K) (tVar 1) (tC (.int 0))) (tOp (rIxT K) (tOp (rIxT K) (tVar 0) (tC (.int 1))) (tBMT (rdTupIndex K) (tOp (rIxT K) (tVar 0) (tC (.int 0))) (tCons (tOp (rIxT K) (tVar 1) (tC (.int 1))) tNil)))))) tNext)
    (tSeq (tIfS (tOr (tTest (tOp rdGt (tCB rdAbs (tCons (tOp rdSub (rCallG (spN (cc K ca) (Φ 34)) E0 (tCons (tOp (rIxT K) (tVar 1) (tC (.int 1))) tNil)) (rCallG (spN (cc K ca) (Φ 34)) E0 (tCons (tOp (rIxT K) (tVar 1) (tC (.int 2))) tNil))) tNil)) (tC (.int 1)))) (tOr (tNot (tB (rCallG (spN (cc K ca) (Φ 44)) E0 (tCons (tVar 0) (tCons (tOp (rIxT K) (tVar 1) (tC (.int 1))) tNil))))) (tNot (tB (rCallG (spN (cc K ca) (Φ 44)) E0 (tCons (tVar 0) (tCons (tOp (rIxT K) (tVar 1) (tC (.int 2))) tNil))))))) (tRet (tC (.bl false))) tNext)
    (tRet (tOp rEq (tOp (rIxT K) (tVar 1) (tC (.int 0))) (tOp (rIxT K) (tOp (rIxT K) (tOp (rIxT K) (tVar 0) (tC (.int 2))) (tOp (rIxT K) (tOp (rIxT K) (tVar 1) (tC (.int 1))) (tC (.int 0)))) (tOp (rIxT K) (tOp (rIxT K) (tVar 1) (tC (.int 2))) (tC (.int 0))))))))
theorem snd_law_right_tree (T : Tx w K mg ad fu ca) (Φ : Nat → DSpec) : SS (cc K ca) noW (t_law_right_tree K ca Φ) (d_law_right_tree Φ) := by
  unfold t_law_right_tree d_law_right_tree
  exact (s_seq (s_ifS (s_test (s_op so_eq (s_b so_len (s_cons s_var s_nil)) (s_c fun _ _ => .int _))) (s_ret (s_andV (s_op (so_in false) (s_op so_ixT s_var (s_c fun _ _ => .int _)) (s_op so_ixT s_var (s_c fun _ _ => .int _))) (s_op so_eq (s_op so_ixT s_var (s_c fun _ _ => .int _)) (s_op so_ixT (s_op so_ixT s_var (s_c fun _ _ => .int _)) (s_ixT (s_op so_ixT s_var (s_c fun _ _ => .int _)) (s_cons (s_op so_ixT s_var (s_c fun _ _ => .int _)) s_nil)))))) s_next)
    (s_seq (s_ifS (s_or (s_test (s_op so_gt (s_b so_abs (s_cons (s_op so_sub (s_callN (s_cons (s_op so_ixT s_var (s_c fun _ _ => .int _)) s_nil)) (s_callN (s_cons (s_op so_ixT s_var (s_c fun _ _ => .int _)) s_nil))) s_nil)) (s_c fun _ _ => .int _))) (s_or (s_not (s_B (s_callN (s_cons s_var (s_cons (s_op so_ixT s_var (s_c fun _ _ => .int _)) s_nil))))) (s_not (s_B (s_callN (s_cons s_var (s_cons (s_op so_ixT s_var (s_c fun _ _ => .int _)) s_nil))))))) (s_ret (s_c fun _ _ => .bl _)) s_next)
    (s_ret (s_op so_eq (s_op so_ixT s_var (s_c fun _ _ => .int _)) (s_op so_ixT (s_op so_ixT (s_op so_ixT s_var (s_c fun _ _ => .int _)) (s_op so_ixT (s_op so_ixT s_var (s_c fun _ _ => .int _)) (s_c fun _ _ => .int _))) (s_op so_ixT (s_op so_ixT s_var (s_c fun _ _ => .int _)) (s_c fun _ _ => .int _)))))))
theorem sc_law_right_tree : FnScope ["table", "tree"] ["table", "tree"] (defScope (topS 44)) := ⟨rfl, rfl, rfl, by decide +kernel, rfl, by decide +kernel, by decide +kernel⟩
theorem body_law_right_tree {k : Nat} {Φ : Nat → DSpec} (T : Tx w K mg ad fu ca) (G_law_height : FnG P w K mg base CX0 (2 * k) (ad 34) (fu 34) ["tree"] (spN (cc K ca) (Φ 34))) (G_law_right_tree : FnG P w K mg base CX0 (2 * k) (ad 44) (fu 44) ["table", "tree"] (spN (cc K ca) (Φ 44))) : Body P w K mg base (2 * k + 1) "_law_right_tree" (topS 44) (ad 44) ["table", "tree"] (t_law_right_tree K ca Φ) := by
  intro cdv R out s Hh E gd ro
  have nd := sc_law_right_tree.nd
  have hu := ro.units0
  have hu65 : R.units + 3 + 65 < cLine := by have := ro.un; show R.units + 3 + 65 < cLine; have e : (R.deeper (envOfC "_law_right_tree" (defScope (topS 44)) s.heap.objs.size (ad 44) cdv)).units = R.units + 3 := rfl; rw [e] at this; omega
  unfold t_law_right_tree
  exact (pss_cons (ps_if (pt_cmpR op_eq (pe_callB call_len_seq (by rfl) T.b_len (by decide +kernel) (pa_cons (pv 1) pa_nil)) pe_int (by rfl)) (pss_one (ps_ret (pe_and (pe_cmpR op_in_seq (pe_ix ix_tup (pv 1) pe_int (fun _ _ => rfl)) (pe_ix ix_tup (pv 0) pe_int (fun _ _ => rfl)) (by rfl)) (pe_one (pe_cmpR op_eq (pe_ix ix_tup (pv 1) pe_int (fun _ _ => rfl)) (pe_ix ix_tup (pe_ix ix_tup (pv 0) pe_int (fun _ _ => rfl)) (pe_bmT PySem.F.plainAttrs_tuple PySem.F.slot_tuple_index PySem.F.type_tuple_index mt_tup_index (pe_ix ix_tup (pv 0) pe_int (fun _ _ => rfl)) (pa_cons (pe_ix ix_tup (pv 1) pe_int (fun _ _ => rfl)) pa_nil)) (fun _ _ => rfl)) (by rfl)))))) pss_nil)
    (pss_cons (ps_if (PW.pt (pw_or (pt_cmpR op_gt (pe_callB call_abs (by rfl) T.b_abs (by decide +kernel) (pa_cons (pe_op op_sub (pe_callG T.d_law_height G_law_height gd (ro.mono (by omega)) pass0 (pa_cons (pe_ix ix_tup (pv 1) pe_int (fun _ _ => rfl)) pa_nil)) (pe_callG T.d_law_height G_law_height gd (ro.mono (by omega)) pass0 (pa_cons (pe_ix ix_tup (pv 1) pe_int (fun _ _ => rfl)) pa_nil))) pa_nil)) pe_int (by rfl)) (pw_or (pt_not (pt_val (pe_callG T.d_law_right_tree G_law_right_tree gd (ro.mono (by omega)) pass0 (pa_cons (pv 0) (pa_cons (pe_ix ix_tup (pv 1) pe_int (fun _ _ => rfl)) pa_nil))))) (pw_or1 (pt_not (pt_val (pe_callG T.d_law_right_tree G_law_right_tree gd (ro.mono (by omega)) pass0 (pa_cons (pv 0) (pa_cons (pe_ix ix_tup (pv 1) pe_int (fun _ _ => rfl)) pa_nil))))))))) (pss_one (ps_ret pe_bl)) pss_nil)
    (pss_one (ps_ret (pe_cmpR op_eq (pe_ix ix_tup (pv 1) pe_int (fun _ _ => rfl)) (pe_ix ix_tup (pe_ix ix_tup (pe_ix ix_tup (pv 0) pe_int (fun _ _ => rfl)) (pe_ix ix_tup (pe_ix ix_tup (pv 1) pe_int (fun _ _ => rfl)) pe_int (fun _ _ => rfl)) (fun _ _ => rfl)) (pe_ix ix_tup (pe_ix ix_tup (pv 1) pe_int (fun _ _ => rfl)) pe_int (fun _ _ => rfl)) (fun _ _ => rfl)) (by rfl))))))
/-! _law_told : slots 0=way 1=table 2=first 3=second 4=e -/
def t_law_told (K : PySem.W.Frag) (ca : Nat → Addr) (Φ : Nat → DSpec) : TS := 
  (fun D sl Hh => (fun W => (tSeq (tIfS (tTest (tOp rEq (tVar 0) (tC (.int 0)))) (tRet (tTup (tCons (tC (.str "told")) (tCons (tCallS (spX (cc K ca) (Φ 17)) (WE W) (tCons (tVar 1) (tCons (tVar 2) tNil))) tNil)))) tNext)
    (tSeq (tIfS (tTest (tOp rEq (tVar 0) (tC (.int 1)))) (tRet (tTup (tCons (tC (.str "told")) (tCons (rCallG (spN (cc K ca) (Φ 18)) E0 (tCons (tVar 1) (tCons (tVar 2) (tCons (tVar 3) tNil)))) tNil)))) tNext)
    (tSeq (tIfS (tTest (tOp rEq (tVar 0) (tC (.int 2)))) (tRet (tTup (tCons (tC (.str "told")) (tCons (tCallS (spX (cc K ca) (Φ 19)) (WE W) (tCons (tVar 1) (tCons (tVar 2) (tCons (tVar 3) tNil)))) tNil)))) tNext)
    (tRet (tTup (tCons (tC (.str "told")) (tCons (tCallS (spX (cc K ca) (Φ 20)) (WE W) (tCons (tVar 1) (tCons (tVar 2) (tCons (tVar 3) tNil)))) tNil)))))))) (wishA K noW D ((.ref (ca 22), 4, fun ah cc dx => tIs cc dx (.ref (ca 22)) (tRet (tOp (rIxL K) (tLst (tCons (tC (.str "refused")) (tCons (tC (.str "odd")) tNil))) (tCB rdInt (tCons (tOrV (tNotV (tCB (rIsE K (ca 22) ah) (tCons (tVar 4) (tCons (tC (.ref (ca 21))) tNil)))) (tCB (rIsEs K (ca 22) ah) (tCons (tVar 4) (tCons (tTup (tCons (tC (.ref (ca 24))) (tCons (tC (.ref (ca 25))) (tCons (tC (.ref (ca 23))) tNil)))) tNil)))) tNil))))) :: ((.ref (ca 25), 4, fun ah cc dx => tIs cc dx (.ref (ca 25)) (tRet (tOp (rIxL K) (tLst (tCons (tC (.str "paper")) (tCons (tC (.str "odd")) tNil))) (tCB rdInt (tCons (tOrV (tNotV (tCB (rIsE K (ca 25) ah) (tCons (tVar 4) (tCons (tC (.ref (ca 21))) tNil)))) (tCB (rIsEs K (ca 25) ah) (tCons (tVar 4) (tCons (tTup (tCons (tC (.ref (ca 24))) (tCons (tC (.ref (ca 22))) (tCons (tC (.ref (ca 23))) tNil)))) tNil)))) tNil))))) :: []))) D sl Hh)
theorem snd_law_told (T : Tx w K mg ad fu ca) (Φ : Nat → DSpec) : SS (cc K ca) noW (t_law_told K ca Φ) (d_law_told Φ) := by
  unfold t_law_told d_law_told
  exact (s_try (exm_ok T) (t := fun W => (tSeq (tIfS (tTest (tOp rEq (tVar 0) (tC (.int 0)))) (tRet (tTup (tCons (tC (.str "told")) (tCons (tCallS (spX (cc K ca) (Φ 17)) (WE W) (tCons (tVar 1) (tCons (tVar 2) tNil))) tNil)))) tNext)
    (tSeq (tIfS (tTest (tOp rEq (tVar 0) (tC (.int 1)))) (tRet (tTup (tCons (tC (.str "told")) (tCons (rCallG (spN (cc K ca) (Φ 18)) E0 (tCons (tVar 1) (tCons (tVar 2) (tCons (tVar 3) tNil)))) tNil)))) tNext)
    (tSeq (tIfS (tTest (tOp rEq (tVar 0) (tC (.int 2)))) (tRet (tTup (tCons (tC (.str "told")) (tCons (tCallS (spX (cc K ca) (Φ 19)) (WE W) (tCons (tVar 1) (tCons (tVar 2) (tCons (tVar 3) tNil)))) tNil)))) tNext)
    (tRet (tTup (tCons (tC (.str "told")) (tCons (tCallS (spX (cc K ca) (Φ 20)) (WE W) (tCons (tVar 1) (tCons (tVar 2) (tCons (tVar 3) tNil)))) tNil)))))))) (fun W => (s_seq (s_ifS (s_test (s_op so_eq s_var (s_c fun _ _ => .int _))) (s_ret (s_tup (s_cons (s_c fun _ _ => .str _) (s_cons (s_callS (s_cons s_var (s_cons s_var s_nil))) s_nil)))) s_next)
    (s_seq (s_ifS (s_test (s_op so_eq s_var (s_c fun _ _ => .int _))) (s_ret (s_tup (s_cons (s_c fun _ _ => .str _) (s_cons (s_callN (s_cons s_var (s_cons s_var (s_cons s_var s_nil)))) s_nil)))) s_next)
    (s_seq (s_ifS (s_test (s_op so_eq s_var (s_c fun _ _ => .int _))) (s_ret (s_tup (s_cons (s_c fun _ _ => .str _) (s_cons (s_callS (s_cons s_var (s_cons s_var (s_cons s_var s_nil)))) s_nil)))) s_next)
    (s_ret (s_tup (s_cons (s_c fun _ _ => .str _) (s_cons (s_callS (s_cons s_var (s_cons s_var (s_cons s_var s_nil)))) s_nil)))))))) (SHs.cons (fun ah => (s_ret (s_op so_ixL (s_lst (s_cons (s_c fun _ _ => .str _) (s_cons (s_c fun _ _ => .str _) s_nil))) (s_b so_int (s_cons (s_orV (s_notV (s_isE (kit_ok T))) (s_isEs (ns := [24, 25, 23]) (kit_ok T) (by decide))) s_nil))))) (SHs.cons (fun ah => (s_ret (s_op so_ixL (s_lst (s_cons (s_c fun _ _ => .str _) (s_cons (s_c fun _ _ => .str _) s_nil))) (s_b so_int (s_cons (s_orV (s_notV (s_isE (kit_ok T))) (s_isEs (ns := [24, 22, 23]) (kit_ok T) (by decide))) s_nil))))) SHs.nil)))
theorem sc_law_told : FnScope ["way", "table", "first", "second", "e"] ["way", "table", "first", "second"] (defScope (topS 45)) := ⟨rfl, rfl, rfl, by decide +kernel, rfl, by decide +kernel, by decide +kernel⟩
theorem body_law_told {k : Nat} {Φ : Nat → DSpec} (T : Tx w K mg ad fu ca) (F_built : FnOk P w K mg base (L2.CX P w) (2 * k) (ad 17) (fu 17) ["table", "log"] (spX (cc K ca) (Φ 17))) (F_cut_at : FnOk P w K mg base (L2.CX P w) (2 * k) (ad 19) (fu 19) ["table", "tree", "place"] (spX (cc K ca) (Φ 19))) (F_joined : FnOk P w K mg base CX0 (2 * k) (ad 18) (fu 18) ["table", "first", "second"] (spN (cc K ca) (Φ 18))) (F_judge_tree : FnOk P w K mg base (L2.CX P w) (2 * k) (ad 20) (fu 20) ["table", "log", "tree"] (spX (cc K ca) (Φ 20))) : BodyP P w K mg base (2 * k + 1) "_law_told" (topS 45) (ad 45) ["way", "table", "first", "second", "e"] (t_law_told K ca Φ) := by
  intro cdv R out s Hh E ro
  have nd := sc_law_told.nd
  have hu := ro.units0
  have hu65 : R.units + 3 + 65 < cLine := by have := ro.un; show R.units + 3 + 65 < cLine; have e : (R.deeper (envOfC "_law_told" (defScope (topS 45)) s.heap.objs.size (ad 45) cdv)).units = R.units + 3 := rfl; rw [e] at this; omega
  unfold t_law_told
  exact (pss_one (ps_try_named (tb := fun W => (tSeq (tIfS (tTest (tOp rEq (tVar 0) (tC (.int 0)))) (tRet (tTup (tCons (tC (.str "told")) (tCons (tCallS (spX (cc K ca) (Φ 17)) (WE W) (tCons (tVar 1) (tCons (tVar 2) tNil))) tNil)))) tNext)
    (tSeq (tIfS (tTest (tOp rEq (tVar 0) (tC (.int 1)))) (tRet (tTup (tCons (tC (.str "told")) (tCons (rCallG (spN (cc K ca) (Φ 18)) E0 (tCons (tVar 1) (tCons (tVar 2) (tCons (tVar 3) tNil)))) tNil)))) tNext)
    (tSeq (tIfS (tTest (tOp rEq (tVar 0) (tC (.int 2)))) (tRet (tTup (tCons (tC (.str "told")) (tCons (tCallS (spX (cc K ca) (Φ 19)) (WE W) (tCons (tVar 1) (tCons (tVar 2) (tCons (tVar 3) tNil)))) tNil)))) tNext)
    (tRet (tTup (tCons (tC (.str "told")) (tCons (tCallS (spX (cc K ca) (Φ 20)) (WE W) (tCons (tVar 1) (tCons (tVar 2) (tCons (tVar 3) tNil)))) tNil)))))))) rfl rfl nd takes0 (fun W pl xe tkW _ => (pss_cons (ps_if (pt_cmpR op_eq (pv 0) pe_int (by rfl)) (pss_one (ps_ret (pe_tup (pa_cons pe_str (pa_cons (pe_callS F_built (ro.mono (by omega)) (by rfl) T.d_built.m T.d_built.F.kp T.d_built.b (fun sl => passAt tkW sl) (pa_cons (pv 1) (pa_cons (pv 2) pa_nil))) pa_nil))))) pss_nil)
    (pss_cons (ps_if (pt_cmpR op_eq (pv 0) pe_int (by rfl)) (pss_one (ps_ret (pe_tup (pa_cons pe_str (pa_cons (pe_callP T.d_joined F_joined (ro.mono (by omega)) pass0 (pa_cons (pv 1) (pa_cons (pv 2) (pa_cons (pv 3) pa_nil)))) pa_nil))))) pss_nil)
    (pss_cons (ps_if (pt_cmpR op_eq (pv 0) pe_int (by rfl)) (pss_one (ps_ret (pe_tup (pa_cons pe_str (pa_cons (pe_callS F_cut_at (ro.mono (by omega)) (by rfl) T.d_cut_at.m T.d_cut_at.F.kp T.d_cut_at.b (fun sl => passAt tkW sl) (pa_cons (pv 1) (pa_cons (pv 2) (pa_cons (pv 3) pa_nil)))) pa_nil))))) pss_nil)
    (pss_one (ps_ret (pe_tup (pa_cons pe_str (pa_cons (pe_callS F_judge_tree (ro.mono (by omega)) (by rfl) T.d_judge_tree.m T.d_judge_tree.F.kp T.d_judge_tree.b (fun sl => passAt tkW sl) (pa_cons (pv 1) (pa_cons (pv 2) (pa_cons (pv 3) pa_nil)))) pa_nil)))))))))
    (AsCl.cons (i := 4) rfl rfl (nm_of T.gc_NotAllowed) (fun ah ob cc dx pl z fd => pss_is fun e1 e2 => by subst e1; subst e2; exact (pss_one (ps_ret (pe_ix ix_list (pe_lst (pa_cons pe_str (pa_cons pe_str pa_nil))) (pe_callTy call_int1 (by rfl) T.b_int (by decide +kernel) (pa_cons (pe_or (pe_not (pe_callB (call_isE T.e_NotAllowed z fd) (by rfl) T.b_isinstance (by decide +kernel) (pa_cons (pv 4) (pa_cons (pe_globE (by rfl) T.g_ScarpError) pa_nil)))) (pe_one (pe_callB (call_isEs T.e_NotAllowed z fd) (by rfl) T.b_isinstance (by decide +kernel) (pa_cons (pv 4) (pa_cons (pe_tup (pa_cons (pe_globE (by rfl) T.g_Missing) (pa_cons (pe_globE (by rfl) T.g_BadPaper) (pa_cons (pe_globE (by rfl) T.g_TooLarge) pa_nil)))) pa_nil))))) pa_nil)) (fun _ _ => rfl)))))
    (AsCl.cons (i := 4) rfl rfl (nm_of T.gc_BadPaper) (fun ah ob cc dx pl z fd => pss_is fun e1 e2 => by subst e1; subst e2; exact (pss_one (ps_ret (pe_ix ix_list (pe_lst (pa_cons pe_str (pa_cons pe_str pa_nil))) (pe_callTy call_int1 (by rfl) T.b_int (by decide +kernel) (pa_cons (pe_or (pe_not (pe_callB (call_isE T.e_BadPaper z fd) (by rfl) T.b_isinstance (by decide +kernel) (pa_cons (pv 4) (pa_cons (pe_globE (by rfl) T.g_ScarpError) pa_nil)))) (pe_one (pe_callB (call_isEs T.e_BadPaper z fd) (by rfl) T.b_isinstance (by decide +kernel) (pa_cons (pv 4) (pa_cons (pe_tup (pa_cons (pe_globE (by rfl) T.g_Missing) (pa_cons (pe_globE (by rfl) T.g_NotAllowed) (pa_cons (pe_globE (by rfl) T.g_TooLarge) pa_nil)))) pa_nil))))) pa_nil)) (fun _ _ => rfl)))))
    AsCl.nil))))
/-! _law_spoilt : slots 0=state 1=table 2=tree 3=way 4=many 5=value 6=letter -/
def t_law_spoilt (K : PySem.W.Frag) (ca : Nat → Addr) (Φ : Nat → DSpec) : TS := 
  (tSeq (tAsg (rCallG (spN (cc K ca) (Φ 24)) E0 (tCons (tVar 0) (tCons (tC (.int 9)) tNil))) (gName 3))
    (tSeq (tAsg (tCB (rdLen K) (tCons (tOp (rIxT K) (tVar 1) (tC (.int 2))) tNil)) (gName 4))
    (tSeq (tIfS (tTest (tOp rEq (tCB (rdLen K) (tCons (tVar 2) tNil)) (tC (.int 2)))) (tSeq (tAsg (tOp (rIxL K) (tLst (tCons (rCallG (spN (cc K ca) (Φ 24)) E0 (tCons (tVar 0) (tCons (tVar 4) tNil))) (tCons (tVar 4) (tCons (tUn (rU fun i => .int (-i)) (tC (.int 1))) tNil)))) (rCallG (spN (cc K ca) (Φ 24)) E0 (tCons (tVar 0) (tCons (tC (.int 3)) tNil)))) (gName 5))
    (tSeq (tAsg (tOp (rIxL K) (tLst (tCons (tOp (rIxT K) (tOp (rIxT K) (tVar 1) (tC (.int 0))) (rCallG (spN (cc K ca) (Φ 24)) E0 (tCons (tVar 0) (tCons (tCB (rdLen K) (tCons (tOp (rIxT K) (tVar 1) (tC (.int 0))) tNil)) tNil)))) (tCons (tC (.str "qq")) tNil))) (rCallG (spN (cc K ca) (Φ 24)) E0 (tCons (tVar 0) (tCons (tC (.int 2)) tNil)))) (gName 6))
    (tRet (tOp (rIxL K) (tLst (tCons (tTup (tCons (tVar 5) (tCons (tOp (rIxT K) (tVar 2) (tC (.int 1))) tNil))) (tCons (tTup (tCons (tOp (rIxT K) (tVar 2) (tC (.int 0))) (tCons (tVar 6) tNil))) (tCons (tTup (tCons (tOp (rIxT K) (tVar 2) (tC (.int 0))) (tCons (tVar 2) (tCons (tVar 2) tNil)))) tNil)))) (rCallG (spN (cc K ca) (Φ 24)) E0 (tCons (tVar 0) (tCons (tC (.int 3)) tNil))))))) tNext)
    (tSeq (tIfS (tTest (tOp rEq (tVar 3) (tC (.int 0)))) (tRet (tTup (tCons (tOp (rIxL K) (tLst (tCons (rCallG (spN (cc K ca) (Φ 24)) E0 (tCons (tVar 0) (tCons (tVar 4) tNil))) (tCons (tVar 4) (tCons (tUn (rU fun i => .int (-i)) (tC (.int 1))) tNil)))) (rCallG (spN (cc K ca) (Φ 24)) E0 (tCons (tVar 0) (tCons (tC (.int 3)) tNil)))) (tCons (tOp (rIxT K) (tVar 2) (tC (.int 1))) (tCons (tOp (rIxT K) (tVar 2) (tC (.int 2))) tNil))))) tNext)
    (tSeq (tIfS (tTest (tOp rEq (tVar 3) (tC (.int 1)))) (tRet (tTup (tCons (tOp (rIxT K) (tVar 2) (tC (.int 0))) (tCons (tOp (rIxT K) (tVar 2) (tC (.int 2))) (tCons (tOp (rIxT K) (tVar 2) (tC (.int 1))) tNil))))) tNext)
    (tSeq (tIfS (tTest (tOp rEq (tVar 3) (tC (.int 2)))) (tRet (tOp (rIxT K) (tVar 2) (tOp rdAdd (tC (.int 1)) (rCallG (spN (cc K ca) (Φ 24)) E0 (tCons (tVar 0) (tCons (tC (.int 2)) tNil)))))) tNext)
    (tSeq (tIfS (tAnd (tTest (tOp rEq (tVar 3) (tC (.int 3)))) (tTest (tOp rEq (tCB (rdLen K) (tCons (tOp (rIxT K) (tVar 2) (tC (.int 1))) tNil)) (tC (.int 3))))) (tRet (tTup (tCons (tOp (rIxT K) (tVar 2) (tC (.int 0))) (tCons (tOp (rIxT K) (tOp (rIxT K) (tVar 2) (tC (.int 1))) (tC (.int 1))) (tCons (tTup (tCons (tOp (rIxT K) (tOp (rIxT K) (tOp (rIxT K) (tVar 1) (tC (.int 2))) (tOp (rIxT K) (tOp (rIxT K) (tOp (rIxT K) (tVar 2) (tC (.int 1))) (tC (.int 2))) (tC (.int 0)))) (tOp (rIxT K) (tOp (rIxT K) (tVar 2) (tC (.int 2))) (tC (.int 0)))) (tCons (tOp (rIxT K) (tOp (rIxT K) (tVar 2) (tC (.int 1))) (tC (.int 2))) (tCons (tOp (rIxT K) (tVar 2) (tC (.int 2))) tNil)))) tNil))))) tNext)
    (tSeq (tIfS (tTest (tOp rEq (rCallG (spN (cc K ca) (Φ 24)) E0 (tCons (tVar 0) (tCons (tC (.int 2)) tNil))) (tC (.int 0)))) (tRet (tTup (tCons (tOp (rIxT K) (tVar 2) (tC (.int 0))) (tCons (rCallG (spN (cc K ca) (Φ 46)) E0 (tCons (tVar 0) (tCons (tVar 1) (tCons (tOp (rIxT K) (tVar 2) (tC (.int 1))) tNil)))) (tCons (tOp (rIxT K) (tVar 2) (tC (.int 2))) tNil))))) tNext)
    (tRet (tTup (tCons (tOp (rIxT K) (tVar 2) (tC (.int 0))) (tCons (tOp (rIxT K) (tVar 2) (tC (.int 1))) (tCons (rCallG (spN (cc K ca) (Φ 46)) E0 (tCons (tVar 0) (tCons (tVar 1) (tCons (tOp (rIxT K) (tVar 2) (tC (.int 2))) tNil)))) tNil)))))))))))))
theorem snd_law_spoilt (T : Tx w K mg ad fu ca) (Φ : Nat → DSpec) : SS (cc K ca) noW (t_law_spoilt K ca Φ) (d_law_spoilt Φ) := by
  unfold t_law_spoilt d_law_spoilt
  exact (s_seq (s_asg (s_callN (s_cons s_var (s_cons (s_c fun _ _ => .int _) s_nil))) s_gname)
    (s_seq (s_asg (s_b so_len (s_cons (s_op so_ixT s_var (s_c fun _ _ => .int _)) s_nil)) s_gname)
    (s_seq (s_ifS (s_test (s_op so_eq (s_b so_len (s_cons s_var s_nil)) (s_c fun _ _ => .int _))) (s_seq (s_asg (s_op so_ixL (s_lst (s_cons (s_callN (s_cons s_var (s_cons s_var s_nil))) (s_cons s_var (s_cons (s_un so_neg (s_c fun _ _ => .int _)) s_nil)))) (s_callN (s_cons s_var (s_cons (s_c fun _ _ => .int _) s_nil)))) s_gname)
    (s_seq (s_asg (s_op so_ixL (s_lst (s_cons (s_op so_ixT (s_op so_ixT s_var (s_c fun _ _ => .int _)) (s_callN (s_cons s_var (s_cons (s_b so_len (s_cons (s_op so_ixT s_var (s_c fun _ _ => .int _)) s_nil)) s_nil)))) (s_cons (s_c fun _ _ => .str _) s_nil))) (s_callN (s_cons s_var (s_cons (s_c fun _ _ => .int _) s_nil)))) s_gname)
    (s_ret (s_op so_ixL (s_lst (s_cons (s_tup (s_cons s_var (s_cons (s_op so_ixT s_var (s_c fun _ _ => .int _)) s_nil))) (s_cons (s_tup (s_cons (s_op so_ixT s_var (s_c fun _ _ => .int _)) (s_cons s_var s_nil))) (s_cons (s_tup (s_cons (s_op so_ixT s_var (s_c fun _ _ => .int _)) (s_cons s_var (s_cons s_var s_nil)))) s_nil)))) (s_callN (s_cons s_var (s_cons (s_c fun _ _ => .int _) s_nil))))))) s_next)
    (s_seq (s_ifS (s_test (s_op so_eq s_var (s_c fun _ _ => .int _))) (s_ret (s_tup (s_cons (s_op so_ixL (s_lst (s_cons (s_callN (s_cons s_var (s_cons s_var s_nil))) (s_cons s_var (s_cons (s_un so_neg (s_c fun _ _ => .int _)) s_nil)))) (s_callN (s_cons s_var (s_cons (s_c fun _ _ => .int _) s_nil)))) (s_cons (s_op so_ixT s_var (s_c fun _ _ => .int _)) (s_cons (s_op so_ixT s_var (s_c fun _ _ => .int _)) s_nil))))) s_next)
    (s_seq (s_ifS (s_test (s_op so_eq s_var (s_c fun _ _ => .int _))) (s_ret (s_tup (s_cons (s_op so_ixT s_var (s_c fun _ _ => .int _)) (s_cons (s_op so_ixT s_var (s_c fun _ _ => .int _)) (s_cons (s_op so_ixT s_var (s_c fun _ _ => .int _)) s_nil))))) s_next)
    (s_seq (s_ifS (s_test (s_op so_eq s_var (s_c fun _ _ => .int _))) (s_ret (s_op so_ixT s_var (s_op so_add (s_c fun _ _ => .int _) (s_callN (s_cons s_var (s_cons (s_c fun _ _ => .int _) s_nil)))))) s_next)
    (s_seq (s_ifS (s_and (s_test (s_op so_eq s_var (s_c fun _ _ => .int _))) (s_test (s_op so_eq (s_b so_len (s_cons (s_op so_ixT s_var (s_c fun _ _ => .int _)) s_nil)) (s_c fun _ _ => .int _)))) (s_ret (s_tup (s_cons (s_op so_ixT s_var (s_c fun _ _ => .int _)) (s_cons (s_op so_ixT (s_op so_ixT s_var (s_c fun _ _ => .int _)) (s_c fun _ _ => .int _)) (s_cons (s_tup (s_cons (s_op so_ixT (s_op so_ixT (s_op so_ixT s_var (s_c fun _ _ => .int _)) (s_op so_ixT (s_op so_ixT (s_op so_ixT s_var (s_c fun _ _ => .int _)) (s_c fun _ _ => .int _)) (s_c fun _ _ => .int _))) (s_op so_ixT (s_op so_ixT s_var (s_c fun _ _ => .int _)) (s_c fun _ _ => .int _))) (s_cons (s_op so_ixT (s_op so_ixT s_var (s_c fun _ _ => .int _)) (s_c fun _ _ => .int _)) (s_cons (s_op so_ixT s_var (s_c fun _ _ => .int _)) s_nil)))) s_nil))))) s_next)
    (s_seq (s_ifS (s_test (s_op so_eq (s_callN (s_cons s_var (s_cons (s_c fun _ _ => .int _) s_nil))) (s_c fun _ _ => .int _))) (s_ret (s_tup (s_cons (s_op so_ixT s_var (s_c fun _ _ => .int _)) (s_cons (s_callN (s_cons s_var (s_cons s_var (s_cons (s_op so_ixT s_var (s_c fun _ _ => .int _)) s_nil)))) (s_cons (s_op so_ixT s_var (s_c fun _ _ => .int _)) s_nil))))) s_next)
    (s_ret (s_tup (s_cons (s_op so_ixT s_var (s_c fun _ _ => .int _)) (s_cons (s_op so_ixT s_var (s_c fun _ _ => .int _)) (s_cons (s_callN (s_cons s_var (s_cons s_var (s_cons (s_op so_ixT s_var (s_c fun _ _ => .int _)) s_nil)))) s_nil)))))))))))))
theorem sc_law_spoilt : FnScope ["state", "table", "tree", "way", "many", "value", "letter"] ["state", "table", "tree"] (defScope (topS 46)) := ⟨rfl, rfl, rfl, by decide +kernel, rfl, by decide +kernel, by decide +kernel⟩
theorem body_law_spoilt {k : Nat} {Φ : Nat → DSpec} (T : Tx w K mg ad fu ca) (G_law_next : FnG P w K mg base CX0 (2 * k) (ad 24) (fu 24) ["state", "many"] (spN (cc K ca) (Φ 24))) (G_law_spoilt : FnG P w K mg base CX0 (2 * k) (ad 46) (fu 46) ["state", "table", "tree"] (spN (cc K ca) (Φ 46))) : Body P w K mg base (2 * k + 1) "_law_spoilt" (topS 46) (ad 46) ["state", "table", "tree", "way", "many", "value", "letter"] (t_law_spoilt K ca Φ) := by
  intro cdv R out s Hh E gd ro
  have nd := sc_law_spoilt.nd
  have hu := ro.units0
  have hu65 : R.units + 3 + 65 < cLine := by have := ro.un; show R.units + 3 + 65 < cLine; have e : (R.deeper (envOfC "_law_spoilt" (defScope (topS 46)) s.heap.objs.size (ad 46) cdv)).units = R.units + 3 := rfl; rw [e] at this; omega
  unfold t_law_spoilt
  exact (pss_cons (ps_set (i := 3) nd rfl (by first | exact Or.inl rfl | exact Or.inr rfl) (pe_callG T.d_law_next G_law_next gd (ro.mono (by omega)) pass0 (pa_cons (pv 0) (pa_cons pe_int pa_nil))))
    (pss_cons (ps_set (i := 4) nd rfl (by first | exact Or.inl rfl | exact Or.inr rfl) (pe_callB call_len_seq (by rfl) T.b_len (by decide +kernel) (pa_cons (pe_ix ix_tup (pv 1) pe_int (fun _ _ => rfl)) pa_nil)))
    (pss_cons (ps_if (pt_cmpR op_eq (pe_callB call_len_seq (by rfl) T.b_len (by decide +kernel) (pa_cons (pv 2) pa_nil)) pe_int (by rfl)) (pss_cons (ps_set (i := 5) nd rfl (by first | exact Or.inl rfl | exact Or.inr rfl) (pe_ix ix_list (pe_lst (pa_cons (pe_callG T.d_law_next G_law_next gd (ro.mono (by omega)) pass0 (pa_cons (pv 0) (pa_cons (pv 4) pa_nil))) (pa_cons (pv 4) (pa_cons (pe_un un_neg pe_int) pa_nil)))) (pe_callG T.d_law_next G_law_next gd (ro.mono (by omega)) pass0 (pa_cons (pv 0) (pa_cons pe_int pa_nil))) (fun _ _ => rfl)))
    (pss_cons (ps_set (i := 6) nd rfl (by first | exact Or.inl rfl | exact Or.inr rfl) (pe_ix ix_list (pe_lst (pa_cons (pe_ix ix_tup (pe_ix ix_tup (pv 1) pe_int (fun _ _ => rfl)) (pe_callG T.d_law_next G_law_next gd (ro.mono (by omega)) pass0 (pa_cons (pv 0) (pa_cons (pe_callB call_len_seq (by rfl) T.b_len (by decide +kernel) (pa_cons (pe_ix ix_tup (pv 1) pe_int (fun _ _ => rfl)) pa_nil)) pa_nil))) (fun _ _ => rfl)) (pa_cons pe_str pa_nil))) (pe_callG T.d_law_next G_law_next gd (ro.mono (by omega)) pass0 (pa_cons (pv 0) (pa_cons pe_int pa_nil))) (fun _ _ => rfl)))
    (pss_one (ps_ret (pe_ix ix_list (pe_lst (pa_cons (pe_tup (pa_cons (pv 5) (pa_cons (pe_ix ix_tup (pv 2) pe_int (fun _ _ => rfl)) pa_nil))) (pa_cons (pe_tup (pa_cons (pe_ix ix_tup (pv 2) pe_int (fun _ _ => rfl)) (pa_cons (pv 6) pa_nil))) (pa_cons (pe_tup (pa_cons (pe_ix ix_tup (pv 2) pe_int (fun _ _ => rfl)) (pa_cons (pv 2) (pa_cons (pv 2) pa_nil)))) pa_nil)))) (pe_callG T.d_law_next G_law_next gd (ro.mono (by omega)) pass0 (pa_cons (pv 0) (pa_cons pe_int pa_nil))) (fun _ _ => rfl)))))) pss_nil)
    (pss_cons (ps_if (pt_cmpR op_eq (pv 3) pe_int (by rfl)) (pss_one (ps_ret (pe_tup (pa_cons (pe_ix ix_list (pe_lst (pa_cons (pe_callG T.d_law_next G_law_next gd (ro.mono (by omega)) pass0 (pa_cons (pv 0) (pa_cons (pv 4) pa_nil))) (pa_cons (pv 4) (pa_cons (pe_un un_neg pe_int) pa_nil)))) (pe_callG T.d_law_next G_law_next gd (ro.mono (by omega)) pass0 (pa_cons (pv 0) (pa_cons pe_int pa_nil))) (fun _ _ => rfl)) (pa_cons (pe_ix ix_tup (pv 2) pe_int (fun _ _ => rfl)) (pa_cons (pe_ix ix_tup (pv 2) pe_int (fun _ _ => rfl)) pa_nil)))))) pss_nil)
    (pss_cons (ps_if (pt_cmpR op_eq (pv 3) pe_int (by rfl)) (pss_one (ps_ret (pe_tup (pa_cons (pe_ix ix_tup (pv 2) pe_int (fun _ _ => rfl)) (pa_cons (pe_ix ix_tup (pv 2) pe_int (fun _ _ => rfl)) (pa_cons (pe_ix ix_tup (pv 2) pe_int (fun _ _ => rfl)) pa_nil)))))) pss_nil)
    (pss_cons (ps_if (pt_cmpR op_eq (pv 3) pe_int (by rfl)) (pss_one (ps_ret (pe_ix ix_tup (pv 2) (pe_op op_add pe_int (pe_callG T.d_law_next G_law_next gd (ro.mono (by omega)) pass0 (pa_cons (pv 0) (pa_cons pe_int pa_nil)))) (fun _ _ => rfl)))) pss_nil)
    (pss_cons (ps_if (PW.pt (pw_and (pt_cmpR op_eq (pv 3) pe_int (by rfl)) (pw_and1 (pt_cmpR op_eq (pe_callB call_len_seq (by rfl) T.b_len (by decide +kernel) (pa_cons (pe_ix ix_tup (pv 2) pe_int (fun _ _ => rfl)) pa_nil)) pe_int (by rfl))))) (pss_one (ps_ret (pe_tup (pa_cons (pe_ix ix_tup (pv 2) pe_int (fun _ _ => rfl)) (pa_cons (pe_ix ix_tup (pe_ix ix_tup (pv 2) pe_int (fun _ _ => rfl)) pe_int (fun _ _ => rfl)) (pa_cons (pe_tup (pa_cons (pe_ix ix_tup (pe_ix ix_tup (pe_ix ix_tup (pv 1) pe_int (fun _ _ => rfl)) (pe_ix ix_tup (pe_ix ix_tup (pe_ix ix_tup (pv 2) pe_int (fun _ _ => rfl)) pe_int (fun _ _ => rfl)) pe_int (fun _ _ => rfl)) (fun _ _ => rfl)) (pe_ix ix_tup (pe_ix ix_tup (pv 2) pe_int (fun _ _ => rfl)) pe_int (fun _ _ => rfl)) (fun _ _ => rfl)) (pa_cons (pe_ix ix_tup (pe_ix ix_tup (pv 2) pe_int (fun _ _ => rfl)) pe_int (fun _ _ => rfl)) (pa_cons (pe_ix ix_tup (pv 2) pe_int (fun _ _ => rfl)) pa_nil)))) pa_nil)))))) pss_nil)
    (pss_cons (ps_if (pt_cmpR op_eq (pe_callG T.d_law_next G_law_next gd (ro.mono (by omega)) pass0 (pa_cons (pv 0) (pa_cons pe_int pa_nil))) pe_int (by rfl)) (pss_one (ps_ret (pe_tup (pa_cons (pe_ix ix_tup (pv 2) pe_int (fun _ _ => rfl)) (pa_cons (pe_callG T.d_law_spoilt G_law_spoilt gd (ro.mono (by omega)) pass0 (pa_cons (pv 0) (pa_cons (pv 1) (pa_cons (pe_ix ix_tup (pv 2) pe_int (fun _ _ => rfl)) pa_nil)))) (pa_cons (pe_ix ix_tup (pv 2) pe_int (fun _ _ => rfl)) pa_nil)))))) pss_nil)
    (pss_one (ps_ret (pe_tup (pa_cons (pe_ix ix_tup (pv 2) pe_int (fun _ _ => rfl)) (pa_cons (pe_ix ix_tup (pv 2) pe_int (fun _ _ => rfl)) (pa_cons (pe_callG T.d_law_spoilt G_law_spoilt gd (ro.mono (by omega)) pass0 (pa_cons (pv 0) (pa_cons (pv 1) (pa_cons (pe_ix ix_tup (pv 2) pe_int (fun _ _ => rfl)) pa_nil)))) pa_nil))))))))))))))
/-! _law_chain : slots 0=table 1=log 2=tree 3=letter -/
def t_law_chain (K : PySem.W.Frag) (ca : Nat → Addr) (Φ : Nat → DSpec) : TS := 
  (tSeq (tAsg (rCallG (spN (cc K ca) (Φ 37)) E0 (tCons (tVar 0) (tCons (tOp (rIxT K) (tVar 1) (tC (.int 0))) tNil))) (gName 2))
    (tSeq (tFor (iTup K (L2.tSl (rSlA K) (tVar 1) (tPart (tC (.int 1))) (tPart (tC (.int 12))))) (gName 3)
    (tAsg (rCallG (spN (cc K ca) (Φ 36)) E0 (tCons (tVar 0) (tCons (tVar 2) (tCons (rCallG (spN (cc K ca) (Φ 37)) E0 (tCons (tVar 0) (tCons (tVar 3) tNil))) (tCons (tLst (tCons (tC (.int 0)) tNil)) tNil))))) (gName 2)))
    (tRet (tVar 2))))
theorem snd_law_chain (T : Tx w K mg ad fu ca) (Φ : Nat → DSpec) : SS (cc K ca) noW (t_law_chain K ca Φ) (d_law_chain Φ) := by
  unfold t_law_chain d_law_chain
  exact (s_seq (s_asg (s_callN (s_cons s_var (s_cons (s_op so_ixT s_var (s_c fun _ _ => .int _)) s_nil))) s_gname)
    (s_seq (s_for (s_iT (s_sl so_slT s_var (s_part (s_c fun _ _ => .int _)) (s_part (s_c fun _ _ => .int _)))) s_gname
    (s_asg (s_callN (s_cons s_var (s_cons s_var (s_cons (s_callN (s_cons s_var (s_cons s_var s_nil))) (s_cons (s_lst (s_cons (s_c fun _ _ => .int _) s_nil)) s_nil))))) s_gname))
    (s_ret s_var)))
theorem sc_law_chain : FnScope ["table", "log", "tree", "letter"] ["table", "log"] (defScope (topS 47)) := ⟨rfl, rfl, rfl, by decide +kernel, rfl, by decide +kernel, by decide +kernel⟩
theorem body_law_chain {k : Nat} {Φ : Nat → DSpec} (T : Tx w K mg ad fu ca) (G_law_leaf : FnG P w K mg base CX0 (2 * k) (ad 37) (fu 37) ["table", "letter"] (spN (cc K ca) (Φ 37))) (G_law_node : FnG P w K mg base CX0 (2 * k) (ad 36) (fu 36) ["table", "left", "right", "count"] (spN (cc K ca) (Φ 36))) : Body P w K mg base (2 * k + 1) "_law_chain" (topS 47) (ad 47) ["table", "log", "tree", "letter"] (t_law_chain K ca Φ) := by
  intro cdv R out s Hh E gd ro
  have nd := sc_law_chain.nd
  have hu := ro.units0
  have hu65 : R.units + 3 + 65 < cLine := by have := ro.un; show R.units + 3 + 65 < cLine; have e : (R.deeper (envOfC "_law_chain" (defScope (topS 47)) s.heap.objs.size (ad 47) cdv)).units = R.units + 3 := rfl; rw [e] at this; omega
  unfold t_law_chain
  exact (pss_cons (ps_set (i := 2) nd rfl (by first | exact Or.inl rfl | exact Or.inr rfl) (pe_callG T.d_law_leaf G_law_leaf gd (ro.mono (by omega)) pass0 (pa_cons (pv 0) (pa_cons (pe_ix ix_tup (pv 1) pe_int (fun _ _ => rfl)) pa_nil))))
    (pss_cons (ps_for PassesOwn.never rfl (pi_tup (pe_slice sl_tupA (pv 1) (po_some pe_int) (po_some pe_int))) (pg_name (i := 3) nd rfl (by first | exact Or.inl rfl | exact Or.inr rfl))
    (pss_one (ps_set (i := 2) nd rfl (by first | exact Or.inl rfl | exact Or.inr rfl) (pe_callG T.d_law_node G_law_node gd (ro.mono (by omega)) pass0 (pa_cons (pv 0) (pa_cons (pv 2) (pa_cons (pe_callG T.d_law_leaf G_law_leaf gd (ro.mono (by omega)) pass0 (pa_cons (pv 0) (pa_cons (pv 3) pa_nil))) (pa_cons (pe_lst (pa_cons pe_int pa_nil)) pa_nil))))))))
    (pss_one (ps_ret (pv 2)))))
/-! _law_judged : slots 0=state 1=table 2=log 3=tree 4=rows 5=k 6=other 7=own 8=one 9=good -/
def t_law_judged (K : PySem.W.Frag) (ca : Nat → Addr) (Φ : Nat → DSpec) : TS := 
  (tSeq (tAsg (tLst (tCons (tTup (tCons (tVar 2) (tCons (tVar 3) tNil))) (tCons (tTup (tCons (tOp (rCatA K) (L2.tSl (rSlA K) (tVar 2) tNoPart (tPart (tUn (rU fun i => .int (-i)) (tC (.int 1))))) (tTup (tCons (tC (.str "qq")) tNil))) (tCons (tVar 3) tNil))) (tCons (tTup (tCons (tOp (rCatA K) (tVar 2) (L2.tSl (rSlA K) (tVar 2) tNoPart (tPart (tC (.int 1))))) (tCons (tVar 3) tNil))) (tCons (tTup (tCons (L2.tSl (rSlA K) (tVar 2) tNoPart (tPart (tC (.int 12)))) (tCons (rCallG (spN (cc K ca) (Φ 47)) E0 (tCons (tVar 1) (tCons (tVar 2) tNil))) tNil))) tNil))))) (gName 4))
    (tSeq (tFor (iRng1 (tCons (tC (.int 4)) tNil)) (gName 5)
    (tDrop (tBM K "list" rAppend (tVar 4) (tCons (tTup (tCons (tVar 2) (tCons (rCallG (spN (cc K ca) (Φ 46)) E0 (tCons (tVar 0) (tCons (tVar 1) (tCons (tVar 3) tNil)))) tNil))) tNil))))
    (tSeq (tAsg (rCallG (spN (cc K ca) (Φ 46)) E0 (tCons (tVar 0) (tCons (tVar 1) (tCons (tVar 3) tNil)))) (gName 6))
    (tSeq (tDrop (tBM K "list" rAppend (tVar 4) (tCons (tTup (tCons (tCB (rdTuple K) (tCons (rCallG (spN (cc K ca) (Φ 43)) E0 (tCons (tVar 6) tNil)) tNil)) (tCons (tVar 6) tNil))) tNil)))
    (tSeq (tFor (iList K (tVar 4)) (gTup K 2 (gCons (gName 7) (gCons (gName 8) gNil)))
    (tSeq (tAsg (tAndV (tOp (rEqD K) (tCB (rdTuple K) (tCons (rCallG (spN (cc K ca) (Φ 43)) E0 (tCons (tVar 8) tNil)) tNil)) (tVar 7)) (rCallG (spN (cc K ca) (Φ 44)) E0 (tCons (tVar 1) (tCons (tVar 8) tNil)))) (gName 9))
    (tIfS (tNot (tB (rCallG (spN (cc K ca) (Φ 25)) E0 (tCons (rCallG (spN (cc K ca) (Φ 45)) E0 (tCons (tC (.int 3)) (tCons (tVar 1) (tCons (tVar 7) (tCons (tVar 8) tNil))))) (tCons (tOp (rIxL K) (tLst (tCons (tC (.str "paper")) (tCons (tTup (tCons (tC (.str "told")) (tCons (tC .non) tNil))) tNil))) (tCB rdInt (tCons (tVar 9) tNil))) tNil))))) (tRet (tC (.bl false))) tNext)))
    (tRet (tC (.bl true))))))))
theorem snd_law_judged (T : Tx w K mg ad fu ca) (Φ : Nat → DSpec) : SS (cc K ca) noW (t_law_judged K ca Φ) (d_law_judged Φ) := by
  unfold t_law_judged d_law_judged
  exact (s_seq (s_asg (s_lst (s_cons (s_tup (s_cons s_var (s_cons s_var s_nil))) (s_cons (s_tup (s_cons (s_op so_catT (s_sl so_slT s_var s_nop (s_part (s_un so_neg (s_c fun _ _ => .int _)))) (s_tup (s_cons (s_c fun _ _ => .str _) s_nil))) (s_cons s_var s_nil))) (s_cons (s_tup (s_cons (s_op so_catT s_var (s_sl so_slT s_var s_nop (s_part (s_c fun _ _ => .int _)))) (s_cons s_var s_nil))) (s_cons (s_tup (s_cons (s_sl so_slT s_var s_nop (s_part (s_c fun _ _ => .int _))) (s_cons (s_callN (s_cons s_var (s_cons s_var s_nil))) s_nil))) s_nil))))) s_gname)
    (s_seq (s_for (s_iR1 (s_cons (s_c fun _ _ => .int _) s_nil)) s_gname
    (s_drop (s_m so_append s_var (s_cons (s_tup (s_cons s_var (s_cons (s_callN (s_cons s_var (s_cons s_var (s_cons s_var s_nil)))) s_nil))) s_nil))))
    (s_seq (s_asg (s_callN (s_cons s_var (s_cons s_var (s_cons s_var s_nil)))) s_gname)
    (s_seq (s_drop (s_m so_append s_var (s_cons (s_tup (s_cons (s_b so_tuple (s_cons (s_callN (s_cons s_var s_nil)) s_nil)) (s_cons s_var s_nil))) s_nil)))
    (s_seq (s_for (s_iL s_var) (s_gtup (s_gcons s_gname (s_gcons s_gname s_gnil)))
    (s_seq (s_asg (s_andV (s_op so_eqD (s_b so_tuple (s_cons (s_callN (s_cons s_var s_nil)) s_nil)) s_var) (s_callN (s_cons s_var (s_cons s_var s_nil)))) s_gname)
    (s_ifS (s_not (s_B (s_callN (s_cons (s_callN (s_cons (s_c fun _ _ => .int _) (s_cons s_var (s_cons s_var (s_cons s_var s_nil))))) (s_cons (s_op so_ixL (s_lst (s_cons (s_c fun _ _ => .str _) (s_cons (s_tup (s_cons (s_c fun _ _ => .str _) (s_cons (s_c fun _ _ => .non) s_nil))) s_nil))) (s_b so_int (s_cons s_var s_nil))) s_nil))))) (s_ret (s_c fun _ _ => .bl _)) s_next)))
    (s_ret (s_c fun _ _ => .bl _)))))))
theorem sc_law_judged : FnScope ["state", "table", "log", "tree", "rows", "k", "other", "own", "one", "good"] ["state", "table", "log", "tree"] (defScope (topS 48)) := ⟨rfl, rfl, rfl, by decide +kernel, rfl, by decide +kernel, by decide +kernel⟩
theorem body_law_judged {k : Nat} {Φ : Nat → DSpec} (T : Tx w K mg ad fu ca) (G_law_chain : FnG P w K mg base CX0 (2 * k) (ad 47) (fu 47) ["table", "log"] (spN (cc K ca) (Φ 47))) (G_law_leaves : FnG P w K mg base CX0 (2 * k) (ad 43) (fu 43) ["tree"] (spN (cc K ca) (Φ 43))) (G_law_right_tree : FnG P w K mg base CX0 (2 * k) (ad 44) (fu 44) ["table", "tree"] (spN (cc K ca) (Φ 44))) (G_law_same : FnG P w K mg base CX0 (2 * k) (ad 25) (fu 25) ["told", "due"] (spN (cc K ca) (Φ 25))) (G_law_spoilt : FnG P w K mg base CX0 (2 * k) (ad 46) (fu 46) ["state", "table", "tree"] (spN (cc K ca) (Φ 46))) (F_law_told : FnOk P w K mg base CX0 (2 * k) (ad 45) (fu 45) ["way", "table", "first", "second"] (spN (cc K ca) (Φ 45))) : Body P w K mg base (2 * k + 1) "_law_judged" (topS 48) (ad 48) ["state", "table", "log", "tree", "rows", "k", "other", "own", "one", "good"] (t_law_judged K ca Φ) := by
  intro cdv R out s Hh E gd ro
  have nd := sc_law_judged.nd
  have hu := ro.units0
  have hu65 : R.units + 3 + 65 < cLine := by have := ro.un; show R.units + 3 + 65 < cLine; have e : (R.deeper (envOfC "_law_judged" (defScope (topS 48)) s.heap.objs.size (ad 48) cdv)).units = R.units + 3 := rfl; rw [e] at this; omega
  unfold t_law_judged
  exact (pss_cons (ps_set (i := 4) nd rfl (by first | exact Or.inl rfl | exact Or.inr rfl) (pe_lst (pa_cons (pe_tup (pa_cons (pv 2) (pa_cons (pv 3) pa_nil))) (pa_cons (pe_tup (pa_cons (pe_op op_catA (pe_slice sl_tupA (pv 2) po_none (po_some (pe_un un_neg pe_int))) (pe_tup (pa_cons pe_str pa_nil))) (pa_cons (pv 3) pa_nil))) (pa_cons (pe_tup (pa_cons (pe_op op_catA (pv 2) (pe_slice sl_tupA (pv 2) po_none (po_some pe_int))) (pa_cons (pv 3) pa_nil))) (pa_cons (pe_tup (pa_cons (pe_slice sl_tupA (pv 2) po_none (po_some pe_int)) (pa_cons (pe_callG T.d_law_chain G_law_chain gd (ro.mono (by omega)) pass0 (pa_cons (pv 1) (pa_cons (pv 2) pa_nil))) pa_nil))) pa_nil))))))
    (pss_cons (ps_for PassesOwn.never rfl (pi_range1 (by rfl) T.b_range (pa_cons pe_int pa_nil)) (pg_name (i := 5) nd rfl (by first | exact Or.inl rfl | exact Or.inr rfl))
    (pss_one (ps_expr (pe_bm PySem.F.plainAttrs_list PySem.F.slot_list_append PySem.F.type_list_append mt_append (pv 4) (pa_cons (pe_tup (pa_cons (pv 2) (pa_cons (pe_callG T.d_law_spoilt G_law_spoilt gd (ro.mono (by omega)) pass0 (pa_cons (pv 0) (pa_cons (pv 1) (pa_cons (pv 3) pa_nil)))) pa_nil))) pa_nil)))))
    (pss_cons (ps_set (i := 6) nd rfl (by first | exact Or.inl rfl | exact Or.inr rfl) (pe_callG T.d_law_spoilt G_law_spoilt gd (ro.mono (by omega)) pass0 (pa_cons (pv 0) (pa_cons (pv 1) (pa_cons (pv 3) pa_nil)))))
    (pss_cons (ps_expr (pe_bm PySem.F.plainAttrs_list PySem.F.slot_list_append PySem.F.type_list_append mt_append (pv 4) (pa_cons (pe_tup (pa_cons (pe_callTy call_tuple_of (by rfl) T.b_tuple (by decide +kernel) (pa_cons (pe_callG T.d_law_leaves G_law_leaves gd (ro.mono (by omega)) pass0 (pa_cons (pv 6) pa_nil)) pa_nil)) (pa_cons (pv 6) pa_nil))) pa_nil)))
    (pss_cons (ps_for PassesOwn.never rfl (pi_list (pv 4)) (pg_tup rfl (pgs_cons (pg_name (i := 7) nd rfl (by first | exact Or.inl rfl | exact Or.inr rfl)) (pgs_cons (pg_name (i := 8) nd rfl (by first | exact Or.inl rfl | exact Or.inr rfl)) pgs_nil)))
    (pss_cons (ps_set (i := 9) nd rfl (by first | exact Or.inl rfl | exact Or.inr rfl) (pe_and (pe_cmpR (op_eqD (hu64 ro)) (pe_callTy call_tuple_of (by rfl) T.b_tuple (by decide +kernel) (pa_cons (pe_callG T.d_law_leaves G_law_leaves gd (ro.mono (by omega)) pass0 (pa_cons (pv 8) pa_nil)) pa_nil)) (pv 7) (by rfl)) (pe_one (pe_callG T.d_law_right_tree G_law_right_tree gd (ro.mono (by omega)) pass0 (pa_cons (pv 1) (pa_cons (pv 8) pa_nil))))))
    (pss_one (ps_if (pt_not (pt_val (pe_callG T.d_law_same G_law_same gd (ro.mono (by omega)) pass0 (pa_cons (pe_callG T.d_law_told (FnG.of F_law_told) gd (ro.mono (by omega)) pass0 (pa_cons pe_int (pa_cons (pv 1) (pa_cons (pv 7) (pa_cons (pv 8) pa_nil))))) (pa_cons (pe_ix ix_list (pe_lst (pa_cons pe_str (pa_cons (pe_tup (pa_cons pe_str (pa_cons pe_non pa_nil))) pa_nil))) (pe_callTy call_int1 (by rfl) T.b_int (by decide +kernel) (pa_cons (pv 9) pa_nil)) (fun _ _ => rfl)) pa_nil))))) (pss_one (ps_ret pe_bl)) pss_nil))))
    (pss_one (ps_ret pe_bl)))))))
/-! law : slots 0=script 1=state 2=table 3=logs 4=trees 5=k 6=kept 7=turn 8=log 9=count 10=tree 11=j 12=both 13=place 14=at 15=part 16=ahead 17=behind 18=own 19=letter 20=odd -/
def t_law (K : PySem.W.Frag) (ca : Nat → Addr) (Φ : Nat → DSpec) : TS := 
  (tSeq (tAsg (tLst (tCons (rCallG (spN (cc K ca) (Φ 23)) E0 (tCons (tVar 0) tNil)) (tCons (tC (.int 0)) tNil))) (gName 1))
    (tSeq (tAsg (rCallG (spN (cc K ca) (Φ 30)) E0 (tCons (tVar 1) tNil)) (gName 2))
    (tSeq (tAsg (tLst tNil) (gName 3))
    (tSeq (tAsg (tLst tNil) (gName 4))
    (tSeq (tFor (iRng1 (tCons (tC (.int 3)) tNil)) (gName 5)
    (tSeq (tAsg (rCallG (spN (cc K ca) (Φ 33)) E0 (tCons (tVar 1) (tCons (tVar 2) (tCons (tOp rdAdd (tC (.int 1)) (rCallG (spN (cc K ca) (Φ 24)) E0 (tCons (tVar 1) (tCons (tOp (rIxL K) (tLst (tCons (tC (.int 8)) (tCons (tC (.int 60)) (tCons (tOp (rIxL K) (tLst (tCons (tC (.int 60)) (tCons (tC (.int 300)) tNil))) (tCB rdInt (tCons (tOp rEq (rCallG (spN (cc K ca) (Φ 24)) E0 (tCons (tVar 1) (tCons (tC (.int 12)) tNil))) (tC (.int 0))) tNil))) tNil)))) (tVar 5)) tNil)))) tNil)))) (gName 8))
    (tSeq (tAsg (tLst (tCons (tC (.int 0)) tNil)) (gName 9))
    (tSeq (tAsg (rCallG (spN (cc K ca) (Φ 38)) E0 (tCons (tVar 2) (tCons (tLc (iTup K (tVar 8)) (gName 19) tYes (rCallG (spN (cc K ca) (Φ 37)) E0 (tCons (tVar 2) (tCons (tVar 19) tNil))) [19]) (tCons (tVar 9) tNil)))) (gName 10))
    (tSeq (tIfS (tNot (tB (rCallG (spN (cc K ca) (Φ 25)) E0 (tCons (rCallG (spN (cc K ca) (Φ 45)) E0 (tCons (tC (.int 0)) (tCons (tVar 2) (tCons (tVar 8) (tCons (tTup tNil) tNil))))) (tCons (tTup (tCons (tC (.str "told")) (tCons (tTup (tCons (tVar 10) (tCons (tOp (rIxL K) (tVar 9) (tC (.int 0))) tNil))) tNil))) tNil))))) (tRet (tC (.bl false))) tNext)
    (tSeq (tDrop (tBM K "list" rAppend (tVar 3) (tCons (tVar 8) tNil)))
    (tDrop (tBM K "list" rAppend (tVar 4) (tCons (tVar 10) tNil)))))))))
    (tSeq (tAsg (tCB (rReprD K) (tCons (tTup (tCons (tVar 2) (tCons (tVar 3) (tCons (tVar 4) tNil)))) tNil)) (gName 6))
    (tSeq (tFor (iRng1 (tCons (tC (.int 6)) tNil)) (gName 7)
    (tSeq (tAsg (rCallG (spN (cc K ca) (Φ 24)) E0 (tCons (tVar 1) (tCons (tC (.int 3)) tNil))) (gName 5))
    (tSeq (tAsg (rCallG (spN (cc K ca) (Φ 24)) E0 (tCons (tVar 1) (tCons (tC (.int 3)) tNil))) (gName 11))
    (tSeq (tAsg (tLst (tCons (tC (.int 0)) tNil)) (gName 9))
    (tSeq (tAsg (rCallG (spN (cc K ca) (Φ 41)) E0 (tCons (tVar 2) (tCons (tOp (rIxL K) (tVar 4) (tVar 5)) (tCons (tOp (rIxL K) (tVar 4) (tVar 11)) (tCons (tVar 9) tNil))))) (gName 12))
    (tSeq (tIfS (tOr (tNot (tB (rCallG (spN (cc K ca) (Φ 25)) E0 (tCons (rCallG (spN (cc K ca) (Φ 45)) E0 (tCons (tC (.int 1)) (tCons (tVar 2) (tCons (tOp (rIxL K) (tVar 4) (tVar 5)) (tCons (tOp (rIxL K) (tVar 4) (tVar 11)) tNil))))) (tCons (tTup (tCons (tC (.str "told")) (tCons (tTup (tCons (tVar 12) (tCons (tOp (rIxL K) (tVar 9) (tC (.int 0))) tNil))) tNil))) tNil))))) (tNot (tB (rCallG (spN (cc K ca) (Φ 44)) E0 (tCons (tVar 2) (tCons (tVar 12) tNil)))))) (tRet (tC (.bl false))) tNext)
    (tSeq (tAsg (tOp (rCatA K) (tOp (rIxL K) (tVar 3) (tVar 5)) (tOp (rIxL K) (tVar 3) (tVar 11))) (gName 8))
    (tSeq (tAsg (rCallG (spN (cc K ca) (Φ 24)) E0 (tCons (tVar 1) (tCons (tOp rdAdd (tCB (rdLen K) (tCons (tVar 8) tNil)) (tC (.int 1))) tNil))) (gName 13))
    (tSeq (tAsg (tLst (tCons (tC (.int 0)) tNil)) (gName 9))
    (tSeq (tAsg (rCallG (spN (cc K ca) (Φ 42)) E0 (tCons (tVar 2) (tCons (tVar 12) (tCons (tVar 13) (tCons (tVar 9) tNil))))) (gTup K 2 (gCons (gName 16) (gCons (gName 17) gNil))))
    (tSeq (tIfS (tNot (tB (rCallG (spN (cc K ca) (Φ 25)) E0 (tCons (rCallG (spN (cc K ca) (Φ 45)) E0 (tCons (tC (.int 2)) (tCons (tVar 2) (tCons (tVar 12) (tCons (tVar 13) tNil))))) (tCons (tTup (tCons (tC (.str "told")) (tCons (tTup (tCons (tVar 16) (tCons (tVar 17) (tCons (tOp (rIxL K) (tVar 9) (tC (.int 0))) tNil)))) tNil))) tNil))))) (tRet (tC (.bl false))) tNext)
    (tSeq (tFor (iList K (tLst (tCons (tTup (tCons (tVar 16) (tCons (L2.tSl (rSlA K) (tVar 8) tNoPart (tPart (tVar 13))) tNil))) (tCons (tTup (tCons (tVar 17) (tCons (L2.tSl (rSlA K) (tVar 8) (tPart (tVar 13)) tNoPart) tNil))) tNil)))) (gTup K 2 (gCons (gName 15) (gCons (gName 18) gNil)))
    (tIfS (tOr (tTest (tOp rNe (tOp rdIsN (tVar 15) (tC .non)) (tOp rEq (tCB (rdLen K) (tCons (tVar 18) tNil)) (tC (.int 0))))) (tAnd (tTest (tOp rdNotN (tVar 15) (tC .non))) (tOr (tTest (tOp (rNeD K) (tCB (rdTuple K) (tCons (rCallG (spN (cc K ca) (Φ 43)) E0 (tCons (tVar 15) tNil)) tNil)) (tVar 18))) (tNot (tB (rCallG (spN (cc K ca) (Φ 44)) E0 (tCons (tVar 2) (tCons (tVar 15) tNil)))))))) (tRet (tC (.bl false))) tNext))
    (tSeq (tIfS (tNot (tB (tCB (rAll K) (tCons (tLc (iList K (tLst (tCons (tUn (rU fun i => .int (-i)) (tC (.int 1))) (tCons (tOp rdAdd (tCB (rdLen K) (tCons (tVar 8) tNil)) (tC (.int 1))) tNil)))) (gName 20) tYes (tOp rEq (rCallG (spN (cc K ca) (Φ 45)) E0 (tCons (tC (.int 2)) (tCons (tVar 2) (tCons (tVar 12) (tCons (tVar 20) tNil))))) (tC (.str "refused"))) [20]) tNil)))) (tRet (tC (.bl false))) tNext)
    (tSeq (tIfS (tAnd (tTest (tOp rdLt (tVar 7) (tC (.int 2)))) (tNot (tB (rCallG (spN (cc K ca) (Φ 48)) E0 (tCons (tVar 1) (tCons (tVar 2) (tCons (tVar 8) (tCons (tVar 12) tNil)))))))) (tRet (tC (.bl false))) tNext)
    (tSeq (tIfS (tTest (tOp rNe (tCB (rReprD K) (tCons (tTup (tCons (tVar 2) (tCons (tVar 3) (tCons (tVar 4) tNil)))) tNil)) (tVar 6))) (tRet (tC (.bl false))) tNext)
    (tSeq (tAsg (rCallG (spN (cc K ca) (Φ 24)) E0 (tCons (tVar 1) (tCons (tC (.int 3)) tNil))) (gName 14))
    (tSeq (tAsg (tOp (rIxL K) (tLst (tCons (tVar 16) (tCons (tVar 17) tNil))) (tCB rdInt (tCons (tOp rdLt (tVar 13) (tOp rdSub (tCB (rdLen K) (tCons (tVar 8) tNil)) (tVar 13))) tNil))) (gName 15))
    (tSeq (tAsg (tTup (tCons (tCB (rdTuple K) (tCons (rCallG (spN (cc K ca) (Φ 43)) E0 (tCons (tVar 15) tNil)) tNil)) (tCons (tVar 15) tNil))) (gTup K 2 (gCons (gSub (tVar 3) (tVar 14) rSetL) (gCons (gSub (tVar 4) (tVar 14) rSetL) gNil))))
    (tAsg (tCB (rReprD K) (tCons (tTup (tCons (tVar 2) (tCons (tVar 3) (tCons (tVar 4) tNil)))) tNil)) (gName 6))))))))))))))))))))
    (tRet (tAndV (tOp rEq (rCallG (spN (cc K ca) (Φ 45)) E0 (tCons (tC (.int 0)) (tCons (tVar 2) (tCons (tTup tNil) (tCons (tTup tNil) tNil))))) (tC (.str "refused"))) (tOp rEq (rCallG (spN (cc K ca) (Φ 45)) E0 (tCons (tC (.int 0)) (tCons (tVar 2) (tCons (tOp (rCatA K) (tOp (rIxL K) (tVar 3) (tC (.int 0))) (tTup (tCons (tC (.str "qq")) tNil))) (tCons (tTup tNil) tNil))))) (tC (.str "refused"))))))))))))
theorem snd_law (T : Tx w K mg ad fu ca) (Φ : Nat → DSpec) : SS (cc K ca) noW (t_law K ca Φ) (d_law Φ) := by
  unfold t_law d_law
  exact (s_seq (s_asg (s_lst (s_cons (s_callN (s_cons s_var s_nil)) (s_cons (s_c fun _ _ => .int _) s_nil))) s_gname)
    (s_seq (s_asg (s_callN (s_cons s_var s_nil)) s_gname)
    (s_seq (s_asg (s_lst s_nil) s_gname)
    (s_seq (s_asg (s_lst s_nil) s_gname)
    (s_seq (s_for (s_iR1 (s_cons (s_c fun _ _ => .int _) s_nil)) s_gname
    (s_seq (s_asg (s_callN (s_cons s_var (s_cons s_var (s_cons (s_op so_add (s_c fun _ _ => .int _) (s_callN (s_cons s_var (s_cons (s_op so_ixL (s_lst (s_cons (s_c fun _ _ => .int _) (s_cons (s_c fun _ _ => .int _) (s_cons (s_op so_ixL (s_lst (s_cons (s_c fun _ _ => .int _) (s_cons (s_c fun _ _ => .int _) s_nil))) (s_b so_int (s_cons (s_op so_eq (s_callN (s_cons s_var (s_cons (s_c fun _ _ => .int _) s_nil))) (s_c fun _ _ => .int _)) s_nil))) s_nil)))) s_var) s_nil)))) s_nil)))) s_gname)
    (s_seq (s_asg (s_lst (s_cons (s_c fun _ _ => .int _) s_nil)) s_gname)
    (s_seq (s_asg (s_callN (s_cons s_var (s_cons (s_lc0 (s_iT s_var) s_gname (wp_name (by decide)) (s_callN (s_cons s_var (s_cons s_var s_nil)))) (s_cons s_var s_nil)))) s_gname)
    (s_seq (s_ifS (s_not (s_B (s_callN (s_cons (s_callN (s_cons (s_c fun _ _ => .int _) (s_cons s_var (s_cons s_var (s_cons (s_tup s_nil) s_nil))))) (s_cons (s_tup (s_cons (s_c fun _ _ => .str _) (s_cons (s_tup (s_cons s_var (s_cons (s_op so_ixL s_var (s_c fun _ _ => .int _)) s_nil))) s_nil))) s_nil))))) (s_ret (s_c fun _ _ => .bl _)) s_next)
    (s_seq (s_drop (s_m so_append s_var (s_cons s_var s_nil)))
    (s_drop (s_m so_append s_var (s_cons s_var s_nil)))))))))
    (s_seq (s_asg (s_b so_repr (s_cons (s_tup (s_cons s_var (s_cons s_var (s_cons s_var s_nil)))) s_nil)) s_gname)
    (s_seq (s_for (s_iR1 (s_cons (s_c fun _ _ => .int _) s_nil)) s_gname
    (s_seq (s_asg (s_callN (s_cons s_var (s_cons (s_c fun _ _ => .int _) s_nil))) s_gname)
    (s_seq (s_asg (s_callN (s_cons s_var (s_cons (s_c fun _ _ => .int _) s_nil))) s_gname)
    (s_seq (s_asg (s_lst (s_cons (s_c fun _ _ => .int _) s_nil)) s_gname)
    (s_seq (s_asg (s_callN (s_cons s_var (s_cons (s_op so_ixL s_var s_var) (s_cons (s_op so_ixL s_var s_var) (s_cons s_var s_nil))))) s_gname)
    (s_seq (s_ifS (s_or (s_not (s_B (s_callN (s_cons (s_callN (s_cons (s_c fun _ _ => .int _) (s_cons s_var (s_cons (s_op so_ixL s_var s_var) (s_cons (s_op so_ixL s_var s_var) s_nil))))) (s_cons (s_tup (s_cons (s_c fun _ _ => .str _) (s_cons (s_tup (s_cons s_var (s_cons (s_op so_ixL s_var (s_c fun _ _ => .int _)) s_nil))) s_nil))) s_nil))))) (s_not (s_B (s_callN (s_cons s_var (s_cons s_var s_nil)))))) (s_ret (s_c fun _ _ => .bl _)) s_next)
    (s_seq (s_asg (s_op so_catT (s_op so_ixL s_var s_var) (s_op so_ixL s_var s_var)) s_gname)
    (s_seq (s_asg (s_callN (s_cons s_var (s_cons (s_op so_add (s_b so_len (s_cons s_var s_nil)) (s_c fun _ _ => .int _)) s_nil))) s_gname)
    (s_seq (s_asg (s_lst (s_cons (s_c fun _ _ => .int _) s_nil)) s_gname)
    (s_seq (s_asg (s_callN (s_cons s_var (s_cons s_var (s_cons s_var (s_cons s_var s_nil))))) (s_gtup (s_gcons s_gname (s_gcons s_gname s_gnil))))
    (s_seq (s_ifS (s_not (s_B (s_callN (s_cons (s_callN (s_cons (s_c fun _ _ => .int _) (s_cons s_var (s_cons s_var (s_cons s_var s_nil))))) (s_cons (s_tup (s_cons (s_c fun _ _ => .str _) (s_cons (s_tup (s_cons s_var (s_cons s_var (s_cons (s_op so_ixL s_var (s_c fun _ _ => .int _)) s_nil)))) s_nil))) s_nil))))) (s_ret (s_c fun _ _ => .bl _)) s_next)
    (s_seq (s_for (s_iL (s_lst (s_cons (s_tup (s_cons s_var (s_cons (s_sl so_slT s_var s_nop (s_part s_var)) s_nil))) (s_cons (s_tup (s_cons s_var (s_cons (s_sl so_slT s_var (s_part s_var) s_nop) s_nil))) s_nil)))) (s_gtup (s_gcons s_gname (s_gcons s_gname s_gnil)))
    (s_ifS (s_or (s_test (s_op so_ne (s_op so_isN s_var (s_c fun _ _ => .non)) (s_op so_eq (s_b so_len (s_cons s_var s_nil)) (s_c fun _ _ => .int _)))) (s_and (s_test (s_op so_notN s_var (s_c fun _ _ => .non))) (s_or (s_test (s_op so_neD (s_b so_tuple (s_cons (s_callN (s_cons s_var s_nil)) s_nil)) s_var)) (s_not (s_B (s_callN (s_cons s_var (s_cons s_var s_nil)))))))) (s_ret (s_c fun _ _ => .bl _)) s_next))
    (s_seq (s_ifS (s_not (s_B (s_b so_all (s_cons (s_lc0 (s_iL (s_lst (s_cons (s_un so_neg (s_c fun _ _ => .int _)) (s_cons (s_op so_add (s_b so_len (s_cons s_var s_nil)) (s_c fun _ _ => .int _)) s_nil)))) s_gname (wp_name (by decide)) (s_op so_eq (s_callN (s_cons (s_c fun _ _ => .int _) (s_cons s_var (s_cons s_var (s_cons s_var s_nil))))) (s_c fun _ _ => .str _))) s_nil)))) (s_ret (s_c fun _ _ => .bl _)) s_next)
    (s_seq (s_ifS (s_and (s_test (s_op so_lt s_var (s_c fun _ _ => .int _))) (s_not (s_B (s_callN (s_cons s_var (s_cons s_var (s_cons s_var (s_cons s_var s_nil)))))))) (s_ret (s_c fun _ _ => .bl _)) s_next)
    (s_seq (s_ifS (s_test (s_op so_ne (s_b so_repr (s_cons (s_tup (s_cons s_var (s_cons s_var (s_cons s_var s_nil)))) s_nil)) s_var)) (s_ret (s_c fun _ _ => .bl _)) s_next)
    (s_seq (s_asg (s_callN (s_cons s_var (s_cons (s_c fun _ _ => .int _) s_nil))) s_gname)
    (s_seq (s_asg (s_op so_ixL (s_lst (s_cons s_var (s_cons s_var s_nil))) (s_b so_int (s_cons (s_op so_lt s_var (s_op so_sub (s_b so_len (s_cons s_var s_nil)) s_var)) s_nil))) s_gname)
    (s_seq (s_asg (s_tup (s_cons (s_b so_tuple (s_cons (s_callN (s_cons s_var s_nil)) s_nil)) (s_cons s_var s_nil))) (s_gtup (s_gcons (s_gsub (W := noW) s_var s_var) (s_gcons (s_gsub (W := noW) s_var s_var) s_gnil))))
    (s_asg (s_b so_repr (s_cons (s_tup (s_cons s_var (s_cons s_var (s_cons s_var s_nil)))) s_nil)) s_gname)))))))))))))))))))
    (s_ret (s_andV (s_op so_eq (s_callN (s_cons (s_c fun _ _ => .int _) (s_cons s_var (s_cons (s_tup s_nil) (s_cons (s_tup s_nil) s_nil))))) (s_c fun _ _ => .str _)) (s_op so_eq (s_callN (s_cons (s_c fun _ _ => .int _) (s_cons s_var (s_cons (s_op so_catT (s_op so_ixL s_var (s_c fun _ _ => .int _)) (s_tup (s_cons (s_c fun _ _ => .str _) s_nil))) (s_cons (s_tup s_nil) s_nil))))) (s_c fun _ _ => .str _)))))))))))
theorem sc_law : FnScope ["script", "state", "table", "logs", "trees", "k", "kept", "turn", "log", "count", "tree", "j", "both", "place", "at", "part", "ahead", "behind", "own", "letter", "odd"] ["script"] (defScope (topS 49)) := ⟨rfl, rfl, rfl, by decide +kernel, rfl, by decide +kernel, by decide +kernel⟩
theorem body_law {k : Nat} {Φ : Nat → DSpec} (T : Tx w K mg ad fu ca) (G_law_cut : FnG P w K mg base CX0 (2 * k) (ad 42) (fu 42) ["table", "tree", "place", "count"] (spN (cc K ca) (Φ 42))) (G_law_join : FnG P w K mg base CX0 (2 * k) (ad 41) (fu 41) ["table", "left", "right", "count"] (spN (cc K ca) (Φ 41))) (G_law_judged : FnG P w K mg base CX0 (2 * k) (ad 48) (fu 48) ["state", "table", "log", "tree"] (spN (cc K ca) (Φ 48))) (G_law_leaf : FnG P w K mg base CX0 (2 * k) (ad 37) (fu 37) ["table", "letter"] (spN (cc K ca) (Φ 37))) (G_law_leaves : FnG P w K mg base CX0 (2 * k) (ad 43) (fu 43) ["tree"] (spN (cc K ca) (Φ 43))) (G_law_log : FnG P w K mg base CX0 (2 * k) (ad 33) (fu 33) ["state", "table", "many"] (spN (cc K ca) (Φ 33))) (G_law_made_of : FnG P w K mg base CX0 (2 * k) (ad 38) (fu 38) ["table", "leaves", "count"] (spN (cc K ca) (Φ 38))) (G_law_next : FnG P w K mg base CX0 (2 * k) (ad 24) (fu 24) ["state", "many"] (spN (cc K ca) (Φ 24))) (G_law_right_tree : FnG P w K mg base CX0 (2 * k) (ad 44) (fu 44) ["table", "tree"] (spN (cc K ca) (Φ 44))) (G_law_same : FnG P w K mg base CX0 (2 * k) (ad 25) (fu 25) ["told", "due"] (spN (cc K ca) (Φ 25))) (G_law_stream : FnG P w K mg base CX0 (2 * k) (ad 23) (fu 23) ["script"] (spN (cc K ca) (Φ 23))) (G_law_table : FnG P w K mg base CX0 (2 * k) (ad 30) (fu 30) ["state"] (spN (cc K ca) (Φ 30))) (F_law_told : FnOk P w K mg base CX0 (2 * k) (ad 45) (fu 45) ["way", "table", "first", "second"] (spN (cc K ca) (Φ 45))) : Body P w K mg base (2 * k + 1) "law" (topS 49) (ad 49) ["script", "state", "table", "logs", "trees", "k", "kept", "turn", "log", "count", "tree", "j", "both", "place", "at", "part", "ahead", "behind", "own", "letter", "odd"] (t_law K ca Φ) := by
  intro cdv R out s Hh E gd ro
  have nd := sc_law.nd
  have hu := ro.units0
  have hu65 : R.units + 3 + 65 < cLine := by have := ro.un; show R.units + 3 + 65 < cLine; have e : (R.deeper (envOfC "law" (defScope (topS 49)) s.heap.objs.size (ad 49) cdv)).units = R.units + 3 := rfl; rw [e] at this; omega
  unfold t_law
  exact (pss_cons (ps_set (i := 1) nd rfl (by first | exact Or.inl rfl | exact Or.inr rfl) (pe_lst (pa_cons (pe_callG T.d_law_stream G_law_stream gd (ro.mono (by omega)) pass0 (pa_cons (pv 0) pa_nil)) (pa_cons pe_int pa_nil))))
    (pss_cons (ps_set (i := 2) nd rfl (by first | exact Or.inl rfl | exact Or.inr rfl) (pe_callG T.d_law_table G_law_table gd (ro.mono (by omega)) pass0 (pa_cons (pv 1) pa_nil)))
    (pss_cons (ps_set (i := 3) nd rfl (by first | exact Or.inl rfl | exact Or.inr rfl) (pe_lst pa_nil))
    (pss_cons (ps_set (i := 4) nd rfl (by first | exact Or.inl rfl | exact Or.inr rfl) (pe_lst pa_nil))
    (pss_cons (ps_for PassesOwn.never rfl (pi_range1 (by rfl) T.b_range (pa_cons pe_int pa_nil)) (pg_name (i := 5) nd rfl (by first | exact Or.inl rfl | exact Or.inr rfl))
    (pss_cons (ps_set (i := 8) nd rfl (by first | exact Or.inl rfl | exact Or.inr rfl) (pe_callG T.d_law_log G_law_log gd (ro.mono (by omega)) pass0 (pa_cons (pv 1) (pa_cons (pv 2) (pa_cons (pe_op op_add pe_int (pe_callG T.d_law_next G_law_next gd (ro.mono (by omega)) pass0 (pa_cons (pv 1) (pa_cons (pe_ix ix_list (pe_lst (pa_cons pe_int (pa_cons pe_int (pa_cons (pe_ix ix_list (pe_lst (pa_cons pe_int (pa_cons pe_int pa_nil))) (pe_callTy call_int1 (by rfl) T.b_int (by decide +kernel) (pa_cons (pe_cmpR op_eq (pe_callG T.d_law_next G_law_next gd (ro.mono (by omega)) pass0 (pa_cons (pv 1) (pa_cons pe_int pa_nil))) pe_int (by rfl)) pa_nil)) (fun _ _ => rfl)) pa_nil)))) (pv 5) (fun _ _ => rfl)) pa_nil)))) pa_nil)))))
    (pss_cons (ps_set (i := 9) nd rfl (by first | exact Or.inl rfl | exact Or.inr rfl) (pe_lst (pa_cons pe_int pa_nil)))
    (pss_cons (ps_set (i := 10) nd rfl (by first | exact Or.inl rfl | exact Or.inr rfl) (pe_callG T.d_law_made_of G_law_made_of gd (ro.mono (by omega)) pass0 (pa_cons (pv 2) (pa_cons (pe_lc (own := [("letter", 19)]) rfl nd (pi_tup (pv 8)) (blkOk_by (own := [("letter", 19)]) (N := ["script", "state", "table", "logs", "trees", "k", "kept", "turn", "log", "count", "tree", "j", "both", "place", "at", "part", "ahead", "behind", "own", "letter", "odd"]) (sc := defScope (topS 49)) (by decide +kernel)) (fun _ _ _ _ _ => (pg_name (i := 19) nd rfl (by first | exact Or.inl rfl | exact Or.inr rfl))) (fun _ _ _ _ _ => pts_nil) (fun _ _ _ _ _ => (pe_callG T.d_law_leaf G_law_leaf gd (ro.mono (by omega)) pass0 (pa_cons (pv 2) (pa_cons (pv 19) pa_nil))))) (pa_cons (pv 9) pa_nil)))))
    (pss_cons (ps_if (pt_not (pt_val (pe_callG T.d_law_same G_law_same gd (ro.mono (by omega)) pass0 (pa_cons (pe_callG T.d_law_told (FnG.of F_law_told) gd (ro.mono (by omega)) pass0 (pa_cons pe_int (pa_cons (pv 2) (pa_cons (pv 8) (pa_cons (pe_tup pa_nil) pa_nil))))) (pa_cons (pe_tup (pa_cons pe_str (pa_cons (pe_tup (pa_cons (pv 10) (pa_cons (pe_ix ix_list (pv 9) pe_int (fun _ _ => rfl)) pa_nil))) pa_nil))) pa_nil))))) (pss_one (ps_ret pe_bl)) pss_nil)
    (pss_cons (ps_expr (pe_bm PySem.F.plainAttrs_list PySem.F.slot_list_append PySem.F.type_list_append mt_append (pv 3) (pa_cons (pv 8) pa_nil)))
    (pss_one (ps_expr (pe_bm PySem.F.plainAttrs_list PySem.F.slot_list_append PySem.F.type_list_append mt_append (pv 4) (pa_cons (pv 10) pa_nil))))))))))
    (pss_cons (ps_set (i := 6) nd rfl (by first | exact Or.inl rfl | exact Or.inr rfl) (pe_callB (call_reprD gd (hu64 ro)) (by rfl) T.b_repr (by decide +kernel) (pa_cons (pe_tup (pa_cons (pv 2) (pa_cons (pv 3) (pa_cons (pv 4) pa_nil)))) pa_nil)))
    (pss_cons (ps_for PassesOwn.never rfl (pi_range1 (by rfl) T.b_range (pa_cons pe_int pa_nil)) (pg_name (i := 7) nd rfl (by first | exact Or.inl rfl | exact Or.inr rfl))
    (pss_cons (ps_set (i := 5) nd rfl (by first | exact Or.inl rfl | exact Or.inr rfl) (pe_callG T.d_law_next G_law_next gd (ro.mono (by omega)) pass0 (pa_cons (pv 1) (pa_cons pe_int pa_nil))))
    (pss_cons (ps_set (i := 11) nd rfl (by first | exact Or.inl rfl | exact Or.inr rfl) (pe_callG T.d_law_next G_law_next gd (ro.mono (by omega)) pass0 (pa_cons (pv 1) (pa_cons pe_int pa_nil))))
    (pss_cons (ps_set (i := 9) nd rfl (by first | exact Or.inl rfl | exact Or.inr rfl) (pe_lst (pa_cons pe_int pa_nil)))
    (pss_cons (ps_set (i := 12) nd rfl (by first | exact Or.inl rfl | exact Or.inr rfl) (pe_callG T.d_law_join G_law_join gd (ro.mono (by omega)) pass0 (pa_cons (pv 2) (pa_cons (pe_ix ix_list (pv 4) (pv 5) (fun _ _ => rfl)) (pa_cons (pe_ix ix_list (pv 4) (pv 11) (fun _ _ => rfl)) (pa_cons (pv 9) pa_nil))))))
    (pss_cons (ps_if (PW.pt (pw_or (pt_not (pt_val (pe_callG T.d_law_same G_law_same gd (ro.mono (by omega)) pass0 (pa_cons (pe_callG T.d_law_told (FnG.of F_law_told) gd (ro.mono (by omega)) pass0 (pa_cons pe_int (pa_cons (pv 2) (pa_cons (pe_ix ix_list (pv 4) (pv 5) (fun _ _ => rfl)) (pa_cons (pe_ix ix_list (pv 4) (pv 11) (fun _ _ => rfl)) pa_nil))))) (pa_cons (pe_tup (pa_cons pe_str (pa_cons (pe_tup (pa_cons (pv 12) (pa_cons (pe_ix ix_list (pv 9) pe_int (fun _ _ => rfl)) pa_nil))) pa_nil))) pa_nil))))) (pw_or1 (pt_not (pt_val (pe_callG T.d_law_right_tree G_law_right_tree gd (ro.mono (by omega)) pass0 (pa_cons (pv 2) (pa_cons (pv 12) pa_nil)))))))) (pss_one (ps_ret pe_bl)) pss_nil)
    (pss_cons (ps_set (i := 8) nd rfl (by first | exact Or.inl rfl | exact Or.inr rfl) (pe_op op_catA (pe_ix ix_list (pv 3) (pv 5) (fun _ _ => rfl)) (pe_ix ix_list (pv 3) (pv 11) (fun _ _ => rfl))))
    (pss_cons (ps_set (i := 13) nd rfl (by first | exact Or.inl rfl | exact Or.inr rfl) (pe_callG T.d_law_next G_law_next gd (ro.mono (by omega)) pass0 (pa_cons (pv 1) (pa_cons (pe_op op_add (pe_callB call_len_seq (by rfl) T.b_len (by decide +kernel) (pa_cons (pv 8) pa_nil)) pe_int) pa_nil))))
    (pss_cons (ps_set (i := 9) nd rfl (by first | exact Or.inl rfl | exact Or.inr rfl) (pe_lst (pa_cons pe_int pa_nil)))
    (pss_cons (ps_asg (pe_callG T.d_law_cut G_law_cut gd (ro.mono (by omega)) pass0 (pa_cons (pv 2) (pa_cons (pv 12) (pa_cons (pv 13) (pa_cons (pv 9) pa_nil))))) (pg_tup rfl (pgs_cons (pg_name (i := 16) nd rfl (by first | exact Or.inl rfl | exact Or.inr rfl)) (pgs_cons (pg_name (i := 17) nd rfl (by first | exact Or.inl rfl | exact Or.inr rfl)) pgs_nil))))
    (pss_cons (ps_if (pt_not (pt_val (pe_callG T.d_law_same G_law_same gd (ro.mono (by omega)) pass0 (pa_cons (pe_callG T.d_law_told (FnG.of F_law_told) gd (ro.mono (by omega)) pass0 (pa_cons pe_int (pa_cons (pv 2) (pa_cons (pv 12) (pa_cons (pv 13) pa_nil))))) (pa_cons (pe_tup (pa_cons pe_str (pa_cons (pe_tup (pa_cons (pv 16) (pa_cons (pv 17) (pa_cons (pe_ix ix_list (pv 9) pe_int (fun _ _ => rfl)) pa_nil)))) pa_nil))) pa_nil))))) (pss_one (ps_ret pe_bl)) pss_nil)
    (pss_cons (ps_for PassesOwn.never rfl (pi_list (pe_lst (pa_cons (pe_tup (pa_cons (pv 16) (pa_cons (pe_slice sl_tupA (pv 8) po_none (po_some (pv 13))) pa_nil))) (pa_cons (pe_tup (pa_cons (pv 17) (pa_cons (pe_slice sl_tupA (pv 8) (po_some (pv 13)) po_none) pa_nil))) pa_nil)))) (pg_tup rfl (pgs_cons (pg_name (i := 15) nd rfl (by first | exact Or.inl rfl | exact Or.inr rfl)) (pgs_cons (pg_name (i := 18) nd rfl (by first | exact Or.inl rfl | exact Or.inr rfl)) pgs_nil)))
    (pss_one (ps_if (PW.pt (pw_or (pt_cmpR op_ne (pe_cmpR op_isN (pv 15) pe_non (by rfl)) (pe_cmpR op_eq (pe_callB call_len_seq (by rfl) T.b_len (by decide +kernel) (pa_cons (pv 18) pa_nil)) pe_int (by rfl)) (by rfl)) (pw_or1 (PW.pt (pw_and (pt_cmpR op_notN (pv 15) pe_non (by rfl)) (pw_and1 (PW.pt (pw_or (pt_cmpR (op_neD (hu64 ro)) (pe_callTy call_tuple_of (by rfl) T.b_tuple (by decide +kernel) (pa_cons (pe_callG T.d_law_leaves G_law_leaves gd (ro.mono (by omega)) pass0 (pa_cons (pv 15) pa_nil)) pa_nil)) (pv 18) (by rfl)) (pw_or1 (pt_not (pt_val (pe_callG T.d_law_right_tree G_law_right_tree gd (ro.mono (by omega)) pass0 (pa_cons (pv 2) (pa_cons (pv 15) pa_nil)))))))))))))) (pss_one (ps_ret pe_bl)) pss_nil)))
    (pss_cons (ps_if (pt_not (pt_val (pe_callB (cr_all rfl) (by rfl) T.b_all (by decide +kernel) (pa_cons (pe_lc (own := [("odd", 20)]) rfl nd (pi_list (pe_lst (pa_cons (pe_un un_neg pe_int) (pa_cons (pe_op op_add (pe_callB call_len_seq (by rfl) T.b_len (by decide +kernel) (pa_cons (pv 8) pa_nil)) pe_int) pa_nil)))) (blkOk_by (own := [("odd", 20)]) (N := ["script", "state", "table", "logs", "trees", "k", "kept", "turn", "log", "count", "tree", "j", "both", "place", "at", "part", "ahead", "behind", "own", "letter", "odd"]) (sc := defScope (topS 49)) (by decide +kernel)) (fun _ _ _ _ _ => (pg_name (i := 20) nd rfl (by first | exact Or.inl rfl | exact Or.inr rfl))) (fun _ _ _ _ _ => pts_nil) (fun _ _ _ _ _ => (pe_cmpR op_eq (pe_callG T.d_law_told (FnG.of F_law_told) gd (ro.mono (by omega)) pass0 (pa_cons pe_int (pa_cons (pv 2) (pa_cons (pv 12) (pa_cons (pv 20) pa_nil))))) pe_str (by rfl)))) pa_nil)))) (pss_one (ps_ret pe_bl)) pss_nil)
    (pss_cons (ps_if (PW.pt (pw_and (pt_cmpR op_lt (pv 7) pe_int (by rfl)) (pw_and1 (pt_not (pt_val (pe_callG T.d_law_judged G_law_judged gd (ro.mono (by omega)) pass0 (pa_cons (pv 1) (pa_cons (pv 2) (pa_cons (pv 8) (pa_cons (pv 12) pa_nil)))))))))) (pss_one (ps_ret pe_bl)) pss_nil)
    (pss_cons (ps_if (pt_cmpR op_ne (pe_callB (call_reprD gd (hu64 ro)) (by rfl) T.b_repr (by decide +kernel) (pa_cons (pe_tup (pa_cons (pv 2) (pa_cons (pv 3) (pa_cons (pv 4) pa_nil)))) pa_nil)) (pv 6) (by rfl)) (pss_one (ps_ret pe_bl)) pss_nil)
    (pss_cons (ps_set (i := 14) nd rfl (by first | exact Or.inl rfl | exact Or.inr rfl) (pe_callG T.d_law_next G_law_next gd (ro.mono (by omega)) pass0 (pa_cons (pv 1) (pa_cons pe_int pa_nil))))
    (pss_cons (ps_set (i := 15) nd rfl (by first | exact Or.inl rfl | exact Or.inr rfl) (pe_ix ix_list (pe_lst (pa_cons (pv 16) (pa_cons (pv 17) pa_nil))) (pe_callTy call_int1 (by rfl) T.b_int (by decide +kernel) (pa_cons (pe_cmpR op_lt (pv 13) (pe_op op_sub (pe_callB call_len_seq (by rfl) T.b_len (by decide +kernel) (pa_cons (pv 8) pa_nil)) (pv 13)) (by rfl)) pa_nil)) (fun _ _ => rfl)))
    (pss_cons (ps_asg (pe_tup (pa_cons (pe_callTy call_tuple_of (by rfl) T.b_tuple (by decide +kernel) (pa_cons (pe_callG T.d_law_leaves G_law_leaves gd (ro.mono (by omega)) pass0 (pa_cons (pv 15) pa_nil)) pa_nil)) (pa_cons (pv 15) pa_nil))) (pg_tup rfl (pgs_cons (pg_sub (pv 3) (pv 14) set_list) (pgs_cons (pg_sub (pv 4) (pv 14) set_list) pgs_nil))))
    (pss_one (ps_set (i := 6) nd rfl (by first | exact Or.inl rfl | exact Or.inr rfl) (pe_callB (call_reprD gd (hu64 ro)) (by rfl) T.b_repr (by decide +kernel) (pa_cons (pe_tup (pa_cons (pv 2) (pa_cons (pv 3) (pa_cons (pv 4) pa_nil)))) pa_nil))))))))))))))))))))))
    (pss_one (ps_ret (pe_and (pe_cmpR op_eq (pe_callG T.d_law_told (FnG.of F_law_told) gd (ro.mono (by omega)) pass0 (pa_cons pe_int (pa_cons (pv 2) (pa_cons (pe_tup pa_nil) (pa_cons (pe_tup pa_nil) pa_nil))))) pe_str (by rfl)) (pe_one (pe_cmpR op_eq (pe_callG T.d_law_told (FnG.of F_law_told) gd (ro.mono (by omega)) pass0 (pa_cons pe_int (pa_cons (pv 2) (pa_cons (pe_op op_catA (pe_ix ix_list (pv 3) pe_int (fun _ _ => rfl)) (pe_tup (pa_cons pe_str pa_nil))) (pa_cons (pe_tup pa_nil) pa_nil))))) pe_str (by rfl)))))))))))))
theorem f_8 {k : Nat} {ds : List D} {h : MH} {X : DXc} {Q : DK} (z : F (k + 1) 8 ds h X Q) : dFn 3 3 (d_times (F k)) ds h X Q := z
theorem fn_8 {k : Nat} {c : Cc} {vv : List V} {H : Hp} {q : VK} {E : XK} : spN c (F (k + 1) 8) vv H q E ↔ spN c (dFn 3 3 (d_times (F k))) vv H q E := Iff.rfl
theorem f_10 {k : Nat} {ds : List D} {h : MH} {X : DXc} {Q : DK} (z : F (k + 1) 10 ds h X Q) : dFn 1 1 (d_is_leaf (F k)) ds h X Q := z
theorem fn_10 {k : Nat} {c : Cc} {vv : List V} {H : Hp} {q : VK} {E : XK} : spN c (F (k + 1) 10) vv H q E ↔ spN c (dFn 1 1 (d_is_leaf (F k))) vv H q E := Iff.rfl
theorem f_11 {k : Nat} {ds : List D} {h : MH} {X : DXc} {Q : DK} (z : F (k + 1) 11 ds h X Q) : dFn 2 2 (d_leaf_of (F k)) ds h X Q := z
theorem fx_11 {k : Nat} {c : Cc} {vv : List V} {H : Hp} {q : VK} {E : XK} : spX c (F (k + 1) 11) vv H q E ↔ spX c (dFn 2 2 (d_leaf_of (F k))) vv H q E := Iff.rfl
theorem f_2200 {k : Nat} {ds : List D} {h : MH} {X : DXc} {Q : DK} (z : F (k + 1) 2200 ds h X Q) : dFn 4 4 (d_Part_init (F k)) ds h X Q := z
theorem fn_2200 {k : Nat} {c : Cc} {vv : List V} {H : Hp} {q : VK} {E : XK} : spN c (F (k + 1) 2200) vv H q E ↔ spN c (dFn 4 4 (d_Part_init (F k))) vv H q E := Iff.rfl
theorem f_13 {k : Nat} {ds : List D} {h : MH} {X : DXc} {Q : DK} (z : F (k + 1) 13 ds h X Q) : dFn 1 1 (d_part_of (F k)) ds h X Q := z
theorem fn_13 {k : Nat} {c : Cc} {vv : List V} {H : Hp} {q : VK} {E : XK} : spN c (F (k + 1) 13) vv H q E ↔ spN c (dFn 1 1 (d_part_of (F k))) vv H q E := Iff.rfl
theorem f_14 {k : Nat} {ds : List D} {h : MH} {X : DXc} {Q : DK} (z : F (k + 1) 14 ds h X Q) : dFn 1 1 (d_tree_of (F k)) ds h X Q := z
theorem fn_14 {k : Nat} {c : Cc} {vv : List V} {H : Hp} {q : VK} {E : XK} : spN c (F (k + 1) 14) vv H q E ↔ spN c (dFn 1 1 (d_tree_of (F k))) vv H q E := Iff.rfl
theorem f_2500 {k : Nat} {ds : List D} {h : MH} {X : DXc} {Q : DK} (z : F (k + 1) 2500 ds h X Q) : dFn 2 2 (d_Maker_init (F k)) ds h X Q := z
theorem fn_2500 {k : Nat} {c : Cc} {vv : List V} {H : Hp} {q : VK} {E : XK} : spN c (F (k + 1) 2500) vv H q E ↔ spN c (dFn 2 2 (d_Maker_init (F k))) vv H q E := Iff.rfl
theorem f_2501 {k : Nat} {ds : List D} {h : MH} {X : DXc} {Q : DK} (z : F (k + 1) 2501 ds h X Q) : dFn 3 3 (d_Maker_node (F k)) ds h X Q := z
theorem fn_2501 {k : Nat} {c : Cc} {vv : List V} {H : Hp} {q : VK} {E : XK} : spN c (F (k + 1) 2501) vv H q E ↔ spN c (dFn 3 3 (d_Maker_node (F k))) vv H q E := Iff.rfl
theorem f_2502 {k : Nat} {ds : List D} {h : MH} {X : DXc} {Q : DK} (z : F (k + 1) 2502 ds h X Q) : dFn 2 3 (d_Maker_built (F k)) ds h X Q := z
theorem fn_2502 {k : Nat} {c : Cc} {vv : List V} {H : Hp} {q : VK} {E : XK} : spN c (F (k + 1) 2502) vv H q E ↔ spN c (dFn 2 3 (d_Maker_built (F k))) vv H q E := Iff.rfl
theorem f_2504 {k : Nat} {ds : List D} {h : MH} {X : DXc} {Q : DK} (z : F (k + 1) 2504 ds h X Q) : dFn 3 5 (d_Maker_righted (F k)) ds h X Q := z
theorem fn_2504 {k : Nat} {c : Cc} {vv : List V} {H : Hp} {q : VK} {E : XK} : spN c (F (k + 1) 2504) vv H q E ↔ spN c (dFn 3 5 (d_Maker_righted (F k))) vv H q E := Iff.rfl
theorem f_2505 {k : Nat} {ds : List D} {h : MH} {X : DXc} {Q : DK} (z : F (k + 1) 2505 ds h X Q) : dFn 3 5 (d_Maker_lefted (F k)) ds h X Q := z
theorem fn_2505 {k : Nat} {c : Cc} {vv : List V} {H : Hp} {q : VK} {E : XK} : spN c (F (k + 1) 2505) vv H q E ↔ spN c (dFn 3 5 (d_Maker_lefted (F k))) vv H q E := Iff.rfl
theorem f_2503 {k : Nat} {ds : List D} {h : MH} {X : DXc} {Q : DK} (z : F (k + 1) 2503 ds h X Q) : dFn 3 3 (d_Maker_joined (F k)) ds h X Q := z
theorem fn_2503 {k : Nat} {c : Cc} {vv : List V} {H : Hp} {q : VK} {E : XK} : spN c (F (k + 1) 2503) vv H q E ↔ spN c (dFn 3 3 (d_Maker_joined (F k))) vv H q E := Iff.rfl
theorem f_2506 {k : Nat} {ds : List D} {h : MH} {X : DXc} {Q : DK} (z : F (k + 1) 2506 ds h X Q) : dFn 3 3 (d_Maker_both (F k)) ds h X Q := z
theorem fn_2506 {k : Nat} {c : Cc} {vv : List V} {H : Hp} {q : VK} {E : XK} : spN c (F (k + 1) 2506) vv H q E ↔ spN c (dFn 3 3 (d_Maker_both (F k))) vv H q E := Iff.rfl
theorem f_2507 {k : Nat} {ds : List D} {h : MH} {X : DXc} {Q : DK} (z : F (k + 1) 2507 ds h X Q) : dFn 3 5 (d_Maker_cut (F k)) ds h X Q := z
theorem fn_2507 {k : Nat} {c : Cc} {vv : List V} {H : Hp} {q : VK} {E : XK} : spN c (F (k + 1) 2507) vv H q E ↔ spN c (dFn 3 5 (d_Maker_cut (F k))) vv H q E := Iff.rfl
theorem f_16 {k : Nat} {ds : List D} {h : MH} {X : DXc} {Q : DK} (z : F (k + 1) 16 ds h X Q) : dFn 1 4 (d_leaves_of (F k)) ds h X Q := z
theorem fn_16 {k : Nat} {c : Cc} {vv : List V} {H : Hp} {q : VK} {E : XK} : spN c (F (k + 1) 16) vv H q E ↔ spN c (dFn 1 4 (d_leaves_of (F k))) vv H q E := Iff.rfl
theorem f_17 {k : Nat} {ds : List D} {h : MH} {X : DXc} {Q : DK} (z : F (k + 1) 17 ds h X Q) : dFn 2 5 (d_built (F k)) ds h X Q := z
theorem fx_17 {k : Nat} {c : Cc} {vv : List V} {H : Hp} {q : VK} {E : XK} : spX c (F (k + 1) 17) vv H q E ↔ spX c (dFn 2 5 (d_built (F k))) vv H q E := Iff.rfl
theorem f_18 {k : Nat} {ds : List D} {h : MH} {X : DXc} {Q : DK} (z : F (k + 1) 18 ds h X Q) : dFn 3 5 (d_joined (F k)) ds h X Q := z
theorem fn_18 {k : Nat} {c : Cc} {vv : List V} {H : Hp} {q : VK} {E : XK} : spN c (F (k + 1) 18) vv H q E ↔ spN c (dFn 3 5 (d_joined (F k))) vv H q E := Iff.rfl
theorem f_19 {k : Nat} {ds : List D} {h : MH} {X : DXc} {Q : DK} (z : F (k + 1) 19 ds h X Q) : dFn 3 7 (d_cut_at (F k)) ds h X Q := z
theorem fx_19 {k : Nat} {c : Cc} {vv : List V} {H : Hp} {q : VK} {E : XK} : spX c (F (k + 1) 19) vv H q E ↔ spX c (dFn 3 7 (d_cut_at (F k))) vv H q E := Iff.rfl
theorem f_21 {k : Nat} {ds : List D} {h : MH} {X : DXc} {Q : DK} (z : F (k + 1) 21 ds h X Q) : dFn 2 4 (d_judge_part (F k)) ds h X Q := z
theorem fx_21 {k : Nat} {c : Cc} {vv : List V} {H : Hp} {q : VK} {E : XK} : spX c (F (k + 1) 21) vv H q E ↔ spX c (dFn 2 4 (d_judge_part (F k))) vv H q E := Iff.rfl
theorem f_20 {k : Nat} {ds : List D} {h : MH} {X : DXc} {Q : DK} (z : F (k + 1) 20 ds h X Q) : dFn 3 4 (d_judge_tree (F k)) ds h X Q := z
theorem fx_20 {k : Nat} {c : Cc} {vv : List V} {H : Hp} {q : VK} {E : XK} : spX c (F (k + 1) 20) vv H q E ↔ spX c (dFn 3 4 (d_judge_tree (F k))) vv H q E := Iff.rfl
theorem f_23 {k : Nat} {ds : List D} {h : MH} {X : DXc} {Q : DK} (z : F (k + 1) 23 ds h X Q) : dFn 1 6 (d_law_stream (F k)) ds h X Q := z
theorem fn_23 {k : Nat} {c : Cc} {vv : List V} {H : Hp} {q : VK} {E : XK} : spN c (F (k + 1) 23) vv H q E ↔ spN c (dFn 1 6 (d_law_stream (F k))) vv H q E := Iff.rfl
theorem f_25 {k : Nat} {ds : List D} {h : MH} {X : DXc} {Q : DK} (z : F (k + 1) 25 ds h X Q) : dFn 2 2 (d_law_same (F k)) ds h X Q := z
theorem fn_25 {k : Nat} {c : Cc} {vv : List V} {H : Hp} {q : VK} {E : XK} : spN c (F (k + 1) 25) vv H q E ↔ spN c (dFn 2 2 (d_law_same (F k))) vv H q E := Iff.rfl
theorem f_26 {k : Nat} {ds : List D} {h : MH} {X : DXc} {Q : DK} (z : F (k + 1) 26 ds h X Q) : dFn 2 4 (d_law_word (F k)) ds h X Q := z
theorem fn_26 {k : Nat} {c : Cc} {vv : List V} {H : Hp} {q : VK} {E : XK} : spN c (F (k + 1) 26) vv H q E ↔ spN c (dFn 2 4 (d_law_word (F k))) vv H q E := Iff.rfl
theorem f_28 {k : Nat} {ds : List D} {h : MH} {X : DXc} {Q : DK} (z : F (k + 1) 28 ds h X Q) : dFn 3 7 (d_law_map (F k)) ds h X Q := z
theorem fn_28 {k : Nat} {c : Cc} {vv : List V} {H : Hp} {q : VK} {E : XK} : spN c (F (k + 1) 28) vv H q E ↔ spN c (dFn 3 7 (d_law_map (F k))) vv H q E := Iff.rfl
theorem f_29 {k : Nat} {ds : List D} {h : MH} {X : DXc} {Q : DK} (z : F (k + 1) 29 ds h X Q) : dFn 2 9 (d_law_built (F k)) ds h X Q := z
theorem fn_29 {k : Nat} {c : Cc} {vv : List V} {H : Hp} {q : VK} {E : XK} : spN c (F (k + 1) 29) vv H q E ↔ spN c (dFn 2 9 (d_law_built (F k))) vv H q E := Iff.rfl
theorem f_30 {k : Nat} {ds : List D} {h : MH} {X : DXc} {Q : DK} (z : F (k + 1) 30 ds h X Q) : dFn 1 6 (d_law_table (F k)) ds h X Q := z
theorem fn_30 {k : Nat} {c : Cc} {vv : List V} {H : Hp} {q : VK} {E : XK} : spN c (F (k + 1) 30) vv H q E ↔ spN c (dFn 1 6 (d_law_table (F k))) vv H q E := Iff.rfl
theorem f_33 {k : Nat} {ds : List D} {h : MH} {X : DXc} {Q : DK} (z : F (k + 1) 33 ds h X Q) : dFn 3 4 (d_law_log (F k)) ds h X Q := z
theorem fn_33 {k : Nat} {c : Cc} {vv : List V} {H : Hp} {q : VK} {E : XK} : spN c (F (k + 1) 33) vv H q E ↔ spN c (dFn 3 4 (d_law_log (F k))) vv H q E := Iff.rfl
theorem f_24 {k : Nat} {ds : List D} {h : MH} {X : DXc} {Q : DK} (z : F (k + 1) 24 ds h X Q) : dFn 2 3 (d_law_next (F k)) ds h X Q := z
theorem fn_24 {k : Nat} {c : Cc} {vv : List V} {H : Hp} {q : VK} {E : XK} : spN c (F (k + 1) 24) vv H q E ↔ spN c (dFn 2 3 (d_law_next (F k))) vv H q E := Iff.rfl
theorem f_27 {k : Nat} {ds : List D} {h : MH} {X : DXc} {Q : DK} (z : F (k + 1) 27 ds h X Q) : dFn 2 4 (d_law_letters (F k)) ds h X Q := z
theorem fn_27 {k : Nat} {c : Cc} {vv : List V} {H : Hp} {q : VK} {E : XK} : spN c (F (k + 1) 27) vv H q E ↔ spN c (dFn 2 4 (d_law_letters (F k))) vv H q E := Iff.rfl
theorem f_34 {k : Nat} {ds : List D} {h : MH} {X : DXc} {Q : DK} (z : F (k + 1) 34 ds h X Q) : dFn 1 1 (d_law_height (F k)) ds h X Q := z
theorem fn_34 {k : Nat} {c : Cc} {vv : List V} {H : Hp} {q : VK} {E : XK} : spN c (F (k + 1) 34) vv H q E ↔ spN c (dFn 1 1 (d_law_height (F k))) vv H q E := Iff.rfl
theorem f_35 {k : Nat} {ds : List D} {h : MH} {X : DXc} {Q : DK} (z : F (k + 1) 35 ds h X Q) : dFn 1 1 (d_law_many (F k)) ds h X Q := z
theorem fn_35 {k : Nat} {c : Cc} {vv : List V} {H : Hp} {q : VK} {E : XK} : spN c (F (k + 1) 35) vv H q E ↔ spN c (dFn 1 1 (d_law_many (F k))) vv H q E := Iff.rfl
theorem f_36 {k : Nat} {ds : List D} {h : MH} {X : DXc} {Q : DK} (z : F (k + 1) 36 ds h X Q) : dFn 4 4 (d_law_node (F k)) ds h X Q := z
theorem fn_36 {k : Nat} {c : Cc} {vv : List V} {H : Hp} {q : VK} {E : XK} : spN c (F (k + 1) 36) vv H q E ↔ spN c (dFn 4 4 (d_law_node (F k))) vv H q E := Iff.rfl
theorem f_37 {k : Nat} {ds : List D} {h : MH} {X : DXc} {Q : DK} (z : F (k + 1) 37 ds h X Q) : dFn 2 2 (d_law_leaf (F k)) ds h X Q := z
theorem fn_37 {k : Nat} {c : Cc} {vv : List V} {H : Hp} {q : VK} {E : XK} : spN c (F (k + 1) 37) vv H q E ↔ spN c (dFn 2 2 (d_law_leaf (F k))) vv H q E := Iff.rfl
theorem f_38 {k : Nat} {ds : List D} {h : MH} {X : DXc} {Q : DK} (z : F (k + 1) 38 ds h X Q) : dFn 3 4 (d_law_made_of (F k)) ds h X Q := z
theorem fn_38 {k : Nat} {c : Cc} {vv : List V} {H : Hp} {q : VK} {E : XK} : spN c (F (k + 1) 38) vv H q E ↔ spN c (dFn 3 4 (d_law_made_of (F k))) vv H q E := Iff.rfl
theorem f_39 {k : Nat} {ds : List D} {h : MH} {X : DXc} {Q : DK} (z : F (k + 1) 39 ds h X Q) : dFn 5 5 (d_law_ordered (F k)) ds h X Q := z
theorem fn_39 {k : Nat} {c : Cc} {vv : List V} {H : Hp} {q : VK} {E : XK} : spN c (F (k + 1) 39) vv H q E ↔ spN c (dFn 5 5 (d_law_ordered (F k))) vv H q E := Iff.rfl
theorem f_40 {k : Nat} {ds : List D} {h : MH} {X : DXc} {Q : DK} (z : F (k + 1) 40 ds h X Q) : dFn 5 10 (d_law_beside (F k)) ds h X Q := z
theorem fn_40 {k : Nat} {c : Cc} {vv : List V} {H : Hp} {q : VK} {E : XK} : spN c (F (k + 1) 40) vv H q E ↔ spN c (dFn 5 10 (d_law_beside (F k))) vv H q E := Iff.rfl
theorem f_41 {k : Nat} {ds : List D} {h : MH} {X : DXc} {Q : DK} (z : F (k + 1) 41 ds h X Q) : dFn 4 6 (d_law_join (F k)) ds h X Q := z
theorem fn_41 {k : Nat} {c : Cc} {vv : List V} {H : Hp} {q : VK} {E : XK} : spN c (F (k + 1) 41) vv H q E ↔ spN c (dFn 4 6 (d_law_join (F k))) vv H q E := Iff.rfl
theorem f_42 {k : Nat} {ds : List D} {h : MH} {X : DXc} {Q : DK} (z : F (k + 1) 42 ds h X Q) : dFn 4 8 (d_law_cut (F k)) ds h X Q := z
theorem fn_42 {k : Nat} {c : Cc} {vv : List V} {H : Hp} {q : VK} {E : XK} : spN c (F (k + 1) 42) vv H q E ↔ spN c (dFn 4 8 (d_law_cut (F k))) vv H q E := Iff.rfl
theorem f_43 {k : Nat} {ds : List D} {h : MH} {X : DXc} {Q : DK} (z : F (k + 1) 43 ds h X Q) : dFn 1 1 (d_law_leaves (F k)) ds h X Q := z
theorem fn_43 {k : Nat} {c : Cc} {vv : List V} {H : Hp} {q : VK} {E : XK} : spN c (F (k + 1) 43) vv H q E ↔ spN c (dFn 1 1 (d_law_leaves (F k))) vv H q E := Iff.rfl
theorem f_44 {k : Nat} {ds : List D} {h : MH} {X : DXc} {Q : DK} (z : F (k + 1) 44 ds h X Q) : dFn 2 2 (d_law_right_tree (F k)) ds h X Q := z
theorem fn_44 {k : Nat} {c : Cc} {vv : List V} {H : Hp} {q : VK} {E : XK} : spN c (F (k + 1) 44) vv H q E ↔ spN c (dFn 2 2 (d_law_right_tree (F k))) vv H q E := Iff.rfl
theorem f_45 {k : Nat} {ds : List D} {h : MH} {X : DXc} {Q : DK} (z : F (k + 1) 45 ds h X Q) : dFn 4 5 (d_law_told (F k)) ds h X Q := z
theorem fn_45 {k : Nat} {c : Cc} {vv : List V} {H : Hp} {q : VK} {E : XK} : spN c (F (k + 1) 45) vv H q E ↔ spN c (dFn 4 5 (d_law_told (F k))) vv H q E := Iff.rfl
theorem f_46 {k : Nat} {ds : List D} {h : MH} {X : DXc} {Q : DK} (z : F (k + 1) 46 ds h X Q) : dFn 3 7 (d_law_spoilt (F k)) ds h X Q := z
theorem fn_46 {k : Nat} {c : Cc} {vv : List V} {H : Hp} {q : VK} {E : XK} : spN c (F (k + 1) 46) vv H q E ↔ spN c (dFn 3 7 (d_law_spoilt (F k))) vv H q E := Iff.rfl
theorem f_47 {k : Nat} {ds : List D} {h : MH} {X : DXc} {Q : DK} (z : F (k + 1) 47 ds h X Q) : dFn 2 4 (d_law_chain (F k)) ds h X Q := z
theorem fn_47 {k : Nat} {c : Cc} {vv : List V} {H : Hp} {q : VK} {E : XK} : spN c (F (k + 1) 47) vv H q E ↔ spN c (dFn 2 4 (d_law_chain (F k))) vv H q E := Iff.rfl
theorem f_48 {k : Nat} {ds : List D} {h : MH} {X : DXc} {Q : DK} (z : F (k + 1) 48 ds h X Q) : dFn 4 10 (d_law_judged (F k)) ds h X Q := z
theorem fn_48 {k : Nat} {c : Cc} {vv : List V} {H : Hp} {q : VK} {E : XK} : spN c (F (k + 1) 48) vv H q E ↔ spN c (dFn 4 10 (d_law_judged (F k))) vv H q E := Iff.rfl
theorem f_49 {k : Nat} {ds : List D} {h : MH} {X : DXc} {Q : DK} (z : F (k + 1) 49 ds h X Q) : dFn 1 21 (d_law (F k)) ds h X Q := z
theorem fn_49 {k : Nat} {c : Cc} {vv : List V} {H : Hp} {q : VK} {E : XK} : spN c (F (k + 1) 49) vv H q E ↔ spN c (dFn 1 21 (d_law (F k))) vv H q E := Iff.rfl
structure Ok (P : Program) (w : World) (K : PySem.W.Frag) (mg : Str → Option Value) (base : Heap) (ad : Nat → Addr) (fu : Nat → FuncData) (ca : Nat → Addr) (k : Nat) : Prop where
  o8 : FnOk P w K mg base CX0 (2 * k) (ad 8) (fu 8) ["table", "first", "second"] (spN (cc K ca) (F k 8))
  o10 : FnOk P w K mg base CX0 (2 * k) (ad 10) (fu 10) ["tree"] (spN (cc K ca) (F k 10))
  o11 : FnOk P w K mg base (L2.CX P w) (2 * k) (ad 11) (fu 11) ["table", "letter"] (spX (cc K ca) (F k 11))
  o2200 : FnOk P w K mg base CX0 (2 * k) (ad 2200) (fu 2200) ["self", "tree", "left", "right"] (spN (cc K ca) (F k 2200))
  o13 : FnOk P w K mg base CX0 (2 * k) (ad 13) (fu 13) ["tree"] (spN (cc K ca) (F k 13))
  o14 : FnOk P w K mg base CX0 (2 * k) (ad 14) (fu 14) ["part"] (spN (cc K ca) (F k 14))
  o2500 : FnOk P w K mg base CX0 (2 * k) (ad 2500) (fu 2500) ["self", "table"] (spN (cc K ca) (F k 2500))
  o2501 : FnOk P w K mg base CX0 (2 * k) (ad 2501) (fu 2501) ["self", "left", "right"] (spN (cc K ca) (F k 2501))
  o2502 : FnOk P w K mg base CX0 (2 * k) (ad 2502) (fu 2502) ["self", "leaves"] (spN (cc K ca) (F k 2502))
  o2504 : FnOk P w K mg base CX0 (2 * k) (ad 2504) (fu 2504) ["self", "left", "right"] (spN (cc K ca) (F k 2504))
  o2505 : FnOk P w K mg base CX0 (2 * k) (ad 2505) (fu 2505) ["self", "left", "right"] (spN (cc K ca) (F k 2505))
  o2503 : FnOk P w K mg base CX0 (2 * k) (ad 2503) (fu 2503) ["self", "left", "right"] (spN (cc K ca) (F k 2503))
  o2506 : FnOk P w K mg base CX0 (2 * k) (ad 2506) (fu 2506) ["self", "left", "right"] (spN (cc K ca) (F k 2506))
  o2507 : FnOk P w K mg base CX0 (2 * k) (ad 2507) (fu 2507) ["self", "part", "place"] (spN (cc K ca) (F k 2507))
  o16 : FnOk P w K mg base CX0 (2 * k) (ad 16) (fu 16) ["tree"] (spN (cc K ca) (F k 16))
  o17 : FnOk P w K mg base (L2.CX P w) (2 * k) (ad 17) (fu 17) ["table", "log"] (spX (cc K ca) (F k 17))
  o18 : FnOk P w K mg base CX0 (2 * k) (ad 18) (fu 18) ["table", "first", "second"] (spN (cc K ca) (F k 18))
  o19 : FnOk P w K mg base (L2.CX P w) (2 * k) (ad 19) (fu 19) ["table", "tree", "place"] (spX (cc K ca) (F k 19))
  o21 : FnOk P w K mg base (L2.CX P w) (2 * k) (ad 21) (fu 21) ["table", "tree"] (spX (cc K ca) (F k 21))
  o20 : FnOk P w K mg base (L2.CX P w) (2 * k) (ad 20) (fu 20) ["table", "log", "tree"] (spX (cc K ca) (F k 20))
  o23 : FnG P w K mg base CX0 (2 * k) (ad 23) (fu 23) ["script"] (spN (cc K ca) (F k 23))
  o25 : FnG P w K mg base CX0 (2 * k) (ad 25) (fu 25) ["told", "due"] (spN (cc K ca) (F k 25))
  o26 : FnG P w K mg base CX0 (2 * k) (ad 26) (fu 26) ["state", "taken"] (spN (cc K ca) (F k 26))
  o28 : FnG P w K mg base CX0 (2 * k) (ad 28) (fu 28) ["state", "rooms", "kind"] (spN (cc K ca) (F k 28))
  o29 : FnG P w K mg base CX0 (2 * k) (ad 29) (fu 29) ["letters", "maps"] (spN (cc K ca) (F k 29))
  o30 : FnG P w K mg base CX0 (2 * k) (ad 30) (fu 30) ["state"] (spN (cc K ca) (F k 30))
  o33 : FnG P w K mg base CX0 (2 * k) (ad 33) (fu 33) ["state", "table", "many"] (spN (cc K ca) (F k 33))
  o24 : FnG P w K mg base CX0 (2 * k) (ad 24) (fu 24) ["state", "many"] (spN (cc K ca) (F k 24))
  o27 : FnG P w K mg base CX0 (2 * k) (ad 27) (fu 27) ["state", "many"] (spN (cc K ca) (F k 27))
  o34 : FnG P w K mg base CX0 (2 * k) (ad 34) (fu 34) ["tree"] (spN (cc K ca) (F k 34))
  o35 : FnG P w K mg base CX0 (2 * k) (ad 35) (fu 35) ["tree"] (spN (cc K ca) (F k 35))
  o36 : FnG P w K mg base CX0 (2 * k) (ad 36) (fu 36) ["table", "left", "right", "count"] (spN (cc K ca) (F k 36))
  o37 : FnG P w K mg base CX0 (2 * k) (ad 37) (fu 37) ["table", "letter"] (spN (cc K ca) (F k 37))
  o38 : FnG P w K mg base CX0 (2 * k) (ad 38) (fu 38) ["table", "leaves", "count"] (spN (cc K ca) (F k 38))
  o39 : FnG P w K mg base CX0 (2 * k) (ad 39) (fu 39) ["table", "first", "second", "is_left", "count"] (spN (cc K ca) (F k 39))
  o40 : FnG P w K mg base CX0 (2 * k) (ad 40) (fu 40) ["table", "low", "high", "is_left", "count"] (spN (cc K ca) (F k 40))
  o41 : FnG P w K mg base CX0 (2 * k) (ad 41) (fu 41) ["table", "left", "right", "count"] (spN (cc K ca) (F k 41))
  o42 : FnG P w K mg base CX0 (2 * k) (ad 42) (fu 42) ["table", "tree", "place", "count"] (spN (cc K ca) (F k 42))
  o43 : FnG P w K mg base CX0 (2 * k) (ad 43) (fu 43) ["tree"] (spN (cc K ca) (F k 43))
  o44 : FnG P w K mg base CX0 (2 * k) (ad 44) (fu 44) ["table", "tree"] (spN (cc K ca) (F k 44))
  o45 : FnOk P w K mg base CX0 (2 * k) (ad 45) (fu 45) ["way", "table", "first", "second"] (spN (cc K ca) (F k 45))
  o46 : FnG P w K mg base CX0 (2 * k) (ad 46) (fu 46) ["state", "table", "tree"] (spN (cc K ca) (F k 46))
  o47 : FnG P w K mg base CX0 (2 * k) (ad 47) (fu 47) ["table", "log"] (spN (cc K ca) (F k 47))
  o48 : FnG P w K mg base CX0 (2 * k) (ad 48) (fu 48) ["state", "table", "log", "tree"] (spN (cc K ca) (F k 48))
  o49 : FnG P w K mg base CX0 (2 * k) (ad 49) (fu 49) ["script"] (spN (cc K ca) (F k 49))
theorem ok_zero : Ok P w K mg base ad fu ca 0 := ⟨fn_zero (spN_no fun _ _ _ _ h => h), fn_zero (spN_no fun _ _ _ _ h => h), fn_zero (spX_no fun _ _ _ _ h => h), fn_zero (spN_no fun _ _ _ _ h => h), fn_zero (spN_no fun _ _ _ _ h => h), fn_zero (spN_no fun _ _ _ _ h => h), fn_zero (spN_no fun _ _ _ _ h => h), fn_zero (spN_no fun _ _ _ _ h => h), fn_zero (spN_no fun _ _ _ _ h => h), fn_zero (spN_no fun _ _ _ _ h => h), fn_zero (spN_no fun _ _ _ _ h => h), fn_zero (spN_no fun _ _ _ _ h => h), fn_zero (spN_no fun _ _ _ _ h => h), fn_zero (spN_no fun _ _ _ _ h => h), fn_zero (spN_no fun _ _ _ _ h => h), fn_zero (spX_no fun _ _ _ _ h => h), fn_zero (spN_no fun _ _ _ _ h => h), fn_zero (spX_no fun _ _ _ _ h => h), fn_zero (spX_no fun _ _ _ _ h => h), fn_zero (spX_no fun _ _ _ _ h => h), fng_zero (spN_no fun _ _ _ _ h => h), fng_zero (spN_no fun _ _ _ _ h => h), fng_zero (spN_no fun _ _ _ _ h => h), fng_zero (spN_no fun _ _ _ _ h => h), fng_zero (spN_no fun _ _ _ _ h => h), fng_zero (spN_no fun _ _ _ _ h => h), fng_zero (spN_no fun _ _ _ _ h => h), fng_zero (spN_no fun _ _ _ _ h => h), fng_zero (spN_no fun _ _ _ _ h => h), fng_zero (spN_no fun _ _ _ _ h => h), fng_zero (spN_no fun _ _ _ _ h => h), fng_zero (spN_no fun _ _ _ _ h => h), fng_zero (spN_no fun _ _ _ _ h => h), fng_zero (spN_no fun _ _ _ _ h => h), fng_zero (spN_no fun _ _ _ _ h => h), fng_zero (spN_no fun _ _ _ _ h => h), fng_zero (spN_no fun _ _ _ _ h => h), fng_zero (spN_no fun _ _ _ _ h => h), fng_zero (spN_no fun _ _ _ _ h => h), fng_zero (spN_no fun _ _ _ _ h => h), fn_zero (spN_no fun _ _ _ _ h => h), fng_zero (spN_no fun _ _ _ _ h => h), fng_zero (spN_no fun _ _ _ _ h => h), fng_zero (spN_no fun _ _ _ _ h => h), fng_zero (spN_no fun _ _ _ _ h => h)⟩
theorem ok_succ {k : Nat} (T : Tx w K mg ad fu ca) (o : Ok P w K mg base ad fu ca k) : Ok P w K mg base ad fu ca (k + 1) := by
  have e2 : 2 * (k + 1) = 2 * k + 1 + 1 := rfl
  refine ⟨?_, ?_, ?_, ?_, ?_, ?_, ?_, ?_, ?_, ?_, ?_, ?_, ?_, ?_, ?_, ?_, ?_, ?_, ?_, ?_, ?_, ?_, ?_, ?_, ?_, ?_, ?_, ?_, ?_, ?_, ?_, ?_, ?_, ?_, ?_, ?_, ?_, ?_, ?_, ?_, ?_, ?_, ?_, ?_, ?_⟩
  · exact okP T.d_times.F sc_times (fun _ _ _ _ h => spN_len (fun _ _ _ _ z => (f_8 z).1) h) (body_times T) fun vv Hh q E h => fn_p (snd_times T (F k)) rfl ((fn_8).mp h) (spN_len (fun _ _ _ _ z => (f_8 z).1) h)
  · exact okP T.d_is_leaf.F sc_is_leaf (fun _ _ _ _ h => spN_len (fun _ _ _ _ z => (f_10 z).1) h) (body_is_leaf T) fun vv Hh q E h => fn_p (snd_is_leaf T (F k)) rfl ((fn_10).mp h) (spN_len (fun _ _ _ _ z => (f_10 z).1) h)
  · exact okX T.d_leaf_of.F sc_leaf_of (fun _ _ _ _ h => spX_len (fun _ _ _ _ z => (f_11 z).1) h) (body_leaf_of T) fun vv Hh q E h => fn_x (snd_leaf_of T (F k) _) rfl ((fx_11).mp h) (spX_len (fun _ _ _ _ z => (f_11 z).1) h)
  · exact okP T.d_Part_init sc_Part_init (fun _ _ _ _ h => spN_len (fun _ _ _ _ z => (f_2200 z).1) h) (body_Part_init T) fun vv Hh q E h => fn_p (snd_Part_init T (F k)) rfl ((fn_2200).mp h) (spN_len (fun _ _ _ _ z => (f_2200 z).1) h)
  · exact okP T.d_part_of.F sc_part_of (fun _ _ _ _ h => spN_len (fun _ _ _ _ z => (f_13 z).1) h) (body_part_of T o.o2200 o.o10 o.o13) fun vv Hh q E h => fn_p (snd_part_of T (F k)) rfl ((fn_13).mp h) (spN_len (fun _ _ _ _ z => (f_13 z).1) h)
  · exact okP T.d_tree_of.F sc_tree_of (fun _ _ _ _ h => spN_len (fun _ _ _ _ z => (f_14 z).1) h) (body_tree_of T) fun vv Hh q E h => fn_p (snd_tree_of T (F k)) rfl ((fn_14).mp h) (spN_len (fun _ _ _ _ z => (f_14 z).1) h)
  · exact okP T.d_Maker_init sc_Maker_init (fun _ _ _ _ h => spN_len (fun _ _ _ _ z => (f_2500 z).1) h) (body_Maker_init T) fun vv Hh q E h => fn_p (snd_Maker_init T (F k)) rfl ((fn_2500).mp h) (spN_len (fun _ _ _ _ z => (f_2500 z).1) h)
  · exact okP T.d_Maker_node sc_Maker_node (fun _ _ _ _ h => spN_len (fun _ _ _ _ z => (f_2501 z).1) h) (body_Maker_node T o.o2200 o.o8) fun vv Hh q E h => fn_p (snd_Maker_node T (F k)) rfl ((fn_2501).mp h) (spN_len (fun _ _ _ _ z => (f_2501 z).1) h)
  · exact okP T.d_Maker_built sc_Maker_built (fun _ _ _ _ h => spN_len (fun _ _ _ _ z => (f_2502 z).1) h) (body_Maker_built T o.o2502 o.o2501 o.o2200) fun vv Hh q E h => fn_p (snd_Maker_built T (F k)) rfl ((fn_2502).mp h) (spN_len (fun _ _ _ _ z => (f_2502 z).1) h)
  · exact okP T.d_Maker_righted sc_Maker_righted (fun _ _ _ _ h => spN_len (fun _ _ _ _ z => (f_2504 z).1) h) (body_Maker_righted T o.o2501) fun vv Hh q E h => fn_p (snd_Maker_righted T (F k)) rfl ((fn_2504).mp h) (spN_len (fun _ _ _ _ z => (f_2504 z).1) h)
  · exact okP T.d_Maker_lefted sc_Maker_lefted (fun _ _ _ _ h => spN_len (fun _ _ _ _ z => (f_2505 z).1) h) (body_Maker_lefted T o.o2501) fun vv Hh q E h => fn_p (snd_Maker_lefted T (F k)) rfl ((fn_2505).mp h) (spN_len (fun _ _ _ _ z => (f_2505 z).1) h)
  · exact okP T.d_Maker_joined sc_Maker_joined (fun _ _ _ _ h => spN_len (fun _ _ _ _ z => (f_2503 z).1) h) (body_Maker_joined T o.o2503 o.o2505 o.o2501 o.o2504) fun vv Hh q E h => fn_p (snd_Maker_joined T (F k)) rfl ((fn_2503).mp h) (spN_len (fun _ _ _ _ z => (f_2503 z).1) h)
  · exact okP T.d_Maker_both sc_Maker_both (fun _ _ _ _ h => spN_len (fun _ _ _ _ z => (f_2506 z).1) h) (body_Maker_both T o.o2503) fun vv Hh q E h => fn_p (snd_Maker_both T (F k)) rfl ((fn_2506).mp h) (spN_len (fun _ _ _ _ z => (f_2506 z).1) h)
  · exact okP T.d_Maker_cut sc_Maker_cut (fun _ _ _ _ h => spN_len (fun _ _ _ _ z => (f_2507 z).1) h) (body_Maker_cut T o.o2506 o.o2507) fun vv Hh q E h => fn_p (snd_Maker_cut T (F k)) rfl ((fn_2507).mp h) (spN_len (fun _ _ _ _ z => (f_2507 z).1) h)
  · exact okP T.d_leaves_of.F sc_leaves_of (fun _ _ _ _ h => spN_len (fun _ _ _ _ z => (f_16 z).1) h) (body_leaves_of T o.o10) fun vv Hh q E h => fn_p (snd_leaves_of T (F k)) rfl ((fn_16).mp h) (spN_len (fun _ _ _ _ z => (f_16 z).1) h)
  · exact okX T.d_built.F sc_built (fun _ _ _ _ h => spX_len (fun _ _ _ _ z => (f_17 z).1) h) (body_built T o.o2500 o.o2502 o.o11) fun vv Hh q E h => fn_x (snd_built T (F k) _) rfl ((fx_17).mp h) (spX_len (fun _ _ _ _ z => (f_17 z).1) h)
  · exact okP T.d_joined.F sc_joined (fun _ _ _ _ h => spN_len (fun _ _ _ _ z => (f_18 z).1) h) (body_joined T o.o2500 o.o2503 o.o13) fun vv Hh q E h => fn_p (snd_joined T (F k)) rfl ((fn_18).mp h) (spN_len (fun _ _ _ _ z => (f_18 z).1) h)
  · exact okX T.d_cut_at.F sc_cut_at (fun _ _ _ _ h => spX_len (fun _ _ _ _ z => (f_19 z).1) h) (body_cut_at T o.o2500 o.o2507 o.o13 o.o14) fun vv Hh q E h => fn_x (snd_cut_at T (F k) _) rfl ((fx_19).mp h) (spX_len (fun _ _ _ _ z => (f_19 z).1) h)
  · exact okX T.d_judge_part.F sc_judge_part (fun _ _ _ _ h => spX_len (fun _ _ _ _ z => (f_21 z).1) h) (body_judge_part T o.o10 o.o21 o.o8) fun vv Hh q E h => fn_x (snd_judge_part T (F k) _) rfl ((fx_21).mp h) (spX_len (fun _ _ _ _ z => (f_21 z).1) h)
  · exact okX T.d_judge_tree.F sc_judge_tree (fun _ _ _ _ h => spX_len (fun _ _ _ _ z => (f_20 z).1) h) (body_judge_tree T o.o21 o.o16) fun vv Hh q E h => fn_x (snd_judge_tree T (F k) _) rfl ((fx_20).mp h) (spX_len (fun _ _ _ _ z => (f_20 z).1) h)
  · exact ok_fun T.d_law_stream.F sc_law_stream (fun _ _ _ _ h => spN_len (fun _ _ _ _ z => (f_23 z).1) h) (body_law_stream T) fun vv Hh q E h => fn_p (snd_law_stream T (F k)) rfl ((fn_23).mp h) (spN_len (fun _ _ _ _ z => (f_23 z).1) h)
  · exact ok_fun T.d_law_same.F sc_law_same (fun _ _ _ _ h => spN_len (fun _ _ _ _ z => (f_25 z).1) h) (body_law_same T) fun vv Hh q E h => fn_p (snd_law_same T (F k)) rfl ((fn_25).mp h) (spN_len (fun _ _ _ _ z => (f_25 z).1) h)
  · exact ok_fun T.d_law_word.F sc_law_word (fun _ _ _ _ h => spN_len (fun _ _ _ _ z => (f_26 z).1) h) (body_law_word T o.o24) fun vv Hh q E h => fn_p (snd_law_word T (F k)) rfl ((fn_26).mp h) (spN_len (fun _ _ _ _ z => (f_26 z).1) h)
  · exact ok_fun T.d_law_map.F sc_law_map (fun _ _ _ _ h => spN_len (fun _ _ _ _ z => (f_28 z).1) h) (body_law_map T o.o24) fun vv Hh q E h => fn_p (snd_law_map T (F k)) rfl ((fn_28).mp h) (spN_len (fun _ _ _ _ z => (f_28 z).1) h)
  · exact ok_fun T.d_law_built.F sc_law_built (fun _ _ _ _ h => spN_len (fun _ _ _ _ z => (f_29 z).1) h) (body_law_built T) fun vv Hh q E h => fn_p (snd_law_built T (F k)) rfl ((fn_29).mp h) (spN_len (fun _ _ _ _ z => (f_29 z).1) h)
  · exact ok_fun T.d_law_table.F sc_law_table (fun _ _ _ _ h => spN_len (fun _ _ _ _ z => (f_30 z).1) h) (body_law_table T o.o29 o.o27 o.o28 o.o24) fun vv Hh q E h => fn_p (snd_law_table T (F k)) rfl ((fn_30).mp h) (spN_len (fun _ _ _ _ z => (f_30 z).1) h)
  · exact ok_fun T.d_law_log.F sc_law_log (fun _ _ _ _ h => spN_len (fun _ _ _ _ z => (f_33 z).1) h) (body_law_log T o.o24) fun vv Hh q E h => fn_p (snd_law_log T (F k)) rfl ((fn_33).mp h) (spN_len (fun _ _ _ _ z => (f_33 z).1) h)
  · exact ok_fun T.d_law_next.F sc_law_next (fun _ _ _ _ h => spN_len (fun _ _ _ _ z => (f_24 z).1) h) (body_law_next T) fun vv Hh q E h => fn_p (snd_law_next T (F k)) rfl ((fn_24).mp h) (spN_len (fun _ _ _ _ z => (f_24 z).1) h)
  · exact ok_fun T.d_law_letters.F sc_law_letters (fun _ _ _ _ h => spN_len (fun _ _ _ _ z => (f_27 z).1) h) (body_law_letters T o.o26) fun vv Hh q E h => fn_p (snd_law_letters T (F k)) rfl ((fn_27).mp h) (spN_len (fun _ _ _ _ z => (f_27 z).1) h)
  · exact ok_fun T.d_law_height.F sc_law_height (fun _ _ _ _ h => spN_len (fun _ _ _ _ z => (f_34 z).1) h) (body_law_height T o.o34) fun vv Hh q E h => fn_p (snd_law_height T (F k)) rfl ((fn_34).mp h) (spN_len (fun _ _ _ _ z => (f_34 z).1) h)
  · exact ok_fun T.d_law_many.F sc_law_many (fun _ _ _ _ h => spN_len (fun _ _ _ _ z => (f_35 z).1) h) (body_law_many T o.o35) fun vv Hh q E h => fn_p (snd_law_many T (F k)) rfl ((fn_35).mp h) (spN_len (fun _ _ _ _ z => (f_35 z).1) h)
  · exact ok_fun T.d_law_node.F sc_law_node (fun _ _ _ _ h => spN_len (fun _ _ _ _ z => (f_36 z).1) h) (body_law_node T) fun vv Hh q E h => fn_p (snd_law_node T (F k)) rfl ((fn_36).mp h) (spN_len (fun _ _ _ _ z => (f_36 z).1) h)
  · exact ok_fun T.d_law_leaf.F sc_law_leaf (fun _ _ _ _ h => spN_len (fun _ _ _ _ z => (f_37 z).1) h) (body_law_leaf T) fun vv Hh q E h => fn_p (snd_law_leaf T (F k)) rfl ((fn_37).mp h) (spN_len (fun _ _ _ _ z => (f_37 z).1) h)
  · exact ok_fun T.d_law_made_of.F sc_law_made_of (fun _ _ _ _ h => spN_len (fun _ _ _ _ z => (f_38 z).1) h) (body_law_made_of T o.o38 o.o36) fun vv Hh q E h => fn_p (snd_law_made_of T (F k)) rfl ((fn_38).mp h) (spN_len (fun _ _ _ _ z => (f_38 z).1) h)
  · exact ok_fun T.d_law_ordered.F sc_law_ordered (fun _ _ _ _ h => spN_len (fun _ _ _ _ z => (f_39 z).1) h) (body_law_ordered T o.o36) fun vv Hh q E h => fn_p (snd_law_ordered T (F k)) rfl ((fn_39).mp h) (spN_len (fun _ _ _ _ z => (f_39 z).1) h)
  · exact ok_fun T.d_law_beside.F sc_law_beside (fun _ _ _ _ h => spN_len (fun _ _ _ _ z => (f_40 z).1) h) (body_law_beside T o.o34 o.o39) fun vv Hh q E h => fn_p (snd_law_beside T (F k)) rfl ((fn_40).mp h) (spN_len (fun _ _ _ _ z => (f_40 z).1) h)
  · exact ok_fun T.d_law_join.F sc_law_join (fun _ _ _ _ h => spN_len (fun _ _ _ _ z => (f_41 z).1) h) (body_law_join T o.o40 o.o34 o.o41 o.o36) fun vv Hh q E h => fn_p (snd_law_join T (F k)) rfl ((fn_41).mp h) (spN_len (fun _ _ _ _ z => (f_41 z).1) h)
  · exact ok_fun T.d_law_cut.F sc_law_cut (fun _ _ _ _ h => spN_len (fun _ _ _ _ z => (f_42 z).1) h) (body_law_cut T o.o42 o.o41 o.o35) fun vv Hh q E h => fn_p (snd_law_cut T (F k)) rfl ((fn_42).mp h) (spN_len (fun _ _ _ _ z => (f_42 z).1) h)
  · exact ok_fun T.d_law_leaves.F sc_law_leaves (fun _ _ _ _ h => spN_len (fun _ _ _ _ z => (f_43 z).1) h) (body_law_leaves T o.o43) fun vv Hh q E h => fn_p (snd_law_leaves T (F k)) rfl ((fn_43).mp h) (spN_len (fun _ _ _ _ z => (f_43 z).1) h)
  · exact ok_fun T.d_law_right_tree.F sc_law_right_tree (fun _ _ _ _ h => spN_len (fun _ _ _ _ z => (f_44 z).1) h) (body_law_right_tree T o.o34 o.o44) fun vv Hh q E h => fn_p (snd_law_right_tree T (F k)) rfl ((fn_44).mp h) (spN_len (fun _ _ _ _ z => (f_44 z).1) h)
  · exact okP T.d_law_told.F sc_law_told (fun _ _ _ _ h => spN_len (fun _ _ _ _ z => (f_45 z).1) h) (body_law_told T o.o17 o.o19 o.o18 o.o20) fun vv Hh q E h => fn_p (snd_law_told T (F k)) rfl ((fn_45).mp h) (spN_len (fun _ _ _ _ z => (f_45 z).1) h)
  · exact ok_fun T.d_law_spoilt.F sc_law_spoilt (fun _ _ _ _ h => spN_len (fun _ _ _ _ z => (f_46 z).1) h) (body_law_spoilt T o.o24 o.o46) fun vv Hh q E h => fn_p (snd_law_spoilt T (F k)) rfl ((fn_46).mp h) (spN_len (fun _ _ _ _ z => (f_46 z).1) h)
  · exact ok_fun T.d_law_chain.F sc_law_chain (fun _ _ _ _ h => spN_len (fun _ _ _ _ z => (f_47 z).1) h) (body_law_chain T o.o37 o.o36) fun vv Hh q E h => fn_p (snd_law_chain T (F k)) rfl ((fn_47).mp h) (spN_len (fun _ _ _ _ z => (f_47 z).1) h)
  · exact ok_fun T.d_law_judged.F sc_law_judged (fun _ _ _ _ h => spN_len (fun _ _ _ _ z => (f_48 z).1) h) (body_law_judged T o.o47 o.o43 o.o44 o.o25 o.o46 o.o45) fun vv Hh q E h => fn_p (snd_law_judged T (F k)) rfl ((fn_48).mp h) (spN_len (fun _ _ _ _ z => (f_48 z).1) h)
  · exact ok_fun T.d_law.F sc_law (fun _ _ _ _ h => spN_len (fun _ _ _ _ z => (f_49 z).1) h) (body_law T o.o42 o.o41 o.o48 o.o37 o.o43 o.o33 o.o38 o.o24 o.o44 o.o25 o.o23 o.o30 o.o45) fun vv Hh q E h => fn_p (snd_law T (F k)) rfl ((fn_49).mp h) (spN_len (fun _ _ _ _ z => (f_49 z).1) h)
theorem ok_all (T : Tx w K mg ad fu ca) : ∀ k, Ok P w K mg base ad fu ca k
  | 0 => ok_zero
  | k + 1 => ok_succ T (ok_all T k)
end
end K93
section
local macro_rules | `(tactic| walk_at "w") => `(tactic| (conv => whnf))
local macro_rules | `(tactic| walk_at "s") => `(tactic| ((conv => whnf); repeat (first | ((refine ⟨_, by assumption, ?_⟩); (conv => whnf)) | ((refine ⟨_, rfl, ?_⟩); (conv => whnf)))))
local macro_rules | `(tactic| walk_at "if") => `(tactic| (refine ⟨fun c => ?_, fun c => ?_⟩ <;> simp only [decide_eq_true_eq, decide_eq_false_iff_not] at c))
namespace K93
open PySem PySem.Spec PyProof.Rows L2 Sf Dv
theorem len_pos {α : Type} {l : List α} (h : l ≠ []) : 0 < l.length := List.length_pos_iff.mpr h
theorem next_ok {k st n : Nat} {m : Int} {h : MH} {X : DXc} {Q : DK} (s : StD h st n) (hb : n < bigN) (hm : 0 < m) (q : ∀ r h', 0 ≤ r → r < m → Eqs [st] h h' → StD h' st (n + 1) → Q (.int r) h') : F (k + 1) i_law_next [.ref st, .int m] h X Q := by
  obtain ⟨j, ns, hj, hs, hn0, hln, hns⟩ := s
  unfold bigN at hb
  have hl := at_lt hs
  have h0 := len_pos hn0
  refine ⟨rfl, ?_⟩
  walk_at "s"
  refine ⟨_, 1, hs, rfl, fun h1 e1 => ?_⟩
  have e : h1[st]? = some (.lst [.lst (ns.map .int), .int ((j + 1 : Nat) : Int)]) := by rw [e1]; exact at_set hl
  have eq : Eqs [st] h h1 := by rw [e1]; exact (Eqs.refl [st] h).set (by simp)
  clear e1 hs
  walk_at "s"
  refine ⟨⟨by simpa using h0, by simp; omega⟩, ?_⟩
  walk_at "s"
  refine ⟨by simpa using h0, ?_⟩
  rw [List.length_map]
  have hmod0 : 0 ≤ ((j + 1 : Nat) : Int) % (ns.length : Int) := Int.emod_nonneg _ (by omega)
  have hmod1 : ((j + 1 : Nat) : Int) % (ns.length : Int) < (ns.length : Int) := Int.emod_lt_of_pos _ (by omega)
  have hlt : (((j + 1 : Nat) : Int) % (ns.length : Int)).toNat < ns.length := by omega
  walk_at "w"
  refine ⟨_, atI_map hmod0 (List.getElem?_eq_getElem hlt), ?_⟩
  walk_at "s"
  refine ⟨.inr ⟨by decide, by decide⟩, ?_⟩
  walk_at "s"
  refine ⟨.inl ⟨by omega, by omega⟩, ?_⟩
  walk_at "s"
  refine ⟨.inr ⟨by decide, by decide⟩, ?_⟩
  walk_at "s"
  refine ⟨hm, ?_⟩
  walk_at "w"
  exact .keep (q _ h1 (Int.emod_nonneg _ (by omega)) (Int.emod_lt_of_pos _ hm) eq ⟨j + 1, ns, by omega, e, hn0, hln, hns⟩)
/-- the same, over cells of one's own -/
theorem next_app {k st n : Nat} {m : Int} {h g : MH} {X : DXc} {Q : DK} (s : StD h st n) (hb : n < bigN) (hm : 0 < m) (q : ∀ r h', 0 ≤ r → r < m → Eqs [st] h h' → StD h' st (n + 1) → Q (.int r) (h' ++ g)) : F (k + 1) i_law_next [.ref st, .int m] (h ++ g) X Q :=
  next_ok s.app hb hm fun r h' r0 r1 e s' => by
    obtain ⟨h1, rfl, e1⟩ := e.split (fun i hi => by rw [List.mem_singleton.mp hi]; exact s.lt)
    exact q r h1 r0 r1 e1 (s'.cut (by rw [e1.1]; exact s.lt))
theorem mod_in (z : Int) : 0 ≤ z % 1009 ∧ z % 1009 < 1009 := ⟨Int.emod_nonneg _ (by decide), Int.emod_lt_of_pos _ (by decide)⟩
theorem cut_to {α : Type} (xs : List α) (k : Nat) : cutL xs none (some (k : Int)) = xs.take k := by
  unfold cutL
  rw [HT.sIx_nat, HT.sIx_none]
  by_cases h : k ≤ xs.length
  · rw [Nat.min_eq_left h]; simp
  · have e : min k xs.length = xs.length := by omega
    rw [e, List.take_of_length_le (by omega : xs.length ≤ k)]; simp
theorem cut_from {α : Type} (xs : List α) (k : Nat) : cutL xs (some (k : Int)) none = xs.drop k := by
  unfold cutL
  rw [HT.sIx_nat, HT.sIx_none]
  by_cases h : k ≤ xs.length
  · rw [Nat.min_eq_left h, List.take_of_length_le (by simp)]
  · have e : min k xs.length = xs.length := by omega
    rw [e, List.drop_eq_nil_of_le (Nat.le_refl _), List.drop_eq_nil_of_le (by omega)]; simp
/-- the numbers so far -/
def StrD (h : MH) (B : Nat) (h' : MH) : Prop := ∃ xs : List Int, h' = h ++ [.lst (xs.map .int)] ∧ xs.length ≤ B ∧ ∀ x ∈ xs, 0 ≤ x ∧ x < 1009
theorem StrD.le {h h' : MH} {B C : Nat} (s : StrD h B h') (k : B ≤ C) : StrD h C h' := by
  obtain ⟨xs, a, b, c⟩ := s
  exact ⟨xs, a, Nat.le_trans b k, c⟩
theorem StrD.app {h h' : MH} {B : Nat} {z : Int} {N : MH → Prop} (s : StrD h B h') (hz : 0 ≤ z ∧ z < 1009) (hB : B ≤ 100000) (q : ∀ h2, StrD h (B + 1) h2 → N h2) :
    ∃ ds, h'[h.length]? = some (.lst ds) ∧ ds.length < sizeLine ∧ ∀ h2, h2 = h'.set h.length (.lst (ds ++ [.int z])) → N h2 := by
  obtain ⟨xs, rfl, b, c⟩ := s
  refine ⟨_, at_new, szl (by rw [List.length_map]; omega), fun h2 e => q h2 ⟨xs ++ [z], ?_, by simp; omega, fun x hx => ?_⟩⟩
  · rw [e, set_new, List.map_append]; rfl
  · rcases List.mem_append.mp hx with hx | hx
    · exact c x hx
    · rw [List.mem_singleton.mp hx]; exact hz
theorem StrD.is {h h' : MH} {B : Nat} (s : StrD h B h') : ∃ ds, h'[h.length]? = some (.lst ds) := by
  obtain ⟨xs, rfl, _⟩ := s
  exact ⟨_, at_new⟩
theorem stream_ok {k : Nat} {ns : List Int} {h : MH} {X : DXc} {Q : DK} (hl : ns.length ≤ 63) (q : ∀ xs : List Int, xs ≠ [] → xs.length ≤ 100000 → (∀ x ∈ xs, 0 ≤ x ∧ x < 1009) → Q (.lst (xs.map .int)) h) : F (k + 1) i_law_stream [.scr ns] h X Q := by
  refine ⟨rfl, ?_⟩
  walk_at "s"
  refine ⟨by decide, .inl ?_⟩
  walk_at "s"
  refine .inr ?_
  walk_at "w"
  refine ⟨fun i δ h' => (∃ c2 c3 c4 c5, δ = [some (.scr ns), some (.ref h.length), c2, c3, c4, c5]) ∧ StrD h (60 * i) h', ⟨⟨_, _, _, _, rfl⟩, [], rfl, by simp, by simp⟩, ?_, ?_⟩
  · rintro i δ h' x ⟨⟨c2, c3, c4, c5, rfl⟩, s⟩ hx
    refine ⟨trivial, ?_⟩
    have ec : cutL (ns.map D.int) none (some 63) = ns.map D.int := by
      have := cut_to (ns.map D.int) 63
      rw [List.take_of_length_le (by simp; omega)] at this
      exact this
    rw [ec, List.getElem?_map] at hx
    have hi : i < 63 := by
      cases e : ns[i]? with
      | none => rw [e] at hx; cases hx
      | some z => have := at_lt (h := ns.map .int) (x := .int z) (i := i) (by rw [List.getElem?_map, e]; rfl); simp at this; omega
    obtain ⟨z, hz, rfl⟩ : ∃ z, ns[i]? = some z ∧ x = .int z := by
      cases e : ns[i]? with
      | none => rw [e] at hx; cases hx
      | some z => rw [e] at hx; exact ⟨z, rfl, (Option.some.inj hx).symm⟩
    walk_at "s"
    refine ⟨⟨by decide, by decide, by decide⟩, ?_⟩
    walk_at "w"
    generalize (if z < 0 then -z else z) = rest
    refine ⟨fun c => ?_, fun c => ?_⟩
    · walk_at "w"
      refine ⟨by decide, by decide, ?_⟩
      refine ⟨fun m δ h2 => (∃ c4 c5 rest, δ = [some (.scr ns), some (.ref h.length), some (.int z), some (.int rest), c4, c5]) ∧ StrD h (60 * i + m) h2, ⟨⟨_, _, _, rfl⟩, s⟩, ?_, ?_⟩
      · rintro m δ h2 x ⟨⟨c4, c5, rest, rfl⟩, s2⟩ hx
        obtain ⟨hm, rfl⟩ := rngD_get hx
        have hm : m < 60 := hm
        refine ⟨trivial, ?_⟩
        walk_at "w"
        refine ⟨s2.is, ?_⟩
        walk_at "s"
        refine ⟨by decide, ?_⟩
        walk_at "w"
        refine s2.app (mod_in _) (by omega) fun h3 s3 => ?_
        walk_at "w"
        refine ⟨⟨by decide, by decide⟩, ?_⟩
        walk_at "w"
        refine ⟨fun c => ?_, fun c => ?_⟩
        · exact ⟨⟨_, _, _, _, rfl⟩, s3.le (by omega)⟩
        · exact ⟨⟨_, _, _, rfl⟩, s3⟩
      · rintro δ h2 ⟨⟨c4, c5, rest, rfl⟩, s2⟩
        exact ⟨trivial, ⟨_, _, _, _, rfl⟩, s2.le (by rw [rngD_len]; show 60 * i + 60 ≤ _; omega)⟩
    · walk_at "s"
      refine ⟨by decide, ?_⟩
      walk_at "w"
      refine ⟨by decide, by decide, ?_⟩
      refine ⟨fun m δ h2 => (∃ c3 c4 mx, δ = [some (.scr ns), some (.ref h.length), some (.int z), c3, c4, some (.int mx)]) ∧ StrD h (60 * i + m) h2, ⟨⟨_, _, _, rfl⟩, s⟩, ?_, ?_⟩
      · rintro m δ h2 x ⟨⟨c3, c4, mx, rfl⟩, s2⟩ hx
        obtain ⟨hm, rfl⟩ := rngD_get hx
        have hm : m < 10 := hm
        refine ⟨trivial, ?_⟩
        walk_at "w"
        refine ⟨.inr ⟨by decide, by decide⟩, ?_⟩
        walk_at "w"
        refine ⟨.inl ⟨by decide, by decide⟩, ?_⟩
        walk_at "w"
        refine ⟨by decide, ?_⟩
        walk_at "w"
        refine ⟨s2.is, ?_⟩
        walk_at "w"
        refine ⟨.inr ⟨by decide, by decide⟩, ?_⟩
        walk_at "w"
        refine ⟨by decide, ?_⟩
        walk_at "w"
        refine ⟨by decide, ?_⟩
        walk_at "w"
        refine s2.app (mod_in _) (by omega) fun h3 s3 => ?_
        exact ⟨⟨_, _, _, rfl⟩, s3⟩
      · rintro δ h2 ⟨⟨c3, c4, mx, rfl⟩, s2⟩
        exact ⟨trivial, ⟨_, _, _, _, rfl⟩, s2.le (by rw [rngD_len]; show 60 * i + 10 ≤ _; omega)⟩
  · rintro δ h' ⟨⟨c2, c3, c4, c5, rfl⟩, xs, rfl, hb, hr⟩
    refine ⟨trivial, ?_⟩
    have hb' : xs.length ≤ 60 * 63 := by
      refine Nat.le_trans hb (Nat.mul_le_mul_left 60 ?_)
      unfold cutL
      rw [List.length_take, List.length_drop, List.length_map]
      omega
    walk_at "w"
    refine ⟨_, at_new, ?_⟩
    walk_at "w"
    rw [List.length_map]
    refine ⟨fun c => ?_, fun c => ?_⟩
    · walk_at "w"
      refine ⟨⟨_, at_new⟩, ?_⟩
      walk_at "w"
      refine ⟨_, at_new, szl (by rw [List.length_map]; omega), fun h2 e => ?_⟩
      rw [set_new] at e
      subst e
      walk_at "w"
      have e2 : (xs.map D.int ++ [D.int 0]) = (xs ++ [0]).map D.int := by rw [List.map_append]; rfl
      rw [e2]
      refine out_lst (bds_ints _) (q (xs ++ [0]) (by simp) (by simp; omega) fun x hx => ?_)
      rcases List.mem_append.mp hx with hx | hx
      · exact hr x hx
      · rw [List.mem_singleton.mp hx]; decide
    · walk_at "w"
      refine out_lst (bds_ints _) (q xs (fun e => ?_) (by omega) hr)
      subst e
      simp at c
theorem tl_one (c : Nat) : TL.tl (⟨#[c]⟩ : Str) = [c] := rfl
theorem len_cps (x : Str) : x.length = (TL.tl x).length := TL.len_tl x
theorem big_lt {n m : Nat} (h : n + m < bigN) {j : Nat} (hj : j ≤ m) : n + j < bigN := by omega
theorem abyz_at {r : Int} (h0 : 0 ≤ r) (h1 : r < 4) : ∃ z, atI (Str.ofString "abyz").cps.toList r = some z ∧ 97 ≤ z ∧ z ≤ 122 ∧ z ≠ 113 := by
  have e : (Str.ofString "abyz").cps.toList = [97, 98, 121, 122] := by rfl
  rw [e]
  have : r = 0 ∨ r = 1 ∨ r = 2 ∨ r = 3 := by omega
  rcases this with rfl | rfl | rfl | rfl
  · exact ⟨97, atZ0, by decide⟩
  · exact ⟨98, atZ1, by decide⟩
  · exact ⟨121, atZ2, by decide⟩
  · exact ⟨122, atZ3, by decide⟩
/-- the letters of the alphabet by place -/
theorem alpha_at {n : Nat} (h : n ≤ 4) : ∃ z, atI (Str.ofString "abcdefghijklmnopqrstuvwxyz").cps.toList (n : Int) = some z ∧ 97 ≤ z ∧ z ≤ 101 := by
  have hlt : n < (Str.ofString "abcdefghijklmnopqrstuvwxyz").cps.toList.length := by
    have e : (Str.ofString "abcdefghijklmnopqrstuvwxyz").cps.toList.length = 26 := by decide +kernel
    omega
  refine ⟨_, at_nat (List.getElem?_eq_getElem hlt), ?_⟩
  have all : ∀ z ∈ (Str.ofString "abcdefghijklmnopqrstuvwxyz").cps.toList.take 5, 97 ≤ z ∧ z ≤ 101 := by decide +kernel
  exact all _ (List.mem_of_getElem? (show ((Str.ofString "abcdefghijklmnopqrstuvwxyz").cps.toList.take 5)[n]? = some _ by rw [List.getElem?_take_of_lt (by omega), List.getElem?_eq_getElem hlt]))
theorem word_ok {k st n p : Nat} {ts : List Str} {h : MH} {X : DXc} {Q : DK} (s : StD h st n) (hb : n + 10 < bigN) (ht : h[p]? = some (.lst (ts.map .str))) (hp : p ≠ st) (hl : ts.length ≤ 4) (q : ∀ x h', LetOk x → Eqs [st] h h' → StD h' st (n + 10) → Q (.str x) h') : F (k + 2) i_law_word [.ref st, .ref p] h X Q := by
  refine ⟨rfl, ?_⟩
  walk_at "s"
  refine ⟨next_ok s (by omega) (by decide) fun r h1 r0 r1 e1 s1 => ?_⟩
  walk_at "w"
  refine ⟨sz (by simp), .inr ?_⟩
  walk_at "w"
  refine ⟨next_ok s1 (by omega) (by decide) fun i h2 i0 i1 e2 s2 => ?_⟩
  obtain ⟨c, hc, hc1, hc2⟩ : ∃ c : Int, atI [D.int 1, .int 2, .int (1 + r)] i = some (.int c) ∧ 1 ≤ c ∧ c ≤ 8 := by
    have : i = 0 ∨ i = 1 ∨ i = 2 := by omega
    rcases this with rfl | rfl | rfl
    · exact ⟨1, atZ0, by decide, by decide⟩
    · exact ⟨2, atZ1, by decide, by decide⟩
    · exact ⟨1 + r, atZ2, by omega, by omega⟩
  walk_at "w"
  refine ⟨_, hc, ?_⟩
  walk_at "w"
  refine ⟨by omega, by omega, ?_⟩
  refine ⟨fun m δ h' => (∃ (w : Str) (x : Option D), δ = [some (.ref st), some (.ref p), some (.str w), x] ∧ w.length = m ∧ ∀ z ∈ TL.tl w, 97 ≤ z ∧ z ≤ 122 ∧ z ≠ 113) ∧ Eqs [st] h h' ∧ StD h' st (n + 2 + m), ⟨⟨"", none, rfl, rfl, fun z hz => absurd hz (by show z ∉ []; simp)⟩, e1.trans e2, s2⟩, ?_, ?_⟩
  · rintro m δ h' x ⟨⟨w, x0, rfl, hw, ha⟩, e, s3⟩ hx
    obtain ⟨hm, rfl⟩ := rngD_get hx
    refine ⟨trivial, ?_⟩
    walk_at "w"
    refine ⟨next_ok s3 (by omega) (by decide) fun r2 h3 r20 r21 e3 s4 => ?_⟩
    obtain ⟨z, hz, hza⟩ := abyz_at r20 r21
    walk_at "w"
    refine ⟨sz (by decide +kernel), z, hz, ?_⟩
    walk_at "w"
    have e1 : (⟨#[z]⟩ : Str).length = 1 := rfl
    refine ⟨sz (by rw [e1]; omega), ?_⟩
    refine ⟨⟨w ++ ⟨#[z]⟩, _, rfl, ?_, fun y hy => ?_⟩, e.trans e3, s4.le (by omega)⟩
    · rw [len_cps, TL.tl_append, List.length_append, ← len_cps, hw]; rfl
    · rw [TL.tl_append] at hy
      rcases List.mem_append.mp hy with hy | hy
      · exact ha y hy
      · rw [tl_one] at hy; rw [List.mem_singleton.mp hy]; exact hza
  · rintro δ h' ⟨⟨w, x0, rfl, hw, ha⟩, e, s3⟩
    have ht' := e.get (by simp [hp]) ht
    rw [rngD_len] at hw s3
    have s4 := s3.le (m := n + 10) (by omega)
    refine ⟨trivial, ?_⟩
    walk_at "w"
    refine ⟨_, ht', rfl, all_strs _, ?_⟩
    rw [any_strs, if_neg Bool.false_ne_true]
    walk_at "w"
    refine ⟨fun c => ?_, fun c => ?_⟩
    · walk_at "s"
      rw [List.length_map]
      obtain ⟨z, hz, hm⟩ := alpha_at hl
      refine ⟨sz (by decide +kernel), z, hz, ?_⟩
      walk_at "w"
      have e1 : (⟨#[z]⟩ : Str).length = 1 := rfl
      have e2 : (Str.ofString "c").length = 1 := rfl
      refine ⟨sz (by rw [e1, e2]; decide), ?_⟩
      refine .keep (q _ h' ?_ e s4)
      have e3 : TL.tl (Str.ofString "c" ++ ⟨#[z]⟩) = [99, z] := by rw [TL.tl_append]; rfl
      have e4 : ∀ y ∈ TL.tl (Str.ofString "c" ++ ⟨#[z]⟩), 97 ≤ y ∧ y ≤ 101 := fun y hy => by
        rw [e3] at hy
        simp only [List.mem_cons, List.not_mem_nil, or_false] at hy
        rcases hy with rfl | rfl
        · omega
        · exact hm
      refine ⟨by rw [len_cps, e3]; simp, by rw [len_cps, e3]; simp, fun y hy => ?_, fun hy => ?_⟩
      · have := e4 y hy; omega
      · have := e4 113 hy; omega
    · walk_at "w"
      exact .keep (q w h' ⟨by omega, by omega, fun y hy => by have := ha y hy; omega, fun hy => (ha 113 hy).2.2 rfl⟩ e s4)
theorem letters_ok {k st n m : Nat} {h : MH} {X : DXc} {Q : DK} (s : StD h st n) (hb : n + 50 < bigN) (hm : m ≤ 4) (q : ∀ (ws : List Str) h', ws.length = m → (∀ x ∈ ws, LetOk x) → Eqs [st] h h' → StD h' st (n + 50) → Q (.tup true (ws.map .str)) h') : F (k + 3) i_law_letters [.ref st, .int (m : Int)] h X Q := by
  refine ⟨rfl, ?_⟩
  walk_at "s"
  refine ⟨by decide, .inl ?_⟩
  walk_at "w"
  refine ⟨by omega, by omega, ?_⟩
  refine ⟨fun i δ h' => ∃ (ws : List Str) (x : Option D) (h1 : MH), δ = [some (.ref st), some (.int m), some (.ref h.length), x] ∧ h' = h1 ++ [.lst (ws.map .str)] ∧ ws.length = i ∧ (∀ x ∈ ws, LetOk x) ∧ Eqs [st] h h1 ∧ StD h1 st (n + 10 * i), ⟨[], none, h, rfl, rfl, rfl, by simp, Eqs.refl _ _, s⟩, ?_, ?_⟩
  · rintro i δ h' x ⟨ws, x0, h1, rfl, rfl, hw, hok, e, s1⟩ hx
    obtain ⟨hi, rfl⟩ := rngD_get hx
    have ln := e.1
    have sl := s1.lt
    refine ⟨trivial, ?_⟩
    walk_at "w"
    have an : (h1 ++ [D.lst (ws.map .str)])[h.length]? = some (.lst (ws.map .str)) := by rw [← ln]; exact at_new
    refine ⟨⟨_, an⟩, ?_⟩
    walk_at "w"
    refine ⟨word_ok (s1.app (g := [.lst (ws.map .str)])) (by omega) an (by omega) (by omega) fun y h2 ly e2 s2 => ?_⟩
    obtain ⟨h3, rfl, e3⟩ := e2.split (fun i hi => by rw [List.mem_singleton.mp hi]; exact sl)
    have l3 := e3.1
    have an3 : (h3 ++ [D.lst (ws.map .str)])[h.length]? = some (.lst (ws.map .str)) := by rw [← ln, ← l3]; exact at_new
    walk_at "w"
    refine ⟨_, an3, szl (by rw [List.length_map]; omega), fun h4 e4 => ?_⟩
    rw [← ln, ← l3, set_new] at e4
    subst e4
    refine ⟨ws ++ [y], _, h3, rfl, by rw [List.map_append]; rfl, by simp [hw], fun z hz => ?_, e.trans e3, (s2.cut (by omega)).le (by omega)⟩
    rcases List.mem_append.mp hz with hz | hz
    · exact hok z hz
    · rw [List.mem_singleton.mp hz]; exact ly
  · rintro δ h' ⟨ws, x0, h1, rfl, rfl, hw, hok, e, s1⟩
    rw [rngD_len] at hw s1
    have an : (h1 ++ [D.lst (ws.map .str)])[h.length]? = some (.lst (ws.map .str)) := by rw [← e.1]; exact at_new
    refine ⟨trivial, ?_⟩
    walk_at "s"
    exact out_eqs e s1.rfs (rf_tup (bds_strs _)) (q ws h1 (by omega) hok e (s1.le (by omega)))
/-- rows of numbers that are drawn, or made: what a comprehension over range(r) gives -/
def RowI (st n c r : Nat) (h : MH) (i : Nat) (acc : List D) (h' : MH) : Prop := ∃ f : List Int, acc = f.map .int ∧ f.length = i ∧ (∀ x ∈ f, 0 ≤ x ∧ x < (r : Int)) ∧ Eqs [st] h h' ∧ StD h' st (n + c * i)
theorem RowI.start {st n c r : Nat} {h0 h : MH} (e : Eqs [st] h0 h) (s : StD h st n) : RowI st n c r h0 0 [] h := ⟨[], rfl, rfl, by simp, e, s⟩
theorem RowI.more {st n c r i : Nat} {h h1 h2 : MH} {acc : List D} {x : Int} (w : RowI st n c r h i acc h1) (h0 : 0 ≤ x) (hr : x < r) (e : Eqs [st] h1 h2) (s : StD h2 st (n + c * i + c)) : RowI st n c r h (i + 1) (acc ++ [.int x]) h2 := by
  obtain ⟨f, rfl, a, b, d, _⟩ := w
  refine ⟨f ++ [x], by rw [List.map_append]; rfl, by simp [a], fun y hy => ?_, d.trans e, by rw [Nat.mul_succ, ← Nat.add_assoc]; exact s⟩
  rcases List.mem_append.mp hy with hy | hy
  · exact b y hy
  · rw [List.mem_singleton.mp hy]; exact ⟨h0, hr⟩
theorem RowI.sz {st n c r i : Nat} {h h1 : MH} {acc : List D} (w : RowI st n c r h i acc h1) (hi : i < 1000) : acc.length < sizeLine := by
  obtain ⟨f, rfl, a, _⟩ := w
  exact szl (by rw [List.length_map]; omega)
theorem RowI.st {st n c r i : Nat} {h h1 : MH} {acc : List D} (w : RowI st n c r h i acc h1) : StD h1 st (n + c * i) := w.choose_spec.2.2.2.2
theorem RowI.eq {st n c r i : Nat} {h h1 : MH} {acc : List D} (w : RowI st n c r h i acc h1) : Eqs [st] h h1 := w.choose_spec.2.2.2.1
theorem map_ok {k st n r : Nat} {kind : Int} {h : MH} {X : DXc} {Q : DK} (s : StD h st n) (hb : n + 10 < bigN) (hr : 2 ≤ r) (hr4 : r ≤ 4) (q : ∀ f h', MapOk r f → Eqs [st] h h' → StD h' st (n + 10) → Q (.tup false (f.map .int)) h') : F (k + 2) i_law_map [.ref st, .int (r : Int), .int kind] h X Q := by
  have tn : ((r : Int) - 0).toNat = r ∧ (r : Int).toNat = r := ⟨by omega, by omega⟩
  refine ⟨rfl, ?_⟩
  walk_at "w"
  refine ⟨fun c => ?_, fun c => ?_⟩
  · walk_at "w"
    refine ⟨by omega, by omega, ?_⟩
    refine ⟨RowI st n 1 r h, .start (Eqs.refl _ _) s, fun i acc h1 x w hx => ⟨trivial, ?_⟩, fun acc h1 w => ⟨trivial, .inr ?_⟩⟩
    · obtain ⟨hi, rfl⟩ := rngD_get hx
      have := w.st
      walk_at "w"
      refine ⟨next_ok w.st (by omega) (by omega) fun x h2 x0 x1 e s2 => ⟨w.sz (by omega), w.more x0 x1 e s2⟩⟩
    · obtain ⟨f, rfl, a, b, e, s2⟩ := w
      rw [rngD_len] at a s2
      walk_at "w"
      exact .keep (q f h1 ⟨by omega, b⟩ e (s2.le (by omega)))
  · walk_at "w"
    refine ⟨fun c => ?_, fun c => ?_⟩
    · walk_at "w"
      refine ⟨by omega, by omega, ?_⟩
      refine ⟨RowI st n 1 r h, .start (Eqs.refl _ _) s, fun i acc h1 x w hx => ⟨trivial, ?_⟩, fun acc h1 w => ⟨trivial, .inr ?_⟩⟩
      · obtain ⟨hi, rfl⟩ := rngD_get hx
        walk_at "w"
        refine ⟨next_ok w.st (by omega) (by omega) fun x h2 x0 x1 e s2 => ⟨w.sz (by omega), w.more x0 x1 e s2⟩⟩
      · obtain ⟨f, rfl, a, b, e, s2⟩ := w
        rw [rngD_len] at a s2
        walk_at "w"
        refine ⟨f, rfl, fun ns p _ => .inr ?_⟩
        walk_at "w"
        exact .keep (q ns h1 ⟨by rw [p.length_eq]; omega, fun x hx => b x (p.mem_iff.mp hx)⟩ e (s2.le (by omega)))
    · walk_at "w"
      refine ⟨fun c => ?_, fun c => ?_⟩
      · walk_at "w"
        refine ⟨next_ok s (by omega) (by omega) fun t h1 t0 t1 e1 s1 => ?_⟩
        walk_at "w"
        refine ⟨by omega, by omega, ?_⟩
        refine ⟨RowI st (n + 1) 0 r h, .start e1 s1, fun i acc h1 x w hx => ⟨trivial, ?_⟩, fun acc h1 w => ⟨trivial, .inr ?_⟩⟩
        · obtain ⟨hi, rfl⟩ := rngD_get hx
          walk_at "w"
          walk_at "w"
          refine ⟨by omega, ?_⟩
          exact ⟨w.sz (by omega), w.more (Int.emod_nonneg _ (by omega)) (Int.emod_lt_of_pos _ (by omega)) (Eqs.refl _ _) w.st⟩
        · obtain ⟨f, rfl, a, b, e, s2⟩ := w
          rw [rngD_len] at a s2
          walk_at "w"
          exact .keep (q f h1 ⟨by omega, b⟩ e (s2.le (by omega)))
      · walk_at "w"
        refine ⟨fun c => ?_, fun c => ?_⟩
        · walk_at "w"
          refine ⟨next_ok s (by omega) (by omega) fun t h1 t0 t1 e1 s1 => ?_⟩
          walk_at "w"
          refine ⟨sz (by simp), ?_⟩
          walk_at "w"
          refine ⟨by simp, by omega, by omega, by simp, ?_⟩
          walk_at "w"
          have e : (List.replicate (r : Int).toNat [D.int t]).flatten = (List.replicate r t).map D.int := by
            rw [tn.2]
            simp [List.flatten_replicate_singleton]
          rw [e]
          exact .keep (q _ h1 ⟨by simp, fun x hx => by rw [(List.mem_replicate.mp hx).2]; exact ⟨t0, t1⟩⟩ e1 (s1.le (by omega)))
        · walk_at "w"
          refine ⟨fun c => ?_, fun c => ?_⟩
          · walk_at "w"
            refine ⟨by omega, by omega, ?_⟩
            refine ⟨RowI st n 1 r h, .start (Eqs.refl _ _) s, fun i acc h1 x w hx => ⟨trivial, ?_⟩, fun acc h1 w => ⟨trivial, .inr ?_⟩⟩
            · obtain ⟨hi, rfl⟩ := rngD_get hx
              walk_at "w"
              walk_at "w"
              refine ⟨next_ok w.st (by omega) (by omega) fun x h2 x0 x1 e s2 => ?_⟩
              walk_at "w"
              refine ⟨w.sz (by omega), w.more ?_ ?_ e s2⟩
              · split <;> omega
              · split <;> omega
            · obtain ⟨f, rfl, a, b, e, s2⟩ := w
              rw [rngD_len] at a s2
              walk_at "w"
              exact .keep (q f h1 ⟨by omega, b⟩ e (s2.le (by omega)))
          · walk_at "w"
            refine ⟨next_ok s (by omega) (by omega) fun t h1 t0 t1 e1 s1 => ?_⟩
            walk_at "w"
            refine ⟨next_ok s1 (by omega) (by omega) fun u h2 u0 u1 e2 s2 => ?_⟩
            walk_at "w"
            refine ⟨by omega, by omega, ?_⟩
            refine ⟨RowI st (n + 2) 0 r h, .start (e1.trans e2) s2, fun i acc h1 x w hx => ⟨trivial, ?_⟩, fun acc h1 w => ⟨trivial, .inr ?_⟩⟩
            · obtain ⟨hi, rfl⟩ := rngD_get hx
              walk_at "w"
              walk_at "w"
              refine ⟨sz (by simp), .inr ?_⟩
              walk_at "w"
              by_cases z : (0 : Int) + (i : Int) = t
              · rw [decide_eq_true z]
                refine ⟨_, atZ1, ?_⟩
                exact ⟨w.sz (by omega), w.more u0 (by omega) (Eqs.refl _ _) w.st⟩
              · rw [decide_eq_false z]
                refine ⟨_, atZ0, ?_⟩
                exact ⟨w.sz (by omega), w.more (by omega) (by omega) (Eqs.refl _ _) w.st⟩
            · obtain ⟨f, rfl, a, b, e, s2⟩ := w
              rw [rngD_len] at a s2
              walk_at "w"
              exact .keep (q f h1 ⟨by omega, b⟩ e (s2.le (by omega)))
abbrev rw_ (f : List Int) : D := .tup false (f.map .int)
theorem rw_dp {h : MH} (f : List Int) : DP h (rw_ f) (md f) := .tup (dps_i f)
theorem rws_dp {h : MH} (l : List (List Int)) : DPs h (l.map rw_) (l.map md) := dps_map fun f _ => rw_dp f
theorem rws_rf (l : List (List Int)) : bds 0 (l.map rw_) = true := bds_map fun f _ => rf_tup (bds_ints f)
structure FoD (h : MH) (ms fo : List (List Int)) (h' : MH) : Prop where
  at_ : h' = h ++ [.lst (fo.map rw_)]
  nd : fo.Nodup
  gen : ∀ x ∈ fo, GenM ms x
theorem FoD.get {h h' : MH} {ms fo : List (List Int)} (F : FoD h ms fo h') : h'[h.length]? = some (.lst (fo.map rw_)) := by rw [F.at_]; exact at_new
theorem FoD.put {h h' : MH} {ms fo : List (List Int)} {Φ : Nat → DSpec} {DD : DEnds} {δ : EnvD} {i : Nat} {x : List Int} (F : FoD h ms fo h') (hi : lk δ i = some (rw_ x)) (h2 : lk δ 2 = some (.ref h.length)) (gx : GenM ms x) (few : fo.length ≤ 1000)
    (q : ∀ fo2 h2, FoD h ms fo2 h2 → (∃ ext, fo2 = fo ++ ext) → x ∈ fo2 → DD.nx δ h2) : dIfS (dTest (dOp (oInD true) (dVar i) (dVar 2))) (dDrop (dM mAppend (dVar 2) (dCons (dVar i) dNil))) dNext DD δ h' := by
  have g := F.get
  simp only [dIfS, dTest, dOp, dVar, hi, h2]
  refine ⟨md x, fo.map md, rw_dp x, .ref g (rws_dp fo), shape_md x, shape_mds fo, ?_⟩
  rw [any_md, if_pos rfl]
  refine ⟨fun c => ?_, fun c => ?_⟩
  · simp only [Bool.not_eq_true', decide_eq_false_iff_not] at c
    simp only [dDrop, dM, dCons, dNil, dVar, hi, h2]
    refine ⟨⟨_, g⟩, _, g, szl (by rw [List.length_map]; omega), fun h3 e3 => q (fo ++ [x]) h3 ⟨?_, nodup_snoc F.nd c, fun y hy => ?_⟩ ⟨_, rfl⟩ (by simp)⟩
    · rw [e3, F.at_, set_new, List.map_append]; rfl
    · rcases List.mem_append.mp hy with hy | hy
      · exact F.gen y hy
      · rw [List.mem_singleton.mp hy]; exact gx
  · simp only [Bool.not_eq_false', decide_eq_true_eq] at c
    exact q fo h' F ⟨[], by simp⟩ c
theorem notin_run {h' : MH} {n : Nat} {fo : List (List Int)} {x : List Int} {K : DK} (g : h'[n]? = some (.lst (fo.map rw_))) (q : K (.bl (!decide (x ∈ fo))) h') : oInD true (rw_ x) (.ref n) h' K := by
  refine ⟨md x, fo.map md, rw_dp x, .ref g (rws_dp fo), shape_md x, shape_mds fo, ?_⟩
  rw [any_md, if_pos rfl]
  exact q
theorem FoD.more {h h' h3 : MH} {ms fo : List (List Int)} {x : List Int} (F : FoD h ms fo h') (gx : GenM ms x) (c : x ∉ fo) (e3 : h3 = h'.set h.length (.lst (fo.map rw_ ++ [rw_ x]))) : FoD h ms (fo ++ [x]) h3 := ⟨by
  rw [e3, F.at_, set_new, List.map_append]; rfl, nodup_snoc F.nd c, fun y hy => by
  rcases List.mem_append.mp hy with hy | hy
  · exact F.gen y hy
  · rw [List.mem_singleton.mp hy]; exact gx⟩
theorem FoD.few {h h' : MH} {ms fo : List (List Int)} {r : Nat} (F : FoD h ms fo h') (hm : ∀ f ∈ ms, MapOk r f) (hr : r ≤ 4) : fo.length ≤ 256 := few_maps hr F.nd fun f hf => gen_ok hm (F.gen f hf)
theorem comp_at {r : Nat} {f x : List Int} (hf : MapOk r f) (hx : MapOk r x) {k : Int} (hk : k ∈ x) : 0 ≤ k ∧ f[k.toNat]? = some (f.getD k.toNat 0) := by
  have := hx.2 k hk
  have hl : k.toNat < f.length := by rw [hf.1]; omega
  refine ⟨this.1, ?_⟩
  rw [List.getD_eq_getElem?_getD, List.getElem?_eq_getElem hl]; rfl
theorem row_get {l : List (List Int)} {i : Nat} {x : D} (h : (l.map rw_)[i]? = some x) : ∃ f, l[i]? = some f ∧ x = rw_ f := by
  rw [List.getElem?_map] at h
  cases e : l[i]? with
  | none => rw [e] at h; cases h
  | some f => rw [e] at h; exact ⟨f, rfl, (Option.some.inj h).symm⟩
theorem idx_at {fo : List (List Int)} {f : List Int} (m : f ∈ fo) : ∃ z, (fo.map md)[fo.idxOf f]? = some z ∧ PyData.eqv z (md f) = true ∧ ∀ (j : Nat) (z' : PyData), j < fo.idxOf f → (fo.map md)[j]? = some z' → PyData.eqv z' (md f) = false := by
  have hl : fo.idxOf f < fo.length := List.idxOf_lt_length_iff.mpr m
  refine ⟨md f, ?_, ?_, fun j z' hj hz => ?_⟩
  · rw [List.getElem?_map, List.getElem?_eq_getElem hl, List.getElem_idxOf]; rfl
  · rw [eqv_md]; simp
  · have hj2 : j < fo.length := by omega
    rw [List.getElem?_map, List.getElem?_eq_getElem hj2] at hz
    obtain rfl := Option.some.inj hz
    rw [eqv_md, decide_eq_false_iff_not]
    intro e
    have h1 : (fo[j] == f) = false := List.not_of_lt_findIdx (p := (· == f)) hj
    rw [e] at h1
    simp at h1
theorem built_ok {k r : Nat} {ws : List Str} {ms : List (List Int)} {h : MH} {X : DXc} {Q : DK} (hwm : ws.length = ms.length) (hne : ms ≠ []) (hm4 : ms.length ≤ 4) (hr4 : r ≤ 4) (okm : ∀ f ∈ ms, MapOk r f) (wd : ∀ x ∈ ws, LetOk x)
    (q : ∀ t : Tb, t.Good → Q t.d h) : F (k + 1) i_law_built [.tup true (ws.map .str), .lst (ms.map rw_)] h X Q := by
  refine ⟨rfl, ?_⟩
  walk_at "w"
  refine ⟨sz (by simp), .inl ?_⟩
  walk_at "w"
  -- the maps themselves
  refine ⟨fun i δ h' => ∃ one fd, δ = [some (.tup true (ws.map .str)), some (.lst (ms.map rw_)), some (.ref h.length), one, none, none, none, none, none] ∧ FoD h ms fd h' ∧ ∀ f ∈ ms.take i, f ∈ fd, ⟨none, [], rfl, ⟨rfl, List.nodup_nil, by simp⟩, by simp⟩, ?_, ?_⟩
  · rintro i δ h' x ⟨one, fd, rfl, F, hin⟩ hx
    obtain ⟨f, hf, rfl⟩ := row_get hx
    refine ⟨trivial, F.put (i := 3) (x := f) (Φ := fun _ _ _ _ _ => True) rfl rfl (.base (List.mem_of_getElem? hf)) (by have := F.few okm hr4; omega) fun fd2 h2 F2 ⟨ext, ex⟩ hx => ⟨_, fd2, rfl, F2, fun g hg => ?_⟩⟩
    rw [take_more hf] at hg
    rcases List.mem_append.mp hg with hg | hg
    · rw [ex]; exact List.mem_append_left _ (hin g hg)
    · rw [List.mem_singleton.mp hg]; exact hx
  rintro δ h1 ⟨one, fd, rfl, F, hin⟩
  rw [List.length_map, List.take_of_length_le (Nat.le_refl _)] at hin
  refine ⟨trivial, ?_⟩
  walk_at "w"
  refine ⟨by decide, by decide, ?_⟩
  -- what comes of them
  refine ⟨fun m δ h' => ∃ one at_ lo fd, δ = [some (.tup true (ws.map .str)), some (.lst (ms.map rw_)), some (.ref h.length), one, at_, none, lo, none, none] ∧ FoD h ms fd h' ∧ (∀ f ∈ ms, f ∈ fd) ∧ ∀ k x, k < m → fd[k]? = some x → ∀ f ∈ ms, comp f x ∈ fd, ⟨_, _, _, fd, rfl, F, hin, fun k x hk => absurd hk (by omega)⟩, ?_, ?_⟩
  · rintro m δ h' x ⟨one, at_, lo, fd, rfl, F, hin, hc⟩ hx
    obtain ⟨hm, rfl⟩ := rngD_get hx
    have few := F.few okm hr4
    have g := F.get
    refine ⟨trivial, ?_⟩
    walk_at "s"
    rw [List.length_map]
    refine ⟨fun c => ?_, fun c => ?_⟩
    · have hml : m < fd.length := by simpa using c
      walk_at "w"
      refine ⟨fun i δ h' => ∃ one lo ext, δ = [some (.tup true (ws.map .str)), some (.lst (ms.map rw_)), some (.ref h.length), one, some (.int (0 + (m : Int))), none, lo, none, none] ∧ FoD h ms (fd ++ ext) h' ∧ ∀ f ∈ ms.take i, comp f fd[m] ∈ fd ++ ext, ⟨_, _, [], rfl, by rw [List.append_nil]; exact F, by simp⟩, ?_, ?_⟩
      · rintro i δ h2 x ⟨one, lo, ext, rfl, F2, hc2⟩ hx
        obtain ⟨f, hf, rfl⟩ := row_get hx
        have g2 := F2.get
        have gx : (fd ++ ext)[m]? = some fd[m] := by rw [List.getElem?_append_left hml]; exact List.getElem?_eq_getElem hml
        have okx : MapOk r fd[m] := gen_ok okm (F.gen _ (List.getElem_mem hml))
        have okf := okm f (List.mem_of_getElem? hf)
        refine ⟨trivial, ?_⟩
        walk_at "w"
        refine ⟨_, g2, _, atI_map (by omega) (by simpa using gx), ?_⟩
        walk_at "w"
        refine lc_map (f := fun k => .int (f.getD k.toNat 0)) (by rw [okx.1]; omega) trivial (fun a ha K z => ?_) (.inr ?_)
        · obtain ⟨a0, a1⟩ := comp_at okf okx ha
          walk_at "w"
          exact ⟨_, atI_map a0 a1, z⟩
        · walk_at "w"
          have ec : (fd[m].map fun k => D.int (f.getD k.toNat 0)) = (comp f fd[m]).map D.int := by unfold comp; rw [List.map_map]; rfl
          rw [ec]
          have fin : ∀ fd2 h3, FoD h ms fd2 h3 → (∃ ext2, fd2 = fd ++ ext ++ ext2) → comp f fd[m] ∈ fd2 → ∃ ext', FoD h ms (fd ++ ext') h3 ∧ ∀ y ∈ ms.take (i + 1), comp y fd[m] ∈ fd ++ ext' := fun fd2 h3 F3 ⟨ext2, ex⟩ hx => ⟨ext ++ ext2, by rw [← List.append_assoc, ← ex]; exact F3, fun y hy => by
            rw [← List.append_assoc, ← ex]
            rw [take_more hf] at hy
            rcases List.mem_append.mp hy with hy | hy
            · rw [ex]; exact List.mem_append_left _ (hc2 y hy)
            · rw [List.mem_singleton.mp hy]; exact hx⟩
          refine notin_run g2 ?_
          walk_at "w"
          refine ⟨fun c => ?_, fun c => ?_⟩
          · simp only [Bool.not_eq_true', decide_eq_false_iff_not] at c
            walk_at "w"
            refine ⟨⟨_, g2⟩, ?_⟩
            walk_at "w"
            refine ⟨_, g2, szl (by rw [List.length_map]; have := F2.few okm hr4; omega), fun h3 e3 => ?_⟩
            obtain ⟨ext', a, b⟩ := fin _ h3 (F2.more (.step (List.mem_of_getElem? hf) (F.gen _ (List.getElem_mem hml))) c e3) ⟨_, rfl⟩ (by simp)
            exact ⟨_, _, ext', rfl, a, b⟩
          · simp only [Bool.not_eq_false', decide_eq_true_eq] at c
            obtain ⟨ext', a, b⟩ := fin _ h2 F2 ⟨[], by simp⟩ c
            walk_at "w"
            exact ⟨_, _, ext', rfl, a, b⟩
      · rintro δ h2 ⟨one, lo, ext, rfl, F2, hc2⟩
        rw [List.length_map, List.take_of_length_le (Nat.le_refl _)] at hc2
        refine ⟨trivial, _, _, _, fd ++ ext, rfl, F2, fun f hf => List.mem_append_left _ (hin f hf), fun k x hk hxx f hf => ?_⟩
        by_cases e : k = m
        · subst e
          rw [List.getElem?_append_left hml, List.getElem?_eq_getElem hml] at hxx
          obtain rfl := Option.some.inj hxx
          exact hc2 f hf
        · rw [List.getElem?_append_left (by omega)] at hxx
          exact List.mem_append_left _ (hc k x (by omega) hxx f hf)
    · have hml : ¬ m < fd.length := by simpa using c
      walk_at "w"
      refine ⟨_, _, _, fd, rfl, F, hin, fun k x hk hx f hf => ?_⟩
      have := (List.getElem?_eq_some_iff.mp hx).1
      exact hc k x (by omega) hx f hf
  rintro δ h2 ⟨one, at_, lo, fd, rfl, F, hin, hc⟩
  rw [rngD_len] at hc
  have few := F.few okm hr4
  have g := F.get
  have cl : ∀ x ∈ fd, ∀ f ∈ ms, comp f x ∈ fd := fun x hx f hf => by
    obtain ⟨k, hk⟩ := List.mem_iff_getElem?.mp hx
    have := (List.getElem?_eq_some_iff.mp hk).1
    exact hc k x (by show k < 400; omega) hk f hf
  have cl2 : ∀ y ∈ fd, ∀ x ∈ fd, comp y x ∈ fd := fun y hy x hx => gen_closed okm F.gen cl (F.gen y hy) x hx
  have okd : ∀ f ∈ fd, MapOk r f := fun f hf => gen_ok okm (F.gen f hf)
  refine ⟨trivial, ?_⟩
  walk_at "w"
  refine ⟨sz (by simp), .inl ?_⟩
  have gn : ∀ ys : List (List Int), (h2 ++ [D.lst (ys.map rw_)])[h.length]? = some (.lst (fd.map rw_)) := fun ys => at_app g
  walk_at "w"
  refine ⟨_, gn [], ?_⟩
  refine ⟨fun i δ h' => ∃ one lo oth ro, δ = [some (.tup true (ws.map .str)), some (.lst (ms.map rw_)), some (.ref h.length), one, at_, some (.ref h2.length), lo, oth, ro] ∧ h' = h2 ++ [.lst (((prods fd).take i).map rw_)], ⟨_, _, _, _, rfl, rfl⟩, ?_, ?_⟩
  · rintro i δ h' x ⟨one, lo, oth, ro, rfl, rfl⟩ hx
    obtain ⟨f, hf, rfl⟩ := row_get hx
    have mf := List.mem_of_getElem? hf
    refine ⟨gn _, ?_⟩
    walk_at "w"
    refine ⟨⟨_, at_new⟩, ?_⟩
    walk_at "w"
    refine ⟨_, gn _, ?_⟩
    refine lc_map (f := fun y => .int ((fd.idxOf (comp y f) : Nat) : Int)) (by omega) (gn _) (fun y hy K z => ?_) (.inr ?_)
    · walk_at "w"
      refine ⟨⟨_, gn _⟩, ?_⟩
      walk_at "w"
      refine lc_map (f := fun k => .int (y.getD k.toNat 0)) (by rw [(okd f mf).1]; omega) trivial (fun a ha K z => ?_) (.inr ?_)
      · obtain ⟨a0, a1⟩ := comp_at (okd y hy) (okd f mf) ha
        walk_at "w"
        exact ⟨_, atI_map a0 a1, z⟩
      · walk_at "w"
        have ec : (f.map fun k => D.int (y.getD k.toNat 0)) = (comp y f).map D.int := by unfold comp; rw [List.map_map]; rfl
        rw [ec]
        obtain ⟨zz, i1, i2, i3⟩ := idx_at (cl2 y hy f mf)
        exact ⟨md (comp y f), fd.map md, fd.idxOf (comp y f), zz, .ref (gn _) (rws_dp fd), rw_dp _, shape_mds fd, shape_md _, i1, i2, i3, z⟩
    · walk_at "w"
      have hl : ((prods fd).take i).length ≤ 256 := by rw [List.length_take]; unfold prods; rw [List.length_map]; omega
      refine ⟨_, at_new, szl (by rw [List.length_map]; omega), fun h3 e3 => ?_⟩
      rw [set_new] at e3
      refine ⟨_, _, _, _, rfl, ?_⟩
      have hp : (prods fd)[i]? = some (fd.map fun y => ((fd.idxOf (comp y f) : Nat) : Int)) := by unfold prods; rw [List.getElem?_map, hf]; rfl
      rw [e3, take_more hp, List.map_append]
      simp only [List.map_cons, List.map_nil, rw_, List.map_map]
      rfl
  · rintro δ h' ⟨one, lo, oth, ro, rfl, rfl⟩
    rw [List.length_map, List.take_of_length_le (by unfold prods; simp)]
    refine ⟨gn _, ?_⟩
    walk_at "w"
    refine lc_map (f := fun f => .int ((fd.idxOf f : Nat) : Int)) (by omega) trivial (fun f hf K z => ?_) (.inr ?_)
    · walk_at "w"
      refine ⟨⟨_, gn _⟩, ?_⟩
      walk_at "w"
      obtain ⟨zz, i1, i2, i3⟩ := idx_at (hin f hf)
      exact ⟨md f, fd.map md, fd.idxOf f, zz, .ref (gn _) (rws_dp fd), rw_dp _, shape_mds fd, shape_md _, i1, i2, i3, z⟩
    · walk_at "s"
      refine ⟨_, at_new, ?_⟩
      walk_at "w"
      refine ⟨sz (by simp), ?_⟩
      have td := q (Tb.mk ws (ms.map fun f => ((fd.idxOf f : Nat) : Int)) (prods fd)) (tab_good hr4 hwm hne hm4 okm hin F.nd F.gen cl wd)
      have et : D.tup false [D.tup true (ws.map D.str), D.tup false (ms.map fun f => D.int ((fd.idxOf f : Nat) : Int)), D.tup false ((prods fd).map rw_)] = (Tb.mk ws (ms.map fun f => ((fd.idxOf f : Nat) : Int)) (prods fd)).d := by
        simp only [Tb.d, List.map_map]
        rfl
      rw [F.at_, List.append_assoc, et]
      exact out_pure (Tb.rf _) td
theorem built_ref {k r p : Nat} {ws : List Str} {ms : List (List Int)} {h : MH} {X : DXc} {Q : DK} (hp : h[p]? = some (.lst (ms.map rw_))) (hwm : ws.length = ms.length) (hne : ms ≠ []) (hm4 : ms.length ≤ 4) (hr4 : r ≤ 4) (okm : ∀ f ∈ ms, MapOk r f) (wd : ∀ x ∈ ws, LetOk x)
    (q : ∀ t : Tb, t.Good → Q t.d h) : F (k + 1) i_law_built [.tup true (ws.map .str), .ref p] h X Q := by
  refine ⟨rfl, ?_⟩
  walk_at "w"
  refine ⟨sz (by simp), .inl ?_⟩
  have hF : ∀ fo h', FoD h ms fo h' → h'[p]? = some (.lst (ms.map rw_)) := fun fo h' F => by rw [F.at_]; exact at_app hp
  walk_at "w"
  refine ⟨_, at_app hp, ?_⟩
  -- the maps themselves
  refine ⟨fun i δ h' => ∃ one fd, δ = [some (.tup true (ws.map .str)), some (.ref p), some (.ref h.length), one, none, none, none, none, none] ∧ FoD h ms fd h' ∧ ∀ f ∈ ms.take i, f ∈ fd, ⟨none, [], rfl, ⟨rfl, List.nodup_nil, by simp⟩, by simp⟩, ?_, ?_⟩
  · rintro i δ h' x ⟨one, fd, rfl, F, hin⟩ hx
    obtain ⟨f, hf, rfl⟩ := row_get hx
    refine ⟨hF _ _ F, F.put (i := 3) (x := f) (Φ := fun _ _ _ _ _ => True) rfl rfl (.base (List.mem_of_getElem? hf)) (by have := F.few okm hr4; omega) fun fd2 h2 F2 ⟨ext, ex⟩ hx => ⟨_, fd2, rfl, F2, fun g hg => ?_⟩⟩
    rw [take_more hf] at hg
    rcases List.mem_append.mp hg with hg | hg
    · rw [ex]; exact List.mem_append_left _ (hin g hg)
    · rw [List.mem_singleton.mp hg]; exact hx
  rintro δ h1 ⟨one, fd, rfl, F, hin⟩
  rw [List.length_map, List.take_of_length_le (Nat.le_refl _)] at hin
  refine ⟨hF _ _ F, ?_⟩
  walk_at "w"
  refine ⟨by decide, by decide, ?_⟩
  -- what comes of them
  refine ⟨fun m δ h' => ∃ one at_ lo fd, δ = [some (.tup true (ws.map .str)), some (.ref p), some (.ref h.length), one, at_, none, lo, none, none] ∧ FoD h ms fd h' ∧ (∀ f ∈ ms, f ∈ fd) ∧ ∀ k x, k < m → fd[k]? = some x → ∀ f ∈ ms, comp f x ∈ fd, ⟨_, _, _, fd, rfl, F, hin, fun k x hk => absurd hk (by omega)⟩, ?_, ?_⟩
  · rintro m δ h' x ⟨one, at_, lo, fd, rfl, F, hin, hc⟩ hx
    obtain ⟨hm, rfl⟩ := rngD_get hx
    have few := F.few okm hr4
    have g := F.get
    refine ⟨trivial, ?_⟩
    walk_at "s"
    rw [List.length_map]
    refine ⟨fun c => ?_, fun c => ?_⟩
    · have hml : m < fd.length := by simpa using c
      walk_at "w"
      refine ⟨_, hF _ _ F, ?_⟩
      refine ⟨fun i δ h' => ∃ one lo ext, δ = [some (.tup true (ws.map .str)), some (.ref p), some (.ref h.length), one, some (.int (0 + (m : Int))), none, lo, none, none] ∧ FoD h ms (fd ++ ext) h' ∧ ∀ f ∈ ms.take i, comp f fd[m] ∈ fd ++ ext, ⟨_, _, [], rfl, by rw [List.append_nil]; exact F, by simp⟩, ?_, ?_⟩
      · rintro i δ h2 x ⟨one, lo, ext, rfl, F2, hc2⟩ hx
        obtain ⟨f, hf, rfl⟩ := row_get hx
        have g2 := F2.get
        have gx : (fd ++ ext)[m]? = some fd[m] := by rw [List.getElem?_append_left hml]; exact List.getElem?_eq_getElem hml
        have okx : MapOk r fd[m] := gen_ok okm (F.gen _ (List.getElem_mem hml))
        have okf := okm f (List.mem_of_getElem? hf)
        refine ⟨hF _ _ F2, ?_⟩
        walk_at "w"
        refine ⟨_, g2, _, atI_map (by omega) (by simpa using gx), ?_⟩
        walk_at "w"
        refine lc_map (f := fun k => .int (f.getD k.toNat 0)) (by rw [okx.1]; omega) trivial (fun a ha K z => ?_) (.inr ?_)
        · obtain ⟨a0, a1⟩ := comp_at okf okx ha
          walk_at "w"
          exact ⟨_, atI_map a0 a1, z⟩
        · walk_at "w"
          have ec : (fd[m].map fun k => D.int (f.getD k.toNat 0)) = (comp f fd[m]).map D.int := by unfold comp; rw [List.map_map]; rfl
          rw [ec]
          have fin : ∀ fd2 h3, FoD h ms fd2 h3 → (∃ ext2, fd2 = fd ++ ext ++ ext2) → comp f fd[m] ∈ fd2 → ∃ ext', FoD h ms (fd ++ ext') h3 ∧ ∀ y ∈ ms.take (i + 1), comp y fd[m] ∈ fd ++ ext' := fun fd2 h3 F3 ⟨ext2, ex⟩ hx => ⟨ext ++ ext2, by rw [← List.append_assoc, ← ex]; exact F3, fun y hy => by
            rw [← List.append_assoc, ← ex]
            rw [take_more hf] at hy
            rcases List.mem_append.mp hy with hy | hy
            · rw [ex]; exact List.mem_append_left _ (hc2 y hy)
            · rw [List.mem_singleton.mp hy]; exact hx⟩
          refine notin_run g2 ?_
          walk_at "w"
          refine ⟨fun c => ?_, fun c => ?_⟩
          · simp only [Bool.not_eq_true', decide_eq_false_iff_not] at c
            walk_at "w"
            refine ⟨⟨_, g2⟩, ?_⟩
            walk_at "w"
            refine ⟨_, g2, szl (by rw [List.length_map]; have := F2.few okm hr4; omega), fun h3 e3 => ?_⟩
            obtain ⟨ext', a, b⟩ := fin _ h3 (F2.more (.step (List.mem_of_getElem? hf) (F.gen _ (List.getElem_mem hml))) c e3) ⟨_, rfl⟩ (by simp)
            exact ⟨_, _, ext', rfl, a, b⟩
          · simp only [Bool.not_eq_false', decide_eq_true_eq] at c
            obtain ⟨ext', a, b⟩ := fin _ h2 F2 ⟨[], by simp⟩ c
            walk_at "w"
            exact ⟨_, _, ext', rfl, a, b⟩
      · rintro δ h2 ⟨one, lo, ext, rfl, F2, hc2⟩
        rw [List.length_map, List.take_of_length_le (Nat.le_refl _)] at hc2
        refine ⟨hF _ _ F2, _, _, _, fd ++ ext, rfl, F2, fun f hf => List.mem_append_left _ (hin f hf), fun k x hk hxx f hf => ?_⟩
        by_cases e : k = m
        · subst e
          rw [List.getElem?_append_left hml, List.getElem?_eq_getElem hml] at hxx
          obtain rfl := Option.some.inj hxx
          exact hc2 f hf
        · rw [List.getElem?_append_left (by omega)] at hxx
          exact List.mem_append_left _ (hc k x (by omega) hxx f hf)
    · have hml : ¬ m < fd.length := by simpa using c
      walk_at "w"
      refine ⟨_, _, _, fd, rfl, F, hin, fun k x hk hx f hf => ?_⟩
      have := (List.getElem?_eq_some_iff.mp hx).1
      exact hc k x (by omega) hx f hf
  rintro δ h2 ⟨one, at_, lo, fd, rfl, F, hin, hc⟩
  rw [rngD_len] at hc
  have few := F.few okm hr4
  have g := F.get
  have cl : ∀ x ∈ fd, ∀ f ∈ ms, comp f x ∈ fd := fun x hx f hf => by
    obtain ⟨k, hk⟩ := List.mem_iff_getElem?.mp hx
    have := (List.getElem?_eq_some_iff.mp hk).1
    exact hc k x (by show k < 400; omega) hk f hf
  have cl2 : ∀ y ∈ fd, ∀ x ∈ fd, comp y x ∈ fd := fun y hy x hx => gen_closed okm F.gen cl (F.gen y hy) x hx
  have okd : ∀ f ∈ fd, MapOk r f := fun f hf => gen_ok okm (F.gen f hf)
  refine ⟨trivial, ?_⟩
  walk_at "w"
  refine ⟨sz (by simp), .inl ?_⟩
  have gn : ∀ ys : List (List Int), (h2 ++ [D.lst (ys.map rw_)])[h.length]? = some (.lst (fd.map rw_)) := fun ys => at_app g
  walk_at "w"
  refine ⟨_, gn [], ?_⟩
  refine ⟨fun i δ h' => ∃ one lo oth ro, δ = [some (.tup true (ws.map .str)), some (.ref p), some (.ref h.length), one, at_, some (.ref h2.length), lo, oth, ro] ∧ h' = h2 ++ [.lst (((prods fd).take i).map rw_)], ⟨_, _, _, _, rfl, rfl⟩, ?_, ?_⟩
  · rintro i δ h' x ⟨one, lo, oth, ro, rfl, rfl⟩ hx
    obtain ⟨f, hf, rfl⟩ := row_get hx
    have mf := List.mem_of_getElem? hf
    refine ⟨gn _, ?_⟩
    walk_at "w"
    refine ⟨⟨_, at_new⟩, ?_⟩
    walk_at "w"
    refine ⟨_, gn _, ?_⟩
    refine lc_map (f := fun y => .int ((fd.idxOf (comp y f) : Nat) : Int)) (by omega) (gn _) (fun y hy K z => ?_) (.inr ?_)
    · walk_at "w"
      refine ⟨⟨_, gn _⟩, ?_⟩
      walk_at "w"
      refine lc_map (f := fun k => .int (y.getD k.toNat 0)) (by rw [(okd f mf).1]; omega) trivial (fun a ha K z => ?_) (.inr ?_)
      · obtain ⟨a0, a1⟩ := comp_at (okd y hy) (okd f mf) ha
        walk_at "w"
        exact ⟨_, atI_map a0 a1, z⟩
      · walk_at "w"
        have ec : (f.map fun k => D.int (y.getD k.toNat 0)) = (comp y f).map D.int := by unfold comp; rw [List.map_map]; rfl
        rw [ec]
        obtain ⟨zz, i1, i2, i3⟩ := idx_at (cl2 y hy f mf)
        exact ⟨md (comp y f), fd.map md, fd.idxOf (comp y f), zz, .ref (gn _) (rws_dp fd), rw_dp _, shape_mds fd, shape_md _, i1, i2, i3, z⟩
    · walk_at "w"
      have hl : ((prods fd).take i).length ≤ 256 := by rw [List.length_take]; unfold prods; rw [List.length_map]; omega
      refine ⟨_, at_new, szl (by rw [List.length_map]; omega), fun h3 e3 => ?_⟩
      rw [set_new] at e3
      refine ⟨_, _, _, _, rfl, ?_⟩
      have hp : (prods fd)[i]? = some (fd.map fun y => ((fd.idxOf (comp y f) : Nat) : Int)) := by unfold prods; rw [List.getElem?_map, hf]; rfl
      rw [e3, take_more hp, List.map_append]
      simp only [List.map_cons, List.map_nil, rw_, List.map_map]
      rfl
  · rintro δ h' ⟨one, lo, oth, ro, rfl, rfl⟩
    rw [List.length_map, List.take_of_length_le (by unfold prods; simp)]
    refine ⟨gn _, ?_⟩
    walk_at "w"
    refine ⟨_, at_app (hF _ _ F), ?_⟩
    refine lc_map (f := fun f => .int ((fd.idxOf f : Nat) : Int)) (by omega) (at_app (hF _ _ F)) (fun f hf K z => ?_) (.inr ?_)
    · walk_at "w"
      refine ⟨⟨_, gn _⟩, ?_⟩
      walk_at "w"
      obtain ⟨zz, i1, i2, i3⟩ := idx_at (hin f hf)
      exact ⟨md f, fd.map md, fd.idxOf f, zz, .ref (gn _) (rws_dp fd), rw_dp _, shape_mds fd, shape_md _, i1, i2, i3, z⟩
    · walk_at "s"
      refine ⟨_, at_new, ?_⟩
      walk_at "w"
      refine ⟨sz (by simp), ?_⟩
      have td := q (Tb.mk ws (ms.map fun f => ((fd.idxOf f : Nat) : Int)) (prods fd)) (tab_good hr4 hwm hne hm4 okm hin F.nd F.gen cl wd)
      have et : D.tup false [D.tup true (ws.map D.str), D.tup false (ms.map fun f => D.int ((fd.idxOf f : Nat) : Int)), D.tup false ((prods fd).map rw_)] = (Tb.mk ws (ms.map fun f => ((fd.idxOf f : Nat) : Int)) (prods fd)).d := by
        simp only [Tb.d, List.map_map]
        rfl
      rw [F.at_, List.append_assoc, et]
      exact out_pure (Tb.rf _) td
theorem kinds_at {r : Int} (h0 : 0 ≤ r) (h1 : r < 8) : ∃ ks : List Int, atI [D.lst [D.int 0], D.lst [D.int 0, D.int 1], D.lst [D.int 1, D.int 3], D.lst [D.int 0, D.int 2], D.lst [D.int 2, D.int 3], D.lst [D.int 1, D.int 4], D.lst [D.int 5], D.lst [D.int 5, D.int 3]] r = some (.lst (ks.map .int)) ∧ ks ≠ [] ∧ ks.length ≤ 2 := by
  have : r = 0 ∨ r = 1 ∨ r = 2 ∨ r = 3 ∨ r = 4 ∨ r = 5 ∨ r = 6 ∨ r = 7 := by omega
  rcases this with rfl | rfl | rfl | rfl | rfl | rfl | rfl | rfl
  · exact ⟨[0], rfl, by simp, by simp⟩
  · exact ⟨[0, 1], rfl, by simp, by simp⟩
  · exact ⟨[1, 3], rfl, by simp, by simp⟩
  · exact ⟨[0, 2], rfl, by simp, by simp⟩
  · exact ⟨[2, 3], rfl, by simp, by simp⟩
  · exact ⟨[1, 4], rfl, by simp, by simp⟩
  · exact ⟨[5], rfl, by simp, by simp⟩
  · exact ⟨[5, 3], rfl, by simp, by simp⟩
theorem four_at {a b c d : Int} {r : Int} (h0 : 0 ≤ r) (h1 : r < 4) : ∃ z, atI [D.int a, .int b, .int c, .int d] r = some (.int z) ∧ (z = a ∨ z = b ∨ z = c ∨ z = d) := by
  have : r = 0 ∨ r = 1 ∨ r = 2 ∨ r = 3 := by omega
  rcases this with rfl | rfl | rfl | rfl
  · exact ⟨a, atZ0, .inl rfl⟩
  · exact ⟨b, atZ1, .inr (.inl rfl)⟩
  · exact ⟨c, atZ2, .inr (.inr (.inl rfl))⟩
  · exact ⟨d, atZ3, .inr (.inr (.inr rfl))⟩
theorem table_ok {k st n : Nat} {h : MH} {X : DXc} {Q : DK} (s : StD h st n) (hb : n + 200 < bigN) (q : ∀ (t : Tb) h', t.Good → Eqs [st] h h' → StD h' st (n + 200) → Q t.d h') : F (k + 4) i_law_table [.ref st] h X Q := by
  refine ⟨rfl, ?_⟩
  walk_at "w"
  refine ⟨next_ok s (by omega) (by decide) fun r h1 r0 r1 e1 s1 => ?_⟩
  walk_at "w"
  refine ⟨fun c => ?_, fun c => ?_⟩
  · walk_at "w"
    refine ⟨letters_ok (m := 4) s1 (by omega) (by decide) fun ws h2 hl hw e2 s2 => ?_⟩
    walk_at "w"
    refine ⟨by decide, by decide, ?_⟩
    refine ⟨fun i acc h' => ∃ ms : List (List Int), acc = ms.map rw_ ∧ ms.length = i ∧ (∀ f ∈ ms, MapOk 2 f) ∧ Eqs [st] h h' ∧ StD h' st (n + 51 + 10 * i), ⟨[], rfl, rfl, by simp, e1.trans e2, s2.le (by omega)⟩, ?_, ?_⟩
    · rintro i acc h' x ⟨ms, rfl, lm, om, e3, s3⟩ hx
      obtain ⟨hi, rfl⟩ := rngD_get hx
      have hi : i < 4 := hi
      refine ⟨trivial, ?_⟩
      walk_at "w"
      refine ⟨map_ok (r := 2) s3 (by omega) (by decide) (by decide) fun f h4 of e4 s4 => ⟨szl (by rw [List.length_map]; omega), ms ++ [f], by rw [List.map_append]; rfl, by simp [lm], fun y hy => ?_, e3.trans e4, s4.le (by omega)⟩⟩
      rcases List.mem_append.mp hy with hy | hy
      · exact om y hy
      · rw [List.mem_singleton.mp hy]; exact of
    · rintro acc h' ⟨ms, rfl, lm, om, e3, s3⟩
      have lm : ms.length = 4 := lm
      refine ⟨trivial, .inr ?_⟩
      walk_at "w"
      exact ⟨built_ok (by omega) (fun e => by subst e; simp at lm) (by omega) (by decide) om hw fun t g => .keep (q t h' g e3 (s3.le (by simp [rngD_len])))⟩
  · walk_at "w"
    refine ⟨sz (by simp), .inr ?_⟩
    walk_at "w"
    refine ⟨next_ok s1 (by omega) (by decide) fun r2 h2 r20 r21 e2 s2 => ?_⟩
    obtain ⟨rooms, hro, hrr⟩ := four_at (a := 3) (b := 3) (c := 2) (d := 4) r20 r21
    walk_at "w"
    refine ⟨_, hro, ?_⟩
    walk_at "w"
    iterate 9
      refine ⟨sz (by simp), .inr ?_⟩
      walk_at "w"
    refine ⟨next_ok s2 (by omega) (by decide) fun r3 h3 r30 r31 e3 s3 => ?_⟩
    obtain ⟨ks, hks, kn, kl⟩ := kinds_at r30 r31
    walk_at "w"
    refine ⟨_, hks, ?_⟩
    walk_at "w"
    refine ⟨sz (by simp), .inl ?_⟩
    walk_at "w"
    refine ⟨sz (by simp), .inr ?_⟩
    walk_at "w"
    refine ⟨next_app s3 (by omega) (by decide) fun r4 h4 r40 r41 e4 s4 => ?_⟩
    obtain ⟨many, hma, hmm⟩ := four_at (a := 2) (b := 3) (c := 2) (d := 1) r40 r41
    walk_at "w"
    refine ⟨_, hma, ?_⟩
    walk_at "w"
    refine ⟨by omega, by omega, ?_⟩
    obtain ⟨ro, rfl, ro2, ro4⟩ : ∃ r : Nat, rooms = (r : Int) ∧ 2 ≤ r ∧ r ≤ 4 := ⟨rooms.toNat, by omega, by omega, by omega⟩
    have l34 := e4.1
    have e04 := ((e1.trans e2).trans e3).trans e4
    refine ⟨fun i δ h' => ∃ (ms : List (List Int)) (c4 c5 : Option D) (h5 : MH), δ = [some (.ref st), some (.int ro), some (.lst (ks.map .int)), some (.ref h3.length), c4, c5] ∧ h' = h5 ++ [.lst (ms.map rw_)] ∧ ms.length = i ∧ (∀ f ∈ ms, MapOk ro f) ∧ Eqs [st] h h5 ∧ StD h5 st (n + 10 + 20 * i), ⟨[], _, _, h4, rfl, rfl, rfl, by simp, e04, s4.le (by omega)⟩, ?_, ?_⟩
    · rintro i δ h' x ⟨ms, c4, c5, h5, rfl, rfl, lm, om, e5, s5⟩ hx
      obtain ⟨hi, rfl⟩ := rngD_get hx
      have hi3 : i < 3 := by omega
      have l5 : h5.length = h3.length := by rw [e5.1, ((e1.trans e2).trans e3).1]
      have kp := len_pos kn
      refine ⟨trivial, ?_⟩
      walk_at "w"
      rw [List.length_map]
      refine ⟨next_app s5 (by omega) (by omega) fun r6 h6 r60 r61 e6 s6 => ?_⟩
      have hlt : r6.toNat < ks.length := by omega
      walk_at "w"
      refine ⟨_, atI_map r60 (List.getElem?_eq_getElem hlt), ?_⟩
      generalize ks[r6.toNat] = kd
      have l6 := e6.1
      have an6 : ∀ y : D, (h6 ++ [y])[h3.length]? = some y := fun y => by rw [← l5, ← l6]; exact at_new
      walk_at "w"
      refine ⟨⟨_, an6 _⟩, ?_⟩
      walk_at "w"
      refine ⟨sz (by simp), .inr ?_⟩
      have go : ∀ c : Int, Cl (F (k + 3) i_law_map) [.ref st, .int ro, .int c] (h6 ++ [D.lst (ms.map rw_)]) noX (fun y h7 => ∃ ds, h7[h3.length]? = some (.lst ds) ∧ ds.length < sizeLine ∧ ∀ h8, h8 = h7.set h3.length (.lst (ds ++ [y])) → ∃ (ms : List (List Int)) (c4 c5 : Option D) (h5 : MH), [some (.ref st), some (.int ro), some (.lst (ks.map .int)), some (.ref h3.length), some (.int (0 + (i : Int))), some (.int kd)] = [some (.ref st), some (.int ro), some (.lst (ks.map .int)), some (.ref h3.length), c4, c5] ∧ h8 = h5 ++ [.lst (ms.map rw_)] ∧ ms.length = i + 1 ∧ (∀ f ∈ ms, MapOk ro f) ∧ Eqs [st] h h5 ∧ StD h5 st (n + 10 + 20 * (i + 1))) := fun c => by
        refine ⟨map_ok (k := k + 1) s6.app (by omega) ro2 ro4 fun f h7 of e7 s7 => ?_⟩
        obtain ⟨h9, rfl, e9⟩ := e7.split (fun i hi => by rw [List.mem_singleton.mp hi]; exact s6.lt)
        have l9 := e9.1
        have an9 : ∀ y : D, (h9 ++ [y])[h3.length]? = some y := fun y => by rw [← l5, ← l6, ← l9]; exact at_new
        refine ⟨_, an9 _, szl (by rw [List.length_map]; omega), fun h8 e8 => ⟨ms ++ [f], _, _, h9, rfl, ?_, by simp [lm], fun y hy => ?_, (e5.trans e6).trans e9, (s7.cut (by have := s6.lt; omega)).le (by omega)⟩⟩
        · rw [e8, ← l5, ← l6, ← l9, set_new, List.map_append]; rfl
        · rcases List.mem_append.mp hy with hy | hy
          · exact om y hy
          · rw [List.mem_singleton.mp hy]; exact of
      walk_at "w"
      refine ⟨fun c => ?_, fun c => ?_⟩
      · walk_at "w"
        by_cases z : (ro : Int) = 4
        · rw [decide_eq_true z]
          exact ⟨_, atZ1, go 1⟩
        · rw [decide_eq_false z]
          exact ⟨_, atZ0, go kd⟩
      · exact ⟨_, atZ0, go kd⟩
    · rintro δ h' ⟨ms, c4, c5, h5, rfl, rfl, lm, om, e5, s5⟩
      rw [rngD_len] at lm s5
      have lm3 : 1 ≤ ms.length ∧ ms.length ≤ 3 := by omega
      have l5 : h5.length = h3.length := by rw [e5.1, ((e1.trans e2).trans e3).1]
      have an : ∀ y : D, (h5 ++ [y])[h3.length]? = some y := fun y => by rw [← l5]; exact at_new
      refine ⟨trivial, ?_⟩
      have fin : ∀ (g : MH) (c3 : D), (c3 = .ref h3.length ∧ g = h5 ++ [D.lst (ms.map rw_)] ∨ c3 = .lst ((ms.take 1).map rw_) ∧ g = h5 ++ [D.lst (ms.map rw_)]) → dRet (dCallN (F (k + 3) i_law_built) (dCons (dCallN (F (k + 3) i_law_letters) (dCons (dVar 0) (dCons (dB bLen (dCons (dVar 3) dNil)) dNil))) (dCons (dVar 3) dNil))) (fnE h X Q) [some (.ref st), some (.int ro), some (.lst (ks.map .int)), some c3, c4, c5] g := fun g c3 hc => by
        rcases hc with ⟨rfl, rfl⟩ | ⟨rfl, rfl⟩
        · walk_at "w"
          refine ⟨_, an _, ?_⟩
          walk_at "w"
          rw [List.length_map]
          refine ⟨letters_ok s5.app (by omega) (by omega) fun ws h7 hl hw e7 s7 => ?_⟩
          obtain ⟨h9, rfl, e9⟩ := e7.split (fun i hi => by rw [List.mem_singleton.mp hi]; exact s5.lt)
          have l9 := e9.1
          have an9 : ∀ y : D, (h9 ++ [y])[h3.length]? = some y := fun y => by rw [← l5, ← l9]; exact at_new
          have s9 := s7.cut (by have := s5.lt; omega)
          walk_at "w"
          refine ⟨built_ref (an9 _) (by omega) (fun e => by subst e; simp at lm3) (by omega) ro4 om hw fun t g => ?_⟩
          exact out_eqs (e5.trans e9) s9.rfs t.rf (q t h9 g (e5.trans e9) (s9.le (by omega)))
        · walk_at "w"
          rw [List.length_map]
          refine ⟨letters_ok s5.app (by omega) (by rw [List.length_take]; omega) fun ws h7 hl hw e7 s7 => ?_⟩
          obtain ⟨h9, rfl, e9⟩ := e7.split (fun i hi => by rw [List.mem_singleton.mp hi]; exact s5.lt)
          have l9 := e9.1
          have s9 := s7.cut (by have := s5.lt; omega)
          walk_at "w"
          refine ⟨built_ok (by omega) (fun e => by have := congrArg List.length e; simp only [List.length_take, List.length_nil] at this; omega) (by rw [List.length_take]; omega) ro4 (fun f hf => om f (List.mem_of_mem_take hf)) hw fun t g => ?_⟩
          exact out_eqs (e5.trans e9) s9.rfs t.rf (q t h9 g (e5.trans e9) (s9.le (by omega)))
      walk_at "w"
      refine ⟨fun c => ?_, fun c => ?_⟩
      · walk_at "w"
        refine ⟨rfl, all_ints _, ?_⟩
        walk_at "w"
        refine ⟨fun c => ?_, fun c => ?_⟩
        · walk_at "w"
          refine ⟨_, an _, .inr ?_⟩
          have ec : cutL (ms.map rw_) none (some 1) = (ms.take 1).map rw_ := by rw [List.map_take]; exact cut_to (ms.map rw_) 1
          rw [ec]
          exact fin _ _ (.inr ⟨rfl, rfl⟩)
        · exact fin _ _ (.inl ⟨rfl, rfl⟩)
      · walk_at "w"
        exact ⟨fun c => (by cases c), fun _ => fin _ _ (.inl ⟨rfl, rfl⟩)⟩
theorem bdf5 {n : Nat} {a b c : D} {i j : Int} (h1 : bd n a = true) (h2 : bd n b = true) (h3 : bd n c = true) : bdf n [(0, a), (1, b), (2, c), (3, .int i), (4, .int j)] = true := by
  show (bd n a && (bd n b && (bd n c && (true && (true && true))))) = true
  rw [h1, h2, h3]; rfl
theorem init_lf {k : Nat} {v : Int} {x : Str} {h : MH} {X : DXc} {Q : DK} (q : Q (T.lf v x).pt h) : F (k + 1) i_Part_init [.ref h.length, (T.lf v x).d, .non, .non] (h ++ [.obj 20 []]) X fun r h2 => r = .non ∧ mkQ 20 h h2 Q := by
  refine ⟨rfl, ?_⟩
  walk_at "w"
  refine ⟨_, at_new, by simp, fun h1 e1 => ?_⟩
  rw [set_new] at e1; subst e1
  walk_at "w"
  refine ⟨_, at_new, by simp [putN], fun h1 e1 => ?_⟩
  rw [set_new] at e1; subst e1
  walk_at "w"
  refine ⟨_, at_new, by simp [putN], fun h1 e1 => ?_⟩
  rw [set_new] at e1; subst e1
  walk_at "w"
  refine ⟨fun _ => ?_, fun c => by cases c⟩
  walk_at "w"
  refine ⟨_, at_new, by simp [putN], fun h1 e1 => ?_⟩
  rw [set_new] at e1; subst e1
  walk_at "w"
  refine ⟨fun _ => ?_, fun c => by cases c⟩
  walk_at "w"
  refine ⟨_, at_new, by simp [putN], fun h1 e1 => ?_⟩
  rw [set_new] at e1; subst e1
  exact .keep ⟨rfl, .inr ⟨_, rfl, rfl, q⟩⟩
theorem init_nd {k : Nat} {v : Int} {l r : T} {h : MH} {X : DXc} {Q : DK} (q : Q (T.nd v l r).pt h) : F (k + 1) i_Part_init [.ref h.length, (T.nd v l r).d, l.pt, r.pt] (h ++ [.obj 20 []]) X fun r h2 => r = .non ∧ mkQ 20 h h2 Q := by
  have hm : ((if ((r.h : Nat) : Int) > ((l.h : Nat) : Int) then ((r.h : Nat) : Int) else ((l.h : Nat) : Int))) = ((max l.h r.h : Nat) : Int) := by
    split <;> omega
  have e1 : (1 : Int) + ((max l.h r.h : Nat) : Int) = (((T.nd v l r).h : Nat) : Int) := by rw [nd_h]; omega
  have e2 : ((l.n : Nat) : Int) + ((r.n : Nat) : Int) = (((T.nd v l r).n : Nat) : Int) := by simp [T.n]
  have lf := l.ptrf
  have rf' := r.ptrf
  have tf := (T.nd v l r).rf
  have pl : ∃ a b, l.pt = .obj 20 [(0, l.d), (1, a), (2, b), (3, .int (l.h : Nat)), (4, .int (l.n : Nat))] := by cases l <;> exact ⟨_, _, rfl⟩
  have pr : ∃ a b, r.pt = .obj 20 [(0, r.d), (1, a), (2, b), (3, .int (r.h : Nat)), (4, .int (r.n : Nat))] := by cases r <;> exact ⟨_, _, rfl⟩
  have q' : Q (.obj 20 [(0, (T.nd v l r).d), (1, l.pt), (2, r.pt), (3, .int ((T.nd v l r).h : Nat)), (4, .int ((T.nd v l r).n : Nat))]) h := q
  rw [← e1, ← e2, ← hm] at q'
  generalize (T.nd v l r).d = td at tf q' ⊢
  obtain ⟨la, lb, pl⟩ := pl
  obtain ⟨ra, rb, pr⟩ := pr
  rw [pl] at lf q' ⊢
  rw [pr] at rf' q' ⊢
  refine ⟨rfl, ?_⟩
  walk_at "w"
  refine ⟨_, at_new, by simp, fun h1 e1 => ?_⟩
  rw [set_new] at e1; subst e1
  walk_at "w"
  refine ⟨_, at_new, by simp [putN], fun h1 e1 => ?_⟩
  rw [set_new] at e1; subst e1
  walk_at "w"
  refine ⟨_, at_new, by simp [putN], fun h1 e1 => ?_⟩
  rw [set_new] at e1; subst e1
  walk_at "w"
  refine ⟨fun c => (by cases c), fun _ => ?_⟩
  walk_at "w"
  refine ⟨rfl, _, rfl, ?_⟩
  walk_at "w"
  refine ⟨rfl, _, rfl, ?_⟩
  walk_at "w"
  refine ⟨_, at_new, by simp [putN], fun h1 e1 => ?_⟩
  rw [set_new] at e1; subst e1
  walk_at "w"
  refine ⟨fun c => (by cases c), fun _ => ?_⟩
  walk_at "w"
  refine ⟨rfl, _, rfl, ?_⟩
  walk_at "w"
  refine ⟨rfl, _, rfl, ?_⟩
  walk_at "w"
  refine ⟨_, at_new, by simp [putN], fun h1 e1 => ?_⟩
  rw [set_new] at e1; subst e1
  refine .keep ⟨rfl, .inr ⟨_, rfl, ?_, q'⟩⟩
  exact bdf5 (rf_up tf) (rf_up lf) (rf_up rf')
theorem is_leaf_lf {k : Nat} {v : Int} {x : Str} {h : MH} {X : DXc} {Q : DK} (q : Q (.bl true) h) : F (k + 1) i_is_leaf [(T.lf v x).d] h X Q := by
  refine ⟨rfl, ?_⟩
  walk_at "w"
  exact .keep q
theorem is_leaf_nd {k : Nat} {v : Int} {l r : T} {h : MH} {X : DXc} {Q : DK} (q : Q (.bl false) h) : F (k + 1) i_is_leaf [(T.nd v l r).d] h X Q := by
  refine ⟨rfl, ?_⟩
  walk_at "w"
  exact .keep q
theorem idxOf_lt {L : List Str} {x : Str} (m : x ∈ L) : L[L.idxOf x]? = some x ∧ ∀ j, j < L.idxOf x → L[j]? ≠ some x := by
  have hl : L.idxOf x < L.length := List.idxOf_lt_length_iff.mpr m
  refine ⟨by rw [List.getElem?_eq_getElem hl, List.getElem_idxOf], fun j hj => ?_⟩
  have hj2 : j < L.length := by omega
  rw [List.getElem?_eq_getElem hj2]
  intro e
  have h1 : (L[j] == x) = false := List.not_of_lt_findIdx (p := (· == x)) hj
  rw [Option.some.inj e] at h1
  simp at h1
theorem leaf_of_ok {k : Nat} {t : Tb} {x : Str} {h : MH} {X : DXc} {Q : DK} (g : t.Good) (e : x ∉ t.L → X ⟨22, none⟩ h) (q : x ∈ t.L → Q (lfT t x).d h) : F (k + 1) i_leaf_of [t.d, .str x] h X Q := by
  refine ⟨rfl, ?_⟩
  walk_at "s"
  refine ⟨rfl, all_strs _, ?_⟩
  rw [any_strs, if_pos rfl]
  walk_at "w"
  refine ⟨fun c => ?_, fun c => ?_⟩
  · simp only [Bool.not_eq_true', decide_eq_false_iff_not] at c
    exact .keep (e c)
  · simp only [Bool.not_eq_false', decide_eq_true_eq] at c
    walk_at "s"
    refine ⟨⟨_, rfl⟩, ?_⟩
    walk_at "w"
    obtain ⟨i1, i2⟩ := idxOf_lt c
    refine ⟨t.L, t.L.idxOf x, rfl, i1, i2, ?_⟩
    walk_at "w"
    refine ⟨_, at_nat (by rw [List.getElem?_map, val_at g c]; rfl), ?_⟩
    walk_at "w"
    refine ⟨sz (by simp), ?_⟩
    exact .keep (q c)
theorem times_ok {k : Nat} {t : Tb} {a b : Int} {h : MH} {X : DXc} {Q : DK} (g : t.Good) (a0 : 0 ≤ a) (a1 : a < t.n) (b0 : 0 ≤ b) (b1 : b < t.n) (q : Q (.int (t.mul a b)) h) : F (k + 1) i_times [t.d, .int a, .int b] h X Q := by
  obtain ⟨row, e1, e2, _⟩ := mul_at g a0 a1 b0 b1
  refine ⟨rfl, ?_⟩
  walk_at "w"
  refine ⟨fun c => absurd (dec_t c) (by omega), fun _ => ?_⟩
  walk_at "w"
  refine ⟨fun c => absurd (dec_t c) (by omega), fun _ => ?_⟩
  walk_at "s"
  refine ⟨_, atI_map a0 e1, ?_⟩
  walk_at "w"
  refine ⟨_, atI_map b0 e2, ?_⟩
  exact .keep q
theorem pt_form (l : T) : ∃ a b, l.pt = .obj 20 [(0, l.d), (1, a), (2, b), (3, .int (l.h : Nat)), (4, .int (l.n : Nat))] := by cases l <;> exact ⟨_, _, rfl⟩
theorem d_form (l : T) : ∃ ds, l.d = .tup false (.int l.v :: ds) := by cases l <;> exact ⟨_, rfl⟩
theorem pt_nd (v : Int) (l r : T) : (T.nd v l r).pt = .obj 20 [(0, (T.nd v l r).d), (1, l.pt), (2, r.pt), (3, .int ((T.nd v l r).h : Nat)), (4, .int ((T.nd v l r).n : Nat))] := rfl
def MkD (h : MH) (i : Nat) (t : Tb) (c : Int) : Prop := h[i]? = some (.obj 26 [(5, t.d), (6, .int c)])
theorem MkD.rfs {h : MH} {i : Nat} {t : Tb} {c : Int} (m : MkD h i t c) : Rfs [i] h := Rfs.one m (by
  show (bd 0 t.d && (true && true)) = true
  rw [show bd 0 t.d = true from t.rf]; rfl)
def Vr (t : Tb) (a : T) : Prop := 0 ≤ a.v ∧ a.v < t.n
theorem mkT_vr {t : Tb} {l r : T} (g : t.Good) (a : Vr t l) (b : Vr t r) : Vr t (mkT t l r) := (mul_at g a.1 a.2 b.1 b.2).choose_spec.2.2
theorem node_ok {k i : Nat} {t : Tb} {c : Int} {l r : T} {h : MH} {X : DXc} {Q : DK} (g : t.Good) (m : MkD h i t c) (vl : Vr t l) (vr : Vr t r) (q : ∀ h', Eqs [i] h h' → MkD h' i t (c + 1) → Q (mkT t l r).pt h') : F (k + 2) i_Maker_node [.ref i, l.pt, r.pt] h X Q := by
  obtain ⟨la, lb, pl⟩ := pt_form l
  obtain ⟨ra, rb, pr⟩ := pt_form r
  obtain ⟨ls, dl⟩ := d_form l
  obtain ⟨rs, dr⟩ := d_form r
  have hm := at_lt m
  refine ⟨rfl, ?_⟩
  walk_at "w"
  refine ⟨_, _, m, rfl, _, m, by simp, fun h1 e1 => ?_⟩
  have m1 : MkD h1 i t (c + 1) := by rw [e1]; exact at_set hm
  have eq1 : Eqs [i] h h1 := by rw [e1]; exact (Eqs.refl _ _).set (by simp)
  clear e1
  rw [pl, pr, dl, dr]
  walk_at "w"
  refine ⟨_, m1, _, rfl, ?_⟩
  walk_at "w"
  refine ⟨rfl, _, rfl, ?_⟩
  walk_at "w"
  refine ⟨_, atZ0, ?_⟩
  walk_at "w"
  refine ⟨rfl, _, rfl, ?_⟩
  walk_at "w"
  refine ⟨_, atZ0, ?_⟩
  walk_at "w"
  refine ⟨times_ok g vl.1 vl.2 vr.1 vr.2 ?_⟩
  walk_at "w"
  refine ⟨rfl, _, rfl, ?_⟩
  walk_at "w"
  refine ⟨rfl, _, rfl, ?_⟩
  walk_at "w"
  refine ⟨sz (by simp), ?_⟩
  walk_at "w"
  rw [← dl, ← dr, ← pl, ← pr]
  exact ⟨init_nd (v := t.mul l.v r.v) (.keep (q h1 eq1 m1))⟩
theorem part_of_ok : ∀ (a : T) (m : Nat) {h : MH} {X : DXc} {Q : DK}, a.h + 2 ≤ m → Q a.pt h → F m i_part_of [a.d] h X Q
  | .lf v x, m, h, X, Q, hm, q => by
    obtain ⟨k, rfl⟩ : ∃ k, m = k + 2 := ⟨m - 2, by omega⟩
    refine ⟨rfl, ?_⟩
    walk_at "w"
    refine ⟨is_leaf_lf ?_⟩
    walk_at "w"
    refine ⟨fun _ => ?_, fun c => by cases c⟩
    walk_at "w"
    exact ⟨init_lf (.keep q)⟩
  | .nd v l r, m, h, X, Q, hm, q => by
    have e := nd_h (v := v) (l := l) (r := r)
    obtain ⟨k, rfl⟩ : ∃ k, m = k + 2 := ⟨m - 2, by omega⟩
    refine ⟨rfl, ?_⟩
    walk_at "w"
    refine ⟨is_leaf_nd ?_⟩
    walk_at "w"
    refine ⟨fun c => (by cases c), fun _ => ?_⟩
    walk_at "s"
    refine ⟨part_of_ok l (k + 1) (by omega) ?_⟩
    walk_at "s"
    refine ⟨part_of_ok r (k + 1) (by omega) ?_⟩
    walk_at "w"
    exact ⟨init_nd (.keep q)⟩
theorem tree_of_ok {k : Nat} {a : Option T} {h : MH} {X : DXc} {Q : DK} (q : Q (oD a) h) : F (k + 1) i_tree_of [oPt a] h X Q := by
  refine ⟨rfl, ?_⟩
  cases a with
  | none =>
    walk_at "w"
    refine ⟨fun _ => ?_, fun c => by cases c⟩
    exact .keep q
  | some a =>
    obtain ⟨x, y, e⟩ := pt_form a
    rw [show oPt (some a) = a.pt from rfl, e]
    walk_at "w"
    refine ⟨fun c => (by cases c), fun _ => ?_⟩
    walk_at "w"
    exact ⟨rfl, _, rfl, .keep q⟩
theorem built_mk {t : Tb} (g : t.Good) {i : Nat} {l : List Str} {a : T} {c : Nat} (b : Bt t l a c) (hL : ∀ x ∈ l, x ∈ t.L) (ha : a.Rt t) (hl : l.length ≤ 100000) : ∀ (m : Nat) {z : Int} {h : MH} {X : DXc} {Q : DK}, a.h + 3 ≤ m → MkD h i t z → (∀ h', Eqs [i] h h' → MkD h' i t (z + c) → Q a.pt h') → F m i_Maker_built [.ref i, .lst (l.map fun x => (lfT t x).d)] h X Q := by
  induction b with
  | @o x =>
    intro m z h X Q hm mk q
    obtain ⟨k, rfl⟩ : ∃ k, m = k + 3 := ⟨m - 3, by omega⟩
    refine ⟨rfl, ?_⟩
    walk_at "w"
    refine ⟨fun _ => ?_, fun c => by cases c⟩
    walk_at "s"
    refine ⟨init_lf (v := t.val x) (x := x) (.keep (q h (Eqs.refl _ _) ?_))⟩
    rw [show z + ((0 : Nat) : Int) = z by omega]
    exact mk
  | @m l a b c d h2 ba bb ia ib =>
    intro m z h X Q hm mk q
    have e := mkT_h (t := t) (l := a) (r := b)
    obtain ⟨⟨b1, b2⟩, ra, rb, _⟩ := ha
    obtain ⟨k, rfl⟩ : ∃ k, m = k + 3 := ⟨m - 3, by omega⟩
    refine ⟨rfl, ?_⟩
    walk_at "w"
    rw [List.length_map]
    refine ⟨fun c => absurd (dec_t c) (by omega), fun _ => ?_⟩
    walk_at "w"
    rw [List.length_map]
    refine ⟨⟨by decide, by decide⟩, ?_⟩
    have eh : ((l.length : Int) + 1) / 2 = (((l.length + 1) / 2 : Nat) : Int) := by omega
    walk_at "w"
    refine ⟨⟨_, mk⟩, ?_⟩
    walk_at "w"
    refine ⟨⟨_, mk⟩, ?_⟩
    walk_at "w"
    refine .inr ?_
    rw [eh, cut_to, ← List.map_take]
    walk_at "w"
    refine ⟨ia (fun x hx => hL x (List.mem_of_mem_take hx)) ra (by rw [List.length_take]; omega) (k + 2) (by omega) mk fun h1 e1 mk1 => ?_⟩
    walk_at "w"
    refine ⟨⟨_, mk1⟩, ?_⟩
    walk_at "w"
    refine .inr ?_
    rw [cut_from, ← List.map_drop]
    walk_at "w"
    refine ⟨ib (fun x hx => hL x (List.mem_of_mem_drop hx)) rb (by rw [List.length_drop]; omega) (k + 2) (by omega) mk1 fun h2 e2 mk2 => ?_⟩
    walk_at "w"
    refine ⟨node_ok g mk2 (ra.vr g) (rb.vr g) fun h3 e3 mk3 => .keep (q h3 ((e1.trans e2).trans e3) ?_)⟩
    have ez : z + ((c + d + 1 : Nat) : Int) = z + c + d + 1 := by omega
    rw [ez]
    exact mk3
theorem righted_ok {k i : Nat} {t : Tb} {c : Int} {l r y : T} {d : Nat} {h : MH} {X : DXc} {Q : DK} (g : t.Good) (m : MkD h i t c) (hl : l.Rt t) (hr : r.Rt t) (j : Rgt t l r y d) (q : ∀ h', Eqs [i] h h' → MkD h' i t (c + d) → Q y.pt h') : F (k + 3) i_Maker_righted [.ref i, l.pt, r.pt] h X Q := by
  obtain ⟨la, lb, pl⟩ := pt_form l
  have vl := hl.vr g
  cases j with
  | a c1 =>
    obtain ⟨ra, rb, pr⟩ := pt_form r
    refine ⟨rfl, ?_⟩
    rw [pl, pr]
    walk_at "w"
    refine ⟨rfl, _, rfl, ?_⟩
    walk_at "w"
    refine ⟨rfl, _, rfl, ?_⟩
    walk_at "w"
    refine ⟨fun _ => ?_, fun z => absurd (dec_f z) (by omega)⟩
    walk_at "w"
    refine ⟨⟨_, m⟩, ?_⟩
    walk_at "w"
    rw [← pl, ← pr]
    exact ⟨node_ok g m vl (hr.vr g) fun h1 e1 m1 => .keep (q h1 e1 m1)⟩
  | @b f s v c1 c2 =>
    obtain ⟨_, hf, hs, _⟩ := hr
    obtain ⟨fa, fb, pf⟩ := pt_form f
    obtain ⟨sa, sb, ps⟩ := pt_form s
    refine ⟨rfl, ?_⟩
    rw [pl, pt_nd, pf, ps]
    walk_at "w"
    refine ⟨rfl, _, rfl, ?_⟩
    walk_at "w"
    refine ⟨rfl, _, rfl, ?_⟩
    walk_at "w"
    refine ⟨fun z => absurd (dec_t z) (by omega), fun _ => ?_⟩
    walk_at "w"
    refine ⟨rfl, _, rfl, ?_⟩
    walk_at "w"
    refine ⟨rfl, _, rfl, ?_⟩
    walk_at "w"
    refine ⟨rfl, _, rfl, ?_⟩
    walk_at "w"
    refine ⟨rfl, _, rfl, ?_⟩
    walk_at "w"
    refine ⟨fun _ => ?_, fun z => absurd (dec_f z) (by omega)⟩
    walk_at "w"
    refine ⟨⟨_, m⟩, ?_⟩
    walk_at "w"
    refine ⟨⟨_, m⟩, ?_⟩
    walk_at "w"
    rw [← pl, ← pf, ← ps]
    refine ⟨node_ok g m vl (hf.vr g) fun h1 e1 m1 => ?_⟩
    walk_at "w"
    refine ⟨node_ok g m1 (mkT_vr g vl (hf.vr g)) (hs.vr g) fun h2 e2 m2 => .keep (q h2 (e1.trans e2) ?_)⟩
    rw [show c + ((2 : Nat) : Int) = c + 1 + 1 by omega]
    exact m2
  | @c p q' s v w c1 c2 =>
    obtain ⟨_, ⟨_, hp, hq, _⟩, hs, _⟩ := hr
    obtain ⟨sa, sb, ps⟩ := pt_form s
    refine ⟨rfl, ?_⟩
    rw [pl, pt_nd, pt_nd, ps]
    walk_at "w"
    refine ⟨rfl, _, rfl, ?_⟩
    walk_at "w"
    refine ⟨rfl, _, rfl, ?_⟩
    walk_at "w"
    refine ⟨fun z => absurd (dec_t z) (by omega), fun _ => ?_⟩
    walk_at "w"
    refine ⟨rfl, _, rfl, ?_⟩
    walk_at "w"
    refine ⟨rfl, _, rfl, ?_⟩
    walk_at "w"
    refine ⟨rfl, _, rfl, ?_⟩
    walk_at "w"
    refine ⟨rfl, _, rfl, ?_⟩
    walk_at "w"
    refine ⟨fun z => absurd (dec_t z) (by omega), fun _ => ?_⟩
    walk_at "w"
    refine ⟨⟨_, m⟩, ?_⟩
    walk_at "w"
    refine ⟨⟨_, m⟩, ?_⟩
    walk_at "w"
    refine ⟨rfl, _, rfl, ?_⟩
    rw [← pl]
    walk_at "w"
    refine ⟨node_ok g m vl (hp.vr g) fun h1 e1 m1 => ?_⟩
    walk_at "w"
    refine ⟨⟨_, m1⟩, ?_⟩
    walk_at "w"
    refine ⟨rfl, _, rfl, ?_⟩
    walk_at "w"
    rw [← ps]
    refine ⟨node_ok g m1 (hq.vr g) (hs.vr g) fun h2 e2 m2 => ?_⟩
    walk_at "w"
    refine ⟨node_ok g m2 (mkT_vr g vl (hp.vr g)) (mkT_vr g (hq.vr g) (hs.vr g)) fun h3 e3 m3 => .keep (q h3 ((e1.trans e2).trans e3) ?_)⟩
    rw [show c + ((3 : Nat) : Int) = c + 1 + 1 + 1 by omega]
    exact m3
theorem lefted_ok {k i : Nat} {t : Tb} {c : Int} {l r y : T} {d : Nat} {h : MH} {X : DXc} {Q : DK} (g : t.Good) (m : MkD h i t c) (hl : l.Rt t) (hr : r.Rt t) (j : Lft t l r y d) (q : ∀ h', Eqs [i] h h' → MkD h' i t (c + d) → Q y.pt h') : F (k + 3) i_Maker_lefted [.ref i, l.pt, r.pt] h X Q := by
  obtain ⟨ra, rb, pr⟩ := pt_form r
  have vr := hr.vr g
  cases j with
  | a c1 =>
    obtain ⟨la, lb, pl⟩ := pt_form l
    refine ⟨rfl, ?_⟩
    rw [pl, pr]
    walk_at "w"
    refine ⟨rfl, _, rfl, ?_⟩
    walk_at "w"
    refine ⟨rfl, _, rfl, ?_⟩
    walk_at "w"
    refine ⟨fun _ => ?_, fun z => absurd (dec_f z) (by omega)⟩
    walk_at "w"
    refine ⟨⟨_, m⟩, ?_⟩
    walk_at "w"
    rw [← pl, ← pr]
    exact ⟨node_ok g m (hl.vr g) vr fun h1 e1 m1 => .keep (q h1 e1 m1)⟩
  | @b _ f s v c1 c2 =>
    obtain ⟨_, hf, hs, _⟩ := hl
    obtain ⟨fa, fb, pf⟩ := pt_form f
    obtain ⟨sa, sb, ps⟩ := pt_form s
    refine ⟨rfl, ?_⟩
    rw [pr, pt_nd, pf, ps]
    walk_at "w"
    refine ⟨rfl, _, rfl, ?_⟩
    walk_at "w"
    refine ⟨rfl, _, rfl, ?_⟩
    walk_at "w"
    refine ⟨fun z => absurd (dec_t z) (by omega), fun _ => ?_⟩
    walk_at "w"
    refine ⟨rfl, _, rfl, ?_⟩
    walk_at "w"
    refine ⟨rfl, _, rfl, ?_⟩
    walk_at "w"
    refine ⟨rfl, _, rfl, ?_⟩
    walk_at "w"
    refine ⟨rfl, _, rfl, ?_⟩
    walk_at "w"
    refine ⟨fun _ => ?_, fun z => absurd (dec_f z) (by omega)⟩
    walk_at "w"
    refine ⟨⟨_, m⟩, ?_⟩
    walk_at "w"
    refine ⟨⟨_, m⟩, ?_⟩
    walk_at "w"
    rw [← pr, ← pf, ← ps]
    refine ⟨node_ok g m (hs.vr g) vr fun h1 e1 m1 => ?_⟩
    walk_at "w"
    refine ⟨node_ok g m1 (hf.vr g) (mkT_vr g (hs.vr g) vr) fun h2 e2 m2 => .keep (q h2 (e1.trans e2) ?_)⟩
    rw [show c + ((2 : Nat) : Int) = c + 1 + 1 by omega]
    exact m2
  | @c _ f p q' v w c1 c2 =>
    obtain ⟨_, hf, ⟨_, hp, hq, _⟩, _⟩ := hl
    obtain ⟨fa, fb, pf⟩ := pt_form f
    refine ⟨rfl, ?_⟩
    rw [pr, pt_nd, pt_nd, pf]
    walk_at "w"
    refine ⟨rfl, _, rfl, ?_⟩
    walk_at "w"
    refine ⟨rfl, _, rfl, ?_⟩
    walk_at "w"
    refine ⟨fun z => absurd (dec_t z) (by omega), fun _ => ?_⟩
    walk_at "w"
    refine ⟨rfl, _, rfl, ?_⟩
    walk_at "w"
    refine ⟨rfl, _, rfl, ?_⟩
    walk_at "w"
    refine ⟨rfl, _, rfl, ?_⟩
    walk_at "w"
    refine ⟨rfl, _, rfl, ?_⟩
    walk_at "w"
    refine ⟨fun z => absurd (dec_t z) (by omega), fun _ => ?_⟩
    walk_at "w"
    refine ⟨⟨_, m⟩, ?_⟩
    walk_at "w"
    refine ⟨⟨_, m⟩, ?_⟩
    walk_at "w"
    refine ⟨rfl, _, rfl, ?_⟩
    rw [← pf]
    walk_at "w"
    refine ⟨node_ok g m (hf.vr g) (hp.vr g) fun h1 e1 m1 => ?_⟩
    walk_at "w"
    refine ⟨⟨_, m1⟩, ?_⟩
    walk_at "w"
    refine ⟨rfl, _, rfl, ?_⟩
    walk_at "w"
    rw [← pr]
    refine ⟨node_ok g m1 (hq.vr g) vr fun h2 e2 m2 => ?_⟩
    walk_at "w"
    refine ⟨node_ok g m2 (mkT_vr g (hf.vr g) (hp.vr g)) (mkT_vr g (hq.vr g) vr) fun h3 e3 m3 => .keep (q h3 ((e1.trans e2).trans e3) ?_)⟩
    rw [show c + ((3 : Nat) : Int) = c + 1 + 1 + 1 by omega]
    exact m3
theorem joined_mk {t : Tb} (g : t.Good) {i : Nat} {l r y : T} {d : Nat} (j : Jn t l r y d) (hl : l.Rt t) (hr : r.Rt t) : ∀ (m : Nat) {z : Int} {h : MH} {X : DXc} {Q : DK}, l.h + r.h + 4 ≤ m → MkD h i t z → (∀ h', Eqs [i] h h' → MkD h' i t (z + d) → Q y.pt h') → F m i_Maker_joined [.ref i, l.pt, r.pt] h X Q := by
  induction j with
  | @nr l r c1 c2 =>
    intro m z h X Q hm mk q
    obtain ⟨k, rfl⟩ : ∃ k, m = k + 4 := ⟨m - 4, by omega⟩
    obtain ⟨la, lb, pl⟩ := pt_form l
    obtain ⟨ra, rb, pr⟩ := pt_form r
    refine ⟨rfl, ?_⟩
    rw [pl, pr]
    walk_at "w"
    refine ⟨rfl, _, rfl, ?_⟩
    walk_at "w"
    refine ⟨rfl, _, rfl, ?_⟩
    walk_at "w"
    refine ⟨fun _ => ?_, fun c => absurd (dec_f c) (by split <;> omega)⟩
    walk_at "w"
    refine ⟨⟨_, mk⟩, ?_⟩
    walk_at "w"
    rw [← pl, ← pr]
    exact ⟨node_ok g mk (hl.vr g) (hr.vr g) fun h1 e1 m1 => .keep (q h1 e1 m1)⟩
  | @hi a b r x y v c d c1 j1 rx hx j2 ih =>
    intro m z h X Q hm mk q
    have e := nd_h (v := v) (l := a) (r := b)
    obtain ⟨⟨b1, b2⟩, ha, hb, _⟩ := hl
    obtain ⟨k, rfl⟩ : ∃ k, m = k + 4 := ⟨m - 4, by omega⟩
    obtain ⟨ra, rb, pr⟩ := pt_form r
    refine ⟨rfl, ?_⟩
    rw [pt_nd, pr]
    walk_at "w"
    refine ⟨rfl, _, rfl, ?_⟩
    walk_at "w"
    refine ⟨rfl, _, rfl, ?_⟩
    walk_at "w"
    refine ⟨fun c => absurd (dec_t c) (by split <;> omega), fun _ => ?_⟩
    walk_at "w"
    refine ⟨rfl, _, rfl, ?_⟩
    walk_at "w"
    refine ⟨rfl, _, rfl, ?_⟩
    walk_at "w"
    refine ⟨fun _ => ?_, fun c => absurd (dec_f c) (by omega)⟩
    walk_at "w"
    refine ⟨⟨_, mk⟩, ?_⟩
    walk_at "w"
    refine ⟨rfl, _, rfl, ?_⟩
    walk_at "w"
    refine ⟨⟨_, mk⟩, ?_⟩
    walk_at "w"
    refine ⟨rfl, _, rfl, ?_⟩
    walk_at "w"
    rw [← pr]
    refine ⟨ih hb hr (k + 3) (by omega) mk fun h1 e1 m1 => ?_⟩
    walk_at "w"
    refine ⟨righted_ok g m1 ha rx j2 fun h2 e2 m2 => .keep (q h2 (e1.trans e2) ?_)⟩
    rw [show z + ((c + d : Nat) : Int) = z + c + d by omega]
    exact m2
  | @lo l a b x y v c d c1 j1 rx hx j2 ih =>
    intro m z h X Q hm mk q
    have e := nd_h (v := v) (l := a) (r := b)
    obtain ⟨⟨b1, b2⟩, ha, hb, _⟩ := hr
    obtain ⟨k, rfl⟩ : ∃ k, m = k + 4 := ⟨m - 4, by omega⟩
    obtain ⟨la, lb, pl⟩ := pt_form l
    refine ⟨rfl, ?_⟩
    rw [pt_nd, pl]
    walk_at "w"
    refine ⟨rfl, _, rfl, ?_⟩
    walk_at "w"
    refine ⟨rfl, _, rfl, ?_⟩
    walk_at "w"
    refine ⟨fun c => absurd (dec_t c) (by split <;> omega), fun _ => ?_⟩
    walk_at "w"
    refine ⟨rfl, _, rfl, ?_⟩
    walk_at "w"
    refine ⟨rfl, _, rfl, ?_⟩
    walk_at "w"
    refine ⟨fun c => absurd (dec_t c) (by omega), fun _ => ?_⟩
    walk_at "w"
    refine ⟨⟨_, mk⟩, ?_⟩
    walk_at "w"
    refine ⟨⟨_, mk⟩, ?_⟩
    walk_at "w"
    refine ⟨rfl, _, rfl, ?_⟩
    rw [← pl]
    walk_at "w"
    refine ⟨ih hl ha (k + 3) (by omega) mk fun h1 e1 m1 => ?_⟩
    walk_at "w"
    refine ⟨rfl, _, rfl, ?_⟩
    walk_at "w"
    refine ⟨lefted_ok g m1 rx hb j2 fun h2 e2 m2 => .keep (q h2 (e1.trans e2) ?_)⟩
    rw [show z + ((c + d : Nat) : Int) = z + c + d by omega]
    exact m2
theorem both_ok {t : Tb} (g : t.Good) {i m : Nat} {l r y : Option T} {d : Nat} {z : Int} {h : MH} {X : DXc} {Q : DK} (j : Jo t l r y d) (hl : oRt t l) (hr : oRt t r) (hm : oH l + oH r + 5 ≤ m) (mk : MkD h i t z) (q : ∀ h', Eqs [i] h h' → MkD h' i t (z + d) → Q (oPt y) h') : F m i_Maker_both [.ref i, oPt l, oPt r] h X Q := by
  obtain ⟨k, rfl⟩ : ∃ k, m = k + 5 := ⟨m - 5, by omega⟩
  have mk0 : MkD h i t (z + ((0 : Nat) : Int)) := by rw [show z + ((0 : Nat) : Int) = z by omega]; exact mk
  cases j with
  | l =>
    refine ⟨rfl, ?_⟩
    walk_at "w"
    refine ⟨fun _ => ?_, fun c => by cases c⟩
    walk_at "w"
    refine ⟨fun _ => ?_, fun c => by cases c⟩
    cases r with
    | none =>
      walk_at "w"
      refine ⟨fun _ => ?_, fun c => by cases c⟩
      exact .keep (q h (Eqs.refl _ _) mk0)
    | some r =>
      obtain ⟨ra, rb, pr⟩ := pt_form r
      have q' := q h (Eqs.refl _ _) mk0
      rw [show oPt (some r) = r.pt from rfl, pr] at q' ⊢
      walk_at "w"
      refine ⟨fun c => (by cases c), fun _ => ?_⟩
      exact .keep q'
  | @r a =>
    obtain ⟨ra, rb, pr⟩ := pt_form a
    have q' := q h (Eqs.refl _ _) mk0
    refine ⟨rfl, ?_⟩
    rw [show oPt (some a) = a.pt from rfl, pr] at q' ⊢
    walk_at "w"
    refine ⟨fun c => (by cases c), fun _ => ?_⟩
    walk_at "w"
    refine ⟨fun _ => ?_, fun c => by cases c⟩
    walk_at "w"
    refine ⟨fun _ => ?_, fun c => by cases c⟩
    exact .keep q'
  | @b l r y c j =>
    obtain ⟨la, lb, pl⟩ := pt_form l
    obtain ⟨ra, rb, pr⟩ := pt_form r
    refine ⟨rfl, ?_⟩
    rw [show oPt (some l) = l.pt from rfl, show oPt (some r) = r.pt from rfl, pl, pr]
    walk_at "w"
    refine ⟨fun c => (by cases c), fun _ => ?_⟩
    walk_at "w"
    refine ⟨fun c => (by cases c), fun _ => ?_⟩
    walk_at "w"
    refine ⟨⟨_, mk⟩, ?_⟩
    walk_at "w"
    rw [← pl, ← pr]
    have hm' : l.h + r.h + 5 ≤ k + 5 := hm
    exact ⟨joined_mk g j hl hr (k + 4) (by omega) mk fun h1 e1 m1 => .keep (q h1 e1 m1)⟩
theorem rf_opt (a : Option T) : rf (oPt a) := by cases a with
  | none => rfl
  | some a => exact a.ptrf
theorem rfd_opt (a : Option T) : rf (oD a) := by cases a with
  | none => rfl
  | some a => exact a.rf
theorem cut_mk {t : Tb} (g : t.Good) {i : Nat} {a : T} {p : Nat} {x y : Option T} {d : Nat} (j : Ct t a p x y d) (ha : a.Rt t) : ∀ (m : Nat) {z : Int} {h : MH} {X : DXc} {Q : DK}, 3 * a.h + 10 ≤ m → MkD h i t z → (∀ h', Eqs [i] h h' → MkD h' i t (z + d) → Q (.tup false [oPt x, oPt y]) h') → F m i_Maker_cut [.ref i, a.pt, .int (p : Int)] h X Q := by
  induction j with
  | @z a =>
    intro m z h X Q hm mk q
    obtain ⟨k, rfl⟩ : ∃ k, m = k + 4 := ⟨m - 4, by omega⟩
    obtain ⟨la, lb, pl⟩ := pt_form a
    have q' := q h (Eqs.refl _ _) (by rw [show z + ((0 : Nat) : Int) = z by omega]; exact mk)
    rw [show oPt (some a) = a.pt from rfl] at q'
    refine ⟨rfl, ?_⟩
    rw [pl] at q' ⊢
    walk_at "w"
    refine ⟨fun c => (by cases c), fun _ => ?_⟩
    walk_at "w"
    refine ⟨fun _ => ?_, fun c => by cases c⟩
    walk_at "w"
    exact ⟨sz (by simp), .keep q'⟩
  | @a a =>
    intro m z h X Q hm mk q
    have np := a.n_pos
    obtain ⟨k, rfl⟩ : ∃ k, m = k + 4 := ⟨m - 4, by omega⟩
    obtain ⟨la, lb, pl⟩ := pt_form a
    have q' := q h (Eqs.refl _ _) (by rw [show z + ((0 : Nat) : Int) = z by omega]; exact mk)
    rw [show oPt (some a) = a.pt from rfl] at q'
    refine ⟨rfl, ?_⟩
    rw [pl] at q' ⊢
    walk_at "w"
    refine ⟨fun c => (by cases c), fun _ => ?_⟩
    walk_at "w"
    refine ⟨fun c => absurd (dec_t c) (by omega), fun _ => ?_⟩
    walk_at "w"
    refine ⟨rfl, _, rfl, ?_⟩
    walk_at "w"
    refine ⟨fun _ => ?_, fun c => absurd rfl (dec_f c)⟩
    walk_at "w"
    exact ⟨sz (by simp), .keep q'⟩
  | @l v l r p c d x y w h0 h1 k1 ry hy j2 ih =>
    intro m z h X Q hm mk q
    have e := nd_h (v := v) (l := l) (r := r)
    obtain ⟨⟨b1, b2⟩, hl, hr, _⟩ := ha
    have en : ((T.nd v l r).n : Nat) = l.n + r.n := rfl
    have rp := r.n_pos
    obtain ⟨la, lb, pl⟩ := pt_form l
    obtain ⟨k, rfl⟩ : ∃ k, m = k + 4 := ⟨m - 4, by omega⟩
    refine ⟨rfl, ?_⟩
    rw [pt_nd, pl]
    walk_at "w"
    refine ⟨fun c => (by cases c), fun _ => ?_⟩
    walk_at "w"
    refine ⟨fun c => absurd (dec_t c) (by omega), fun _ => ?_⟩
    walk_at "w"
    refine ⟨rfl, _, rfl, ?_⟩
    walk_at "w"
    refine ⟨fun c => absurd (dec_t c) (by omega), fun _ => ?_⟩
    walk_at "w"
    refine ⟨rfl, _, rfl, ?_⟩
    walk_at "w"
    refine ⟨rfl, _, rfl, ?_⟩
    walk_at "w"
    refine ⟨fun _ => ?_, fun c => absurd (dec_f c) (by omega)⟩
    walk_at "w"
    refine ⟨⟨_, mk⟩, ?_⟩
    walk_at "w"
    refine ⟨rfl, _, rfl, ?_⟩
    walk_at "w"
    rw [← pl]
    refine ⟨ih hl (k + 3) (by omega) mk fun h1 e1 m1 => ?_⟩
    walk_at "w"
    refine ⟨rfl, ?_⟩
    walk_at "w"
    refine ⟨⟨_, m1⟩, ?_⟩
    walk_at "w"
    refine ⟨rfl, _, rfl, ?_⟩
    walk_at "w"
    refine ⟨both_ok g (l := y) (r := some r) j2 ry hr (by show oH y + r.h + 5 ≤ _; omega) m1 fun h2 e2 m2 => ?_⟩
    walk_at "w"
    refine ⟨sz (by simp), .keep (q h2 (e1.trans e2) ?_)⟩
    rw [show z + ((c + d : Nat) : Int) = z + c + d by omega]
    exact m2
  | @r v l r p c d x y w h0 h1 k1 rx hx j2 ih =>
    intro m z h X Q hm mk q
    have e := nd_h (v := v) (l := l) (r := r)
    obtain ⟨⟨b1, b2⟩, hl, hr, _⟩ := ha
    have en : ((T.nd v l r).n : Nat) = l.n + r.n := rfl
    obtain ⟨la, lb, pl⟩ := pt_form l
    obtain ⟨k, rfl⟩ : ∃ k, m = k + 4 := ⟨m - 4, by omega⟩
    refine ⟨rfl, ?_⟩
    rw [pt_nd, pl]
    walk_at "w"
    refine ⟨fun c => (by cases c), fun _ => ?_⟩
    walk_at "w"
    refine ⟨fun c => absurd (dec_t c) (by omega), fun _ => ?_⟩
    walk_at "w"
    refine ⟨rfl, _, rfl, ?_⟩
    walk_at "w"
    refine ⟨fun c => absurd (dec_t c) (by omega), fun _ => ?_⟩
    walk_at "w"
    refine ⟨rfl, _, rfl, ?_⟩
    walk_at "w"
    refine ⟨rfl, _, rfl, ?_⟩
    walk_at "w"
    refine ⟨fun c => absurd (dec_t c) (by omega), fun _ => ?_⟩
    walk_at "w"
    refine ⟨⟨_, mk⟩, ?_⟩
    walk_at "w"
    refine ⟨rfl, _, rfl, ?_⟩
    walk_at "w"
    refine ⟨rfl, _, rfl, ?_⟩
    walk_at "w"
    refine ⟨rfl, _, rfl, ?_⟩
    walk_at "w"
    rw [show (p : Int) - (l.n : Int) = ((p - l.n : Nat) : Int) by omega]
    refine ⟨ih hr (k + 3) (by omega) mk fun h1 e1 m1 => ?_⟩
    walk_at "w"
    refine ⟨rfl, ?_⟩
    walk_at "w"
    refine ⟨⟨_, m1⟩, ?_⟩
    walk_at "w"
    refine ⟨rfl, _, rfl, ?_⟩
    walk_at "w"
    rw [← pl]
    refine ⟨both_ok g (l := some l) (r := x) j2 hl rx (by show l.h + oH x + 5 ≤ _; omega) m1 fun h2 e2 m2 => ?_⟩
    walk_at "w"
    refine ⟨sz (by simp), .keep (q h2 (e1.trans e2) ?_)⟩
    rw [show z + ((c + d : Nat) : Int) = z + c + d by omega]
    exact m2
theorem maker_ok {k : Nat} {t : Tb} {h : MH} {X : DXc} {Q : DK} (q : MkD (h ++ [.obj 26 [(5, t.d), (6, .int 0)]]) h.length t 0 → Q (.ref h.length) (h ++ [.obj 26 [(5, t.d), (6, .int 0)]])) : F (k + 1) i_Maker_init [.ref h.length, t.d] (h ++ [.obj 26 []]) X fun r h2 => r = .non ∧ mkQ 26 h h2 Q := by
  refine ⟨rfl, ?_⟩
  walk_at "w"
  refine ⟨_, at_new, by simp, fun h1 e1 => ?_⟩
  rw [set_new] at e1; subst e1
  walk_at "w"
  refine ⟨_, at_new, by simp [putN], fun h1 e1 => ?_⟩
  rw [set_new] at e1; subst e1
  exact .keep ⟨rfl, .inl (q at_new)⟩
theorem nil_or {α : Type} (l : List α) : l = [] ∨ 0 < l.length := by cases l <;> simp
theorem built_pr {k : Nat} {t : Tb} (g : t.Good) {b : Bool} {l : List Str} {m : Nat} {h : MH} {X : DXc} {Q : DK} (hl : l.length ≤ 100000) (hm : 30 ≤ m) (e : (l = [] ∨ ∃ x ∈ l, x ∉ t.L) → X ⟨22, none⟩ h)
    (q : ∀ a, l ≠ [] → (∀ x ∈ l, x ∈ t.L) → Bt t l a (l.length - 1) → Q (.tup false [a.d, .int ((l.length - 1 : Nat) : Int)]) h) : F m i_built [t.d, .tup b (l.map .str)] h X Q := by
  obtain ⟨k, rfl⟩ : ∃ k, m = k + 30 := ⟨m - 30, by omega⟩
  refine ⟨rfl, ?_⟩
  walk_at "w"
  rw [List.length_map]
  refine ⟨fun c => ?_, fun c => ?_⟩
  · have c := dec_t c
    exact .keep (e (.inl (List.eq_nil_of_length_eq_zero (by omega))))
  · have c := dec_f c
    have l0 : l ≠ [] := fun z => by subst z; exact c rfl
    walk_at "w"
    refine ⟨maker_ok fun mk => ?_⟩
    walk_at "w"
    refine ⟨⟨_, mk⟩, ?_⟩
    walk_at "w"
    refine ⟨fun i acc h' => h' = h ++ [.obj 26 [(5, t.d), (6, .int 0)]] ∧ acc = (l.take i).map (fun x => (lfT t x).d) ∧ ∀ x ∈ l.take i, x ∈ t.L, ⟨rfl, rfl, by simp⟩, ?_, ?_⟩
    · rintro i acc h' x ⟨rfl, rfl, hin⟩ hx
      refine ⟨trivial, ?_⟩
      rw [List.getElem?_map] at hx
      cases ex : l[i]? with
      | none => rw [ex] at hx; cases hx
      | some s =>
        rw [ex] at hx
        obtain rfl := Option.some.inj hx
        walk_at "w"
        refine ⟨leaf_of_ok g (fun hn => ?_) fun hs => ⟨?_, rfl, ?_, ?_⟩⟩
        · exact .cut h [.obj 26 [(5, t.d), (6, .int 0)]] rfl (Nat.le_refl _) (fun i x hx => .inl hx) rfl (e (.inr ⟨s, List.mem_of_getElem? ex, hn⟩))
        · refine szl (by rw [List.length_map, List.length_take]; omega)
        · rw [take_more ex, List.map_append]; rfl
        · rw [take_more ex]
          intro y hy
          rcases List.mem_append.mp hy with hy | hy
          · exact hin y hy
          · rw [List.mem_singleton.mp hy]; exact hs
    · rintro acc h' ⟨rfl, rfl, hin⟩
      rw [List.length_map, List.take_of_length_le (Nat.le_refl _)] at hin ⊢
      refine ⟨trivial, .inr ?_⟩
      obtain ⟨a, ba, ra, la, p1, p2⟩ := bt_ex _ l (Nat.le_refl _) l0 hin
      have ha : a.h ≤ 18 := by
        by_cases z : a.h ≤ 18
        · exact z
        · have : 2 ^ 19 ≤ 2 ^ a.h := Nat.pow_le_pow_right (by decide) (by omega)
          omega
      walk_at "w"
      refine ⟨built_mk g ba hin ra hl (k + 29) (by omega) mk fun h2 e2 m2 => ?_⟩
      obtain ⟨pa, pb, pf⟩ := pt_form a
      have hlen : h.length < h2.length := by rw [e2.1]; simp
      rw [pf]
      walk_at "w"
      refine ⟨rfl, _, rfl, ?_⟩
      walk_at "w"
      refine ⟨_, m2, _, rfl, ?_⟩
      walk_at "w"
      refine ⟨sz (by simp), ?_⟩
      rw [show (0 : Int) + ((l.length - 1 : Nat) : Int) = ((l.length - 1 : Nat) : Int) by omega]
      have ec : ∃ g, h2 = h ++ g := by
        refine ⟨h2.drop h.length, ?_⟩
        apply List.ext_getElem?
        intro i
        by_cases hi : i < h.length
        · rw [e2.2 i (by simp; omega), List.getElem?_append_left hi, List.getElem?_append_left hi]
        · rw [List.getElem?_append_right (by omega), List.getElem?_drop]; congr 1; omega
      obtain ⟨gg, rfl⟩ := ec
      exact out_pure (rf_tup (bds_cons a.rf (bds_cons rfl bds_nil))) (q a l0 hin ba)
theorem cut_tail {h h2 : MH} {S : List Nat} {x : D} (e : Eqs S (h ++ [x]) h2) (hS : ∀ i ∈ S, h.length ≤ i) : ∃ g, h2 = h ++ g := by
  refine ⟨h2.drop h.length, ?_⟩
  have l := e.1
  rw [List.length_append, List.length_singleton] at l
  apply List.ext_getElem?
  intro i
  by_cases hi : i < h.length
  · rw [e.2 i (fun z => by have := hS i z; omega), List.getElem?_append_left hi, List.getElem?_append_left hi]
  · rw [List.getElem?_append_right (by omega), List.getElem?_drop]; congr 1; omega
theorem joined_pr {t : Tb} (g : t.Good) {l r y : T} {d m : Nat} {h : MH} {X : DXc} {Q : DK} (j : Jn t l r y d) (hl : l.Rt t) (hr : r.Rt t) (hm : l.h + r.h + 10 ≤ m) (q : Q (.tup false [y.d, .int (d : Int)]) h) : F m i_joined [t.d, l.d, r.d] h X Q := by
  obtain ⟨k, rfl⟩ : ∃ k, m = k + 10 := ⟨m - 10, by omega⟩
  refine ⟨rfl, ?_⟩
  walk_at "w"
  refine ⟨maker_ok fun mk => ?_⟩
  walk_at "w"
  refine ⟨⟨_, mk⟩, ?_⟩
  walk_at "w"
  refine ⟨part_of_ok l (k + 9) (by omega) ?_⟩
  walk_at "w"
  refine ⟨part_of_ok r (k + 9) (by omega) ?_⟩
  walk_at "w"
  refine ⟨joined_mk g j hl hr (k + 9) (by omega) mk fun h2 e2 m2 => ?_⟩
  obtain ⟨pa, pb, pf⟩ := pt_form y
  rw [pf]
  walk_at "w"
  refine ⟨rfl, _, rfl, ?_⟩
  walk_at "w"
  refine ⟨_, m2, _, rfl, ?_⟩
  walk_at "w"
  refine ⟨sz (by simp), ?_⟩
  rw [show (0 : Int) + (d : Int) = (d : Int) by omega]
  obtain ⟨gg, rfl⟩ := cut_tail e2 (by simp)
  exact out_pure (rf_tup (bds_cons y.rf (bds_cons rfl bds_nil))) q
theorem cut_at_pr {t : Tb} (g : t.Good) {a : T} {p : Int} {m : Nat} {h : MH} {X : DXc} {Q : DK} (ha : a.Rt t) (hm : 3 * a.h + 20 ≤ m) (e : ¬ (0 ≤ p ∧ p ≤ (a.n : Int)) → X ⟨22, none⟩ h) (q : 0 ≤ p → p ≤ (a.n : Int) → ∃ x y d, Ct t a p.toNat x y d ∧ Q (.tup false [oD x, oD y, .int (d : Int)]) h) : F m i_cut_at [t.d, a.d, .int p] h X Q := by
  obtain ⟨k, rfl⟩ : ∃ k, m = k + 20 := ⟨m - 20, by omega⟩
  obtain ⟨la, lb, pl⟩ := pt_form a
  have bad : ¬ (0 ≤ p ∧ p ≤ (a.n : Int)) → OutX h (h ++ [.obj 26 [(5, t.d), (6, .int 0)]]) ⟨22, none⟩ X := fun z => .cut h _ rfl (Nat.le_refl _) (fun i x hx => .inl hx) rfl (e z)
  refine ⟨rfl, ?_⟩
  walk_at "w"
  refine ⟨maker_ok fun mk => ?_⟩
  walk_at "w"
  refine ⟨part_of_ok a (k + 19) (by omega) ?_⟩
  rw [pl]
  walk_at "w"
  refine ⟨fun c0 => ?_, fun c0 => ?_⟩
  · walk_at "w"
    refine ⟨rfl, _, rfl, ?_⟩
    walk_at "w"
    refine ⟨fun c1 => ?_, fun c1 => ?_⟩
    · have c1 : decide (p ≤ (a.n : Int)) = false := by simpa using c1
      exact bad fun z => absurd z.2 (dec_f c1)
    · have c1 : decide (p ≤ (a.n : Int)) = true := by simpa using c1
      obtain ⟨x, y, d, j, q⟩ := q (dec_t c0) (dec_t c1)
      have p0 := dec_t c0
      walk_at "w"
      refine ⟨⟨_, mk⟩, ?_⟩
      walk_at "w"
      rw [← pl, show D.int p = .int ((p.toNat : Nat) : Int) by rw [show ((p.toNat : Nat) : Int) = p by omega]]
      refine ⟨cut_mk g j ha (k + 19) (by omega) mk fun h2 e2 m2 => ?_⟩
      walk_at "w"
      refine ⟨rfl, ?_⟩
      walk_at "w"
      refine ⟨tree_of_ok (k := k + 18) (a := x) ?_⟩
      walk_at "w"
      refine ⟨tree_of_ok (k := k + 18) (a := y) ?_⟩
      walk_at "w"
      refine ⟨_, m2, _, rfl, ?_⟩
      walk_at "w"
      refine ⟨sz (by simp), ?_⟩
      rw [show (0 : Int) + (d : Int) = (d : Int) by omega]
      obtain ⟨gg, rfl⟩ := cut_tail e2 (by simp)
      exact out_pure (rf_tup (bds_cons (rfd_opt x) (bds_cons (rfd_opt y) (bds_cons rfl bds_nil)))) q
  · refine ⟨fun _ => ?_, fun c => (by cases c)⟩
    exact bad fun z => absurd z.1 (dec_f c0)
theorem dl_form (a : T) : (∃ v x, a = .lf v x) ∨ ∃ v l r, a = .nd v l r := by cases a <;> simp
theorem leaves_of_ok {k : Nat} {a : T} {h : MH} {X : DXc} {Q : DK} (hz : a.n ≤ 1000000) (q : Q (.lst (a.fl.map T.d)) h) : F (k + 2) i_leaves_of [a.d] h X Q := by
  refine ⟨rfl, ?_⟩
  walk_at "w"
  refine ⟨sz (by simp), .inl ?_⟩
  walk_at "w"
  refine ⟨sz (by simp), .inl ?_⟩
  rw [show (h ++ [D.lst []]).length = h.length + 1 by simp]
  have szn := a.sz_n
  refine ⟨fun m δ h' => ∃ (ws fs : List T) (c : Option D), δ = [some a.d, some (.ref h.length), some (.ref (h.length + 1)), c] ∧ h' = h ++ [.lst (fs.map T.d), .lst (ws.map T.d)] ∧ m = (ws.map T.sz).sum ∧ m ≤ a.sz ∧ fs ++ (ws.reverse.map T.fl).flatten = a.fl, ⟨a.sz, [a], [], _, rfl, by simp, by simp, Nat.le_refl _, by simp⟩, ?_⟩
  rintro m δ h' ⟨ws, fs, c, rfl, rfl, rfl, hm, hf⟩
  have a0 : (h ++ [D.lst (fs.map T.d), .lst (ws.map T.d)])[h.length]? = some (.lst (fs.map T.d)) := by
    rw [List.getElem?_append_right (Nat.le_refl _), Nat.sub_self]; rfl
  have a1 : (h ++ [D.lst (fs.map T.d), .lst (ws.map T.d)])[h.length + 1]? = some (.lst (ws.map T.d)) := at_new2
  have fl_le : fs.length ≤ a.n := by
    have := congrArg List.length hf
    rw [T.fl_len, List.length_append] at this
    omega
  have wl : ∀ ws : List T, ws.length ≤ (ws.map T.sz).sum := fun ws => by
    induction ws with
    | nil => simp
    | cons b r ih => have := b.sz_pos; simp only [List.map_cons, List.sum_cons, List.length_cons]; omega
  have wl0 := wl ws
  walk_at "w"
  refine ⟨_, a1, ?_⟩
  walk_at "w"
  rw [List.length_map]
  refine ⟨fun c => ?_, fun c => ?_⟩
  · have c := dec_t c
    obtain ⟨b, r, rfl⟩ : ∃ b r, ws = r ++ [b] := by
      have hne : ws ≠ [] := fun z => by subst z; simp at c
      exact ⟨ws.getLast hne, ws.dropLast, (List.dropLast_concat_getLast hne).symm⟩
    have es : ((r ++ [b]).map T.sz).sum = (r.map T.sz).sum + b.sz := by simp
    have er : ((r ++ [b]).reverse.map T.fl).flatten = b.fl ++ (r.reverse.map T.fl).flatten := by simp
    rw [er] at hf
    refine ⟨fun δ' h' => ∃ m', m' < ((r ++ [b]).map T.sz).sum ∧ ∃ (ws fs : List T) (c : Option D), δ' = [some a.d, some (.ref h.length), some (.ref (h.length + 1)), c] ∧ h' = h ++ [.lst (fs.map T.d), .lst (ws.map T.d)] ∧ m' = (ws.map T.sz).sum ∧ m' ≤ a.sz ∧ fs ++ (ws.reverse.map T.fl).flatten = a.fl, fun _ _ z => z, ?_⟩
    walk_at "w"
    refine ⟨⟨_, a1⟩, ?_⟩
    walk_at "w"
    refine ⟨_, b.d, a1, ?_, fun h1 e1 => ?_⟩
    · rw [List.map_append, List.length_append]; simp
    have e1' : h1 = h ++ [.lst (fs.map T.d), .lst (r.map T.d)] := by
      rw [e1, List.map_append, show (List.map T.d r ++ List.map T.d [b]).dropLast = r.map T.d by simp, List.set_append_right _ _ (by omega)]
      simp
    subst e1'
    have b0 : (h ++ [D.lst (fs.map T.d), .lst (r.map T.d)])[h.length]? = some (.lst (fs.map T.d)) := by
      rw [List.getElem?_append_right (Nat.le_refl _), Nat.sub_self]; rfl
    have b1 : (h ++ [D.lst (fs.map T.d), .lst (r.map T.d)])[h.length + 1]? = some (.lst (r.map T.d)) := at_new2
    have bp := b.sz_pos
    walk_at "w"
    cases b with
    | lf v x =>
      refine ⟨is_leaf_lf ?_⟩
      walk_at "w"
      refine ⟨fun _ => ?_, fun c => by cases c⟩
      walk_at "w"
      refine ⟨⟨_, b0⟩, ?_⟩
      walk_at "w"
      refine ⟨_, b0, szl (by rw [List.length_map]; omega), fun h2 e2 => ?_⟩
      refine ⟨_, ?_, r, fs ++ [.lf v x], _, rfl, ?_, rfl, by omega, ?_⟩
      · rw [es]; omega
      · rw [e2, List.set_append_right _ _ (Nat.le_refl _), List.map_append]; simp
      · rw [List.append_assoc]; exact hf
    | nd v l s =>
      have eb : (T.nd v l s).sz = 1 + l.sz + s.sz := rfl
      refine ⟨is_leaf_nd ?_⟩
      walk_at "w"
      refine ⟨fun c => (by cases c), fun _ => ?_⟩
      walk_at "w"
      refine ⟨⟨_, b1⟩, ?_⟩
      walk_at "s"
      refine ⟨sz (by simp), .inr ?_⟩
      have rl : r.length + 1 ≤ a.sz := by
        have := wl r
        omega
      walk_at "w"
      refine ⟨_, b1, sz (by rw [List.length_map]; simp; omega), fun h2 e2 => ?_⟩
      refine ⟨(r.map T.sz).sum + s.sz + l.sz, ?_, r ++ [s, l], fs, _, rfl, ?_, by simp; omega, by omega, ?_⟩
      · rw [es]; omega
      · rw [e2, List.set_append_right _ _ (by omega), List.map_append]; simp
      · rw [← hf]; simp [T.fl]
  · have c := dec_f c
    obtain rfl : ws = [] := List.eq_nil_of_length_eq_zero (by omega)
    simp only [List.reverse_nil, List.map_nil, List.flatten_nil, List.append_nil] at hf
    subst hf
    walk_at "w"
    refine .cut h [.lst (a.fl.map T.d), .lst []] (.lst (a.fl.map T.d)) rfl (Nat.le_refl _) (fun i x hx => .inl hx) (.rlst (Nat.le_refl _) (by rw [List.getElem?_append_right (Nat.le_refl _), Nat.sub_self]; rfl) (vws_id (bds_map fun b _ => b.rf))) q
theorem judge_part_ok {t : Tb} (g : t.Good) : ∀ (a : T) (m : Nat) {h : MH} {X : DXc} {Q : DK}, a.h + 3 ≤ m → (¬ a.Rt t → X ⟨25, none⟩ h) → (a.Rt t → Q (.int (a.h : Nat)) h) → F m i_judge_part [t.d, a.d] h X Q
  | .lf v x, m, h, X, Q, hm, e, q => by
    obtain ⟨k, rfl⟩ : ∃ k, m = k + 3 := ⟨m - 3, by omega⟩
    have ir : (T.lf v x).Rt t ↔ x ∈ t.L ∧ v = t.val x := Iff.rfl
    refine ⟨rfl, ?_⟩
    walk_at "w"
    refine ⟨is_leaf_lf ?_⟩
    walk_at "w"
    refine ⟨fun _ => ?_, fun c => by cases c⟩
    walk_at "s"
    refine ⟨rfl, all_strs _, ?_⟩
    rw [any_strs, if_pos rfl]
    walk_at "w"
    refine ⟨fun c => ?_, fun c => ?_⟩
    · simp only [Bool.not_eq_true', decide_eq_false_iff_not] at c
      walk_at "w"
      refine ⟨fun _ => ?_, fun c => by cases c⟩
      exact .keep (e fun z => c z.1)
    · simp only [Bool.not_eq_false', decide_eq_true_eq] at c
      walk_at "s"
      refine ⟨⟨_, rfl⟩, ?_⟩
      walk_at "s"
      obtain ⟨i1, i2⟩ := idxOf_lt c
      refine ⟨t.L, t.L.idxOf x, rfl, i1, i2, ?_⟩
      walk_at "w"
      refine ⟨_, at_nat (by rw [List.getElem?_map, val_at g c]; rfl), ?_⟩
      walk_at "w"
      refine ⟨fun c2 => ?_, fun c2 => ?_⟩
      · have c2 : ¬ v = t.val x := by simpa using c2
        exact .keep (e fun z => c2 z.2)
      · have c2 : v = t.val x := by simpa using c2
        walk_at "w"
        exact .keep (q ⟨c, c2⟩)
  | .nd v l r, m, h, X, Q, hm, e, q => by
    have eh := nd_h (v := v) (l := l) (r := r)
    have ir : (T.nd v l r).Rt t ↔ (l.h ≤ r.h + 1 ∧ r.h ≤ l.h + 1) ∧ l.Rt t ∧ r.Rt t ∧ v = t.mul l.v r.v := Iff.rfl
    obtain ⟨k, rfl⟩ : ∃ k, m = k + 3 := ⟨m - 3, by omega⟩
    refine ⟨rfl, ?_⟩
    walk_at "w"
    refine ⟨is_leaf_nd ?_⟩
    walk_at "w"
    refine ⟨fun c => (by cases c), fun _ => ?_⟩
    walk_at "s"
    refine ⟨judge_part_ok g l (k + 2) (by omega) (fun n => .keep (e fun z => n z.2.1)) fun hl => ?_⟩
    walk_at "s"
    refine ⟨judge_part_ok g r (k + 2) (by omega) (fun n => .keep (e fun z => n z.2.2.1)) fun hr => ?_⟩
    have vl := hl.vr g
    have vr := hr.vr g
    obtain ⟨ls, dl⟩ := d_form l
    obtain ⟨rs, dr⟩ := d_form r
    walk_at "w"
    refine ⟨fun c => ?_, fun c => ?_⟩
    · walk_at "w"
      refine ⟨fun _ => ?_, fun c => by cases c⟩
      have c := dec_t c
      exact .keep (e fun z => by have := z.1; split at c <;> omega)
    · have c := dec_f c
      walk_at "s"
      rw [dl]
      refine ⟨_, atZ0, ?_⟩
      walk_at "s"
      rw [dr]
      refine ⟨_, atZ0, ?_⟩
      walk_at "w"
      refine ⟨times_ok g vl.1 vl.2 vr.1 vr.2 ?_⟩
      walk_at "w"
      refine ⟨fun c2 => ?_, fun c2 => ?_⟩
      · have c2 : ¬ v = t.mul l.v r.v := by simpa using c2
        exact .keep (e fun z => c2 z.2.2.2)
      · have c2 : v = t.mul l.v r.v := by simpa using c2
        walk_at "w"
        have em : (1 : Int) + (if ((r.h : Nat) : Int) > ((l.h : Nat) : Int) then ((r.h : Nat) : Int) else ((l.h : Nat) : Int)) = (((T.nd v l r).h : Nat) : Int) := by
          rw [eh]; split <;> omega
        rw [em]
        refine .keep (q ⟨?_, hl, hr, c2⟩)
        constructor <;> (split at c <;> omega)
theorem judge_tree_ok {t : Tb} (g : t.Good) {b : Bool} {l : List Str} {a : T} {m : Nat} {h : MH} {X : DXc} {Q : DK} (hm : a.h + 5 ≤ m) (hz : a.n ≤ 1000000) (h1 : ∀ x ∈ l, PyData.strOk x = true) (h2 : ∀ x ∈ a.ls, PyData.strOk x = true)
    (e : ¬ (a.ls = l ∧ a.Rt t) → X ⟨25, none⟩ h) (q : a.ls = l → a.Rt t → Q .non h) : F m i_judge_tree [t.d, .tup b (l.map .str), a.d] h X Q := by
  obtain ⟨k, rfl⟩ : ∃ k, m = k + 5 := ⟨m - 5, by omega⟩
  refine ⟨rfl, ?_⟩
  walk_at "w"
  refine ⟨leaves_of_ok (k := k + 2) hz ?_⟩
  walk_at "w"
  refine lc_map (f := fun b => .str b.x) (by rw [T.fl_len]; omega) trivial (fun b hb K z => ?_) (.inr ?_)
  · obtain ⟨v, x, rfl⟩ := a.fl_lf b hb
    walk_at "w"
    exact ⟨_, rfl, z⟩
  · have ex : (a.fl.map fun b => D.str b.x) = a.ls.map D.str := by rw [← a.fl_ls, List.map_map]; rfl
    rw [ex]
    walk_at "w"
    refine .inr ?_
    walk_at "w"
    refine ⟨_, _, .lst (dps_s _), .lst (dps_s _), shape_strL _ h2, shape_strL _ h1, ?_⟩
    have ev : PyData.eqv (.list (a.ls.map .str)) (.list (l.map .str)) = decide (a.ls = l) := by rw [PyData.eqv, eqv_strs]
    rw [ev]
    walk_at "w"
    refine ⟨fun c => ?_, fun c => ?_⟩
    · have c : ¬ a.ls = l := by simpa using c
      exact .keep (e fun z => c z.1)
    · have c : a.ls = l := by simpa using c
      walk_at "w"
      exact ⟨judge_part_ok g a (k + 4) (by omega) (fun n => .keep (e fun z => n z.2)) fun ha => .keep (q c ha)⟩
theorem law_height_ok : ∀ (a : T) (m : Nat) {h : MH} {X : DXc} {Q : DK}, a.h + 1 ≤ m → Q (.int (a.h : Nat)) h → F m i_law_height [a.d] h X Q
  | .lf v x, m, h, X, Q, hm, q => by
    obtain ⟨k, rfl⟩ : ∃ k, m = k + 1 := ⟨m - 1, by omega⟩
    refine ⟨rfl, ?_⟩
    walk_at "w"
    refine ⟨fun _ => ?_, fun c => by cases c⟩
    exact .keep q
  | .nd v l r, m, h, X, Q, hm, q => by
    have e := nd_h (v := v) (l := l) (r := r)
    obtain ⟨k, rfl⟩ : ∃ k, m = k + 1 := ⟨m - 1, by omega⟩
    refine ⟨rfl, ?_⟩
    walk_at "w"
    refine ⟨fun c => (by cases c), fun _ => ?_⟩
    walk_at "s"
    refine ⟨law_height_ok l k (by omega) ?_⟩
    walk_at "s"
    refine ⟨law_height_ok r k (by omega) ?_⟩
    walk_at "w"
    have em : (1 : Int) + (if ((r.h : Nat) : Int) > ((l.h : Nat) : Int) then ((r.h : Nat) : Int) else ((l.h : Nat) : Int)) = (((T.nd v l r).h : Nat) : Int) := by
      rw [e]; split <;> omega
    rw [em]
    exact .keep q
theorem law_many_ok : ∀ (a : T) (m : Nat) {h : MH} {X : DXc} {Q : DK}, a.h + 1 ≤ m → Q (.int (a.n : Nat)) h → F m i_law_many [a.d] h X Q
  | .lf v x, m, h, X, Q, hm, q => by
    obtain ⟨k, rfl⟩ : ∃ k, m = k + 1 := ⟨m - 1, by omega⟩
    refine ⟨rfl, ?_⟩
    walk_at "w"
    refine ⟨fun _ => ?_, fun c => by cases c⟩
    exact .keep q
  | .nd v l r, m, h, X, Q, hm, q => by
    have e := nd_h (v := v) (l := l) (r := r)
    obtain ⟨k, rfl⟩ : ∃ k, m = k + 1 := ⟨m - 1, by omega⟩
    refine ⟨rfl, ?_⟩
    walk_at "w"
    refine ⟨fun c => (by cases c), fun _ => ?_⟩
    walk_at "s"
    refine ⟨law_many_ok l k (by omega) ?_⟩
    walk_at "s"
    refine ⟨law_many_ok r k (by omega) ?_⟩
    walk_at "w"
    have em : ((l.n : Nat) : Int) + ((r.n : Nat) : Int) = (((T.nd v l r).n : Nat) : Int) := by
      show _ = ((l.n + r.n : Nat) : Int)
      omega
    rw [em]
    exact .keep q
theorem law_leaf_ok {k : Nat} {t : Tb} {x : Str} {h : MH} {X : DXc} {Q : DK} (g : t.Good) (c : x ∈ t.L) (q : Q (lfT t x).d h) : F (k + 1) i_law_leaf [t.d, .str x] h X Q := by
  refine ⟨rfl, ?_⟩
  walk_at "s"
  refine ⟨⟨_, rfl⟩, ?_⟩
  walk_at "w"
  obtain ⟨i1, i2⟩ := idxOf_lt c
  refine ⟨t.L, t.L.idxOf x, rfl, i1, i2, ?_⟩
  walk_at "w"
  refine ⟨_, at_nat (by rw [List.getElem?_map, val_at g c]; rfl), ?_⟩
  walk_at "w"
  refine ⟨sz (by simp), ?_⟩
  exact .keep q
def CtD (h : MH) (i : Nat) (z : Int) : Prop := h[i]? = some (.lst [.int z])
theorem CtD.rfs {h : MH} {i : Nat} {c : Int} (m : CtD h i c) : Rfs [i] h := Rfs.one m rfl
theorem law_node_ok {k i : Nat} {t : Tb} {c : Int} {l r : T} {h : MH} {X : DXc} {Q : DK} (g : t.Good) (m : CtD h i c) (vl : Vr t l) (vr : Vr t r) (q : ∀ h', Eqs [i] h h' → CtD h' i (c + 1) → Q (mkT t l r).d h') : F (k + 1) i_law_node [t.d, l.d, r.d, .ref i] h X Q := by
  obtain ⟨ls, dl⟩ := d_form l
  obtain ⟨rs, dr⟩ := d_form r
  have hm := at_lt m
  obtain ⟨row, e1, e2, _⟩ := mul_at g vl.1 vl.2 vr.1 vr.2
  refine ⟨rfl, ?_⟩
  walk_at "w"
  refine ⟨_, m, _, atZ0, ?_⟩
  walk_at "w"
  refine ⟨_, 0, m, rfl, fun h1 e1 => ?_⟩
  have m1 : CtD h1 i (c + 1) := by rw [e1]; exact at_set hm
  have eq1 : Eqs [i] h h1 := by rw [e1]; exact (Eqs.refl _ _).set (by simp)
  clear e1
  rw [dl, dr]
  walk_at "s"
  refine ⟨_, atZ0, ?_⟩
  walk_at "w"
  refine ⟨_, atI_map vl.1 e1, ?_⟩
  walk_at "w"
  refine ⟨_, atZ0, ?_⟩
  walk_at "w"
  refine ⟨_, atI_map vr.1 e2, ?_⟩
  walk_at "w"
  refine ⟨sz (by simp), ?_⟩
  rw [← dl, ← dr]
  exact .keep (q h1 eq1 m1)
theorem law_made_of_ok {t : Tb} (g : t.Good) {i : Nat} {l : List Str} {a : T} {c : Nat} (b : Bt t l a c) (hL : ∀ x ∈ l, x ∈ t.L) (ha : a.Rt t) (hl : l.length ≤ 100000) : ∀ (m : Nat) {z : Int} {h : MH} {X : DXc} {Q : DK}, a.h + 3 ≤ m → CtD h i z → (∀ h', Eqs [i] h h' → CtD h' i (z + c) → Q a.d h') → F m i_law_made_of [t.d, .lst (l.map fun x => (lfT t x).d), .ref i] h X Q := by
  induction b with
  | @o x =>
    intro m z h X Q hm mk q
    obtain ⟨k, rfl⟩ : ∃ k, m = k + 3 := ⟨m - 3, by omega⟩
    refine ⟨rfl, ?_⟩
    walk_at "w"
    refine ⟨fun _ => ?_, fun c => by cases c⟩
    walk_at "s"
    refine .keep (q h (Eqs.refl _ _) ?_)
    rw [show z + ((0 : Nat) : Int) = z by omega]
    exact mk
  | @m l a b c d h2 ba bb ia ib =>
    intro m z h X Q hm mk q
    have e := mkT_h (t := t) (l := a) (r := b)
    obtain ⟨⟨b1, b2⟩, ra, rb, _⟩ := ha
    obtain ⟨k, rfl⟩ : ∃ k, m = k + 3 := ⟨m - 3, by omega⟩
    refine ⟨rfl, ?_⟩
    walk_at "w"
    rw [List.length_map]
    refine ⟨fun c => absurd (dec_t c) (by omega), fun _ => ?_⟩
    walk_at "w"
    rw [List.length_map]
    refine ⟨⟨by decide, by decide⟩, ?_⟩
    have eh : ((l.length : Int) + 1) / 2 = (((l.length + 1) / 2 : Nat) : Int) := by omega
    walk_at "w"
    refine .inr ?_
    rw [eh, cut_to, ← List.map_take]
    walk_at "w"
    refine ⟨ia (fun x hx => hL x (List.mem_of_mem_take hx)) ra (by rw [List.length_take]; omega) (k + 2) (by omega) mk fun h1 e1 mk1 => ?_⟩
    walk_at "w"
    refine .inr ?_
    rw [cut_from, ← List.map_drop]
    walk_at "w"
    refine ⟨ib (fun x hx => hL x (List.mem_of_mem_drop hx)) rb (by rw [List.length_drop]; omega) (k + 2) (by omega) mk1 fun h2 e2 mk2 => ?_⟩
    walk_at "w"
    refine ⟨law_node_ok g mk2 (ra.vr g) (rb.vr g) fun h3 e3 mk3 => .keep (q h3 ((e1.trans e2).trans e3) ?_)⟩
    have ez : z + ((c + d + 1 : Nat) : Int) = z + c + d + 1 := by omega
    rw [ez]
    exact mk3
theorem ordered_t {k i : Nat} {t : Tb} {c : Int} {l r : T} {h : MH} {X : DXc} {Q : DK} (g : t.Good) (m : CtD h i c) (vl : Vr t l) (vr : Vr t r) (q : ∀ h', Eqs [i] h h' → CtD h' i (c + 1) → Q (mkT t l r).d h') : F (k + 2) i_law_ordered [t.d, l.d, r.d, .bl true, .ref i] h X Q := by
  refine ⟨rfl, ?_⟩
  walk_at "w"
  refine ⟨fun _ => ?_, fun c => by cases c⟩
  walk_at "w"
  exact ⟨law_node_ok g m vl vr fun h1 e1 m1 => .keep (q h1 e1 m1)⟩
theorem ordered_f {k i : Nat} {t : Tb} {c : Int} {l r : T} {h : MH} {X : DXc} {Q : DK} (g : t.Good) (m : CtD h i c) (vl : Vr t l) (vr : Vr t r) (q : ∀ h', Eqs [i] h h' → CtD h' i (c + 1) → Q (mkT t r l).d h') : F (k + 2) i_law_ordered [t.d, l.d, r.d, .bl false, .ref i] h X Q := by
  refine ⟨rfl, ?_⟩
  walk_at "w"
  refine ⟨fun c => (by cases c), fun _ => ?_⟩
  walk_at "w"
  exact ⟨law_node_ok g m vr vl fun h1 e1 m1 => .keep (q h1 e1 m1)⟩
theorem beside_t {i : Nat} {t : Tb} {c : Int} {l r y : T} {d : Nat} {h : MH} {X : DXc} {Q : DK} (g : t.Good) (m : CtD h i c) (hl : l.Rt t) (hr : r.Rt t) (j : Rgt t l r y d) (n : Nat) (hn : l.h + r.h + 3 ≤ n) (q : ∀ h', Eqs [i] h h' → CtD h' i (c + d) → Q y.d h') : F n i_law_beside [t.d, l.d, r.d, .bl true, .ref i] h X Q := by
  obtain ⟨k, rfl⟩ : ∃ k, n = k + 3 := ⟨n - 3, by omega⟩
  have vl := hl.vr g
  cases j with
  | a c1 =>
    refine ⟨rfl, ?_⟩
    walk_at "w"
    refine ⟨law_height_ok r (k + 2) (by omega) ?_⟩
    walk_at "w"
    refine ⟨law_height_ok l (k + 2) (by omega) ?_⟩
    walk_at "w"
    refine ⟨fun _ => ?_, fun z => absurd (dec_f z) (by omega)⟩
    walk_at "w"
    exact ⟨ordered_t g m vl (hr.vr g) fun h1 e1 m1 => .keep (q h1 e1 m1)⟩
  | @b f s v c1 c2 =>
    obtain ⟨_, hf, hs, _⟩ := hr
    have e := nd_h (v := v) (l := f) (r := s)
    refine ⟨rfl, ?_⟩
    walk_at "w"
    refine ⟨law_height_ok (.nd v f s) (k + 2) (by omega) ?_⟩
    walk_at "w"
    refine ⟨law_height_ok l (k + 2) (by omega) ?_⟩
    walk_at "w"
    refine ⟨fun z => absurd (dec_t z) (by omega), fun _ => ?_⟩
    walk_at "s"
    refine ⟨fun c => (by cases c), fun _ => ?_⟩
    walk_at "s"
    refine ⟨law_height_ok f (k + 2) (by omega) ?_⟩
    walk_at "s"
    refine ⟨law_height_ok s (k + 2) (by omega) ?_⟩
    walk_at "w"
    refine ⟨fun _ => ?_, fun z => absurd (dec_f z) (by omega)⟩
    walk_at "w"
    refine ⟨ordered_t g m vl (hf.vr g) fun h1 e1 m1 => ?_⟩
    walk_at "w"
    refine ⟨ordered_t g m1 (mkT_vr g vl (hf.vr g)) (hs.vr g) fun h2 e2 m2 => .keep (q h2 (e1.trans e2) ?_)⟩
    rw [show c + ((2 : Nat) : Int) = c + 1 + 1 by omega]
    exact m2
  | @c p q' s v w c1 c2 =>
    obtain ⟨_, ⟨_, hp, hq, _⟩, hs, _⟩ := hr
    have e := nd_h (v := v) (l := .nd w p q') (r := s)
    refine ⟨rfl, ?_⟩
    walk_at "w"
    refine ⟨law_height_ok (.nd v (.nd w p q') s) (k + 2) (by omega) ?_⟩
    walk_at "w"
    refine ⟨law_height_ok l (k + 2) (by omega) ?_⟩
    walk_at "w"
    refine ⟨fun z => absurd (dec_t z) (by omega), fun _ => ?_⟩
    walk_at "s"
    refine ⟨fun c => (by cases c), fun _ => ?_⟩
    walk_at "s"
    refine ⟨law_height_ok (.nd w p q') (k + 2) (by omega) ?_⟩
    walk_at "s"
    refine ⟨law_height_ok s (k + 2) (by omega) ?_⟩
    walk_at "w"
    refine ⟨fun z => absurd (dec_t z) (by omega), fun _ => ?_⟩
    walk_at "s"
    refine ⟨fun c => (by cases c), fun _ => ?_⟩
    walk_at "s"
    refine ⟨ordered_t g m vl (hp.vr g) fun h1 e1 m1 => ?_⟩
    walk_at "w"
    refine ⟨ordered_t g m1 (hq.vr g) (hs.vr g) fun h2 e2 m2 => ?_⟩
    walk_at "w"
    refine ⟨ordered_t g m2 (mkT_vr g vl (hp.vr g)) (mkT_vr g (hq.vr g) (hs.vr g)) fun h3 e3 m3 => .keep (q h3 ((e1.trans e2).trans e3) ?_)⟩
    rw [show c + ((3 : Nat) : Int) = c + 1 + 1 + 1 by omega]
    exact m3
theorem beside_f {i : Nat} {t : Tb} {c : Int} {l r y : T} {d : Nat} {h : MH} {X : DXc} {Q : DK} (g : t.Good) (m : CtD h i c) (hl : l.Rt t) (hr : r.Rt t) (j : Lft t l r y d) (n : Nat) (hn : l.h + r.h + 3 ≤ n) (q : ∀ h', Eqs [i] h h' → CtD h' i (c + d) → Q y.d h') : F n i_law_beside [t.d, r.d, l.d, .bl false, .ref i] h X Q := by
  obtain ⟨k, rfl⟩ : ∃ k, n = k + 3 := ⟨n - 3, by omega⟩
  have vr := hr.vr g
  cases j with
  | a c1 =>
    refine ⟨rfl, ?_⟩
    walk_at "w"
    refine ⟨law_height_ok l (k + 2) (by omega) ?_⟩
    walk_at "w"
    refine ⟨law_height_ok r (k + 2) (by omega) ?_⟩
    walk_at "w"
    refine ⟨fun _ => ?_, fun z => absurd (dec_f z) (by omega)⟩
    walk_at "w"
    exact ⟨ordered_f g m vr (hl.vr g) fun h1 e1 m1 => .keep (q h1 e1 m1)⟩
  | @b _ f s v c1 c2 =>
    obtain ⟨_, hf, hs, _⟩ := hl
    have e := nd_h (v := v) (l := f) (r := s)
    refine ⟨rfl, ?_⟩
    walk_at "w"
    refine ⟨law_height_ok (.nd v f s) (k + 2) (by omega) ?_⟩
    walk_at "w"
    refine ⟨law_height_ok r (k + 2) (by omega) ?_⟩
    walk_at "w"
    refine ⟨fun z => absurd (dec_t z) (by omega), fun _ => ?_⟩
    walk_at "s"
    refine ⟨fun _ => ?_, fun c => by cases c⟩
    walk_at "s"
    refine ⟨law_height_ok s (k + 2) (by omega) ?_⟩
    walk_at "s"
    refine ⟨law_height_ok f (k + 2) (by omega) ?_⟩
    walk_at "w"
    refine ⟨fun _ => ?_, fun z => absurd (dec_f z) (by omega)⟩
    walk_at "w"
    refine ⟨ordered_f g m vr (hs.vr g) fun h1 e1 m1 => ?_⟩
    walk_at "w"
    refine ⟨ordered_f g m1 (mkT_vr g (hs.vr g) vr) (hf.vr g) fun h2 e2 m2 => .keep (q h2 (e1.trans e2) ?_)⟩
    rw [show c + ((2 : Nat) : Int) = c + 1 + 1 by omega]
    exact m2
  | @c _ f p q' v w c1 c2 =>
    obtain ⟨_, hf, ⟨_, hp, hq, _⟩, _⟩ := hl
    have e := nd_h (v := v) (l := f) (r := .nd w p q')
    refine ⟨rfl, ?_⟩
    walk_at "w"
    refine ⟨law_height_ok (.nd v f (.nd w p q')) (k + 2) (by omega) ?_⟩
    walk_at "w"
    refine ⟨law_height_ok r (k + 2) (by omega) ?_⟩
    walk_at "w"
    refine ⟨fun z => absurd (dec_t z) (by omega), fun _ => ?_⟩
    walk_at "s"
    refine ⟨fun _ => ?_, fun c => by cases c⟩
    walk_at "s"
    refine ⟨law_height_ok (.nd w p q') (k + 2) (by omega) ?_⟩
    walk_at "s"
    refine ⟨law_height_ok f (k + 2) (by omega) ?_⟩
    walk_at "w"
    refine ⟨fun z => absurd (dec_t z) (by omega), fun _ => ?_⟩
    walk_at "s"
    refine ⟨fun _ => ?_, fun c => by cases c⟩
    walk_at "s"
    refine ⟨ordered_f g m vr (hq.vr g) fun h1 e1 m1 => ?_⟩
    walk_at "w"
    refine ⟨ordered_f g m1 (hp.vr g) (hf.vr g) fun h2 e2 m2 => ?_⟩
    walk_at "w"
    refine ⟨ordered_f g m2 (mkT_vr g (hq.vr g) vr) (mkT_vr g (hf.vr g) (hp.vr g)) fun h3 e3 m3 => .keep (q h3 ((e1.trans e2).trans e3) ?_)⟩
    rw [show c + ((3 : Nat) : Int) = c + 1 + 1 + 1 by omega]
    exact m3
theorem law_join_jn {t : Tb} (g : t.Good) {i : Nat} {l r y : T} {d : Nat} (j : Jn t l r y d) (hl : l.Rt t) (hr : r.Rt t) : ∀ (m : Nat) {z : Int} {h : MH} {X : DXc} {Q : DK}, 2 * (l.h + r.h) + 6 ≤ m → CtD h i z → (∀ h', Eqs [i] h h' → CtD h' i (z + d) → Q y.d h') → F m i_law_join [t.d, l.d, r.d, .ref i] h X Q := by
  induction j with
  | @nr l r c1 c2 =>
    intro m z h X Q hm mk q
    obtain ⟨k, rfl⟩ : ∃ k, m = k + 6 := ⟨m - 6, by omega⟩
    obtain ⟨ls, dl⟩ := d_form l
    obtain ⟨rs, dr⟩ := d_form r
    refine ⟨rfl, ?_⟩
    rw [dl, dr]
    walk_at "w"
    refine ⟨fun c => (by cases c), fun _ => ?_⟩
    walk_at "w"
    refine ⟨fun c => (by cases c), fun _ => ?_⟩
    walk_at "w"
    rw [← dl, ← dr]
    refine ⟨law_height_ok l (k + 5) (by omega) ?_⟩
    walk_at "w"
    refine ⟨law_height_ok r (k + 5) (by omega) ?_⟩
    walk_at "w"
    refine ⟨fun _ => ?_, fun c => absurd (dec_f c) (by split <;> omega)⟩
    walk_at "w"
    exact ⟨law_node_ok g mk (hl.vr g) (hr.vr g) fun h1 e1 m1 => .keep (q h1 e1 m1)⟩
  | @hi a b r x y v c d c1 j1 rx hx j2 ih =>
    intro m z h X Q hm mk q
    have e := nd_h (v := v) (l := a) (r := b)
    obtain ⟨rs, dr⟩ := d_form r
    have hb0 := hl
    obtain ⟨⟨b1, b2⟩, ha, hb, _⟩ := hl
    obtain ⟨k, rfl⟩ : ∃ k, m = k + 6 := ⟨m - 6, by omega⟩
    refine ⟨rfl, ?_⟩
    rw [dr]
    walk_at "w"
    refine ⟨fun c => (by cases c), fun _ => ?_⟩
    walk_at "w"
    refine ⟨fun c => (by cases c), fun _ => ?_⟩
    walk_at "w"
    rw [← dr]
    refine ⟨law_height_ok (.nd v a b) (k + 5) (by omega) ?_⟩
    walk_at "w"
    refine ⟨law_height_ok r (k + 5) (by omega) ?_⟩
    walk_at "w"
    refine ⟨fun c => absurd (dec_t c) (by split <;> omega), fun _ => ?_⟩
    walk_at "w"
    refine ⟨fun _ => ?_, fun c => absurd (dec_f c) (by omega)⟩
    walk_at "s"
    refine ⟨ih hb hr (k + 5) (by omega) mk fun h1 e1 m1 => ?_⟩
    walk_at "w"
    refine ⟨beside_t g m1 ha rx j2 (k + 5) (by omega) fun h2 e2 m2 => .keep (q h2 (e1.trans e2) ?_)⟩
    rw [show z + ((c + d : Nat) : Int) = z + c + d by omega]
    exact m2
  | @lo l a b x y v c d c1 j1 rx hx j2 ih =>
    intro m z h X Q hm mk q
    have e := nd_h (v := v) (l := a) (r := b)
    obtain ⟨ls, dl⟩ := d_form l
    obtain ⟨⟨b1, b2⟩, ha, hb, _⟩ := hr
    obtain ⟨k, rfl⟩ : ∃ k, m = k + 6 := ⟨m - 6, by omega⟩
    refine ⟨rfl, ?_⟩
    rw [dl]
    walk_at "w"
    refine ⟨fun c => (by cases c), fun _ => ?_⟩
    walk_at "w"
    refine ⟨fun c => (by cases c), fun _ => ?_⟩
    walk_at "w"
    rw [← dl]
    refine ⟨law_height_ok l (k + 5) (by omega) ?_⟩
    walk_at "w"
    refine ⟨law_height_ok (.nd v a b) (k + 5) (by omega) ?_⟩
    walk_at "w"
    refine ⟨fun c => absurd (dec_t c) (by split <;> omega), fun _ => ?_⟩
    walk_at "w"
    refine ⟨fun c => absurd (dec_t c) (by omega), fun _ => ?_⟩
    walk_at "s"
    refine ⟨ih hl ha (k + 5) (by omega) mk fun h1 e1 m1 => ?_⟩
    walk_at "w"
    refine ⟨beside_f g m1 rx hb j2 (k + 5) (by omega) fun h2 e2 m2 => .keep (q h2 (e1.trans e2) ?_)⟩
    rw [show z + ((c + d : Nat) : Int) = z + c + d by omega]
    exact m2
theorem law_join_ok {t : Tb} (g : t.Good) {i m : Nat} {l r y : Option T} {d : Nat} {z : Int} {h : MH} {X : DXc} {Q : DK} (j : Jo t l r y d) (hl : oRt t l) (hr : oRt t r) (hm : 2 * (oH l + oH r) + 6 ≤ m) (mk : CtD h i z) (q : ∀ h', Eqs [i] h h' → CtD h' i (z + d) → Q (oD y) h') : F m i_law_join [t.d, oD l, oD r, .ref i] h X Q := by
  have mk0 : CtD h i (z + ((0 : Nat) : Int)) := by rw [show z + ((0 : Nat) : Int) = z by omega]; exact mk
  cases j with
  | l =>
    obtain ⟨k, rfl⟩ : ∃ k, m = k + 6 := ⟨m - 6, by omega⟩
    refine ⟨rfl, ?_⟩
    walk_at "w"
    refine ⟨fun _ => ?_, fun c => by cases c⟩
    walk_at "w"
    refine ⟨fun _ => ?_, fun c => by cases c⟩
    walk_at "w"
    refine ⟨sz (by simp), .inr ?_⟩
    walk_at "w"
    exact ⟨_, atZ1, .keep (q h (Eqs.refl _ _) mk0)⟩
  | @r a =>
    obtain ⟨k, rfl⟩ : ∃ k, m = k + 6 := ⟨m - 6, by omega⟩
    obtain ⟨ls, dl⟩ := d_form a
    have q' := q h (Eqs.refl _ _) mk0
    rw [show oD (some a) = a.d from rfl, dl] at q' ⊢
    refine ⟨rfl, ?_⟩
    walk_at "w"
    refine ⟨fun c => (by cases c), fun _ => ?_⟩
    walk_at "w"
    refine ⟨fun _ => ?_, fun c => by cases c⟩
    walk_at "w"
    refine ⟨sz (by simp), .inr ?_⟩
    walk_at "w"
    exact ⟨_, atZ0, .keep q'⟩
  | @b l r y c j => exact law_join_jn g j hl hr m hm mk q
theorem law_cut_ok {t : Tb} (g : t.Good) {i : Nat} {a : T} {p : Nat} {x y : Option T} {d : Nat} (j : Ct t a p x y d) (ha : a.Rt t) : ∀ (m : Nat) {z : Int} {h : MH} {X : DXc} {Q : DK}, 5 * a.h + 12 ≤ m → CtD h i z → (∀ h', Eqs [i] h h' → CtD h' i (z + d) → Q (.tup false [oD x, oD y]) h') → F m i_law_cut [t.d, a.d, .int (p : Int), .ref i] h X Q := by
  induction j with
  | @z a =>
    intro m z h X Q hm mk q
    obtain ⟨k, rfl⟩ : ∃ k, m = k + 4 := ⟨m - 4, by omega⟩
    have q' := q h (Eqs.refl _ _) (by rw [show z + ((0 : Nat) : Int) = z by omega]; exact mk)
    refine ⟨rfl, ?_⟩
    walk_at "w"
    refine ⟨fun _ => ?_, fun c => by cases c⟩
    walk_at "w"
    exact ⟨sz (by simp), .keep q'⟩
  | @a a =>
    intro m z h X Q hm mk q
    have np := a.n_pos
    obtain ⟨k, rfl⟩ : ∃ k, m = k + 4 := ⟨m - 4, by omega⟩
    have q' := q h (Eqs.refl _ _) (by rw [show z + ((0 : Nat) : Int) = z by omega]; exact mk)
    refine ⟨rfl, ?_⟩
    walk_at "w"
    refine ⟨fun c => absurd (dec_t c) (by omega), fun _ => ?_⟩
    walk_at "w"
    refine ⟨law_many_ok a (k + 3) (by omega) ?_⟩
    walk_at "w"
    refine ⟨fun _ => ?_, fun c => absurd rfl (dec_f c)⟩
    walk_at "w"
    exact ⟨sz (by simp), .keep q'⟩
  | @l v l r p c d x y w h0 h1 k1 ry hy j2 ih =>
    intro m z h X Q hm mk q
    have e := nd_h (v := v) (l := l) (r := r)
    obtain ⟨⟨b1, b2⟩, hl, hr, _⟩ := ha
    have en : ((T.nd v l r).n : Nat) = l.n + r.n := rfl
    have rp := r.n_pos
    obtain ⟨k, rfl⟩ : ∃ k, m = k + 4 := ⟨m - 4, by omega⟩
    refine ⟨rfl, ?_⟩
    walk_at "w"
    refine ⟨fun c => absurd (dec_t c) (by omega), fun _ => ?_⟩
    walk_at "w"
    refine ⟨law_many_ok (.nd v l r) (k + 3) (by omega) ?_⟩
    walk_at "w"
    refine ⟨fun c => absurd (dec_t c) (by omega), fun _ => ?_⟩
    walk_at "s"
    refine ⟨law_many_ok l (k + 3) (by omega) ?_⟩
    walk_at "w"
    refine ⟨fun _ => ?_, fun c => absurd (dec_f c) (by omega)⟩
    walk_at "s"
    refine ⟨ih hl (k + 3) (by omega) mk fun h1 e1 m1 => ?_⟩
    walk_at "w"
    refine ⟨rfl, ?_⟩
    walk_at "s"
    refine ⟨law_join_ok g (l := y) (r := some r) j2 ry hr (by show 2 * (oH y + r.h) + 6 ≤ _; omega) m1 fun h2 e2 m2 => ?_⟩
    walk_at "w"
    refine ⟨sz (by simp), .keep (q h2 (e1.trans e2) ?_)⟩
    rw [show z + ((c + d : Nat) : Int) = z + c + d by omega]
    exact m2
  | @r v l r p c d x y w h0 h1 k1 rx hx j2 ih =>
    intro m z h X Q hm mk q
    have e := nd_h (v := v) (l := l) (r := r)
    obtain ⟨⟨b1, b2⟩, hl, hr, _⟩ := ha
    have en : ((T.nd v l r).n : Nat) = l.n + r.n := rfl
    obtain ⟨k, rfl⟩ : ∃ k, m = k + 4 := ⟨m - 4, by omega⟩
    refine ⟨rfl, ?_⟩
    walk_at "w"
    refine ⟨fun c => absurd (dec_t c) (by omega), fun _ => ?_⟩
    walk_at "w"
    refine ⟨law_many_ok (.nd v l r) (k + 3) (by omega) ?_⟩
    walk_at "w"
    refine ⟨fun c => absurd (dec_t c) (by omega), fun _ => ?_⟩
    walk_at "s"
    refine ⟨law_many_ok l (k + 3) (by omega) ?_⟩
    walk_at "w"
    refine ⟨fun c => absurd (dec_t c) (by omega), fun _ => ?_⟩
    walk_at "s"
    rw [show (p : Int) - (l.n : Int) = ((p - l.n : Nat) : Int) by omega]
    refine ⟨ih hr (k + 3) (by omega) mk fun h1 e1 m1 => ?_⟩
    walk_at "w"
    refine ⟨rfl, ?_⟩
    walk_at "s"
    refine ⟨law_join_ok g (l := some l) (r := x) j2 hl rx (by show 2 * (l.h + oH x) + 6 ≤ _; omega) m1 fun h2 e2 m2 => ?_⟩
    walk_at "w"
    refine ⟨sz (by simp), .keep (q h2 (e1.trans e2) ?_)⟩
    rw [show z + ((c + d : Nat) : Int) = z + c + d by omega]
    exact m2
theorem law_leaves_ok : ∀ (a : T) (m : Nat) {h : MH} {X : DXc} {Q : DK}, a.h + 1 ≤ m → a.n ≤ 1000000 → Q (.lst (a.ls.map .str)) h → F m i_law_leaves [a.d] h X Q
  | .lf v x, m, h, X, Q, hm, hn, q => by
    obtain ⟨k, rfl⟩ : ∃ k, m = k + 1 := ⟨m - 1, by omega⟩
    refine ⟨rfl, ?_⟩
    walk_at "w"
    refine ⟨fun _ => ?_, fun c => by cases c⟩
    walk_at "s"
    exact ⟨sz (by simp), .inr (.keep q)⟩
  | .nd v l r, m, h, X, Q, hm, hn, q => by
    have e := nd_h (v := v) (l := l) (r := r)
    have en : ((T.nd v l r).n : Nat) = l.n + r.n := rfl
    have ll := l.n_len
    have rl := r.n_len
    obtain ⟨k, rfl⟩ : ∃ k, m = k + 1 := ⟨m - 1, by omega⟩
    refine ⟨rfl, ?_⟩
    walk_at "w"
    refine ⟨fun c => (by cases c), fun _ => ?_⟩
    walk_at "s"
    refine ⟨law_leaves_ok l k (by omega) (by omega) ?_⟩
    walk_at "s"
    refine ⟨law_leaves_ok r k (by omega) (by omega) ?_⟩
    walk_at "w"
    rw [List.length_map, List.length_map]
    refine ⟨sz (by omega), .inr ?_⟩
    rw [← List.map_append]
    exact .keep q
theorem law_right_ok {t : Tb} (g : t.Good) : ∀ (a : T) (m : Nat) {h : MH} {X : DXc} {Q : DK}, a.h + 2 ≤ m → (∀ b : Bool, (b = true ↔ a.Rt t) → Q (.bl b) h) → F m i_law_right_tree [t.d, a.d] h X Q
  | .lf v x, m, h, X, Q, hm, q => by
    have ir : (T.lf v x).Rt t ↔ x ∈ t.L ∧ v = t.val x := Iff.rfl
    obtain ⟨k, rfl⟩ : ∃ k, m = k + 2 := ⟨m - 2, by omega⟩
    refine ⟨rfl, ?_⟩
    walk_at "w"
    refine ⟨fun _ => ?_, fun c => by cases c⟩
    walk_at "s"
    refine ⟨rfl, all_strs _, ?_⟩
    rw [any_strs, if_neg Bool.false_ne_true]
    walk_at "w"
    refine ⟨fun c => ?_, fun c => ?_⟩
    · have c := dec_t c
      walk_at "s"
      refine ⟨⟨_, rfl⟩, ?_⟩
      walk_at "s"
      obtain ⟨i1, i2⟩ := idxOf_lt c
      refine ⟨t.L, t.L.idxOf x, rfl, i1, i2, ?_⟩
      walk_at "w"
      refine ⟨_, at_nat (by rw [List.getElem?_map, val_at g c]; rfl), ?_⟩
      refine .keep (q _ ?_)
      rw [ir, decide_eq_true_eq]
      exact ⟨fun z => ⟨c, z⟩, fun z => z.2⟩
    · have c := dec_f c
      exact .keep (q _ ⟨fun z => (by cases z), fun z => absurd z.1 c⟩)
  | .nd v l r, m, h, X, Q, hm, q => by
    have eh := nd_h (v := v) (l := l) (r := r)
    have ir : (T.nd v l r).Rt t ↔ (l.h ≤ r.h + 1 ∧ r.h ≤ l.h + 1) ∧ l.Rt t ∧ r.Rt t ∧ v = t.mul l.v r.v := Iff.rfl
    have no : ∀ P : Prop, ¬ (T.nd v l r).Rt t → Out h h (.bl false) Q := fun P z => .keep (q false ⟨fun y => (by cases y), fun y => absurd y z⟩)
    obtain ⟨k, rfl⟩ : ∃ k, m = k + 2 := ⟨m - 2, by omega⟩
    refine ⟨rfl, ?_⟩
    walk_at "w"
    refine ⟨fun c => (by cases c), fun _ => ?_⟩
    walk_at "s"
    refine ⟨law_height_ok l (k + 1) (by omega) ?_⟩
    walk_at "s"
    refine ⟨law_height_ok r (k + 1) (by omega) ?_⟩
    walk_at "w"
    refine ⟨fun c => ?_, fun c => ?_⟩
    · have c := dec_t c
      walk_at "w"
      refine ⟨fun _ => ?_, fun c => by cases c⟩
      exact no True fun z => by have := z.1; split at c <;> omega
    · have c := dec_f c
      walk_at "s"
      refine ⟨law_right_ok g l (k + 1) (by omega) fun b1 i1 => ?_⟩
      cases b1 with
      | false =>
        walk_at "w"
        refine ⟨fun _ => ?_, fun c => by cases c⟩
        walk_at "w"
        refine ⟨fun _ => ?_, fun c => by cases c⟩
        exact no True fun z => by have := i1.mpr z.2.1; cases this
      | true =>
        have hl := i1.mp rfl
        walk_at "w"
        refine ⟨fun c => (by cases c), fun _ => ?_⟩
        walk_at "s"
        refine ⟨law_right_ok g r (k + 1) (by omega) fun b2 i2 => ?_⟩
        cases b2 with
        | false =>
          walk_at "w"
          refine ⟨fun _ => ?_, fun c => by cases c⟩
          exact no True fun z => by have := i2.mpr z.2.2.1; cases this
        | true =>
          have hr := i2.mp rfl
          have vl := hl.vr g
          have vr := hr.vr g
          obtain ⟨ls, dl⟩ := d_form l
          obtain ⟨rs, dr⟩ := d_form r
          obtain ⟨row, e1, e2, _⟩ := mul_at g vl.1 vl.2 vr.1 vr.2
          walk_at "w"
          refine ⟨fun c => (by cases c), fun _ => ?_⟩
          walk_at "s"
          rw [dl]
          refine ⟨_, atZ0, ?_⟩
          walk_at "w"
          refine ⟨_, atI_map vl.1 e1, ?_⟩
          walk_at "s"
          rw [dr]
          refine ⟨_, atZ0, ?_⟩
          walk_at "w"
          refine ⟨_, atI_map vr.1 e2, ?_⟩
          refine .keep (q _ ?_)
          rw [ir, decide_eq_true_eq]
          refine ⟨fun z => ⟨?_, hl, hr, z⟩, fun z => z.2.2.2⟩
          constructor <;> (split at c <;> omega)
theorem strOk_sm {x : Str} (h : Sm x) : PyData.strOk x = true := by
  unfold PyData.strOk
  rw [← Array.all_toList, List.all_eq_true]
  intro c hc
  have := h c hc
  simp only [decide_eq_true_eq]
  omega
theorem shw_fits1 {p : PyData} {n g : Nat} (s : Shw p n g) (hn : n ≤ 1000000) : (PyData.list [p]).shown.length ≤ sizeLine := Shw.fits s hn
theorem law_same_ok {k : Nat} {x y : D} {p : PyData} {n g : Nat} {h : MH} {X : DXc} {Q : DK} (a : DP h x p) (b : DP h y p) (s : Shw p n g) (hn : n ≤ 1000000) (hg : g ≤ 58) (q : Q (.bl true) h) : F (k + 1) i_law_same [x, y] h X Q := by
  have e := Shw.lst (ShwA.cons s (ShwA.nil.le (Nat.le_refl _) (Nat.zero_le _)))
  refine ⟨rfl, ?_⟩
  walk_at "w"
  refine ⟨sz (by simp), .inr ?_⟩
  walk_at "w"
  refine ⟨.list [p], .lst (.cons a .nil), trivial, e.sh, e.nd, Nat.le_trans e.dp (by omega), Shw.fits s hn, ?_⟩
  walk_at "w"
  refine ⟨sz (by simp), .inr ?_⟩
  walk_at "w"
  refine ⟨.list [p], .lst (.cons b .nil), trivial, e.sh, e.nd, Nat.le_trans e.dp (by omega), Shw.fits s hn, ?_⟩
  walk_at "w"
  rw [decide_eq_true rfl]
  exact .keep q
theorem law_log_ok {k st n m : Nat} {t : Tb} {h : MH} {X : DXc} {Q : DK} (g : t.Good) (s : StD h st n) (hb : n + m < bigN) (hm : m ≤ 1000) (q : ∀ (l : List Str) h', l.length = m → (∀ x ∈ l, x ∈ t.L) → Eqs [st] h h' → StD h' st (n + m) → Q (.tup false (l.map .str)) h') : F (k + 2) i_law_log [.ref st, t.d, .int (m : Int)] h X Q := by
  refine ⟨rfl, ?_⟩
  walk_at "w"
  refine ⟨by omega, by omega, ?_⟩
  refine ⟨fun i acc h' => ∃ l : List Str, acc = l.map .str ∧ l.length = i ∧ (∀ x ∈ l, x ∈ t.L) ∧ Eqs [st] h h' ∧ StD h' st (n + i), ⟨[], rfl, rfl, by simp, Eqs.refl _ _, s⟩, ?_, ?_⟩
  · rintro i acc h' x ⟨l, rfl, hl, hin, e, s1⟩ hx
    obtain ⟨hi, rfl⟩ := rngD_get hx
    have lp : 0 < t.L.length := List.length_pos_iff.mpr g.l0
    refine ⟨trivial, ?_⟩
    walk_at "s"
    rw [List.length_map]
    refine ⟨next_ok s1 (by omega) (by omega) fun r h1 r0 r1 e1 s2 => ?_⟩
    have hr : r.toNat < t.L.length := by omega
    walk_at "w"
    refine ⟨_, atI_map r0 (List.getElem?_eq_getElem hr), ?_⟩
    refine ⟨szl (by rw [List.length_map]; omega), l ++ [t.L[r.toNat]], by rw [List.map_append]; rfl, by simp [hl], fun y hy => ?_, e.trans e1, s2⟩
    rcases List.mem_append.mp hy with hy | hy
    · exact hin y hy
    · rw [List.mem_singleton.mp hy]; exact List.getElem_mem hr
  · rintro acc h' ⟨l, rfl, hl, hin, e, s1⟩
    rw [rngD_len] at hl s1
    have em : ((m : Int) - 0).toNat = m := by omega
    refine ⟨trivial, .inr ?_⟩
    walk_at "w"
    exact .keep (q l h' (by omega) hin e (s1.le (by omega)))
theorem told_built {t : Tb} (g : t.Good) {b : Bool} {l : List Str} {x : D} {m : Nat} {h : MH} {X : DXc} {Q : DK} (hl : l.length ≤ 100000) (hm : 31 ≤ m) (e : (l = [] ∨ ∃ x ∈ l, x ∉ t.L) → Q (.str "refused") h)
    (q : ∀ a, l ≠ [] → (∀ x ∈ l, x ∈ t.L) → Bt t l a (l.length - 1) → Q (.tup false [.str "told", .tup false [a.d, .int ((l.length - 1 : Nat) : Int)]]) h) : F m i_law_told [.int 0, t.d, .tup b (l.map .str), x] h X Q := by
  obtain ⟨k, rfl⟩ : ∃ k, m = k + 31 := ⟨m - 31, by omega⟩
  refine ⟨rfl, ?_⟩
  walk_at "w"
  refine ⟨fun _ => ?_, fun c => by cases c⟩
  walk_at "w"
  refine ⟨built_pr (k := 0) g hl (by omega) (fun bad => ?_) fun a l0 hin ba => ?_⟩
  · walk_at "w"
    refine ⟨rfl, rfl, fun ad => ?_⟩
    walk_at "w"
    refine ⟨sz (by simp), .inr ?_⟩
    walk_at "w"
    refine ⟨rfl, _, rfl, ?_⟩
    walk_at "w"
    refine ⟨fun c => (by cases c), fun _ => ?_⟩
    walk_at "w"
    refine ⟨rfl, _, rfl, ?_⟩
    walk_at "w"
    exact ⟨_, atZ0, .keep (e bad)⟩
  · walk_at "w"
    exact ⟨sz (by simp), .keep (q a l0 hin ba)⟩
theorem told_joined {t : Tb} (g : t.Good) {l r y : T} {d m : Nat} {h : MH} {X : DXc} {Q : DK} (j : Jn t l r y d) (hl : l.Rt t) (hr : r.Rt t) (hm : l.h + r.h + 11 ≤ m) (q : Q (.tup false [.str "told", .tup false [y.d, .int (d : Int)]]) h) : F m i_law_told [.int 1, t.d, l.d, r.d] h X Q := by
  obtain ⟨k, rfl⟩ : ∃ k, m = k + 1 := ⟨m - 1, by omega⟩
  refine ⟨rfl, ?_⟩
  walk_at "w"
  refine ⟨fun c => (by cases c), fun _ => ?_⟩
  walk_at "w"
  refine ⟨fun _ => ?_, fun c => by cases c⟩
  walk_at "w"
  refine ⟨joined_pr g j hl hr (by omega) ?_⟩
  walk_at "w"
  exact ⟨sz (by simp), .keep q⟩
theorem told_cut {t : Tb} (g : t.Good) {a : T} {p : Int} {m : Nat} {h : MH} {X : DXc} {Q : DK} (ha : a.Rt t) (hm : 3 * a.h + 21 ≤ m) (e : ¬ (0 ≤ p ∧ p ≤ (a.n : Int)) → Q (.str "refused") h) (q : 0 ≤ p → p ≤ (a.n : Int) → ∃ x y d, Ct t a p.toNat x y d ∧ Q (.tup false [.str "told", .tup false [oD x, oD y, .int (d : Int)]]) h) : F m i_law_told [.int 2, t.d, a.d, .int p] h X Q := by
  obtain ⟨k, rfl⟩ : ∃ k, m = k + 1 := ⟨m - 1, by omega⟩
  refine ⟨rfl, ?_⟩
  walk_at "w"
  refine ⟨fun c => (by cases c), fun _ => ?_⟩
  walk_at "w"
  refine ⟨fun c => (by cases c), fun _ => ?_⟩
  walk_at "w"
  refine ⟨fun _ => ?_, fun c => by cases c⟩
  walk_at "w"
  refine ⟨cut_at_pr g ha (by omega) (fun bad => ?_) fun p0 p1 => ?_⟩
  · walk_at "w"
    refine ⟨rfl, rfl, fun ad => ?_⟩
    walk_at "w"
    refine ⟨sz (by simp), .inr ?_⟩
    walk_at "w"
    refine ⟨rfl, _, rfl, ?_⟩
    walk_at "w"
    refine ⟨fun c => (by cases c), fun _ => ?_⟩
    walk_at "w"
    refine ⟨rfl, _, rfl, ?_⟩
    walk_at "w"
    exact ⟨_, atZ0, .keep (e bad)⟩
  · obtain ⟨x, y, d, j, q⟩ := q p0 p1
    refine ⟨x, y, d, j, ?_⟩
    walk_at "w"
    exact ⟨sz (by simp), .keep q⟩
theorem told_judge {t : Tb} (g : t.Good) {b : Bool} {l : List Str} {a : T} {m : Nat} {h : MH} {X : DXc} {Q : DK} (hm : a.h + 6 ≤ m) (hz : a.n ≤ 1000000) (h1 : ∀ x ∈ l, PyData.strOk x = true) (h2 : ∀ x ∈ a.ls, PyData.strOk x = true)
    (e : ¬ (a.ls = l ∧ a.Rt t) → Q (.str "paper") h) (q : a.ls = l → a.Rt t → Q (.tup false [.str "told", .non]) h) : F m i_law_told [.int 3, t.d, .tup b (l.map .str), a.d] h X Q := by
  obtain ⟨k, rfl⟩ : ∃ k, m = k + 1 := ⟨m - 1, by omega⟩
  refine ⟨rfl, ?_⟩
  walk_at "w"
  refine ⟨fun c => (by cases c), fun _ => ?_⟩
  walk_at "w"
  refine ⟨fun c => (by cases c), fun _ => ?_⟩
  walk_at "w"
  refine ⟨fun c => (by cases c), fun _ => ?_⟩
  walk_at "w"
  refine ⟨judge_tree_ok g (by omega) hz h1 h2 (fun bad => ?_) fun r1 r2 => ?_⟩
  · walk_at "w"
    refine ⟨rfl, rfl, fun ad => ?_⟩
    walk_at "w"
    refine ⟨sz (by simp), .inr ?_⟩
    walk_at "w"
    refine ⟨rfl, _, rfl, ?_⟩
    walk_at "w"
    refine ⟨fun c => (by cases c), fun _ => ?_⟩
    walk_at "w"
    refine ⟨rfl, _, rfl, ?_⟩
    walk_at "w"
    exact ⟨_, atZ0, .keep (e bad)⟩
  · walk_at "w"
    exact ⟨sz (by simp), .keep (q r1 r2)⟩
theorem law_chain_ok {k : Nat} {t : Tb} (g : t.Good) {b : Bool} {l : List Str} {h : MH} {X : DXc} {Q : DK} (hl : l ≠ []) (hin : ∀ x ∈ l, x ∈ t.L) (q : ∀ a : T, a.ls = l.take 12 → a.h ≤ 12 → Q a.d h) : F (k + 2) i_law_chain [t.d, .tup b (l.map .str)] h X Q := by
  obtain ⟨x, r, rfl⟩ : ∃ x r, l = x :: r := by cases l with
    | nil => exact absurd rfl hl
    | cons x r => exact ⟨x, r, rfl⟩
  have hx := hin x (by simp)
  refine ⟨rfl, ?_⟩
  walk_at "w"
  refine ⟨_, atZ0, ?_⟩
  walk_at "w"
  refine ⟨law_leaf_ok g hx ?_⟩
  walk_at "w"
  have ec : cutL ((x :: r).map D.str) (some 1) (some 12) = (r.take 11).map D.str := by
    unfold cutL
    rw [show HT.sIx ((x :: r).map D.str).length 0 (some 1) = 1 by
      rw [show (some (1 : Int)) = some ((1 : Nat) : Int) from rfl, HT.sIx_nat]; simp, show HT.sIx ((x :: r).map D.str).length ((x :: r).map D.str).length (some 12) = min 12 (r.length + 1) by
      rw [show (some (12 : Int)) = some ((12 : Nat) : Int) from rfl, HT.sIx_nat]; simp]
    simp only [List.map_cons, List.drop_one, List.tail_cons, List.map_take]
    rw [List.take_eq_take_iff, List.length_map]
    omega
  rw [ec]
  refine ⟨fun i δ h' => ∃ (a : T) (c : Option D) (g' : MH), δ = [some t.d, some (.tup b ((x :: r).map .str)), some a.d, c] ∧ h' = h ++ g' ∧ a.ls = x :: r.take i ∧ a.h ≤ i ∧ Vr t a, ⟨_, _, [], rfl, by simp, rfl, Nat.le_refl _, val_r g hx⟩, ?_, ?_⟩
  · rintro i δ h' y ⟨a, c, g', rfl, rfl, la, ha, va⟩ hy
    rw [List.getElem?_map] at hy
    cases ez : (r.take 11)[i]? with
    | none => rw [ez] at hy; cases hy
    | some z =>
      rw [ez] at hy
      obtain rfl := Option.some.inj hy
      have hz : z ∈ t.L := hin z (List.mem_cons_of_mem _ (List.mem_of_mem_take (List.mem_of_getElem? ez)))
      have hi : i < 11 := by have := lt_get ez; rw [List.length_take] at this; omega
      rw [List.getElem?_take_of_lt hi] at ez
      refine ⟨trivial, ?_⟩
      walk_at "w"
      refine ⟨law_leaf_ok g hz ?_⟩
      walk_at "w"
      refine ⟨sz (by simp), .inl ?_⟩
      walk_at "w"
      refine ⟨law_node_ok g (c := 0) at_new va (val_r g hz) fun h2 e2 m2 => ?_⟩
      obtain ⟨gg, rfl⟩ := cut_tail e2 (by simp)
      refine ⟨mkT t a (lfT t z), _, _, rfl, List.append_assoc _ _ _, ?_, ?_, mkT_vr g va (val_r g hz)⟩
      · rw [mkT_ls, la, take_more ez]; rfl
      · rw [mkT_h]; show 1 + max a.h 0 ≤ _; omega
  · rintro δ h' ⟨a, c, g', rfl, rfl, la, ha, va⟩
    rw [List.length_map, List.length_take] at ha
    refine ⟨trivial, ?_⟩
    walk_at "w"
    refine out_pure a.rf (q a ?_ (by omega))
    rw [la, List.length_map, List.length_take]
    show x :: _ = x :: r.take 11
    congr 1
    rw [List.take_eq_take_iff]
    omega
theorem three {α : Type} {x y z : α} {i : Int} (h0 : 0 ≤ i) (h3 : i < 3) : atI [x, y, z] i = some x ∨ atI [x, y, z] i = some y ∨ atI [x, y, z] i = some z := by
  have : i = 0 ∨ i = 1 ∨ i = 2 := by omega
  rcases this with rfl | rfl | rfl
  · exact .inl atZ0
  · exact .inr (.inl atZ1)
  · exact .inr (.inr atZ2)
theorem two {α : Type} {x y : α} {i : Int} (h0 : 0 ≤ i) (h3 : i < 2) : atI [x, y] i = some x ∨ atI [x, y] i = some y := by
  have : i = 0 ∨ i = 1 := by omega
  rcases this with rfl | rfl
  · exact .inl atZ0
  · exact .inr atZ1
theorem let_ok {t : Tb} (g : t.Good) {x : Str} (h : x ∈ t.L) : PyData.strOk x = true := strOk_sm (g.wd x h).2.2.1
theorem qq_ok : PyData.strOk ("qq" : Str) = true := by decide +kernel
theorem law_spoilt_ok {t : Tb} (g : t.Good) : ∀ (a : T) (m n : Nat) {s0 : Nat} {h : MH} {X : DXc} {Q : DK}, a.h + 3 ≤ m → a.Rt t → StD h s0 n → n + 8 * (a.h + 1) < bigN → (∀ (y : T) h', y.n ≤ a.n + 1 → y.h ≤ a.h + 1 → (∀ x ∈ y.ls, PyData.strOk x = true) → Eqs [s0] h h' → StD h' s0 (n + 8 * (a.h + 1)) → Q y.d h') → F m i_law_spoilt [.ref s0, t.d, a.d] h X Q
  | .lf v x, m, n, s0, h, X, Q, hm, ha, s, hb, q => by
    have h0 : (T.lf v x).h = 0 := rfl
    rw [h0] at hb
    have np := n_pos g
    have lp : 0 < t.L.length := List.length_pos_iff.mpr g.l0
    have xk := let_ok g ha.1
    obtain ⟨k, rfl⟩ : ∃ k, m = k + 2 := ⟨m - 2, by omega⟩
    refine ⟨rfl, ?_⟩
    walk_at "w"
    refine ⟨next_ok s (by omega) (by omega) fun w h1 w0 w1 e1 s1 => ?_⟩
    walk_at "s"
    rw [List.length_map]
    refine ⟨fun _ => ?_, fun c => by cases c⟩
    walk_at "w"
    refine ⟨next_ok s1 (by omega) np fun r2 h2 r20 r21 e2 s2 => ?_⟩
    walk_at "w"
    refine ⟨sz (by simp), .inr ?_⟩
    walk_at "w"
    refine ⟨next_ok s2 (by omega) (by omega) fun r3 h3 r30 r31 e3 s3 => ?_⟩
    obtain ⟨vv, hv⟩ : ∃ vv : Int, atI [D.int r2, .int (t.Ps.length : Nat), .int (-1)] r3 = some (.int vv) := by
      rcases three (x := D.int r2) (y := .int (t.Ps.length : Nat)) (z := .int (-1)) r30 r31 with e | e | e <;> exact ⟨_, e⟩
    walk_at "w"
    refine ⟨_, hv, ?_⟩
    walk_at "s"
    rw [List.length_map]
    refine ⟨next_ok s3 (by omega) (by omega) fun r4 h4 r40 r41 e4 s4 => ?_⟩
    have hr : r4.toNat < t.L.length := by omega
    walk_at "w"
    refine ⟨_, atI_map r40 (List.getElem?_eq_getElem hr), ?_⟩
    walk_at "w"
    refine ⟨sz (by simp), .inr ?_⟩
    walk_at "w"
    refine ⟨next_ok s4 (by omega) (by omega) fun r5 h5 r50 r51 e5 s5 => ?_⟩
    obtain ⟨zz, hz, zk⟩ : ∃ zz : Str, atI [D.str t.L[r4.toNat], .str (Str.ofString "qq")] r5 = some (.str zz) ∧ PyData.strOk zz = true := by
      rcases two (x := D.str t.L[r4.toNat]) (y := .str (Str.ofString "qq")) r50 r51 with e | e
      · exact ⟨_, e, let_ok g (List.getElem_mem hr)⟩
      · exact ⟨_, e, qq_ok⟩
    walk_at "w"
    refine ⟨_, hz, ?_⟩
    walk_at "s"
    refine ⟨sz (by simp), ?_⟩
    walk_at "s"
    refine ⟨sz (by simp), ?_⟩
    walk_at "s"
    refine ⟨sz (by simp), ?_⟩
    walk_at "w"
    refine ⟨sz (by simp), .inr ?_⟩
    walk_at "w"
    refine ⟨next_ok s5 (by omega) (by omega) fun r6 h6 r60 r61 e6 s6 => ?_⟩
    have ee := ((((e1.trans e2).trans e3).trans e4).trans e5).trans e6
    obtain ⟨y, hy, y1, y2, y3⟩ : ∃ y : T, atI [D.tup false [.int vv, .str x], .tup false [.int v, .str zz], .tup false [.int v, (T.lf v x).d, (T.lf v x).d]] r6 = some y.d ∧ y.n ≤ 2 ∧ y.h ≤ 1 ∧ ∀ x ∈ y.ls, PyData.strOk x = true := by
      rcases three (x := D.tup false [.int vv, .str x]) (y := .tup false [.int v, .str zz]) (z := .tup false [.int v, (T.lf v x).d, (T.lf v x).d]) r60 r61 with e | e | e
      · exact ⟨.lf vv x, e, by simp [T.n], by simp [T.h], by simpa [T.ls] using xk⟩
      · exact ⟨.lf v zz, e, by simp [T.n], by simp [T.h], by simpa [T.ls] using zk⟩
      · exact ⟨.nd v (.lf v x) (.lf v x), e, by simp [T.n], by simp [T.h], by simpa [T.ls] using xk⟩
    walk_at "w"
    exact ⟨_, hy, .keep (q y h6 (by simpa [T.n] using y1) (by simpa [T.h] using y2) y3 ee (s6.le (by omega)))⟩
  | .nd v l r, m, n, s0, h, X, Q, hm, ha, s, hb, q => by
    have eh := nd_h (v := v) (l := l) (r := r)
    have en : ((T.nd v l r).n : Nat) = l.n + r.n := rfl
    have np := n_pos g
    have lk' : ∀ x ∈ l.ls, PyData.strOk x = true := fun x hx => let_ok g (ha.2.1.lss x hx)
    have rk' : ∀ x ∈ r.ls, PyData.strOk x = true := fun x hx => let_ok g (ha.2.2.1.lss x hx)
    have bk' : ∀ x ∈ l.ls ++ r.ls, PyData.strOk x = true := fun x hx => by
      rcases List.mem_append.mp hx with hx | hx
      · exact lk' x hx
      · exact rk' x hx
    have ck' : ∀ x ∈ r.ls ++ l.ls, PyData.strOk x = true := fun x hx => by
      rcases List.mem_append.mp hx with hx | hx
      · exact rk' x hx
      · exact lk' x hx
    obtain ⟨⟨b1, b2⟩, hl, hr, _⟩ := ha
    have vl := hl.vr g
    have vr := hr.vr g
    obtain ⟨k, rfl⟩ : ∃ k, m = k + 2 := ⟨m - 2, by omega⟩
    refine ⟨rfl, ?_⟩
    walk_at "w"
    refine ⟨next_ok s (by omega) (by omega) fun w h1 w0 w1 e1 s1 => ?_⟩
    walk_at "s"
    rw [List.length_map]
    refine ⟨fun c => (by cases c), fun _ => ?_⟩
    walk_at "w"
    refine ⟨fun c0 => ?_, fun c0 => ?_⟩
    · walk_at "w"
      refine ⟨next_ok s1 (by omega) np fun r2 h2 r20 r21 e2 s2 => ?_⟩
      walk_at "w"
      refine ⟨sz (by simp), .inr ?_⟩
      walk_at "w"
      refine ⟨next_ok s2 (by omega) (by omega) fun r3 h3 r30 r31 e3 s3 => ?_⟩
      obtain ⟨vv, hv⟩ : ∃ vv : Int, atI [D.int r2, .int (t.Ps.length : Nat), .int (-1)] r3 = some (.int vv) := by
        rcases three (x := D.int r2) (y := .int (t.Ps.length : Nat)) (z := .int (-1)) r30 r31 with e | e | e <;> exact ⟨_, e⟩
      walk_at "w"
      refine ⟨_, hv, ?_⟩
      walk_at "s"
      refine ⟨sz (by simp), .keep (q (.nd vv l r) h3 (Nat.le_succ _) (Nat.le_succ _) bk' ((e1.trans e2).trans e3) (s3.le (by omega)))⟩
    · walk_at "w"
      refine ⟨fun c1 => ?_, fun c1 => ?_⟩
      · walk_at "s"
        refine ⟨sz (by simp), .keep (q (.nd v r l) h1 (by show r.n + l.n ≤ _; omega) (by rw [nd_h]; omega) ck' e1 (s1.le (by omega)))⟩
      · walk_at "w"
        refine ⟨fun c2 => ?_, fun c2 => ?_⟩
        · walk_at "w"
          refine ⟨next_ok s1 (by omega) (by omega) fun r2 h2 r20 r21 e2 s2 => ?_⟩
          have : r2 = 0 ∨ r2 = 1 := by omega
          rcases this with rfl | rfl
          · walk_at "w"
            exact ⟨l.d, rfl, .keep (q l h2 (by omega) (by omega) lk' (e1.trans e2) (s2.le (by omega)))⟩
          · walk_at "w"
            exact ⟨r.d, rfl, .keep (q r h2 (by omega) (by omega) rk' (e1.trans e2) (s2.le (by omega)))⟩
        · have key : ∀ c3 c4 : Option D, dSeq (dIfS (dTest (dOp oEq (dCallN (F (k + 1) 24) (dCons (dVar 0) (dCons (dC (.int 2)) dNil))) (dC (.int 0)))) (dRet (dTup (dCons (dOp oIxT (dVar 2) (dC (.int 0))) (dCons (dCallN (F (k + 1) 46) (dCons (dVar 0) (dCons (dVar 1) (dCons (dOp oIxT (dVar 2) (dC (.int 1))) dNil)))) (dCons (dOp oIxT (dVar 2) (dC (.int 2))) dNil))))) dNext) (dRet (dTup (dCons (dOp oIxT (dVar 2) (dC (.int 0))) (dCons (dOp oIxT (dVar 2) (dC (.int 1))) (dCons (dCallN (F (k + 1) 46) (dCons (dVar 0) (dCons (dVar 1) (dCons (dOp oIxT (dVar 2) (dC (.int 2))) dNil)))) dNil))))) (fnE h X Q) [some (.ref s0), some t.d, some (T.nd v l r).d, c3, c4, none, none] h1 := by
            intro c3 c4
            walk_at "w"
            refine ⟨next_ok s1 (by omega) (by omega) fun r2 h2 r20 r21 e2 s2 => ?_⟩
            walk_at "w"
            refine ⟨fun c => ?_, fun c => ?_⟩
            · walk_at "s"
              refine ⟨law_spoilt_ok g l (k + 1) (n + 2) (by omega) hl s2 (by omega) fun y h3 y1 y2 y3 e3 s3 => ?_⟩
              walk_at "s"
              refine ⟨sz (by simp), .keep (q (.nd v y r) h3 (by show y.n + r.n ≤ _; omega) (by rw [nd_h]; omega) (fun x hx => ?_) ((e1.trans e2).trans e3) (s3.le (by omega)))⟩
              rcases List.mem_append.mp (show x ∈ y.ls ++ r.ls from hx) with hx | hx
              · exact y3 x hx
              · exact rk' x hx
            · walk_at "s"
              refine ⟨law_spoilt_ok g r (k + 1) (n + 2) (by omega) hr s2 (by omega) fun y h3 y1 y2 y3 e3 s3 => ?_⟩
              walk_at "s"
              refine ⟨sz (by simp), .keep (q (.nd v l y) h3 (by show l.n + y.n ≤ _; omega) (by rw [nd_h]; omega) (fun x hx => ?_) ((e1.trans e2).trans e3) (s3.le (by omega)))⟩
              rcases List.mem_append.mp (show x ∈ l.ls ++ y.ls from hx) with hx | hx
              · exact lk' x hx
              · exact y3 x hx
          walk_at "w"
          refine ⟨fun c3 => ?_, fun c3 => ?_⟩
          · walk_at "s"
            cases l with
            | lf vl' xl =>
              walk_at "w"
              refine ⟨fun c => (by cases c), fun _ => ?_⟩
              exact key _ _
            | nd w' p q' =>
              walk_at "w"
              refine ⟨fun _ => ?_, fun c => by cases c⟩
              obtain ⟨⟨b3, b4⟩, hp, hq, _⟩ := hl
              have vq := hq.vr g
              obtain ⟨qs, dq⟩ := d_form q'
              obtain ⟨rs, dr⟩ := d_form r
              obtain ⟨row, i1, i2, _⟩ := mul_at g vq.1 vq.2 vr.1 vr.2
              have e5 := nd_h (v := w') (l := p) (r := q')
              walk_at "s"
              rw [dq]
              refine ⟨_, atZ0, ?_⟩
              walk_at "w"
              refine ⟨_, atI_map vq.1 i1, ?_⟩
              walk_at "s"
              rw [dr]
              refine ⟨_, atZ0, ?_⟩
              walk_at "w"
              refine ⟨_, atI_map vr.1 i2, ?_⟩
              walk_at "s"
              refine ⟨sz (by simp), ?_⟩
              walk_at "w"
              refine ⟨sz (by simp), ?_⟩
              refine .keep (q (.nd v p (.nd (t.mul q'.v r.v) q' r)) h1 ?_ ?_ ?_ e1 (s1.le (by omega)))
              · show p.n + (q'.n + r.n) ≤ _
                rw [en]; show _ ≤ p.n + q'.n + r.n + 1
                omega
              · rw [nd_h, nd_h]; omega
              · intro x hx
                refine bk' x ?_
                have : x ∈ p.ls ++ (q'.ls ++ r.ls) := hx
                show x ∈ (p.ls ++ q'.ls) ++ r.ls
                rw [List.append_assoc]; exact this
          · walk_at "w"
            refine ⟨fun c => (by cases c), fun _ => ?_⟩
            exact key _ _
theorem cutL_map {α β : Type} (f : α → β) (l : List α) (lo hi : Option Int) : cutL (l.map f) lo hi = (cutL l lo hi).map f := by
  unfold cutL
  rw [List.length_map, List.map_take, List.map_drop]
theorem cutL_mem {α : Type} {l : List α} {lo hi : Option Int} {x : α} (h : x ∈ cutL l lo hi) : x ∈ l := by
  unfold cutL at h
  exact List.mem_of_mem_drop (List.mem_of_mem_take h)
theorem cutL_len {α : Type} (l : List α) (lo hi : Option Int) : (cutL l lo hi).length ≤ l.length := by
  unfold cutL
  rw [List.length_take, List.length_drop]
  omega
def rowD (p : List Str × T) : D := .tup false [.tup false (p.1.map .str), p.2.d]
theorem rowD_rf (p : List Str × T) : rf (rowD p) := rf_tup (bds_cons (rf_tup (bds_strs _)) (bds_cons p.2.rf bds_nil))
def RowOk (H N : Nat) (p : List Str × T) : Prop := (∀ x ∈ p.1, PyData.strOk x = true) ∧ (∀ x ∈ p.2.ls, PyData.strOk x = true) ∧ p.2.h ≤ H ∧ p.2.n ≤ N
theorem paper_sm : Sm (Str.ofString "paper") := sm_of (by decide +kernel)
theorem told_sm' : Sm (Str.ofString "told") := sm_of (by decide +kernel)
theorem told_shw : Shw (.tuple [.str (Str.ofString "told"), .none]) 100 1 := by
  refine Shw.le (Shw.tup (ShwA.cons (Shw.str told_sm') (ShwA.cons Shw.non ShwA.nil))) ?_ (Nat.le_refl _)
  have : (Str.ofString "told").length = 4 := by decide +kernel
  omega
theorem paper_shw : Shw (.str (Str.ofString "paper")) 100 0 := by
  refine Shw.le (Shw.str paper_sm) ?_ (Nat.le_refl _)
  have : (Str.ofString "paper").length = 5 := by decide +kernel
  omega
theorem row_of {rs : List (List Str × T)} {i : Nat} {x : D} (h : (rs.map rowD)[i]? = some x) : ∃ p, rs[i]? = some p ∧ x = rowD p := by
  rw [List.getElem?_map] at h
  cases e : rs[i]? with
  | none => rw [e] at h; cases h
  | some f => rw [e] at h; exact ⟨f, rfl, (Option.some.inj h).symm⟩
theorem law_judged_ok {t : Tb} (g : t.Good) {a : T} {l : List Str} (ha : a.Rt t) (la : a.ls = l) {m n s0 : Nat} {h : MH} {X : DXc} {Q : DK} (hm : a.h + 40 ≤ m) (hz : a.n ≤ 100000) (s : StD h s0 n) (hb : n + 40 * (a.h + 1) < bigN)
    (q : ∀ h', Eqs [s0] h h' → StD h' s0 (n + 40 * (a.h + 1)) → Q (.bl true) h') : F m i_law_judged [.ref s0, t.d, .tup false (l.map .str), a.d] h X Q := by
  obtain ⟨k, rfl⟩ : ∃ k, m = k + 10 := ⟨m - 10, by omega⟩
  have hl : ∀ x ∈ l, x ∈ t.L := fun x hx => ha.lss x (by rw [la]; exact hx)
  have lk' : ∀ x ∈ l, PyData.strOk x = true := fun x hx => let_ok g (hl x hx)
  have ll : l.length = a.n := by rw [← la]; exact a.n_len
  have lz : l.length < 1000000 := by omega
  have l0 : l ≠ [] := fun z => by subst z; have := a.n_pos; simp at ll; omega
  have c1 := cutL_len l none (some (-1))
  have c2 := cutL_len l none (some 1)
  have c3 := cutL_len l none (some 12)
  have spo : ∀ {j : Nat} {h' : MH} {X : DXc} {Q : DK}, StD h' s0 j → j + 8 * (a.h + 1) < bigN → (∀ (y : T) h2, RowOk (a.h + 15) (a.n + 15) (l, y) → Eqs [s0] h' h2 → StD h2 s0 (j + 8 * (a.h + 1)) → Q y.d h2) → F (k + 9) i_law_spoilt [.ref s0, t.d, a.d] h' X Q := fun sj jb q => law_spoilt_ok g a (k + 9) _ (by omega) ha sj jb fun y h2 y1 y2 y3 e2 s2 => q y h2 ⟨lk', y3, by show y.h ≤ _; omega, by show y.n ≤ _; omega⟩ e2 s2
  refine ⟨rfl, ?_⟩
  walk_at "w"
  refine ⟨sz (by simp), ?_⟩
  walk_at "w"
  rw [cutL_map]
  refine ⟨sz (by simp), ?_⟩
  walk_at "w"
  rw [List.length_map]
  refine ⟨sz (by simp; omega), ?_⟩
  walk_at "w"
  refine ⟨sz (by simp), ?_⟩
  walk_at "w"
  rw [cutL_map, List.length_map, List.length_map]
  refine ⟨sz (by omega), ?_⟩
  walk_at "w"
  refine ⟨sz (by simp), ?_⟩
  walk_at "w"
  refine ⟨law_chain_ok (k := k + 7) g l0 hl fun b lb hbh => ?_⟩
  have bn : b.n ≤ 12 := by rw [← b.n_len, lb, List.length_take]; omega
  walk_at "w"
  rw [cutL_map]
  refine ⟨sz (by simp), ?_⟩
  walk_at "w"
  refine ⟨sz (by simp), .inl ?_⟩
  have e0 : [D.tup false [D.tup false (List.map D.str l), a.d], D.tup false [D.tup false (List.map D.str (cutL l none (some (-1))) ++ [D.str (Str.ofString "qq")]), a.d], D.tup false [D.tup false (List.map D.str l ++ List.map D.str (cutL l none (some 1))), a.d], D.tup false [D.tup false (List.map D.str (cutL l none (some 12))), b.d]] = [(l, a), (cutL l none (some (-1)) ++ [Str.ofString "qq"], a), (l ++ cutL l none (some 1), a), (cutL l none (some 12), b)].map rowD := by
    simp only [List.map_cons, List.map_nil, rowD, List.map_append]
  rw [e0]
  have ok0 : ∀ p ∈ [(l, a), (cutL l none (some (-1)) ++ [Str.ofString "qq"], a), (l ++ cutL l none (some 1), a), (cutL l none (some 12), b)], RowOk (a.h + 15) (a.n + 15) p := by
    have ak : ∀ x ∈ a.ls, PyData.strOk x = true := by rw [la]; exact lk'
    have ck : ∀ lo hi, ∀ x ∈ cutL l lo hi, PyData.strOk x = true := fun lo hi x hx => lk' x (cutL_mem hx)
    intro p hp
    simp only [List.mem_cons, List.not_mem_nil, or_false] at hp
    rcases hp with rfl | rfl | rfl | rfl
    · exact ⟨lk', ak, by show a.h ≤ _; omega, by show a.n ≤ _; omega⟩
    · refine ⟨fun x hx => ?_, ak, by show a.h ≤ _; omega, by show a.n ≤ _; omega⟩
      rcases List.mem_append.mp hx with hx | hx
      · exact ck _ _ x hx
      · rw [List.mem_singleton.mp hx]; exact qq_ok
    · refine ⟨fun x hx => ?_, ak, by show a.h ≤ _; omega, by show a.n ≤ _; omega⟩
      rcases List.mem_append.mp hx with hx | hx
      · exact lk' x hx
      · exact ck _ _ x hx
    · exact ⟨ck _ _, fun x hx => lk' x (List.mem_of_mem_take (by rw [lb] at hx; exact hx)), by show b.h ≤ _; omega, by show b.n ≤ _; omega⟩
  generalize hR : [(l, a), (cutL l none (some (-1)) ++ [Str.ofString "qq"], a), (l ++ cutL l none (some 1), a), (cutL l none (some 12), b)] = R at ok0 ⊢
  have lR : R.length = 4 := by rw [← hR]; rfl
  clear e0 hR
  walk_at "w"
  refine ⟨by decide, by decide, ?_⟩
  refine ⟨fun i δ h' => ∃ (rs : List (List Str × T)) (x : Option D) (h1 : MH), δ = [some (.ref s0), some t.d, some (.tup false (l.map .str)), some a.d, some (.ref h.length), x, none, none, none, none] ∧ h' = h1 ++ [.lst (rs.map rowD)] ∧ rs.length = 4 + i ∧ (∀ p ∈ rs, RowOk (a.h + 15) (a.n + 15) p) ∧ Eqs [s0] h h1 ∧ StD h1 s0 (n + 8 * (a.h + 1) * i), ⟨R, none, h, rfl, rfl, lR, ok0, Eqs.refl _ _, s⟩, ?_, ?_⟩
  · rintro i δ h' x ⟨rs, x0, h1, rfl, rfl, hw, hok, e, s1⟩ hx
    obtain ⟨hi, rfl⟩ := rngD_get hx
    have hi : i < 4 := hi
    have ln := e.1
    have sl := s1.lt
    have ib : 8 * (a.h + 1) * i ≤ 8 * (a.h + 1) * 3 := Nat.mul_le_mul_left _ (by omega)
    refine ⟨trivial, ?_⟩
    walk_at "w"
    have an : (h1 ++ [D.lst (rs.map rowD)])[h.length]? = some (.lst (rs.map rowD)) := by rw [← ln]; exact at_new
    refine ⟨⟨_, an⟩, ?_⟩
    walk_at "w"
    refine ⟨spo (s1.app (g := [.lst (rs.map rowD)])) (by omega) fun y h2 oy e2 s2 => ?_⟩
    obtain ⟨h3, rfl, e3⟩ := e2.split (fun i hi => by rw [List.mem_singleton.mp hi]; exact sl)
    have l3 := e3.1
    have an3 : (h3 ++ [D.lst (rs.map rowD)])[h.length]? = some (.lst (rs.map rowD)) := by rw [← ln, ← l3]; exact at_new
    walk_at "w"
    refine ⟨sz (by simp), ?_⟩
    walk_at "w"
    refine ⟨_, an3, szl (by rw [List.length_map]; omega), fun h4 e4 => ?_⟩
    rw [← ln, ← l3, set_new] at e4
    subst e4
    refine ⟨rs ++ [(l, y)], _, h3, rfl, by rw [List.map_append]; rfl, by simp [hw]; omega, fun z hz => ?_, e.trans e3, (s2.cut (by omega)).le (by have w := Nat.mul_succ (8 * (a.h + 1)) i; rw [Nat.succ_eq_add_one] at w; rw [w]; omega)⟩
    rcases List.mem_append.mp hz with hz | hz
    · exact hok z hz
    · rw [List.mem_singleton.mp hz]; exact oy
  rintro δ h' ⟨rs, x0, h1, rfl, rfl, hw, hok, e, s1⟩
  rw [rngD_len] at hw s1
  have s1 : StD h1 s0 (n + 32 * (a.h + 1)) := s1.le (by show n + 8 * (a.h + 1) * 4 ≤ _; omega)
  have hw : rs.length = 8 := hw
  have ln := e.1
  have sl := s1.lt
  refine ⟨trivial, ?_⟩
  walk_at "w"
  refine ⟨spo (s1.app (g := [.lst (rs.map rowD)])) (by omega) fun y h2 oy e2 s2 => ?_⟩
  obtain ⟨h3, rfl, e3⟩ := e2.split (fun i hi => by rw [List.mem_singleton.mp hi]; exact sl)
  have l3 := e3.1
  have an3 : (h3 ++ [D.lst (rs.map rowD)])[h.length]? = some (.lst (rs.map rowD)) := by rw [← ln, ← l3]; exact at_new
  have s3 := (s2.cut (by omega)).le (m := n + 40 * (a.h + 1)) (by omega)
  obtain ⟨oy1, oy2, oy3, oy4⟩ := oy
  have oy3 : y.h ≤ a.h + 15 := oy3
  have oy4 : y.n ≤ a.n + 15 := oy4
  have e3 := e.trans e3
  walk_at "w"
  refine ⟨⟨_, an3⟩, ?_⟩
  walk_at "w"
  refine ⟨law_leaves_ok y (k + 9) (by omega) (by omega) ?_⟩
  walk_at "w"
  refine ⟨sz (by simp), ?_⟩
  walk_at "w"
  refine ⟨_, an3, szl (by rw [List.length_map]; omega), fun h4 e4 => ?_⟩
  rw [← ln, ← l3, set_new] at e4
  have e5 : rs.map rowD ++ [.tup false [.tup false (y.ls.map .str), y.d]] = (rs ++ [(y.ls, y)]).map rowD := by rw [List.map_append]; rfl
  rw [e5] at e4
  subst e4
  have hok : ∀ p ∈ rs ++ [(y.ls, y)], RowOk (a.h + 15) (a.n + 15) p := fun z hz => by
    rcases List.mem_append.mp hz with hz | hz
    · exact hok z hz
    · rw [List.mem_singleton.mp hz]; exact ⟨oy2, oy2, oy3, oy4⟩
  generalize rs ++ [(y.ls, y)] = rs at hok ⊢
  have an4 : (h3 ++ [D.lst (rs.map rowD)])[h.length]? = some (.lst (rs.map rowD)) := by rw [← ln, ← l3]; exact at_new
  walk_at "w"
  refine ⟨_, an4, ?_⟩
  refine ⟨fun i δ h' => h' = h3 ++ [.lst (rs.map rowD)] ∧ ∃ c5 c7 c8 c9 : Option D, δ = [some (.ref s0), some t.d, some (.tup false (l.map .str)), some a.d, some (.ref h.length), c5, some y.d, c7, c8, c9], ⟨rfl, _, _, _, _, rfl⟩, ?_, ?_⟩
  · rintro i δ h' x ⟨rfl, c5, c7, c8, c9, rfl⟩ hx
    obtain ⟨⟨o, z⟩, hp, rfl⟩ := row_of hx
    obtain ⟨p1, p2, p3, p4⟩ := hok _ (List.mem_of_getElem? hp)
    have p3 : z.h ≤ a.h + 15 := p3
    have p4 : z.n ≤ a.n + 15 := p4
    refine ⟨an4, ?_⟩
    walk_at "w"
    refine ⟨rfl, ?_⟩
    walk_at "w"
    refine ⟨law_leaves_ok z (k + 9) (by omega) (by omega) ?_⟩
    walk_at "w"
    refine ⟨_, _, .tup (dps_s _), .tup (dps_s _), shape_strT _ p2, shape_strT _ p1, ?_⟩
    have ev : PyData.eqv (.tuple (z.ls.map .str)) (.tuple (o.map .str)) = decide (z.ls = o) := by rw [PyData.eqv, eqv_strs]
    rw [ev]
    have fin : ∀ b : Bool, (b = true ↔ z.ls = o ∧ z.Rt t) → ∀ c5 : Option D, (dIfS (dNot (dTest (dCallN (F (k + 9) 25) (dCons (dCallN (F (k + 9) 45) (dCons (dC (.int 3)) (dCons (dVar 1) (dCons (dVar 7) (dCons (dVar 8) dNil))))) (dCons (dOp oIxL (dLst (dCons (dC (.str "paper")) (dCons (dTup (dCons (dC (.str "told")) (dCons (dC .non) dNil))) dNil))) (dB bInt (dCons (dVar 9) dNil))) dNil))))) (dRet (dC (.bl false))) dNext) (((fnE h X Q).nxt (dRet (dC (.bl true)) (fnE h X Q))).loop (fun δ h' => h' = h3 ++ [.lst (rs.map rowD)] ∧ ∃ c5 c7 c8 c9 : Option D, δ = [some (.ref s0), some t.d, some (.tup false (l.map .str)), some a.d, some (.ref h.length), c5, some y.d, c7, c8, c9])) [some (.ref s0), some t.d, some (.tup false (l.map .str)), some a.d, some (.ref h.length), c5, some y.d, some (.tup false (o.map .str)), some z.d, some (.bl b)] (h3 ++ [.lst (rs.map rowD)]) := by
      intro b hb c5
      walk_at "w"
      cases b with
      | true =>
        refine ⟨told_judge g (by omega) (by omega) p1 p2 (fun bad => absurd (hb.mp rfl) bad) (fun _ _ => ?_)⟩
        walk_at "w"
        refine ⟨sz (by simp), ?_⟩
        walk_at "w"
        refine ⟨sz (by simp), .inr ?_⟩
        walk_at "w"
        refine ⟨_, atZ1, ?_⟩
        walk_at "w"
        refine ⟨law_same_ok (.tup (.cons (.str _) (.cons .non .nil))) (.tup (.cons (.str _) (.cons .non .nil))) told_shw (by omega) (by omega) ?_⟩
        walk_at "w"
        refine ⟨fun c => (by cases c), fun _ => ⟨rfl, _, _, _, _, rfl⟩⟩
      | false =>
        refine ⟨told_judge g (by omega) (by omega) p1 p2 (fun bad => ?_) (fun q1 q2 => by have := hb.mpr ⟨q1, q2⟩; cases this)⟩
        walk_at "w"
        refine ⟨sz (by simp), ?_⟩
        walk_at "w"
        refine ⟨sz (by simp), .inr ?_⟩
        walk_at "w"
        refine ⟨_, atZ0, ?_⟩
        walk_at "w"
        refine ⟨law_same_ok (.str _) (.str _) paper_shw (by omega) (by omega) ?_⟩
        walk_at "w"
        refine ⟨fun c => (by cases c), fun _ => ⟨rfl, _, _, _, _, rfl⟩⟩
    walk_at "w"
    refine ⟨fun c => ?_, fun c => ?_⟩
    · have c := dec_t c
      walk_at "w"
      refine ⟨law_right_ok g z (k + 9) (by omega) fun b hb => ?_⟩
      exact fin b ⟨fun w => ⟨c, hb.mp w⟩, fun w => hb.mpr w.2⟩ _
    · have c := dec_f c
      exact fin false ⟨fun w => (by cases w), fun w => absurd w.1 c⟩ _
  · rintro δ h' ⟨rfl, c5, c7, c8, c9, rfl⟩
    refine ⟨an4, ?_⟩
    walk_at "w"
    exact out_eqs e3 s3.rfs rfl (q h3 e3 s3)
/-- the fewest leaves of a tree of a height -/
def fl2 : Nat → Nat
  | 0 => 1
  | 1 => 2
  | n + 2 => fl2 (n + 1) + fl2 n
theorem fl2_step : ∀ n : Nat, fl2 n ≤ fl2 (n + 1)
  | 0 => by decide
  | n + 1 => by show fl2 (n + 1) ≤ fl2 (n + 1) + fl2 n; omega
theorem fl2_mono {n m : Nat} (h : n ≤ m) : fl2 n ≤ fl2 m := by
  induction h with
  | refl => exact Nat.le_refl _
  | step _ ih => exact Nat.le_trans ih (fl2_step _)
theorem fib_n {t : Tb} : ∀ {a : T}, a.Rt t → fl2 a.h ≤ a.n
  | .lf _ _, _ => Nat.le_refl _
  | .nd v l r, h => by
    obtain ⟨⟨b1, b2⟩, hl, hr, _⟩ := h
    have il := fib_n hl
    have ir := fib_n hr
    have hh := nd_h (v := v) (l := l) (r := r)
    have e : (T.nd v l r).n = l.n + r.n := rfl
    by_cases c : max l.h r.h = 0
    · rw [hh, c, e]
      have := l.n_pos
      have := r.n_pos
      show 2 ≤ _
      omega
    · obtain ⟨k, hk⟩ : ∃ k, max l.h r.h = k + 1 := ⟨max l.h r.h - 1, by omega⟩
      rw [hh, hk, e, show 1 + (k + 1) = k + 2 by omega]
      show fl2 (k + 1) + fl2 k ≤ _
      rcases Nat.le_total l.h r.h with z | z
      · have : r.h = k + 1 := by omega
        rw [this] at ir
        have := fl2_mono (n := k) (m := l.h) (by omega)
        omega
      · have : l.h = k + 1 := by omega
        rw [this] at il
        have := fl2_mono (n := k) (m := r.h) (by omega)
        omega
theorem h_fib {t : Tb} {a : T} (h : a.Rt t) (k : Nat) (hn : a.n < fl2 (k + 1)) : a.h ≤ k := by
  have p := fib_n h
  by_cases c : a.h ≤ k
  · exact c
  · have := fl2_mono (n := k + 1) (m := a.h) (by omega)
    omega
theorem T.shw0 {t : Tb} (g : t.Good) : ∀ {a : T}, a.Rt t → Shw a.p (15 * a.n - 3) (a.h + 1)
  | .lf v x, h => by
    have b := (T.Rt.vr g (a := .lf v x) h)
    have n256 := g.n256
    have w := g.wd x h.1
    have b0 : 0 ≤ v := b.1
    have b1 : v < t.n := b.2
    have hv : v.natAbs < 2 ^ 36 := by omega
    refine Shw.le (Shw.tup (ShwA.cons (Shw.int hv) (ShwA.cons (Shw.str w.2.2.1) ShwA.nil))) ?_ (Nat.le_refl _)
    have := w.2.1
    show _ ≤ 15 * 1 - 3
    omega
  | .nd v l r, h => by
    have b := (T.Rt.vr g (a := .nd v l r) h)
    have n256 := g.n256
    have b0 : 0 ≤ v := b.1
    have b1 : v < t.n := b.2
    have hv : v.natAbs < 2 ^ 36 := by omega
    have e := nd_h (v := v) (l := l) (r := r)
    have hl := T.shw0 g h.2.1
    have hr := T.shw0 g h.2.2.1
    have nl := l.n_pos
    refine Shw.le (Shw.tup (ShwA.cons (h := max (l.h + 1) (r.h + 1)) ((Shw.int hv).le (Nat.le_refl _) (by omega)) (ShwA.cons (hl.le (Nat.le_refl _) (by omega)) (ShwA.cons (hr.le (Nat.le_refl _) (by omega)) (ShwA.nil.le (Nat.le_refl _) (Nat.zero_le _)))))) ?_ (by omega)
    have nr := r.n_pos
    show _ ≤ 15 * (l.n + r.n) - 3
    omega
theorem T.shw {t : Tb} (g : t.Good) {a : T} (h : a.Rt t) : Shw a.p (15 * a.n) (a.h + 1) := (T.shw0 g h).le (Nat.sub_le _ _) (Nat.le_refl _)
theorem shw_logs {t : Tb} (g : t.Good) : ∀ {ts : List T}, (∀ a ∈ ts, a.Rt t) → ShwA (ts.map fun a => .tuple (a.ls.map .str)) (11 * (ts.map T.n).sum + ts.length) 1
  | [], _ => ShwA.nil.le (Nat.zero_le _) (Nat.zero_le _)
  | a :: ts, h => by
    have ha := h a (by simp)
    have w := shw_strs (l := a.ls) (n := 11 * a.n) (fun x hx => g.wd x (ha.lss x hx)) (by rw [a.n_len]; exact Nat.le_refl _)
    refine (ShwA.cons w (shw_logs g (ts := ts) fun b hb => h b (by simp [hb]))).le ?_ (Nat.le_refl _)
    simp only [List.map_cons, List.sum_cons, List.length_cons]
    omega
theorem shw_trees {t : Tb} (g : t.Good) {H : Nat} : ∀ {ts : List T}, (∀ a ∈ ts, a.Rt t ∧ a.h ≤ H) → ShwA (ts.map T.p) (15 * (ts.map T.n).sum + ts.length) (H + 1)
  | [], _ => ShwA.nil.le (Nat.zero_le _) (Nat.zero_le _)
  | a :: ts, h => by
    have ha := h a (by simp)
    refine (ShwA.cons ((T.shw g ha.1).le (Nat.le_refl _) (by omega)) (shw_trees g (ts := ts) fun b hb => h b (by simp [hb]))).le ?_ (Nat.le_refl _)
    simp only [List.map_cons, List.sum_cons, List.length_cons]
    omega
def keptP (t : Tb) (ts : List T) : PyData := .tuple [t.p, .list (ts.map fun a => .tuple (a.ls.map .str)), .list (ts.map T.p)]
theorem kept_shw {t : Tb} (g : t.Good) {ts : List T} (h : ∀ a ∈ ts, a.Rt t ∧ a.h ≤ 40) (hl : ts.length = 3) (hs : (ts.map T.n).sum ≤ 38400) : Shw (keptP t ts) 1100000 50 := by
  have a := shw_tab g
  have b := Shw.lst (shw_logs g (ts := ts) fun x hx => (h x hx).1)
  have c := Shw.lst (shw_trees g h)
  refine Shw.le (Shw.tup (ShwA.cons (h := 42) (a.le (Nat.le_refl _) (by omega)) (ShwA.cons (b.le (Nat.le_refl _) (by omega)) (ShwA.cons (c.le (Nat.le_refl _) (by omega)) (ShwA.nil.le (Nat.le_refl _) (Nat.zero_le _)))))) ?_ (by omega)
  omega
theorem kept_fits {d : PyData} {h : Nat} (s : Shw d 1100000 h) : d.shown.length ≤ sizeLine := by
  have b := PyData.shown_le_bulk 13 (by decide) _ s.ls
  have w := s.we
  have z := sizeLine_eq
  omega
/-- the law's cells: its numbers, its logs, its trees -/
structure Lw (t : Tb) (ts : List T) (n : Nat) (h : MH) : Prop where
  st : StD h 0 n
  lg : h[1]? = some (.lst (ts.map fun a => .tup false (a.ls.map .str)))
  tr : h[2]? = some (.lst (ts.map T.d))
theorem Lw.le {t : Tb} {ts : List T} {n m : Nat} {h : MH} (l : Lw t ts n h) (k : n ≤ m) : Lw t ts m h := ⟨l.st.le k, l.lg, l.tr⟩
theorem Lw.app {t : Tb} {ts : List T} {n : Nat} {h g : MH} (l : Lw t ts n h) : Lw t ts n (h ++ g) := ⟨l.st.app, at_app l.lg, at_app l.tr⟩
theorem Lw.lt {t : Tb} {ts : List T} {n : Nat} {h : MH} (l : Lw t ts n h) : 2 < h.length := at_lt l.tr
theorem Lw.nxt {t : Tb} {ts : List T} {n m : Nat} {h h' : MH} (l : Lw t ts n h) (e : Eqs [0] h h') (s : StD h' 0 m) : Lw t ts m h' := ⟨s, e.get (by simp) l.lg, e.get (by simp) l.tr⟩
theorem Lw.eqs {t : Tb} {ts : List T} {n i : Nat} {h h' : MH} (l : Lw t ts n h) (e : Eqs [i] h h') (hi : 2 < i) : Lw t ts n h' :=
  ⟨l.st.eqs e (by simp; omega), e.get (by simp; omega) l.lg, e.get (by simp; omega) l.tr⟩
theorem Lw.kept {t : Tb} {ts : List T} {n : Nat} {h : MH} (l : Lw t ts n h) : DP h (.tup false [t.d, .ref 1, .ref 2]) (keptP t ts) :=
  .tup (.cons t.dp (.cons (.ref l.lg (dps_map fun a _ => .tup (dps_s _))) (.cons (.ref l.tr (dps_map fun a _ => a.dp)) .nil)))
theorem sum_set : ∀ (ts : List T) (j : Nat) (z : T), ((ts.set j z).map T.n).sum ≤ (ts.map T.n).sum + z.n
  | [], _, _ => by simp
  | a :: r, 0, z => by simp only [List.set_cons_zero, List.map_cons, List.sum_cons]; omega
  | a :: r, j + 1, z => by
    have := sum_set r j z
    simp only [List.set_cons_succ, List.map_cons, List.sum_cons]; omega
theorem ixn3 {n : Nat} {r : Int} (hn : n = 3) (h0 : 0 ≤ r) (h1 : r < 3) : ixN n r = some r.toNat := by
  subst hn
  have : r = 0 ∨ r = 1 ∨ r = 2 := by omega
  rcases this with rfl | rfl | rfl <;> rfl
theorem Lw.put {t : Tb} {ts : List T} {n j : Nat} {h : MH} (l : Lw t ts n h) (z : T) (hj : j < ts.length) : Lw t (ts.set j z) n ((h.set 1 (.lst ((ts.map fun a => D.tup false (a.ls.map .str)).set j (.tup false (z.ls.map .str))))).set 2 (.lst ((ts.map T.d).set j z.d))) := by
  have l1 := at_lt l.lg
  have l2 := at_lt l.tr
  refine ⟨?_, ?_, ?_⟩
  · exact (l.st.eqs (S := [1, 2]) (((Eqs.refl _ _).set (by simp)).set (by simp)) (by simp))
  · rw [List.getElem?_set_ne (by decide), at_set l1, List.map_set]
  · rw [at_set (by rw [List.length_set]; exact l2), List.map_set]
theorem get3 {α : Type} {l : List α} (h : l.length = 3) {r : Int} (h0 : 0 ≤ r) (h1 : r < 3) : ∃ x, l[r.toNat]? = some x ∧ x ∈ l := by
  have hl : r.toNat < l.length := by omega
  exact ⟨l[r.toNat], List.getElem?_eq_getElem hl, List.getElem_mem hl⟩
theorem told_tree {t : Tb} (g : t.Good) {a : T} (ha : a.Rt t) {c : Nat} (hc : c < 68719476736) : Shw (.tuple [.str (Str.ofString "told"), .tuple [a.p, .int (c : Int)]]) (15 * a.n + 100) (a.h + 3) := by
  have : (Str.ofString "told").length = 4 := by decide +kernel
  refine Shw.le (Shw.tup (ShwA.cons (h := a.h + 2) ((Shw.str told_sm').le (Nat.le_refl _) (by omega)) (ShwA.cons (Shw.tup (ShwA.cons (h := a.h + 1) (T.shw g ha) (ShwA.cons ((Shw.int (z := (c : Int)) (by omega)).le (Nat.le_refl _) (by omega)) (ShwA.nil.le (Nat.le_refl _) (Nat.zero_le _))))) (ShwA.nil.le (Nat.le_refl _) (Nat.zero_le _))))) ?_ (by omega)
  omega
def oN : Option T → Nat
  | none => 0
  | some a => a.n
theorem o_shw {t : Tb} (g : t.Good) {a : Option T} (ha : oRt t a) : Shw (oP a) (15 * oN a) (oH a + 1) := by
  cases a with
  | none => exact Shw.non.le (Nat.zero_le _) (Nat.zero_le _)
  | some a => exact T.shw g ha
theorem o_dp {h : MH} (a : Option T) : DP h (oD a) (oP a) := by
  cases a with
  | none => exact .non
  | some a => exact a.dp
theorem o_len (a : Option T) : (oLs a).length = oN a := by
  cases a with
  | none => rfl
  | some a => exact a.n_len
theorem told_two {t : Tb} (g : t.Good) {a b : Option T} (ha : oRt t a) (hb : oRt t b) {c : Nat} (hc : c < 68719476736) : Shw (.tuple [.str (Str.ofString "told"), .tuple [oP a, oP b, .int (c : Int)]]) (15 * oN a + 15 * oN b + 100) (max (oH a) (oH b) + 3) := by
  have : (Str.ofString "told").length = 4 := by decide +kernel
  refine Shw.le (Shw.tup (ShwA.cons (h := max (oH a) (oH b) + 2) ((Shw.str told_sm').le (Nat.le_refl _) (by omega)) (ShwA.cons (Shw.tup (ShwA.cons (h := max (oH a) (oH b) + 1) ((o_shw g ha).le (Nat.le_refl _) (by omega)) (ShwA.cons ((o_shw g hb).le (Nat.le_refl _) (by omega)) (ShwA.cons ((Shw.int (z := (c : Int)) (by omega)).le (Nat.le_refl _) (by omega)) (ShwA.nil.le (Nat.le_refl _) (Nat.zero_le _)))))) (ShwA.nil.le (Nat.le_refl _) (Nat.zero_le _))))) ?_ (by omega)
  omega
theorem size_at {i : Nat} (hi : i < 3) {w : Int} (hw : w = 60 ∨ w = 300) : ∃ z : Int, atI [D.int 8, .int 60, .int w] (0 + (i : Int)) = some (.int z) ∧ 1 ≤ z ∧ z ≤ 300 ∧ (i < 2 → z ≤ 60) := by
  have : i = 0 ∨ i = 1 ∨ i = 2 := by omega
  rcases this with rfl | rfl | rfl
  · exact ⟨8, rfl, by decide, by decide, fun _ => by decide⟩
  · exact ⟨60, rfl, by decide, by decide, fun _ => by decide⟩
  · exact ⟨w, rfl, by omega, by omega, fun h => absurd h (by decide)⟩
theorem bt_fun {t : Tb} {l : List Str} {a : T} {c : Nat} (h1 : Bt t l a c) : ∀ {b : T} {d : Nat}, Bt t l b d → a = b := by
  induction h1 with
  | o =>
    intro b d h
    cases h with
    | o => rfl
    | m h2 _ _ => simp at h2
  | m h2 _ _ ia ib =>
    intro b d h
    cases h with
    | o => simp at h2
    | m _ p q => rw [ia p, ib q]
def partD (o : Option T) : D := .tup false [oD o, .tup false ((oLs o).map .str)]
theorem f19 : fl2 (18 + 1) = 10946 := by decide +kernel
theorem f21 : fl2 (20 + 1) = 28657 := by decide +kernel
theorem refused_of {h : MH} {Q : DK} (q : Q (.str "refused") h) : Q (.str (Str.ofString "refused")) h := q
theorem law_runs {ns : List Int} (hl : ns.length ≤ 63) : F 115 i_law [.scr ns] [] noX fun d _ => d = .bl true := by
  refine ⟨rfl, ?_⟩
  walk_at "w"
  refine ⟨stream_ok hl fun xs x0 xl xr => ?_⟩
  walk_at "w"
  refine ⟨sz (by simp), .inl ?_⟩
  have s0 : StD [D.lst [D.lst (xs.map .int), .int 0]] 0 0 := ⟨0, xs, Nat.le_refl _, rfl, x0, xl, xr⟩
  walk_at "w"
  refine ⟨table_ok (k := 110) s0 (by decide) fun t h1 g e1 s1 => ?_⟩
  have l1 : h1.length = 1 := e1.1
  walk_at "w"
  refine ⟨sz (by simp), .inl ?_⟩
  walk_at "w"
  refine ⟨sz (by simp), .inl ?_⟩
  rw [l1, show (h1 ++ [D.lst []]).length = 2 by simp [l1]]
  have lw0 : Lw t [] 200 (h1 ++ [.lst []] ++ [.lst []]) := ⟨s1.app.app, at_app (by rw [← l1]; exact at_new), by
    rw [show (2 : Nat) = (h1 ++ [D.lst []]).length by simp [l1]]; exact at_new⟩
  generalize h1 ++ [D.lst []] ++ [.lst []] = h2 at lw0 ⊢
  walk_at "w"
  refine ⟨by decide, by decide, ?_⟩
  refine ⟨fun i δ h' => ∃ (c5 c8 c9 c10 : Option D) (ts : List T), δ = [some (.scr ns), some (.ref 0), some t.d, some (.ref 1), some (.ref 2), c5, none, none, c8, c9, c10, none, none, none, none, none, none, none, none, none, none] ∧ Lw t ts (200 + 310 * i) h' ∧ ts.length = i ∧ (∀ a ∈ ts, a.Rt t ∧ a.n ≤ 300) ∧ (ts.map T.n).sum ≤ 60 * i + 240 * (i - 2), ⟨_, _, _, _, [], rfl, lw0, rfl, by simp, by simp⟩, ?_, ?_⟩
  · rintro i δ h' x ⟨c5, c8, c9, c10, ts, rfl, lw, ht, ok, hs⟩ hx
    obtain ⟨hi, rfl⟩ := rngD_get hx
    have hi : i < 3 := hi
    have nb : ∀ m : Nat, m < 10000 → m < bigN := fun m hm => by unfold bigN; omega
    refine ⟨trivial, ?_⟩
    walk_at "w"
    refine ⟨sz (by simp), .inr ?_⟩
    walk_at "w"
    refine ⟨next_ok lw.st (nb _ (by omega)) (by decide) fun r h3 r0 r1 e3 s3 => ?_⟩
    have lw3 := lw.nxt e3 s3
    obtain ⟨w, hw, hw2⟩ : ∃ w : Int, atI [D.int 60, .int 300] (if decide (r = 0) = true then 1 else 0) = some (.int w) ∧ (w = 60 ∨ w = 300) := by
      by_cases z : r = 0
      · rw [decide_eq_true z]; exact ⟨300, rfl, .inr rfl⟩
      · rw [decide_eq_false z]; exact ⟨60, rfl, .inl rfl⟩
    walk_at "w"
    refine ⟨_, hw, ?_⟩
    walk_at "w"
    refine ⟨sz (by simp), .inr ?_⟩
    obtain ⟨z, hz, z1, z2, z3⟩ := size_at hi hw2
    walk_at "w"
    refine ⟨_, hz, ?_⟩
    walk_at "w"
    refine ⟨next_ok s3 (nb _ (by omega)) (by omega) fun r2 h4 r20 r21 e4 s4 => ?_⟩
    have lw4 := lw3.nxt e4 s4
    obtain ⟨m, hm⟩ : ∃ m : Nat, 1 + r2 = (m : Int) := ⟨(1 + r2).toNat, by omega⟩
    walk_at "w"
    rw [hm]
    refine ⟨law_log_ok (k := 112) g s4 (nb _ (by omega)) (by omega) fun l h5 hlen hin e5 s5 => ?_⟩
    have lw5 := lw4.nxt e5 s5
    have l0 : l ≠ [] := fun z => by subst z; simp at hlen; omega
    obtain ⟨a, ba, ra, la, p1, p2⟩ := bt_ex _ l (Nat.le_refl _) l0 hin
    have an : a.n = m := by rw [← a.n_len, la, hlen]
    have ha : a.h ≤ 18 := by
      by_cases z : a.h ≤ 18
      · exact z
      · have : 2 ^ 19 ≤ 2 ^ a.h := Nat.pow_le_pow_right (by decide) (by omega)
        omega
    walk_at "w"
    refine ⟨sz (by simp), .inl ?_⟩
    have lw6 := lw5.app (g := [.lst [.int 0]])
    have m6 : CtD (h5 ++ [.lst [.int 0]]) h5.length 0 := at_new
    have hl5 := lw5.lt
    walk_at "w"
    refine lc_map (f := fun x => (lfT t x).d) (by omega) trivial (fun x hx K z => ?_) (.inr ?_)
    · walk_at "w"
      exact ⟨law_leaf_ok (k := 113) g (hin x hx) z⟩
    · walk_at "w"
      refine ⟨law_made_of_ok g ba hin ra (by omega) 114 (by omega) m6 fun h6 e6 m6 => ?_⟩
      have lw7 := lw6.eqs e6 hl5
      rw [Int.zero_add] at m6
      walk_at "w"
      refine ⟨sz (by simp), ?_⟩
      walk_at "w"
      refine ⟨told_built (m := 114) g (by omega) (by omega) (fun bad => ?_) fun a2 _ _ ba2 => ?_⟩
      · rcases bad with bad | ⟨x, hx, hn⟩
        · exact absurd bad l0
        · exact absurd (hin x hx) hn
      · rw [← bt_fun ba ba2]
        walk_at "w"
        refine ⟨_, m6, _, atZ0, ?_⟩
        walk_at "w"
        refine ⟨sz (by simp), ?_⟩
        walk_at "w"
        refine ⟨sz (by simp), ?_⟩
        walk_at "w"
        refine ⟨law_same_ok (.tup (.cons (.str _) (.cons (.tup (.cons a.dp (.cons (.int _) .nil))) .nil))) (.tup (.cons (.str _) (.cons (.tup (.cons a.dp (.cons (.int _) .nil))) .nil))) (told_tree g ra (c := l.length - 1) (by omega)) (by omega) (by omega) ?_⟩
        walk_at "w"
        refine ⟨fun c => (by cases c), fun _ => ?_⟩
        walk_at "w"
        refine ⟨⟨_, lw7.lg⟩, ?_⟩
        walk_at "w"
        refine ⟨_, lw7.lg, szl (by rw [List.length_map]; omega), fun h8 e8 => ?_⟩
        have q1 := at_lt lw7.lg
        have q2 := at_lt lw7.tr
        have lg8 : h8[1]? = some (.lst ((ts ++ [a]).map fun a => .tup false (a.ls.map .str))) := by
          rw [e8, at_set q1, List.map_append]; simp only [List.map_cons, List.map_nil, la]
        have tr8 : h8[2]? = some (.lst (ts.map T.d)) := by rw [e8, List.getElem?_set_ne (by decide)]; exact lw7.tr
        have s8 : StD h8 0 (200 + 310 * i + 1 + 1 + m) := by rw [e8]; exact lw7.st.eqs (S := [1]) ((Eqs.refl _ _).set (by simp)) (by simp)
        clear e8
        walk_at "w"
        refine ⟨⟨_, tr8⟩, ?_⟩
        walk_at "w"
        refine ⟨_, tr8, szl (by rw [List.length_map]; omega), fun h9 e9 => ?_⟩
        have q3 := at_lt tr8
        refine ⟨_, _, _, _, ts ++ [a], rfl, ⟨?_, ?_, ?_⟩, by simp [ht], fun b hb => ?_, ?_⟩
        · rw [e9]; exact (s8.eqs (S := [2]) ((Eqs.refl _ _).set (by simp)) (by simp)).le (by omega)
        · rw [e9, List.getElem?_set_ne (by decide)]; exact lg8
        · rw [e9, at_set q3, List.map_append]; rfl
        · rcases List.mem_append.mp hb with hb | hb
          · exact ok b hb
          · rw [List.mem_singleton.mp hb]; exact ⟨ra, by omega⟩
        · rw [List.map_append, List.sum_append]
          simp only [List.map_cons, List.map_nil, List.sum_cons, List.sum_nil]
          by_cases i2 : i < 2
          · have := z3 i2; omega
          · omega
  rintro δ h' ⟨c5, c8, c9, c10, ts, rfl, lw, ht, ok, hs⟩
  rw [rngD_len] at lw ht hs
  have ht : ts.length = 3 := ht
  have lw : Lw t ts 2000 h' := lw.le (by decide)
  have hs : (ts.map T.n).sum ≤ 600 := Nat.le_trans hs (by decide)
  refine ⟨trivial, ?_⟩
  have hh : ∀ a ∈ ts, a.Rt t ∧ a.h ≤ 40 := fun a ha => ⟨(ok a ha).1, by have := h_le (k := 9) (ok a ha).1 (by have := (ok a ha).2; omega); omega⟩
  have ks := kept_shw g hh ht (by omega)
  walk_at "w"
  refine ⟨sz (by simp), ?_⟩
  walk_at "w"
  refine ⟨keptP t ts, lw.kept, trivial, ks.sh, ks.nd, Nat.le_trans ks.dp (by omega), kept_fits ks, ?_⟩
  walk_at "w"
  refine ⟨by decide, by decide, ?_⟩
  have nb : ∀ i m : Nat, i < 6 → m ≤ 2000 + 2000 * i + 1900 → m < bigN := fun i m hi hm => by unfold bigN; omega
  refine ⟨fun i δ h' => ∃ (c5 c7 c8 c9 c10 c11 c12 c13 c14 c15 c16 c17 c18 : Option D) (ts : List T), δ = [some (.scr ns), some (.ref 0), some t.d, some (.ref 1), some (.ref 2), c5, some (.str (keptP t ts).shown), c7, c8, c9, c10, c11, c12, c13, c14, c15, c16, c17, c18, none, none] ∧ Lw t ts (2000 + 2000 * i) h' ∧ ts.length = 3 ∧ (∀ a ∈ ts, a.Rt t ∧ a.n ≤ 300 * 2 ^ i) ∧ (ts.map T.n).sum ≤ 600 * 2 ^ i, ⟨_, _, _, _, _, _, _, _, _, _, _, _, _, ts, rfl, lw, ht, by simpa using ok, by simpa using hs⟩, ?_, ?_⟩
  · clear ks hh hs ok ht lw lw0 s1 e1 s0
    rintro i δ h' x ⟨c5, c7, c8, c9, c10, c11, c12, c13, c14, c15, c16, c17, c18, ts, rfl, lw, ht, ok, hs⟩ hx
    obtain ⟨hi, rfl⟩ := rngD_get hx
    have hi : i < 6 := hi
    have p2 : 2 ^ i ≤ 32 := Nat.le_trans (Nat.pow_le_pow_right (by decide) (by omega : i ≤ 5)) (by decide)
    refine ⟨trivial, ?_⟩
    walk_at "w"
    refine ⟨next_ok lw.st (nb i _ hi (by omega)) (by decide) fun r h1 r0 r1 e1 s1 => ?_⟩
    have lw1 := lw.nxt e1 s1
    obtain ⟨a, ha, ma⟩ := get3 ht r0 r1
    obtain ⟨ra, na⟩ := ok a ma
    walk_at "w"
    refine ⟨next_ok s1 (nb i _ hi (by omega)) (by decide) fun r' h2 r0' r1' e2 s2 => ?_⟩
    have lw2 := lw1.nxt e2 s2
    obtain ⟨b, hb, mb⟩ := get3 ht r0' r1'
    obtain ⟨rb, nb'⟩ := ok b mb
    have hah : a.h ≤ 18 := h_fib ra 18 (by rw [f19]; omega)
    have hbh : b.h ≤ 18 := h_fib rb 18 (by rw [f19]; omega)
    obtain ⟨y, c, jn, o⟩ := jn_ex _ a b (Nat.le_refl _) ra rb
    have yr := o.rt
    have yl := o.ls
    have yn : y.n = a.n + b.n := by rw [← y.n_len, yl, List.length_append, a.n_len, b.n_len]
    have yh : y.h ≤ 20 := h_fib yr 20 (by rw [f21]; omega)
    have yc := o.ct
    walk_at "w"
    refine ⟨sz (by simp), .inl ?_⟩
    have lw3 := lw2.app (g := [.lst [.int 0]])
    have m3 : CtD (h2 ++ [.lst [.int 0]]) h2.length 0 := at_new
    walk_at "w"
    refine ⟨_, lw3.tr, _, atI_map r0 ha, ?_⟩
    walk_at "w"
    refine ⟨_, lw3.tr, _, atI_map r0' hb, ?_⟩
    walk_at "w"
    refine ⟨law_join_jn g jn ra rb 114 (by omega) m3 fun h4 e4 m4 => ?_⟩
    rw [Int.zero_add] at m4
    have lw4 := lw3.eqs e4 lw2.lt
    walk_at "w"
    refine ⟨_, lw4.tr, _, atI_map r0 ha, ?_⟩
    walk_at "w"
    refine ⟨_, lw4.tr, _, atI_map r0' hb, ?_⟩
    walk_at "w"
    refine ⟨told_joined (m := 114) g jn ra rb (by omega) ?_⟩
    walk_at "w"
    refine ⟨_, m4, _, atZ0, ?_⟩
    walk_at "w"
    refine ⟨sz (by simp), ?_⟩
    walk_at "w"
    refine ⟨sz (by simp), ?_⟩
    walk_at "w"
    refine ⟨law_same_ok (.tup (.cons (.str _) (.cons (.tup (.cons y.dp (.cons (.int _) .nil))) .nil))) (.tup (.cons (.str _) (.cons (.tup (.cons y.dp (.cons (.int _) .nil))) .nil))) (told_tree g yr (c := c) (by omega)) (by omega) (by omega) ?_⟩
    walk_at "w"
    refine ⟨fun c => (by cases c), fun _ => ?_⟩
    walk_at "w"
    refine ⟨law_right_ok g y 114 (by omega) fun bb hbb => ?_⟩
    have hbb := hbb.mpr yr
    subst hbb
    walk_at "w"
    refine ⟨fun c => (by cases c), fun _ => ?_⟩
    walk_at "w"
    refine ⟨_, lw4.lg, _, atI_map r0 ha, ?_⟩
    walk_at "w"
    refine ⟨_, lw4.lg, _, atI_map r0' hb, ?_⟩
    walk_at "w"
    rw [List.length_map, List.length_map, a.n_len, b.n_len]
    refine ⟨sz (by omega), ?_⟩
    rw [← List.map_append, ← yl]
    walk_at "w"
    rw [List.length_map, y.n_len]
    refine ⟨next_ok lw4.st (nb i _ hi (by omega)) (by omega) fun r3 h5 r30 r31 e5 s5 => ?_⟩
    have lw5 := lw4.nxt e5 s5
    obtain ⟨p, rfl⟩ := Int.eq_ofNat_of_zero_le r30
    obtain ⟨x1, x2, c2, ct, co⟩ := ct_ex y p yr (by omega)
    walk_at "w"
    refine ⟨sz (by simp), .inl ?_⟩
    have lw6 := lw5.app (g := [.lst [.int 0]])
    have m6 : CtD (h5 ++ [.lst [.int 0]]) h5.length 0 := at_new
    walk_at "w"
    refine ⟨law_cut_ok g ct yr 114 (by omega) m6 fun h7 e7 m7 => ?_⟩
    rw [Int.zero_add] at m7
    have lw7 := lw6.eqs e7 lw5.lt
    walk_at "w"
    refine ⟨rfl, ?_⟩
    have ch1 := co.h1
    have ch2 := co.h2
    have cct := co.ct
    have n1 : oN x1 ≤ y.n := by rw [← o_len, co.l1, List.length_take, y.n_len]; omega
    have n2 : oN x2 ≤ y.n := by rw [← o_len, co.l2, List.length_drop, y.n_len]; omega
    have cb : c2 < 68719476736 := by
      have : 6 * (y.h + 1) * (y.h + 1) ≤ 6 * 31 * 31 := Nat.mul_le_mul (Nat.mul_le_mul_left 6 (by omega)) (by omega)
      omega
    walk_at "w"
    refine ⟨told_cut (m := 114) g yr (by omega) (fun bad => absurd ⟨r30, by omega⟩ bad) (fun _ _ => ⟨x1, x2, c2, by rw [Int.toNat_natCast]; exact ct, ?_⟩)⟩
    walk_at "w"
    refine ⟨_, m7, _, atZ0, ?_⟩
    walk_at "w"
    refine ⟨sz (by simp), ?_⟩
    walk_at "w"
    refine ⟨sz (by simp), ?_⟩
    walk_at "w"
    refine ⟨law_same_ok (.tup (.cons (.str _) (.cons (.tup (.cons (o_dp x1) (.cons (o_dp x2) (.cons (.int _) .nil)))) .nil))) (.tup (.cons (.str _) (.cons (.tup (.cons (o_dp x1) (.cons (o_dp x2) (.cons (.int _) .nil)))) .nil))) (told_two g co.r1 co.r2 (c := c2) cb) (by omega) (by omega) ?_⟩
    walk_at "w"
    refine ⟨fun c => (by cases c), fun _ => ?_⟩
    walk_at "w"
    rw [cut_to, ← List.map_take, ← co.l1]
    refine ⟨sz (by simp), ?_⟩
    walk_at "w"
    rw [cut_from, ← List.map_drop, ← co.l2]
    refine ⟨sz (by simp), ?_⟩
    walk_at "w"
    refine ⟨sz (by simp), .inr ?_⟩
    walk_at "w"
    refine ⟨fun i' δ h'' => h'' = h7 ∧ ∃ c15 c18, δ = [some (.scr ns), some (.ref 0), some t.d, some (.ref 1), some (.ref 2), some (.int r), some (.str (keptP t ts).shown), some (.int (0 + (i : Int))), some (.tup false (y.ls.map .str)), some (.ref h5.length), c10, some (.int r'), some y.d, some (.int (p : Int)), c14, c15, some (oD x1), some (oD x2), c18, none, none], ⟨rfl, _, _, rfl⟩, ?_, ?_⟩
    · rintro i' δ h'' x ⟨rfl, c15, c18, rfl⟩ hx
      have hx : ([x1, x2].map partD)[i']? = some x := hx
      rw [List.getElem?_map] at hx
      cases ez : [x1, x2][i']? with
      | none => rw [ez] at hx; cases hx
      | some z =>
        rw [ez] at hx
        obtain rfl := Option.some.inj hx
        obtain ⟨zr, zn, zh⟩ : oRt t z ∧ oN z ≤ y.n ∧ oH z ≤ y.h + 1 := by
          have := List.mem_of_getElem? ez
          simp only [List.mem_cons, List.not_mem_nil, or_false] at this
          rcases this with rfl | rfl
          · exact ⟨co.r1, n1, ch1⟩
          · exact ⟨co.r2, n2, ch2⟩
        refine ⟨trivial, ?_⟩
        cases z with
        | none =>
          walk_at "w"
          refine ⟨rfl, ?_⟩
          walk_at "w"
          refine ⟨fun c => (by cases c), fun _ => ?_⟩
          walk_at "w"
          refine ⟨fun c => (by cases c), fun _ => ?_⟩
          walk_at "w"
          refine ⟨fun c => (by cases c), fun _ => ?_⟩
          exact ⟨rfl, _, _, rfl⟩
        | some z =>
          have zr : z.Rt t := zr
          have zn : z.n ≤ y.n := zn
          have zh : z.h ≤ y.h + 1 := zh
          have zp := z.n_pos
          have zk : ∀ x ∈ z.ls, PyData.strOk x = true := fun x hx => let_ok g (zr.lss x hx)
          obtain ⟨zs, dz⟩ := d_form z
          rw [show partD (some z) = .tup false [.tup false (.int z.v :: zs), .tup false (z.ls.map .str)] by rw [← dz]; rfl]
          walk_at "w"
          refine ⟨rfl, ?_⟩
          walk_at "w"
          rw [List.length_map, z.n_len, decide_eq_false (show ¬ ((z.n : Int) = 0) by omega)]
          walk_at "w"
          refine ⟨fun c => (by cases c), fun _ => ?_⟩
          walk_at "w"
          refine ⟨fun _ => ?_, fun c => by cases c⟩
          walk_at "w"
          rw [← dz]
          refine ⟨law_leaves_ok z 114 (by omega) (by omega) ?_⟩
          walk_at "w"
          refine ⟨_, _, .tup (dps_s _), .tup (dps_s _), shape_strT _ zk, shape_strT _ zk, ?_⟩
          have ev : PyData.eqv (.tuple (z.ls.map .str)) (.tuple (z.ls.map .str)) = true := by rw [PyData.eqv, eqv_strs]; simp
          rw [ev]
          walk_at "w"
          refine ⟨fun c => (by cases c), fun _ => ?_⟩
          walk_at "w"
          refine ⟨law_right_ok g z 114 (by omega) fun b1 hb1 => ?_⟩
          have hb1 := hb1.mpr zr
          subst hb1
          walk_at "w"
          refine ⟨fun c => (by cases c), fun _ => ?_⟩
          exact ⟨rfl, _, _, rfl⟩
    rintro δ h'' ⟨rfl, c15, c18, rfl⟩
    refine ⟨trivial, ?_⟩
    have pw : 2 ^ (i + 1) = 2 * 2 ^ i := by rw [Nat.pow_succ, Nat.mul_comm]
    have key : ∀ (DD : DEnds), (∀ (δ : EnvD) (h'' : MH), (∃ (c5 c7 c8 c9 c10 c11 c12 c13 c14 c15 c16 c17 c18 : Option D) (ts : List T), δ = [some (.scr ns), some (.ref 0), some t.d, some (.ref 1), some (.ref 2), c5, some (.str (keptP t ts).shown), c7, c8, c9, c10, c11, c12, c13, c14, c15, c16, c17, c18, none, none] ∧ Lw t ts (2000 + 2000 * (i + 1)) h'' ∧ ts.length = 3 ∧ (∀ a ∈ ts, a.Rt t ∧ a.n ≤ 300 * 2 ^ (i + 1)) ∧ (ts.map T.n).sum ≤ 600 * 2 ^ (i + 1)) → DD.nx δ h'') → ∀ (c7 c9 c10 c11 c14 c15 c18 : Option D) (m : Nat) (h9 : MH), Lw t ts m h9 → m ≤ 2000 + 2000 * i + 1900 → (dSeq (dIfS (dTest (dOp oNe (dB bRepr (dCons (dTup (dCons (dVar 2) (dCons (dVar 3) (dCons (dVar 4) dNil)))) dNil)) (dVar 6))) (dRet (dC (.bl false))) dNext)
      (dSeq (dAsg (dCallN (F 114 24) (dCons (dVar 1) (dCons (dC (.int 3)) dNil))) (gdName 14))
      (dSeq (dAsg (dOp oIxL (dLst (dCons (dVar 16) (dCons (dVar 17) dNil))) (dB bInt (dCons (dOp oLt (dVar 13) (dOp oSub (dB bLen (dCons (dVar 8) dNil)) (dVar 13))) dNil))) (gdName 15))
      (dSeq (dAsg (dTup (dCons (dB bTup (dCons (dCallN (F 114 43) (dCons (dVar 15) dNil)) dNil)) (dCons (dVar 15) dNil))) (gdTup 2 (gdCons (gdSub (dVar 3) (dVar 14)) (gdCons (gdSub (dVar 4) (dVar 14)) gdNil))))
      (dAsg (dB bRepr (dCons (dTup (dCons (dVar 2) (dCons (dVar 3) (dCons (dVar 4) dNil)))) dNil)) (gdName 6)))))) DD [some (.scr ns), some (.ref 0), some t.d, some (.ref 1), some (.ref 2), some (.int r), some (.str (keptP t ts).shown), c7, some (.tup false (y.ls.map .str)), c9, c10, c11, some y.d, some (.int (p : Int)), c14, c15, some (oD x1), some (oD x2), c18, none, none] h9 := by
      intro DD hDD c7 c9 c10 c11 c14 c15 c18 m h9 lw9 hm9
      have hh : ∀ a ∈ ts, a.Rt t ∧ a.h ≤ 40 := fun a ha => ⟨(ok a ha).1, by have := h_le (k := 14) (ok a ha).1 (by have := (ok a ha).2; omega); omega⟩
      have ks := kept_shw g hh ht (by omega)
      walk_at "w"
      refine ⟨sz (by simp), ?_⟩
      walk_at "w"
      refine ⟨keptP t ts, lw9.kept, trivial, ks.sh, ks.nd, Nat.le_trans ks.dp (by omega), kept_fits ks, ?_⟩
      walk_at "w"
      rw [decide_eq_true rfl]
      refine ⟨fun c => (by cases c), fun _ => ?_⟩
      walk_at "w"
      refine ⟨next_ok lw9.st (nb i _ hi (by omega)) (by decide) fun r4 h10 r40 r41 e10 s10 => ?_⟩
      have lw10 := lw9.nxt e10 s10
      walk_at "w"
      refine ⟨sz (by simp), .inr ?_⟩
      obtain ⟨z, hz, zr, zn⟩ : ∃ z : T, atI [oD x1, oD x2] (if decide ((p : Int) < (y.n : Int) - (p : Int)) = true then 1 else 0) = some z.d ∧ z.Rt t ∧ z.n ≤ y.n := by
        have yp := y.n_pos
        by_cases w : (p : Int) < (y.n : Int) - (p : Int)
        · rw [decide_eq_true w]
          cases x2 with
          | none =>
            have := congrArg List.length co.l2
            rw [List.length_drop, y.n_len] at this
            have : 0 = y.n - p := this
            omega
          | some z => exact ⟨z, rfl, co.r2, n2⟩
        · rw [decide_eq_false w]
          cases x1 with
          | none =>
            have := congrArg List.length co.l1
            rw [List.length_take, y.n_len] at this
            have : 0 = min p y.n := this
            omega
          | some z => exact ⟨z, rfl, co.r1, n1⟩
      have zh : z.h ≤ 30 := h_le (k := 15) zr (by omega)
      walk_at "w"
      rw [List.length_map, y.n_len]
      refine ⟨_, hz, ?_⟩
      walk_at "w"
      refine ⟨law_leaves_ok z 114 (by omega) (by omega) ?_⟩
      walk_at "w"
      refine ⟨sz (by simp), ?_⟩
      walk_at "w"
      refine ⟨rfl, ?_⟩
      have q1 := at_lt lw10.lg
      walk_at "w"
      refine ⟨_, _, lw10.lg, ixn3 (by rw [List.length_map, ht]) r40 r41, fun h11 e11 => ?_⟩
      have tr11 : h11[2]? = some (.lst (ts.map T.d)) := by rw [e11, List.getElem?_set_ne (by decide)]; exact lw10.tr
      walk_at "w"
      refine ⟨_, _, tr11, ixn3 (by rw [List.length_map, ht]) r40 r41, fun h12 e12 => ?_⟩
      have lw12 := lw10.put z (j := r4.toNat) (by omega)
      rw [← e11, ← e12] at lw12
      clear e11 e12
      have ok' : ∀ a ∈ ts.set r4.toNat z, a.Rt t ∧ a.n ≤ 300 * 2 ^ (i + 1) := fun a ha => by
        rcases List.mem_or_eq_of_mem_set ha with ha | rfl
        · exact ⟨(ok a ha).1, by have := (ok a ha).2; omega⟩
        · exact ⟨zr, by omega⟩
      have hs' : ((ts.set r4.toNat z).map T.n).sum ≤ 600 * 2 ^ (i + 1) := by have := sum_set ts r4.toNat z; omega
      have hh' : ∀ a ∈ ts.set r4.toNat z, a.Rt t ∧ a.h ≤ 40 := fun a ha => ⟨(ok' a ha).1, by have := h_le (k := 15) (ok' a ha).1 (by have := (ok' a ha).2; omega); omega⟩
      have ht' : (ts.set r4.toNat z).length = 3 := by rw [List.length_set]; exact ht
      have ks' := kept_shw g hh' ht' (by omega)
      walk_at "w"
      refine ⟨sz (by simp), ?_⟩
      walk_at "w"
      refine ⟨keptP t (ts.set r4.toNat z), lw12.kept, trivial, ks'.sh, ks'.nd, Nat.le_trans ks'.dp (by omega), kept_fits ks', ?_⟩
      exact hDD _ _ ⟨_, _, _, _, _, _, _, _, _, _, _, _, _, ts.set r4.toNat z, rfl, lw12.le (by omega), ht', ok', hs'⟩
    walk_at "w"
    rw [List.length_map, y.n_len]
    refine ⟨sz (by simp), .inr ?_⟩
    walk_at "w"
    refine lc_map (l := [-1, (y.n : Int) + 1]) (rep := .int) (f := fun _ => .bl true) (by simp) trivial (fun v hv K z => ?_) (.inr ?_)
    · walk_at "w"
      refine ⟨told_cut (m := 114) g yr (by omega) (fun _ => ?_) (fun q0 q1 => ?_)⟩
      · walk_at "w"
        exact z
      · exfalso
        simp only [List.mem_cons, List.not_mem_nil, or_false] at hv
        omega
    · walk_at "w"
      refine ⟨[true, true], rfl, ?_⟩
      walk_at "w"
      refine ⟨fun c => (by cases c), fun _ => ?_⟩
      walk_at "w"
      refine ⟨fun c => ?_, fun c => ?_⟩
      · walk_at "w"
        refine ⟨law_judged_ok g (l := y.ls) yr rfl (m := 114) (by omega) (by omega) lw7.st (nb i _ hi (by omega)) fun h9 e9 s9 => ?_⟩
        walk_at "w"
        refine ⟨fun c => (by cases c), fun _ => ?_⟩
        exact key _ (fun _ _ z => z) _ _ _ _ _ _ _ _ h9 (lw7.nxt e9 s9) (by omega)
      · walk_at "w"
        refine ⟨fun c => (by cases c), fun _ => ?_⟩
        exact key _ (fun _ _ z => z) _ _ _ _ _ _ _ _ h'' lw7 (by omega)
  · rintro δ h' ⟨c5, c7, c8, c9, c10, c11, c12, c13, c14, c15, c16, c17, c18, ts, rfl, lw, ht, ok, hs⟩
    rw [rngD_len] at lw ok hs
    have ok : ∀ a ∈ ts, a.Rt t ∧ a.n ≤ 19200 := fun a ha => ⟨(ok a ha).1, Nat.le_trans (ok a ha).2 (by decide)⟩
    obtain ⟨a, ha, ma⟩ := get3 ht (r := 0) (by decide) (by decide)
    obtain ⟨ra, na⟩ := ok a ma
    refine ⟨trivial, ?_⟩
    walk_at "w"
    refine ⟨sz (by simp), ?_⟩
    walk_at "w"
    refine ⟨sz (by simp), ?_⟩
    walk_at "w"
    refine ⟨told_built (m := 114) (l := []) g (by simp) (by decide) (fun _ => ?_) (fun _ l0 => absurd rfl l0)⟩
    walk_at "w"
    refine ⟨fun _ => ?_, fun c => by cases c⟩
    walk_at "w"
    refine ⟨_, lw.lg, _, atI_map (by decide) ha, ?_⟩
    walk_at "w"
    refine ⟨sz (by simp), ?_⟩
    walk_at "w"
    rw [List.length_map, a.n_len]
    refine ⟨sz (by simp; omega), ?_⟩
    rw [show a.ls.map D.str ++ [D.str (Str.ofString "qq")] = (a.ls ++ [Str.ofString "qq"]).map D.str by rw [List.map_append]; rfl]
    walk_at "w"
    refine ⟨sz (by simp), ?_⟩
    walk_at "w"
    refine ⟨told_built (m := 114) g (by rw [List.length_append, a.n_len]; simp; omega) (by decide) (fun _ => ?_) (fun _ _ hin _ => ?_)⟩
    · walk_at "w"
      exact out_pure (h0 := []) rfl rfl
    · exact absurd (hin (Str.ofString "qq") (by simp)) (q_not g.wd (.inr (by decide +kernel)))
end K93
end
namespace Sf
open PySem PySem.Spec PyProof.Rows L2
theorem kit_mk {K : PySem.W.Frag} {a b : Addr} {v : Bool} (ne : (Value.ref a == Value.ref b) = false) (c : PySem.W.isClsIn K b = true) (t : PySem.W.typeIn K (.ref b) = some (.type "type")) (s : PySem.W.subIn K (.ref a) (.ref b) = some v) : PySem.W.kitOne K (.ref a) (.ref b) = some v := by
  have c2 : (PySem.W.clsIn K b).isSome = true := c
  have e : ((PySem.W.clsIn K b).isSome && PySem.W.typeIn K (.ref b) == some (.type "type")) = true := by rw [c2, t]; rfl
  unfold PySem.W.kitOne
  rw [ne, if_neg Bool.false_ne_true]
  show (if ((PySem.W.clsIn K b).isSome && PySem.W.typeIn K (.ref b) == some (.type "type")) = true then PySem.W.subIn K (.ref a) (.ref b) else none) = some v
  rw [if_pos e]
  exact s
end Sf
namespace Dv
open PySem PySem.Spec PyProof.Rows L2 Sf
theorem fng_imp {Pg : Program} {wo : World} {Kf : PySem.W.Frag} {glo : Str → Option Value} {bs : Heap} {cx : CXT} {lv : Nat} {ad : Addr} {fu : FuncData} {pl : List Str} {pr pr2 : Sp} (F : FnG Pg wo Kf glo bs cx lv ad fu pl pr) (h : ∀ a b q x, pr2 a b q x → pr a b q x) : FnG Pg wo Kf glo bs cx lv ad fu pl pr2 :=
  ⟨fun a b c d z => F.len a b c d (h _ _ _ _ z), fun R out st Hh ar uu vv q x g r e b v z => F.go R out st Hh ar uu vv q x g r e b v (h _ _ _ _ z)⟩
theorem sim_nil {c : Cc} {H : Hp} : Sim c ⟨[], []⟩ [] H := ⟨List.nodup_nil, rfl, by simp, by simp, by simp⟩
theorem scr_of {K : PySem.W.Frag} {H : Hp} {a : Addr} {vs : List V} (s : SqL K H a vs) : ScrAt K ⟨[], []⟩ H a vs := by
  have fr : Fs.Free ⟨[], []⟩ a := ⟨by simp, by simp⟩
  rcases s with (h | ⟨o, h⟩) | ⟨o, its, n, h1, h2, h3, h4, h5, h6⟩
  · exact .rd fr h
  · exact .fz fr h
  · exact .kn h1 h2 h3 h4 h5 h6
end Dv
namespace K93
open PySem PySem.Spec PyProof.Rows L2 Sf
theorem cls_mk {K : PySem.W.Frag} {h : Heap} {mg : Str → Option Value} {c20 c26 c21 c22 c23 c24 c25 f2200 f2500 f2501 f2502 f2503 f2504 f2505 f2506 f2507 : Addr} {oc2200 kV2200 dc2200 pm2200 cd2200 ct2200 : Value} {od2200 an2200 : Option Addr} {sl2200 : Array (Option Value)} {oc2500 kV2500 dc2500 pm2500 cd2500 ct2500 : Value} {od2500 an2500 : Option Addr} {sl2500 : Array (Option Value)} {oc2501 kV2501 dc2501 pm2501 cd2501 ct2501 : Value} {od2501 an2501 : Option Addr} {sl2501 : Array (Option Value)} {oc2502 kV2502 dc2502 pm2502 cd2502 ct2502 : Value} {od2502 an2502 : Option Addr} {sl2502 : Array (Option Value)} {oc2503 kV2503 dc2503 pm2503 cd2503 ct2503 : Value} {od2503 an2503 : Option Addr} {sl2503 : Array (Option Value)} {oc2504 kV2504 dc2504 pm2504 cd2504 ct2504 : Value} {od2504 an2504 : Option Addr} {sl2504 : Array (Option Value)} {oc2505 kV2505 dc2505 pm2505 cd2505 ct2505 : Value} {od2505 an2505 : Option Addr} {sl2505 : Array (Option Value)} {oc2506 kV2506 dc2506 pm2506 cd2506 ct2506 : Value} {od2506 an2506 : Option Addr} {sl2506 : Array (Option Value)} {oc2507 kV2507 dc2507 pm2507 cd2507 ct2507 : Value} {od2507 an2507 : Option Addr} {sl2507 : Array (Option Value)} (X : K.In h) (G : h.Ns mainGlobals mg)
    (a20 : PySem.W.nsIn K mainGlobals "Part" = some (some (.ref c20)))
    (pg20 : PySem.W.plainGet K c20 Str.empty = true)
    (po20 : PySem.W.plainOver K c20 = true)
    (hd20 : PySem.W.hasDictIn K c20 = true)
    (sa20 : PySem.W.findIn K (.ref c20) "__setattr__" = some (some (.builtin "object.__setattr__")))
    (mk20 : PySem.W.makesIn K c20 = true)
    (kp20 : PySem.W.keepIn K (.ref c20) = true)
    (n20tree : PySem.W.findIn K (.ref c20) "tree" = some none)
    (n20left : PySem.W.findIn K (.ref c20) "left" = some none)
    (n20right : PySem.W.findIn K (.ref c20) "right" = some none)
    (n20height : PySem.W.findIn K (.ref c20) "height" = some none)
    (n20many : PySem.W.findIn K (.ref c20) "many" = some none)
    (a26 : PySem.W.nsIn K mainGlobals "Maker" = some (some (.ref c26)))
    (pg26 : PySem.W.plainGet K c26 Str.empty = true)
    (po26 : PySem.W.plainOver K c26 = true)
    (hd26 : PySem.W.hasDictIn K c26 = true)
    (sa26 : PySem.W.findIn K (.ref c26) "__setattr__" = some (some (.builtin "object.__setattr__")))
    (mk26 : PySem.W.makesIn K c26 = true)
    (kp26 : PySem.W.keepIn K (.ref c26) = true)
    (n26table : PySem.W.findIn K (.ref c26) "table" = some none)
    (n26products : PySem.W.findIn K (.ref c26) "products" = some none)
    (a21 : PySem.W.nsIn K mainGlobals "ScarpError" = some (some (.ref c21)))
    (a22 : PySem.W.nsIn K mainGlobals "NotAllowed" = some (some (.ref c22)))
    (a23 : PySem.W.nsIn K mainGlobals "TooLarge" = some (some (.ref c23)))
    (a24 : PySem.W.nsIn K mainGlobals "Missing" = some (some (.ref c24)))
    (a25 : PySem.W.nsIn K mainGlobals "BadPaper" = some (some (.ref c25)))
    (m2200 : PySem.W.findIn K (.ref c20) "__init__" = some (some (.ref f2200)))
    (i2200 : PySem.W.isFn K (.ref f2200) = true)
    (l2200 : K.lookup f2200 = some ⟨oc2200, od2200, .func (PySem.W.fnOf "__init__" "Part.__init__" (defArgs (L2.inClass (K93.topS 12) 0)) (defBody (L2.inClass (K93.topS 12) 0)) (defScope (L2.inClass (K93.topS 12) 0)) .none kV2200 dc2200 pm2200 an2200 cd2200 ct2200), sl2200⟩)
    (q2200 : PySem.W.codeIn K cd2200 "Part.__init__" = true)
    (k2200 : PySem.W.keepIn K (.ref f2200) = true)
    (m2500 : PySem.W.findIn K (.ref c26) "__init__" = some (some (.ref f2500)))
    (i2500 : PySem.W.isFn K (.ref f2500) = true)
    (l2500 : K.lookup f2500 = some ⟨oc2500, od2500, .func (PySem.W.fnOf "__init__" "Maker.__init__" (defArgs (L2.inClass (K93.topS 15) 0)) (defBody (L2.inClass (K93.topS 15) 0)) (defScope (L2.inClass (K93.topS 15) 0)) .none kV2500 dc2500 pm2500 an2500 cd2500 ct2500), sl2500⟩)
    (q2500 : PySem.W.codeIn K cd2500 "Maker.__init__" = true)
    (k2500 : PySem.W.keepIn K (.ref f2500) = true)
    (m2501 : PySem.W.findIn K (.ref c26) "node" = some (some (.ref f2501)))
    (i2501 : PySem.W.isFn K (.ref f2501) = true)
    (l2501 : K.lookup f2501 = some ⟨oc2501, od2501, .func (PySem.W.fnOf "node" "Maker.node" (defArgs (L2.inClass (K93.topS 15) 1)) (defBody (L2.inClass (K93.topS 15) 1)) (defScope (L2.inClass (K93.topS 15) 1)) .none kV2501 dc2501 pm2501 an2501 cd2501 ct2501), sl2501⟩)
    (q2501 : PySem.W.codeIn K cd2501 "Maker.node" = true)
    (k2501 : PySem.W.keepIn K (.ref f2501) = true)
    (m2502 : PySem.W.findIn K (.ref c26) "built" = some (some (.ref f2502)))
    (i2502 : PySem.W.isFn K (.ref f2502) = true)
    (l2502 : K.lookup f2502 = some ⟨oc2502, od2502, .func (PySem.W.fnOf "built" "Maker.built" (defArgs (L2.inClass (K93.topS 15) 2)) (defBody (L2.inClass (K93.topS 15) 2)) (defScope (L2.inClass (K93.topS 15) 2)) .none kV2502 dc2502 pm2502 an2502 cd2502 ct2502), sl2502⟩)
    (q2502 : PySem.W.codeIn K cd2502 "Maker.built" = true)
    (k2502 : PySem.W.keepIn K (.ref f2502) = true)
    (m2503 : PySem.W.findIn K (.ref c26) "joined" = some (some (.ref f2503)))
    (i2503 : PySem.W.isFn K (.ref f2503) = true)
    (l2503 : K.lookup f2503 = some ⟨oc2503, od2503, .func (PySem.W.fnOf "joined" "Maker.joined" (defArgs (L2.inClass (K93.topS 15) 3)) (defBody (L2.inClass (K93.topS 15) 3)) (defScope (L2.inClass (K93.topS 15) 3)) .none kV2503 dc2503 pm2503 an2503 cd2503 ct2503), sl2503⟩)
    (q2503 : PySem.W.codeIn K cd2503 "Maker.joined" = true)
    (k2503 : PySem.W.keepIn K (.ref f2503) = true)
    (m2504 : PySem.W.findIn K (.ref c26) "righted" = some (some (.ref f2504)))
    (i2504 : PySem.W.isFn K (.ref f2504) = true)
    (l2504 : K.lookup f2504 = some ⟨oc2504, od2504, .func (PySem.W.fnOf "righted" "Maker.righted" (defArgs (L2.inClass (K93.topS 15) 4)) (defBody (L2.inClass (K93.topS 15) 4)) (defScope (L2.inClass (K93.topS 15) 4)) .none kV2504 dc2504 pm2504 an2504 cd2504 ct2504), sl2504⟩)
    (q2504 : PySem.W.codeIn K cd2504 "Maker.righted" = true)
    (k2504 : PySem.W.keepIn K (.ref f2504) = true)
    (m2505 : PySem.W.findIn K (.ref c26) "lefted" = some (some (.ref f2505)))
    (i2505 : PySem.W.isFn K (.ref f2505) = true)
    (l2505 : K.lookup f2505 = some ⟨oc2505, od2505, .func (PySem.W.fnOf "lefted" "Maker.lefted" (defArgs (L2.inClass (K93.topS 15) 5)) (defBody (L2.inClass (K93.topS 15) 5)) (defScope (L2.inClass (K93.topS 15) 5)) .none kV2505 dc2505 pm2505 an2505 cd2505 ct2505), sl2505⟩)
    (q2505 : PySem.W.codeIn K cd2505 "Maker.lefted" = true)
    (k2505 : PySem.W.keepIn K (.ref f2505) = true)
    (m2506 : PySem.W.findIn K (.ref c26) "both" = some (some (.ref f2506)))
    (i2506 : PySem.W.isFn K (.ref f2506) = true)
    (l2506 : K.lookup f2506 = some ⟨oc2506, od2506, .func (PySem.W.fnOf "both" "Maker.both" (defArgs (L2.inClass (K93.topS 15) 6)) (defBody (L2.inClass (K93.topS 15) 6)) (defScope (L2.inClass (K93.topS 15) 6)) .none kV2506 dc2506 pm2506 an2506 cd2506 ct2506), sl2506⟩)
    (q2506 : PySem.W.codeIn K cd2506 "Maker.both" = true)
    (k2506 : PySem.W.keepIn K (.ref f2506) = true)
    (m2507 : PySem.W.findIn K (.ref c26) "cut" = some (some (.ref f2507)))
    (i2507 : PySem.W.isFn K (.ref f2507) = true)
    (l2507 : K.lookup f2507 = some ⟨oc2507, od2507, .func (PySem.W.fnOf "cut" "Maker.cut" (defArgs (L2.inClass (K93.topS 15) 7)) (defBody (L2.inClass (K93.topS 15) 7)) (defScope (L2.inClass (K93.topS 15) 7)) .none kV2507 dc2507 pm2507 an2507 cd2507 ct2507), sl2507⟩)
    (q2507 : PySem.W.codeIn K cd2507 "Maker.cut" = true)
    (k2507 : PySem.W.keepIn K (.ref f2507) = true)
    (x22 : PySem.W.excIn K c22 [.type "ValueError", .type "Exception", .type "BaseException", .type "object"] "ValueError.__new__" = true)
    (kp22 : PySem.W.keepIn K (.ref c22) = true)
    (bb22 : PySem.W.subIn K (.ref c22) (.type "BaseException") = some true)
    (ty22 : PySem.W.typeIn K (.ref c22) = some (.type "type"))
    (hd22 : PySem.W.hasDictIn K c22 = true)
    (ga22 : PySem.W.findIn K (.ref c22) "__getattribute__" = some (some (.builtin "BaseException.__getattribute__")))
    (gt22 : PySem.W.findIn K (.ref c22) "__getattr__" = some none)
    (cc22 : PySem.W.findIn K (.ref c22) "__class__" = some (some (.builtin "object.__class__")))
    (sp0 : PySem.W.specialIn K (.builtin "object.__class__") "__get__" = some (some (.builtin "getset_descriptor.__get__")))
    (tk0 : PySem.W.takesIn K (.builtin "object.__class__") = some true)
    (mo22 : PySem.W.mroIn K c22 (.type "object") = some true)
    (x25 : PySem.W.excIn K c25 [.type "ValueError", .type "Exception", .type "BaseException", .type "object"] "ValueError.__new__" = true)
    (kp25 : PySem.W.keepIn K (.ref c25) = true)
    (bb25 : PySem.W.subIn K (.ref c25) (.type "BaseException") = some true)
    (ty25 : PySem.W.typeIn K (.ref c25) = some (.type "type"))
    (hd25 : PySem.W.hasDictIn K c25 = true)
    (ga25 : PySem.W.findIn K (.ref c25) "__getattribute__" = some (some (.builtin "BaseException.__getattribute__")))
    (gt25 : PySem.W.findIn K (.ref c25) "__getattr__" = some none)
    (cc25 : PySem.W.findIn K (.ref c25) "__class__" = some (some (.builtin "object.__class__")))
    (mo25 : PySem.W.mroIn K c25 (.type "object") = some true)
    (su22_22 : PySem.W.subIn K (.ref c22) (.ref c22) = some true)
    (su25_22 : PySem.W.subIn K (.ref c25) (.ref c22) = some false)
    (su25_25 : PySem.W.subIn K (.ref c25) (.ref c25) = some true)
    (su22_21 : PySem.W.subIn K (.ref c22) (.ref c21) = some true)
    (is21 : PySem.W.isClsIn K c21 = true)
    (ty21 : PySem.W.typeIn K (.ref c21) = some (.type "type"))
    (ne22_21 : (Value.ref c22 == Value.ref c21) = false)
    (su22_24 : PySem.W.subIn K (.ref c22) (.ref c24) = some false)
    (is24 : PySem.W.isClsIn K c24 = true)
    (ty24 : PySem.W.typeIn K (.ref c24) = some (.type "type"))
    (ne22_24 : (Value.ref c22 == Value.ref c24) = false)
    (su22_25 : PySem.W.subIn K (.ref c22) (.ref c25) = some false)
    (is25 : PySem.W.isClsIn K c25 = true)
    (ne22_25 : (Value.ref c22 == Value.ref c25) = false)
    (su22_23 : PySem.W.subIn K (.ref c22) (.ref c23) = some false)
    (is23 : PySem.W.isClsIn K c23 = true)
    (ty23 : PySem.W.typeIn K (.ref c23) = some (.type "type"))
    (ne22_23 : (Value.ref c22 == Value.ref c23) = false)
    (su25_21 : PySem.W.subIn K (.ref c25) (.ref c21) = some true)
    (ne25_21 : (Value.ref c25 == Value.ref c21) = false)
    (su25_24 : PySem.W.subIn K (.ref c25) (.ref c24) = some false)
    (ne25_24 : (Value.ref c25 == Value.ref c24) = false)
    (is22 : PySem.W.isClsIn K c22 = true)
    (ne25_22 : (Value.ref c25 == Value.ref c22) = false)
    (su25_23 : PySem.W.subIn K (.ref c25) (.ref c23) = some false)
    (ne25_23 : (Value.ref c25 == Value.ref c23) = false) :
    ∃ (c20 c26 c21 c22 c23 c24 c25 f2200 f2500 f2501 f2502 f2503 f2504 f2505 f2506 f2507 : Addr) (d2200 d2500 d2501 d2502 d2503 d2504 d2505 d2506 d2507 : FuncData), mg "Part" = some (.ref c20) ∧ Cls K c20 ∧ NoAttr K c20 "tree" ∧ NoAttr K c20 "left" ∧ NoAttr K c20 "right" ∧ NoAttr K c20 "height" ∧ NoAttr K c20 "many" ∧ mg "Maker" = some (.ref c26) ∧ Cls K c26 ∧ NoAttr K c26 "table" ∧ NoAttr K c26 "products" ∧ mg "ScarpError" = some (.ref c21) ∧ mg "NotAllowed" = some (.ref c22) ∧ mg "TooLarge" = some (.ref c23) ∧ mg "Missing" = some (.ref c24) ∧ mg "BadPaper" = some (.ref c25) ∧ Fun K "__init__" "Part.__init__" (L2.inClass (K93.topS 12) 0) f2200 d2200 ∧ Binds K d2200 ["self", "tree", "left", "right"] [] ∧ Mk K c20 f2200 ∧ Fun K "__init__" "Maker.__init__" (L2.inClass (K93.topS 15) 0) f2500 d2500 ∧ Binds K d2500 ["self", "table"] [] ∧ Mk K c26 f2500 ∧ Fun K "node" "Maker.node" (L2.inClass (K93.topS 15) 1) f2501 d2501 ∧ Binds K d2501 ["self", "left", "right"] [] ∧ Meth K c26 "node" f2501 ∧ Fun K "built" "Maker.built" (L2.inClass (K93.topS 15) 2) f2502 d2502 ∧ Binds K d2502 ["self", "leaves"] [] ∧ Meth K c26 "built" f2502 ∧ Fun K "joined" "Maker.joined" (L2.inClass (K93.topS 15) 3) f2503 d2503 ∧ Binds K d2503 ["self", "left", "right"] [] ∧ Meth K c26 "joined" f2503 ∧ Fun K "righted" "Maker.righted" (L2.inClass (K93.topS 15) 4) f2504 d2504 ∧ Binds K d2504 ["self", "left", "right"] [] ∧ Meth K c26 "righted" f2504 ∧ Fun K "lefted" "Maker.lefted" (L2.inClass (K93.topS 15) 5) f2505 d2505 ∧ Binds K d2505 ["self", "left", "right"] [] ∧ Meth K c26 "lefted" f2505 ∧ Fun K "both" "Maker.both" (L2.inClass (K93.topS 15) 6) f2506 d2506 ∧ Binds K d2506 ["self", "left", "right"] [] ∧ Meth K c26 "both" f2506 ∧ Fun K "cut" "Maker.cut" (L2.inClass (K93.topS 15) 7) f2507 d2507 ∧ Binds K d2507 ["self", "part", "place"] [] ∧ Meth K c26 "cut" f2507 ∧ PySem.W.excIn K c22 [.type "ValueError", .type "Exception", .type "BaseException", .type "object"] "ValueError.__new__" = true ∧ PySem.W.keepIn K (.ref c22) = true ∧ PySem.W.subIn K (.ref c22) (.type "BaseException") = some true ∧ PySem.W.typeIn K (.ref c22) = some (.type "type") ∧ ExcC K c22 ∧ PySem.W.excIn K c25 [.type "ValueError", .type "Exception", .type "BaseException", .type "object"] "ValueError.__new__" = true ∧ PySem.W.keepIn K (.ref c25) = true ∧ PySem.W.subIn K (.ref c25) (.type "BaseException") = some true ∧ PySem.W.typeIn K (.ref c25) = some (.type "type") ∧ ExcC K c25 ∧ PySem.W.exmOne K (.ref c22) (.ref c22) = some true ∧ PySem.W.exmOne K (.ref c25) (.ref c22) = some false ∧ PySem.W.exmOne K (.ref c25) (.ref c25) = some true ∧ PySem.W.kitOne K (.ref c22) (.ref c21) = some true ∧ PySem.W.kitOne K (.ref c22) (.ref c24) = some false ∧ PySem.W.kitOne K (.ref c22) (.ref c25) = some false ∧ PySem.W.kitOne K (.ref c22) (.ref c23) = some false ∧ PySem.W.kitOne K (.ref c25) (.ref c21) = some true ∧ PySem.W.kitOne K (.ref c25) (.ref c24) = some false ∧ PySem.W.kitOne K (.ref c25) (.ref c22) = some false ∧ PySem.W.kitOne K (.ref c25) (.ref c23) = some false :=
  ⟨c20, c26, c21, c22, c23, c24, c25, f2200, f2500, f2501, f2502, f2503, f2504, f2505, f2506, f2507, _, _, _, _, _, _, _, _, _, PySem.W.mg_of X G a20,
    ⟨pg20, hd20, po20, sa20⟩,
    n20tree,
    n20left,
    n20right,
    n20height,
    n20many,
    PySem.W.mg_of X G a26,
    ⟨pg26, hd26, po26, sa26⟩,
    n26table,
    n26products,
    PySem.W.mg_of X G a21,
    PySem.W.mg_of X G a22,
    PySem.W.mg_of X G a23,
    PySem.W.mg_of X G a24,
    PySem.W.mg_of X G a25,
    fun_mk l2200 q2200 k2200,
    L2.Fun.binds (ps := ["self", "tree", "left", "right"]) (fun_mk (st := (L2.inClass (K93.topS 12) 0)) l2200 q2200 k2200) fun _ _ _ _ _ _ us hl => match us, hl with | [_, _, _, _], _ => rfl,
    ⟨mk20, m2200, i2200, kp20⟩,
    fun_mk l2500 q2500 k2500,
    L2.Fun.binds (ps := ["self", "table"]) (fun_mk (st := (L2.inClass (K93.topS 15) 0)) l2500 q2500 k2500) fun _ _ _ _ _ _ us hl => match us, hl with | [_, _], _ => rfl,
    ⟨mk26, m2500, i2500, kp26⟩,
    fun_mk l2501 q2501 k2501,
    L2.Fun.binds (ps := ["self", "left", "right"]) (fun_mk (st := (L2.inClass (K93.topS 15) 1)) l2501 q2501 k2501) fun _ _ _ _ _ _ us hl => match us, hl with | [_, _, _], _ => rfl,
    ⟨m2501, i2501, k2501⟩,
    fun_mk l2502 q2502 k2502,
    L2.Fun.binds (ps := ["self", "leaves"]) (fun_mk (st := (L2.inClass (K93.topS 15) 2)) l2502 q2502 k2502) fun _ _ _ _ _ _ us hl => match us, hl with | [_, _], _ => rfl,
    ⟨m2502, i2502, k2502⟩,
    fun_mk l2503 q2503 k2503,
    L2.Fun.binds (ps := ["self", "left", "right"]) (fun_mk (st := (L2.inClass (K93.topS 15) 3)) l2503 q2503 k2503) fun _ _ _ _ _ _ us hl => match us, hl with | [_, _, _], _ => rfl,
    ⟨m2503, i2503, k2503⟩,
    fun_mk l2504 q2504 k2504,
    L2.Fun.binds (ps := ["self", "left", "right"]) (fun_mk (st := (L2.inClass (K93.topS 15) 4)) l2504 q2504 k2504) fun _ _ _ _ _ _ us hl => match us, hl with | [_, _, _], _ => rfl,
    ⟨m2504, i2504, k2504⟩,
    fun_mk l2505 q2505 k2505,
    L2.Fun.binds (ps := ["self", "left", "right"]) (fun_mk (st := (L2.inClass (K93.topS 15) 5)) l2505 q2505 k2505) fun _ _ _ _ _ _ us hl => match us, hl with | [_, _, _], _ => rfl,
    ⟨m2505, i2505, k2505⟩,
    fun_mk l2506 q2506 k2506,
    L2.Fun.binds (ps := ["self", "left", "right"]) (fun_mk (st := (L2.inClass (K93.topS 15) 6)) l2506 q2506 k2506) fun _ _ _ _ _ _ us hl => match us, hl with | [_, _, _], _ => rfl,
    ⟨m2506, i2506, k2506⟩,
    fun_mk l2507 q2507 k2507,
    L2.Fun.binds (ps := ["self", "part", "place"]) (fun_mk (st := (L2.inClass (K93.topS 15) 7)) l2507 q2507 k2507) fun _ _ _ _ _ _ us hl => match us, hl with | [_, _, _], _ => rfl,
    ⟨m2507, i2507, k2507⟩,
    x22,
    kp22,
    bb22,
    ty22,
    ⟨ga22, gt22, bb22, hd22, cc22, sp0, tk0, mo22⟩,
    x25,
    kp25,
    bb25,
    ty25,
    ⟨ga25, gt25, bb25, hd25, cc25, sp0, tk0, mo25⟩,
    PySem.W.exm_ref bb22 hd22 ty22 su22_22,
    PySem.W.exm_ref bb22 hd22 ty22 su25_22,
    PySem.W.exm_ref bb25 hd25 ty25 su25_25,
    Sf.kit_mk ne22_21 is21 ty21 su22_21,
    Sf.kit_mk ne22_24 is24 ty24 su22_24,
    Sf.kit_mk ne22_25 is25 ty25 su22_25,
    Sf.kit_mk ne22_23 is23 ty23 su22_23,
    Sf.kit_mk ne25_21 is21 ty21 su25_21,
    Sf.kit_mk ne25_24 is24 ty24 su25_24,
    Sf.kit_mk ne25_22 is22 ty22 su25_22,
    Sf.kit_mk ne25_23 is23 ty23 su25_23⟩
end K93
namespace K93
open PySem PySem.Spec PyProof.Rows L2 Sf Dv
section
variable {P : Program} {w : World} {K : PySem.W.Frag} {mg : Str → Option Value} {base : Heap} {ad : Nat → Addr} {fu : Nat → FuncData} {ca : Nat → Addr}
def sp_law (K : PySem.W.Frag) : Sp := fun vs H Q _ => ∃ (a : Addr) (ns : List Int), vs = [.ref a] ∧ SqL K H a (ns.map V.int) ∧ ns.length ≤ 63 ∧ ∀ H', Q (.bl true) H'
theorem law_ok (T : Tx w K mg ad fu ca) : FnG P w K mg base CX0 230 (ad 49) (fu 49) ["script"] (sp_law K) := by
  have F := (ok_all (P := P) (base := base) T 115).o49
  refine fng_imp F ?_
  rintro vs H Q x ⟨a, ns, rfl, sq, hl, q⟩
  refine ⟨⟨[], []⟩, [], [.scr ns], fun d _ => d = .bl true, sim_nil, .cons (.scr (scr_of sq)) .nil, law_runs hl, ?_⟩
  intro F' h' H' d v _ _ r e
  subst e
  cases r
  exact q _
end
theorem tx_mk {w : World} {K : PySem.W.Frag} {mg : Str → Option Value} {f8 f10 f11 f13 f14 f16 f17 f18 f19 f20 f21 f23 f24 f25 f26 f27 f28 f29 f30 f33 f34 f35 f36 f37 f38 f39 f40 f41 f42 f43 f44 f45 f46 f47 f48 f49 f2200 f2500 f2501 f2502 f2503 f2504 f2505 f2506 f2507 : Addr} {d8 d10 d11 d13 d14 d16 d17 d18 d19 d20 d21 d23 d24 d25 d26 d27 d28 d29 d30 d33 d34 d35 d36 d37 d38 d39 d40 d41 d42 d43 d44 d45 d46 d47 d48 d49 d2200 d2500 d2501 d2502 d2503 d2504 d2505 d2506 d2507 : FuncData} {c20 c26 c21 c22 c23 c24 c25 : Addr}
    (d_times : Df K mg "times" (K93.topS 8) ["table", "first", "second"] f8 d8)
    (d_is_leaf : Df K mg "is_leaf" (K93.topS 10) ["tree"] f10 d10)
    (d_leaf_of : Df K mg "leaf_of" (K93.topS 11) ["table", "letter"] f11 d11)
    (d_Part_init : Fun K "__init__" "Part.__init__" (L2.inClass (K93.topS 12) 0) f2200 d2200)
    (bi_Part_init : Binds K d2200 ["self", "tree", "left", "right"] [])
    (mk_Part : Mk K c20 f2200)
    (d_part_of : Df K mg "part_of" (K93.topS 13) ["tree"] f13 d13)
    (d_tree_of : Df K mg "tree_of" (K93.topS 14) ["part"] f14 d14)
    (d_Maker_init : Fun K "__init__" "Maker.__init__" (L2.inClass (K93.topS 15) 0) f2500 d2500)
    (bi_Maker_init : Binds K d2500 ["self", "table"] [])
    (mk_Maker : Mk K c26 f2500)
    (d_Maker_node : Fun K "node" "Maker.node" (L2.inClass (K93.topS 15) 1) f2501 d2501)
    (bi_Maker_node : Binds K d2501 ["self", "left", "right"] [])
    (m_Maker_node : Meth K c26 "node" f2501)
    (d_Maker_built : Fun K "built" "Maker.built" (L2.inClass (K93.topS 15) 2) f2502 d2502)
    (bi_Maker_built : Binds K d2502 ["self", "leaves"] [])
    (m_Maker_built : Meth K c26 "built" f2502)
    (d_Maker_joined : Fun K "joined" "Maker.joined" (L2.inClass (K93.topS 15) 3) f2503 d2503)
    (bi_Maker_joined : Binds K d2503 ["self", "left", "right"] [])
    (m_Maker_joined : Meth K c26 "joined" f2503)
    (d_Maker_righted : Fun K "righted" "Maker.righted" (L2.inClass (K93.topS 15) 4) f2504 d2504)
    (bi_Maker_righted : Binds K d2504 ["self", "left", "right"] [])
    (m_Maker_righted : Meth K c26 "righted" f2504)
    (d_Maker_lefted : Fun K "lefted" "Maker.lefted" (L2.inClass (K93.topS 15) 5) f2505 d2505)
    (bi_Maker_lefted : Binds K d2505 ["self", "left", "right"] [])
    (m_Maker_lefted : Meth K c26 "lefted" f2505)
    (d_Maker_both : Fun K "both" "Maker.both" (L2.inClass (K93.topS 15) 6) f2506 d2506)
    (bi_Maker_both : Binds K d2506 ["self", "left", "right"] [])
    (m_Maker_both : Meth K c26 "both" f2506)
    (d_Maker_cut : Fun K "cut" "Maker.cut" (L2.inClass (K93.topS 15) 7) f2507 d2507)
    (bi_Maker_cut : Binds K d2507 ["self", "part", "place"] [])
    (m_Maker_cut : Meth K c26 "cut" f2507)
    (d_leaves_of : Df K mg "leaves_of" (K93.topS 16) ["tree"] f16 d16)
    (d_built : Df K mg "built" (K93.topS 17) ["table", "log"] f17 d17)
    (d_joined : Df K mg "joined" (K93.topS 18) ["table", "first", "second"] f18 d18)
    (d_cut_at : Df K mg "cut_at" (K93.topS 19) ["table", "tree", "place"] f19 d19)
    (d_judge_tree : Df K mg "judge_tree" (K93.topS 20) ["table", "log", "tree"] f20 d20)
    (d_judge_part : Df K mg "judge_part" (K93.topS 21) ["table", "tree"] f21 d21)
    (d_law_stream : Df K mg "_law_stream" (K93.topS 23) ["script"] f23 d23)
    (d_law_next : Df K mg "_law_next" (K93.topS 24) ["state", "many"] f24 d24)
    (d_law_same : Df K mg "_law_same" (K93.topS 25) ["told", "due"] f25 d25)
    (d_law_word : Df K mg "_law_word" (K93.topS 26) ["state", "taken"] f26 d26)
    (d_law_letters : Df K mg "_law_letters" (K93.topS 27) ["state", "many"] f27 d27)
    (d_law_map : Df K mg "_law_map" (K93.topS 28) ["state", "rooms", "kind"] f28 d28)
    (d_law_built : Df K mg "_law_built" (K93.topS 29) ["letters", "maps"] f29 d29)
    (d_law_table : Df K mg "_law_table" (K93.topS 30) ["state"] f30 d30)
    (d_law_log : Df K mg "_law_log" (K93.topS 33) ["state", "table", "many"] f33 d33)
    (d_law_height : Df K mg "_law_height" (K93.topS 34) ["tree"] f34 d34)
    (d_law_many : Df K mg "_law_many" (K93.topS 35) ["tree"] f35 d35)
    (d_law_node : Df K mg "_law_node" (K93.topS 36) ["table", "left", "right", "count"] f36 d36)
    (d_law_leaf : Df K mg "_law_leaf" (K93.topS 37) ["table", "letter"] f37 d37)
    (d_law_made_of : Df K mg "_law_made_of" (K93.topS 38) ["table", "leaves", "count"] f38 d38)
    (d_law_ordered : Df K mg "_law_ordered" (K93.topS 39) ["table", "first", "second", "is_left", "count"] f39 d39)
    (d_law_beside : Df K mg "_law_beside" (K93.topS 40) ["table", "low", "high", "is_left", "count"] f40 d40)
    (d_law_join : Df K mg "_law_join" (K93.topS 41) ["table", "left", "right", "count"] f41 d41)
    (d_law_cut : Df K mg "_law_cut" (K93.topS 42) ["table", "tree", "place", "count"] f42 d42)
    (d_law_leaves : Df K mg "_law_leaves" (K93.topS 43) ["tree"] f43 d43)
    (d_law_right_tree : Df K mg "_law_right_tree" (K93.topS 44) ["table", "tree"] f44 d44)
    (d_law_told : Df K mg "_law_told" (K93.topS 45) ["way", "table", "first", "second"] f45 d45)
    (d_law_spoilt : Df K mg "_law_spoilt" (K93.topS 46) ["state", "table", "tree"] f46 d46)
    (d_law_chain : Df K mg "_law_chain" (K93.topS 47) ["table", "log"] f47 d47)
    (d_law_judged : Df K mg "_law_judged" (K93.topS 48) ["state", "table", "log", "tree"] f48 d48)
    (d_law : Df K mg "law" (K93.topS 49) ["script"] f49 d49)
    (b_abs : mg "abs" = none)
    (b_all : mg "all" = none)
    (b_int : mg "int" = none)
    (b_isinstance : mg "isinstance" = none)
    (b_len : mg "len" = none)
    (b_list : mg "list" = none)
    (b_max : mg "max" = none)
    (b_min : mg "min" = none)
    (b_range : mg "range" = none)
    (b_repr : mg "repr" = none)
    (b_sorted : mg "sorted" = none)
    (b_tuple : mg "tuple" = none)
    (g_Part : Gc mg "Part" (.ref c20))
    (gc_Part : mg "Part" = some (.ref c20))
    (c_Part : Cls K c20)
    (n_Part_tree : NoAttr K c20 "tree")
    (n_Part_left : NoAttr K c20 "left")
    (n_Part_right : NoAttr K c20 "right")
    (n_Part_height : NoAttr K c20 "height")
    (n_Part_many : NoAttr K c20 "many")
    (g_Maker : Gc mg "Maker" (.ref c26))
    (gc_Maker : mg "Maker" = some (.ref c26))
    (c_Maker : Cls K c26)
    (n_Maker_table : NoAttr K c26 "table")
    (n_Maker_products : NoAttr K c26 "products")
    (g_ScarpError : Gc mg "ScarpError" (.ref c21))
    (gc_ScarpError : mg "ScarpError" = some (.ref c21))
    (g_NotAllowed : Gc mg "NotAllowed" (.ref c22))
    (gc_NotAllowed : mg "NotAllowed" = some (.ref c22))
    (g_TooLarge : Gc mg "TooLarge" (.ref c23))
    (gc_TooLarge : mg "TooLarge" = some (.ref c23))
    (g_Missing : Gc mg "Missing" (.ref c24))
    (gc_Missing : mg "Missing" = some (.ref c24))
    (g_BadPaper : Gc mg "BadPaper" (.ref c25))
    (gc_BadPaper : mg "BadPaper" = some (.ref c25))
    (x_NotAllowed : PySem.W.excIn K c22 [.type "ValueError", .type "Exception", .type "BaseException", .type "object"] "ValueError.__new__" = true)
    (k_NotAllowed : PySem.W.keepIn K (.ref c22) = true)
    (bb_NotAllowed : PySem.W.subIn K (.ref c22) (.type "BaseException") = some true)
    (ty_NotAllowed : PySem.W.typeIn K (.ref c22) = some (.type "type"))
    (e_NotAllowed : ExcC K c22)
    (x_BadPaper : PySem.W.excIn K c25 [.type "ValueError", .type "Exception", .type "BaseException", .type "object"] "ValueError.__new__" = true)
    (k_BadPaper : PySem.W.keepIn K (.ref c25) = true)
    (bb_BadPaper : PySem.W.subIn K (.ref c25) (.type "BaseException") = some true)
    (ty_BadPaper : PySem.W.typeIn K (.ref c25) = some (.type "type"))
    (e_BadPaper : ExcC K c25)
    (em_NotAllowed_NotAllowed : PySem.W.exmOne K (.ref c22) (.ref c22) = some true)
    (em_BadPaper_NotAllowed : PySem.W.exmOne K (.ref c25) (.ref c22) = some false)
    (em_BadPaper_BadPaper : PySem.W.exmOne K (.ref c25) (.ref c25) = some true)
    (ki_NotAllowed_ScarpError : PySem.W.kitOne K (.ref c22) (.ref c21) = some true)
    (ki_NotAllowed_Missing : PySem.W.kitOne K (.ref c22) (.ref c24) = some false)
    (ki_NotAllowed_BadPaper : PySem.W.kitOne K (.ref c22) (.ref c25) = some false)
    (ki_NotAllowed_TooLarge : PySem.W.kitOne K (.ref c22) (.ref c23) = some false)
    (ki_BadPaper_ScarpError : PySem.W.kitOne K (.ref c25) (.ref c21) = some true)
    (ki_BadPaper_Missing : PySem.W.kitOne K (.ref c25) (.ref c24) = some false)
    (ki_BadPaper_NotAllowed : PySem.W.kitOne K (.ref c25) (.ref c22) = some false)
    (ki_BadPaper_TooLarge : PySem.W.kitOne K (.ref c25) (.ref c23) = some false)
    : ∃ ad fu ca, Tx w K mg ad fu ca ∧ ad 49 = f49 ∧ fu 49 = d49 :=
  ⟨(fun n => if n = 8 then f8 else if n = 10 then f10 else if n = 11 then f11 else if n = 13 then f13 else if n = 14 then f14 else if n = 16 then f16 else if n = 17 then f17 else if n = 18 then f18 else if n = 19 then f19 else if n = 20 then f20 else if n = 21 then f21 else if n = 23 then f23 else if n = 24 then f24 else if n = 25 then f25 else if n = 26 then f26 else if n = 27 then f27 else if n = 28 then f28 else if n = 29 then f29 else if n = 30 then f30 else if n = 33 then f33 else if n = 34 then f34 else if n = 35 then f35 else if n = 36 then f36 else if n = 37 then f37 else if n = 38 then f38 else if n = 39 then f39 else if n = 40 then f40 else if n = 41 then f41 else if n = 42 then f42 else if n = 43 then f43 else if n = 44 then f44 else if n = 45 then f45 else if n = 46 then f46 else if n = 47 then f47 else if n = 48 then f48 else if n = 49 then f49 else if n = 2200 then f2200 else if n = 2500 then f2500 else if n = 2501 then f2501 else if n = 2502 then f2502 else if n = 2503 then f2503 else if n = 2504 then f2504 else if n = 2505 then f2505 else if n = 2506 then f2506 else if n = 2507 then f2507 else 0), (fun n => if n = 8 then d8 else if n = 10 then d10 else if n = 11 then d11 else if n = 13 then d13 else if n = 14 then d14 else if n = 16 then d16 else if n = 17 then d17 else if n = 18 then d18 else if n = 19 then d19 else if n = 20 then d20 else if n = 21 then d21 else if n = 23 then d23 else if n = 24 then d24 else if n = 25 then d25 else if n = 26 then d26 else if n = 27 then d27 else if n = 28 then d28 else if n = 29 then d29 else if n = 30 then d30 else if n = 33 then d33 else if n = 34 then d34 else if n = 35 then d35 else if n = 36 then d36 else if n = 37 then d37 else if n = 38 then d38 else if n = 39 then d39 else if n = 40 then d40 else if n = 41 then d41 else if n = 42 then d42 else if n = 43 then d43 else if n = 44 then d44 else if n = 45 then d45 else if n = 46 then d46 else if n = 47 then d47 else if n = 48 then d48 else if n = 49 then d49 else if n = 2200 then d2200 else if n = 2500 then d2500 else if n = 2501 then d2501 else if n = 2502 then d2502 else if n = 2503 then d2503 else if n = 2504 then d2504 else if n = 2505 then d2505 else if n = 2506 then d2506 else if n = 2507 then d2507 else d49), (fun n => if n = 20 then c20 else if n = 26 then c26 else if n = 21 then c21 else if n = 22 then c22 else if n = 23 then c23 else if n = 24 then c24 else if n = 25 then c25 else 0), { d_times := d_times, d_is_leaf := d_is_leaf, d_leaf_of := d_leaf_of, d_Part_init := d_Part_init, bi_Part_init := bi_Part_init, mk_Part := mk_Part, d_part_of := d_part_of, d_tree_of := d_tree_of, d_Maker_init := d_Maker_init, bi_Maker_init := bi_Maker_init, mk_Maker := mk_Maker, d_Maker_node := d_Maker_node, bi_Maker_node := bi_Maker_node, m_Maker_node := m_Maker_node, d_Maker_built := d_Maker_built, bi_Maker_built := bi_Maker_built, m_Maker_built := m_Maker_built, d_Maker_joined := d_Maker_joined, bi_Maker_joined := bi_Maker_joined, m_Maker_joined := m_Maker_joined, d_Maker_righted := d_Maker_righted, bi_Maker_righted := bi_Maker_righted, m_Maker_righted := m_Maker_righted, d_Maker_lefted := d_Maker_lefted, bi_Maker_lefted := bi_Maker_lefted, m_Maker_lefted := m_Maker_lefted, d_Maker_both := d_Maker_both, bi_Maker_both := bi_Maker_both, m_Maker_both := m_Maker_both, d_Maker_cut := d_Maker_cut, bi_Maker_cut := bi_Maker_cut, m_Maker_cut := m_Maker_cut, d_leaves_of := d_leaves_of, d_built := d_built, d_joined := d_joined, d_cut_at := d_cut_at, d_judge_tree := d_judge_tree, d_judge_part := d_judge_part, d_law_stream := d_law_stream, d_law_next := d_law_next, d_law_same := d_law_same, d_law_word := d_law_word, d_law_letters := d_law_letters, d_law_map := d_law_map, d_law_built := d_law_built, d_law_table := d_law_table, d_law_log := d_law_log, d_law_height := d_law_height, d_law_many := d_law_many, d_law_node := d_law_node, d_law_leaf := d_law_leaf, d_law_made_of := d_law_made_of, d_law_ordered := d_law_ordered, d_law_beside := d_law_beside, d_law_join := d_law_join, d_law_cut := d_law_cut, d_law_leaves := d_law_leaves, d_law_right_tree := d_law_right_tree, d_law_told := d_law_told, d_law_spoilt := d_law_spoilt, d_law_chain := d_law_chain, d_law_judged := d_law_judged, d_law := d_law, b_abs := b_abs, b_all := b_all, b_int := b_int, b_isinstance := b_isinstance, b_len := b_len, b_list := b_list, b_max := b_max, b_min := b_min, b_range := b_range, b_repr := b_repr, b_sorted := b_sorted, b_tuple := b_tuple, g_Part := g_Part, gc_Part := gc_Part, c_Part := c_Part, n_Part_tree := n_Part_tree, n_Part_left := n_Part_left, n_Part_right := n_Part_right, n_Part_height := n_Part_height, n_Part_many := n_Part_many, g_Maker := g_Maker, gc_Maker := gc_Maker, c_Maker := c_Maker, n_Maker_table := n_Maker_table, n_Maker_products := n_Maker_products, g_ScarpError := g_ScarpError, gc_ScarpError := gc_ScarpError, g_NotAllowed := g_NotAllowed, gc_NotAllowed := gc_NotAllowed, g_TooLarge := g_TooLarge, gc_TooLarge := gc_TooLarge, g_Missing := g_Missing, gc_Missing := gc_Missing, g_BadPaper := g_BadPaper, gc_BadPaper := gc_BadPaper, x_NotAllowed := x_NotAllowed, k_NotAllowed := k_NotAllowed, bb_NotAllowed := bb_NotAllowed, ty_NotAllowed := ty_NotAllowed, e_NotAllowed := e_NotAllowed, x_BadPaper := x_BadPaper, k_BadPaper := k_BadPaper, bb_BadPaper := bb_BadPaper, ty_BadPaper := ty_BadPaper, e_BadPaper := e_BadPaper, em_NotAllowed_NotAllowed := em_NotAllowed_NotAllowed, em_BadPaper_NotAllowed := em_BadPaper_NotAllowed, em_BadPaper_BadPaper := em_BadPaper_BadPaper, ki_NotAllowed_ScarpError := ki_NotAllowed_ScarpError, ki_NotAllowed_Missing := ki_NotAllowed_Missing, ki_NotAllowed_BadPaper := ki_NotAllowed_BadPaper, ki_NotAllowed_TooLarge := ki_NotAllowed_TooLarge, ki_BadPaper_ScarpError := ki_BadPaper_ScarpError, ki_BadPaper_Missing := ki_BadPaper_Missing, ki_BadPaper_NotAllowed := ki_BadPaper_NotAllowed, ki_BadPaper_TooLarge := ki_BadPaper_TooLarge }, rfl, rfl⟩
end K93
open PySem PySem.W PyProof.Rows in
set_option maxRecDepth 100000 in
set_option maxHeartbeats 0 in
theorem PySem.Challenge.cw_scarpface_k93_trees_joined_and_cut_holds : PySem.Challenge.rw_scarpface_k93_trees_joined_and_cut.Holds := by
  w_on; o_law; k_head; (case hw => w_witness2)
  k_fill
  refine Sf.walk_G (l := PySem.Challenge.rw_scarpface_k93_trees_joined_and_cut) (n := 63) (lv := 230) (pr := fun K => K93.sp_law K) rfl (by decide) rfl ⟨rfl, by decide, by decide⟩ (fun w h Y => PySem.W.kIn_of Y) rfl ?F (fun K H a ns hl hS => ⟨a, ns, rfl, hS, hl, fun _ => rfl⟩)
  case F =>
    intro w mg h KX G
    have X8 : ∃ f d, Sf.Df (L2.KOf KX) mg "times" (K93.topS 8) ["table", "first", "second"] f d := by
      dsimp only [L2.KOf]
      refine' Sf.df_mk KX G ?a ?l ?c ?k ?b
      (case a => k_is); (case l => k_is); (case c => k_is); (case k => k_is)
      case b => exact fun F => L2.Fun.binds (ps := ["table", "first", "second"]) F fun _ _ _ _ _ _ us hl => match us, hl with | [_, _, _], _ => rfl
    have X10 : ∃ f d, Sf.Df (L2.KOf KX) mg "is_leaf" (K93.topS 10) ["tree"] f d := by
      dsimp only [L2.KOf]
      refine' Sf.df_mk KX G ?a ?l ?c ?k ?b
      (case a => k_is); (case l => k_is); (case c => k_is); (case k => k_is)
      case b => exact fun F => L2.Fun.binds (ps := ["tree"]) F fun _ _ _ _ _ _ us hl => match us, hl with | [_], _ => rfl
    have X11 : ∃ f d, Sf.Df (L2.KOf KX) mg "leaf_of" (K93.topS 11) ["table", "letter"] f d := by
      dsimp only [L2.KOf]
      refine' Sf.df_mk KX G ?a ?l ?c ?k ?b
      (case a => k_is); (case l => k_is); (case c => k_is); (case k => k_is)
      case b => exact fun F => L2.Fun.binds (ps := ["table", "letter"]) F fun _ _ _ _ _ _ us hl => match us, hl with | [_, _], _ => rfl
    have X13 : ∃ f d, Sf.Df (L2.KOf KX) mg "part_of" (K93.topS 13) ["tree"] f d := by
      dsimp only [L2.KOf]
      refine' Sf.df_mk KX G ?a ?l ?c ?k ?b
      (case a => k_is); (case l => k_is); (case c => k_is); (case k => k_is)
      case b => exact fun F => L2.Fun.binds (ps := ["tree"]) F fun _ _ _ _ _ _ us hl => match us, hl with | [_], _ => rfl
    have X14 : ∃ f d, Sf.Df (L2.KOf KX) mg "tree_of" (K93.topS 14) ["part"] f d := by
      dsimp only [L2.KOf]
      refine' Sf.df_mk KX G ?a ?l ?c ?k ?b
      (case a => k_is); (case l => k_is); (case c => k_is); (case k => k_is)
      case b => exact fun F => L2.Fun.binds (ps := ["part"]) F fun _ _ _ _ _ _ us hl => match us, hl with | [_], _ => rfl
    have X16 : ∃ f d, Sf.Df (L2.KOf KX) mg "leaves_of" (K93.topS 16) ["tree"] f d := by
      dsimp only [L2.KOf]
      refine' Sf.df_mk KX G ?a ?l ?c ?k ?b
      (case a => k_is); (case l => k_is); (case c => k_is); (case k => k_is)
      case b => exact fun F => L2.Fun.binds (ps := ["tree"]) F fun _ _ _ _ _ _ us hl => match us, hl with | [_], _ => rfl
    have X17 : ∃ f d, Sf.Df (L2.KOf KX) mg "built" (K93.topS 17) ["table", "log"] f d := by
      dsimp only [L2.KOf]
      refine' Sf.df_mk KX G ?a ?l ?c ?k ?b
      (case a => k_is); (case l => k_is); (case c => k_is); (case k => k_is)
      case b => exact fun F => L2.Fun.binds (ps := ["table", "log"]) F fun _ _ _ _ _ _ us hl => match us, hl with | [_, _], _ => rfl
    have X18 : ∃ f d, Sf.Df (L2.KOf KX) mg "joined" (K93.topS 18) ["table", "first", "second"] f d := by
      dsimp only [L2.KOf]
      refine' Sf.df_mk KX G ?a ?l ?c ?k ?b
      (case a => k_is); (case l => k_is); (case c => k_is); (case k => k_is)
      case b => exact fun F => L2.Fun.binds (ps := ["table", "first", "second"]) F fun _ _ _ _ _ _ us hl => match us, hl with | [_, _, _], _ => rfl
    have X19 : ∃ f d, Sf.Df (L2.KOf KX) mg "cut_at" (K93.topS 19) ["table", "tree", "place"] f d := by
      dsimp only [L2.KOf]
      refine' Sf.df_mk KX G ?a ?l ?c ?k ?b
      (case a => k_is); (case l => k_is); (case c => k_is); (case k => k_is)
      case b => exact fun F => L2.Fun.binds (ps := ["table", "tree", "place"]) F fun _ _ _ _ _ _ us hl => match us, hl with | [_, _, _], _ => rfl
    have X20 : ∃ f d, Sf.Df (L2.KOf KX) mg "judge_tree" (K93.topS 20) ["table", "log", "tree"] f d := by
      dsimp only [L2.KOf]
      refine' Sf.df_mk KX G ?a ?l ?c ?k ?b
      (case a => k_is); (case l => k_is); (case c => k_is); (case k => k_is)
      case b => exact fun F => L2.Fun.binds (ps := ["table", "log", "tree"]) F fun _ _ _ _ _ _ us hl => match us, hl with | [_, _, _], _ => rfl
    have X21 : ∃ f d, Sf.Df (L2.KOf KX) mg "judge_part" (K93.topS 21) ["table", "tree"] f d := by
      dsimp only [L2.KOf]
      refine' Sf.df_mk KX G ?a ?l ?c ?k ?b
      (case a => k_is); (case l => k_is); (case c => k_is); (case k => k_is)
      case b => exact fun F => L2.Fun.binds (ps := ["table", "tree"]) F fun _ _ _ _ _ _ us hl => match us, hl with | [_, _], _ => rfl
    have X23 : ∃ f d, Sf.Df (L2.KOf KX) mg "_law_stream" (K93.topS 23) ["script"] f d := by
      dsimp only [L2.KOf]
      refine' Sf.df_mk KX G ?a ?l ?c ?k ?b
      (case a => k_is); (case l => k_is); (case c => k_is); (case k => k_is)
      case b => exact fun F => L2.Fun.binds (ps := ["script"]) F fun _ _ _ _ _ _ us hl => match us, hl with | [_], _ => rfl
    have X24 : ∃ f d, Sf.Df (L2.KOf KX) mg "_law_next" (K93.topS 24) ["state", "many"] f d := by
      dsimp only [L2.KOf]
      refine' Sf.df_mk KX G ?a ?l ?c ?k ?b
      (case a => k_is); (case l => k_is); (case c => k_is); (case k => k_is)
      case b => exact fun F => L2.Fun.binds (ps := ["state", "many"]) F fun _ _ _ _ _ _ us hl => match us, hl with | [_, _], _ => rfl
    have X25 : ∃ f d, Sf.Df (L2.KOf KX) mg "_law_same" (K93.topS 25) ["told", "due"] f d := by
      dsimp only [L2.KOf]
      refine' Sf.df_mk KX G ?a ?l ?c ?k ?b
      (case a => k_is); (case l => k_is); (case c => k_is); (case k => k_is)
      case b => exact fun F => L2.Fun.binds (ps := ["told", "due"]) F fun _ _ _ _ _ _ us hl => match us, hl with | [_, _], _ => rfl
    have X26 : ∃ f d, Sf.Df (L2.KOf KX) mg "_law_word" (K93.topS 26) ["state", "taken"] f d := by
      dsimp only [L2.KOf]
      refine' Sf.df_mk KX G ?a ?l ?c ?k ?b
      (case a => k_is); (case l => k_is); (case c => k_is); (case k => k_is)
      case b => exact fun F => L2.Fun.binds (ps := ["state", "taken"]) F fun _ _ _ _ _ _ us hl => match us, hl with | [_, _], _ => rfl
    have X27 : ∃ f d, Sf.Df (L2.KOf KX) mg "_law_letters" (K93.topS 27) ["state", "many"] f d := by
      dsimp only [L2.KOf]
      refine' Sf.df_mk KX G ?a ?l ?c ?k ?b
      (case a => k_is); (case l => k_is); (case c => k_is); (case k => k_is)
      case b => exact fun F => L2.Fun.binds (ps := ["state", "many"]) F fun _ _ _ _ _ _ us hl => match us, hl with | [_, _], _ => rfl
    have X28 : ∃ f d, Sf.Df (L2.KOf KX) mg "_law_map" (K93.topS 28) ["state", "rooms", "kind"] f d := by
      dsimp only [L2.KOf]
      refine' Sf.df_mk KX G ?a ?l ?c ?k ?b
      (case a => k_is); (case l => k_is); (case c => k_is); (case k => k_is)
      case b => exact fun F => L2.Fun.binds (ps := ["state", "rooms", "kind"]) F fun _ _ _ _ _ _ us hl => match us, hl with | [_, _, _], _ => rfl
    have X29 : ∃ f d, Sf.Df (L2.KOf KX) mg "_law_built" (K93.topS 29) ["letters", "maps"] f d := by
      dsimp only [L2.KOf]
      refine' Sf.df_mk KX G ?a ?l ?c ?k ?b
      (case a => k_is); (case l => k_is); (case c => k_is); (case k => k_is)
      case b => exact fun F => L2.Fun.binds (ps := ["letters", "maps"]) F fun _ _ _ _ _ _ us hl => match us, hl with | [_, _], _ => rfl
    have X30 : ∃ f d, Sf.Df (L2.KOf KX) mg "_law_table" (K93.topS 30) ["state"] f d := by
      dsimp only [L2.KOf]
      refine' Sf.df_mk KX G ?a ?l ?c ?k ?b
      (case a => k_is); (case l => k_is); (case c => k_is); (case k => k_is)
      case b => exact fun F => L2.Fun.binds (ps := ["state"]) F fun _ _ _ _ _ _ us hl => match us, hl with | [_], _ => rfl
    have X33 : ∃ f d, Sf.Df (L2.KOf KX) mg "_law_log" (K93.topS 33) ["state", "table", "many"] f d := by
      dsimp only [L2.KOf]
      refine' Sf.df_mk KX G ?a ?l ?c ?k ?b
      (case a => k_is); (case l => k_is); (case c => k_is); (case k => k_is)
      case b => exact fun F => L2.Fun.binds (ps := ["state", "table", "many"]) F fun _ _ _ _ _ _ us hl => match us, hl with | [_, _, _], _ => rfl
    have X34 : ∃ f d, Sf.Df (L2.KOf KX) mg "_law_height" (K93.topS 34) ["tree"] f d := by
      dsimp only [L2.KOf]
      refine' Sf.df_mk KX G ?a ?l ?c ?k ?b
      (case a => k_is); (case l => k_is); (case c => k_is); (case k => k_is)
      case b => exact fun F => L2.Fun.binds (ps := ["tree"]) F fun _ _ _ _ _ _ us hl => match us, hl with | [_], _ => rfl
    have X35 : ∃ f d, Sf.Df (L2.KOf KX) mg "_law_many" (K93.topS 35) ["tree"] f d := by
      dsimp only [L2.KOf]
      refine' Sf.df_mk KX G ?a ?l ?c ?k ?b
      (case a => k_is); (case l => k_is); (case c => k_is); (case k => k_is)
      case b => exact fun F => L2.Fun.binds (ps := ["tree"]) F fun _ _ _ _ _ _ us hl => match us, hl with | [_], _ => rfl
    have X36 : ∃ f d, Sf.Df (L2.KOf KX) mg "_law_node" (K93.topS 36) ["table", "left", "right", "count"] f d := by
      dsimp only [L2.KOf]
      refine' Sf.df_mk KX G ?a ?l ?c ?k ?b
      (case a => k_is); (case l => k_is); (case c => k_is); (case k => k_is)
      case b => exact fun F => L2.Fun.binds (ps := ["table", "left", "right", "count"]) F fun _ _ _ _ _ _ us hl => match us, hl with | [_, _, _, _], _ => rfl
    have X37 : ∃ f d, Sf.Df (L2.KOf KX) mg "_law_leaf" (K93.topS 37) ["table", "letter"] f d := by
      dsimp only [L2.KOf]
      refine' Sf.df_mk KX G ?a ?l ?c ?k ?b
      (case a => k_is); (case l => k_is); (case c => k_is); (case k => k_is)
      case b => exact fun F => L2.Fun.binds (ps := ["table", "letter"]) F fun _ _ _ _ _ _ us hl => match us, hl with | [_, _], _ => rfl
    have X38 : ∃ f d, Sf.Df (L2.KOf KX) mg "_law_made_of" (K93.topS 38) ["table", "leaves", "count"] f d := by
      dsimp only [L2.KOf]
      refine' Sf.df_mk KX G ?a ?l ?c ?k ?b
      (case a => k_is); (case l => k_is); (case c => k_is); (case k => k_is)
      case b => exact fun F => L2.Fun.binds (ps := ["table", "leaves", "count"]) F fun _ _ _ _ _ _ us hl => match us, hl with | [_, _, _], _ => rfl
    have X39 : ∃ f d, Sf.Df (L2.KOf KX) mg "_law_ordered" (K93.topS 39) ["table", "first", "second", "is_left", "count"] f d := by
      dsimp only [L2.KOf]
      refine' Sf.df_mk KX G ?a ?l ?c ?k ?b
      (case a => k_is); (case l => k_is); (case c => k_is); (case k => k_is)
      case b => exact fun F => L2.Fun.binds (ps := ["table", "first", "second", "is_left", "count"]) F fun _ _ _ _ _ _ us hl => match us, hl with | [_, _, _, _, _], _ => rfl
    have X40 : ∃ f d, Sf.Df (L2.KOf KX) mg "_law_beside" (K93.topS 40) ["table", "low", "high", "is_left", "count"] f d := by
      dsimp only [L2.KOf]
      refine' Sf.df_mk KX G ?a ?l ?c ?k ?b
      (case a => k_is); (case l => k_is); (case c => k_is); (case k => k_is)
      case b => exact fun F => L2.Fun.binds (ps := ["table", "low", "high", "is_left", "count"]) F fun _ _ _ _ _ _ us hl => match us, hl with | [_, _, _, _, _], _ => rfl
    have X41 : ∃ f d, Sf.Df (L2.KOf KX) mg "_law_join" (K93.topS 41) ["table", "left", "right", "count"] f d := by
      dsimp only [L2.KOf]
      refine' Sf.df_mk KX G ?a ?l ?c ?k ?b
      (case a => k_is); (case l => k_is); (case c => k_is); (case k => k_is)
      case b => exact fun F => L2.Fun.binds (ps := ["table", "left", "right", "count"]) F fun _ _ _ _ _ _ us hl => match us, hl with | [_, _, _, _], _ => rfl
    have X42 : ∃ f d, Sf.Df (L2.KOf KX) mg "_law_cut" (K93.topS 42) ["table", "tree", "place", "count"] f d := by
      dsimp only [L2.KOf]
      refine' Sf.df_mk KX G ?a ?l ?c ?k ?b
      (case a => k_is); (case l => k_is); (case c => k_is); (case k => k_is)
      case b => exact fun F => L2.Fun.binds (ps := ["table", "tree", "place", "count"]) F fun _ _ _ _ _ _ us hl => match us, hl with | [_, _, _, _], _ => rfl
    have X43 : ∃ f d, Sf.Df (L2.KOf KX) mg "_law_leaves" (K93.topS 43) ["tree"] f d := by
      dsimp only [L2.KOf]
      refine' Sf.df_mk KX G ?a ?l ?c ?k ?b
      (case a => k_is); (case l => k_is); (case c => k_is); (case k => k_is)
      case b => exact fun F => L2.Fun.binds (ps := ["tree"]) F fun _ _ _ _ _ _ us hl => match us, hl with | [_], _ => rfl
    have X44 : ∃ f d, Sf.Df (L2.KOf KX) mg "_law_right_tree" (K93.topS 44) ["table", "tree"] f d := by
      dsimp only [L2.KOf]
      refine' Sf.df_mk KX G ?a ?l ?c ?k ?b
      (case a => k_is); (case l => k_is); (case c => k_is); (case k => k_is)
      case b => exact fun F => L2.Fun.binds (ps := ["table", "tree"]) F fun _ _ _ _ _ _ us hl => match us, hl with | [_, _], _ => rfl
    have X45 : ∃ f d, Sf.Df (L2.KOf KX) mg "_law_told" (K93.topS 45) ["way", "table", "first", "second"] f d := by
      dsimp only [L2.KOf]
      refine' Sf.df_mk KX G ?a ?l ?c ?k ?b
      (case a => k_is); (case l => k_is); (case c => k_is); (case k => k_is)
      case b => exact fun F => L2.Fun.binds (ps := ["way", "table", "first", "second"]) F fun _ _ _ _ _ _ us hl => match us, hl with | [_, _, _, _], _ => rfl
    have X46 : ∃ f d, Sf.Df (L2.KOf KX) mg "_law_spoilt" (K93.topS 46) ["state", "table", "tree"] f d := by
      dsimp only [L2.KOf]
      refine' Sf.df_mk KX G ?a ?l ?c ?k ?b
      (case a => k_is); (case l => k_is); (case c => k_is); (case k => k_is)
      case b => exact fun F => L2.Fun.binds (ps := ["state", "table", "tree"]) F fun _ _ _ _ _ _ us hl => match us, hl with | [_, _, _], _ => rfl
    have X47 : ∃ f d, Sf.Df (L2.KOf KX) mg "_law_chain" (K93.topS 47) ["table", "log"] f d := by
      dsimp only [L2.KOf]
      refine' Sf.df_mk KX G ?a ?l ?c ?k ?b
      (case a => k_is); (case l => k_is); (case c => k_is); (case k => k_is)
      case b => exact fun F => L2.Fun.binds (ps := ["table", "log"]) F fun _ _ _ _ _ _ us hl => match us, hl with | [_, _], _ => rfl
    have X48 : ∃ f d, Sf.Df (L2.KOf KX) mg "_law_judged" (K93.topS 48) ["state", "table", "log", "tree"] f d := by
      dsimp only [L2.KOf]
      refine' Sf.df_mk KX G ?a ?l ?c ?k ?b
      (case a => k_is); (case l => k_is); (case c => k_is); (case k => k_is)
      case b => exact fun F => L2.Fun.binds (ps := ["state", "table", "log", "tree"]) F fun _ _ _ _ _ _ us hl => match us, hl with | [_, _, _, _], _ => rfl
    have X49 : ∃ f d, Sf.Df (L2.KOf KX) mg "law" (K93.topS 49) ["script"] f d := by
      dsimp only [L2.KOf]
      refine' Sf.df_mk KX G ?a ?l ?c ?k ?b
      (case a => k_is); (case l => k_is); (case c => k_is); (case k => k_is)
      case b => exact fun F => L2.Fun.binds (ps := ["script"]) F fun _ _ _ _ _ _ us hl => match us, hl with | [_], _ => rfl
    have Z_abs : mg "abs" = none := by
      refine' PySem.W.mg_none_of KX G ?a
      case a => k_is
    have Z_all : mg "all" = none := by
      refine' PySem.W.mg_none_of KX G ?a
      case a => k_is
    have Z_int : mg "int" = none := by
      refine' PySem.W.mg_none_of KX G ?a
      case a => k_is
    have Z_isinstance : mg "isinstance" = none := by
      refine' PySem.W.mg_none_of KX G ?a
      case a => k_is
    have Z_len : mg "len" = none := by
      refine' PySem.W.mg_none_of KX G ?a
      case a => k_is
    have Z_list : mg "list" = none := by
      refine' PySem.W.mg_none_of KX G ?a
      case a => k_is
    have Z_max : mg "max" = none := by
      refine' PySem.W.mg_none_of KX G ?a
      case a => k_is
    have Z_min : mg "min" = none := by
      refine' PySem.W.mg_none_of KX G ?a
      case a => k_is
    have Z_range : mg "range" = none := by
      refine' PySem.W.mg_none_of KX G ?a
      case a => k_is
    have Z_repr : mg "repr" = none := by
      refine' PySem.W.mg_none_of KX G ?a
      case a => k_is
    have Z_sorted : mg "sorted" = none := by
      refine' PySem.W.mg_none_of KX G ?a
      case a => k_is
    have Z_tuple : mg "tuple" = none := by
      refine' PySem.W.mg_none_of KX G ?a
      case a => k_is
    have XC : ∃ (c20 c26 c21 c22 c23 c24 c25 f2200 f2500 f2501 f2502 f2503 f2504 f2505 f2506 f2507 : Addr) (d2200 d2500 d2501 d2502 d2503 d2504 d2505 d2506 d2507 : FuncData), mg "Part" = some (.ref c20) ∧ L2.Cls (L2.KOf KX) c20 ∧ L2.NoAttr (L2.KOf KX) c20 "tree" ∧ L2.NoAttr (L2.KOf KX) c20 "left" ∧ L2.NoAttr (L2.KOf KX) c20 "right" ∧ L2.NoAttr (L2.KOf KX) c20 "height" ∧ L2.NoAttr (L2.KOf KX) c20 "many" ∧ mg "Maker" = some (.ref c26) ∧ L2.Cls (L2.KOf KX) c26 ∧ L2.NoAttr (L2.KOf KX) c26 "table" ∧ L2.NoAttr (L2.KOf KX) c26 "products" ∧ mg "ScarpError" = some (.ref c21) ∧ mg "NotAllowed" = some (.ref c22) ∧ mg "TooLarge" = some (.ref c23) ∧ mg "Missing" = some (.ref c24) ∧ mg "BadPaper" = some (.ref c25) ∧ L2.Fun (L2.KOf KX) "__init__" "Part.__init__" (L2.inClass (K93.topS 12) 0) f2200 d2200 ∧ L2.Binds (L2.KOf KX) d2200 ["self", "tree", "left", "right"] [] ∧ L2.Mk (L2.KOf KX) c20 f2200 ∧ L2.Fun (L2.KOf KX) "__init__" "Maker.__init__" (L2.inClass (K93.topS 15) 0) f2500 d2500 ∧ L2.Binds (L2.KOf KX) d2500 ["self", "table"] [] ∧ L2.Mk (L2.KOf KX) c26 f2500 ∧ L2.Fun (L2.KOf KX) "node" "Maker.node" (L2.inClass (K93.topS 15) 1) f2501 d2501 ∧ L2.Binds (L2.KOf KX) d2501 ["self", "left", "right"] [] ∧ L2.Meth (L2.KOf KX) c26 "node" f2501 ∧ L2.Fun (L2.KOf KX) "built" "Maker.built" (L2.inClass (K93.topS 15) 2) f2502 d2502 ∧ L2.Binds (L2.KOf KX) d2502 ["self", "leaves"] [] ∧ L2.Meth (L2.KOf KX) c26 "built" f2502 ∧ L2.Fun (L2.KOf KX) "joined" "Maker.joined" (L2.inClass (K93.topS 15) 3) f2503 d2503 ∧ L2.Binds (L2.KOf KX) d2503 ["self", "left", "right"] [] ∧ L2.Meth (L2.KOf KX) c26 "joined" f2503 ∧ L2.Fun (L2.KOf KX) "righted" "Maker.righted" (L2.inClass (K93.topS 15) 4) f2504 d2504 ∧ L2.Binds (L2.KOf KX) d2504 ["self", "left", "right"] [] ∧ L2.Meth (L2.KOf KX) c26 "righted" f2504 ∧ L2.Fun (L2.KOf KX) "lefted" "Maker.lefted" (L2.inClass (K93.topS 15) 5) f2505 d2505 ∧ L2.Binds (L2.KOf KX) d2505 ["self", "left", "right"] [] ∧ L2.Meth (L2.KOf KX) c26 "lefted" f2505 ∧ L2.Fun (L2.KOf KX) "both" "Maker.both" (L2.inClass (K93.topS 15) 6) f2506 d2506 ∧ L2.Binds (L2.KOf KX) d2506 ["self", "left", "right"] [] ∧ L2.Meth (L2.KOf KX) c26 "both" f2506 ∧ L2.Fun (L2.KOf KX) "cut" "Maker.cut" (L2.inClass (K93.topS 15) 7) f2507 d2507 ∧ L2.Binds (L2.KOf KX) d2507 ["self", "part", "place"] [] ∧ L2.Meth (L2.KOf KX) c26 "cut" f2507 ∧ PySem.W.excIn (L2.KOf KX) c22 [.type "ValueError", .type "Exception", .type "BaseException", .type "object"] "ValueError.__new__" = true ∧ PySem.W.keepIn (L2.KOf KX) (.ref c22) = true ∧ PySem.W.subIn (L2.KOf KX) (.ref c22) (.type "BaseException") = some true ∧ PySem.W.typeIn (L2.KOf KX) (.ref c22) = some (.type "type") ∧ L2.ExcC (L2.KOf KX) c22 ∧ PySem.W.excIn (L2.KOf KX) c25 [.type "ValueError", .type "Exception", .type "BaseException", .type "object"] "ValueError.__new__" = true ∧ PySem.W.keepIn (L2.KOf KX) (.ref c25) = true ∧ PySem.W.subIn (L2.KOf KX) (.ref c25) (.type "BaseException") = some true ∧ PySem.W.typeIn (L2.KOf KX) (.ref c25) = some (.type "type") ∧ L2.ExcC (L2.KOf KX) c25 ∧ PySem.W.exmOne (L2.KOf KX) (.ref c22) (.ref c22) = some true ∧ PySem.W.exmOne (L2.KOf KX) (.ref c25) (.ref c22) = some false ∧ PySem.W.exmOne (L2.KOf KX) (.ref c25) (.ref c25) = some true ∧ PySem.W.kitOne (L2.KOf KX) (.ref c22) (.ref c21) = some true ∧ PySem.W.kitOne (L2.KOf KX) (.ref c22) (.ref c24) = some false ∧ PySem.W.kitOne (L2.KOf KX) (.ref c22) (.ref c25) = some false ∧ PySem.W.kitOne (L2.KOf KX) (.ref c22) (.ref c23) = some false ∧ PySem.W.kitOne (L2.KOf KX) (.ref c25) (.ref c21) = some true ∧ PySem.W.kitOne (L2.KOf KX) (.ref c25) (.ref c24) = some false ∧ PySem.W.kitOne (L2.KOf KX) (.ref c25) (.ref c22) = some false ∧ PySem.W.kitOne (L2.KOf KX) (.ref c25) (.ref c23) = some false := by
      dsimp only [L2.KOf]
      refine' K93.cls_mk KX G ?a20 ?pg20 ?po20 ?hd20 ?sa20 ?mk20 ?kp20 ?n20tree ?n20left ?n20right ?n20height ?n20many ?a26 ?pg26 ?po26 ?hd26 ?sa26 ?mk26 ?kp26 ?n26table ?n26products ?a21 ?a22 ?a23 ?a24 ?a25 ?m2200 ?i2200 ?l2200 ?q2200 ?k2200 ?m2500 ?i2500 ?l2500 ?q2500 ?k2500 ?m2501 ?i2501 ?l2501 ?q2501 ?k2501 ?m2502 ?i2502 ?l2502 ?q2502 ?k2502 ?m2503 ?i2503 ?l2503 ?q2503 ?k2503 ?m2504 ?i2504 ?l2504 ?q2504 ?k2504 ?m2505 ?i2505 ?l2505 ?q2505 ?k2505 ?m2506 ?i2506 ?l2506 ?q2506 ?k2506 ?m2507 ?i2507 ?l2507 ?q2507 ?k2507 ?x22 ?kp22 ?bb22 ?ty22 ?hd22 ?ga22 ?gt22 ?cc22 ?sp0 ?tk0 ?mo22 ?x25 ?kp25 ?bb25 ?ty25 ?hd25 ?ga25 ?gt25 ?cc25 ?mo25 ?su22_22 ?su25_22 ?su25_25 ?su22_21 ?is21 ?ty21 ?ne22_21 ?su22_24 ?is24 ?ty24 ?ne22_24 ?su22_25 ?is25 ?ne22_25 ?su22_23 ?is23 ?ty23 ?ne22_23 ?su25_21 ?ne25_21 ?su25_24 ?ne25_24 ?is22 ?ne25_22 ?su25_23 ?ne25_23
      (case a20 => k_is)
      (case pg20 => k_is)
      (case po20 => k_is)
      (case hd20 => k_is)
      (case sa20 => k_is)
      (case mk20 => k_is)
      (case kp20 => k_is)
      (case n20tree => k_is)
      (case n20left => k_is)
      (case n20right => k_is)
      (case n20height => k_is)
      (case n20many => k_is)
      (case a26 => k_is)
      (case pg26 => k_is)
      (case po26 => k_is)
      (case hd26 => k_is)
      (case sa26 => k_is)
      (case mk26 => k_is)
      (case kp26 => k_is)
      (case n26table => k_is)
      (case n26products => k_is)
      (case a21 => k_is)
      (case a22 => k_is)
      (case a23 => k_is)
      (case a24 => k_is)
      (case a25 => k_is)
      (case m2200 => k_is)
      (case i2200 => k_is)
      (case l2200 => k_is)
      (case q2200 => k_is)
      (case k2200 => k_is)
      (case m2500 => k_is)
      (case i2500 => k_is)
      (case l2500 => k_is)
      (case q2500 => k_is)
      (case k2500 => k_is)
      (case m2501 => k_is)
      (case i2501 => k_is)
      (case l2501 => k_is)
      (case q2501 => k_is)
      (case k2501 => k_is)
      (case m2502 => k_is)
      (case i2502 => k_is)
      (case l2502 => k_is)
      (case q2502 => k_is)
      (case k2502 => k_is)
      (case m2503 => k_is)
      (case i2503 => k_is)
      (case l2503 => k_is)
      (case q2503 => k_is)
      (case k2503 => k_is)
      (case m2504 => k_is)
      (case i2504 => k_is)
      (case l2504 => k_is)
      (case q2504 => k_is)
      (case k2504 => k_is)
      (case m2505 => k_is)
      (case i2505 => k_is)
      (case l2505 => k_is)
      (case q2505 => k_is)
      (case k2505 => k_is)
      (case m2506 => k_is)
      (case i2506 => k_is)
      (case l2506 => k_is)
      (case q2506 => k_is)
      (case k2506 => k_is)
      (case m2507 => k_is)
      (case i2507 => k_is)
      (case l2507 => k_is)
      (case q2507 => k_is)
      (case k2507 => k_is)
      (case x22 => k_exc)
      (case kp22 => k_is)
      (case bb22 => k_is)
      (case ty22 => k_is)
      (case hd22 => k_is)
      (case ga22 => k_is)
      (case gt22 => k_is)
      (case cc22 => k_is)
      (case sp0 => k_is)
      (case tk0 => k_is)
      (case mo22 => k_is)
      (case x25 => k_exc)
      (case kp25 => k_is)
      (case bb25 => k_is)
      (case ty25 => k_is)
      (case hd25 => k_is)
      (case ga25 => k_is)
      (case gt25 => k_is)
      (case cc25 => k_is)
      (case mo25 => k_is)
      (case su22_22 => first | rfl | k_is)
      (case su25_22 => first | rfl | k_is)
      (case su25_25 => first | rfl | k_is)
      (case su22_21 => first | rfl | k_is)
      (case is21 => k_is)
      (case ty21 => k_is)
      (case ne22_21 => first | rfl | decide)
      (case su22_24 => first | rfl | k_is)
      (case is24 => k_is)
      (case ty24 => k_is)
      (case ne22_24 => first | rfl | decide)
      (case su22_25 => first | rfl | k_is)
      (case is25 => k_is)
      (case ne22_25 => first | rfl | decide)
      (case su22_23 => first | rfl | k_is)
      (case is23 => k_is)
      (case ty23 => k_is)
      (case ne22_23 => first | rfl | decide)
      (case su25_21 => first | rfl | k_is)
      (case ne25_21 => first | rfl | decide)
      (case su25_24 => first | rfl | k_is)
      (case ne25_24 => first | rfl | decide)
      (case is22 => k_is)
      (case ne25_22 => first | rfl | decide)
      (case su25_23 => first | rfl | k_is)
      (case ne25_23 => first | rfl | decide)
    obtain ⟨f8, d8, D8⟩ := X8
    obtain ⟨f10, d10, D10⟩ := X10
    obtain ⟨f11, d11, D11⟩ := X11
    obtain ⟨f13, d13, D13⟩ := X13
    obtain ⟨f14, d14, D14⟩ := X14
    obtain ⟨f16, d16, D16⟩ := X16
    obtain ⟨f17, d17, D17⟩ := X17
    obtain ⟨f18, d18, D18⟩ := X18
    obtain ⟨f19, d19, D19⟩ := X19
    obtain ⟨f20, d20, D20⟩ := X20
    obtain ⟨f21, d21, D21⟩ := X21
    obtain ⟨f23, d23, D23⟩ := X23
    obtain ⟨f24, d24, D24⟩ := X24
    obtain ⟨f25, d25, D25⟩ := X25
    obtain ⟨f26, d26, D26⟩ := X26
    obtain ⟨f27, d27, D27⟩ := X27
    obtain ⟨f28, d28, D28⟩ := X28
    obtain ⟨f29, d29, D29⟩ := X29
    obtain ⟨f30, d30, D30⟩ := X30
    obtain ⟨f33, d33, D33⟩ := X33
    obtain ⟨f34, d34, D34⟩ := X34
    obtain ⟨f35, d35, D35⟩ := X35
    obtain ⟨f36, d36, D36⟩ := X36
    obtain ⟨f37, d37, D37⟩ := X37
    obtain ⟨f38, d38, D38⟩ := X38
    obtain ⟨f39, d39, D39⟩ := X39
    obtain ⟨f40, d40, D40⟩ := X40
    obtain ⟨f41, d41, D41⟩ := X41
    obtain ⟨f42, d42, D42⟩ := X42
    obtain ⟨f43, d43, D43⟩ := X43
    obtain ⟨f44, d44, D44⟩ := X44
    obtain ⟨f45, d45, D45⟩ := X45
    obtain ⟨f46, d46, D46⟩ := X46
    obtain ⟨f47, d47, D47⟩ := X47
    obtain ⟨f48, d48, D48⟩ := X48
    obtain ⟨f49, d49, D49⟩ := X49
    obtain ⟨c20, c26, c21, c22, c23, c24, c25, f2200, f2500, f2501, f2502, f2503, f2504, f2505, f2506, f2507, d2200, d2500, d2501, d2502, d2503, d2504, d2505, d2506, d2507, gc_Part, c_Part, n_Part_tree, n_Part_left, n_Part_right, n_Part_height, n_Part_many, gc_Maker, c_Maker, n_Maker_table, n_Maker_products, gc_ScarpError, gc_NotAllowed, gc_TooLarge, gc_Missing, gc_BadPaper, d_Part_init, bi_Part_init, mk_Part, d_Maker_init, bi_Maker_init, mk_Maker, d_Maker_node, bi_Maker_node, m_Maker_node, d_Maker_built, bi_Maker_built, m_Maker_built, d_Maker_joined, bi_Maker_joined, m_Maker_joined, d_Maker_righted, bi_Maker_righted, m_Maker_righted, d_Maker_lefted, bi_Maker_lefted, m_Maker_lefted, d_Maker_both, bi_Maker_both, m_Maker_both, d_Maker_cut, bi_Maker_cut, m_Maker_cut, x_NotAllowed, k_NotAllowed, bb_NotAllowed, ty_NotAllowed, e_NotAllowed, x_BadPaper, k_BadPaper, bb_BadPaper, ty_BadPaper, e_BadPaper, em_NotAllowed_NotAllowed, em_BadPaper_NotAllowed, em_BadPaper_BadPaper, ki_NotAllowed_ScarpError, ki_NotAllowed_Missing, ki_NotAllowed_BadPaper, ki_NotAllowed_TooLarge, ki_BadPaper_ScarpError, ki_BadPaper_Missing, ki_BadPaper_NotAllowed, ki_BadPaper_TooLarge⟩ := XC
    obtain ⟨ad, fu, ca, T, e1, e2⟩ := K93.tx_mk D8 D10 D11 d_Part_init bi_Part_init mk_Part D13 D14 d_Maker_init bi_Maker_init mk_Maker d_Maker_node bi_Maker_node m_Maker_node d_Maker_built bi_Maker_built m_Maker_built d_Maker_joined bi_Maker_joined m_Maker_joined d_Maker_righted bi_Maker_righted m_Maker_righted d_Maker_lefted bi_Maker_lefted m_Maker_lefted d_Maker_both bi_Maker_both m_Maker_both d_Maker_cut bi_Maker_cut m_Maker_cut D16 D17 D18 D19 D20 D21 D23 D24 D25 D26 D27 D28 D29 D30 D33 D34 D35 D36 D37 D38 D39 D40 D41 D42 D43 D44 D45 D46 D47 D48 D49 Z_abs Z_all Z_int Z_isinstance Z_len Z_list Z_max Z_min Z_range Z_repr Z_sorted Z_tuple ⟨_, gc_Part, rfl⟩ gc_Part c_Part n_Part_tree n_Part_left n_Part_right n_Part_height n_Part_many ⟨_, gc_Maker, rfl⟩ gc_Maker c_Maker n_Maker_table n_Maker_products ⟨_, gc_ScarpError, rfl⟩ gc_ScarpError ⟨_, gc_NotAllowed, rfl⟩ gc_NotAllowed ⟨_, gc_TooLarge, rfl⟩ gc_TooLarge ⟨_, gc_Missing, rfl⟩ gc_Missing ⟨_, gc_BadPaper, rfl⟩ gc_BadPaper x_NotAllowed k_NotAllowed bb_NotAllowed ty_NotAllowed e_NotAllowed x_BadPaper k_BadPaper bb_BadPaper ty_BadPaper e_BadPaper em_NotAllowed_NotAllowed em_BadPaper_NotAllowed em_BadPaper_BadPaper ki_NotAllowed_ScarpError ki_NotAllowed_Missing ki_NotAllowed_BadPaper ki_NotAllowed_TooLarge ki_BadPaper_ScarpError ki_BadPaper_Missing ki_BadPaper_NotAllowed ki_BadPaper_TooLarge
    refine ⟨f49, d49, D49.m, D49.b, fun bs _ _ => ?_⟩
    have ok := K93.law_ok (P := PySem.Challenge.rw_scarpface_k93_trees_joined_and_cut.prog) (base := bs) T
    rw [e1, e2] at ok
    exact ok
#print axioms PySem.Challenge.cw_scarpface_k93_trees_joined_and_cut_holds
