import PyProof.Rows.All
import Wide.All
import OpenK.AllK
import Wide.FinOn
import HandS.ForMost
import HandS.Star
import HandS.TupAny
import HandS.Deep
import HandS.Conv
import HandS.Replace
import HandS.ReplaceLit
import HandS.TryMany
import HandS.ExcOwn
import HandS.ExcIs
import HandS.IsInst
import HandS.WordsExc
import HandS.NoneIn
import HandS.SortInts
import HandS.TupMul
import HandS.DeepEq
import HandS.Strs
import HandS.Walk
import HandS.StrMore
import PyProof.Rows.SumAny
import PyProof.WalksMore
import PyProof.ReprBulk
import PySem.Challenge.RW_scarpface_k92_windows_by_two_stacks
set_option Elab.async false
set_option linter.all false
set_option maxHeartbeats 2000000
set_option maxRecDepth 100000
/-! own layer over HandS: a def's promise where no guard stands around (so that repr can be called) -/
namespace Sf
open PySem PySem.Spec PyProof.Rows L2
/-- as FnOk, but only where no guard (of repr) runs around -/
structure FnG (Pg : Program) (wo : World) (Kf : PySem.W.Frag) (glo : Str → Option Value) (bs : Heap) (cx : CXT) (lv : Nat) (ad : Addr) (fu : FuncData) (pl : List Str) (pr : Sp) : Prop where
  len : ∀ a b c d, pr a b c d → a.length = pl.length
  go : ∀ (R : Around) (out : List Env) (st : Shared) (Hh : Hp) (ar : Args) (uu : List Value) (vv : List V) (q : VK) (x : XK), R.guards = some [] → Room lv R → Env0 Pg wo Kf glo bs R out st Hh →
    BindsTo st fu ar (pl.zip uu) → Vals vv uu → pr vv Hh q x → codeAny (model Pg wo) R (.call (.ref ad) ar) (CR cx out Pg wo Hh st q x) st
theorem FnG.of {Pg : Program} {wo : World} {Kf : PySem.W.Frag} {glo : Str → Option Value} {bs : Heap} {cx : CXT} {lv : Nat} {ad : Addr} {fu : FuncData} {pl : List Str} {pr : Sp} (F : FnOk Pg wo Kf glo bs cx lv ad fu pl pr) : FnG Pg wo Kf glo bs cx lv ad fu pl pr :=
  ⟨F.len, fun R out st Hh ar uu vv q x _ => F.run R out st Hh ar uu vv q x⟩
theorem FnG.up {Pg : Program} {wo : World} {Kf : PySem.W.Frag} {glo : Str → Option Value} {bs : Heap} {cx : CXT} {lv lw : Nat} {ad : Addr} {fu : FuncData} {pl : List Str} {pr : Sp} (F : FnG Pg wo Kf glo bs cx lv ad fu pl pr) (h : lv ≤ lw) :
    FnG Pg wo Kf glo bs cx lw ad fu pl pr := ⟨F.len, fun R out st Hh ar uu vv q x g r => F.go R out st Hh ar uu vv q x g (r.mono h)⟩
section
variable {X : Cx} {cx : CXT} {lv : Nat} {ad C : Addr} {fu : FuncData} {pl : List Str} {pr : Sp} {E : XK}
/-- the callee runs -/
theorem go_fn {pins : List (Addr × Obj)} {sl : L2.St} {Hh : Hp} {st : Shared} {q : VK} {uu : List Value} {vv : List V} (F : FnG X.prog X.w X.K X.mg X.base cx lv ad fu pl pr) (gd : X.A.guards = some []) (ro : Room lv X.A) (bi : Binds X.K fu pl [])
    (ps : Passes cx X E) (I : Inv X pins sl Hh st) (rv : Vals vv uu) (h : pr vv Hh q E) : wpAny (model X.prog X.w) X.A (call (.ref ad) uu) (EP X pins sl q) X.xe st := by
  have ln : uu.length = pl.length := rv.length.symm.trans (F.len _ _ _ _ h)
  have bt : BindsTo st fu ⟨uu, []⟩ (pl.zip uu) := by
    have z := bi st uu I.kIn (by rw [List.append_nil]; exact ln)
    rw [List.append_nil] at z
    exact z
  refine wpAny_call (codeAny_mono (F.go X.A X.stack st Hh ⟨uu, []⟩ uu vv q E gd ro I.env0 bt rv h) fun res st' done => ?_)
  match res, done with
  | .error e, done => exact ps pins sl Hh st e st' I done
  | .ok (.ret u), done => exact I.after done
  | .ok .next, done => exact done.elim
  | .ok .brk, done => exact done.elim
  | .ok .cont, done => exact done.elim
end
/-- a def of the top: where it stands, its name, how it binds -/
structure Df (Kf : PySem.W.Frag) (glo : Str → Option Value) (x : Str) (st : Stmt) (pl : List Str) (ad : Addr) (fu : FuncData) : Prop where
  F : Fun Kf x x st ad fu
  m : glo x = some (.ref ad)
  b : Binds Kf fu pl []
def rCallG (pr : Sp) (E : XK) (t : TA) : TE := fun sl Hh q => t sl Hh fun vv H1 => pr vv H1 q E
section
variable {X : Cx} {cx : CXT} {lv : Nat} {ad : Addr} {fu : FuncData} {pl : List Str} {pr : Sp} {E : XK} {x : Str} {st : Stmt} {p pos : Pos} {e : Expr} {es : List Expr} {t : TA}
/-- f(e, ..), f a def of the top -/
theorem pe_callG (D : Df X.K X.mg x st pl ad fu) (F : FnG X.prog X.w X.K X.mg X.base cx lv ad fu pl pr) (gd : X.A.guards = some []) (ro : Room lv X.A) (ps : Passes cx X E) (ha : PA X (e :: es) t) (hg : Gl X x := by rfl)
    (dbg : (x == ("__debug__" : Str)) = false := by decide) (hst : starEach (e :: es) X.env = (false, eval e X.env) :: starEach es X.env := by rfl) (hbk : (backTo pos (starEach es X.env)).any (·.1) = false := by rfl) :
    PE X (.Call (.Name x p) (e :: es) [] pos) (rCallG pr E t) := by
  constructor
  intro pins s σ H Q I h
  apply wpAny_Call_Name_kw
  apply ld_glob I hg D.m _ dbg
  apply PySem.W.callWith_K (h₀ := X.base) I.ok.mod.kin D.F.kp _ hst hbk
  exact thn (ha.run pos pins s σ H _ I h) fun uu s1 ⟨vv, H1, I1, rv, hq⟩ => ⟨I1.kIn, go_fn F gd ro D.b ps I1 rv hq⟩
/-- f() -/
theorem pe_callG0 (D : Df X.K X.mg x st pl ad fu) (F : FnG X.prog X.w X.K X.mg X.base cx lv ad fu pl pr) (gd : X.A.guards = some []) (ro : Room lv X.A) (ps : Passes cx X E) (hg : Gl X x := by rfl)
    (dbg : (x == ("__debug__" : Str)) = false := by decide) : PE X (.Call (.Name x p) [] [] pos) (rCallG pr E tNil) := by
  constructor
  intro pins s σ H Q I h
  apply wpAny_Call_Name_kw
  apply ld_glob I hg D.m _ dbg
  exact PySem.W.callWith_K0 I.kIn D.F.kp (go_fn (uu := []) F gd ro D.b ps I .nil h)
end
/-- what a body's derivation shows -/
def Body (Pg : Program) (wo : World) (Kf : PySem.W.Frag) (glo : Str → Option Value) (bs : Heap) (lv : Nat) (x : Str) (st : Stmt) (ad : Addr) (nm : List Str) (t : TS) : Prop :=
  ∀ (cdv : Value) (R : Around) (out : List Env) (s : Shared) (Hh : Hp) (E : XK), R.guards = some [] → Room lv (R.deeper (envOfC x (defScope st) s.heap.objs.size ad cdv)) →
    PSs (cxOf CX0 Pg wo Kf glo bs nm x (defScope st) ad cdv R out s Hh E).nox (defBody st) t
theorem ok_fun {Pg : Program} {wo : World} {Kf : PySem.W.Frag} {glo : Str → Option Value} {bs : Heap} {lv : Nat} {x : Str} {st : Stmt} {ad : Addr} {fu : FuncData} {nm pl : List Str} {pr : Sp} {t : TS} (F : Fun Kf x x st ad fu) (S : FnScope nm pl (defScope st))
    (len : ∀ a b c d, pr a b c d → a.length = pl.length) (B : Body Pg wo Kf glo bs lv x st ad nm t) (h : ∀ vv Hh q E, pr vv Hh q E → t { nx := fun _ H' => q .non H', rt := q } (start nm vv) Hh) :
    FnG Pg wo Kf glo bs CX0 (lv + 1) ad fu pl pr := by
  obtain ⟨oc, od, kV, doc, pm, an, cdv, ct, osl, rfl, lk, hcd⟩ := F.ex
  refine ⟨len, fun R out s Hh ar uu vv q E gd ro e0 bt rv hp => ?_⟩
  have ln := len _ _ _ _ hp
  have inK : Kf.In s.heap := e0.mod.kin.keeps fun b o e => (e0.bs b o e).1
  have nol : s.heap.NoLimit := e0.mod.nolimit.keeps fun b o e => (e0.bs b o e).1
  refine codeAny_call_function ro.depth (inK _ _ lk) rfl S.co S.gen rfl (PySem.W.codeRec_of inK hcd) (bt _ _ _ _ ?_)
  refine wpAny_newFunctionEnv_cells S.kind (fun ⟨n, v⟩ hy => ?_) fun env he s1 ic => ?_
  · cases S.par n (List.of_mem_zip hy).1 with
    | inl z => exact Or.inl z
    | inr z => exact Or.inr ⟨z, PySem.W.cellsFrom_some _ _ _ (Or.inl z)⟩
  · subst he
    refine ⟨nol.keeps ic.toInCall.keep, codeAny_func ?_⟩
    have I0 := inv_start (CX := CX0) (E := E) S ro.hd e0 ln rv ic
    have I : Inv (cxOf CX0 Pg wo Kf glo bs nm x (defScope st) ad cdv R out s Hh E).nox [] (start nm vv) Hh s1 := I0.wish _
    refine wpAny_mono ((B cdv R out s Hh E gd (ro.deeper _)).run [] s1 (start nm vv) Hh _ I (h vv Hh q E hp)) (fun fl s' hs => ?_) fun e s' hs => hs.elim
    match fl, hs with
    | .ret u, ⟨v, σ', H', J, rv', qv⟩ => exact ⟨v, H', J.os, J.bare, J.base, J.hok, rv', qv⟩
    | .next, ⟨σ', H', J, qv⟩ => exact ⟨V.non, H', J.os, J.bare, J.base, J.hok, rfl, qv⟩
    | .brk, ⟨_, _, _, z⟩ => exact z.elim
    | .cont, ⟨_, _, _, z⟩ => exact z.elim
/-! ### repr of data -/
def rReprD (Kf : PySem.W.Frag) : List V → Hp → VK → Prop := fun vv Hh q => ∃ a d, vv = [V.ref a] ∧ Dp Kf Hh (V.ref a) d ∧ d.showable = true ∧ d.hasDict = false ∧ d.depth ≤ 60 ∧ d.shown.length ≤ sizeLine ∧ q (.str d.shown) Hh
theorem call_reprD {X : Cx} (gd : X.A.guards = some []) (hu : X.A.units + 64 < cLine) : CallR X (.builtin "repr") (rReprD X.K) := by
  intro pins s σ H xs us Q I rv h
  obtain ⟨a, d, rfl, dp, sh, nd, de, sz, q⟩ := h
  cases rv with
  | cons r0 rn =>
    cases rn
    obtain rfl := r0
    obtain ⟨as, rd⟩ := Dp.reads I d _ _ dp rfl
    exact repr_of_reads' rd sh (PyData.noDict_hsm nd) gd (by omega) (fun _ _ e => e) (fun h' u tk kp => ⟨.str d.shown, H, I.kept (t' := tk) kp, ⟨u, rfl⟩, q⟩) sz
end Sf
namespace Sf
open PySem PySem.Spec PyProof.Rows L2
/-! ### short names of readings -/
abbrev rdAdd : R2 := rI0 fun i j => .int (i + j)
abbrev rdSub : R2 := rI0 fun i j => .int (i - j)
abbrev rdMul : R2 := rI CMul fun i j => .int (i * j)
abbrev rdDiv : R2 := rI CDiv fun i j => .int (i / j)
abbrev rdMod : R2 := rI (fun _ j => 0 < j) fun i j => .int (i % j)
abbrev rdPow : R2 := rI CPow fun i j => .int (i ^ j.toNat)
abbrev rdLt : R2 := rI0 fun i j => .bl (decide (i < j))
abbrev rdLe : R2 := rI0 fun i j => .bl (decide (i ≤ j))
abbrev rdGt : R2 := rI0 fun i j => .bl (decide (j < i))
abbrev rdGe : R2 := rI0 fun i j => .bl (decide (j ≤ i))
abbrev rdAddS : R2 := fun u v H Q => ∃ i j, u = .str i ∧ v = .str j ∧ i.length + j.length ≤ sizeLine ∧ Q (.str (i ++ j)) H
abbrev rdLtS : R2 := fun u v H Q => ∃ i j, u = .str i ∧ v = .str j ∧ Q (.bl (decide (i.cps.toList < j.cps.toList))) H
abbrev rdLeS : R2 := fun u v H Q => ∃ i j, u = .str i ∧ v = .str j ∧ Q (.bl (!decide (j.cps.toList < i.cps.toList))) H
abbrev rdIsN : R2 := fun u v H Q => v = .non ∧ Q (.bl (decide (u = .non))) H
abbrev rdNotN : R2 := fun u v H Q => v = .non ∧ Q (.bl (!decide (u = .non))) H
abbrev rdInS : R2 := fun u v H Q => ∃ (c : Nat) (z : Str), u = .str ⟨#[c]⟩ ∧ v = .str z ∧ Q (.bl (decide (c ∈ z.cps.toList))) H
abbrev rdNotInS : R2 := fun u v H Q => ∃ (c : Nat) (z : Str), u = .str ⟨#[c]⟩ ∧ v = .str z ∧ Q (.bl (!decide (c ∈ z.cps.toList))) H
abbrev rInKd (K : PySem.W.Frag) (d : Addr) : R2 := fun u v H Q => ∃ (z : Str) (r : Option Value), u = .str z ∧ v = .ref d ∧ PySem.W.nsIn K d z = some r ∧ Q (.bl r.isSome) H
abbrev rItemKd (K : PySem.W.Frag) (d : Addr) : R2 := fun u v H Q => ∃ (z : Str) (u0 : Value) (j : Int), u = .ref d ∧ v = .str z ∧ PySem.W.nsIn K d z = some (some u0) ∧ RelV (.int j) u0 ∧ Q (.int j) H
abbrev rdLen (K : PySem.W.Frag) : List V → Hp → VK → Prop := fun a H Q => ∃ p ys, a = [.ref p] ∧ (SqL K H p ys ∨ SqT K H p ys) ∧ Q (.int ys.length) H
abbrev rdLenS : List V → Hp → VK → Prop := fun a H Q => ∃ z, a = [.str z] ∧ z.length ≤ sizeLine ∧ Q (.int z.length) H
abbrev rdAbs : List V → Hp → VK → Prop := fun a H Q => ∃ i, a = [.int i] ∧ Q (.int (if i < 0 then -i else i)) H
abbrev rdMin2 : List V → Hp → VK → Prop := fun a H Q => ∃ i j, a = [.int i, .int j] ∧ Q (.int (if j < i then j else i)) H
abbrev rdMax2 : List V → Hp → VK → Prop := fun a H Q => ∃ i j, a = [.int i, .int j] ∧ Q (.int (if j > i then j else i)) H
abbrev rdInt : List V → Hp → VK → Prop := fun a H Q => (∃ i, a = [.int i] ∧ Q (.int i) H) ∨ ∃ k, a = [.bl k] ∧ Q (.int (if k then 1 else 0)) H
abbrev rdIntS : List V → Hp → VK → Prop := fun xs H Q => ∃ a n, xs = [.str a] ∧ PySem.intText? a = some n ∧ a.length ≤ 640 ∧ Q (.int n) H
abbrev rdStr : List V → Hp → VK → Prop := fun a H Q => ∃ i, a = [.int i] ∧ i.natAbs.log2 < 1920 ∧ Q (.str (toString i)) H
abbrev rdTuple (K : PySem.W.Frag) : List V → Hp → VK → Prop := fun a H Q => ∃ p ys, a = [.ref p] ∧ ((SqL K H p ys ∧ ∀ l, H l = none → Q (.ref l) (upd H l (.tup ys))) ∨ (SqT K H p ys ∧ Q (.ref p) H))
abbrev rdList (K : PySem.W.Frag) : List V → Hp → VK → Prop := fun a H Q => ∃ p ys, a = [.ref p] ∧ (SqL K H p ys ∨ SqT K H p ys) ∧ ∀ l, H l = none → Q (.ref l) (upd H l (.lst ys))
abbrev rdSplit : V → List V → Hp → VK → Prop := fun u xs H Q => ∃ a b, u = .str a ∧ xs = [.str b] ∧ (b.length == 0) = false ∧ a.length + 2 ≤ sizeLine ∧ rNewStrs (Txt.split a b) H Q
abbrev rdJoin (K : PySem.W.Frag) : V → List V → Hp → VK → Prop := fun u xs H Q => ∃ a p, ∃ ys : List Str, u = .str a ∧ xs = [.ref p] ∧ (SqL K H p (ys.map V.str) ∨ SqT K H p (ys.map V.str)) ∧
  (ys.map (·.length)).sum + ys.length * a.length ≤ 16777216 ∧ Q (.str (Txt.join a ys)) H
/-! ### rules of our own -/
/-- the module's name x holds the value v -/
def Gc (glo : Str → Option Value) (x : Str) (v : V) : Prop := ∃ u, glo x = some u ∧ RelV v u
theorem pe_globE {X : Cx} {x : Str} {v : V} {pos : Pos} (hg : Gl X x) (h : Gc X.mg x v) (hd : (x == ("__debug__" : Str)) = false := by decide) : PE X (.Name x pos) (tC v) := by
  obtain ⟨u, e, r⟩ := h
  exact pe_glob hg e r hd
/-- d[k], d a written dict with text keys, the value an int -/
theorem ix_kd {X : Cx} {d : Addr} {es : Array DictEntry} {n : Nat} (D : KDict X.K X.w d es n) : IxR X (rItemKd X.K d) := by
  intro value slice pins s σ H x y v u Q I rx ry ⟨z, u0, j, ex, ey, e, r, q⟩ hs
  subst ex
  obtain rfl : v = Value.ref d := rx
  refine subscriptTail_builtin_flat (kd_type D I) PySem.F.slot_dict_getitem.lookup (wpAny_mono (op_item_kd D pins s σ H (.ref d) y (.ref d) u (fun w H1 => (∃ k, w = V.int k) ∧ Q w H1) I rfl ry ⟨z, u0, .int j, rfl, ey, e, r, ⟨j, rfl⟩, q⟩) (fun w s1 h => ?_) fun _ _ z => z) hs
  obtain ⟨w', H1, I1, rw', ⟨k, ek⟩, q1⟩ := h
  subst ek
  obtain ⟨t, et⟩ := id rw'
  subst et
  exact ⟨fun a => nofun, .int k, H1, I1, rw', q1⟩
theorem hu64 {k : Nat} {A : Around} (r : Room k A) : A.units + 64 < cLine := r.units
/-! ### heaps -/
section
variable {K : PySem.W.Frag} {H H' : Hp} {p q a : Addr} {o u : HO} {xs : List V} {v : V} {d : PyData}
theorem g_same : upd H p o p = some o := upd_same
theorem g_new (hr : H p = none) (h : H q = some u) : upd H p o q = some u := by rw [upd_ne (ne_of_none h hr)]; exact h
theorem g_mut (hn : q ≠ p) (h : H q = some u) : upd H p o q = some u := by rw [upd_ne hn]; exact h
theorem n_new (hn : q ≠ p) (h : H q = none) : upd H p o q = none := by rw [upd_ne hn]; exact h
/-- all is kept, the objects at the addresses S aside -/
def Kp (S : List Addr) (H H' : Hp) : Prop := ∀ b o, H b = some o → b ∉ S → H' b = some o
theorem Kp.refl (S : List Addr) (H : Hp) : Kp S H H := fun _ _ h _ => h
theorem Kp.trans {S : List Addr} {H0 H1 H2 : Hp} (a : Kp S H0 H1) (b : Kp S H1 H2) : Kp S H0 H2 := fun c o h n => b c o (a c o h n) n
theorem Kp.new {S : List Addr} {H0 H1 : Hp} (k : Kp S H0 H1) (h : H1 p = none) : Kp S H0 (upd H1 p o) := fun b u e n => g_new h (k b u e n)
theorem Kp.mut {S : List Addr} {H0 H1 : Hp} (k : Kp S H0 H1) (h : p ∈ S) : Kp S H0 (upd H1 p o) := fun b u e n => g_mut (fun z => n (z ▸ h)) (k b u e n)
/-- what H0 doesn't know may change -/
theorem Kp.own {S : List Addr} {H0 H1 : Hp} (k : Kp S H0 H1) (h : H0 p = none) : Kp S H0 (upd H1 p o) := fun b u e n => g_mut (ne_of_none e h) (k b u e n)
theorem Kp.sub {S S' : List Addr} {H0 H1 : Hp} (k : Kp S H0 H1) (h : ∀ x ∈ S, x ∈ S') : Kp S' H0 H1 := fun b o e n => k b o e fun z => n (h b z)
theorem Kp.get {S : List Addr} (k : Kp S H H') (n : q ∉ S) (h : H q = some u) : H' q = some u := k q u h n
theorem Kp.free {S : List Addr} (k : Kp S H H') (n : q ∉ S) (h : H' q = none) : H q = none := by
  cases e : H q with
  | none => rfl
  | some z => rw [k q z e n] at h; cases h
theorem Kp.rd {S : List Addr} (k : Kp S H H') (n : a ∉ S) (h : Rd H a u) : Rd H' a u := by
  rcases h with h | ⟨z, h⟩
  · exact .inl (k _ _ h n)
  · exact .inr ⟨z, k _ _ h n⟩
theorem Kp.sqL {S : List Addr} (k : Kp S H H') (n : a ∉ S) (h : SqL K H a xs) : SqL K H' a xs := by
  rcases h with h | h
  · exact .inl (k.rd n h)
  · exact .inr h
theorem Kp.sqT {S : List Addr} (k : Kp S H H') (n : a ∉ S) (h : SqT K H a xs) : SqT K H' a xs := by
  rcases h with h | h
  · exact .inl (k.rd n h)
  · exact .inr h
mutual
theorem Kp.dp0 (k : Kp [] H H') : ∀ {v : V} {d : PyData}, Dp K H v d → Dp K H' v d
  | _, _, .non => .non
  | _, _, .bl b => .bl b
  | _, _, .int i => .int i
  | _, _, .str x => .str x
  | _, _, .lst h r => .lst (k.sqL (by simp) h) (Kp.dps0 k r)
  | _, _, .tup h r => .tup (k.sqT (by simp) h) (Kp.dps0 k r)
theorem Kp.dps0 (k : Kp [] H H') : ∀ {vs : List V} {ds : List PyData}, DpAll K H vs ds → DpAll K H' vs ds
  | _, _, .nil => .nil
  | _, _, .cons h r => .cons (Kp.dp0 k h) (Kp.dps0 k r)
end
theorem kp_new (h : H p = none) : Kp [] H (upd H p o) := (Kp.refl [] H).new h
end
/-! ### data without lists: it stands whatever else is written -/
mutual
def noL : PyData → Bool
  | .none => true
  | .bool _ => true
  | .int _ => true
  | .str _ => true
  | .tuple xs => noLs xs
  | _ => false
def noLs : List PyData → Bool
  | [] => true
  | x :: r => noL x && noLs r
end
/-- tuples (and what is known) stand -/
def Tk (H H' : Hp) : Prop := (∀ b xs, H b = some (.tup xs) → H' b = some (.tup xs)) ∧ ∀ b z u, H b = some (.frz z u) → H' b = some (.frz z u)
section
variable {K : PySem.W.Frag} {H H' H'' : Hp} {p q a : Addr} {o u : HO} {xs : List V} {v : V} {d : PyData}
theorem Tk.refl (H : Hp) : Tk H H := ⟨fun _ _ h => h, fun _ _ _ h => h⟩
theorem Tk.trans (a : Tk H H') (b : Tk H' H'') : Tk H H'' := ⟨fun c x h => b.1 c x (a.1 c x h), fun c z u h => b.2 c z u (a.2 c z u h)⟩
theorem Tk.new (k : Tk H H') (h : H' p = none) : Tk H (upd H' p o) := ⟨fun c x e => g_new h (k.1 c x e), fun c z u e => g_new h (k.2 c z u e)⟩
theorem Tk.lst {ys : List V} (k : Tk H H') (h : H' p = some (.lst ys)) : Tk H (upd H' p o) := by
  refine ⟨fun c x e => g_mut ?_ (k.1 c x e), fun c z u e => g_mut ?_ (k.2 c z u e)⟩
  · rintro rfl
    rw [k.1 c x e] at h; cases h
  · rintro rfl
    rw [k.2 c z u e] at h; cases h
theorem Tk.sqT (k : Tk H H') (h : SqT K H a xs) : SqT K H' a xs := by
  rcases h with h | h
  · rcases h with h | ⟨z, h⟩
    · exact .inl (.inl (k.1 _ _ h))
    · exact .inl (.inr ⟨z, k.2 _ _ _ h⟩)
  · exact .inr h
theorem Kp.tk (k : Kp [] H H') : Tk H H' := ⟨fun b xs h => k b _ h (by simp), fun b z u h => k b _ h (by simp)⟩
mutual
theorem Tk.dp (k : Tk H H') : ∀ {v : V} {d : PyData}, noL d = true → Dp K H v d → Dp K H' v d
  | _, _, _, .non => .non
  | _, _, _, .bl b => .bl b
  | _, _, _, .int i => .int i
  | _, _, _, .str x => .str x
  | _, _, n, .lst h r => by simp [noL] at n
  | _, _, n, .tup h r => .tup (k.sqT h) (Tk.dps k (by simpa [noL] using n) r)
theorem Tk.dps (k : Tk H H') : ∀ {vs : List V} {ds : List PyData}, noLs ds = true → DpAll K H vs ds → DpAll K H' vs ds
  | _, _, _, .nil => .nil
  | _, _, n, .cons h r => .cons (Tk.dp k (by simp [noLs] at n; exact n.1) h) (Tk.dps k (by simp [noLs] at n; exact n.2) r)
end
/-- the only object that may change is a list -/
theorem Kp.tk1 {ys : List V} (k : Kp [p] H H') (h : H p = some (.lst ys)) : Tk H H' := by
  refine ⟨fun b x e => k b _ e ?_, fun b z u e => k b _ e ?_⟩
  · intro z
    have z' : b = p := by simpa using z
    subst z'
    rw [h] at e; cases e
  · intro z2
    have z' : b = p := by simpa using z2
    subst z'
    rw [h] at e; cases e
end
/-! ### data of a kind -/
theorem dps_strs {K : PySem.W.Frag} {H : Hp} : ∀ (xs : List Str), DpAll K H (xs.map V.str) (xs.map PyData.str)
  | [] => .nil
  | x :: r => .cons (.str x) (dps_strs r)
theorem dps_ints {K : PySem.W.Frag} {H : Hp} : ∀ (xs : List Int), DpAll K H (xs.map V.int) (xs.map PyData.int)
  | [] => .nil
  | x :: r => .cons (.int x) (dps_ints r)
theorem dps_app {K : PySem.W.Frag} {H : Hp} : ∀ {xs ys : List V} {ds es : List PyData}, DpAll K H xs ds → DpAll K H ys es → DpAll K H (xs ++ ys) (ds ++ es)
  | _, _, _, _, .nil, h => h
  | _, _, _, _, .cons a r, h => .cons a (dps_app r h)
theorem dps_len {K : PySem.W.Frag} {H : Hp} : ∀ {xs : List V} {ds : List PyData}, DpAll K H xs ds → xs.length = ds.length
  | _, _, .nil => rfl
  | _, _, .cons a r => by simp [dps_len r]
end Sf
namespace Sf
open PySem PySem.Spec PyProof.Rows L2
/-- a written dict of texts to ints, as it is asked -/
def KdInts (K : PySem.W.Frag) (d : Addr) (m : List (Str × Int)) : Prop := ∀ z : Str, ∃ r, PySem.W.nsIn K d z = some r ∧ (m.lookup z = none → r = none) ∧ ∀ i, m.lookup z = some i → ∃ t, r = some (Value.int i t)
/-- the law's source of numbers: the list at st holds the address nu of its numbers and how many were drawn, at most n -/
def StB (H : Hp) (st nu : Addr) (n : Nat) : Prop := ∃ (k : Nat) (ns : List Int), k ≤ n ∧ H st = some (.lst [.ref nu, .int (k : Int)]) ∧ H nu = some (.lst (ns.map V.int)) ∧ nu ≠ st ∧ ns ≠ [] ∧ ns.length ≤ 100000 ∧ ∀ x ∈ ns, 0 ≤ x ∧ x < 1009
theorem StB.new {H : Hp} {st nu p : Addr} {n : Nat} {o : HO} (s : StB H st nu n) (h : H p = none) : StB (upd H p o) st nu n := by
  obtain ⟨k, ns, a, b, c, d⟩ := s
  exact ⟨k, ns, a, g_new h b, g_new h c, d⟩
theorem StB.mut {H : Hp} {st nu p : Addr} {n : Nat} {o : HO} (s : StB H st nu n) (h1 : p ≠ st) (h2 : p ≠ nu) : StB (upd H p o) st nu n := by
  obtain ⟨k, ns, a, b, c, d⟩ := s
  exact ⟨k, ns, a, g_mut (Ne.symm h1) b, g_mut (Ne.symm h2) c, d⟩
theorem StB.kp {H H' : Hp} {st nu : Addr} {n : Nat} (s : StB H st nu n) (k : Kp [] H H') : StB H' st nu n := by
  obtain ⟨j, ns, a, b, c, d⟩ := s
  exact ⟨j, ns, a, k _ _ b (by simp), k _ _ c (by simp), d⟩
theorem StB.le {H : Hp} {st nu : Addr} {n m : Nat} (s : StB H st nu n) (h : n ≤ m) : StB H st nu m := by
  obtain ⟨j, ns, a, d⟩ := s
  exact ⟨j, ns, Nat.le_trans a h, d⟩
/-- what is new is neither the one nor the other -/
theorem StB.ne {H : Hp} {st nu p : Addr} {n : Nat} (s : StB H st nu n) (h : H p = none) : p ≠ st ∧ p ≠ nu := by
  obtain ⟨j, ns, a, b, c, d⟩ := s
  exact ⟨Ne.symm (ne_of_none b h), Ne.symm (ne_of_none c h)⟩
theorem StB.tk {H H' : Hp} {st nu : Addr} {n : Nat} (s : StB H st nu n) (k : Kp [st] H H') : Tk H H' := by
  obtain ⟨j, ns, a, b, c⟩ := s
  exact k.tk1 b
def bigN : Nat := 1000000000
/-! ### texts -/
def alpha : List Nat := (Str.ofString "abcdefghijklmnopqrstuvwxyz").cps.toList
def digs : List Nat := (Str.ofString "0123456789").cps.toList
def isL (x : Str) : Bool := decide (0 < x.length) && x.cps.toList.all fun c => decide (c ∈ alpha)
def isN (x : Str) : Bool := decide (1 ≤ x.length ∧ x.length ≤ 7) && (x.cps.toList.all fun c => decide (c ∈ digs)) && (decide (x = "0") || decide (x.cps.toList.head? ≠ some 48))
def intOf (x : Str) : Int := (PySem.intText? x).getD 0
/-- signs of small numbers only -/
def Sm (x : Str) : Prop := ∀ c ∈ x.cps.toList, c < 200
end Sf
namespace Sf
open PySem PySem.Spec PyProof.Rows L2
theorem sz {n : Nat} (h : n ≤ 16777216) : n ≤ sizeLine := Nat.le_trans h (by decide)
theorem szl {n : Nat} (h : n < 16777216) : n < sizeLine := Nat.lt_of_lt_of_le h (by decide)
/-! ### comprehensions -/
theorem wipe_one (σ : L2.St) (j : Nat) (v : Option V) : wipe ((wipe σ [j]).set j v) [j] = wipe σ [j] := by
  show (((σ.set j none).set j v).set j none) = σ.set j none
  rw [List.set_set, List.set_set]
/-- over a text's signs -/
theorem lc_str {x : Str} {g : TG} {tt : TT} {te : TE} {vs : List Nat} {σ : L2.St} {H1 : Hp} {D : Addr} {Qd : Hp → Prop} (Pv : Nat → Hp → Prop) (h0 : Pv 0 (upd H1 D (.lst [])))
    (hs : ∀ i c H, x.cps[i]? = some c → Pv i H → g (.str ⟨#[c]⟩) (wipe σ vs) H fun σ2 H2 => wipe σ2 vs = wipe σ vs ∧ tt σ2 H2 fun b H3 =>
      if b = true then te σ2 H3 fun y H4 => ∃ acc, H4 D = some (.lst acc) ∧ acc.length < sizeLine ∧ Pv (i + 1) (upd H4 D (.lst (acc ++ [y]))) else Pv (i + 1) H3) (hd : ∀ H, Pv x.cps.size H → Qd H) :
    ∃ W : Nat → Nat → Hp → Prop, (∃ m, W 0 m (upd H1 D (.lst []))) ∧ ∀ i m H, W i m H →
      ((Its x).stop i H ∧ Qd H) ∨ ((Its x).go i H ∧ ∃ Nx : Hp → Prop, (∀ H', Nx H' → ∃ m', m' < m ∧ W (i + 1) m' H') ∧ ∀ v H', (Its x).yld i H v H' → g v (wipe σ vs) H' fun σ2 H2 => wipe σ2 vs = wipe σ vs ∧ tt σ2 H2 fun b H3 =>
        if b = true then te σ2 H3 fun y H4 => ∃ acc, H4 D = some (.lst acc) ∧ acc.length < sizeLine ∧ Nx (upd H4 D (.lst (acc ++ [y]))) else Nx H3) := by
  refine ⟨fun i m H => m = x.cps.size - i ∧ i ≤ x.cps.size ∧ Pv i H, ⟨x.cps.size, by simp, Nat.zero_le _, h0⟩, ?_⟩
  rintro i m H ⟨rfl, hi, p⟩
  by_cases hlt : i < x.cps.size
  · refine Or.inr ⟨hlt, Pv (i + 1), fun H' p' => ⟨x.cps.size - (i + 1), by omega, rfl, hlt, p'⟩, fun v H' y => ?_⟩
    obtain ⟨rfl, c, hc, rfl⟩ := y
    exact hs i c H' hc p
  · have e : i = x.cps.size := by omega
    subst e
    exact Or.inl ⟨Nat.le_refl _, hd H p⟩
section
variable {K : PySem.W.Frag} {σ : L2.St} {H : Hp} {j : Nat} {tt : TT} {te t0 : TE} {Q : VK}
theorem lt_get {α : Type} {l : List α} {i : Nat} {x : α} (h : l[i]? = some x) : i < l.length := (List.getElem?_eq_some_iff.mp h).1
theorem take_more {α : Type} {l : List α} {i : Nat} {x : α} (h : l[i]? = some x) : l.take (i + 1) = l.take i ++ [x] := by
  rw [List.take_add_one, h]; rfl
theorem fm_more {α : Type} {l : List α} {i : Nat} {x : α} {p : α → Bool} {f : α → V} (h : l[i]? = some x) :
    ((l.take (i + 1)).filter p).map f = ((l.take i).filter p).map f ++ (if p x = true then [f x] else []) := by
  rw [take_more h, List.filter_append, List.map_append]
  by_cases hp : p x = true
  · simp [hp]
  · simp [hp]
/-- what a turn of a plain comprehension asks -/
theorem lc_turn {α : Type} {l : List α} {i : Nat} {x : α} {p : α → Bool} {f : α → V} {D : Addr} {H1 : Hp} {s2 : L2.St} (hD : H D = none) (hl : l.length ≤ 1000000) (hi : l[i]? = some x) (hk : Kp [] H H1) (hA : H1 D = some (.lst (((l.take i).filter p).map f)))
    (ht : ∀ R : Bool → Hp → Prop, (∀ H2, Kp [] H1 H2 → R (p x) H2) → tt s2 H1 R) (he : p x = true → ∀ H2, Kp [] H1 H2 → ∀ R : VK, (∀ H3, Kp [] H2 H3 → R (f x) H3) → te s2 H2 R) :
    tt s2 H1 fun b H3 => if b = true then te s2 H3 fun y H4 => ∃ acc, H4 D = some (.lst acc) ∧ acc.length < sizeLine ∧ (Kp [] H (upd H4 D (.lst (acc ++ [y]))) ∧ (upd H4 D (.lst (acc ++ [y]))) D = some (.lst (((l.take (i + 1)).filter p).map f)))
      else (Kp [] H H3 ∧ H3 D = some (.lst (((l.take (i + 1)).filter p).map f))) := by
  refine ht _ fun H2 k2 => ?_
  by_cases hp : p x = true
  · rw [if_pos hp]
    refine he hp H2 k2 _ fun H3 k3 => ⟨_, k3 _ _ (k2 _ _ hA (by simp)) (by simp), ?_, ?_, ?_⟩
    · refine szl (Nat.lt_of_le_of_lt ?_ (by decide : 1000000 < 16777216))
      rw [List.length_map]
      exact Nat.le_trans (List.length_filter_le _ _) (by rw [List.length_take]; omega)
    · exact ((hk.trans k2).trans k3).own hD
    · rw [upd_same, fm_more hi, if_pos hp]
  · rw [if_neg hp]
    refine ⟨hk.trans k2, ?_⟩
    rw [fm_more hi, if_neg hp, List.append_nil]
    exact k2 _ _ hA (by simp)
/-- [e for c in x if t], x a text -/
theorem lcS {x : Str} (p : Nat → Bool) (f : Nat → V) (h0 : ∀ R : VK, R (.str x) H → t0 σ H R) (hz : x.length ≤ 1000000)
    (ht : ∀ c H1, c ∈ x.cps.toList → Kp [] H H1 → ∀ R : Bool → Hp → Prop, (∀ H2, Kp [] H1 H2 → R (p c) H2) → tt ((σ.set j none).set j (some (.str ⟨#[c]⟩))) H1 R)
    (he : ∀ c H1, c ∈ x.cps.toList → p c = true → Kp [] H H1 → ∀ R : VK, (∀ H2, Kp [] H1 H2 → R (f c) H2) → te ((σ.set j none).set j (some (.str ⟨#[c]⟩))) H1 R)
    (q : ∀ D H', H D = none → Kp [] H H' → H' D = some (.lst ((x.cps.toList.filter p).map f)) → Q (.ref D) H') : tLc (iStr t0) (gName j) tt te [j] σ H Q := by
  refine h0 _ ⟨x, rfl, fun D hD => ?_⟩
  refine lc_str (x := x) (fun i H1 => Kp [] H H1 ∧ H1 D = some (.lst (((x.cps.toList.take i).filter p).map f))) ⟨kp_new hD, by rw [upd_same]; simp⟩ (fun i c H1 hi ⟨k1, a1⟩ => ⟨wipe_one σ j _, ?_⟩) fun H1 ⟨k1, a1⟩ => ?_
  · have hi' : x.cps.toList[i]? = some c := by simpa using hi
    have hm : c ∈ x.cps.toList := List.mem_of_getElem? hi'
    exact lc_turn (l := x.cps.toList) hD (by simpa [Str.length] using hz) hi' k1 a1 (ht c H1 hm k1) fun hp H2 k2 => he c H2 hm hp (k1.trans k2)
  · refine q D H1 hD k1 ?_
    rw [a1]
    have e : x.cps.toList.take x.cps.size = x.cps.toList := by
      rw [List.take_of_length_le]; simp
    rw [e]
/-- [e for v in xs if t], xs a list -/
theorem lcL {a : Addr} {xs : List V} (p : V → Bool) (f : V → V) (h0 : ∀ R : VK, R (.ref a) H → t0 σ H R) (hx : SqL K H a xs) (hz : xs.length ≤ 1000000)
    (ht : ∀ x H1, x ∈ xs → Kp [] H H1 → ∀ R : Bool → Hp → Prop, (∀ H2, Kp [] H1 H2 → R (p x) H2) → tt ((σ.set j none).set j (some x)) H1 R)
    (he : ∀ x H1, x ∈ xs → p x = true → Kp [] H H1 → ∀ R : VK, (∀ H2, Kp [] H1 H2 → R (f x) H2) → te ((σ.set j none).set j (some x)) H1 R)
    (q : ∀ D H', H D = none → Kp [] H H' → H' D = some (.lst ((xs.filter p).map f)) → Q (.ref D) H') : tLc (iList K t0) (gName j) tt te [j] σ H Q := by
  refine h0 _ ⟨a, rfl, ⟨xs, hx⟩, fun D hD => ?_⟩
  refine lc_list (xs := xs) (fun i H1 => Kp [] H H1 ∧ H1 D = some (.lst (((xs.take i).filter p).map f))) ⟨kp_new hD, by rw [upd_same]; simp⟩ (fun i H1 _ ⟨k1, _⟩ => k1.sqL (by simp) hx) (fun i c H1 hi ⟨k1, a1⟩ => ⟨wipe_one σ j _, ?_⟩) fun H1 ⟨k1, a1⟩ => ?_
  · have hm : c ∈ xs := List.mem_of_getElem? hi
    exact lc_turn (l := xs) hD hz hi k1 a1 (ht c H1 hm k1) fun hp H2 k2 => he c H2 hm hp (k1.trans k2)
  · refine q D H1 hD k1 ?_
    rw [a1, List.take_of_length_le (Nat.le_refl _)]
/-- [e for v in t], t a tuple -/
theorem lcT {a : Addr} {xs : List V} (p : V → Bool) (f : V → V) (h0 : ∀ R : VK, R (.ref a) H → t0 σ H R) (hx : SqT K H a xs) (hz : xs.length ≤ 1000000)
    (ht : ∀ x H1, x ∈ xs → Kp [] H H1 → ∀ R : Bool → Hp → Prop, (∀ H2, Kp [] H1 H2 → R (p x) H2) → tt ((σ.set j none).set j (some x)) H1 R)
    (he : ∀ x H1, x ∈ xs → p x = true → Kp [] H H1 → ∀ R : VK, (∀ H2, Kp [] H1 H2 → R (f x) H2) → te ((σ.set j none).set j (some x)) H1 R)
    (q : ∀ D H', H D = none → Kp [] H H' → H' D = some (.lst ((xs.filter p).map f)) → Q (.ref D) H') : tLc (iTup K t0) (gName j) tt te [j] σ H Q := by
  refine h0 _ ⟨a, rfl, ⟨xs, hx⟩, fun D hD => ?_⟩
  refine lc_tup (xs := xs) (fun i H1 => Kp [] H H1 ∧ H1 D = some (.lst (((xs.take i).filter p).map f))) ⟨kp_new hD, by rw [upd_same]; simp⟩ (fun i H1 _ ⟨k1, _⟩ => k1.sqT (by simp) hx) (fun i c H1 hi ⟨k1, a1⟩ => ⟨wipe_one σ j _, ?_⟩) fun H1 ⟨k1, a1⟩ => ?_
  · have hm : c ∈ xs := List.mem_of_getElem? hi
    exact lc_turn (l := xs) hD hz hi k1 a1 (ht c H1 hm k1) fun hp H2 k2 => he c H2 hm hp (k1.trans k2)
  · refine q D H1 hD k1 ?_
    rw [a1, List.take_of_length_le (Nat.le_refl _)]
/-- [e for k in range(n)], e may draw (and so change the list at st): what holds of the items (P) stands while tuples stand -/
theorem lcRD {st nu : Addr} {n : Int} {ta : TA} (P : Hp → V → Prop) (c : Nat) {n0 : Nat} (hP : ∀ H1 H2 v, Tk H1 H2 → P H1 v → P H2 v) (h0 : ∀ R : List V → Hp → Prop, R [.int n] H → ta σ H R) (hn : n ≤ 1000000) (hn0 : -1000000 ≤ n) (hs : StB H st nu n0) (hb : n0 + c * n.toNat < bigN)
    (he : ∀ (i : Nat) H1 m, (i : Int) < n → Kp [st] H H1 → StB H1 st nu m → m + c < bigN → ∀ R : VK, (∀ v H2, P H2 v → Kp [st] H1 H2 → StB H2 st nu (m + c) → R v H2) → te ((σ.set j none).set j (some (.int (i : Int)))) H1 R)
    (q : ∀ D H' xs, H D = none → Kp [st] H H' → H' D = some (.lst xs) → xs.length = n.toNat → (∀ x ∈ xs, P H' x) → StB H' st nu (n0 + c * n.toNat) → Q (.ref D) H') : tLc (iRng1 ta) (gName j) tYes te [j] σ H Q := by
  refine h0 _ ⟨n, rfl, by omega, by omega, fun D hD => ?_⟩
  obtain ⟨nd1, nd2⟩ := hs.ne hD
  refine lc_range (lo := 0) (n := n.toNat) (fun i H1 => Kp [st] H H1 ∧ StB H1 st nu (n0 + c * i) ∧ ∃ xs, H1 D = some (.lst xs) ∧ xs.length = i ∧ ∀ x ∈ xs, P H1 x) ?_ (fun i H1 hi ⟨k1, s1, xs, a1, l1, p1⟩ => ⟨wipe_one σ j _, ?_⟩) fun H1 ⟨k1, s1, xs, a1, l1, p1⟩ => q D H1 xs hD k1 a1 l1 p1 s1
  · exact ⟨(Kp.refl [st] H).new hD, (hs.new hD).le (by omega), [], upd_same, rfl, by simp⟩
  · have e0 : (0 : Int) + (i : Int) = (i : Int) := Int.zero_add _
    unfold tYes
    dsimp only
    rw [if_pos rfl, e0]
    have hb2 : c * (i + 1) ≤ c * n.toNat := Nat.mul_le_mul_left c hi
    have hb3 : c * (i + 1) = c * i + c := Nat.mul_succ c i
    refine he i H1 (n0 + c * i) (by omega) k1 s1 (by omega) _ fun v H2 pv k2 s2 => ?_
    have a2 : H2 D = some (.lst xs) := k2 _ _ a1 (by simp [nd1])
    refine ⟨xs, a2, szl (by omega), (k1.trans k2).own hD, ?_, xs ++ [v], upd_same, by simp [l1], fun x hx => ?_⟩
    · exact (s2.mut nd1 nd2).le (by omega)
    · have t2 : Tk H2 (upd H2 D (.lst (xs ++ [v]))) := (Tk.refl H2).lst a2
      rcases List.mem_append.mp hx with hx | hx
      · exact hP _ _ _ ((s1.tk k2).trans t2) (p1 x hx)
      · rw [List.mem_singleton.mp hx]
        exact hP _ _ _ t2 pv
end
end Sf
namespace Sf
open PySem PySem.Spec PyProof.Rows L2
section
variable {K : PySem.W.Frag} {σ : L2.St} {H : Hp} {ta tb tc te : TE} {tt tu : TT} {t tr : TA} {to1 to2 : TO} {ts tw : TS} {D : Ends} {Q : VK} {QB : Bool → Hp → Prop} {QA : List V → Hp → Prop} {QO : Option Int → Hp → Prop} {i j : Nat} {v w : V} {b : Bool} {r r' : R2} {pr : Sp} {E : XK} {g : TG}
/-! ### readings opened -/
theorem o_var (h : σ[i]? = some (some v)) (q : Q v H) : tVar i σ H Q := ⟨v, h, q⟩
theorem o_varE (q : ∃ v, σ[i]? = some (some v) ∧ Q v H) : tVar i σ H Q := q
theorem o_c (q : Q v H) : tC v σ H Q := q
theorem o_op (q : ta σ H fun x H1 => tb σ H1 fun y H2 => r x y H2 Q) : tOp r ta tb σ H Q := q
theorem o_un {r : V → Hp → VK → Prop} (q : ta σ H fun x H1 => r x H1 Q) : tUn r ta σ H Q := q
theorem o_cb {r : List V → Hp → VK → Prop} (q : t σ H fun vs H1 => r vs H1 Q) : tCB r t σ H Q := q
theorem o_cons (q : ta σ H fun x H1 => tr σ H1 fun xs H2 => QA (x :: xs) H2) : tCons ta tr σ H QA := q
theorem o_star (q : ta σ H fun x H1 => ∃ p xs, x = V.ref p ∧ (SqT K H1 p xs ∨ SqL K H1 p xs) ∧ t σ H1 fun ys H2 => QA (xs ++ ys) H2) : StX.tStar K ta t σ H QA := q
theorem o_nil (q : QA [] H) : tNil σ H QA := q
theorem o_tup (q : t σ H fun xs H1 => xs.length ≤ sizeLine ∧ ∀ p, H1 p = none → Q (.ref p) (upd H1 p (.tup xs))) : tTup t σ H Q := q
theorem o_lst (q : t σ H fun xs H1 => xs.length ≤ sizeLine ∧ ∀ p, H1 p = none → Q (.ref p) (upd H1 p (.lst xs))) : tLst t σ H Q := q
theorem o_call (q : t σ H fun vs H1 => pr vs H1 Q E) : rCallG pr E t σ H Q := q
theorem o_ret (q : te σ H D.rt) : tRet te D σ H := q
theorem o_retN (q : D.rt .non H) : tRetN D σ H := q
theorem o_asg (q : te σ H fun x H1 => D.nx (σ.set i (some x)) H1) : tAsg te (gName i) D σ H := q
theorem o_asgG (q : te σ H fun x H1 => g x σ H1 D.nx) : tAsg te g D σ H := q
theorem o_par (q : t σ H fun vs H1 => ∃ v w, vs = [v, w] ∧ D.nx ((σ.set i (some v)).set j (some w)) H1) : tPar i j t D σ H := q
theorem o_seq (q : ts { D with nx := tw D } σ H) : tSeq ts tw D σ H := q
theorem o_next (q : D.nx σ H) : tNext D σ H := q
theorem o_brk (q : D.bk σ H) : tBreak D σ H := q
theorem o_cont (q : D.ct σ H) : tCont D σ H := q
theorem o_drop (q : te σ H fun _ H1 => D.nx σ H1) : tDrop te D σ H := q
theorem o_if (q : tt σ H fun c H1 => if c = true then ts D σ H1 else tw D σ H1) : tIfS tt ts tw D σ H := q
theorem o_test (q : te σ H fun x H1 => ∃ k, x = .bl k ∧ QB k H1) : tTest te σ H QB := q
theorem o_B (q : te σ H fun x H1 => ∃ k, x = .bl k ∧ QB k H1) : tB te σ H QB := q
theorem o_and (q : tt σ H fun c H1 => if c = true then tu σ H1 QB else QB false H1) : tAnd tt tu σ H QB := q
theorem o_or (q : tt σ H fun c H1 => if c = true then QB true H1 else tu σ H1 QB) : tOr tt tu σ H QB := q
theorem o_not (q : tt σ H fun c H1 => QB (!c) H1) : tNot tt σ H QB := q
theorem o_andV (q : ta σ H fun x H1 => ∃ c, x = .bl c ∧ if c = true then tb σ H1 Q else Q (.bl false) H1) : tAndV ta tb σ H Q := q
theorem o_orV (q : ta σ H fun x H1 => ∃ c, x = .bl c ∧ if c = true then Q (.bl true) H1 else tb σ H1 Q) : tOrV ta tb σ H Q := q
theorem o_notV (q : ta σ H fun x H1 => ∃ c, x = .bl c ∧ Q (.bl (!c)) H1) : tNotV ta σ H Q := q
theorem o_ifx (q : tt σ H fun c H1 => if c = true then ta σ H1 Q else tb σ H1 Q) : tIf tt ta tb σ H Q := q
theorem o_chain (q : ta σ H fun x H1 => tb σ H1 fun y H2 => r x y H2 fun z H3 => ∃ k, z = .bl k ∧ if k = true then tc σ H3 (fun u H4 => r' y u H4 Q) else Q (.bl false) H3) : tChain r r' ta tb tc σ H Q := q
theorem o_sl {r : V → Option Int → Option Int → Hp → VK → Prop} (q : te σ H fun x H1 => to1 σ H1 fun l H2 => to2 σ H2 fun u H3 => r x l u H3 Q) : tSl r te to1 to2 σ H Q := q
theorem o_part (q : te σ H fun x H1 => ∃ n, x = .int n ∧ QO (some n) H1) : tPart te σ H QO := q
theorem o_nop (q : QO none H) : tNoPart σ H QO := q
theorem o_bm {T : String} {r : V → List V → Hp → VK → Prop} (q : te σ H fun x H1 => tyV K T x H1 ∧ t σ H1 fun xs H2 => r x xs H2 Q) : tBM K T r te t σ H Q := q
theorem o_bm0 {T : String} {r : V → List V → Hp → VK → Prop} (q : te σ H fun x H1 => tyV K T x H1 ∧ r x [] H1 Q) : tBM0 K T r te σ H Q := q
theorem o_m1 {r : V → List V → Hp → VK → Prop} (q : ta σ H fun x H1 => (∃ a, x = .str a) ∧ tb σ H1 fun y H2 => r x [y] H2 Q) : tM1 r ta tb σ H Q := q
theorem o_bl {P : Bool → Prop} (h : P b) : ∃ k, V.bl b = .bl k ∧ P k := ⟨b, rfl, h⟩
theorem o_int {P : Int → Prop} {n : Int} (h : P n) : ∃ k, V.int n = .int k ∧ P k := ⟨n, rfl, h⟩
theorem o_yes (q : QB true H) : tYes σ H QB := q
theorem o_gsub {t : TSet} {R : L2.St → Hp → Prop} (q : ta σ H fun o H1 => tb σ H1 fun i H2 => t o i v H2 fun H3 => R σ H3) : gSub ta tb t v σ H R := q
theorem o_gname {R : L2.St → Hp → Prop} (q : R (σ.set i (some v)) H) : gName i v σ H R := q
/-- values handed on -/
def tK (us : List V) : TA := fun _ H QA => QA us H
theorem lc_arg {tt : TT} {vs : List Nat} (q : t σ H fun us H1 => tLc (iRng1 (tK us)) g tt te vs σ H1 Q) : tLc (iRng1 t) g tt te vs σ H Q := q
/-! ### operations on values -/
variable {x y : Int} {s u : Str} {a p : Addr} {xs ys : List V} {d e : PyData}
theorem r_add (q : Q (.int (x + y)) H) : rdAdd (.int x) (.int y) H Q := ⟨x, y, rfl, rfl, q⟩
theorem r_sub (q : Q (.int (x - y)) H) : rdSub (.int x) (.int y) H Q := ⟨x, y, rfl, rfl, q⟩
theorem r_mul (h : CMul x y) (q : Q (.int (x * y)) H) : rdMul (.int x) (.int y) H Q := ⟨x, y, rfl, rfl, h, q⟩
theorem r_div (h : CDiv x y) (q : Q (.int (x / y)) H) : rdDiv (.int x) (.int y) H Q := ⟨x, y, rfl, rfl, h, q⟩
theorem r_mod (h : 0 < y) (q : Q (.int (x % y)) H) : rdMod (.int x) (.int y) H Q := ⟨x, y, rfl, rfl, h, q⟩
theorem r_pow (h : CPow x y) (q : Q (.int (x ^ y.toNat)) H) : rdPow (.int x) (.int y) H Q := ⟨x, y, rfl, rfl, h, q⟩
theorem r_lt (q : Q (.bl (decide (x < y))) H) : rdLt (.int x) (.int y) H Q := ⟨x, y, rfl, rfl, q⟩
theorem r_le (q : Q (.bl (decide (x ≤ y))) H) : rdLe (.int x) (.int y) H Q := ⟨x, y, rfl, rfl, q⟩
theorem r_gt (q : Q (.bl (decide (y < x))) H) : rdGt (.int x) (.int y) H Q := ⟨x, y, rfl, rfl, q⟩
theorem r_ge (q : Q (.bl (decide (y ≤ x))) H) : rdGe (.int x) (.int y) H Q := ⟨x, y, rfl, rfl, q⟩
theorem r_adds (h : s.length + u.length ≤ sizeLine) (q : Q (.str (s ++ u)) H) : rdAddS (.str s) (.str u) H Q := ⟨s, u, rfl, rfl, h, q⟩
theorem r_leS (q : Q (.bl (!decide (u.cps.toList < s.cps.toList))) H) : rdLeS (.str s) (.str u) H Q := ⟨s, u, rfl, rfl, q⟩
theorem r_eq (h : scal v w = true) (q : Q (.bl (decide (v = w))) H) : rEq v w H Q := ⟨h, q⟩
theorem r_ne (h : scal v w = true) (q : Q (.bl (!decide (v = w))) H) : rNe v w H Q := ⟨h, q⟩
theorem r_isN (q : Q (.bl (decide (v = .non))) H) : rdIsN v .non H Q := ⟨rfl, q⟩
theorem r_notN (q : Q (.bl (!decide (v = .non))) H) : rdNotN v .non H Q := ⟨rfl, q⟩
theorem r_inS {c : Nat} (q : Q (.bl (decide (c ∈ s.cps.toList))) H) : rdInS (.str ⟨#[c]⟩) (.str s) H Q := ⟨c, s, rfl, rfl, q⟩
theorem r_ixL (h : SqL K H p xs) (ha : atI xs x = some v) (q : Q v H) : rIxL K (.ref p) (.int x) H Q := ⟨p, xs, x, v, rfl, rfl, h, ha, q⟩
theorem r_ixT (h : SqT K H p xs) (ha : atI xs x = some v) (q : Q v H) : rIxT K (.ref p) (.int x) H Q := ⟨p, xs, x, v, rfl, rfl, h, ha, q⟩
theorem r_ixS {c : Nat} (h : s.length ≤ sizeLine) (ha : atI s.cps.toList x = some c) (q : Q (.str ⟨#[c]⟩) H) : rIxS (.str s) (.int x) H Q := ⟨s, x, c, rfl, rfl, h, ha, q⟩
theorem r_lenL (h : SqL K H p xs) (q : Q (.int (xs.length : Int)) H) : rdLen K [.ref p] H Q := ⟨p, xs, rfl, .inl h, q⟩
theorem r_lenT (h : SqT K H p xs) (q : Q (.int (xs.length : Int)) H) : rdLen K [.ref p] H Q := ⟨p, xs, rfl, .inr h, q⟩
theorem r_lenS (h : s.length ≤ sizeLine) (q : Q (.int (s.length : Int)) H) : rdLenS [.str s] H Q := ⟨s, rfl, h, q⟩
theorem r_int (q : Q (.int x) H) : rdInt [.int x] H Q := .inl ⟨x, rfl, q⟩
theorem r_intB (q : Q (.int (if b then 1 else 0)) H) : rdInt [.bl b] H Q := .inr ⟨b, rfl, q⟩
theorem r_all {bs : List Bool} (h : SqL K H p (bs.map V.bl)) (q : Q (.bl (bs.all id)) H) : rAll K [.ref p] H Q := ⟨p, bs, rfl, h, q⟩
theorem r_tupL (h : SqL K H p xs) (q : ∀ l, H l = none → Q (.ref l) (upd H l (.tup xs))) : rdTuple K [.ref p] H Q := ⟨p, xs, rfl, .inl ⟨h, q⟩⟩
theorem r_tupT (h : SqT K H p xs) (q : Q (.ref p) H) : rdTuple K [.ref p] H Q := ⟨p, xs, rfl, .inr ⟨h, q⟩⟩
theorem r_inL {neg : Bool} (h : SqL K H p xs) (h1 : flatV v = true) (h2 : xs.all flatV = true) (q : Q (.bl (if neg then !inV v xs else inV v xs)) H) : rIn K neg v (.ref p) H Q := ⟨p, xs, rfl, .inl h, h1, h2, q⟩
theorem r_inT {neg : Bool} (h : SqT K H p xs) (h1 : flatV v = true) (h2 : xs.all flatV = true) (q : Q (.bl (if neg then !inV v xs else inV v xs)) H) : rIn K neg v (.ref p) H Q := ⟨p, xs, rfl, .inr h, h1, h2, q⟩
theorem r_app (h : H p = some (.lst xs)) (hz : xs.length < sizeLine) (q : Q .non (upd H p (.lst (xs ++ [v])))) : rAppend (.ref p) [v] H Q := ⟨p, xs, v, rfl, rfl, h, hz, q⟩
theorem r_cat {z : Addr} (h : H p = some (.lst xs)) (h' : H z = some (.lst ys)) (hz : xs.length + ys.length ≤ sizeLine) (q : ∀ l, H l = none → Q (.ref l) (upd H l (.lst (xs ++ ys)))) : rCat (.ref p) (.ref z) H Q := ⟨p, z, xs, ys, rfl, rfl, h, h', hz, q⟩
theorem r_slL {lo hi : Option Int} (h : SqL K H p xs) (q : ∀ l, H l = none → Q (.ref l) (upd H l (.lst (cutV xs lo hi)))) : rSlL K (.ref p) lo hi H Q := ⟨p, xs, rfl, h, q⟩
theorem r_slS {lo hi : Option Int} (h : s.length ≤ sizeLine) (q : Q (.str (cutS s lo hi)) H) : rSlS (.str s) lo hi H Q := ⟨s, rfl, h, q⟩
theorem r_setL {n : Nat} (h : H p = some (.lst xs)) (hi : ixN xs.length x = some n) {R : Hp → Prop} (q : R (upd H p (.lst (xs.set n v)))) : rSetL (.ref p) (.int x) v H R := ⟨p, xs, x, n, rfl, rfl, h, hi, q⟩
/-! ### the same, with what they hand on asked together -/
theorem e_lenL (q : ∃ xs, SqL K H p xs ∧ Q (.int (xs.length : Int)) H) : rdLen K [.ref p] H Q := let ⟨_, h, q⟩ := q; r_lenL h q
theorem e_ixL (q : ∃ xs v, SqL K H p xs ∧ atI xs x = some v ∧ Q v H) : rIxL K (.ref p) (.int x) H Q := let ⟨_, _, h, ha, q⟩ := q; r_ixL h ha q
theorem e_ixT (q : ∃ xs v, SqT K H p xs ∧ atI xs x = some v ∧ Q v H) : rIxT K (.ref p) (.int x) H Q := let ⟨_, _, h, ha, q⟩ := q; r_ixT h ha q
theorem at_nat {α : Type} {l : List α} {n : Nat} {z : α} (h : l[n]? = some z) : atI l (n : Int) = some z := by
  have hl := (List.getElem?_eq_some_iff.mp h).1
  unfold atI ixN
  rw [if_pos (by omega), if_pos (by omega)]
  simpa using h
theorem at_int {α : Type} {l : List α} {i : Int} {z : α} (h0 : 0 ≤ i) (h : l[i.toNat]? = some z) : atI l i = some z := by
  have e : ((i.toNat : Nat) : Int) = i := Int.toNat_of_nonneg h0
  rw [← e]
  exact at_nat h
theorem atZ0 {α : Type} {r : List α} {z : α} : atI (z :: r) 0 = some z := at_nat (n := 0) rfl
theorem atZ1 {α : Type} {r : List α} {y z : α} : atI (y :: z :: r) 1 = some z := at_nat (n := 1) rfl
theorem atZ2 {α : Type} {r : List α} {x y z : α} : atI (x :: y :: z :: r) 2 = some z := at_nat (n := 2) rfl
theorem atZ3 {α : Type} {r : List α} {w x y z : α} : atI (w :: x :: y :: z :: r) 3 = some z := at_nat (n := 3) rfl
theorem r_kd {m : List (Str × Int)} {n : Int} (hi : KdInts K a m) (hl : m.lookup s = some n) (q : Q (.int n) H) : rItemKd K a (.ref a) (.str s) H Q := by
  obtain ⟨r, h1, h2, h3⟩ := hi s
  obtain ⟨t, e⟩ := h3 n hl
  exact ⟨s, _, n, rfl, rfl, by rw [h1, e], ⟨t, rfl⟩, q⟩
theorem r_inKd {m : List (Str × Int)} (hi : KdInts K a m) (q : Q (.bl (m.lookup s).isSome) H) : rInKd K a (.str s) (.ref a) H Q := by
  obtain ⟨r, h1, h2, h3⟩ := hi s
  refine ⟨s, r, rfl, rfl, h1, ?_⟩
  cases e : m.lookup s with
  | none => rw [e] at q; rw [h2 e]; exact q
  | some n =>
    obtain ⟨t, e2⟩ := h3 n e
    rw [e] at q; rw [e2]; exact q
/-! ### ifs -/
theorem ifs_next {Cond : Prop} (hn : ∀ H', Kp [] H H' → ¬ Cond → D.nx σ H') (h : ∀ N : Hp → Prop, (∀ H', Kp [] H H' → ¬ Cond → N H') → tt σ H fun c H1 => if c = true then ts D σ H1 else N H1) : tIfS tt ts tNext D σ H := h (fun H' => D.nx σ H') hn
theorem iteP {c A B : Prop} [Decidable c] (h : c) (a : A) : if c then A else B := by rw [if_pos h]; exact a
theorem iteN {c A B : Prop} [Decidable c] (h : ¬ c) (b : B) : if c then A else B := by rw [if_neg h]; exact b
theorem iteNT {A B : Prop} (h : B) : if (!true) = true then A else B := (if_neg (by decide)).mpr h
theorem iteNF {A B : Prop} (h : A) : if (!false) = true then A else B := (if_pos rfl).mpr h
theorem if_b {A B : Prop} (hA : b = true → A) (hB : b = false → B) : if b = true then A else B := by
  cases b with
  | true => exact (if_pos rfl).mpr (hA rfl)
  | false => exact (if_neg Bool.false_ne_true).mpr (hB rfl)
theorem sqL_new (h : H p = none) {o : HO} (hs : SqL K H a xs) : SqL K (upd H p o) a xs := (kp_new h).sqL (by simp) hs
theorem sqT_new (h : H p = none) {o : HO} (hs : SqT K H a xs) : SqT K (upd H p o) a xs := (kp_new h).sqT (by simp) hs
theorem sqT_mut (h : H p = some (.lst ys)) {o : HO} (hs : SqT K H a xs) : SqT K (upd H p o) a xs := ((Tk.refl H).lst h).sqT hs
end
end Sf
/-! several clauses «except x as n»; isinstance of a held error with a tuple of classes; promises of defs that raise -/
namespace Sf
open PySem PySem.Spec PyProof.Rows L2
abbrev Cl := Value × Nat × (Addr → Value → Option Addr → TS)
/-- the ends of a suite whose name (slot i) goes -/
def outE (D : Ends) (i : Nat) : Ends := ⟨fun s h => D.nx (s.set i none) h, D.rt, fun s h => D.bk (s.set i none) h, fun s h => D.ct (s.set i none) h⟩
/-- what the clauses wish -/
def wishA (Kf : PySem.W.Frag) (past : WX) (D : Ends) : List Cl → WX
  | [] => past
  | q :: r => fun ty dx sl Hh => ∃ yes, PySem.W.exmOne Kf ty q.1 = some yes ∧ (yes = false → wishA Kf past D r ty dx sl Hh) ∧ (yes = true → ∀ ad, Hh ad = none → q.2.2 ad ty dx (outE D q.2.1) (sl.set q.2.1 (some (.ref ad))) Hh)
/-- the clauses' text -/
inductive AsCl (X : Cx) : List ExceptHandler → List Cl → Prop
  | nil : AsCl X [] []
  | cons {x n : Str} {i : Nat} {ty : Value} {ts : Addr → Value → Option Addr → TS} {st : Stmt} {sts : List Stmt} {p1 p2 : Pos} {more : List ExceptHandler} {l : List Cl} (i1 : X.N[i]? = some n) (i2 : X.env.kindOf n = some .local) (cn : Names X x ty)
      (su : ∀ (ad : Addr) (ob : Obj) (c : Value) (dx : Option Addr) (pl : List (Addr × Obj)), Zc c dx ob → (∃ vs, ob.data = .fields vs) → PSs (X.suite ad ((ad, ob) :: pl)) (st :: sts) (ts ad c dx)) (r : AsCl X more l) :
      AsCl X (.ExceptHandler (some (.Name x p1)) (some n) (st :: sts) p2 :: more) ((ty, i, ts) :: l)
section
variable {X : Cx}
/-- an error a that lies still in the heap of s: what is needed to look at the clauses -/
structure Still (X : Cx) (pins : List (Addr × Obj)) (sl : L2.St) (Hh : Hp) (s0 s : Shared) (G : Heap) (a : Addr) (ty : Value) (dx : Option Addr) : Prop where
  inv : Inv X pins sl Hh s0
  gnd : ∀ b o, s0.heap.get? b = some o → b ∉ frs X.stack → G.get? b = some o
  up : s0.heap.UpToSlots s.heap
  fly : HandSPX.FlyingZ G (X.env :: X.outer) a (Zc ty dx) s.heap
  no : Hh a = none
  os : s.os = s0.os
  ag : AllBare s.gens
theorem Still.now {pins : List (Addr × Obj)} {sl : L2.St} {Hh : Hp} {s0 s : Shared} {G : Heap} {a : Addr} {ty : Value} {dx : Option Addr} (S : Still X pins sl Hh s0 s G a ty dx) : Inv X pins sl Hh s := S.inv.landed S.gnd S.fly.1 S.up S.os S.ag
theorem Still.to {pins : List (Addr × Obj)} {sl : L2.St} {Hh : Hp} {s0 s : Shared} {G : Heap} {a : Addr} {ty : Value} {dx : Option Addr} (S : Still X pins sl Hh s0 s G a ty dx) {h2 : Heap} (f : HandSPX.FlyingZ G (X.env :: X.outer) a (Zc ty dx) h2) (u : s.heap.UpToSlots h2) :
    Still X pins sl Hh s0 { s with heap := h2 } G a ty dx := ⟨S.inv, S.gnd, S.up.trans u, f, S.no, S.os, S.ag⟩
/-- the state in which a suite runs -/
theorem Still.in_ {pins : List (Addr × Obj)} {sl : L2.St} {Hh : Hp} {s0 s : Shared} {G : Heap} {a : Addr} {ty : Value} {dx : Option Addr} (hf : X.env.frame = some X.env.locals) (S : Still X pins sl Hh s0 s G a ty dx) :
    ∃ ob, s.heap.get? a = some ob ∧ Zc ty dx ob ∧ (∃ vs, ob.data = .fields vs) ∧ Inv (X.suite a ((a, ob) :: (X.pn ++ pins))) [] sl Hh s := by
  obtain ⟨ob, vs, at_, z, d⟩ := S.fly.there
  have away : a ∉ frs (X.env :: X.outer) := fun hm => by
    obtain ⟨_, o2, e2, other⟩ := S.fly.2.2.1.mem hm
    have eo : ob = o2 := Option.some.inj (at_.symm.trans e2)
    exact other vs (eo ▸ d)
  have nl : a ≠ X.env.locals := by
    rintro rfl
    exact away (List.mem_filterMap.mpr ⟨X.env, List.mem_cons_self, hf⟩)
  have nf : a ∉ X.fs := fun hm => by
    obtain ⟨en, m1, m2⟩ := List.mem_filterMap.mp hm
    exact away (List.mem_filterMap.mpr ⟨en, List.mem_cons_of_mem _ m1, m2⟩)
  exact ⟨ob, at_, z, ⟨vs, d⟩, S.now.suite at_ d S.no nl nf⟩
theorem clauses {past : WX} {D : Ends} (hs : X.stack = X.env :: X.outer) (hf : X.env.frame = some X.env.locals) (nd : X.N.Nodup) (tk : Takes X past) {G : Heap} {a : Addr} {ty : Value} {dx : Option Addr} {pins : List (Addr × Obj)} {sl : L2.St} {Hh : Hp} {s0 : Shared} :
    ∀ {hds : List ExceptHandler} {l : List Cl}, AsCl X hds l → ∀ s : Shared, Still X pins sl Hh s0 s G a ty dx → wishA X.K past D l ty dx sl Hh → wpAny (model X.prog X.w) X.A (handleBy (.ref a) X.env hds) (SP X pins D) X.xe s := by
  intro hds l k
  induction k with
  | nil =>
    intro s S w
    obtain ⟨f1, f2, f3, ob, vs, tb, ot, ts, at_, z, d, v1, rest⟩ := id S.fly
    apply wpAny_handleBy_nil
    unfold PySem.passOn
    refine wpAny_bind (wpAny_field at_ d v1 ?_)
    have nn : ¬ ((Value.ref tb == Value.none) = true) := by simp
    rw [if_neg nn]
    have out : wpAny (model X.prog X.w) X.A (setFlight (.ref a) X.env.frame) (fun _ t => wpAny (model X.prog X.w) X.A (throw (.ref a) : Sem Flow) (SP X pins D) X.xe t) X.xe s := by
      rw [hf]
      refine HandSPX.setFlight_upZ S.fly fun h2 held u => ?_
      refine wpAny_throw (tk _ _ ⟨a, G, s0, pins, sl, Hh, ty, dx, rfl, S.inv, S.gnd, S.up.trans u, .inr (.inr ?_), S.no, S.os, S.ag, w⟩)
      rw [hs]
      exact held
    first
      | exact wpAny_bind (wpAny_pure (wpAny_bind out))
      | exact wpAny_bind out
  | @cons x n i c ts st sts p1 p2 more l i1 i2 cn su r ih =>
    intro s S w
    obtain ⟨yes, m, wn, wy⟩ := w
    obtain ⟨ob, at_, z, fd, J⟩ := S.in_ hf
    have ofT : PySem.W.Looks (model X.prog X.w) s.heap (typeOf (.ref a)) ty := fun _ _ _ t kk q => wpAny_typeOf_ref (kk _ _ at_) (by rw [z.1]; exact q)
    refine wpAny_handleBy_cons (codeAny_handlers_test ?_) (by intro q; cases q)
    have named : ∀ {Q E : Value → Shared → Prop}, Q c s → wpAny (model X.prog X.w) (X.A.mark (some (.ref a))) (eval (.Name x p1) X.env) Q E s := by
      intro Q E q
      rcases cn with ⟨g, db, e | ⟨e, bb, nn⟩⟩
      · exact ld_glob (X := X.suite a ((a, ob) :: (X.pn ++ pins))) J g e q db
      · exact ld_blt (X := X.suite a ((a, ob) :: (X.pn ++ pins))) J g e bb q nn db
    refine named ((PySem.W.exm_one (M := model X.prog X.w) J.kIn ofT m).here ?_)
    cases yes with
    | false =>
      show wpAny _ X.A (handleBy (.ref a) X.env more) _ _ _
      exact ih s S (wn rfl)
    | true =>
      apply codeAny_handlers_suite_as
      refine HandSPX.lands_againZ S.fly fun h2 f2 u2 => ?_
      obtain ⟨ob2, _, z2, fd2, J2⟩ := (S.to f2 u2).in_ hf
      refine store_ok (X := X.suite a ((a, ob2) :: (X.pn ++ pins))) (v := .ref a) J2 nd i1 (.inl i2) rfl (fun s3 J3 => ?_) (.inr i2)
      refine wpAny_mono ((su a ob2 ty dx (X.pn ++ pins) z2 fd2).run [] s3 _ Hh (outE D i) J3 (wy rfl a S.no)) (fun fl s4 told => ?_) fun _ _ no => no.elim
      have gone : ∀ {sg : L2.St} {H4 : Hp} {Q : Shared → Prop}, Inv (X.suite a ((a, ob2) :: (X.pn ++ pins))) [] sg H4 s4 → (∀ s5, Inv X pins (sg.set i none) H4 s5 → Q s5) →
          wpAny (model X.prog X.w) X.A (do bindName X.env n .none; unbindBehindTheSuite X.env n p2) (fun _ t => Q t) X.xe s4 := by
        intro sg H4 Q J4 q
        exact gone_ok (J4.unsuite S.inv.ok) nd i1 i2 q
      match fl, told with
      | .next, ⟨_, _, J4, q⟩ => exact gone J4 fun t J5 => ⟨_, _, J5, q⟩
      | .brk, ⟨_, _, J4, q⟩ => exact gone J4 fun t J5 => ⟨_, _, J5, q⟩
      | .cont, ⟨_, _, J4, q⟩ => exact gone J4 fun t J5 => ⟨_, _, J5, q⟩
      | .ret u, ⟨_, _, _, J4, rl, q⟩ => exact gone J4 fun t J5 => ⟨_, _, _, J5, rl, q⟩
/-- try: body / except x1 as n1: .. / except x2 as n2: .. -/
theorem ps_try_named {past : WX} {body : List Stmt} {h1 : ExceptHandler} {hds : List ExceptHandler} {l : List Cl} {pos : Pos} {tb : WX → TS} (hs : X.stack = X.env :: X.outer) (hf : X.env.frame = some X.env.locals) (nd : X.N.Nodup) (tk : Takes X past)
    (hb : ∀ (W : WX) (pl : List (Addr × Obj)) (xe : Value → Shared → Prop), Takes (X.tr pl xe) W → PassesOwn (model X.prog X.w) X.A X.env xe → PSs (X.tr pl xe) body (tb W)) (k : AsCl X (h1 :: hds) l) :
    PS X (.Try body (h1 :: hds) [] [] pos) (fun D sl Hh => tb (wishA X.K past D l) D sl Hh) := by
  constructor
  intro pins s sl Hh D I h
  have okx := I.ok
  have frm : X.A.frames = some (X.env :: X.outer) := okx.frames.trans (congrArg some hs)
  apply wpAny_Try_except
  refine wpAny_mono ((hb (wishA X.K past D l) (X.pn ++ pins) (fun er t => wpAny (model X.prog X.w) X.A (noteFrame er X.env) (fun _ t2 => wpAny (model X.prog X.w) X.A (setFlight er none) (fun _ t3 =>
    wpAny (model X.prog X.w) X.A (handleBy er X.env (h1 :: hds)) (SP X pins D) X.xe t3) X.xe t2) X.xe t) (fun u t air => ?_) PassesOwn.looking).run [] s sl Hh D (I.toTry _) h) (fun fl t told => ?_) fun _ _ z => z
  · obtain ⟨a, G, s0, pl, sg, H2, ty, dx, rfl, J, gnd, up, sky, no, os, ag, w⟩ := air
    rw [hs] at sky
    have J := J.ofTry okx
    show wpAny (model X.prog X.w) X.A (noteFrame (.ref a) X.env) _ _ _
    refine Sky.land Zc.steady frm hf sky fun h2 fly u2 => ?_
    exact clauses hs hf nd tk k { t with heap := h2 } ⟨J, gnd, up.trans u2, fly, no, os, ag⟩ w
  · match fl, told with
    | .next, ⟨sg, H2, J, q⟩ => exact wpAny_execs_nil ⟨sg, H2, J.ofTry okx, q⟩
    | .brk, ⟨sg, H2, J, q⟩ => exact ⟨sg, H2, J.ofTry okx, q⟩
    | .cont, ⟨sg, H2, J, q⟩ => exact ⟨sg, H2, J.ofTry okx, q⟩
    | .ret u, ⟨v, sg, H2, J, rl, q⟩ => exact ⟨v, sg, H2, J.ofTry okx, rl, q⟩
/-- isinstance(e, (c1, ..)), e the held error -/
def rIsEs (Kf : PySem.W.Frag) (D a : Addr) : List V → Hp → VK → Prop := fun xs Hh q => ∃ (tp : Addr) (cs : List V) (us : List Value) (b : Bool), xs = [.ref a, .ref tp] ∧ Hh tp = some (.tup cs) ∧ Paired ClsV cs us ∧ PySem.W.kitAny Kf (.ref D) us = some b ∧ q (.bl b) Hh
theorem call_isEs {a D : Addr} {ob : Obj} {pl : List (Addr × Obj)} (C : ExcC X.K D) (z : Zc (.ref D) none ob) (hf : ∃ vs, ob.data = .fields vs) : CallR (X.suite a ((a, ob) :: pl)) (.builtin "isinstance") (rIsEs X.K D a) := by
  intro pins s sl Hh xs us q I r h
  obtain ⟨tp, cs, cv, b, rfl, hT, k, e, q⟩ := h
  obtain ⟨u1, u2, rfl, r1, r2⟩ := vals2 r
  have e1 : u1 = Value.ref a := r1
  have e2 : u2 = Value.ref tp := r2
  subst e1 e2
  obtain ⟨at_, _⟩ := I.pin (a, ob) (List.mem_append.mpr (.inl List.mem_cons_self))
  obtain ⟨vs, dv⟩ := hf
  have J : PySem.W.InstAt s.heap a ob D none := by
    obtain ⟨oc, od, oda, osl⟩ := ob
    obtain ⟨z1, z2⟩ := z
    dsimp only at z1 z2 dv
    subst z1 z2 dv
    exact ⟨at_, rfl, rfl, trivial⟩
  have ht : ObjOk X.prog X.w Hh s.heap tp (.tup cs) := I.hok tp _ hT
  obtain ⟨_, its, rv, o, h1, h2, n, h3⟩ := ht
  have ev := ClsV.all k rv
  subst ev
  obtain ⟨oc, od, dt, osl⟩ := o
  simp only at h2 h3
  subst h2 h3
  exact PySem.W.kia_tup (PySem.W.handS_kitx_exc C.hg C.hk C.hs C.hd C.ha C.hn C.ht C.hm) I.kIn J h1 e (fun y => nomatch y) fun tk => ⟨.bl b, Hh, I.kept (t' := tk) fun _ _ y => y, rfl, q⟩
end
/-! ### promises of defs of any caller (FnOk), by derivations -/
def BodyP (Pg : Program) (wo : World) (Kf : PySem.W.Frag) (glo : Str → Option Value) (bs : Heap) (lv : Nat) (x : Str) (st : Stmt) (ad : Addr) (nm : List Str) (t : TS) : Prop :=
  ∀ (cdv : Value) (R : Around) (out : List Env) (s : Shared) (Hh : Hp) (E : XK), Room lv (R.deeper (envOfC x (defScope st) s.heap.objs.size ad cdv)) →
    PSs (cxOf CX0 Pg wo Kf glo bs nm x (defScope st) ad cdv R out s Hh E).nox (defBody st) t
def BodyX (Pg : Program) (wo : World) (Kf : PySem.W.Frag) (glo : Str → Option Value) (bs : Heap) (lv : Nat) (x : Str) (st : Stmt) (ad : Addr) (nm : List Str) (t : XK → TS) : Prop :=
  ∀ (cdv : Value) (R : Around) (out : List Env) (s : Shared) (Hh : Hp) (E : XK), Room lv (R.deeper (envOfC x (defScope st) s.heap.objs.size ad cdv)) →
    PSs (cxOf (L2.CX Pg wo) Pg wo Kf glo bs nm x (defScope st) ad cdv R out s Hh E) (defBody st) (t E)
section
variable {Pg : Program} {wo : World} {Kf : PySem.W.Frag} {glo : Str → Option Value} {bs : Heap} {lv : Nat} {x qual : Str} {st : Stmt} {ad : Addr} {fu : FuncData} {nm pl : List Str} {pr : Sp}
theorem okP {t : TS} (F : Fun Kf x qual st ad fu) (S : FnScope nm pl (defScope st)) (len : ∀ a b c d, pr a b c d → a.length = pl.length) (B : BodyP Pg wo Kf glo bs lv qual st ad nm t)
    (h : ∀ vv Hh q E, pr vv Hh q E → t { nx := fun _ H' => q .non H', rt := q } (start nm vv) Hh) : FnOk Pg wo Kf glo bs CX0 (lv + 1) ad fu pl pr :=
  F.ok S len fun cdv R out s Hh vv q E ro hp => ⟨t, B cdv R out s Hh E ro, h vv Hh q E hp⟩
theorem okX {t : XK → TS} (F : Fun Kf x qual st ad fu) (S : FnScope nm pl (defScope st)) (len : ∀ a b c d, pr a b c d → a.length = pl.length) (B : BodyX Pg wo Kf glo bs lv qual st ad nm t)
    (h : ∀ vv Hh q E, pr vv Hh q E → t E { nx := fun _ H' => q .non H', rt := q } (start nm vv) Hh) : FnOk Pg wo Kf glo bs (L2.CX Pg wo) (lv + 1) ad fu pl pr :=
  F.okX S len fun cdv R out s Hh vv q E ro hp => ⟨t E, B cdv R out s Hh E ro, h vv Hh q E hp⟩
end
/-! ### attributes -/
section
variable {K : PySem.W.Frag} {σ : L2.St} {H : Hp} {ta tv te : TE} {t : TA} {D : Ends} {Q : VK} {f : Str} {C a dx : Addr} {fs : List (Str × V)} {v : V} {sp : Sp} {E : XK}
theorem o_fld (h : ∀ R : VK, R (.ref a) H → ta σ H R) (e : H a = some (.ins C dx fs)) (c : Cls K C) (n : NoAttr K C f) (l : fs.lookup f = some v) (q : Q v H) : tFld K ta f σ H Q := h _ ⟨a, C, dx, fs, v, rfl, e, c, n, l, q⟩
theorem o_setF (q : tv σ H fun y H1 => ta σ H1 fun x H2 => ∃ a C dx fs, x = .ref a ∧ H2 a = some (.ins C dx fs) ∧ Cls K C ∧ NoAttr K C f ∧ fs.length < 1000 ∧ D.nx σ (upd H2 a (.ins C dx (putF f y fs)))) : sFld K ta tv f D σ H := q
theorem o_meth (q : ta σ H fun x H1 => ∃ a dx fs, x = .ref a ∧ H1 a = some (.ins C dx fs) ∧ fs.lookup f = none ∧ t σ H1 fun vs H2 => sp (x :: vs) H2 Q E) : tMeth C f sp [] E ta t σ H Q := by
  unfold tMeth
  simp only [List.append_nil]
  exact q
end
/-- o.m(e, ..) where the method may raise: what it raises is wished for at the slots as they stand -/
def tMethX (C : Addr) (m : Str) (pr : Sp) (E : L2.St → XK) (ta : TE) (t : TA) : TE := fun sl Hh q => ta sl Hh fun x H1 => ∃ a dx fs, x = .ref a ∧ H1 a = some (.ins C dx fs) ∧ fs.lookup m = none ∧ t sl H1 fun vs H2 => pr (x :: vs) H2 q (E sl)
section
variable {X : Cx} {cx : CXT} {lv : Nat} {f C : Addr} {fu : FuncData} {pl : List Str} {pr : Sp} {E : L2.St → XK} {m : Str} {p1 p2 : Pos} {e o : Expr} {es : List Expr} {ta : TE} {t : TA} {ps : Sem Bool}
theorem pe_methX (he : PE X o ta) (c : Cls X.K C) (hm : Meth X.K C m f) (F : FnOk X.prog X.w X.K X.mg X.base cx lv f fu pl pr) (ro : Room lv X.A) (bi : Binds X.K fu pl []) (at_ : ∀ sl, PassesAt cx X sl (E sl)) (ha : PA X (e :: es) t)
    (hst : starEach (e :: es) X.env = (false, eval e X.env) :: starEach es X.env := by rfl) (hbk : (backTo p1 (starEach es X.env)).any (·.1) = false := by rfl)
    (hev : eval (.Call (.Attribute o m p2) (e :: es) [] p1) X.env = (do
      let ov ← eval o X.env
      standAt p2.atName
      let (fn, fst) ← holding [ov] (getMethod ov m ps)
      callWith p1 fn fst (backTo p1 (starEach (e :: es) X.env)) (backToKw p1 (keywordEach [] X.env))) := by rfl) : PE X (.Call (.Attribute o m p2) (e :: es) [] p1) (tMethX C m pr E ta t) := by
  constructor
  intro pins s sl Hh q I h
  refine PySem.W.methodCall_KW (pl := ps) (thn (he.run pins s sl Hh _ I h) fun u s1 ⟨x, H1, I1, rx, a, dx, fs, ex, at1, no, go⟩ => ?_) hev
  subst ex
  have eu : u = Value.ref a := rx
  subst eu
  refine getmeth_ok I1 at1 c hm no (PySem.W.callWith_K (first := [.ref a]) (h₀ := X.base) I.ok.mod.kin hm.kp (thn (ha.run p1 pins s1 sl H1 _ I1 go) fun us s2 ⟨vs, H2, I2, r, go2⟩ => ?_) hst hbk)
  exact ⟨I2.kIn, run_fnS (us := .ref a :: us) (vs := .ref a :: vs) F ro bi (at_ sl) I2 (.cons rfl r) go2⟩
theorem pe_methX0 (he : PE X o ta) (c : Cls X.K C) (hm : Meth X.K C m f) (F : FnOk X.prog X.w X.K X.mg X.base cx lv f fu pl pr) (ro : Room lv X.A) (bi : Binds X.K fu pl []) (at_ : ∀ sl, PassesAt cx X sl (E sl))
    (hev : eval (.Call (.Attribute o m p2) [] [] p1) X.env = (do
      let ov ← eval o X.env
      standAt p2.atName
      let (fn, fst) ← holding [ov] (getMethod ov m ps)
      callWith p1 fn fst (backTo p1 (starEach [] X.env)) (backToKw p1 (keywordEach [] X.env))) := by rfl) : PE X (.Call (.Attribute o m p2) [] [] p1) (tMethX C m pr E ta tNil) := by
  constructor
  intro pins s sl Hh q I h
  refine PySem.W.methodCall_KW (pl := ps) (thn (he.run pins s sl Hh _ I h) fun u s1 ⟨x, H1, I1, rx, a, dx, fs, ex, at1, no, go⟩ => ?_) hev
  subst ex
  have eu : u = Value.ref a := rx
  subst eu
  refine getmeth_ok I1 at1 c hm no ?_
  exact PySem.W.callWith_K0 (first := [.ref a]) I1.kIn hm.kp (run_fnS (us := [.ref a]) (vs := [.ref a]) F ro bi (at_ sl) I1 (.cons rfl .nil) go)
end
end Sf
namespace Sf
open PySem PySem.Spec PyProof.Rows L2
/-- raise C('..'), C at this address -/
def tRaise (E : XK) (C : Addr) : TS := fun _ _ Hh => E (.ref C) none Hh
/-- a suite where the held error is known -/
def tIs (c : Value) (dx : Option Addr) (ty : Value) (t : TS) : TS := fun D sl Hh => c = ty ∧ dx = none ∧ t D sl Hh
abbrev rdTupIndex (K : PySem.W.Frag) : V → List V → Hp → VK → Prop := fun x xs H Q => ∃ p, ∃ ys : List Str, ∃ z j, x = .ref p ∧ xs = [.str z] ∧ SqT K H p (ys.map V.str) ∧ ys[j]? = some z ∧ (∀ m, m < j → ys[m]? ≠ some z) ∧ Q (.int (j : Nat)) H
section
variable {X : Cx} {cx : CXT} {lv : Nat} {ad : Addr} {fu : FuncData} {pl : List Str} {pr : Sp} {E : XK} {x : Str} {st : Stmt} {p pos : Pos} {e : Expr} {es : List Expr} {t : TA}
theorem pss_is {ss : List Stmt} {c : Value} {dx : Option Addr} {ty : Value} {t : TS} (h : c = ty → dx = none → PSs X ss t) : PSs X ss (tIs c dx ty t) := by
  constructor
  rintro pins s sl Hh D I ⟨h1, h2, q⟩
  exact (h h1 h2).run pins s sl Hh D I q
theorem nm_of {C : Addr} (g : X.mg x = some (.ref C)) (hg : Gl X x := by rfl) (hd : (x == ("__debug__" : Str)) = false := by decide) : Names X x (.ref C) := ⟨hg, hd, .inl g⟩
/-- f(e, ..) by a promise for any caller -/
theorem pe_callP (D : Df X.K X.mg x st pl ad fu) (F : FnOk X.prog X.w X.K X.mg X.base cx lv ad fu pl pr) (ro : Room lv X.A) (ps : Passes cx X E) (ha : PA X (e :: es) t) (hg : Gl X x := by rfl)
    (dbg : (x == ("__debug__" : Str)) = false := by decide) (hst : starEach (e :: es) X.env = (false, eval e X.env) :: starEach es X.env := by rfl) (hbk : (backTo pos (starEach es X.env)).any (·.1) = false := by rfl) :
    PE X (.Call (.Name x p) (e :: es) [] pos) (rCallG pr E t) := by
  have r := pe_call (dvs := []) (p := p) (pos := pos) F ro hg D.m D.F.kp D.b .nil ps ha dbg hst hbk
  refine ⟨fun pins s sl Hh q I h => r.run pins s sl Hh q I ?_⟩
  show t sl Hh fun vs H1 => pr (vs ++ []) H1 q E
  simp only [List.append_nil]
  exact h
/-- sum(t), t a tuple of ints -/
def rSumT (K : PySem.W.Frag) : List V → Hp → VK → Prop := fun vs H Q => ∃ (a : Addr) (ns : List Int), vs = [V.ref a] ∧ SqT K H a (ns.map V.int) ∧ Q (.int ns.sum) H
theorem sum_tup {prog : Program} {w : World} {A : Around} {E : Value → Shared → Prop} {s : Shared} {l : Addr} {xs : Array (Int × Tok)} {Q : Value → Shared → Prop} (hh : A.handled = none) (hl : s.heap.IsTuple l (intItems xs))
    (h : ∀ h' tk t', (∀ b o, s.heap.get? b = some o → h'.get? b = some o) → Q (.int (preSum (numAt xs) xs.size) t') { s with heap := h', toks := tk }) : wpAny (model prog w) A (call (.builtin "sum") [.ref l]) Q E s := by
  have lt : l < s.heap.objs.size := by
    obtain ⟨_, e, _⟩ := hl
    exact Heap.lt_size e
  refine call_sum_walkG (wpAny_pyIter_tuple hl ⟨_, _, _, _, _, _, numAt xs, rfl, Walks.tuple (A := A.in1) hh _ l (Nat.ne_of_lt lt) (intItems xs), ⟨⟨_, Heap.get?_push_size _ rfl, rfl, rfl⟩, hl.push _⟩, ?_, (fun _ _ => intItems_at), fun h' tk t' hk => ?_⟩)
  · intro b hb
    show b < (s.heap.push _).objs.size
    rw [Heap.size_push]
    simp only [List.mem_cons, List.not_mem_nil, or_false] at hb
    rcases hb with e | e
    · rw [e]; exact Nat.lt_succ_self _
    · rw [e]; exact Nat.lt_succ_of_lt lt
  · have kept : ∀ b o, s.heap.get? b = some o → h'.get? b = some o := fun b o e => by
      refine hk b o (fun m => ?_) (Heap.get?_push_of_some _ e)
      have := Heap.lt_size e
      rw [List.mem_singleton.mp m] at this
      exact absurd this (Nat.lt_irrefl _)
    have q := h h' tk t' kept
    simpa [intItems] using q
theorem cr_sumT (hc : X.calm = true) : CallR X (.builtin "sum") (rSumT X.K) := by
  intro pins s sl Hh vs us q I r h
  obtain ⟨a, ns, rfl, ht, go⟩ := h
  obtain ⟨its, rv, tu, _⟩ := I.tuple ht
  rw [Vals.ref1 r]
  obtain ⟨xs, e⟩ := rv.ints.allInts.items
  have hn : numsOf (intItems xs).toList = ns := by rw [← e]; exact rv.ints.numsOf
  rw [nums_intItems] at hn
  have tu2 : s.heap.IsTuple a (intItems xs) := by rw [← e]; exact tu
  refine sum_tup (I.ok.hd hc) tu2 fun h' tk t' kept => ⟨.int _, Hh, I.kept kept, ⟨_, rfl⟩, ?_⟩
  rw [preSum_eq, List.take_of_length_le (by simp), hn]
  exact go
end
end Sf
/-! a tuple made while the law runs, its object known: its methods may be called -/
namespace Sf
open PySem PySem.Spec PyProof.Rows L2
/-- tuple(list): the new object has no dict -/
def rdTupleF (K : PySem.W.Frag) : List V → Hp → VK → Prop := fun a H Q => ∃ p ys, a = [.ref p] ∧ SqL K H p ys ∧ ∀ l o, H l = none → o.dict = none → Q (.ref l) (upd H l (.frz o (.tup ys)))
/-- t.m(..), t such a tuple -/
def tBMT (r : V → List V → Hp → VK → Prop) (to : TE) (t : TA) : TE := fun σ H Q => to σ H fun x H1 => (∃ p o xs, x = .ref p ∧ H1 p = some (.frz o (.tup xs)) ∧ o.dict = none) ∧ t σ H1 fun ys H2 => r x ys H2 Q
section
variable {X : Cx} {o e : Expr} {es : List Expr} {to : TE} {t : TA} {name : Str} {apos cpos : Pos} {id : String} {r : V → List V → Hp → VK → Prop}
theorem call_tuple_frz : CallR X (.type "tuple") (rdTupleF X.K) := by
  intro pins s sl Hh xs us q I rv h
  obtain ⟨p, ys, rfl, hq, go⟩ := h
  obtain ⟨u, rfl, ru⟩ := vals1 rv
  have eu : u = Value.ref p := ru
  subst eu
  obtain ⟨its, rs, pl, small⟩ := I.list hq
  have ln := rs.length
  refine call_tuple_list pl.isList (fun h2 kp => ?_) (by simp only [List.size_toArray]; omega)
  have I1 : Inv X pins sl Hh { s with heap := h2 } := I.kept (t' := s.toks) kp
  have at_ : (h2.push { cls := .type "tuple", data := .seq its.toArray }).get? h2.objs.size = some { cls := .type "tuple", data := .seq its.toArray } := Heap.get?_push_size _ rfl
  have I2 : Inv X pins sl (upd Hh h2.objs.size (.frz { cls := .type "tuple", data := .seq its.toArray } (.tup ys))) { s with heap := h2.push { cls := .type "tuple", data := .seq its.toArray } } :=
    I1.laid (t' := s.toks) (fun b ob e => Heap.get?_push_of_some _ e) (Nat.le_refl _) ⟨at_, small, its, rs, IsTup.new _ _⟩
  exact ⟨.ref h2.objs.size, _, I2, rfl, go _ _ (I1.hok.fresh (Nat.le_refl _)) rfl⟩
theorem pe_bmT (pa : PlainAttrs "tuple") (slot : Slot "tuple" name id) (hty : typeOf (.builtin id) = pure (.type "method_descriptor")) (hm : MtR X id r) (ho : PE X o to) (ha : PA X (e :: es) t)
    (hbase : attributeBase o name X.env (eval o X.env) = eval o X.env := by rfl)
    (few : ((backTo cpos (starEach (e :: es) X.env)).all (fun x => !x.1) && (backToKw cpos (keywordEach [] X.env)).all (fun x => x.1.isSome) && decide ((e :: es).length + ([] : List Keyword).length + (if ([] : List Keyword).isEmpty then 0 else 1) < 30)) = true := by rfl)
    (line : (apos.endLine == cpos.line) = true := by rfl) (st : starEach (e :: es) X.env = (false, eval e X.env) :: starEach es X.env := by rfl) (bk : (backTo cpos (starEach es X.env)).any (·.1) = false := by rfl) :
    PE X (.Call (.Attribute o name apos) (e :: es) [] cpos) (tBMT r to t) := by
  constructor
  intro pins s sl Hh q I h
  refine wpAny_Call_method_late hbase few line rfl (thn (ho.run pins s sl Hh _ I h) fun v s1 ⟨x, H1, I1, r1, ⟨p, ob, xs, ex, at_, nod⟩, go⟩ => ?_)
  subst ex
  have ev : v = Value.ref p := r1
  subst ev
  have ok : ObjOk X.prog X.w H1 s1.heap p (.frz ob (.tup xs)) := I1.hok p _ at_
  obtain ⟨g, _, its, _, o2, g2, c2, _⟩ := ok
  have eo : o2 = ob := Option.some.inj (g2.symm.trans g)
  subst eo
  refine ⟨"tuple", id, pa, slot, hty, ⟨o2, g, c2⟩, fun a e2 => ?_, ?_⟩
  · have ea : p = a := Value.ref.inj e2
    subst ea
    exact ⟨o2, g, nod⟩
  · have hA := ha.run cpos pins s1 sl H1 _ I1 go
    rw [st] at hA ⊢
    refine Calls.callWith_builtin (by show (false || (backTo cpos (starEach es X.env)).any (·.1)) = false; rw [bk]; rfl) (Calls.evalArgs_plain ?_)
    exact thn hA fun us s2 ⟨vs, H2, I2, r2, go2⟩ => hm pins s2 sl H2 (.ref p) vs (.ref p) us q I2 rfl r2 go2
end
end Sf
namespace Sf
open PySem PySem.Spec PyProof.Rows L2
/-- kept but at S, where tuples don't stand -/
def Kt (S : List Addr) (H H' : Hp) : Prop := Kp S H H' ∧ Tk H H'
section
variable {S S' : List Addr} {H H' H'' : Hp} {p : Addr} {o : HO}
theorem Kt.refl (S : List Addr) (H : Hp) : Kt S H H := ⟨Kp.refl S H, Tk.refl H⟩
theorem Kt.trans (a : Kt S H H') (b : Kt S H' H'') : Kt S H H'' := ⟨a.1.trans b.1, a.2.trans b.2⟩
theorem Kt.new (k : Kt S H H') (h : H' p = none) : Kt S H (upd H' p o) := ⟨k.1.new h, k.2.new h⟩
theorem Kt.lst {ys : List V} (k : Kt S H H') (h : H' p = some (.lst ys)) (m : p ∈ S) : Kt S H (upd H' p o) := ⟨k.1.mut m, k.2.lst h⟩
theorem Tk.ins {C dx : Addr} {fs : List (Str × V)} (k : Tk H H') (h : H' p = some (.ins C dx fs)) : Tk H (upd H' p o) := by
  refine ⟨fun c x e => g_mut ?_ (k.1 c x e), fun c z u e => g_mut ?_ (k.2 c z u e)⟩
  · rintro rfl
    rw [k.1 c x e] at h; cases h
  · rintro rfl
    rw [k.2 c z u e] at h; cases h
theorem Kt.ins {C dx : Addr} {fs : List (Str × V)} (k : Kt S H H') (h : H' p = some (.ins C dx fs)) (m : p ∈ S) : Kt S H (upd H' p o) := ⟨k.1.mut m, k.2.ins h⟩
theorem Kt.sub (k : Kt S H H') (h : ∀ x ∈ S, x ∈ S') : Kt S' H H' := ⟨k.1.sub h, k.2⟩
theorem Kp.kt (k : Kp [] H H') : Kt S H H' := ⟨k.sub (by simp), k.tk⟩
theorem Kt.of_st {st nu : Addr} {n : Nat} (s : StB H st nu n) (k : Kp [st] H H') : Kt [st] H H' := ⟨k, s.tk k⟩
end
end Sf
namespace K92
open PySem PySem.Spec PyProof.Rows L2 Sf
def topS (i : Nat) : Stmt := PySem.Challenge.pw_scarpface_k92_windows_by_two_stacks.main.body.getD i (.Pass ⟨0, 0, 0, 0⟩)
structure Tx (w : World) (K : PySem.W.Frag) (mg : Str → Option Value) (ad : Nat → Addr) (fu : Nat → FuncData) (ca : Nat → Addr) : Prop where
  d_times : Df K mg "times" (topS 7) ["table", "first", "second"] (ad 7) (fu 7)
  d_Window_init : Fun K "__init__" "Window.__init__" (inClass (topS 10) 0) (ad 2000) (fu 2000)
  bi_Window_init : Binds K (fu 2000) ["self", "table"] []
  mk_Window : Mk K (ca 20) (ad 2000)
  d_Window_product : Fun K "product" "Window.product" (inClass (topS 10) 1) (ad 2001) (fu 2001)
  bi_Window_product : Binds K (fu 2001) ["self", "first", "second"] []
  m_Window_product : Meth K (ca 20) "product" (ad 2001)
  d_Window_push : Fun K "push" "Window.push" (inClass (topS 10) 2) (ad 2002) (fu 2002)
  bi_Window_push : Binds K (fu 2002) ["self", "letter"] []
  m_Window_push : Meth K (ca 20) "push" (ad 2002)
  d_Window_pop : Fun K "pop" "Window.pop" (inClass (topS 10) 3) (ad 2003) (fu 2003)
  bi_Window_pop : Binds K (fu 2003) ["self"] []
  m_Window_pop : Meth K (ca 20) "pop" (ad 2003)
  d_Window_turn : Fun K "turn" "Window.turn" (inClass (topS 10) 4) (ad 2004) (fu 2004)
  bi_Window_turn : Binds K (fu 2004) ["self"] []
  m_Window_turn : Meth K (ca 20) "turn" (ad 2004)
  d_Window_value : Fun K "value" "Window.value" (inClass (topS 10) 5) (ad 2005) (fu 2005)
  bi_Window_value : Binds K (fu 2005) ["self"] []
  m_Window_value : Meth K (ca 20) "value" (ad 2005)
  d_Window_letters : Fun K "letters" "Window.letters" (inClass (topS 10) 6) (ad 2006) (fu 2006)
  bi_Window_letters : Binds K (fu 2006) ["self"] []
  m_Window_letters : Meth K (ca 20) "letters" (ad 2006)
  d_Window_stored : Fun K "stored" "Window.stored" (inClass (topS 10) 7) (ad 2007) (fu 2007)
  bi_Window_stored : Binds K (fu 2007) ["self"] []
  m_Window_stored : Meth K (ca 20) "stored" (ad 2007)
  d_Window_made : Fun K "made" "Window.made" (inClass (topS 10) 8) (ad 2008) (fu 2008)
  bi_Window_made : Binds K (fu 2008) ["self"] []
  m_Window_made : Meth K (ca 20) "made" (ad 2008)
  d_cost_of : Df K mg "cost_of" (topS 11) ["moves"] (ad 11) (fu 11)
  d_law_stream : Df K mg "_law_stream" (topS 13) ["script"] (ad 13) (fu 13)
  d_law_next : Df K mg "_law_next" (topS 14) ["state", "many"] (ad 14) (fu 14)
  d_law_same : Df K mg "_law_same" (topS 15) ["told", "due"] (ad 15) (fu 15)
  d_law_word : Df K mg "_law_word" (topS 16) ["state", "taken"] (ad 16) (fu 16)
  d_law_letters : Df K mg "_law_letters" (topS 17) ["state", "many"] (ad 17) (fu 17)
  d_law_map : Df K mg "_law_map" (topS 18) ["state", "rooms", "kind"] (ad 18) (fu 18)
  d_law_built : Df K mg "_law_built" (topS 19) ["letters", "maps"] (ad 19) (fu 19)
  d_law_table : Df K mg "_law_table" (topS 20) ["state"] (ad 20) (fu 20)
  d_law_times : Df K mg "_law_times" (topS 21) ["table", "first", "second"] (ad 21) (fu 21)
  d_law_value : Df K mg "_law_value" (topS 22) ["table", "log"] (ad 22) (fu 22)
  d_law_class : Df K mg "_law_class" (topS 24) ["way", "window", "thing"] (ad 24) (fu 24)
  d_law_stored : Df K mg "_law_stored" (topS 25) ["table", "play"] (ad 25) (fu 25)
  d_law_stands : Df K mg "_law_stands" (topS 26) ["table", "play"] (ad 26) (fu 26)
  d_law_turn : Df K mg "_law_turn" (topS 27) ["state", "table", "play"] (ad 27) (fu 27)
  d_law_costs : Df K mg "_law_costs" (topS 28) ["moves"] (ad 28) (fu 28)
  d_law_counted : Df K mg "_law_counted" (topS 29) ["state"] (ad 29) (fu 29)
  d_law : Df K mg "law" (topS 30) ["script"] (ad 30) (fu 30)
  b_abs : mg "abs" = none
  b_all : mg "all" = none
  b_int : mg "int" = none
  b_isinstance : mg "isinstance" = none
  b_len : mg "len" = none
  b_min : mg "min" = none
  b_range : mg "range" = none
  b_repr : mg "repr" = none
  b_reversed : mg "reversed" = none
  b_sorted : mg "sorted" = none
  b_str : mg "str" = none
  b_sum : mg "sum" = none
  b_tuple : mg "tuple" = none
  g_MOVES : Gc mg "MOVES" (.ref (ca 0))
  s_MOVES : ∀ H, SqT K H (ca 0) [.str "in", .str "out", .str "ask"]
  g_Window : Gc mg "Window" (.ref (ca 20))
  gc_Window : mg "Window" = some (.ref (ca 20))
  c_Window : Cls K (ca 20)
  n_Window_table : NoAttr K (ca 20) "table"
  n_Window_front : NoAttr K (ca 20) "front"
  n_Window_back : NoAttr K (ca 20) "back"
  n_Window_behind : NoAttr K (ca 20) "behind"
  n_Window_many : NoAttr K (ca 20) "many"
  g_ScarpError : Gc mg "ScarpError" (.ref (ca 21))
  gc_ScarpError : mg "ScarpError" = some (.ref (ca 21))
  g_NotAllowed : Gc mg "NotAllowed" (.ref (ca 22))
  gc_NotAllowed : mg "NotAllowed" = some (.ref (ca 22))
  g_TooLarge : Gc mg "TooLarge" (.ref (ca 23))
  gc_TooLarge : mg "TooLarge" = some (.ref (ca 23))
  g_Missing : Gc mg "Missing" (.ref (ca 24))
  gc_Missing : mg "Missing" = some (.ref (ca 24))
  g_BadPaper : Gc mg "BadPaper" (.ref (ca 25))
  gc_BadPaper : mg "BadPaper" = some (.ref (ca 25))
  x_NotAllowed : PySem.W.excIn K (ca 22) [.type "ValueError", .type "Exception", .type "BaseException", .type "object"] "ValueError.__new__" = true
  k_NotAllowed : PySem.W.keepIn K (.ref (ca 22)) = true
  bb_NotAllowed : PySem.W.subIn K (.ref (ca 22)) (.type "BaseException") = some true
  ty_NotAllowed : PySem.W.typeIn K (.ref (ca 22)) = some (.type "type")
  e_NotAllowed : ExcC K (ca 22)
  x_Missing : PySem.W.excIn K (ca 24) [.type "ValueError", .type "Exception", .type "BaseException", .type "object"] "ValueError.__new__" = true
  k_Missing : PySem.W.keepIn K (.ref (ca 24)) = true
  bb_Missing : PySem.W.subIn K (.ref (ca 24)) (.type "BaseException") = some true
  ty_Missing : PySem.W.typeIn K (.ref (ca 24)) = some (.type "type")
  e_Missing : ExcC K (ca 24)
  em_Missing_Missing : PySem.W.exmOne K (.ref (ca 24)) (.ref (ca 24)) = some true
  em_NotAllowed_Missing : PySem.W.exmOne K (.ref (ca 22)) (.ref (ca 24)) = some false
  em_NotAllowed_NotAllowed : PySem.W.exmOne K (.ref (ca 22)) (.ref (ca 22)) = some true
  ki_Missing_ScarpError : PySem.W.kitOne K (.ref (ca 24)) (.ref (ca 21)) = some true
  ki_Missing_NotAllowed : PySem.W.kitOne K (.ref (ca 24)) (.ref (ca 22)) = some false
  ki_Missing_BadPaper : PySem.W.kitOne K (.ref (ca 24)) (.ref (ca 25)) = some false
  ki_Missing_TooLarge : PySem.W.kitOne K (.ref (ca 24)) (.ref (ca 23)) = some false
  ki_NotAllowed_ScarpError : PySem.W.kitOne K (.ref (ca 22)) (.ref (ca 21)) = some true
  ki_NotAllowed_Missing : PySem.W.kitOne K (.ref (ca 22)) (.ref (ca 24)) = some false
  ki_NotAllowed_BadPaper : PySem.W.kitOne K (.ref (ca 22)) (.ref (ca 25)) = some false
  ki_NotAllowed_TooLarge : PySem.W.kitOne K (.ref (ca 22)) (.ref (ca 23)) = some false
/-! ### tables -/
structure Tb where
  L : List Str
  Vs : List Int
  Ps : List (List Int)
def Tb.d (t : Tb) : PyData := .tuple [.tuple (t.L.map .str), .tuple (t.Vs.map .int), .tuple (t.Ps.map fun r => .tuple (r.map .int))]
def Tb.n (t : Tb) : Nat := t.Ps.length
def inR (n : Nat) (a : Int) : Prop := -1 ≤ a ∧ a < n
def Tb.mul (t : Tb) (a b : Int) : Int := if a < 0 then b else if b < 0 then a else (t.Ps.getD a.toNat []).getD b.toNat 0
def Tb.val (t : Tb) (x : Str) : Int := t.Vs.getD (t.L.idxOf x) 0
def Tb.fold (t : Tb) (l : List Str) : Int := l.foldl (fun a x => t.mul a (t.val x)) (-1)
/-- the values of what is left of l, from each place -/
def Tb.sfx (t : Tb) : List Str → List Int
  | [] => []
  | x :: r => t.fold (x :: r) :: t.sfx r
def LetOk (x : Str) : Prop := 1 ≤ x.length ∧ x.length ≤ 10 ∧ Sm x ∧ 113 ∉ x.cps.toList
structure Tb.Good (t : Tb) : Prop where
  l0 : t.L ≠ []
  lv : t.Vs.length = t.L.length
  l4 : t.L.length ≤ 4
  vr : ∀ v ∈ t.Vs, 0 ≤ v ∧ v < t.n
  n256 : t.n ≤ 256
  row : ∀ r ∈ t.Ps, r.length = t.n ∧ ∀ x ∈ r, 0 ≤ x ∧ x < t.n
  as : ∀ a b c : Int, 0 ≤ a → a < t.n → 0 ≤ b → b < t.n → 0 ≤ c → c < t.n → t.mul (t.mul a b) c = t.mul a (t.mul b c)
  wd : ∀ x ∈ t.L, LetOk x
/-- tuples of ints lie there -/
def TupsAt (K : PySem.W.Frag) (H : Hp) : List V → List (List Int) → Prop
  | [], [] => True
  | v :: vs, f :: fs => (∃ a, v = .ref a ∧ SqT K H a (f.map V.int)) ∧ TupsAt K H vs fs
  | _, _ => False
/-- the table t lies at tp; the object of its letters is known -/
def TabAt (K : PySem.W.Frag) (H : Hp) (tp : Addr) (t : Tb) : Prop := ∃ a0 a1 a2 o rows, SqT K H tp [.ref a0, .ref a1, .ref a2] ∧ H a0 = some (.frz o (.tup (t.L.map V.str))) ∧ o.dict = none ∧ SqT K H a1 (t.Vs.map V.int) ∧ SqT K H a2 rows ∧ TupsAt K H rows t.Ps
/-! ### windows -/
def wf (tp fl bl : Addr) (be m : Int) : List (Str × V) := [("table", .ref tp), ("front", .ref fl), ("back", .ref bl), ("behind", .int be), ("many", .int m)]
/-- the front's pairs, the first letter first -/
def FrA (H : Hp) (t : Tb) : List V → List Str → Prop
  | [], [] => True
  | v :: vs, x :: xs => (∃ a, v = .ref a ∧ H a = some (.tup [.str x, .int (t.fold (x :: xs))])) ∧ FrA H t vs xs
  | _, _ => False
structure WinAt (K : PySem.W.Frag) (ca : Nat → Addr) (H : Hp) (t : Tb) (p fl bl : Addr) (front back : List Str) (m : Int) : Prop where
  ob : ∃ tp dx, H p = some (.ins (ca 20) dx (wf tp fl bl (t.fold back) m)) ∧ TabAt K H tp t
  fr : ∃ fvs, H fl = some (.lst fvs) ∧ FrA H t fvs.reverse front
  bk : H bl = some (.lst (back.map V.str))
  n1 : p ≠ fl
  n2 : p ≠ bl
  n3 : fl ≠ bl
  inF : ∀ x ∈ front, x ∈ t.L
  inB : ∀ x ∈ back, x ∈ t.L
  good : t.Good
  len : front.length + back.length ≤ 10000
/-- what pop gives: the letter, the two rows, the products made -/
def popR : List Str → List Str → Option (Str × List Str × List Str × Int)
  | x :: fr, bk => some (x, fr, bk, 0)
  | [], x :: fr => some (x, fr, [], (fr.length : Int))
  | [], [] => none
structure PlayAt (K : PySem.W.Frag) (ca : Nat → Addr) (H : Hp) (t : Tb) (q p fl bl : Addr) (front back : List Str) (m : Int) : Prop where
  pl : ∃ ft bt, H q = some (.lst [.ref p, .ref ft, .ref bt, .int m]) ∧ SqT K H ft (front.map V.str) ∧ SqT K H bt (back.map V.str)
  w : WinAt K ca H t p fl bl front back m
  q1 : q ≠ p
  q2 : q ≠ fl
  q3 : q ≠ bl
/-! ### numbers of products, move by move -/
def pre (c : Int) : Sum Bool (List Int) → Sum Bool (List Int)
  | .inl e => .inl e
  | .inr l => .inr (c :: l)
/-- inl false: no such move; inl true: nothing there -/
def costs : Int → Int → List Str → Sum Bool (List Int)
  | _, _, [] => .inr []
  | f, b, m :: r =>
    if m = "in" then pre (if 0 < b then 1 else 0) (costs f (b + 1) r)
    else if m = "ask" then pre (if 0 < f ∧ 0 < b then 1 else 0) (costs f b r)
    else if m = "out" then
      if f + b = 0 then .inl true
      else if f = 0 then pre (b - 1) (costs (b - 1) 0 r)
      else pre 0 (costs (f - 1) b r)
    else .inl false
def costD : Sum Bool (List Int) → PyData
  | .inl true => .str "missing"
  | .inl false => .str "refused"
  | .inr l => .tuple [.str "told", .tuple (l.map .int)]
/-! ### promises -/
def sp_times (K : PySem.W.Frag) (ca : Nat → Addr) : Sp := fun vs H Q _ => ∃ (tp : Addr) (a b : Int) (t : Tb), vs = [.ref tp, .int a, .int b] ∧ TabAt K H tp t ∧ t.Good ∧ inR t.n a ∧ inR t.n b ∧ Q (.int (t.mul a b)) H
def sp_law_times := sp_times
def sp_Window_init (K : PySem.W.Frag) (ca : Nat → Addr) : Sp := fun vs H Q _ => ∃ (p tp dx : Addr), vs = [.ref p, .ref tp] ∧ H p = some (.ins (ca 20) dx []) ∧
  ∀ fl bl H', H fl = none → H bl = none → fl ≠ bl → H' p = some (.ins (ca 20) dx (wf tp fl bl (-1) 0)) → H' fl = some (.lst []) → H' bl = some (.lst []) → Kt [p] H H' → Q .non H'
def sp_Window_product (K : PySem.W.Frag) (ca : Nat → Addr) : Sp := fun vs H Q _ => ∃ (p tp fl bl dx : Addr) (a b be m : Int) (t : Tb), vs = [.ref p, .int a, .int b] ∧ H p = some (.ins (ca 20) dx (wf tp fl bl be m)) ∧ TabAt K H tp t ∧ t.Good ∧ inR t.n a ∧ inR t.n b ∧
  ∀ H', H' p = some (.ins (ca 20) dx (wf tp fl bl be (m + if 0 ≤ a ∧ 0 ≤ b then 1 else 0))) → (∀ c, c ≠ p → H' c = H c) → Q (.int (t.mul a b)) H'
def sp_Window_push (K : PySem.W.Frag) (ca : Nat → Addr) : Sp := fun vs H Q E => ∃ (p fl bl : Addr) (x : Str) (t : Tb) (front back : List Str) (m : Int), vs = [.ref p, .str x] ∧ WinAt K ca H t p fl bl front back m ∧ front.length + back.length < 10000 ∧ (x ∉ t.L → E (.ref (ca 22)) none H) ∧
  (x ∈ t.L → ∀ H', Kt [p, bl] H H' → WinAt K ca H' t p fl bl front (back ++ [x]) (m + if back = [] then 0 else 1) → Q .non H')
def sp_Window_turn (K : PySem.W.Frag) (ca : Nat → Addr) : Sp := fun vs H Q _ => ∃ (p fl bl : Addr) (t : Tb) (back : List Str) (m : Int), vs = [.ref p] ∧ WinAt K ca H t p fl bl [] back m ∧ back ≠ [] ∧ ∀ H', Kt [p, fl, bl] H H' → WinAt K ca H' t p fl bl back [] (m + ((back.length : Int) - 1)) → Q .non H'
def sp_Window_pop (K : PySem.W.Frag) (ca : Nat → Addr) : Sp := fun vs H Q E => ∃ (p fl bl : Addr) (t : Tb) (front back : List Str) (m : Int), vs = [.ref p] ∧ WinAt K ca H t p fl bl front back m ∧ (popR front back = none → E (.ref (ca 24)) none H) ∧
  (∀ x fr bk c, popR front back = some (x, fr, bk, c) → ∀ H', Kt [p, fl, bl] H H' → WinAt K ca H' t p fl bl fr bk (m + c) → Q (.str x) H')
def sp_Window_value (K : PySem.W.Frag) (ca : Nat → Addr) : Sp := fun vs H Q _ => ∃ (p fl bl : Addr) (t : Tb) (front back : List Str) (m : Int), vs = [.ref p] ∧ WinAt K ca H t p fl bl front back m ∧
  ∀ H', Kt [p] H H' → WinAt K ca H' t p fl bl front back (m + if front ≠ [] ∧ back ≠ [] then 1 else 0) → Q (.int (t.fold (front ++ back))) H'
def sp_Window_letters (K : PySem.W.Frag) (ca : Nat → Addr) : Sp := fun vs H Q _ => ∃ (p fl bl : Addr) (t : Tb) (front back : List Str) (m : Int), vs = [.ref p] ∧ WinAt K ca H t p fl bl front back m ∧ ∀ v H', Kp [] H H' → Dp K H' v (.tuple ((front ++ back).map .str)) → Q v H'
def sp_Window_stored (K : PySem.W.Frag) (ca : Nat → Addr) : Sp := fun vs H Q _ => ∃ (p fl bl : Addr) (t : Tb) (front back : List Str) (m : Int), vs = [.ref p] ∧ WinAt K ca H t p fl bl front back m ∧ ∀ v H', Kp [] H H' → Dp K H' v (.tuple [.tuple ((t.sfx front).map .int), .int (t.fold back)]) → Q v H'
def sp_Window_made (K : PySem.W.Frag) (ca : Nat → Addr) : Sp := fun vs H Q _ => ∃ (p fl bl : Addr) (t : Tb) (front back : List Str) (m : Int), vs = [.ref p] ∧ WinAt K ca H t p fl bl front back m ∧ Q (.int m) H
def sp_cost_of (K : PySem.W.Frag) (ca : Nat → Addr) : Sp := fun vs H Q E => ∃ (a : Addr) (ms : List Str), vs = [.ref a] ∧ SqL K H a (ms.map V.str) ∧ ms.length ≤ 1000 ∧ (costs 0 0 ms = .inl false → ∀ H', Kp [] H H' → E (.ref (ca 22)) none H') ∧ (costs 0 0 ms = .inl true → ∀ H', Kp [] H H' → E (.ref (ca 24)) none H') ∧
  ∀ l, costs 0 0 ms = .inr l → ∀ v H', Kp [] H H' → Dp K H' v (.tuple (l.map .int)) → Q v H'
def sp_law_class (K : PySem.W.Frag) (ca : Nat → Addr) : Sp := fun vs H Q _ =>
  (∃ (p fl bl : Addr) (x : Str) (t : Tb) (front back : List Str) (m : Int), vs = [.int 0, .ref p, .str x] ∧ WinAt K ca H t p fl bl front back m ∧ front.length + back.length < 10000 ∧ (x ∉ t.L → ∀ H', Kp [] H H' → Q (.str "refused") H') ∧
    (x ∈ t.L → ∀ v H', Kt [p, bl] H H' → WinAt K ca H' t p fl bl front (back ++ [x]) (m + if back = [] then 0 else 1) → Dp K H' v (.tuple [.str "told", .none]) → Q v H')) ∨
  (∃ (p fl bl : Addr) (y : V) (t : Tb) (front back : List Str) (m : Int), vs = [.int 1, .ref p, y] ∧ WinAt K ca H t p fl bl front back m ∧ (popR front back = none → ∀ H', Kp [] H H' → Q (.str "missing") H') ∧
    (∀ x fr bk c, popR front back = some (x, fr, bk, c) → ∀ v H', Kt [p, fl, bl] H H' → WinAt K ca H' t p fl bl fr bk (m + c) → Dp K H' v (.tuple [.str "told", .str x]) → Q v H')) ∨
  (∃ (a : Addr) (y : V) (ms : List Str), vs = [.int 2, y, .ref a] ∧ SqL K H a (ms.map V.str) ∧ ms.length ≤ 1000 ∧ ∀ v H', Kp [] H H' → Dp K H' v (costD (costs 0 0 ms)) → Q v H')
def sp_law_same (K : PySem.W.Frag) (ca : Nat → Addr) : Sp := fun vs H Q _ => ∃ (u v : V) (d : PyData), vs = [u, v] ∧ Dp K H u d ∧ Dp K H v d ∧ d.showable = true ∧ d.hasDict = false ∧ d.depth ≤ 50 ∧ (PyData.list [d]).shown.length ≤ sizeLine ∧ ∀ H', Kp [] H H' → Q (.bl true) H'
def sp_law_stream (K : PySem.W.Frag) (ca : Nat → Addr) : Sp := fun vs H Q _ => ∃ (a : Addr) (ns : List Int), vs = [.ref a] ∧ SqL K H a (ns.map V.int) ∧ ns.length ≤ 63 ∧
  ∀ p (xs : List Int) H', Kp [] H H' → H p = none → H' p = some (.lst (xs.map V.int)) → xs ≠ [] → xs.length ≤ 100000 → (∀ x ∈ xs, 0 ≤ x ∧ x < 1009) → Q (.ref p) H'
def sp_law_next (K : PySem.W.Frag) (ca : Nat → Addr) : Sp := fun vs H Q _ => ∃ (st nu : Addr) (m : Int) (n : Nat), vs = [.ref st, .int m] ∧ 0 < m ∧ StB H st nu n ∧ n < bigN ∧ ∀ r H', 0 ≤ r → r < m → Kp [st] H H' → StB H' st nu (n + 1) → Q (.int r) H'
def sp_law_word (K : PySem.W.Frag) (ca : Nat → Addr) : Sp := fun vs H Q _ => ∃ (st nu tk : Addr) (ts : List Str) (n : Nat), vs = [.ref st, .ref tk] ∧ SqL K H tk (ts.map V.str) ∧ ts.length ≤ 4 ∧ tk ≠ st ∧ StB H st nu n ∧ n + 10 < bigN ∧ ∀ x H', LetOk x → Kp [st] H H' → StB H' st nu (n + 10) → Q (.str x) H'
def sp_law_letters (K : PySem.W.Frag) (ca : Nat → Addr) : Sp := fun vs H Q _ => ∃ (st nu : Addr) (k n : Nat), vs = [.ref st, .int (k : Int)] ∧ k ≤ 4 ∧ StB H st nu n ∧ n + 50 < bigN ∧ ∀ a (ws : List Str) H', ws.length = k → (∀ x ∈ ws, LetOk x) → (∃ o, H' a = some (.frz o (.tup (ws.map V.str))) ∧ o.dict = none) → Kp [st] H H' → StB H' st nu (n + 50) → Q (.ref a) H'
/-- a map of rooms -/
def MapOk (r : Nat) (f : List Int) : Prop := f.length = r ∧ ∀ x ∈ f, 0 ≤ x ∧ x < r
def sp_law_map (K : PySem.W.Frag) (ca : Nat → Addr) : Sp := fun vs H Q _ => ∃ (st nu : Addr) (r n : Nat) (kind : Int), vs = [.ref st, .int (r : Int), .int kind] ∧ 2 ≤ r ∧ r ≤ 4 ∧ StB H st nu n ∧ n + 10 < bigN ∧ ∀ a f H', MapOk r f → SqT K H' a (f.map V.int) → Kp [st] H H' → StB H' st nu (n + 10) → Q (.ref a) H'
def sp_law_built (K : PySem.W.Frag) (ca : Nat → Addr) : Sp := fun vs H Q _ => ∃ (la ma : Addr) (ws : List Str) (mv : List V) (ms : List (List Int)) (r : Nat), vs = [.ref la, .ref ma] ∧ (∃ o, H la = some (.frz o (.tup (ws.map V.str))) ∧ o.dict = none) ∧ H ma = some (.lst mv) ∧ TupsAt K H mv ms ∧ ws.length = ms.length ∧ ms ≠ [] ∧ ms.length ≤ 4 ∧ 1 ≤ r ∧ r ≤ 4 ∧ (∀ f ∈ ms, MapOk r f) ∧ (∀ x ∈ ws, LetOk x) ∧
  ∀ a (t : Tb) H', t.Good → TabAt K H' a t → Kp [] H H' → Q (.ref a) H'
def sp_law_table (K : PySem.W.Frag) (ca : Nat → Addr) : Sp := fun vs H Q _ => ∃ (st nu : Addr) (n : Nat), vs = [.ref st] ∧ StB H st nu n ∧ n + 200 < bigN ∧ ∀ a (t : Tb) H', t.Good → TabAt K H' a t → Kp [st] H H' → StB H' st nu (n + 200) → Q (.ref a) H'
def sp_law_value (K : PySem.W.Frag) (ca : Nat → Addr) : Sp := fun vs H Q _ => ∃ (tp lp : Addr) (t : Tb) (l : List Str), vs = [.ref tp, .ref lp] ∧ TabAt K H tp t ∧ t.Good ∧ SqT K H lp (l.map V.str) ∧ l.length ≤ 20000 ∧ (∀ x ∈ l, x ∈ t.L) ∧ ∀ H', Kp [] H H' → Q (.int (t.fold l)) H'
def sp_law_stored (K : PySem.W.Frag) (ca : Nat → Addr) : Sp := fun vs H Q _ => ∃ (tp q p fl bl : Addr) (t : Tb) (front back : List Str) (m : Int), vs = [.ref tp, .ref q] ∧ TabAt K H tp t ∧ PlayAt K ca H t q p fl bl front back m ∧
  ∀ v H', Kp [] H H' → Dp K H' v (.tuple [.tuple ((t.sfx front).map .int), .int (t.fold back)]) → Q v H'
def sp_law_stands (K : PySem.W.Frag) (ca : Nat → Addr) : Sp := fun vs H Q _ => ∃ (tp q p fl bl : Addr) (t : Tb) (front back : List Str) (m : Int), vs = [.ref tp, .ref q] ∧ TabAt K H tp t ∧ PlayAt K ca H t q p fl bl front back m ∧ -100000 ≤ m ∧ m ≤ 100000000 ∧ ∀ H', Kp [] H H' → Q (.bl true) H'
def sp_law_turn (K : PySem.W.Frag) (ca : Nat → Addr) : Sp := fun vs H Q _ => ∃ (st nu tp q p fl bl : Addr) (t : Tb) (front back : List Str) (m : Int) (n : Nat), vs = [.ref st, .ref tp, .ref q] ∧ TabAt K H tp t ∧ PlayAt K ca H t q p fl bl front back m ∧ front.length + back.length < 9000 ∧
  StB H st nu n ∧ n + 10 < bigN ∧ st ∉ [q, p, fl, bl] ∧ nu ∉ [q, p, fl, bl] ∧
  ∀ fr bk m2 H', Kt [st, q, p, fl, bl] H H' → PlayAt K ca H' t q p fl bl fr bk m2 → fr.length + bk.length ≤ front.length + back.length + 1 → m ≤ m2 → m2 ≤ m + 10000 → StB H' st nu (n + 10) → Q (.bl true) H'
def sp_law_costs (K : PySem.W.Frag) (ca : Nat → Addr) : Sp := fun vs H Q _ => ∃ (a : Addr) (ms : List Str), vs = [.ref a] ∧ SqL K H a (ms.map V.str) ∧ ms.length ≤ 1000 ∧ ∀ v H', Kp [] H H' → Dp K H' v (costD (costs 0 0 ms)) → Q v H'
def sp_law_counted (K : PySem.W.Frag) (ca : Nat → Addr) : Sp := fun vs H Q _ => ∃ (st nu : Addr) (n : Nat), vs = [.ref st] ∧ StB H st nu n ∧ n + 100 < bigN ∧ ∀ H', Kp [st] H H' → StB H' st nu (n + 100) → Q (.bl true) H'
def sp_law (K : PySem.W.Frag) (ca : Nat → Addr) : Sp := fun vs H Q _ => ∃ (a : Addr) (ns : List Int), vs = [.ref a] ∧ SqL K H a (ns.map V.int) ∧ ns.length ≤ 63 ∧ ∀ H', Q (.bl true) H'
end K92
set_option maxHeartbeats 4000000
namespace K92
open PySem PySem.Spec PyProof.Rows L2 Sf
section
variable {P : Program} {w : World} {K : PySem.W.Frag} {mg : Str → Option Value} {base : Heap} {ad : Nat → Addr} {fu : Nat → FuncData} {ca : Nat → Addr}
/-! times : slots 0=table 1=first 2=second -/
def t_times (K : PySem.W.Frag) (ca : Nat → Addr) : TS := 
  (tSeq (tIfS (tTest (tOp rdLt (tVar 1) (tC (.int 0)))) (tRet (tVar 2)) tNext)
    (tSeq (tIfS (tTest (tOp rdLt (tVar 2) (tC (.int 0)))) (tRet (tVar 1)) tNext)
    (tRet (tOp (rIxT K) (tOp (rIxT K) (tOp (rIxT K) (tVar 0) (tC (.int 2))) (tVar 1)) (tVar 2)))))
theorem sc_times : FnScope ["table", "first", "second"] ["table", "first", "second"] (defScope (topS 7)) := ⟨rfl, rfl, rfl, by decide +kernel, rfl, by decide +kernel, by decide +kernel⟩
theorem body_times (T : Tx w K mg ad fu ca) : BodyP P w K mg base 0 "times" (topS 7) (ad 7) ["table", "first", "second"] (t_times K ca) := by
  intro cdv R out s Hh E ro
  have nd := sc_times.nd
  have hu := ro.units0
  have hu65 : R.units + 3 + 65 < cLine := by have := ro.un; show R.units + 3 + 65 < cLine; have e : (R.deeper (envOfC "times" (defScope (topS 7)) s.heap.objs.size (ad 7) cdv)).units = R.units + 3 := rfl; rw [e] at this; omega
  exact (pss_cons (ps_if (pt_cmpR op_lt (pv 1) pe_int (by rfl)) (pss_one (ps_ret (pv 2))) pss_nil)
    (pss_cons (ps_if (pt_cmpR op_lt (pv 2) pe_int (by rfl)) (pss_one (ps_ret (pv 1))) pss_nil)
    (pss_one (ps_ret (pe_ix ix_tup (pe_ix ix_tup (pe_ix ix_tup (pv 0) pe_int (fun _ _ => rfl)) (pv 1) (fun _ _ => rfl)) (pv 2) (fun _ _ => rfl))))))
/-! Window.__init__ : slots 0=self 1=table -/
def t_Window_init (K : PySem.W.Frag) (ca : Nat → Addr) : TS := 
  (tSeq (sFld K (tVar 0) (tVar 1) "table")
    (tSeq (sFld K (tVar 0) (tLst tNil) "front")
    (tSeq (sFld K (tVar 0) (tLst tNil) "back")
    (tSeq (sFld K (tVar 0) (tUn (rU fun i => .int (-i)) (tC (.int 1))) "behind")
    (sFld K (tVar 0) (tC (.int 0)) "many")))))
theorem sc_Window_init : FnScope ["self", "table"] ["self", "table"] (defScope (inClass (topS 10) 0)) := ⟨rfl, rfl, rfl, by decide +kernel, rfl, by decide +kernel, by decide +kernel⟩
theorem body_Window_init (T : Tx w K mg ad fu ca) : BodyP P w K mg base 0 "Window.__init__" (inClass (topS 10) 0) (ad 2000) ["self", "table"] (t_Window_init K ca) := by
  intro cdv R out s Hh E ro
  have nd := sc_Window_init.nd
  have hu := ro.units0
  have hu65 : R.units + 3 + 65 < cLine := by have := ro.un; show R.units + 3 + 65 < cLine; have e : (R.deeper (envOfC "Window.__init__" (defScope (inClass (topS 10) 0)) s.heap.objs.size (ad 2000) cdv)).units = R.units + 3 := rfl; rw [e] at this; omega
  exact (pss_cons (ps_fld (pv 0) (pv 1) rfl)
    (pss_cons (ps_fld (pv 0) (pe_lst pa_nil) rfl)
    (pss_cons (ps_fld (pv 0) (pe_lst pa_nil) rfl)
    (pss_cons (ps_fld (pv 0) (pe_un un_neg pe_int) rfl)
    (pss_one (ps_fld (pv 0) pe_int rfl))))))
/-! Window.product : slots 0=self 1=first 2=second -/
def t_Window_product (K : PySem.W.Frag) (ca : Nat → Addr) : TS := 
  (tSeq (tIfS (tAnd (tTest (tOp rdGe (tVar 1) (tC (.int 0)))) (tTest (tOp rdGe (tVar 2) (tC (.int 0))))) (sFldAug K (tVar 0) (tC (.int 1)) rAdd "many") tNext)
    (tRet (rCallG (sp_times K ca) E0 (tCons (tFld K (tVar 0) "table") (tCons (tVar 1) (tCons (tVar 2) tNil))))))
theorem sc_Window_product : FnScope ["self", "first", "second"] ["self", "first", "second"] (defScope (inClass (topS 10) 1)) := ⟨rfl, rfl, rfl, by decide +kernel, rfl, by decide +kernel, by decide +kernel⟩
theorem body_Window_product (T : Tx w K mg ad fu ca) (F_times : FnOk P w K mg base CX0 1 (ad 7) (fu 7) ["table", "first", "second"] (sp_times K ca)) : BodyP P w K mg base 1 "Window.product" (inClass (topS 10) 1) (ad 2001) ["self", "first", "second"] (t_Window_product K ca) := by
  intro cdv R out s Hh E ro
  have nd := sc_Window_product.nd
  have hu := ro.units0
  have hu65 : R.units + 3 + 65 < cLine := by have := ro.un; show R.units + 3 + 65 < cLine; have e : (R.deeper (envOfC "Window.product" (defScope (inClass (topS 10) 1)) s.heap.objs.size (ad 2001) cdv)).units = R.units + 3 := rfl; rw [e] at this; omega
  exact (pss_cons (ps_if (PW.pt (pw_and (pt_cmpR op_ge (pv 1) pe_int (by rfl)) (pw_and1 (pt_cmpR op_ge (pv 2) pe_int (by rfl))))) (pss_one (ps_fldaug (pv 0) pe_int in_add)) pss_nil)
    (pss_one (ps_ret (pe_callP T.d_times F_times (ro.mono (by decide)) pass0 (pa_cons (pe_fld (pv 0) rfl) (pa_cons (pv 1) (pa_cons (pv 2) pa_nil)))))))
/-! Window.push : slots 0=self 1=letter -/
def t_Window_push (K : PySem.W.Frag) (ca : Nat → Addr) : XK → TS := fun E =>
  (tSeq (tIfS (tTest (tOp (rIn K true) (tVar 1) (tOp (rIxT K) (tFld K (tVar 0) "table") (tC (.int 0))))) (tRaise E (ca 22)) tNext)
    (tSeq (sFld K (tVar 0) (tMeth (ca 20) "product" (sp_Window_product K ca) [] E0 (tVar 0) (tCons (tFld K (tVar 0) "behind") (tCons (tOp (rIxT K) (tOp (rIxT K) (tFld K (tVar 0) "table") (tC (.int 1))) (tBMT (rdTupIndex K) (tOp (rIxT K) (tFld K (tVar 0) "table") (tC (.int 0))) (tCons (tVar 1) tNil))) tNil))) "behind")
    (tDrop (tBM K "list" rAppend (tFld K (tVar 0) "back") (tCons (tVar 1) tNil)))))
theorem sc_Window_push : FnScope ["self", "letter"] ["self", "letter"] (defScope (inClass (topS 10) 2)) := ⟨rfl, rfl, rfl, by decide +kernel, rfl, by decide +kernel, by decide +kernel⟩
theorem body_Window_push (T : Tx w K mg ad fu ca) (F_Window_product : FnOk P w K mg base CX0 2 (ad 2001) (fu 2001) ["self", "first", "second"] (sp_Window_product K ca)) : BodyX P w K mg base 2 "Window.push" (inClass (topS 10) 2) (ad 2002) ["self", "letter"] (t_Window_push K ca) := by
  intro cdv R out s Hh E ro
  have nd := sc_Window_push.nd
  have hu := ro.units0
  have hu65 : R.units + 3 + 65 < cLine := by have := ro.un; show R.units + 3 + 65 < cLine; have e : (R.deeper (envOfC "Window.push" (defScope (inClass (topS 10) 2)) s.heap.objs.size (ad 2002) cdv)).units = R.units + 3 := rfl; rw [e] at this; omega
  exact (pss_cons (ps_if (pt_cmpR op_notIn_seq (pv 1) (pe_ix ix_tup (pe_fld (pv 0) rfl) pe_int (fun _ _ => rfl)) (by rfl)) (pss_one (ps_raise rfl (takes_of rfl rfl rfl rfl) (pmk_own PySem.F.excBase_ValueError T.x_NotAllowed T.gc_NotAllowed T.k_NotAllowed (raises_own T.bb_NotAllowed T.ty_NotAllowed) (by exact rfl)))) pss_nil)
    (pss_cons (ps_fld (pv 0) (pe_meth (pv 0) T.c_Window T.m_Window_product F_Window_product (ro.mono (by decide)) T.bi_Window_product .nil pass0 (pa_cons (pe_fld (pv 0) rfl) (pa_cons (pe_ix ix_tup (pe_ix ix_tup (pe_fld (pv 0) rfl) pe_int (fun _ _ => rfl)) (pe_bmT PySem.F.plainAttrs_tuple PySem.F.slot_tuple_index PySem.F.type_tuple_index mt_tup_index (pe_ix ix_tup (pe_fld (pv 0) rfl) pe_int (fun _ _ => rfl)) (pa_cons (pv 1) pa_nil)) (fun _ _ => rfl)) pa_nil))) rfl)
    (pss_one (ps_expr (pe_bm PySem.F.plainAttrs_list PySem.F.slot_list_append PySem.F.type_list_append mt_append (pe_fld (pv 0) rfl) (pa_cons (pv 1) pa_nil))))))
/-! Window.turn : slots 0=self 1=value 2=letter -/
def t_Window_turn (K : PySem.W.Frag) (ca : Nat → Addr) : TS := 
  (tSeq (tAsg (tUn (rU fun i => .int (-i)) (tC (.int 1))) (gName 1))
    (tSeq (tWhile (tTest (tOp rdGt (tCB (rdLen K) (tCons (tFld K (tVar 0) "back") tNil)) (tC (.int 0)))) (tSeq (tAsg (tBM0 K "list" rPop (tFld K (tVar 0) "back")) (gName 2))
    (tSeq (tAsg (tMeth (ca 20) "product" (sp_Window_product K ca) [] E0 (tVar 0) (tCons (tOp (rIxT K) (tOp (rIxT K) (tFld K (tVar 0) "table") (tC (.int 1))) (tBMT (rdTupIndex K) (tOp (rIxT K) (tFld K (tVar 0) "table") (tC (.int 0))) (tCons (tVar 2) tNil))) (tCons (tVar 1) tNil))) (gName 1))
    (tDrop (tBM K "list" rAppend (tFld K (tVar 0) "front") (tCons (tTup (tCons (tVar 2) (tCons (tVar 1) tNil))) tNil))))))
    (sFld K (tVar 0) (tUn (rU fun i => .int (-i)) (tC (.int 1))) "behind")))
theorem sc_Window_turn : FnScope ["self", "value", "letter"] ["self"] (defScope (inClass (topS 10) 4)) := ⟨rfl, rfl, rfl, by decide +kernel, rfl, by decide +kernel, by decide +kernel⟩
theorem body_Window_turn (T : Tx w K mg ad fu ca) (F_Window_product : FnOk P w K mg base CX0 2 (ad 2001) (fu 2001) ["self", "first", "second"] (sp_Window_product K ca)) : BodyP P w K mg base 2 "Window.turn" (inClass (topS 10) 4) (ad 2004) ["self", "value", "letter"] (t_Window_turn K ca) := by
  intro cdv R out s Hh E ro
  have nd := sc_Window_turn.nd
  have hu := ro.units0
  have hu65 : R.units + 3 + 65 < cLine := by have := ro.un; show R.units + 3 + 65 < cLine; have e : (R.deeper (envOfC "Window.turn" (defScope (inClass (topS 10) 4)) s.heap.objs.size (ad 2004) cdv)).units = R.units + 3 := rfl; rw [e] at this; omega
  exact (pss_cons (ps_set (i := 1) nd rfl (by first | exact Or.inl rfl | exact Or.inr rfl) (pe_un un_neg pe_int))
    (pss_cons (ps_while PassesOwn.never (pt_cmpR op_gt (pe_callB call_len_seq (by rfl) T.b_len (by decide +kernel) (pa_cons (pe_fld (pv 0) rfl) pa_nil)) pe_int (by rfl)) (pss_cons (ps_set (i := 2) nd rfl (by first | exact Or.inl rfl | exact Or.inr rfl) (pe_bm0 PySem.F.plainAttrs_list PySem.F.slot_list_pop PySem.F.type_list_pop mt_pop (pe_fld (pv 0) rfl)))
    (pss_cons (ps_set (i := 1) nd rfl (by first | exact Or.inl rfl | exact Or.inr rfl) (pe_meth (pv 0) T.c_Window T.m_Window_product F_Window_product (ro.mono (by decide)) T.bi_Window_product .nil pass0 (pa_cons (pe_ix ix_tup (pe_ix ix_tup (pe_fld (pv 0) rfl) pe_int (fun _ _ => rfl)) (pe_bmT PySem.F.plainAttrs_tuple PySem.F.slot_tuple_index PySem.F.type_tuple_index mt_tup_index (pe_ix ix_tup (pe_fld (pv 0) rfl) pe_int (fun _ _ => rfl)) (pa_cons (pv 2) pa_nil)) (fun _ _ => rfl)) (pa_cons (pv 1) pa_nil))))
    (pss_one (ps_expr (pe_bm PySem.F.plainAttrs_list PySem.F.slot_list_append PySem.F.type_list_append mt_append (pe_fld (pv 0) rfl) (pa_cons (pe_tup (pa_cons (pv 2) (pa_cons (pv 1) pa_nil))) pa_nil)))))))
    (pss_one (ps_fld (pv 0) (pe_un un_neg pe_int) rfl))))
/-! Window.pop : slots 0=self 1=letter 2=_ -/
def t_Window_pop (K : PySem.W.Frag) (ca : Nat → Addr) : XK → TS := fun E =>
  (tSeq (tIfS (tTest (tOp rEq (tOp rdAdd (tCB (rdLen K) (tCons (tFld K (tVar 0) "front") tNil)) (tCB (rdLen K) (tCons (tFld K (tVar 0) "back") tNil))) (tC (.int 0)))) (tRaise E (ca 24)) tNext)
    (tSeq (tIfS (tTest (tOp rEq (tCB (rdLen K) (tCons (tFld K (tVar 0) "front") tNil)) (tC (.int 0)))) (tDrop (tMeth (ca 20) "turn" (sp_Window_turn K ca) [] E0 (tVar 0) tNil)) tNext)
    (tSeq (tAsg (tBM0 K "list" rPop (tFld K (tVar 0) "front")) (gTup K 2 (gCons (gName 1) (gCons (gName 2) gNil))))
    (tRet (tVar 1)))))
theorem sc_Window_pop : FnScope ["self", "letter", "_"] ["self"] (defScope (inClass (topS 10) 3)) := ⟨rfl, rfl, rfl, by decide +kernel, rfl, by decide +kernel, by decide +kernel⟩
theorem body_Window_pop (T : Tx w K mg ad fu ca) (F_Window_turn : FnOk P w K mg base CX0 3 (ad 2004) (fu 2004) ["self"] (sp_Window_turn K ca)) : BodyX P w K mg base 3 "Window.pop" (inClass (topS 10) 3) (ad 2003) ["self", "letter", "_"] (t_Window_pop K ca) := by
  intro cdv R out s Hh E ro
  have nd := sc_Window_pop.nd
  have hu := ro.units0
  have hu65 : R.units + 3 + 65 < cLine := by have := ro.un; show R.units + 3 + 65 < cLine; have e : (R.deeper (envOfC "Window.pop" (defScope (inClass (topS 10) 3)) s.heap.objs.size (ad 2003) cdv)).units = R.units + 3 := rfl; rw [e] at this; omega
  exact (pss_cons (ps_if (pt_cmpR op_eq (pe_op op_add (pe_callB call_len_seq (by rfl) T.b_len (by decide +kernel) (pa_cons (pe_fld (pv 0) rfl) pa_nil)) (pe_callB call_len_seq (by rfl) T.b_len (by decide +kernel) (pa_cons (pe_fld (pv 0) rfl) pa_nil))) pe_int (by rfl)) (pss_one (ps_raise rfl (takes_of rfl rfl rfl rfl) (pmk_own PySem.F.excBase_ValueError T.x_Missing T.gc_Missing T.k_Missing (raises_own T.bb_Missing T.ty_Missing) (by exact rfl)))) pss_nil)
    (pss_cons (ps_if (pt_cmpR op_eq (pe_callB call_len_seq (by rfl) T.b_len (by decide +kernel) (pa_cons (pe_fld (pv 0) rfl) pa_nil)) pe_int (by rfl)) (pss_one (ps_expr (pe_meth0 (pv 0) T.c_Window T.m_Window_turn F_Window_turn (ro.mono (by decide)) T.bi_Window_turn .nil pass0))) pss_nil)
    (pss_cons (ps_asg (pe_bm0 PySem.F.plainAttrs_list PySem.F.slot_list_pop PySem.F.type_list_pop mt_pop (pe_fld (pv 0) rfl)) (pg_tup rfl (pgs_cons (pg_name (i := 1) nd rfl (by first | exact Or.inl rfl | exact Or.inr rfl)) (pgs_cons (pg_name (i := 2) nd rfl (by first | exact Or.inl rfl | exact Or.inr rfl)) pgs_nil))))
    (pss_one (ps_ret (pv 1))))))
/-! Window.value : slots 0=self -/
def t_Window_value (K : PySem.W.Frag) (ca : Nat → Addr) : TS := 
  (tRet (tMeth (ca 20) "product" (sp_Window_product K ca) [] E0 (tVar 0) (tCons (tIf (tTest (tOp rdGt (tCB (rdLen K) (tCons (tFld K (tVar 0) "front") tNil)) (tC (.int 0)))) (tOp (rIxT K) (tOp (rIxL K) (tFld K (tVar 0) "front") (tUn (rU fun i => .int (-i)) (tC (.int 1)))) (tC (.int 1))) (tUn (rU fun i => .int (-i)) (tC (.int 1)))) (tCons (tFld K (tVar 0) "behind") tNil))))
theorem sc_Window_value : FnScope ["self"] ["self"] (defScope (inClass (topS 10) 5)) := ⟨rfl, rfl, rfl, by decide +kernel, rfl, by decide +kernel, by decide +kernel⟩
theorem body_Window_value (T : Tx w K mg ad fu ca) (F_Window_product : FnOk P w K mg base CX0 2 (ad 2001) (fu 2001) ["self", "first", "second"] (sp_Window_product K ca)) : BodyP P w K mg base 2 "Window.value" (inClass (topS 10) 5) (ad 2005) ["self"] (t_Window_value K ca) := by
  intro cdv R out s Hh E ro
  have nd := sc_Window_value.nd
  have hu := ro.units0
  have hu65 : R.units + 3 + 65 < cLine := by have := ro.un; show R.units + 3 + 65 < cLine; have e : (R.deeper (envOfC "Window.value" (defScope (inClass (topS 10) 5)) s.heap.objs.size (ad 2005) cdv)).units = R.units + 3 := rfl; rw [e] at this; omega
  exact (pss_one (ps_ret (pe_meth (pv 0) T.c_Window T.m_Window_product F_Window_product (ro.mono (by decide)) T.bi_Window_product .nil pass0 (pa_cons (pe_ifExp (pt_cmpR op_gt (pe_callB call_len_seq (by rfl) T.b_len (by decide +kernel) (pa_cons (pe_fld (pv 0) rfl) pa_nil)) pe_int (by rfl)) (pe_ix ix_tup (pe_ix ix_list (pe_fld (pv 0) rfl) (pe_un un_neg pe_int) (fun _ _ => rfl)) pe_int (fun _ _ => rfl)) (pe_un un_neg pe_int)) (pa_cons (pe_fld (pv 0) rfl) pa_nil)))))
/-! Window.letters : slots 0=self 1=letter 2=_ -/
def t_Window_letters (K : PySem.W.Frag) (ca : Nat → Addr) : TS := 
  (tRet (tCB (rdTuple K) (tCons (tOp rCat (tLc (iRev K (tCons (tFld K (tVar 0) "front") tNil)) (gTup K 2 (gCons (gName 1) (gCons (gName 2) gNil))) tYes (tVar 1) [1, 2]) (tFld K (tVar 0) "back")) tNil)))
theorem sc_Window_letters : FnScope ["self", "letter", "_"] ["self"] (defScope (inClass (topS 10) 6)) := ⟨rfl, rfl, rfl, by decide +kernel, rfl, by decide +kernel, by decide +kernel⟩
theorem body_Window_letters (T : Tx w K mg ad fu ca) : BodyP P w K mg base 0 "Window.letters" (inClass (topS 10) 6) (ad 2006) ["self", "letter", "_"] (t_Window_letters K ca) := by
  intro cdv R out s Hh E ro
  have nd := sc_Window_letters.nd
  have hu := ro.units0
  have hu65 : R.units + 3 + 65 < cLine := by have := ro.un; show R.units + 3 + 65 < cLine; have e : (R.deeper (envOfC "Window.letters" (defScope (inClass (topS 10) 6)) s.heap.objs.size (ad 2006) cdv)).units = R.units + 3 := rfl; rw [e] at this; omega
  exact (pss_one (ps_ret (pe_callTy call_tuple_of (by rfl) T.b_tuple (by decide +kernel) (pa_cons (pe_op op_cat (pe_lc (own := [("letter", 1), ("_", 2)]) rfl nd (pi_reversed (by rfl) T.b_reversed (pa_cons (pe_fld (pv 0) rfl) pa_nil)) (blkOk_by (own := [("letter", 1), ("_", 2)]) (N := ["self", "letter", "_"]) (sc := defScope (inClass (topS 10) 6)) (by decide +kernel)) (fun _ _ _ _ _ => (pg_tup rfl (pgs_cons (pg_name (i := 1) nd rfl (by first | exact Or.inl rfl | exact Or.inr rfl)) (pgs_cons (pg_name (i := 2) nd rfl (by first | exact Or.inl rfl | exact Or.inr rfl)) pgs_nil)))) (fun _ _ _ _ _ => pts_nil) (fun _ _ _ _ _ => (pv 1))) (pe_fld (pv 0) rfl)) pa_nil))))
/-! Window.stored : slots 0=self 1=_ 2=value -/
def t_Window_stored (K : PySem.W.Frag) (ca : Nat → Addr) : TS := 
  (tRet (tTup (tCons (tCB (rdTuple K) (tCons (tLc (iRev K (tCons (tFld K (tVar 0) "front") tNil)) (gTup K 2 (gCons (gName 1) (gCons (gName 2) gNil))) tYes (tVar 2) [1, 2]) tNil)) (tCons (tFld K (tVar 0) "behind") tNil))))
theorem sc_Window_stored : FnScope ["self", "_", "value"] ["self"] (defScope (inClass (topS 10) 7)) := ⟨rfl, rfl, rfl, by decide +kernel, rfl, by decide +kernel, by decide +kernel⟩
theorem body_Window_stored (T : Tx w K mg ad fu ca) : BodyP P w K mg base 0 "Window.stored" (inClass (topS 10) 7) (ad 2007) ["self", "_", "value"] (t_Window_stored K ca) := by
  intro cdv R out s Hh E ro
  have nd := sc_Window_stored.nd
  have hu := ro.units0
  have hu65 : R.units + 3 + 65 < cLine := by have := ro.un; show R.units + 3 + 65 < cLine; have e : (R.deeper (envOfC "Window.stored" (defScope (inClass (topS 10) 7)) s.heap.objs.size (ad 2007) cdv)).units = R.units + 3 := rfl; rw [e] at this; omega
  exact (pss_one (ps_ret (pe_tup (pa_cons (pe_callTy call_tuple_of (by rfl) T.b_tuple (by decide +kernel) (pa_cons (pe_lc (own := [("_", 1), ("value", 2)]) rfl nd (pi_reversed (by rfl) T.b_reversed (pa_cons (pe_fld (pv 0) rfl) pa_nil)) (blkOk_by (own := [("_", 1), ("value", 2)]) (N := ["self", "_", "value"]) (sc := defScope (inClass (topS 10) 7)) (by decide +kernel)) (fun _ _ _ _ _ => (pg_tup rfl (pgs_cons (pg_name (i := 1) nd rfl (by first | exact Or.inl rfl | exact Or.inr rfl)) (pgs_cons (pg_name (i := 2) nd rfl (by first | exact Or.inl rfl | exact Or.inr rfl)) pgs_nil)))) (fun _ _ _ _ _ => pts_nil) (fun _ _ _ _ _ => (pv 2))) pa_nil)) (pa_cons (pe_fld (pv 0) rfl) pa_nil)))))
/-! Window.made : slots 0=self -/
def t_Window_made (K : PySem.W.Frag) (ca : Nat → Addr) : TS := 
  (tRet (tFld K (tVar 0) "many"))
theorem sc_Window_made : FnScope ["self"] ["self"] (defScope (inClass (topS 10) 8)) := ⟨rfl, rfl, rfl, by decide +kernel, rfl, by decide +kernel, by decide +kernel⟩
theorem body_Window_made (T : Tx w K mg ad fu ca) : BodyP P w K mg base 0 "Window.made" (inClass (topS 10) 8) (ad 2008) ["self"] (t_Window_made K ca) := by
  intro cdv R out s Hh E ro
  have nd := sc_Window_made.nd
  have hu := ro.units0
  have hu65 : R.units + 3 + 65 < cLine := by have := ro.un; show R.units + 3 + 65 < cLine; have e : (R.deeper (envOfC "Window.made" (defScope (inClass (topS 10) 8)) s.heap.objs.size (ad 2008) cdv)).units = R.units + 3 := rfl; rw [e] at this; omega
  exact (pss_one (ps_ret (pe_fld (pv 0) rfl)))
/-! cost_of : slots 0=moves 1=found 2=move 3=front 4=back 5=cost -/
def t_cost_of (K : PySem.W.Frag) (ca : Nat → Addr) : XK → TS := fun E =>
  (tSeq (tAsg (tTup (tCons (tC (.int 0)) (tCons (tC (.int 0)) tNil))) (gTup K 2 (gCons (gName 3) (gCons (gName 4) gNil))))
    (tSeq (tAsg (tLst tNil) (gName 1))
    (tSeq (tFor (iList K (tVar 0)) (gName 2)
    (tSeq (tIfS (tTest (tOp (rIn K true) (tVar 2) (tC (.ref (ca 0))))) (tRaise E (ca 22)) tNext)
    (tSeq (tAsg (tC (.int 0)) (gName 5))
    (tSeq (tIfS (tTest (tOp rEq (tVar 2) (tC (.str "in")))) (tSeq (tAsg (tCB rdInt (tCons (tOp rdGt (tVar 4) (tC (.int 0))) tNil)) (gName 5))
    (tAug 4 (tC (.int 1)) (ipI fun i j => i + j))) (tIfS (tTest (tOp rEq (tVar 2) (tC (.str "ask")))) (tAsg (tCB rdInt (tCons (tAndV (tOp rdGt (tVar 3) (tC (.int 0))) (tOp rdGt (tVar 4) (tC (.int 0)))) tNil)) (gName 5)) (tSeq (tIfS (tTest (tOp rEq (tOp rdAdd (tVar 3) (tVar 4)) (tC (.int 0)))) (tRaise E (ca 24)) tNext)
    (tSeq (tIfS (tTest (tOp rEq (tVar 3) (tC (.int 0)))) (tSeq (tAsg (tOp rdSub (tVar 4) (tC (.int 1))) (gName 5))
    (tPar 3 4 (tCons (tVar 4) (tCons (tC (.int 0)) tNil)))) tNext)
    (tAug 3 (tC (.int 1)) (ipI fun i j => i - j))))))
    (tDrop (tBM K "list" rAppend (tVar 1) (tCons (tVar 5) tNil)))))))
    (tRet (tCB (rdTuple K) (tCons (tVar 1) tNil))))))
theorem sc_cost_of : FnScope ["moves", "found", "move", "front", "back", "cost"] ["moves"] (defScope (topS 11)) := ⟨rfl, rfl, rfl, by decide +kernel, rfl, by decide +kernel, by decide +kernel⟩
theorem body_cost_of (T : Tx w K mg ad fu ca) : BodyX P w K mg base 0 "cost_of" (topS 11) (ad 11) ["moves", "found", "move", "front", "back", "cost"] (t_cost_of K ca) := by
  intro cdv R out s Hh E ro
  have nd := sc_cost_of.nd
  have hu := ro.units0
  have hu65 : R.units + 3 + 65 < cLine := by have := ro.un; show R.units + 3 + 65 < cLine; have e : (R.deeper (envOfC "cost_of" (defScope (topS 11)) s.heap.objs.size (ad 11) cdv)).units = R.units + 3 := rfl; rw [e] at this; omega
  exact (pss_cons (ps_asg (pe_tup (pa_cons pe_int (pa_cons pe_int pa_nil))) (pg_tup rfl (pgs_cons (pg_name (i := 3) nd rfl (by first | exact Or.inl rfl | exact Or.inr rfl)) (pgs_cons (pg_name (i := 4) nd rfl (by first | exact Or.inl rfl | exact Or.inr rfl)) pgs_nil))))
    (pss_cons (ps_set (i := 1) nd rfl (by first | exact Or.inl rfl | exact Or.inr rfl) (pe_lst pa_nil))
    (pss_cons (ps_for (passes_of rfl) rfl (pi_list (pv 0)) (pg_name (i := 2) nd rfl (by first | exact Or.inl rfl | exact Or.inr rfl))
    (pss_cons (ps_if (pt_cmpR op_notIn_seq (pv 2) (pe_globE (by rfl) T.g_MOVES) (by rfl)) (pss_one (ps_raise rfl (takes_of rfl rfl rfl rfl) (pmk_own PySem.F.excBase_ValueError T.x_NotAllowed T.gc_NotAllowed T.k_NotAllowed (raises_own T.bb_NotAllowed T.ty_NotAllowed) (by exact rfl)))) pss_nil)
    (pss_cons (ps_set (i := 5) nd rfl (by first | exact Or.inl rfl | exact Or.inr rfl) pe_int)
    (pss_cons (ps_if (pt_cmpR op_eq (pv 2) pe_str (by rfl)) (pss_cons (ps_set (i := 5) nd rfl (by first | exact Or.inl rfl | exact Or.inr rfl) (pe_callTy call_int1 (by rfl) T.b_int (by decide +kernel) (pa_cons (pe_cmpR op_gt (pv 4) pe_int (by rfl)) pa_nil)))
    (pss_one (ps_aug (i := 4) nd rfl (by first | exact Or.inl rfl | exact Or.inr rfl) pe_int ip_add))) (pss_one (ps_if (pt_cmpR op_eq (pv 2) pe_str (by rfl)) (pss_one (ps_set (i := 5) nd rfl (by first | exact Or.inl rfl | exact Or.inr rfl) (pe_callTy call_int1 (by rfl) T.b_int (by decide +kernel) (pa_cons (pe_and (pe_cmpR op_gt (pv 3) pe_int (by rfl)) (pe_one (pe_cmpR op_gt (pv 4) pe_int (by rfl)))) pa_nil)))) (pss_cons (ps_if (pt_cmpR op_eq (pe_op op_add (pv 3) (pv 4)) pe_int (by rfl)) (pss_one (ps_raise rfl (takes_of rfl rfl rfl rfl) (pmk_own PySem.F.excBase_ValueError T.x_Missing T.gc_Missing T.k_Missing (raises_own T.bb_Missing T.ty_Missing) (by exact rfl)))) pss_nil)
    (pss_cons (ps_if (pt_cmpR op_eq (pv 3) pe_int (by rfl)) (pss_cons (ps_set (i := 5) nd rfl (by first | exact Or.inl rfl | exact Or.inr rfl) (pe_op op_sub (pv 4) pe_int))
    (pss_one (ps_par (i := 3) (j := 4) rfl nd rfl rfl (by decide) rfl rfl (pa_cons (pv 4) (pa_cons pe_int pa_nil)) (by rfl)))) pss_nil)
    (pss_one (ps_aug (i := 3) nd rfl (by first | exact Or.inl rfl | exact Or.inr rfl) pe_int ip_sub)))))))
    (pss_one (ps_expr (pe_bm PySem.F.plainAttrs_list PySem.F.slot_list_append PySem.F.type_list_append mt_append (pv 1) (pa_cons (pv 5) pa_nil))))))))
    (pss_one (ps_ret (pe_callTy call_tuple_of (by rfl) T.b_tuple (by decide +kernel) (pa_cons (pv 1) pa_nil)))))))
/-! _law_stream : slots 0=script 1=numbers 2=cell 3=rest 4=k 5=mixed -/
def t_law_stream (K : PySem.W.Frag) (ca : Nat → Addr) : TS := 
  (tSeq (tAsg (tLst tNil) (gName 1))
    (tSeq (tFor (iList K (tSl (rSlL K) (tVar 0) tNoPart (tPart (tC (.int 63))))) (gName 2)
    (tSeq (tAsg (tCB rdAbs (tCons (tCB rdInt (tCons (tVar 2) tNil)) tNil)) (gName 3))
    (tIfS (tTest (tOp rdGe (tVar 3) (tOp rdPow (tC (.int 10)) (tC (.int 18))))) (tFor (iRng1 (tCons (tC (.int 60)) tNil)) (gName 4)
    (tSeq (tDrop (tBM K "list" rAppend (tVar 1) (tCons (tOp rdMod (tCB rdInt (tCons (tVar 3) tNil)) (tC (.int 1009))) tNil)))
    (tSeq (tAsg (tOp rdDiv (tVar 3) (tC (.int 1009))) (gName 3))
    (tIfS (tTest (tOp rEq (tVar 3) (tC (.int 0)))) tBreak tNext)))) (tSeq (tAsg (tOp rdMod (tCB rdInt (tCons (tVar 3) tNil)) (tC (.int 2147483647))) (gName 5))
    (tFor (iRng1 (tCons (tC (.int 10)) tNil)) (gName 4)
    (tSeq (tAsg (tOp rdMod (tCB rdInt (tCons (tOp rdAdd (tOp rdAdd (tOp rdMul (tVar 5) (tC (.int 48271))) (tOp rdMul (tC (.int 7)) (tVar 4))) (tC (.int 11))) tNil)) (tC (.int 2147483647))) (gName 5))
    (tDrop (tBM K "list" rAppend (tVar 1) (tCons (tOp rdMod (tOp rdMod (tCB rdInt (tCons (tOp rdAdd (tOp rdMul (tVar 5) (tC (.int 69621))) (tVar 4)) tNil)) (tC (.int 2147483629))) (tC (.int 1009))) tNil)))))))))
    (tSeq (tIfS (tTest (tOp rEq (tCB (rdLen K) (tCons (tVar 1) tNil)) (tC (.int 0)))) (tDrop (tBM K "list" rAppend (tVar 1) (tCons (tC (.int 0)) tNil))) tNext)
    (tRet (tVar 1)))))
theorem sc_law_stream : FnScope ["script", "numbers", "cell", "rest", "k", "mixed"] ["script"] (defScope (topS 13)) := ⟨rfl, rfl, rfl, by decide +kernel, rfl, by decide +kernel, by decide +kernel⟩
theorem body_law_stream (T : Tx w K mg ad fu ca) : Body P w K mg base 0 "_law_stream" (topS 13) (ad 13) ["script", "numbers", "cell", "rest", "k", "mixed"] (t_law_stream K ca) := by
  intro cdv R out s Hh E gd ro
  have nd := sc_law_stream.nd
  have hu := ro.units0
  have hu65 : R.units + 3 + 65 < cLine := by have := ro.un; show R.units + 3 + 65 < cLine; have e : (R.deeper (envOfC "_law_stream" (defScope (topS 13)) s.heap.objs.size (ad 13) cdv)).units = R.units + 3 := rfl; rw [e] at this; omega
  exact (pss_cons (ps_set (i := 1) nd rfl (by first | exact Or.inl rfl | exact Or.inr rfl) (pe_lst pa_nil))
    (pss_cons (ps_for PassesOwn.never rfl (pi_list (pe_slice sl_list (pv 0) po_none (po_some pe_int))) (pg_name (i := 2) nd rfl (by first | exact Or.inl rfl | exact Or.inr rfl))
    (pss_cons (ps_set (i := 3) nd rfl (by first | exact Or.inl rfl | exact Or.inr rfl) (pe_callB call_abs (by rfl) T.b_abs (by decide +kernel) (pa_cons (pe_callTy call_int1 (by rfl) T.b_int (by decide +kernel) (pa_cons (pv 2) pa_nil)) pa_nil)))
    (pss_one (ps_if (pt_cmpR op_ge (pv 3) (pe_op op_pow pe_int pe_int) (by rfl)) (pss_one (ps_for PassesOwn.never rfl (pi_range1 (by rfl) T.b_range (pa_cons pe_int pa_nil)) (pg_name (i := 4) nd rfl (by first | exact Or.inl rfl | exact Or.inr rfl))
    (pss_cons (ps_expr (pe_bm PySem.F.plainAttrs_list PySem.F.slot_list_append PySem.F.type_list_append mt_append (pv 1) (pa_cons (pe_op op_mod (pe_callTy call_int1 (by rfl) T.b_int (by decide +kernel) (pa_cons (pv 3) pa_nil)) pe_int) pa_nil)))
    (pss_cons (ps_set (i := 3) nd rfl (by first | exact Or.inl rfl | exact Or.inr rfl) (pe_op op_fdiv (pv 3) pe_int))
    (pss_one (ps_if (pt_cmpR op_eq (pv 3) pe_int (by rfl)) (pss_one ps_break) pss_nil)))))) (pss_cons (ps_set (i := 5) nd rfl (by first | exact Or.inl rfl | exact Or.inr rfl) (pe_op op_mod (pe_callTy call_int1 (by rfl) T.b_int (by decide +kernel) (pa_cons (pv 3) pa_nil)) pe_int))
    (pss_one (ps_for PassesOwn.never rfl (pi_range1 (by rfl) T.b_range (pa_cons pe_int pa_nil)) (pg_name (i := 4) nd rfl (by first | exact Or.inl rfl | exact Or.inr rfl))
    (pss_cons (ps_set (i := 5) nd rfl (by first | exact Or.inl rfl | exact Or.inr rfl) (pe_op op_mod (pe_callTy call_int1 (by rfl) T.b_int (by decide +kernel) (pa_cons (pe_op op_add (pe_op op_add (pe_op op_mul (pv 5) pe_int) (pe_op op_mul pe_int (pv 4))) pe_int) pa_nil)) pe_int))
    (pss_one (ps_expr (pe_bm PySem.F.plainAttrs_list PySem.F.slot_list_append PySem.F.type_list_append mt_append (pv 1) (pa_cons (pe_op op_mod (pe_op op_mod (pe_callTy call_int1 (by rfl) T.b_int (by decide +kernel) (pa_cons (pe_op op_add (pe_op op_mul (pv 5) pe_int) (pv 4)) pa_nil)) pe_int) pe_int) pa_nil))))))))))))
    (pss_cons (ps_if (pt_cmpR op_eq (pe_callB call_len_seq (by rfl) T.b_len (by decide +kernel) (pa_cons (pv 1) pa_nil)) pe_int (by rfl)) (pss_one (ps_expr (pe_bm PySem.F.plainAttrs_list PySem.F.slot_list_append PySem.F.type_list_append mt_append (pv 1) (pa_cons pe_int pa_nil)))) pss_nil)
    (pss_one (ps_ret (pv 1))))))
/-! _law_next : slots 0=state 1=many 2=turn -/
def t_law_next (K : PySem.W.Frag) (ca : Nat → Addr) : TS := 
  (tSeq (tAsg (tOp rdAdd (tOp (rIxL K) (tVar 0) (tC (.int 1))) (tC (.int 1))) (gSub (tVar 0) (tC (.int 1)) rSetL))
    (tSeq (tAsg (tOp rdDiv (tOp (rIxL K) (tVar 0) (tC (.int 1))) (tCB (rdLen K) (tCons (tOp (rIxL K) (tVar 0) (tC (.int 0))) tNil))) (gName 2))
    (tRet (tOp rdMod (tCB rdInt (tCons (tOp rdAdd (tOp rdAdd (tOp (rIxL K) (tOp (rIxL K) (tVar 0) (tC (.int 0))) (tOp rdMod (tOp (rIxL K) (tVar 0) (tC (.int 1))) (tCB (rdLen K) (tCons (tOp (rIxL K) (tVar 0) (tC (.int 0))) tNil)))) (tOp rdMul (tVar 2) (tC (.int 389)))) (tOp rdMul (tOp rdMul (tOp (rIxL K) (tVar 0) (tC (.int 1))) (tVar 2)) (tC (.int 17)))) tNil)) (tVar 1)))))
theorem sc_law_next : FnScope ["state", "many", "turn"] ["state", "many"] (defScope (topS 14)) := ⟨rfl, rfl, rfl, by decide +kernel, rfl, by decide +kernel, by decide +kernel⟩
theorem body_law_next (T : Tx w K mg ad fu ca) : Body P w K mg base 0 "_law_next" (topS 14) (ad 14) ["state", "many", "turn"] (t_law_next K ca) := by
  intro cdv R out s Hh E gd ro
  have nd := sc_law_next.nd
  have hu := ro.units0
  have hu65 : R.units + 3 + 65 < cLine := by have := ro.un; show R.units + 3 + 65 < cLine; have e : (R.deeper (envOfC "_law_next" (defScope (topS 14)) s.heap.objs.size (ad 14) cdv)).units = R.units + 3 := rfl; rw [e] at this; omega
  exact (pss_cons (ps_asg (pe_op op_add (pe_ix ix_list (pv 0) pe_int (fun _ _ => rfl)) pe_int) (pg_sub (pv 0) pe_int set_list))
    (pss_cons (ps_set (i := 2) nd rfl (by first | exact Or.inl rfl | exact Or.inr rfl) (pe_op op_fdiv (pe_ix ix_list (pv 0) pe_int (fun _ _ => rfl)) (pe_callB call_len_seq (by rfl) T.b_len (by decide +kernel) (pa_cons (pe_ix ix_list (pv 0) pe_int (fun _ _ => rfl)) pa_nil))))
    (pss_one (ps_ret (pe_op op_mod (pe_callTy call_int1 (by rfl) T.b_int (by decide +kernel) (pa_cons (pe_op op_add (pe_op op_add (pe_ix ix_list (pe_ix ix_list (pv 0) pe_int (fun _ _ => rfl)) (pe_op op_mod (pe_ix ix_list (pv 0) pe_int (fun _ _ => rfl)) (pe_callB call_len_seq (by rfl) T.b_len (by decide +kernel) (pa_cons (pe_ix ix_list (pv 0) pe_int (fun _ _ => rfl)) pa_nil))) (fun _ _ => rfl)) (pe_op op_mul (pv 2) pe_int)) (pe_op op_mul (pe_op op_mul (pe_ix ix_list (pv 0) pe_int (fun _ _ => rfl)) (pv 2)) pe_int)) pa_nil)) (pv 1))))))
/-! _law_same : slots 0=told 1=due -/
def t_law_same (K : PySem.W.Frag) (ca : Nat → Addr) : TS := 
  (tRet (tOp rEq (tCB (rReprD K) (tCons (tLst (tCons (tVar 0) tNil)) tNil)) (tCB (rReprD K) (tCons (tLst (tCons (tVar 1) tNil)) tNil))))
theorem sc_law_same : FnScope ["told", "due"] ["told", "due"] (defScope (topS 15)) := ⟨rfl, rfl, rfl, by decide +kernel, rfl, by decide +kernel, by decide +kernel⟩
theorem body_law_same (T : Tx w K mg ad fu ca) : Body P w K mg base 0 "_law_same" (topS 15) (ad 15) ["told", "due"] (t_law_same K ca) := by
  intro cdv R out s Hh E gd ro
  have nd := sc_law_same.nd
  have hu := ro.units0
  have hu65 : R.units + 3 + 65 < cLine := by have := ro.un; show R.units + 3 + 65 < cLine; have e : (R.deeper (envOfC "_law_same" (defScope (topS 15)) s.heap.objs.size (ad 15) cdv)).units = R.units + 3 := rfl; rw [e] at this; omega
  exact (pss_one (ps_ret (pe_cmpR op_eq (pe_callB (call_reprD gd (hu64 ro)) (by rfl) T.b_repr (by decide +kernel) (pa_cons (pe_lst (pa_cons (pv 0) pa_nil)) pa_nil)) (pe_callB (call_reprD gd (hu64 ro)) (by rfl) T.b_repr (by decide +kernel) (pa_cons (pe_lst (pa_cons (pv 1) pa_nil)) pa_nil)) (by rfl))))
/-! _law_word : slots 0=state 1=taken 2=word 3=k -/
def t_law_word (K : PySem.W.Frag) (ca : Nat → Addr) : TS := 
  (tSeq (tAsg (tC (.str "")) (gName 2))
    (tSeq (tFor (iRng1 (tCons (tOp (rIxL K) (tLst (tCons (tC (.int 1)) (tCons (tC (.int 2)) (tCons (tOp rdAdd (tC (.int 1)) (rCallG (sp_law_next K ca) E0 (tCons (tVar 0) (tCons (tC (.int 8)) tNil)))) tNil)))) (rCallG (sp_law_next K ca) E0 (tCons (tVar 0) (tCons (tC (.int 3)) tNil)))) tNil)) (gName 3)
    (tAsg (tOp rdAddS (tVar 2) (tOp rIxS (tC (.str "abyz")) (rCallG (sp_law_next K ca) E0 (tCons (tVar 0) (tCons (tC (.int 4)) tNil))))) (gName 2)))
    (tSeq (tIfS (tTest (tOp (rIn K false) (tVar 2) (tVar 1))) (tRet (tOp rdAddS (tC (.str "c")) (tOp rIxS (tC (.str "abcdefghijklmnopqrstuvwxyz")) (tCB (rdLen K) (tCons (tVar 1) tNil))))) tNext)
    (tRet (tVar 2)))))
theorem sc_law_word : FnScope ["state", "taken", "word", "k"] ["state", "taken"] (defScope (topS 16)) := ⟨rfl, rfl, rfl, by decide +kernel, rfl, by decide +kernel, by decide +kernel⟩
theorem body_law_word (T : Tx w K mg ad fu ca) (G_law_next : FnG P w K mg base CX0 1 (ad 14) (fu 14) ["state", "many"] (sp_law_next K ca)) : Body P w K mg base 1 "_law_word" (topS 16) (ad 16) ["state", "taken", "word", "k"] (t_law_word K ca) := by
  intro cdv R out s Hh E gd ro
  have nd := sc_law_word.nd
  have hu := ro.units0
  have hu65 : R.units + 3 + 65 < cLine := by have := ro.un; show R.units + 3 + 65 < cLine; have e : (R.deeper (envOfC "_law_word" (defScope (topS 16)) s.heap.objs.size (ad 16) cdv)).units = R.units + 3 := rfl; rw [e] at this; omega
  exact (pss_cons (ps_set (i := 2) nd rfl (by first | exact Or.inl rfl | exact Or.inr rfl) pe_str)
    (pss_cons (ps_for PassesOwn.never rfl (pi_range1 (by rfl) T.b_range (pa_cons (pe_ix ix_list (pe_lst (pa_cons pe_int (pa_cons pe_int (pa_cons (pe_op op_add pe_int (pe_callG T.d_law_next G_law_next gd (ro.mono (by decide)) pass0 (pa_cons (pv 0) (pa_cons pe_int pa_nil)))) pa_nil)))) (pe_callG T.d_law_next G_law_next gd (ro.mono (by decide)) pass0 (pa_cons (pv 0) (pa_cons pe_int pa_nil))) (fun _ _ => rfl)) pa_nil)) (pg_name (i := 3) nd rfl (by first | exact Or.inl rfl | exact Or.inr rfl))
    (pss_one (ps_set (i := 2) nd rfl (by first | exact Or.inl rfl | exact Or.inr rfl) (pe_op op_add_str (pv 2) (pe_ix ix_str pe_str (pe_callG T.d_law_next G_law_next gd (ro.mono (by decide)) pass0 (pa_cons (pv 0) (pa_cons pe_int pa_nil))) (fun _ _ => rfl))))))
    (pss_cons (ps_if (pt_cmpR op_in_seq (pv 2) (pv 1) (by rfl)) (pss_one (ps_ret (pe_op op_add_str pe_str (pe_ix ix_str pe_str (pe_callB call_len_seq (by rfl) T.b_len (by decide +kernel) (pa_cons (pv 1) pa_nil)) (fun _ _ => rfl))))) pss_nil)
    (pss_one (ps_ret (pv 2))))))
/-! _law_letters : slots 0=state 1=many 2=found 3=k -/
def t_law_letters (K : PySem.W.Frag) (ca : Nat → Addr) : TS := 
  (tSeq (tAsg (tLst tNil) (gName 2))
    (tSeq (tFor (iRng1 (tCons (tVar 1) tNil)) (gName 3)
    (tDrop (tBM K "list" rAppend (tVar 2) (tCons (rCallG (sp_law_word K ca) E0 (tCons (tVar 0) (tCons (tVar 2) tNil))) tNil))))
    (tRet (tCB (rdTupleF K) (tCons (tVar 2) tNil)))))
theorem sc_law_letters : FnScope ["state", "many", "found", "k"] ["state", "many"] (defScope (topS 17)) := ⟨rfl, rfl, rfl, by decide +kernel, rfl, by decide +kernel, by decide +kernel⟩
theorem body_law_letters (T : Tx w K mg ad fu ca) (G_law_word : FnG P w K mg base CX0 2 (ad 16) (fu 16) ["state", "taken"] (sp_law_word K ca)) : Body P w K mg base 2 "_law_letters" (topS 17) (ad 17) ["state", "many", "found", "k"] (t_law_letters K ca) := by
  intro cdv R out s Hh E gd ro
  have nd := sc_law_letters.nd
  have hu := ro.units0
  have hu65 : R.units + 3 + 65 < cLine := by have := ro.un; show R.units + 3 + 65 < cLine; have e : (R.deeper (envOfC "_law_letters" (defScope (topS 17)) s.heap.objs.size (ad 17) cdv)).units = R.units + 3 := rfl; rw [e] at this; omega
  exact (pss_cons (ps_set (i := 2) nd rfl (by first | exact Or.inl rfl | exact Or.inr rfl) (pe_lst pa_nil))
    (pss_cons (ps_for PassesOwn.never rfl (pi_range1 (by rfl) T.b_range (pa_cons (pv 1) pa_nil)) (pg_name (i := 3) nd rfl (by first | exact Or.inl rfl | exact Or.inr rfl))
    (pss_one (ps_expr (pe_bm PySem.F.plainAttrs_list PySem.F.slot_list_append PySem.F.type_list_append mt_append (pv 2) (pa_cons (pe_callG T.d_law_word G_law_word gd (ro.mono (by decide)) pass0 (pa_cons (pv 0) (pa_cons (pv 2) pa_nil))) pa_nil)))))
    (pss_one (ps_ret (pe_callTy call_tuple_frz (by rfl) T.b_tuple (by decide +kernel) (pa_cons (pv 2) pa_nil))))))
/-! _law_map : slots 0=state 1=rooms 2=kind 3=one 4=other 5=turn 6=k -/
def t_law_map (K : PySem.W.Frag) (ca : Nat → Addr) : TS := 
  (tSeq (tIfS (tTest (tOp rEq (tVar 2) (tC (.int 0)))) (tRet (tCB (rdTuple K) (tCons (tLc (iRng1 (tCons (tVar 1) tNil)) (gName 6) tYes (rCallG (sp_law_next K ca) E0 (tCons (tVar 0) (tCons (tVar 1) tNil))) [6]) tNil))) tNext)
    (tSeq (tIfS (tTest (tOp rEq (tVar 2) (tC (.int 1)))) (tRet (tCB (rdTuple K) (tCons (tCB (rSortedI K) (tCons (tLc (iRng1 (tCons (tVar 1) tNil)) (gName 6) tYes (rCallG (sp_law_next K ca) E0 (tCons (tVar 0) (tCons (tVar 1) tNil))) [6]) tNil)) tNil))) tNext)
    (tSeq (tIfS (tTest (tOp rEq (tVar 2) (tC (.int 2)))) (tSeq (tAsg (rCallG (sp_law_next K ca) E0 (tCons (tVar 0) (tCons (tVar 1) tNil))) (gName 5))
    (tRet (tCB (rdTuple K) (tCons (tLc (iRng1 (tCons (tVar 1) tNil)) (gName 6) tYes (tOp rdMod (tCB rdInt (tCons (tOp rdAdd (tVar 6) (tVar 5)) tNil)) (tVar 1)) [6]) tNil)))) tNext)
    (tSeq (tIfS (tTest (tOp rEq (tVar 2) (tC (.int 3)))) (tRet (tOp (rRepT K) (tTup (tCons (rCallG (sp_law_next K ca) E0 (tCons (tVar 0) (tCons (tVar 1) tNil))) tNil)) (tVar 1))) tNext)
    (tSeq (tIfS (tTest (tOp rEq (tVar 2) (tC (.int 4)))) (tRet (tCB (rdTuple K) (tCons (tLc (iRng1 (tCons (tVar 1) tNil)) (gName 6) tYes (tCB rdMin2 (tCons (tOp rdSub (tVar 1) (tC (.int 1))) (tCons (tOp rdAdd (tOp rdAdd (tVar 6) (tC (.int 1))) (rCallG (sp_law_next K ca) E0 (tCons (tVar 0) (tCons (tC (.int 2)) tNil)))) tNil))) [6]) tNil))) tNext)
    (tSeq (tAsg (rCallG (sp_law_next K ca) E0 (tCons (tVar 0) (tCons (tOp rdSub (tVar 1) (tC (.int 1))) tNil))) (gName 3))
    (tSeq (tAsg (rCallG (sp_law_next K ca) E0 (tCons (tVar 0) (tCons (tOp rdSub (tVar 1) (tC (.int 1))) tNil))) (gName 4))
    (tRet (tCB (rdTuple K) (tCons (tLc (iRng1 (tCons (tVar 1) tNil)) (gName 6) tYes (tOp (rIxL K) (tLst (tCons (tOp rdSub (tVar 1) (tC (.int 1))) (tCons (tVar 4) tNil))) (tCB rdInt (tCons (tOp rEq (tVar 6) (tVar 3)) tNil))) [6]) tNil))))))))))
theorem sc_law_map : FnScope ["state", "rooms", "kind", "one", "other", "turn", "k"] ["state", "rooms", "kind"] (defScope (topS 18)) := ⟨rfl, rfl, rfl, by decide +kernel, rfl, by decide +kernel, by decide +kernel⟩
theorem body_law_map (T : Tx w K mg ad fu ca) (G_law_next : FnG P w K mg base CX0 1 (ad 14) (fu 14) ["state", "many"] (sp_law_next K ca)) : Body P w K mg base 1 "_law_map" (topS 18) (ad 18) ["state", "rooms", "kind", "one", "other", "turn", "k"] (t_law_map K ca) := by
  intro cdv R out s Hh E gd ro
  have nd := sc_law_map.nd
  have hu := ro.units0
  have hu65 : R.units + 3 + 65 < cLine := by have := ro.un; show R.units + 3 + 65 < cLine; have e : (R.deeper (envOfC "_law_map" (defScope (topS 18)) s.heap.objs.size (ad 18) cdv)).units = R.units + 3 := rfl; rw [e] at this; omega
  exact (pss_cons (ps_if (pt_cmpR op_eq (pv 2) pe_int (by rfl)) (pss_one (ps_ret (pe_callTy call_tuple_of (by rfl) T.b_tuple (by decide +kernel) (pa_cons (pe_lc (own := [("k", 6)]) rfl nd (pi_range1 (by rfl) T.b_range (pa_cons (pv 1) pa_nil)) (blkOk_by (own := [("k", 6)]) (N := ["state", "rooms", "kind", "one", "other", "turn", "k"]) (sc := defScope (topS 18)) (by decide +kernel)) (fun _ _ _ _ _ => (pg_name (i := 6) nd rfl (by first | exact Or.inl rfl | exact Or.inr rfl))) (fun _ _ _ _ _ => pts_nil) (fun _ _ _ _ _ => (pe_callG T.d_law_next G_law_next gd (ro.mono (by decide)) pass0 (pa_cons (pv 0) (pa_cons (pv 1) pa_nil))))) pa_nil)))) pss_nil)
    (pss_cons (ps_if (pt_cmpR op_eq (pv 2) pe_int (by rfl)) (pss_one (ps_ret (pe_callTy call_tuple_of (by rfl) T.b_tuple (by decide +kernel) (pa_cons (pe_callB cr_sortedI (by rfl) T.b_sorted (by decide +kernel) (pa_cons (pe_lc (own := [("k", 6)]) rfl nd (pi_range1 (by rfl) T.b_range (pa_cons (pv 1) pa_nil)) (blkOk_by (own := [("k", 6)]) (N := ["state", "rooms", "kind", "one", "other", "turn", "k"]) (sc := defScope (topS 18)) (by decide +kernel)) (fun _ _ _ _ _ => (pg_name (i := 6) nd rfl (by first | exact Or.inl rfl | exact Or.inr rfl))) (fun _ _ _ _ _ => pts_nil) (fun _ _ _ _ _ => (pe_callG T.d_law_next G_law_next gd (ro.mono (by decide)) pass0 (pa_cons (pv 0) (pa_cons (pv 1) pa_nil))))) pa_nil)) pa_nil)))) pss_nil)
    (pss_cons (ps_if (pt_cmpR op_eq (pv 2) pe_int (by rfl)) (pss_cons (ps_set (i := 5) nd rfl (by first | exact Or.inl rfl | exact Or.inr rfl) (pe_callG T.d_law_next G_law_next gd (ro.mono (by decide)) pass0 (pa_cons (pv 0) (pa_cons (pv 1) pa_nil))))
    (pss_one (ps_ret (pe_callTy call_tuple_of (by rfl) T.b_tuple (by decide +kernel) (pa_cons (pe_lc (own := [("k", 6)]) rfl nd (pi_range1 (by rfl) T.b_range (pa_cons (pv 1) pa_nil)) (blkOk_by (own := [("k", 6)]) (N := ["state", "rooms", "kind", "one", "other", "turn", "k"]) (sc := defScope (topS 18)) (by decide +kernel)) (fun _ _ _ _ _ => (pg_name (i := 6) nd rfl (by first | exact Or.inl rfl | exact Or.inr rfl))) (fun _ _ _ _ _ => pts_nil) (fun _ _ _ _ _ => (pe_op op_mod (pe_callTy call_int1 (by rfl) T.b_int (by decide +kernel) (pa_cons (pe_op op_add (pv 6) (pv 5)) pa_nil)) (pv 1)))) pa_nil))))) pss_nil)
    (pss_cons (ps_if (pt_cmpR op_eq (pv 2) pe_int (by rfl)) (pss_one (ps_ret (pe_op op_repT (pe_tup (pa_cons (pe_callG T.d_law_next G_law_next gd (ro.mono (by decide)) pass0 (pa_cons (pv 0) (pa_cons (pv 1) pa_nil))) pa_nil)) (pv 1)))) pss_nil)
    (pss_cons (ps_if (pt_cmpR op_eq (pv 2) pe_int (by rfl)) (pss_one (ps_ret (pe_callTy call_tuple_of (by rfl) T.b_tuple (by decide +kernel) (pa_cons (pe_lc (own := [("k", 6)]) rfl nd (pi_range1 (by rfl) T.b_range (pa_cons (pv 1) pa_nil)) (blkOk_by (own := [("k", 6)]) (N := ["state", "rooms", "kind", "one", "other", "turn", "k"]) (sc := defScope (topS 18)) (by decide +kernel)) (fun _ _ _ _ _ => (pg_name (i := 6) nd rfl (by first | exact Or.inl rfl | exact Or.inr rfl))) (fun _ _ _ _ _ => pts_nil) (fun _ _ _ _ _ => (pe_callB (call_min2 rfl) (by rfl) T.b_min (by decide +kernel) (pa_cons (pe_op op_sub (pv 1) pe_int) (pa_cons (pe_op op_add (pe_op op_add (pv 6) pe_int) (pe_callG T.d_law_next G_law_next gd (ro.mono (by decide)) pass0 (pa_cons (pv 0) (pa_cons pe_int pa_nil)))) pa_nil))))) pa_nil)))) pss_nil)
    (pss_cons (ps_set (i := 3) nd rfl (by first | exact Or.inl rfl | exact Or.inr rfl) (pe_callG T.d_law_next G_law_next gd (ro.mono (by decide)) pass0 (pa_cons (pv 0) (pa_cons (pe_op op_sub (pv 1) pe_int) pa_nil))))
    (pss_cons (ps_set (i := 4) nd rfl (by first | exact Or.inl rfl | exact Or.inr rfl) (pe_callG T.d_law_next G_law_next gd (ro.mono (by decide)) pass0 (pa_cons (pv 0) (pa_cons (pe_op op_sub (pv 1) pe_int) pa_nil))))
    (pss_one (ps_ret (pe_callTy call_tuple_of (by rfl) T.b_tuple (by decide +kernel) (pa_cons (pe_lc (own := [("k", 6)]) rfl nd (pi_range1 (by rfl) T.b_range (pa_cons (pv 1) pa_nil)) (blkOk_by (own := [("k", 6)]) (N := ["state", "rooms", "kind", "one", "other", "turn", "k"]) (sc := defScope (topS 18)) (by decide +kernel)) (fun _ _ _ _ _ => (pg_name (i := 6) nd rfl (by first | exact Or.inl rfl | exact Or.inr rfl))) (fun _ _ _ _ _ => pts_nil) (fun _ _ _ _ _ => (pe_ix ix_list (pe_lst (pa_cons (pe_op op_sub (pv 1) pe_int) (pa_cons (pv 4) pa_nil))) (pe_callTy call_int1 (by rfl) T.b_int (by decide +kernel) (pa_cons (pe_cmpR op_eq (pv 6) (pv 3) (by rfl)) pa_nil)) (fun _ _ => rfl)))) pa_nil)))))))))))
/-! _law_built : slots 0=letters 1=maps 2=found 3=one 4=at 5=products 6=longer 7=other 8=room -/
def t_law_built (K : PySem.W.Frag) (ca : Nat → Addr) : TS := 
  (tSeq (tAsg (tLst tNil) (gName 2))
    (tSeq (tFor (iList K (tVar 1)) (gName 3)
    (tIfS (tTest (tOp (rNotInD K) (tVar 3) (tVar 2))) (tDrop (tBM K "list" rAppend (tVar 2) (tCons (tVar 3) tNil))) tNext))
    (tSeq (tFor (iRng1 (tCons (tC (.int 400)) tNil)) (gName 4)
    (tIfS (tTest (tOp rdLt (tVar 4) (tCB (rdLen K) (tCons (tVar 2) tNil)))) (tFor (iList K (tVar 1)) (gName 3)
    (tSeq (tAsg (tCB (rdTuple K) (tCons (tLc (iTup K (tOp (rIxL K) (tVar 2) (tVar 4))) (gName 8) tYes (tOp (rIxT K) (tVar 3) (tVar 8)) [8]) tNil)) (gName 6))
    (tIfS (tTest (tOp (rNotInD K) (tVar 6) (tVar 2))) (tDrop (tBM K "list" rAppend (tVar 2) (tCons (tVar 6) tNil))) tNext))) tNext))
    (tSeq (tAsg (tLst tNil) (gName 5))
    (tSeq (tFor (iList K (tVar 2)) (gName 3)
    (tDrop (tBM K "list" rAppend (tVar 5) (tCons (tCB (rdTuple K) (tCons (tLc (iList K (tVar 2)) (gName 7) tYes (tBM K "list" (rIndexD K) (tVar 2) (tCons (tCB (rdTuple K) (tCons (tLc (iTup K (tVar 3)) (gName 8) tYes (tOp (rIxT K) (tVar 7) (tVar 8)) [8]) tNil)) tNil)) [7]) tNil)) tNil))))
    (tRet (tTup (tCons (tVar 0) (tCons (tCB (rdTuple K) (tCons (tLc (iList K (tVar 1)) (gName 3) tYes (tBM K "list" (rIndexD K) (tVar 2) (tCons (tVar 3) tNil)) [3]) tNil)) (tCons (tCB (rdTuple K) (tCons (tVar 5) tNil)) tNil))))))))))
theorem sc_law_built : FnScope ["letters", "maps", "found", "one", "at", "products", "longer", "other", "room"] ["letters", "maps"] (defScope (topS 19)) := ⟨rfl, rfl, rfl, by decide +kernel, rfl, by decide +kernel, by decide +kernel⟩
theorem body_law_built (T : Tx w K mg ad fu ca) : Body P w K mg base 0 "_law_built" (topS 19) (ad 19) ["letters", "maps", "found", "one", "at", "products", "longer", "other", "room"] (t_law_built K ca) := by
  intro cdv R out s Hh E gd ro
  have nd := sc_law_built.nd
  have hu := ro.units0
  have hu65 : R.units + 3 + 65 < cLine := by have := ro.un; show R.units + 3 + 65 < cLine; have e : (R.deeper (envOfC "_law_built" (defScope (topS 19)) s.heap.objs.size (ad 19) cdv)).units = R.units + 3 := rfl; rw [e] at this; omega
  exact (pss_cons (ps_set (i := 2) nd rfl (by first | exact Or.inl rfl | exact Or.inr rfl) (pe_lst pa_nil))
    (pss_cons (ps_for PassesOwn.never rfl (pi_list (pv 1)) (pg_name (i := 3) nd rfl (by first | exact Or.inl rfl | exact Or.inr rfl))
    (pss_one (ps_if (pt_cmpR (op_notInD hu65) (pv 3) (pv 2) (by rfl)) (pss_one (ps_expr (pe_bm PySem.F.plainAttrs_list PySem.F.slot_list_append PySem.F.type_list_append mt_append (pv 2) (pa_cons (pv 3) pa_nil)))) pss_nil)))
    (pss_cons (ps_for PassesOwn.never rfl (pi_range1 (by rfl) T.b_range (pa_cons pe_int pa_nil)) (pg_name (i := 4) nd rfl (by first | exact Or.inl rfl | exact Or.inr rfl))
    (pss_one (ps_if (pt_cmpR op_lt (pv 4) (pe_callB call_len_seq (by rfl) T.b_len (by decide +kernel) (pa_cons (pv 2) pa_nil)) (by rfl)) (pss_one (ps_for PassesOwn.never rfl (pi_list (pv 1)) (pg_name (i := 3) nd rfl (by first | exact Or.inl rfl | exact Or.inr rfl))
    (pss_cons (ps_set (i := 6) nd rfl (by first | exact Or.inl rfl | exact Or.inr rfl) (pe_callTy call_tuple_of (by rfl) T.b_tuple (by decide +kernel) (pa_cons (pe_lc (own := [("room", 8)]) rfl nd (pi_tup (pe_ix ix_list (pv 2) (pv 4) (fun _ _ => rfl))) (blkOk_by (own := [("room", 8)]) (N := ["letters", "maps", "found", "one", "at", "products", "longer", "other", "room"]) (sc := defScope (topS 19)) (by decide +kernel)) (fun _ _ _ _ _ => (pg_name (i := 8) nd rfl (by first | exact Or.inl rfl | exact Or.inr rfl))) (fun _ _ _ _ _ => pts_nil) (fun _ _ _ _ _ => (pe_ix ix_tup (pv 3) (pv 8) (fun _ _ => rfl)))) pa_nil)))
    (pss_one (ps_if (pt_cmpR (op_notInD hu65) (pv 6) (pv 2) (by rfl)) (pss_one (ps_expr (pe_bm PySem.F.plainAttrs_list PySem.F.slot_list_append PySem.F.type_list_append mt_append (pv 2) (pa_cons (pv 6) pa_nil)))) pss_nil))))) pss_nil)))
    (pss_cons (ps_set (i := 5) nd rfl (by first | exact Or.inl rfl | exact Or.inr rfl) (pe_lst pa_nil))
    (pss_cons (ps_for PassesOwn.never rfl (pi_list (pv 2)) (pg_name (i := 3) nd rfl (by first | exact Or.inl rfl | exact Or.inr rfl))
    (pss_one (ps_expr (pe_bm PySem.F.plainAttrs_list PySem.F.slot_list_append PySem.F.type_list_append mt_append (pv 5) (pa_cons (pe_callTy call_tuple_of (by rfl) T.b_tuple (by decide +kernel) (pa_cons (pe_lc (own := [("other", 7)]) rfl nd (pi_list (pv 2)) (blkOk_by (own := [("other", 7)]) (N := ["letters", "maps", "found", "one", "at", "products", "longer", "other", "room"]) (sc := defScope (topS 19)) (by decide +kernel)) (fun _ _ _ _ _ => (pg_name (i := 7) nd rfl (by first | exact Or.inl rfl | exact Or.inr rfl))) (fun _ _ _ _ _ => pts_nil) (fun _ _ _ _ _ => (pe_bm PySem.F.plainAttrs_list PySem.F.slot_list_index PySem.F.type_list_index (mt_indexD hu65) (pv 2) (pa_cons (pe_callTy call_tuple_of (by rfl) T.b_tuple (by decide +kernel) (pa_cons (pe_lc (own := [("room", 8)]) rfl nd (pi_tup (pv 3)) (blkOk_by (own := [("room", 8)]) (by rfl)) (fun _ _ _ _ _ => (pg_name (i := 8) nd rfl (by first | exact Or.inl rfl | exact Or.inr rfl))) (fun _ _ _ _ _ => pts_nil) (fun _ _ _ _ _ => (pe_ix ix_tup (pv 7) (pv 8) (fun _ _ => rfl)))) pa_nil)) pa_nil)))) pa_nil)) pa_nil)))))
    (pss_one (ps_ret (pe_tup (pa_cons (pv 0) (pa_cons (pe_callTy call_tuple_of (by rfl) T.b_tuple (by decide +kernel) (pa_cons (pe_lc (own := [("one", 3)]) rfl nd (pi_list (pv 1)) (blkOk_by (own := [("one", 3)]) (N := ["letters", "maps", "found", "one", "at", "products", "longer", "other", "room"]) (sc := defScope (topS 19)) (by decide +kernel)) (fun _ _ _ _ _ => (pg_name (i := 3) nd rfl (by first | exact Or.inl rfl | exact Or.inr rfl))) (fun _ _ _ _ _ => pts_nil) (fun _ _ _ _ _ => (pe_bm PySem.F.plainAttrs_list PySem.F.slot_list_index PySem.F.type_list_index (mt_indexD hu65) (pv 2) (pa_cons (pv 3) pa_nil)))) pa_nil)) (pa_cons (pe_callTy call_tuple_of (by rfl) T.b_tuple (by decide +kernel) (pa_cons (pv 5) pa_nil)) pa_nil)))))))))))
/-! _law_table : slots 0=state 1=rooms 2=kinds 3=maps 4=k 5=kind -/
def t_law_table (K : PySem.W.Frag) (ca : Nat → Addr) : TS := 
  (tSeq (tIfS (tTest (tOp rEq (rCallG (sp_law_next K ca) E0 (tCons (tVar 0) (tCons (tC (.int 7)) tNil))) (tC (.int 0)))) (tRet (rCallG (sp_law_built K ca) E0 (tCons (rCallG (sp_law_letters K ca) E0 (tCons (tVar 0) (tCons (tC (.int 4)) tNil))) (tCons (tLc (iRng1 (tCons (tC (.int 4)) tNil)) (gName 4) tYes (rCallG (sp_law_map K ca) E0 (tCons (tVar 0) (tCons (tC (.int 2)) (tCons (tC (.int 0)) tNil)))) [4]) tNil)))) tNext)
    (tSeq (tAsg (tOp (rIxL K) (tLst (tCons (tC (.int 3)) (tCons (tC (.int 3)) (tCons (tC (.int 2)) (tCons (tC (.int 4)) tNil))))) (rCallG (sp_law_next K ca) E0 (tCons (tVar 0) (tCons (tC (.int 4)) tNil)))) (gName 1))
    (tSeq (tAsg (tOp (rIxL K) (tLst (tCons (tLst (tCons (tC (.int 0)) tNil)) (tCons (tLst (tCons (tC (.int 0)) (tCons (tC (.int 1)) tNil))) (tCons (tLst (tCons (tC (.int 1)) (tCons (tC (.int 3)) tNil))) (tCons (tLst (tCons (tC (.int 0)) (tCons (tC (.int 2)) tNil))) (tCons (tLst (tCons (tC (.int 2)) (tCons (tC (.int 3)) tNil))) (tCons (tLst (tCons (tC (.int 1)) (tCons (tC (.int 4)) tNil))) (tCons (tLst (tCons (tC (.int 5)) tNil)) (tCons (tLst (tCons (tC (.int 5)) (tCons (tC (.int 3)) tNil))) tNil))))))))) (rCallG (sp_law_next K ca) E0 (tCons (tVar 0) (tCons (tC (.int 8)) tNil)))) (gName 2))
    (tSeq (tAsg (tLst tNil) (gName 3))
    (tSeq (tFor (iRng1 (tCons (tOp (rIxL K) (tLst (tCons (tC (.int 2)) (tCons (tC (.int 3)) (tCons (tC (.int 2)) (tCons (tC (.int 1)) tNil))))) (rCallG (sp_law_next K ca) E0 (tCons (tVar 0) (tCons (tC (.int 4)) tNil)))) tNil)) (gName 4)
    (tSeq (tAsg (tOp (rIxL K) (tVar 2) (rCallG (sp_law_next K ca) E0 (tCons (tVar 0) (tCons (tCB (rdLen K) (tCons (tVar 2) tNil)) tNil)))) (gName 5))
    (tDrop (tBM K "list" rAppend (tVar 3) (tCons (rCallG (sp_law_map K ca) E0 (tCons (tVar 0) (tCons (tVar 1) (tCons (tOp (rIxL K) (tLst (tCons (tVar 5) (tCons (tC (.int 1)) tNil))) (tCB rdInt (tCons (tAndV (tOp rEq (tVar 5) (tC (.int 0))) (tOp rEq (tVar 1) (tC (.int 4)))) tNil))) tNil)))) tNil)))))
    (tSeq (tIfS (tAnd (tTest (tOp rEq (tVar 1) (tC (.int 4)))) (tTest (tOp (rIn K false) (tC (.int 2)) (tVar 2)))) (tAsg (tSl (rSlL K) (tVar 3) tNoPart (tPart (tC (.int 1)))) (gName 3)) tNext)
    (tRet (rCallG (sp_law_built K ca) E0 (tCons (rCallG (sp_law_letters K ca) E0 (tCons (tVar 0) (tCons (tCB (rdLen K) (tCons (tVar 3) tNil)) tNil))) (tCons (tVar 3) tNil))))))))))
theorem sc_law_table : FnScope ["state", "rooms", "kinds", "maps", "k", "kind"] ["state"] (defScope (topS 20)) := ⟨rfl, rfl, rfl, by decide +kernel, rfl, by decide +kernel, by decide +kernel⟩
theorem body_law_table (T : Tx w K mg ad fu ca) (G_law_built : FnG P w K mg base CX0 1 (ad 19) (fu 19) ["letters", "maps"] (sp_law_built K ca)) (G_law_letters : FnG P w K mg base CX0 3 (ad 17) (fu 17) ["state", "many"] (sp_law_letters K ca)) (G_law_map : FnG P w K mg base CX0 2 (ad 18) (fu 18) ["state", "rooms", "kind"] (sp_law_map K ca)) (G_law_next : FnG P w K mg base CX0 1 (ad 14) (fu 14) ["state", "many"] (sp_law_next K ca)) : Body P w K mg base 3 "_law_table" (topS 20) (ad 20) ["state", "rooms", "kinds", "maps", "k", "kind"] (t_law_table K ca) := by
  intro cdv R out s Hh E gd ro
  have nd := sc_law_table.nd
  have hu := ro.units0
  have hu65 : R.units + 3 + 65 < cLine := by have := ro.un; show R.units + 3 + 65 < cLine; have e : (R.deeper (envOfC "_law_table" (defScope (topS 20)) s.heap.objs.size (ad 20) cdv)).units = R.units + 3 := rfl; rw [e] at this; omega
  exact (pss_cons (ps_if (pt_cmpR op_eq (pe_callG T.d_law_next G_law_next gd (ro.mono (by decide)) pass0 (pa_cons (pv 0) (pa_cons pe_int pa_nil))) pe_int (by rfl)) (pss_one (ps_ret (pe_callG T.d_law_built G_law_built gd (ro.mono (by decide)) pass0 (pa_cons (pe_callG T.d_law_letters G_law_letters gd (ro.mono (by decide)) pass0 (pa_cons (pv 0) (pa_cons pe_int pa_nil))) (pa_cons (pe_lc (own := [("k", 4)]) rfl nd (pi_range1 (by rfl) T.b_range (pa_cons pe_int pa_nil)) (blkOk_by (own := [("k", 4)]) (N := ["state", "rooms", "kinds", "maps", "k", "kind"]) (sc := defScope (topS 20)) (by decide +kernel)) (fun _ _ _ _ _ => (pg_name (i := 4) nd rfl (by first | exact Or.inl rfl | exact Or.inr rfl))) (fun _ _ _ _ _ => pts_nil) (fun _ _ _ _ _ => (pe_callG T.d_law_map G_law_map gd (ro.mono (by decide)) pass0 (pa_cons (pv 0) (pa_cons pe_int (pa_cons pe_int pa_nil)))))) pa_nil))))) pss_nil)
    (pss_cons (ps_set (i := 1) nd rfl (by first | exact Or.inl rfl | exact Or.inr rfl) (pe_ix ix_list (pe_lst (pa_cons pe_int (pa_cons pe_int (pa_cons pe_int (pa_cons pe_int pa_nil))))) (pe_callG T.d_law_next G_law_next gd (ro.mono (by decide)) pass0 (pa_cons (pv 0) (pa_cons pe_int pa_nil))) (fun _ _ => rfl)))
    (pss_cons (ps_set (i := 2) nd rfl (by first | exact Or.inl rfl | exact Or.inr rfl) (pe_ix ix_list (pe_lst (pa_cons (pe_lst (pa_cons pe_int pa_nil)) (pa_cons (pe_lst (pa_cons pe_int (pa_cons pe_int pa_nil))) (pa_cons (pe_lst (pa_cons pe_int (pa_cons pe_int pa_nil))) (pa_cons (pe_lst (pa_cons pe_int (pa_cons pe_int pa_nil))) (pa_cons (pe_lst (pa_cons pe_int (pa_cons pe_int pa_nil))) (pa_cons (pe_lst (pa_cons pe_int (pa_cons pe_int pa_nil))) (pa_cons (pe_lst (pa_cons pe_int pa_nil)) (pa_cons (pe_lst (pa_cons pe_int (pa_cons pe_int pa_nil))) pa_nil))))))))) (pe_callG T.d_law_next G_law_next gd (ro.mono (by decide)) pass0 (pa_cons (pv 0) (pa_cons pe_int pa_nil))) (fun _ _ => rfl)))
    (pss_cons (ps_set (i := 3) nd rfl (by first | exact Or.inl rfl | exact Or.inr rfl) (pe_lst pa_nil))
    (pss_cons (ps_for PassesOwn.never rfl (pi_range1 (by rfl) T.b_range (pa_cons (pe_ix ix_list (pe_lst (pa_cons pe_int (pa_cons pe_int (pa_cons pe_int (pa_cons pe_int pa_nil))))) (pe_callG T.d_law_next G_law_next gd (ro.mono (by decide)) pass0 (pa_cons (pv 0) (pa_cons pe_int pa_nil))) (fun _ _ => rfl)) pa_nil)) (pg_name (i := 4) nd rfl (by first | exact Or.inl rfl | exact Or.inr rfl))
    (pss_cons (ps_set (i := 5) nd rfl (by first | exact Or.inl rfl | exact Or.inr rfl) (pe_ix ix_list (pv 2) (pe_callG T.d_law_next G_law_next gd (ro.mono (by decide)) pass0 (pa_cons (pv 0) (pa_cons (pe_callB call_len_seq (by rfl) T.b_len (by decide +kernel) (pa_cons (pv 2) pa_nil)) pa_nil))) (fun _ _ => rfl)))
    (pss_one (ps_expr (pe_bm PySem.F.plainAttrs_list PySem.F.slot_list_append PySem.F.type_list_append mt_append (pv 3) (pa_cons (pe_callG T.d_law_map G_law_map gd (ro.mono (by decide)) pass0 (pa_cons (pv 0) (pa_cons (pv 1) (pa_cons (pe_ix ix_list (pe_lst (pa_cons (pv 5) (pa_cons pe_int pa_nil))) (pe_callTy call_int1 (by rfl) T.b_int (by decide +kernel) (pa_cons (pe_and (pe_cmpR op_eq (pv 5) pe_int (by rfl)) (pe_one (pe_cmpR op_eq (pv 1) pe_int (by rfl)))) pa_nil)) (fun _ _ => rfl)) pa_nil)))) pa_nil))))))
    (pss_cons (ps_if (PW.pt (pw_and (pt_cmpR op_eq (pv 1) pe_int (by rfl)) (pw_and1 (pt_cmpR op_in_seq pe_int (pv 2) (by rfl))))) (pss_one (ps_set (i := 3) nd rfl (by first | exact Or.inl rfl | exact Or.inr rfl) (pe_slice sl_list (pv 3) po_none (po_some pe_int)))) pss_nil)
    (pss_one (ps_ret (pe_callG T.d_law_built G_law_built gd (ro.mono (by decide)) pass0 (pa_cons (pe_callG T.d_law_letters G_law_letters gd (ro.mono (by decide)) pass0 (pa_cons (pv 0) (pa_cons (pe_callB call_len_seq (by rfl) T.b_len (by decide +kernel) (pa_cons (pv 3) pa_nil)) pa_nil))) (pa_cons (pv 3) pa_nil)))))))))))
/-! _law_times : slots 0=table 1=first 2=second -/
def t_law_times (K : PySem.W.Frag) (ca : Nat → Addr) : TS := 
  (tSeq (tIfS (tTest (tOp rdLt (tVar 1) (tC (.int 0)))) (tRet (tVar 2)) tNext)
    (tSeq (tIfS (tTest (tOp rdLt (tVar 2) (tC (.int 0)))) (tRet (tVar 1)) tNext)
    (tRet (tOp (rIxT K) (tOp (rIxT K) (tOp (rIxT K) (tVar 0) (tC (.int 2))) (tVar 1)) (tVar 2)))))
theorem sc_law_times : FnScope ["table", "first", "second"] ["table", "first", "second"] (defScope (topS 21)) := ⟨rfl, rfl, rfl, by decide +kernel, rfl, by decide +kernel, by decide +kernel⟩
theorem body_law_times (T : Tx w K mg ad fu ca) : Body P w K mg base 0 "_law_times" (topS 21) (ad 21) ["table", "first", "second"] (t_law_times K ca) := by
  intro cdv R out s Hh E gd ro
  have nd := sc_law_times.nd
  have hu := ro.units0
  have hu65 : R.units + 3 + 65 < cLine := by have := ro.un; show R.units + 3 + 65 < cLine; have e : (R.deeper (envOfC "_law_times" (defScope (topS 21)) s.heap.objs.size (ad 21) cdv)).units = R.units + 3 := rfl; rw [e] at this; omega
  exact (pss_cons (ps_if (pt_cmpR op_lt (pv 1) pe_int (by rfl)) (pss_one (ps_ret (pv 2))) pss_nil)
    (pss_cons (ps_if (pt_cmpR op_lt (pv 2) pe_int (by rfl)) (pss_one (ps_ret (pv 1))) pss_nil)
    (pss_one (ps_ret (pe_ix ix_tup (pe_ix ix_tup (pe_ix ix_tup (pv 0) pe_int (fun _ _ => rfl)) (pv 1) (fun _ _ => rfl)) (pv 2) (fun _ _ => rfl))))))
/-! _law_value : slots 0=table 1=log 2=value 3=letter -/
def t_law_value (K : PySem.W.Frag) (ca : Nat → Addr) : TS := 
  (tSeq (tAsg (tUn (rU fun i => .int (-i)) (tC (.int 1))) (gName 2))
    (tSeq (tFor (iTup K (tVar 1)) (gName 3)
    (tAsg (rCallG (sp_law_times K ca) E0 (tCons (tVar 0) (tCons (tVar 2) (tCons (tOp (rIxT K) (tOp (rIxT K) (tVar 0) (tC (.int 1))) (tBMT (rdTupIndex K) (tOp (rIxT K) (tVar 0) (tC (.int 0))) (tCons (tVar 3) tNil))) tNil)))) (gName 2)))
    (tRet (tVar 2))))
theorem sc_law_value : FnScope ["table", "log", "value", "letter"] ["table", "log"] (defScope (topS 22)) := ⟨rfl, rfl, rfl, by decide +kernel, rfl, by decide +kernel, by decide +kernel⟩
theorem body_law_value (T : Tx w K mg ad fu ca) (G_law_times : FnG P w K mg base CX0 1 (ad 21) (fu 21) ["table", "first", "second"] (sp_law_times K ca)) : Body P w K mg base 1 "_law_value" (topS 22) (ad 22) ["table", "log", "value", "letter"] (t_law_value K ca) := by
  intro cdv R out s Hh E gd ro
  have nd := sc_law_value.nd
  have hu := ro.units0
  have hu65 : R.units + 3 + 65 < cLine := by have := ro.un; show R.units + 3 + 65 < cLine; have e : (R.deeper (envOfC "_law_value" (defScope (topS 22)) s.heap.objs.size (ad 22) cdv)).units = R.units + 3 := rfl; rw [e] at this; omega
  exact (pss_cons (ps_set (i := 2) nd rfl (by first | exact Or.inl rfl | exact Or.inr rfl) (pe_un un_neg pe_int))
    (pss_cons (ps_for PassesOwn.never rfl (pi_tup (pv 1)) (pg_name (i := 3) nd rfl (by first | exact Or.inl rfl | exact Or.inr rfl))
    (pss_one (ps_set (i := 2) nd rfl (by first | exact Or.inl rfl | exact Or.inr rfl) (pe_callG T.d_law_times G_law_times gd (ro.mono (by decide)) pass0 (pa_cons (pv 0) (pa_cons (pv 2) (pa_cons (pe_ix ix_tup (pe_ix ix_tup (pv 0) pe_int (fun _ _ => rfl)) (pe_bmT PySem.F.plainAttrs_tuple PySem.F.slot_tuple_index PySem.F.type_tuple_index mt_tup_index (pe_ix ix_tup (pv 0) pe_int (fun _ _ => rfl)) (pa_cons (pv 3) pa_nil)) (fun _ _ => rfl)) pa_nil)))))))
    (pss_one (ps_ret (pv 2)))))
/-! _law_class : slots 0=way 1=window 2=thing 3=e -/
def t_law_class (K : PySem.W.Frag) (ca : Nat → Addr) : TS := 
  (fun D sl Hh => (fun W => (tSeq (tIfS (tTest (tOp rEq (tVar 0) (tC (.int 0)))) (tRet (tTup (tCons (tC (.str "told")) (tCons (tMethX (ca 20) "push" (sp_Window_push K ca) (WE W) (tVar 1) (tCons (tVar 2) tNil)) tNil)))) tNext)
    (tSeq (tIfS (tTest (tOp rEq (tVar 0) (tC (.int 1)))) (tRet (tTup (tCons (tC (.str "told")) (tCons (tMethX (ca 20) "pop" (sp_Window_pop K ca) (WE W) (tVar 1) tNil) tNil)))) tNext)
    (tRet (tTup (tCons (tC (.str "told")) (tCons (tCallS (sp_cost_of K ca) (WE W) (tCons (tVar 2) tNil)) tNil))))))) (wishA K (fun _ _ _ _ => False) D ((.ref (ca 24), 3, fun ah cc dx => tIs cc dx (.ref (ca 24)) (tRet (tOp (rIxL K) (tLst (tCons (tC (.str "missing")) (tCons (tC (.str "odd")) tNil))) (tCB rdInt (tCons (tOrV (tNotV (tCB (rIsE K (ca 24) ah) (tCons (tVar 3) (tCons (tC (.ref (ca 21))) tNil)))) (tCB (rIsEs K (ca 24) ah) (tCons (tVar 3) (tCons (tTup (tCons (tC (.ref (ca 22))) (tCons (tC (.ref (ca 25))) (tCons (tC (.ref (ca 23))) tNil)))) tNil)))) tNil))))) :: ((.ref (ca 22), 3, fun ah cc dx => tIs cc dx (.ref (ca 22)) (tRet (tOp (rIxL K) (tLst (tCons (tC (.str "refused")) (tCons (tC (.str "odd")) tNil))) (tCB rdInt (tCons (tOrV (tNotV (tCB (rIsE K (ca 22) ah) (tCons (tVar 3) (tCons (tC (.ref (ca 21))) tNil)))) (tCB (rIsEs K (ca 22) ah) (tCons (tVar 3) (tCons (tTup (tCons (tC (.ref (ca 24))) (tCons (tC (.ref (ca 25))) (tCons (tC (.ref (ca 23))) tNil)))) tNil)))) tNil))))) :: []))) D sl Hh)
theorem sc_law_class : FnScope ["way", "window", "thing", "e"] ["way", "window", "thing"] (defScope (topS 24)) := ⟨rfl, rfl, rfl, by decide +kernel, rfl, by decide +kernel, by decide +kernel⟩
theorem body_law_class (T : Tx w K mg ad fu ca) (F_Window_pop : FnOk P w K mg base (L2.CX P w) 4 (ad 2003) (fu 2003) ["self"] (sp_Window_pop K ca)) (F_Window_push : FnOk P w K mg base (L2.CX P w) 3 (ad 2002) (fu 2002) ["self", "letter"] (sp_Window_push K ca)) (F_cost_of : FnOk P w K mg base (L2.CX P w) 1 (ad 11) (fu 11) ["moves"] (sp_cost_of K ca)) : BodyP P w K mg base 4 "_law_class" (topS 24) (ad 24) ["way", "window", "thing", "e"] (t_law_class K ca) := by
  intro cdv R out s Hh E ro
  have nd := sc_law_class.nd
  have hu := ro.units0
  have hu65 : R.units + 3 + 65 < cLine := by have := ro.un; show R.units + 3 + 65 < cLine; have e : (R.deeper (envOfC "_law_class" (defScope (topS 24)) s.heap.objs.size (ad 24) cdv)).units = R.units + 3 := rfl; rw [e] at this; omega
  exact (pss_one (ps_try_named (tb := fun W => (tSeq (tIfS (tTest (tOp rEq (tVar 0) (tC (.int 0)))) (tRet (tTup (tCons (tC (.str "told")) (tCons (tMethX (ca 20) "push" (sp_Window_push K ca) (WE W) (tVar 1) (tCons (tVar 2) tNil)) tNil)))) tNext)
    (tSeq (tIfS (tTest (tOp rEq (tVar 0) (tC (.int 1)))) (tRet (tTup (tCons (tC (.str "told")) (tCons (tMethX (ca 20) "pop" (sp_Window_pop K ca) (WE W) (tVar 1) tNil) tNil)))) tNext)
    (tRet (tTup (tCons (tC (.str "told")) (tCons (tCallS (sp_cost_of K ca) (WE W) (tCons (tVar 2) tNil)) tNil))))))) rfl rfl nd takes0 (fun W pl xe tkW _ => (pss_cons (ps_if (pt_cmpR op_eq (pv 0) pe_int (by rfl)) (pss_one (ps_ret (pe_tup (pa_cons pe_str (pa_cons (pe_methX (pv 1) T.c_Window T.m_Window_push F_Window_push (ro.mono (by decide)) T.bi_Window_push (fun sl => passAt tkW sl) (pa_cons (pv 2) pa_nil)) pa_nil))))) pss_nil)
    (pss_cons (ps_if (pt_cmpR op_eq (pv 0) pe_int (by rfl)) (pss_one (ps_ret (pe_tup (pa_cons pe_str (pa_cons (pe_methX0 (pv 1) T.c_Window T.m_Window_pop F_Window_pop (ro.mono (by decide)) T.bi_Window_pop (fun sl => passAt tkW sl)) pa_nil))))) pss_nil)
    (pss_one (ps_ret (pe_tup (pa_cons pe_str (pa_cons (pe_callS F_cost_of (ro.mono (by decide)) (by rfl) T.d_cost_of.m T.d_cost_of.F.kp T.d_cost_of.b (fun sl => passAt tkW sl) (pa_cons (pv 2) pa_nil)) pa_nil))))))))
    (AsCl.cons (i := 3) rfl rfl (nm_of T.gc_Missing) (fun ah ob cc dx pl z fd => pss_is fun e1 e2 => by subst e1; subst e2; exact (pss_one (ps_ret (pe_ix ix_list (pe_lst (pa_cons pe_str (pa_cons pe_str pa_nil))) (pe_callTy call_int1 (by rfl) T.b_int (by decide +kernel) (pa_cons (pe_or (pe_not (pe_callB (call_isE T.e_Missing z fd) (by rfl) T.b_isinstance (by decide +kernel) (pa_cons (pv 3) (pa_cons (pe_globE (by rfl) T.g_ScarpError) pa_nil)))) (pe_one (pe_callB (call_isEs T.e_Missing z fd) (by rfl) T.b_isinstance (by decide +kernel) (pa_cons (pv 3) (pa_cons (pe_tup (pa_cons (pe_globE (by rfl) T.g_NotAllowed) (pa_cons (pe_globE (by rfl) T.g_BadPaper) (pa_cons (pe_globE (by rfl) T.g_TooLarge) pa_nil)))) pa_nil))))) pa_nil)) (fun _ _ => rfl)))))
    (AsCl.cons (i := 3) rfl rfl (nm_of T.gc_NotAllowed) (fun ah ob cc dx pl z fd => pss_is fun e1 e2 => by subst e1; subst e2; exact (pss_one (ps_ret (pe_ix ix_list (pe_lst (pa_cons pe_str (pa_cons pe_str pa_nil))) (pe_callTy call_int1 (by rfl) T.b_int (by decide +kernel) (pa_cons (pe_or (pe_not (pe_callB (call_isE T.e_NotAllowed z fd) (by rfl) T.b_isinstance (by decide +kernel) (pa_cons (pv 3) (pa_cons (pe_globE (by rfl) T.g_ScarpError) pa_nil)))) (pe_one (pe_callB (call_isEs T.e_NotAllowed z fd) (by rfl) T.b_isinstance (by decide +kernel) (pa_cons (pv 3) (pa_cons (pe_tup (pa_cons (pe_globE (by rfl) T.g_Missing) (pa_cons (pe_globE (by rfl) T.g_BadPaper) (pa_cons (pe_globE (by rfl) T.g_TooLarge) pa_nil)))) pa_nil))))) pa_nil)) (fun _ _ => rfl)))))
    AsCl.nil))))
/-! _law_stored : slots 0=table 1=play 2=found 3=window 4=front 5=back 6=made 7=k -/
def t_law_stored (K : PySem.W.Frag) (ca : Nat → Addr) : TS := 
  (tSeq (tAsg (tVar 1) (gUnl K 4 (gCons (gName 3) (gCons (gName 4) (gCons (gName 5) (gCons (gName 6) gNil))))))
    (tSeq (tAsg (tLc (iRng1 (tCons (tCB (rdLen K) (tCons (tVar 4) tNil)) tNil)) (gName 7) tYes (rCallG (sp_law_value K ca) E0 (tCons (tVar 0) (tCons (tSl (rSlA K) (tVar 4) (tPart (tVar 7)) tNoPart) tNil))) [7]) (gName 2))
    (tRet (tTup (tCons (tCB (rdTuple K) (tCons (tVar 2) tNil)) (tCons (rCallG (sp_law_value K ca) E0 (tCons (tVar 0) (tCons (tVar 5) tNil))) tNil))))))
theorem sc_law_stored : FnScope ["table", "play", "found", "window", "front", "back", "made", "k"] ["table", "play"] (defScope (topS 25)) := ⟨rfl, rfl, rfl, by decide +kernel, rfl, by decide +kernel, by decide +kernel⟩
theorem body_law_stored (T : Tx w K mg ad fu ca) (G_law_value : FnG P w K mg base CX0 2 (ad 22) (fu 22) ["table", "log"] (sp_law_value K ca)) : Body P w K mg base 2 "_law_stored" (topS 25) (ad 25) ["table", "play", "found", "window", "front", "back", "made", "k"] (t_law_stored K ca) := by
  intro cdv R out s Hh E gd ro
  have nd := sc_law_stored.nd
  have hu := ro.units0
  have hu65 : R.units + 3 + 65 < cLine := by have := ro.un; show R.units + 3 + 65 < cLine; have e : (R.deeper (envOfC "_law_stored" (defScope (topS 25)) s.heap.objs.size (ad 25) cdv)).units = R.units + 3 := rfl; rw [e] at this; omega
  exact (pss_cons (ps_asg (pv 1) (pg_unl rfl (pgs_cons (pg_name (i := 3) nd rfl (by first | exact Or.inl rfl | exact Or.inr rfl)) (pgs_cons (pg_name (i := 4) nd rfl (by first | exact Or.inl rfl | exact Or.inr rfl)) (pgs_cons (pg_name (i := 5) nd rfl (by first | exact Or.inl rfl | exact Or.inr rfl)) (pgs_cons (pg_name (i := 6) nd rfl (by first | exact Or.inl rfl | exact Or.inr rfl)) pgs_nil))))))
    (pss_cons (ps_setLc (i := 2) (own := [("k", 7)]) rfl nd rfl rfl (sw_true rfl rfl rfl (by decide +kernel)) (pi_range1 (by rfl) T.b_range (pa_cons (pe_callB call_len_seq (by rfl) T.b_len (by decide +kernel) (pa_cons (pv 4) pa_nil)) pa_nil)) (blkOk_by (own := [("k", 7)]) (N := ["table", "play", "found", "window", "front", "back", "made", "k"]) (sc := defScope (topS 25)) (by decide +kernel)) (fun _ _ _ _ _ => (pg_name (i := 7) nd rfl (by first | exact Or.inl rfl | exact Or.inr rfl))) (fun _ _ _ _ _ => pts_nil) (fun _ _ _ _ _ => (pe_callG T.d_law_value G_law_value gd (ro.mono (by decide)) pass0 (pa_cons (pv 0) (pa_cons (pe_slice sl_tupA (pv 4) (po_some (pv 7)) po_none) pa_nil)))))
    (pss_one (ps_ret (pe_tup (pa_cons (pe_callTy call_tuple_of (by rfl) T.b_tuple (by decide +kernel) (pa_cons (pv 2) pa_nil)) (pa_cons (pe_callG T.d_law_value G_law_value gd (ro.mono (by decide)) pass0 (pa_cons (pv 0) (pa_cons (pv 5) pa_nil))) pa_nil)))))))
/-! _law_stands : slots 0=table 1=play 2=due 3=window 4=front 5=back 6=made -/
def t_law_stands (K : PySem.W.Frag) (ca : Nat → Addr) : TS := 
  (tSeq (tAsg (tVar 1) (gUnl K 4 (gCons (gName 3) (gCons (gName 4) (gCons (gName 5) (gCons (gName 6) gNil))))))
    (tSeq (tAsg (tLst (tCons (tOp (rCatA K) (tCB (rdTuple K) (tCons (tVar 4) tNil)) (tCB (rdTuple K) (tCons (tVar 5) tNil))) (tCons (rCallG (sp_law_stored K ca) E0 (tCons (tVar 0) (tCons (tVar 1) tNil))) (tCons (tVar 6) tNil)))) (gName 2))
    (tRet (rCallG (sp_law_same K ca) E0 (tCons (tLst (tCons (tMeth (ca 20) "letters" (sp_Window_letters K ca) [] E0 (tVar 3) tNil) (tCons (tMeth (ca 20) "stored" (sp_Window_stored K ca) [] E0 (tVar 3) tNil) (tCons (tMeth (ca 20) "made" (sp_Window_made K ca) [] E0 (tVar 3) tNil) tNil)))) (tCons (tVar 2) tNil))))))
theorem sc_law_stands : FnScope ["table", "play", "due", "window", "front", "back", "made"] ["table", "play"] (defScope (topS 26)) := ⟨rfl, rfl, rfl, by decide +kernel, rfl, by decide +kernel, by decide +kernel⟩
theorem body_law_stands (T : Tx w K mg ad fu ca) (F_Window_letters : FnOk P w K mg base CX0 1 (ad 2006) (fu 2006) ["self"] (sp_Window_letters K ca)) (F_Window_made : FnOk P w K mg base CX0 1 (ad 2008) (fu 2008) ["self"] (sp_Window_made K ca)) (F_Window_stored : FnOk P w K mg base CX0 1 (ad 2007) (fu 2007) ["self"] (sp_Window_stored K ca)) (G_law_same : FnG P w K mg base CX0 1 (ad 15) (fu 15) ["told", "due"] (sp_law_same K ca)) (G_law_stored : FnG P w K mg base CX0 3 (ad 25) (fu 25) ["table", "play"] (sp_law_stored K ca)) : Body P w K mg base 3 "_law_stands" (topS 26) (ad 26) ["table", "play", "due", "window", "front", "back", "made"] (t_law_stands K ca) := by
  intro cdv R out s Hh E gd ro
  have nd := sc_law_stands.nd
  have hu := ro.units0
  have hu65 : R.units + 3 + 65 < cLine := by have := ro.un; show R.units + 3 + 65 < cLine; have e : (R.deeper (envOfC "_law_stands" (defScope (topS 26)) s.heap.objs.size (ad 26) cdv)).units = R.units + 3 := rfl; rw [e] at this; omega
  exact (pss_cons (ps_asg (pv 1) (pg_unl rfl (pgs_cons (pg_name (i := 3) nd rfl (by first | exact Or.inl rfl | exact Or.inr rfl)) (pgs_cons (pg_name (i := 4) nd rfl (by first | exact Or.inl rfl | exact Or.inr rfl)) (pgs_cons (pg_name (i := 5) nd rfl (by first | exact Or.inl rfl | exact Or.inr rfl)) (pgs_cons (pg_name (i := 6) nd rfl (by first | exact Or.inl rfl | exact Or.inr rfl)) pgs_nil))))))
    (pss_cons (ps_set (i := 2) nd rfl (by first | exact Or.inl rfl | exact Or.inr rfl) (pe_lst (pa_cons (pe_op op_catA (pe_callTy call_tuple_of (by rfl) T.b_tuple (by decide +kernel) (pa_cons (pv 4) pa_nil)) (pe_callTy call_tuple_of (by rfl) T.b_tuple (by decide +kernel) (pa_cons (pv 5) pa_nil))) (pa_cons (pe_callG T.d_law_stored G_law_stored gd (ro.mono (by decide)) pass0 (pa_cons (pv 0) (pa_cons (pv 1) pa_nil))) (pa_cons (pv 6) pa_nil)))))
    (pss_one (ps_ret (pe_callG T.d_law_same G_law_same gd (ro.mono (by decide)) pass0 (pa_cons (pe_lst (pa_cons (pe_meth0 (pv 3) T.c_Window T.m_Window_letters F_Window_letters (ro.mono (by decide)) T.bi_Window_letters .nil pass0) (pa_cons (pe_meth0 (pv 3) T.c_Window T.m_Window_stored F_Window_stored (ro.mono (by decide)) T.bi_Window_stored .nil pass0) (pa_cons (pe_meth0 (pv 3) T.c_Window T.m_Window_made F_Window_made (ro.mono (by decide)) T.bi_Window_made .nil pass0) pa_nil)))) (pa_cons (pv 2) pa_nil)))))))
/-! _law_turn : slots 0=state 1=table 2=play 3=pick 4=window 5=front 6=back 7=made 8=strange 9=letter -/
def t_law_turn (K : PySem.W.Frag) (ca : Nat → Addr) : TS := 
  (tSeq (tAsg (tVar 2) (gUnl K 4 (gCons (gName 4) (gCons (gName 5) (gCons (gName 6) (gCons (gName 7) gNil))))))
    (tSeq (tAsg (rCallG (sp_law_next K ca) E0 (tCons (tVar 0) (tCons (tC (.int 9)) tNil))) (gName 3))
    (tSeq (tIfS (tTest (tOp rEq (tVar 3) (tC (.int 0)))) (tSeq (tAsg (tOp (rIxL K) (tLst (tCons (tC (.str "qq")) (tCons (tC (.str "")) (tCons (tOp rdAddS (tOp (rIxT K) (tOp (rIxT K) (tVar 1) (tC (.int 0))) (tC (.int 0))) (tC (.str "q"))) tNil)))) (rCallG (sp_law_next K ca) E0 (tCons (tVar 0) (tCons (tC (.int 3)) tNil)))) (gName 8))
    (tRet (tOp rEq (rCallG (sp_law_class K ca) E0 (tCons (tC (.int 0)) (tCons (tVar 4) (tCons (tVar 8) tNil)))) (tC (.str "refused"))))) tNext)
    (tSeq (tIfS (tTest (tOp rdLt (tVar 3) (tC (.int 5)))) (tSeq (tAsg (tOp (rIxT K) (tOp (rIxT K) (tVar 1) (tC (.int 0))) (rCallG (sp_law_next K ca) E0 (tCons (tVar 0) (tCons (tCB (rdLen K) (tCons (tOp (rIxT K) (tVar 1) (tC (.int 0))) tNil)) tNil)))) (gName 9))
    (tSeq (tAsg (tOp rdAdd (tVar 7) (tCB rdInt (tCons (tOp rdGt (tCB (rdLen K) (tCons (tVar 6) tNil)) (tC (.int 0))) tNil))) (gSub (tVar 2) (tC (.int 3)) rSetL))
    (tSeq (tAsg (tOp (rCatA K) (tVar 6) (tTup (tCons (tVar 9) tNil))) (gSub (tVar 2) (tC (.int 2)) rSetL))
    (tRet (rCallG (sp_law_same K ca) E0 (tCons (rCallG (sp_law_class K ca) E0 (tCons (tC (.int 0)) (tCons (tVar 4) (tCons (tVar 9) tNil)))) (tCons (tTup (tCons (tC (.str "told")) (tCons (tC .non) tNil))) tNil))))))) tNext)
    (tSeq (tIfS (tTest (tOp rEq (tVar 3) (tC (.int 5)))) (tSeq (tAsg (tOp rdAdd (tVar 7) (tCB rdInt (tCons (tAndV (tOp rdGt (tCB (rdLen K) (tCons (tVar 5) tNil)) (tC (.int 0))) (tOp rdGt (tCB (rdLen K) (tCons (tVar 6) tNil)) (tC (.int 0)))) tNil))) (gSub (tVar 2) (tC (.int 3)) rSetL))
    (tRet (rCallG (sp_law_same K ca) E0 (tCons (tMeth (ca 20) "value" (sp_Window_value K ca) [] E0 (tVar 4) tNil) (tCons (rCallG (sp_law_value K ca) E0 (tCons (tVar 1) (tCons (tOp (rCatA K) (tCB (rdTuple K) (tCons (tVar 5) tNil)) (tCB (rdTuple K) (tCons (tVar 6) tNil))) tNil))) tNil))))) tNext)
    (tSeq (tIfS (tTest (tOp rEq (tOp rdAdd (tCB (rdLen K) (tCons (tVar 5) tNil)) (tCB (rdLen K) (tCons (tVar 6) tNil))) (tC (.int 0)))) (tRet (tOp rEq (rCallG (sp_law_class K ca) E0 (tCons (tC (.int 1)) (tCons (tVar 4) (tCons (tC (.str "")) tNil)))) (tC (.str "missing")))) tNext)
    (tSeq (tIfS (tTest (tOp rEq (tCB (rdLen K) (tCons (tVar 5) tNil)) (tC (.int 0)))) (tSeq (tAsg (tOp rdSub (tOp rdAdd (tVar 7) (tCB (rdLen K) (tCons (tVar 6) tNil))) (tC (.int 1))) (gSub (tVar 2) (tC (.int 3)) rSetL))
    (tPar 5 6 (tCons (tVar 6) (tCons (tTup tNil) tNil)))) tNext)
    (tSeq (tAsg (tTup (tCons (tSl (rSlA K) (tVar 5) (tPart (tC (.int 1))) tNoPart) (tCons (tVar 6) tNil))) (gTup K 2 (gCons (gSub (tVar 2) (tC (.int 1)) rSetL) (gCons (gSub (tVar 2) (tC (.int 2)) rSetL) gNil))))
    (tRet (rCallG (sp_law_same K ca) E0 (tCons (rCallG (sp_law_class K ca) E0 (tCons (tC (.int 1)) (tCons (tVar 4) (tCons (tC (.str "")) tNil)))) (tCons (tTup (tCons (tC (.str "told")) (tCons (tOp (rIxT K) (tVar 5) (tC (.int 0))) tNil))) tNil))))))))))))
theorem sc_law_turn : FnScope ["state", "table", "play", "pick", "window", "front", "back", "made", "strange", "letter"] ["state", "table", "play"] (defScope (topS 27)) := ⟨rfl, rfl, rfl, by decide +kernel, rfl, by decide +kernel, by decide +kernel⟩
theorem body_law_turn (T : Tx w K mg ad fu ca) (F_Window_value : FnOk P w K mg base CX0 3 (ad 2005) (fu 2005) ["self"] (sp_Window_value K ca)) (F_law_class : FnOk P w K mg base CX0 5 (ad 24) (fu 24) ["way", "window", "thing"] (sp_law_class K ca)) (G_law_next : FnG P w K mg base CX0 1 (ad 14) (fu 14) ["state", "many"] (sp_law_next K ca)) (G_law_same : FnG P w K mg base CX0 1 (ad 15) (fu 15) ["told", "due"] (sp_law_same K ca)) (G_law_value : FnG P w K mg base CX0 2 (ad 22) (fu 22) ["table", "log"] (sp_law_value K ca)) : Body P w K mg base 5 "_law_turn" (topS 27) (ad 27) ["state", "table", "play", "pick", "window", "front", "back", "made", "strange", "letter"] (t_law_turn K ca) := by
  intro cdv R out s Hh E gd ro
  have nd := sc_law_turn.nd
  have hu := ro.units0
  have hu65 : R.units + 3 + 65 < cLine := by have := ro.un; show R.units + 3 + 65 < cLine; have e : (R.deeper (envOfC "_law_turn" (defScope (topS 27)) s.heap.objs.size (ad 27) cdv)).units = R.units + 3 := rfl; rw [e] at this; omega
  exact (pss_cons (ps_asg (pv 2) (pg_unl rfl (pgs_cons (pg_name (i := 4) nd rfl (by first | exact Or.inl rfl | exact Or.inr rfl)) (pgs_cons (pg_name (i := 5) nd rfl (by first | exact Or.inl rfl | exact Or.inr rfl)) (pgs_cons (pg_name (i := 6) nd rfl (by first | exact Or.inl rfl | exact Or.inr rfl)) (pgs_cons (pg_name (i := 7) nd rfl (by first | exact Or.inl rfl | exact Or.inr rfl)) pgs_nil))))))
    (pss_cons (ps_set (i := 3) nd rfl (by first | exact Or.inl rfl | exact Or.inr rfl) (pe_callG T.d_law_next G_law_next gd (ro.mono (by decide)) pass0 (pa_cons (pv 0) (pa_cons pe_int pa_nil))))
    (pss_cons (ps_if (pt_cmpR op_eq (pv 3) pe_int (by rfl)) (pss_cons (ps_set (i := 8) nd rfl (by first | exact Or.inl rfl | exact Or.inr rfl) (pe_ix ix_list (pe_lst (pa_cons pe_str (pa_cons pe_str (pa_cons (pe_op op_add_str (pe_ix ix_tup (pe_ix ix_tup (pv 1) pe_int (fun _ _ => rfl)) pe_int (fun _ _ => rfl)) pe_str) pa_nil)))) (pe_callG T.d_law_next G_law_next gd (ro.mono (by decide)) pass0 (pa_cons (pv 0) (pa_cons pe_int pa_nil))) (fun _ _ => rfl)))
    (pss_one (ps_ret (pe_cmpR op_eq (pe_callG T.d_law_class (FnG.of F_law_class) gd (ro.mono (by decide)) pass0 (pa_cons pe_int (pa_cons (pv 4) (pa_cons (pv 8) pa_nil)))) pe_str (by rfl))))) pss_nil)
    (pss_cons (ps_if (pt_cmpR op_lt (pv 3) pe_int (by rfl)) (pss_cons (ps_set (i := 9) nd rfl (by first | exact Or.inl rfl | exact Or.inr rfl) (pe_ix ix_tup (pe_ix ix_tup (pv 1) pe_int (fun _ _ => rfl)) (pe_callG T.d_law_next G_law_next gd (ro.mono (by decide)) pass0 (pa_cons (pv 0) (pa_cons (pe_callB call_len_seq (by rfl) T.b_len (by decide +kernel) (pa_cons (pe_ix ix_tup (pv 1) pe_int (fun _ _ => rfl)) pa_nil)) pa_nil))) (fun _ _ => rfl)))
    (pss_cons (ps_asg (pe_op op_add (pv 7) (pe_callTy call_int1 (by rfl) T.b_int (by decide +kernel) (pa_cons (pe_cmpR op_gt (pe_callB call_len_seq (by rfl) T.b_len (by decide +kernel) (pa_cons (pv 6) pa_nil)) pe_int (by rfl)) pa_nil))) (pg_sub (pv 2) pe_int set_list))
    (pss_cons (ps_asg (pe_op op_catA (pv 6) (pe_tup (pa_cons (pv 9) pa_nil))) (pg_sub (pv 2) pe_int set_list))
    (pss_one (ps_ret (pe_callG T.d_law_same G_law_same gd (ro.mono (by decide)) pass0 (pa_cons (pe_callG T.d_law_class (FnG.of F_law_class) gd (ro.mono (by decide)) pass0 (pa_cons pe_int (pa_cons (pv 4) (pa_cons (pv 9) pa_nil)))) (pa_cons (pe_tup (pa_cons pe_str (pa_cons pe_non pa_nil))) pa_nil)))))))) pss_nil)
    (pss_cons (ps_if (pt_cmpR op_eq (pv 3) pe_int (by rfl)) (pss_cons (ps_asg (pe_op op_add (pv 7) (pe_callTy call_int1 (by rfl) T.b_int (by decide +kernel) (pa_cons (pe_and (pe_cmpR op_gt (pe_callB call_len_seq (by rfl) T.b_len (by decide +kernel) (pa_cons (pv 5) pa_nil)) pe_int (by rfl)) (pe_one (pe_cmpR op_gt (pe_callB call_len_seq (by rfl) T.b_len (by decide +kernel) (pa_cons (pv 6) pa_nil)) pe_int (by rfl)))) pa_nil))) (pg_sub (pv 2) pe_int set_list))
    (pss_one (ps_ret (pe_callG T.d_law_same G_law_same gd (ro.mono (by decide)) pass0 (pa_cons (pe_meth0 (pv 4) T.c_Window T.m_Window_value F_Window_value (ro.mono (by decide)) T.bi_Window_value .nil pass0) (pa_cons (pe_callG T.d_law_value G_law_value gd (ro.mono (by decide)) pass0 (pa_cons (pv 1) (pa_cons (pe_op op_catA (pe_callTy call_tuple_of (by rfl) T.b_tuple (by decide +kernel) (pa_cons (pv 5) pa_nil)) (pe_callTy call_tuple_of (by rfl) T.b_tuple (by decide +kernel) (pa_cons (pv 6) pa_nil))) pa_nil))) pa_nil)))))) pss_nil)
    (pss_cons (ps_if (pt_cmpR op_eq (pe_op op_add (pe_callB call_len_seq (by rfl) T.b_len (by decide +kernel) (pa_cons (pv 5) pa_nil)) (pe_callB call_len_seq (by rfl) T.b_len (by decide +kernel) (pa_cons (pv 6) pa_nil))) pe_int (by rfl)) (pss_one (ps_ret (pe_cmpR op_eq (pe_callG T.d_law_class (FnG.of F_law_class) gd (ro.mono (by decide)) pass0 (pa_cons pe_int (pa_cons (pv 4) (pa_cons pe_str pa_nil)))) pe_str (by rfl)))) pss_nil)
    (pss_cons (ps_if (pt_cmpR op_eq (pe_callB call_len_seq (by rfl) T.b_len (by decide +kernel) (pa_cons (pv 5) pa_nil)) pe_int (by rfl)) (pss_cons (ps_asg (pe_op op_sub (pe_op op_add (pv 7) (pe_callB call_len_seq (by rfl) T.b_len (by decide +kernel) (pa_cons (pv 6) pa_nil))) pe_int) (pg_sub (pv 2) pe_int set_list))
    (pss_one (ps_par (i := 5) (j := 6) rfl nd rfl rfl (by decide) rfl rfl (pa_cons (pv 6) (pa_cons (pe_tup pa_nil) pa_nil)) (by rfl)))) pss_nil)
    (pss_cons (ps_asg (pe_tup (pa_cons (pe_slice sl_tupA (pv 5) (po_some pe_int) po_none) (pa_cons (pv 6) pa_nil))) (pg_tup rfl (pgs_cons (pg_sub (pv 2) pe_int set_list) (pgs_cons (pg_sub (pv 2) pe_int set_list) pgs_nil))))
    (pss_one (ps_ret (pe_callG T.d_law_same G_law_same gd (ro.mono (by decide)) pass0 (pa_cons (pe_callG T.d_law_class (FnG.of F_law_class) gd (ro.mono (by decide)) pass0 (pa_cons pe_int (pa_cons (pv 4) (pa_cons pe_str pa_nil)))) (pa_cons (pe_tup (pa_cons pe_str (pa_cons (pe_ix ix_tup (pv 5) pe_int (fun _ _ => rfl)) pa_nil))) pa_nil)))))))))))))
/-! _law_costs : slots 0=moves 1=found 2=move 3=front 4=back 5=cost -/
def t_law_costs (K : PySem.W.Frag) (ca : Nat → Addr) : TS := 
  (tSeq (tAsg (tTup (tCons (tC (.int 0)) (tCons (tC (.int 0)) tNil))) (gTup K 2 (gCons (gName 3) (gCons (gName 4) gNil))))
    (tSeq (tAsg (tLst tNil) (gName 1))
    (tSeq (tFor (iList K (tVar 0)) (gName 2)
    (tSeq (tIfS (tTest (tOp (rIn K true) (tVar 2) (tLst (tCons (tC (.str "in")) (tCons (tC (.str "out")) (tCons (tC (.str "ask")) tNil)))))) (tRet (tC (.str "refused"))) tNext)
    (tSeq (tAsg (tCB rdInt (tCons (tAndV (tOp rdGt (tVar 3) (tC (.int 0))) (tOp rdGt (tVar 4) (tC (.int 0)))) tNil)) (gName 5))
    (tSeq (tIfS (tTest (tOp rEq (tVar 2) (tC (.str "in")))) (tSeq (tAsg (tCB rdInt (tCons (tOp rdGt (tVar 4) (tC (.int 0))) tNil)) (gName 5))
    (tAsg (tOp rdAdd (tVar 4) (tC (.int 1))) (gName 4))) tNext)
    (tSeq (tIfS (tTest (tOp rEq (tVar 2) (tC (.str "out")))) (tSeq (tIfS (tTest (tOp rEq (tOp rdAdd (tVar 3) (tVar 4)) (tC (.int 0)))) (tRet (tC (.str "missing"))) tNext)
    (tSeq (tAsg (tC (.int 0)) (gName 5))
    (tSeq (tIfS (tTest (tOp rEq (tVar 3) (tC (.int 0)))) (tSeq (tAsg (tOp rdSub (tVar 4) (tC (.int 1))) (gName 5))
    (tPar 3 4 (tCons (tVar 4) (tCons (tC (.int 0)) tNil)))) tNext)
    (tAsg (tOp rdSub (tVar 3) (tC (.int 1))) (gName 3))))) tNext)
    (tDrop (tBM K "list" rAppend (tVar 1) (tCons (tVar 5) tNil))))))))
    (tRet (tTup (tCons (tC (.str "told")) (tCons (tCB (rdTuple K) (tCons (tVar 1) tNil)) tNil)))))))
theorem sc_law_costs : FnScope ["moves", "found", "move", "front", "back", "cost"] ["moves"] (defScope (topS 28)) := ⟨rfl, rfl, rfl, by decide +kernel, rfl, by decide +kernel, by decide +kernel⟩
theorem body_law_costs (T : Tx w K mg ad fu ca) : Body P w K mg base 0 "_law_costs" (topS 28) (ad 28) ["moves", "found", "move", "front", "back", "cost"] (t_law_costs K ca) := by
  intro cdv R out s Hh E gd ro
  have nd := sc_law_costs.nd
  have hu := ro.units0
  have hu65 : R.units + 3 + 65 < cLine := by have := ro.un; show R.units + 3 + 65 < cLine; have e : (R.deeper (envOfC "_law_costs" (defScope (topS 28)) s.heap.objs.size (ad 28) cdv)).units = R.units + 3 := rfl; rw [e] at this; omega
  exact (pss_cons (ps_asg (pe_tup (pa_cons pe_int (pa_cons pe_int pa_nil))) (pg_tup rfl (pgs_cons (pg_name (i := 3) nd rfl (by first | exact Or.inl rfl | exact Or.inr rfl)) (pgs_cons (pg_name (i := 4) nd rfl (by first | exact Or.inl rfl | exact Or.inr rfl)) pgs_nil))))
    (pss_cons (ps_set (i := 1) nd rfl (by first | exact Or.inl rfl | exact Or.inr rfl) (pe_lst pa_nil))
    (pss_cons (ps_for PassesOwn.never rfl (pi_list (pv 0)) (pg_name (i := 2) nd rfl (by first | exact Or.inl rfl | exact Or.inr rfl))
    (pss_cons (ps_if (pt_cmpR op_notIn_seq (pv 2) (pe_lst (pa_cons pe_str (pa_cons pe_str (pa_cons pe_str pa_nil)))) (by rfl)) (pss_one (ps_ret pe_str)) pss_nil)
    (pss_cons (ps_set (i := 5) nd rfl (by first | exact Or.inl rfl | exact Or.inr rfl) (pe_callTy call_int1 (by rfl) T.b_int (by decide +kernel) (pa_cons (pe_and (pe_cmpR op_gt (pv 3) pe_int (by rfl)) (pe_one (pe_cmpR op_gt (pv 4) pe_int (by rfl)))) pa_nil)))
    (pss_cons (ps_if (pt_cmpR op_eq (pv 2) pe_str (by rfl)) (pss_cons (ps_set (i := 5) nd rfl (by first | exact Or.inl rfl | exact Or.inr rfl) (pe_callTy call_int1 (by rfl) T.b_int (by decide +kernel) (pa_cons (pe_cmpR op_gt (pv 4) pe_int (by rfl)) pa_nil)))
    (pss_one (ps_set (i := 4) nd rfl (by first | exact Or.inl rfl | exact Or.inr rfl) (pe_op op_add (pv 4) pe_int)))) pss_nil)
    (pss_cons (ps_if (pt_cmpR op_eq (pv 2) pe_str (by rfl)) (pss_cons (ps_if (pt_cmpR op_eq (pe_op op_add (pv 3) (pv 4)) pe_int (by rfl)) (pss_one (ps_ret pe_str)) pss_nil)
    (pss_cons (ps_set (i := 5) nd rfl (by first | exact Or.inl rfl | exact Or.inr rfl) pe_int)
    (pss_cons (ps_if (pt_cmpR op_eq (pv 3) pe_int (by rfl)) (pss_cons (ps_set (i := 5) nd rfl (by first | exact Or.inl rfl | exact Or.inr rfl) (pe_op op_sub (pv 4) pe_int))
    (pss_one (ps_par (i := 3) (j := 4) rfl nd rfl rfl (by decide) rfl rfl (pa_cons (pv 4) (pa_cons pe_int pa_nil)) (by rfl)))) pss_nil)
    (pss_one (ps_set (i := 3) nd rfl (by first | exact Or.inl rfl | exact Or.inr rfl) (pe_op op_sub (pv 3) pe_int)))))) pss_nil)
    (pss_one (ps_expr (pe_bm PySem.F.plainAttrs_list PySem.F.slot_list_append PySem.F.type_list_append mt_append (pv 1) (pa_cons (pv 5) pa_nil)))))))))
    (pss_one (ps_ret (pe_tup (pa_cons pe_str (pa_cons (pe_callTy call_tuple_of (by rfl) T.b_tuple (by decide +kernel) (pa_cons (pv 1) pa_nil)) pa_nil))))))))
/-! _law_counted : slots 0=state 1=moves 2=k 3=kept 4=due 5=ins 6=at 7=move -/
def t_law_counted (K : PySem.W.Frag) (ca : Nat → Addr) : TS := 
  (tSeq (tAsg (tLst tNil) (gName 1))
    (tSeq (tFor (iRng1 (tCons (rCallG (sp_law_next K ca) E0 (tCons (tVar 0) (tCons (tC (.int 60)) tNil))) tNil)) (gName 2)
    (tDrop (tBM K "list" rAppend (tVar 1) (tCons (tOp (rIxL K) (tLst (tCons (tC (.str "in")) (tCons (tC (.str "in")) (tCons (tC (.str "out")) (tCons (tC (.str "ask")) tNil))))) (rCallG (sp_law_next K ca) E0 (tCons (tVar 0) (tCons (tC (.int 4)) tNil)))) tNil))))
    (tSeq (tIfS (tTest (tOp rEq (rCallG (sp_law_next K ca) E0 (tCons (tVar 0) (tCons (tC (.int 4)) tNil))) (tC (.int 0)))) (tSeq (tAsg (rCallG (sp_law_next K ca) E0 (tCons (tVar 0) (tCons (tOp rdAdd (tCB (rdLen K) (tCons (tVar 1) tNil)) (tC (.int 1))) tNil))) (gName 6))
    (tAsg (tOp rCat (tOp rCat (tSl (rSlL K) (tVar 1) tNoPart (tPart (tVar 6))) (tLst (tCons (tOp (rIxL K) (tLst (tCons (tC (.str "In")) (tCons (tC (.str "")) (tCons (tC (.str "into")) (tCons (tC (.str "out ")) tNil))))) (rCallG (sp_law_next K ca) E0 (tCons (tVar 0) (tCons (tC (.int 4)) tNil)))) tNil))) (tSl (rSlL K) (tVar 1) (tPart (tVar 6)) tNoPart)) (gName 1))) tNext)
    (tSeq (tAsg (tCB (rReprD K) (tCons (tVar 1) tNil)) (gName 3))
    (tSeq (tAsg (rCallG (sp_law_costs K ca) E0 (tCons (tVar 1) tNil)) (gName 4))
    (tSeq (tIfS (tOr (tNot (tB (rCallG (sp_law_same K ca) E0 (tCons (rCallG (sp_law_class K ca) E0 (tCons (tC (.int 2)) (tCons (tC .non) (tCons (tVar 1) tNil)))) (tCons (tVar 4) tNil))))) (tTest (tOp rNe (tCB (rReprD K) (tCons (tVar 1) tNil)) (tVar 3)))) (tRet (tC (.bl false))) tNext)
    (tSeq (tAsg (tCB (rdLen K) (tCons (tLc (iList K (tVar 1)) (gName 7) (tTest (tOp rEq (tVar 7) (tC (.str "in")))) (tVar 7) [7]) tNil)) (gName 5))
    (tRet (tOrV (tCB (rIsi K) (tCons (tVar 4) (tCons (tC (.ty "str")) tNil))) (tOp rdLe (tCB (rSumT K) (tCons (tOp (rIxT K) (tVar 4) (tC (.int 1))) tNil)) (tOp rdAdd (tOp rdMul (tC (.int 2)) (tVar 5)) (tCB (rdLen K) (tCons (tLc (iList K (tVar 1)) (gName 7) (tTest (tOp rEq (tVar 7) (tC (.str "ask")))) (tVar 7) [7]) tNil)))))))))))))
theorem sc_law_counted : FnScope ["state", "moves", "k", "kept", "due", "ins", "at", "move"] ["state"] (defScope (topS 29)) := ⟨rfl, rfl, rfl, by decide +kernel, rfl, by decide +kernel, by decide +kernel⟩
theorem body_law_counted (T : Tx w K mg ad fu ca) (F_law_class : FnOk P w K mg base CX0 5 (ad 24) (fu 24) ["way", "window", "thing"] (sp_law_class K ca)) (G_law_costs : FnG P w K mg base CX0 1 (ad 28) (fu 28) ["moves"] (sp_law_costs K ca)) (G_law_next : FnG P w K mg base CX0 1 (ad 14) (fu 14) ["state", "many"] (sp_law_next K ca)) (G_law_same : FnG P w K mg base CX0 1 (ad 15) (fu 15) ["told", "due"] (sp_law_same K ca)) : Body P w K mg base 5 "_law_counted" (topS 29) (ad 29) ["state", "moves", "k", "kept", "due", "ins", "at", "move"] (t_law_counted K ca) := by
  intro cdv R out s Hh E gd ro
  have nd := sc_law_counted.nd
  have hu := ro.units0
  have hu65 : R.units + 3 + 65 < cLine := by have := ro.un; show R.units + 3 + 65 < cLine; have e : (R.deeper (envOfC "_law_counted" (defScope (topS 29)) s.heap.objs.size (ad 29) cdv)).units = R.units + 3 := rfl; rw [e] at this; omega
  exact (pss_cons (ps_set (i := 1) nd rfl (by first | exact Or.inl rfl | exact Or.inr rfl) (pe_lst pa_nil))
    (pss_cons (ps_for PassesOwn.never rfl (pi_range1 (by rfl) T.b_range (pa_cons (pe_callG T.d_law_next G_law_next gd (ro.mono (by decide)) pass0 (pa_cons (pv 0) (pa_cons pe_int pa_nil))) pa_nil)) (pg_name (i := 2) nd rfl (by first | exact Or.inl rfl | exact Or.inr rfl))
    (pss_one (ps_expr (pe_bm PySem.F.plainAttrs_list PySem.F.slot_list_append PySem.F.type_list_append mt_append (pv 1) (pa_cons (pe_ix ix_list (pe_lst (pa_cons pe_str (pa_cons pe_str (pa_cons pe_str (pa_cons pe_str pa_nil))))) (pe_callG T.d_law_next G_law_next gd (ro.mono (by decide)) pass0 (pa_cons (pv 0) (pa_cons pe_int pa_nil))) (fun _ _ => rfl)) pa_nil)))))
    (pss_cons (ps_if (pt_cmpR op_eq (pe_callG T.d_law_next G_law_next gd (ro.mono (by decide)) pass0 (pa_cons (pv 0) (pa_cons pe_int pa_nil))) pe_int (by rfl)) (pss_cons (ps_set (i := 6) nd rfl (by first | exact Or.inl rfl | exact Or.inr rfl) (pe_callG T.d_law_next G_law_next gd (ro.mono (by decide)) pass0 (pa_cons (pv 0) (pa_cons (pe_op op_add (pe_callB call_len_seq (by rfl) T.b_len (by decide +kernel) (pa_cons (pv 1) pa_nil)) pe_int) pa_nil))))
    (pss_one (ps_set (i := 1) nd rfl (by first | exact Or.inl rfl | exact Or.inr rfl) (pe_op op_cat (pe_op op_cat (pe_slice sl_list (pv 1) po_none (po_some (pv 6))) (pe_lst (pa_cons (pe_ix ix_list (pe_lst (pa_cons pe_str (pa_cons pe_str (pa_cons pe_str (pa_cons pe_str pa_nil))))) (pe_callG T.d_law_next G_law_next gd (ro.mono (by decide)) pass0 (pa_cons (pv 0) (pa_cons pe_int pa_nil))) (fun _ _ => rfl)) pa_nil))) (pe_slice sl_list (pv 1) (po_some (pv 6)) po_none))))) pss_nil)
    (pss_cons (ps_set (i := 3) nd rfl (by first | exact Or.inl rfl | exact Or.inr rfl) (pe_callB (call_reprD gd (hu64 ro)) (by rfl) T.b_repr (by decide +kernel) (pa_cons (pv 1) pa_nil)))
    (pss_cons (ps_set (i := 4) nd rfl (by first | exact Or.inl rfl | exact Or.inr rfl) (pe_callG T.d_law_costs G_law_costs gd (ro.mono (by decide)) pass0 (pa_cons (pv 1) pa_nil)))
    (pss_cons (ps_if (PW.pt (pw_or (pt_not (pt_val (pe_callG T.d_law_same G_law_same gd (ro.mono (by decide)) pass0 (pa_cons (pe_callG T.d_law_class (FnG.of F_law_class) gd (ro.mono (by decide)) pass0 (pa_cons pe_int (pa_cons pe_non (pa_cons (pv 1) pa_nil)))) (pa_cons (pv 4) pa_nil))))) (pw_or1 (pt_cmpR op_ne (pe_callB (call_reprD gd (hu64 ro)) (by rfl) T.b_repr (by decide +kernel) (pa_cons (pv 1) pa_nil)) (pv 3) (by rfl))))) (pss_one (ps_ret pe_bl)) pss_nil)
    (pss_cons (ps_set (i := 5) nd rfl (by first | exact Or.inl rfl | exact Or.inr rfl) (pe_callB call_len_seq (by rfl) T.b_len (by decide +kernel) (pa_cons (pe_lc (own := [("move", 7)]) rfl nd (pi_list (pv 1)) (blkOk_by (own := [("move", 7)]) (N := ["state", "moves", "k", "kept", "due", "ins", "at", "move"]) (sc := defScope (topS 29)) (by decide +kernel)) (fun _ _ _ _ _ => (pg_name (i := 7) nd rfl (by first | exact Or.inl rfl | exact Or.inr rfl))) (fun _ _ _ _ _ => (pts_one (pt_cmpR op_eq (pv 7) pe_str (by rfl)))) (fun _ _ _ _ _ => (pv 7))) pa_nil)))
    (pss_one (ps_ret (pe_or (pe_callB call_isi (by rfl) T.b_isinstance (by decide +kernel) (pa_cons (pv 4) (pa_cons (pe_bltn (v := .ty "str") (by rfl) T.b_str (by decide +kernel) rfl) pa_nil))) (pe_one (pe_cmpR op_le (pe_callB (cr_sumT rfl) (by rfl) T.b_sum (by decide +kernel) (pa_cons (pe_ix ix_tup (pv 4) pe_int (fun _ _ => rfl)) pa_nil)) (pe_op op_add (pe_op op_mul pe_int (pv 5)) (pe_callB call_len_seq (by rfl) T.b_len (by decide +kernel) (pa_cons (pe_lc (own := [("move", 7)]) rfl nd (pi_list (pv 1)) (blkOk_by (own := [("move", 7)]) (N := ["state", "moves", "k", "kept", "due", "ins", "at", "move"]) (sc := defScope (topS 29)) (by decide +kernel)) (fun _ _ _ _ _ => (pg_name (i := 7) nd rfl (by first | exact Or.inl rfl | exact Or.inr rfl))) (fun _ _ _ _ _ => (pts_one (pt_cmpR op_eq (pv 7) pe_str (by rfl)))) (fun _ _ _ _ _ => (pv 7))) pa_nil))) (by rfl)))))))))))))
/-! law : slots 0=script 1=state 2=tables 3=kept 4=plays 5=many 6=turn 7=k -/
def t_law (K : PySem.W.Frag) (ca : Nat → Addr) : TS := 
  (tSeq (tAsg (tLst (tCons (rCallG (sp_law_stream K ca) E0 (tCons (tVar 0) tNil)) (tCons (tC (.int 0)) tNil))) (gName 1))
    (tSeq (tAsg (tLst (tCons (rCallG (sp_law_table K ca) E0 (tCons (tVar 1) tNil)) (tCons (rCallG (sp_law_table K ca) E0 (tCons (tVar 1) tNil)) tNil))) (gName 2))
    (tSeq (tAsg (tCB (rReprD K) (tCons (tVar 2) tNil)) (gName 3))
    (tSeq (tAsg (tLc (iRng1 (tCons (tC (.int 2)) tNil)) (gName 7) tYes (tLst (tCons (tMake (ca 20) (sp_Window_init K ca) [] E0 (tCons (tOp (rIxL K) (tVar 2) (tVar 7)) tNil)) (tCons (tTup tNil) (tCons (tTup tNil) (tCons (tC (.int 0)) tNil))))) [7]) (gName 4))
    (tSeq (tAsg (tOp (rIxL K) (tLst (tCons (tC (.int 120)) (tCons (tC (.int 1500)) tNil))) (tCB rdInt (tCons (tOp rEq (rCallG (sp_law_next K ca) E0 (tCons (tVar 1) (tCons (tC (.int 12)) tNil))) (tC (.int 0))) tNil))) (gName 5))
    (tSeq (tFor (iRng1 (tCons (tVar 5) tNil)) (gName 6)
    (tSeq (tAsg (tOp rdMod (tCB rdInt (tCons (tVar 6) tNil)) (tC (.int 2))) (gName 7))
    (tSeq (tIfS (tNot (tB (rCallG (sp_law_turn K ca) E0 (tCons (tVar 1) (tCons (tOp (rIxL K) (tVar 2) (tVar 7)) (tCons (tOp (rIxL K) (tVar 4) (tVar 7)) tNil)))))) (tRet (tC (.bl false))) tNext)
    (tIfS (tAnd (tOr (tTest (tOp rdLt (tVar 5) (tC (.int 200)))) (tOr (tTest (tOp rdLt (tOp rdMod (tVar 6) (tC (.int 100))) (tC (.int 2)))) (tTest (tOp rdGt (tVar 6) (tOp rdSub (tVar 5) (tC (.int 3))))))) (tNot (tB (rCallG (sp_law_stands K ca) E0 (tCons (tOp (rIxL K) (tVar 2) (tVar 7)) (tCons (tOp (rIxL K) (tVar 4) (tVar 7)) tNil)))))) (tRet (tC (.bl false))) tNext))))
    (tSeq (tIfS (tOr (tNot (tB (rCallG (sp_law_same K ca) E0 (tCons (tMeth (ca 20) "value" (sp_Window_value K ca) [] E0 (tMake (ca 20) (sp_Window_init K ca) [] E0 (tCons (tOp (rIxL K) (tVar 2) (tC (.int 0))) tNil)) tNil) (tCons (tUn (rU fun i => .int (-i)) (tC (.int 1))) tNil))))) (tNot (tB (tCB (rAll K) (tCons (tLc (iRng1 (tCons (tC (.int 3)) tNil)) (gName 7) tYes (rCallG (sp_law_counted K ca) E0 (tCons (tVar 1) tNil)) [7]) tNil))))) (tRet (tC (.bl false))) tNext)
    (tRet (tAndV (tOp rEq (tCB (rReprD K) (tCons (tVar 2) tNil)) (tVar 3)) (tOp (rEqD K) (tC (.ref (ca 0))) (tTup (tCons (tC (.str "in")) (tCons (tC (.str "out")) (tCons (tC (.str "ask")) tNil))))))))))))))
theorem sc_law : FnScope ["script", "state", "tables", "kept", "plays", "many", "turn", "k"] ["script"] (defScope (topS 30)) := ⟨rfl, rfl, rfl, by decide +kernel, rfl, by decide +kernel, by decide +kernel⟩
theorem body_law (T : Tx w K mg ad fu ca) (F_Window_init : FnOk P w K mg base CX0 1 (ad 2000) (fu 2000) ["self", "table"] (sp_Window_init K ca)) (F_Window_value : FnOk P w K mg base CX0 3 (ad 2005) (fu 2005) ["self"] (sp_Window_value K ca)) (G_law_counted : FnG P w K mg base CX0 6 (ad 29) (fu 29) ["state"] (sp_law_counted K ca)) (G_law_next : FnG P w K mg base CX0 1 (ad 14) (fu 14) ["state", "many"] (sp_law_next K ca)) (G_law_same : FnG P w K mg base CX0 1 (ad 15) (fu 15) ["told", "due"] (sp_law_same K ca)) (G_law_stands : FnG P w K mg base CX0 4 (ad 26) (fu 26) ["table", "play"] (sp_law_stands K ca)) (G_law_stream : FnG P w K mg base CX0 1 (ad 13) (fu 13) ["script"] (sp_law_stream K ca)) (G_law_table : FnG P w K mg base CX0 4 (ad 20) (fu 20) ["state"] (sp_law_table K ca)) (G_law_turn : FnG P w K mg base CX0 6 (ad 27) (fu 27) ["state", "table", "play"] (sp_law_turn K ca)) : Body P w K mg base 6 "law" (topS 30) (ad 30) ["script", "state", "tables", "kept", "plays", "many", "turn", "k"] (t_law K ca) := by
  intro cdv R out s Hh E gd ro
  have nd := sc_law.nd
  have hu := ro.units0
  have hu65 : R.units + 3 + 65 < cLine := by have := ro.un; show R.units + 3 + 65 < cLine; have e : (R.deeper (envOfC "law" (defScope (topS 30)) s.heap.objs.size (ad 30) cdv)).units = R.units + 3 := rfl; rw [e] at this; omega
  exact (pss_cons (ps_set (i := 1) nd rfl (by first | exact Or.inl rfl | exact Or.inr rfl) (pe_lst (pa_cons (pe_callG T.d_law_stream G_law_stream gd (ro.mono (by decide)) pass0 (pa_cons (pv 0) pa_nil)) (pa_cons pe_int pa_nil))))
    (pss_cons (ps_set (i := 2) nd rfl (by first | exact Or.inl rfl | exact Or.inr rfl) (pe_lst (pa_cons (pe_callG T.d_law_table G_law_table gd (ro.mono (by decide)) pass0 (pa_cons (pv 1) pa_nil)) (pa_cons (pe_callG T.d_law_table G_law_table gd (ro.mono (by decide)) pass0 (pa_cons (pv 1) pa_nil)) pa_nil))))
    (pss_cons (ps_set (i := 3) nd rfl (by first | exact Or.inl rfl | exact Or.inr rfl) (pe_callB (call_reprD gd (hu64 ro)) (by rfl) T.b_repr (by decide +kernel) (pa_cons (pv 2) pa_nil)))
    (pss_cons (ps_setLc (i := 4) (own := [("k", 7)]) rfl nd rfl rfl (sw_true rfl rfl rfl (by decide +kernel)) (pi_range1 (by rfl) T.b_range (pa_cons pe_int pa_nil)) (blkOk_by (own := [("k", 7)]) (N := ["script", "state", "tables", "kept", "plays", "many", "turn", "k"]) (sc := defScope (topS 30)) (by decide +kernel)) (fun _ _ _ _ _ => (pg_name (i := 7) nd rfl (by first | exact Or.inl rfl | exact Or.inr rfl))) (fun _ _ _ _ _ => pts_nil) (fun _ _ _ _ _ => (pe_lst (pa_cons (pe_make T.mk_Window F_Window_init (ro.mono (by decide)) (by rfl) T.gc_Window T.bi_Window_init .nil pass0 (pa_cons (pe_ix ix_list (pv 2) (pv 7) (fun _ _ => rfl)) pa_nil)) (pa_cons (pe_tup pa_nil) (pa_cons (pe_tup pa_nil) (pa_cons pe_int pa_nil)))))))
    (pss_cons (ps_set (i := 5) nd rfl (by first | exact Or.inl rfl | exact Or.inr rfl) (pe_ix ix_list (pe_lst (pa_cons pe_int (pa_cons pe_int pa_nil))) (pe_callTy call_int1 (by rfl) T.b_int (by decide +kernel) (pa_cons (pe_cmpR op_eq (pe_callG T.d_law_next G_law_next gd (ro.mono (by decide)) pass0 (pa_cons (pv 1) (pa_cons pe_int pa_nil))) pe_int (by rfl)) pa_nil)) (fun _ _ => rfl)))
    (pss_cons (ps_for PassesOwn.never rfl (pi_range1 (by rfl) T.b_range (pa_cons (pv 5) pa_nil)) (pg_name (i := 6) nd rfl (by first | exact Or.inl rfl | exact Or.inr rfl))
    (pss_cons (ps_set (i := 7) nd rfl (by first | exact Or.inl rfl | exact Or.inr rfl) (pe_op op_mod (pe_callTy call_int1 (by rfl) T.b_int (by decide +kernel) (pa_cons (pv 6) pa_nil)) pe_int))
    (pss_cons (ps_if (pt_not (pt_val (pe_callG T.d_law_turn G_law_turn gd (ro.mono (by decide)) pass0 (pa_cons (pv 1) (pa_cons (pe_ix ix_list (pv 2) (pv 7) (fun _ _ => rfl)) (pa_cons (pe_ix ix_list (pv 4) (pv 7) (fun _ _ => rfl)) pa_nil)))))) (pss_one (ps_ret pe_bl)) pss_nil)
    (pss_one (ps_if (PW.pt (pw_and (PW.pt (pw_or (pt_cmpR op_lt (pv 5) pe_int (by rfl)) (pw_or (pt_cmpR op_lt (pe_op op_mod (pv 6) pe_int) pe_int (by rfl)) (pw_or1 (pt_cmpR op_gt (pv 6) (pe_op op_sub (pv 5) pe_int) (by rfl)))))) (pw_and1 (pt_not (pt_val (pe_callG T.d_law_stands G_law_stands gd (ro.mono (by decide)) pass0 (pa_cons (pe_ix ix_list (pv 2) (pv 7) (fun _ _ => rfl)) (pa_cons (pe_ix ix_list (pv 4) (pv 7) (fun _ _ => rfl)) pa_nil)))))))) (pss_one (ps_ret pe_bl)) pss_nil)))))
    (pss_cons (ps_if (PW.pt (pw_or (pt_not (pt_val (pe_callG T.d_law_same G_law_same gd (ro.mono (by decide)) pass0 (pa_cons (pe_meth0 (pe_make T.mk_Window F_Window_init (ro.mono (by decide)) (by rfl) T.gc_Window T.bi_Window_init .nil pass0 (pa_cons (pe_ix ix_list (pv 2) pe_int (fun _ _ => rfl)) pa_nil)) T.c_Window T.m_Window_value F_Window_value (ro.mono (by decide)) T.bi_Window_value .nil pass0) (pa_cons (pe_un un_neg pe_int) pa_nil))))) (pw_or1 (pt_not (pt_val (pe_callB (cr_all rfl) (by rfl) T.b_all (by decide +kernel) (pa_cons (pe_lc (own := [("k", 7)]) rfl nd (pi_range1 (by rfl) T.b_range (pa_cons pe_int pa_nil)) (blkOk_by (own := [("k", 7)]) (N := ["script", "state", "tables", "kept", "plays", "many", "turn", "k"]) (sc := defScope (topS 30)) (by decide +kernel)) (fun _ _ _ _ _ => (pg_name (i := 7) nd rfl (by first | exact Or.inl rfl | exact Or.inr rfl))) (fun _ _ _ _ _ => pts_nil) (fun _ _ _ _ _ => (pe_callG T.d_law_counted G_law_counted gd (ro.mono (by decide)) pass0 (pa_cons (pv 1) pa_nil)))) pa_nil))))))) (pss_one (ps_ret pe_bl)) pss_nil)
    (pss_one (ps_ret (pe_and (pe_cmpR op_eq (pe_callB (call_reprD gd (hu64 ro)) (by rfl) T.b_repr (by decide +kernel) (pa_cons (pv 2) pa_nil)) (pv 3) (by rfl)) (pe_one (pe_cmpR (op_eqD (hu64 ro)) (pe_globE (by rfl) T.g_MOVES) (pe_tup (pa_cons pe_str (pa_cons pe_str (pa_cons pe_str pa_nil)))) (by rfl)))))))))))))
end
end K92
namespace K92
open PySem PySem.Spec PyProof.Rows L2 Sf
theorem snoc_rec {α : Type} {P : List α → Prop} (h0 : P []) (h1 : ∀ l x, P l → P (l ++ [x])) (l : List α) : P l := by
  have : ∀ l : List α, P l.reverse := by
    intro l
    induction l with
    | nil => exact h0
    | cons a r ih => rw [List.reverse_cons]; exact h1 _ _ ih
  have := this l.reverse
  rwa [List.reverse_reverse] at this
section
variable {t : Tb} {a b c : Int} {x y : Str} {l r : List Str}
theorem mul_l (h : a < 0) : t.mul a b = b := if_pos h
theorem mul_r (h : 0 ≤ a) (h2 : b < 0) : t.mul a b = a := by
  unfold Tb.mul
  rw [if_neg (by omega), if_pos h2]
theorem mul_in (h : 0 ≤ a) (h2 : 0 ≤ b) : t.mul a b = (t.Ps.getD a.toNat []).getD b.toNat 0 := by
  unfold Tb.mul
  rw [if_neg (by omega), if_neg (by omega)]
theorem row_at (g : t.Good) (h : 0 ≤ a) (h2 : a < t.n) : ∃ q, t.Ps[a.toNat]? = some q ∧ q ∈ t.Ps ∧ q.length = t.n ∧ ∀ x ∈ q, 0 ≤ x ∧ x < t.n := by
  have hl : a.toNat < t.Ps.length := by unfold Tb.n at h2; omega
  refine ⟨t.Ps[a.toNat], List.getElem?_eq_getElem hl, List.getElem_mem hl, ?_⟩
  exact g.row _ (List.getElem_mem hl)
theorem mul_at (g : t.Good) (h : 0 ≤ a) (h2 : a < t.n) (h3 : 0 ≤ b) (h4 : b < t.n) : ∃ q, t.Ps[a.toNat]? = some q ∧ q[b.toNat]? = some (t.mul a b) ∧ 0 ≤ t.mul a b ∧ t.mul a b < t.n := by
  obtain ⟨q, e, _, hl, hr⟩ := row_at g h h2
  have hb : b.toNat < q.length := by omega
  have e2 : t.mul a b = q[b.toNat] := by
    rw [mul_in h h3]
    simp only [List.getD_eq_getElem?_getD, e, Option.getD_some, List.getElem?_eq_getElem hb]
  refine ⟨q, e, by rw [e2]; exact List.getElem?_eq_getElem hb, ?_, ?_⟩
  · rw [e2]; exact (hr _ (List.getElem_mem hb)).1
  · rw [e2]; exact (hr _ (List.getElem_mem hb)).2
theorem mul_R (g : t.Good) (ha : inR t.n a) (hb : inR t.n b) : inR t.n (t.mul a b) := by
  by_cases h : a < 0
  · rw [mul_l h]; exact hb
  · by_cases h2 : b < 0
    · rw [mul_r (by omega) h2]; exact ha
    · obtain ⟨q, _, _, h3, h4⟩ := mul_at g (by omega) ha.2 (by omega) hb.2
      exact ⟨by omega, h4⟩
theorem mul_pos (g : t.Good) (ha : 0 ≤ a) (ha2 : a < t.n) (hb : inR t.n b) : 0 ≤ t.mul a b := by
  by_cases h2 : b < 0
  · rw [mul_r ha h2]; exact ha
  · exact (mul_at g ha ha2 (by omega) hb.2).choose_spec.2.2.1
theorem mul_as (g : t.Good) (ha : inR t.n a) (hb : inR t.n b) (hc : inR t.n c) : t.mul (t.mul a b) c = t.mul a (t.mul b c) := by
  by_cases h : a < 0
  · rw [mul_l h, mul_l h]
  · by_cases h2 : b < 0
    · rw [mul_r (by omega) h2, mul_l h2]
    · by_cases h3 : c < 0
      · have := mul_pos g (by omega) ha.2 hb
        rw [mul_r this h3, mul_r (a := b) (by omega) h3]
      · exact g.as a b c (by omega) ha.2 (by omega) hb.2 (by omega) hc.2
theorem val_at (g : t.Good) (h : x ∈ t.L) : t.Vs[t.L.idxOf x]? = some (t.val x) := by
  have hl : t.L.idxOf x < t.Vs.length := by rw [g.lv]; exact List.idxOf_lt_length_iff.mpr h
  unfold Tb.val
  rw [List.getD_eq_getElem?_getD, List.getElem?_eq_getElem hl]
  rfl
theorem val_r (g : t.Good) (h : x ∈ t.L) : 0 ≤ t.val x ∧ t.val x < t.n := g.vr _ (List.mem_of_getElem? (val_at g h))
theorem val_R (g : t.Good) (h : x ∈ t.L) : inR t.n (t.val x) := ⟨by have := val_r g h; omega, (val_r g h).2⟩
theorem fold_nil : t.fold [] = -1 := rfl
theorem fold_snoc : t.fold (l ++ [x]) = t.mul (t.fold l) (t.val x) := by
  unfold Tb.fold
  rw [List.foldl_append]
  rfl
theorem fold_one : t.fold [x] = t.val x := by
  show t.mul (-1) (t.val x) = _
  exact mul_l (by decide)
theorem n_pos (g : t.Good) : (0 : Int) < t.n := by
  have : ∃ x, x ∈ t.L := List.exists_mem_of_ne_nil _ g.l0
  obtain ⟨x, hx⟩ := this
  have := val_r g hx
  omega
theorem fold_R (g : t.Good) (h : ∀ x ∈ l, x ∈ t.L) : inR t.n (t.fold l) := by
  induction l using snoc_rec with
  | h0 => have := n_pos g; exact ⟨Int.le_refl _, by rw [fold_nil]; omega⟩
  | h1 l x ih =>
    rw [fold_snoc]
    exact mul_R g (ih fun y hy => h y (by simp [hy])) (val_R g (h x (by simp)))
theorem fold_pos (g : t.Good) (h : ∀ x ∈ l, x ∈ t.L) (hn : l ≠ []) : 0 ≤ t.fold l := by
  induction l using snoc_rec with
  | h0 => exact absurd rfl hn
  | h1 l x ih =>
    rw [fold_snoc]
    have hx := val_r g (h x (by simp))
    have hl : ∀ y ∈ l, y ∈ t.L := fun y hy => h y (by simp [hy])
    by_cases e : l = []
    · subst e
      rw [fold_nil, mul_l (by decide)]
      exact hx.1
    · exact mul_pos g (ih hl e) (fold_R g hl).2 (val_R g (h x (by simp)))
theorem fold_app (g : t.Good) (h : ∀ x ∈ l, x ∈ t.L) (h2 : ∀ x ∈ r, x ∈ t.L) : t.fold (l ++ r) = t.mul (t.fold l) (t.fold r) := by
  induction r using snoc_rec with
  | h0 =>
    rw [List.append_nil, fold_nil]
    by_cases e : l = []
    · subst e; rw [fold_nil, mul_l (by decide)]
    · rw [mul_r (fold_pos g h e) (by decide)]
  | h1 r x ih =>
    have hr : ∀ y ∈ r, y ∈ t.L := fun y hy => h2 y (by simp [hy])
    rw [← List.append_assoc, fold_snoc, fold_snoc, ih hr, mul_as g (fold_R g h) (fold_R g hr) (val_R g (h2 x (by simp)))]
theorem fold_cons (g : t.Good) (hx : x ∈ t.L) (h : ∀ x ∈ l, x ∈ t.L) : t.fold (x :: l) = t.mul (t.val x) (t.fold l) := by
  have := fold_app (t := t) (l := [x]) (r := l) g (by simpa using hx) h
  rw [fold_one] at this
  exact this
theorem sfx_eq : ∀ l : List Str, t.sfx l = (List.range l.length).map fun k => t.fold (l.drop k)
  | [] => rfl
  | x :: r => by
    rw [Tb.sfx, sfx_eq r, List.length_cons, List.range_succ_eq_map, List.map_cons, List.map_map]
    rfl
theorem sfx_len (l : List Str) : (t.sfx l).length = l.length := by rw [sfx_eq]; simp
end
/-! ### the numbers of products -/
def ins (ms : List Str) : Nat := (ms.filter fun m : Str => decide (m = "in")).length
def asks (ms : List Str) : Nat := (ms.filter fun m : Str => decide (m = "ask")).length
theorem pre_inr {c : Int} {s : Sum Bool (List Int)} {l : List Int} (h : pre c s = .inr l) : ∃ l', s = .inr l' ∧ l = c :: l' := by
  cases s with
  | inl e => cases h
  | inr l' => exact ⟨l', rfl, (Sum.inr.inj h).symm⟩
theorem costs_sum : ∀ (ms : List Str) (f b : Int) (l : List Int), 0 ≤ f → 0 ≤ b → costs f b ms = .inr l → l.sum ≤ 2 * (ins ms : Int) + asks ms + b
  | [], f, b, l, _, hb, h => by
    have : l = [] := (Sum.inr.inj h).symm
    subst this
    simp [ins, asks]
    exact hb
  | m :: r, f, b, l, hf, hb, h => by
    unfold costs at h
    by_cases h1 : m = "in"
    · rw [if_pos h1] at h
      obtain ⟨l', e, rfl⟩ := pre_inr h
      have := costs_sum r f (b + 1) l' hf (by omega) e
      have e1 : ins (m :: r) = ins r + 1 := by unfold ins; rw [List.filter_cons_of_pos (by simpa using h1)]; rfl
      have e2 : asks (m :: r) = asks r := by unfold asks; rw [List.filter_cons_of_neg (by rw [h1]; decide)]
      rw [List.sum_cons, e1, e2]
      split <;> omega
    · rw [if_neg h1] at h
      have e1 : ins (m :: r) = ins r := by unfold ins; rw [List.filter_cons_of_neg (by simpa using h1)]
      by_cases h2 : m = "ask"
      · rw [if_pos h2] at h
        obtain ⟨l', e, rfl⟩ := pre_inr h
        have := costs_sum r f b l' hf hb e
        have e2 : asks (m :: r) = asks r + 1 := by unfold asks; rw [List.filter_cons_of_pos (by simpa using h2)]; rfl
        rw [List.sum_cons, e1, e2]
        split <;> omega
      · rw [if_neg h2] at h
        have e2 : asks (m :: r) = asks r := by unfold asks; rw [List.filter_cons_of_neg (by simpa using h2)]
        rw [e1, e2]
        by_cases h3 : m = "out"
        · rw [if_pos h3] at h
          by_cases h4 : f + b = 0
          · rw [if_pos h4] at h; cases h
          · rw [if_neg h4] at h
            by_cases h5 : f = 0
            · rw [if_pos h5] at h
              obtain ⟨l', e, rfl⟩ := pre_inr h
              have := costs_sum r (b - 1) 0 l' (by omega) (by omega) e
              rw [List.sum_cons]
              omega
            · rw [if_neg h5] at h
              obtain ⟨l', e, rfl⟩ := pre_inr h
              have := costs_sum r (f - 1) b l' (by omega) hb e
              rw [List.sum_cons]
              omega
        · rw [if_neg h3] at h; cases h
/-! ### maps of rooms -/
def comp (f x : List Int) : List Int := x.map fun k => f.getD k.toNat 0
theorem comp_ok {r : Nat} {f x : List Int} (hf : MapOk r f) (hx : MapOk r x) : MapOk r (comp f x) := by
  refine ⟨by unfold comp; rw [List.length_map]; exact hx.1, fun y hy => ?_⟩
  obtain ⟨k, hk, rfl⟩ := List.mem_map.mp hy
  have := hx.2 k hk
  have hl : k.toNat < f.length := by rw [hf.1]; omega
  rw [List.getD_eq_getElem?_getD, List.getElem?_eq_getElem hl]
  exact hf.2 _ (List.getElem_mem hl)
theorem comp_as {r : Nat} {f y x : List Int} (hy : y.length = r) (hx : MapOk r x) : comp (comp f y) x = comp f (comp y x) := by
  unfold comp
  rw [List.map_map]
  refine List.map_congr_left fun k hk => ?_
  have := hx.2 k hk
  have hl : k.toNat < y.length := by omega
  simp only [Function.comp_apply, List.getD_eq_getElem?_getD, List.getElem?_map, List.getElem?_eq_getElem hl]
  rfl
inductive GenM (ms : List (List Int)) : List Int → Prop
  | base {f : List Int} : f ∈ ms → GenM ms f
  | step {f x : List Int} : f ∈ ms → GenM ms x → GenM ms (comp f x)
theorem gen_ok {ms : List (List Int)} {r : Nat} (hm : ∀ f ∈ ms, MapOk r f) {x : List Int} (h : GenM ms x) : MapOk r x := by
  induction h with
  | base h => exact hm _ h
  | step h _ ih => exact comp_ok (hm _ h) ih
theorem gen_closed {ms fo : List (List Int)} {r : Nat} (hm : ∀ f ∈ ms, MapOk r f) (hg : ∀ x ∈ fo, GenM ms x) (hc : ∀ x ∈ fo, ∀ f ∈ ms, comp f x ∈ fo) {y : List Int} (h : GenM ms y) : ∀ x ∈ fo, comp y x ∈ fo := by
  induction h with
  | base h => exact fun x hx => hc x hx _ h
  | @step f y h hy ih =>
    intro x hx
    rw [comp_as (gen_ok hm hy).1 (gen_ok hm (hg x hx))]
    exact hc _ (ih x hx) _ h
theorem nodup_lt : ∀ (n : Nat) (l : List Nat), l.Nodup → (∀ x ∈ l, x < n) → l.length ≤ n
  | 0, l, _, h => by
    cases l with
    | nil => exact Nat.le_refl _
    | cons a r => exact absurd (h a (by simp)) (by omega)
  | n + 1, l, d, h => by
    have i := nodup_lt n (l.filter fun x => decide (x ≠ n)) (d.filter _) fun x hx => by
      have := List.mem_filter.mp hx
      have h2 := h x this.1
      have h3 : x ≠ n := of_decide_eq_true this.2
      omega
    have one : ∀ l : List Nat, l.Nodup → l.length ≤ (l.filter fun x => decide (x ≠ n)).length + 1 := by
      intro l
      induction l with
      | nil => intro _; simp
      | cons a r ih =>
        intro d
        have d2 := List.nodup_cons.mp d
        by_cases e : a = n
        · subst e
          have : r.filter (fun x => decide (x ≠ a)) = r := List.filter_eq_self.mpr fun x hx => by
            simp only [ne_eq, decide_eq_true_eq]
            intro z
            subst z
            exact d2.1 hx
          rw [List.filter_cons_of_neg (by simp), this]
          simp
        · rw [List.filter_cons_of_pos (by simpa using e)]
          have := ih d2.2
          simp only [List.length_cons]
          omega
    have := one l d
    omega
def code : List Int → Nat
  | [] => 0
  | x :: r => x.toNat + 4 * code r
theorem code_lt : ∀ (l : List Int), (∀ x ∈ l, 0 ≤ x ∧ x < 4) → code l < 4 ^ l.length
  | [], _ => by simp [code]
  | x :: r, h => by
    have i := code_lt r fun y hy => h y (by simp [hy])
    have hx := h x (by simp)
    rw [code, List.length_cons, Nat.pow_succ]
    omega
theorem code_inj : ∀ (l m : List Int), l.length = m.length → (∀ x ∈ l, 0 ≤ x ∧ x < 4) → (∀ x ∈ m, 0 ≤ x ∧ x < 4) → code l = code m → l = m
  | [], [], _, _, _, _ => rfl
  | [], _ :: _, h, _, _, _ => by simp at h
  | _ :: _, [], h, _, _, _ => by simp at h
  | x :: r, y :: q, hl, h1, h2, e => by
    have hx := h1 x (by simp)
    have hy := h2 y (by simp)
    simp only [code] at e
    have e1 : x = y := by omega
    have e2 : code r = code q := by omega
    rw [e1, code_inj r q (by simpa using hl) (fun z hz => h1 z (by simp [hz])) (fun z hz => h2 z (by simp [hz])) e2]
theorem few_maps {fo : List (List Int)} {r : Nat} (hr : r ≤ 4) (d : fo.Nodup) (h : ∀ f ∈ fo, MapOk r f) : fo.length ≤ 256 := by
  have ok : ∀ f ∈ fo, ∀ x ∈ f, 0 ≤ x ∧ x < 4 := fun f hf x hx => by have := (h f hf).2 x hx; omega
  have d2 : (fo.map code).Nodup := by
    rw [List.nodup_iff_pairwise_ne, List.pairwise_map]
    refine List.Pairwise.imp_of_mem (fun {a b} ha hb n e => n (code_inj a b (by rw [(h a ha).1, (h b hb).1]) (ok a ha) (ok b hb) e)) (List.nodup_iff_pairwise_ne.mp d)
  have := nodup_lt 256 _ d2 fun x hx => by
    obtain ⟨f, hf, rfl⟩ := List.mem_map.mp hx
    refine Nat.lt_of_lt_of_le (code_lt f (ok f hf)) ?_
    rw [(h f hf).1]
    exact Nat.pow_le_pow_right (n := 4) (by decide) hr
  rw [List.length_map] at this
  exact this
/-- the table of the maps found -/
def prods (fo : List (List Int)) : List (List Int) := fo.map fun x => fo.map fun y => ((fo.idxOf (comp y x) : Nat) : Int)
theorem tab_good {ws : List Str} {ms fo : List (List Int)} {r : Nat} (hr : r ≤ 4) (hw : ws.length = ms.length) (h0 : ms ≠ []) (h4 : ms.length ≤ 4) (hm : ∀ f ∈ ms, MapOk r f) (hin : ∀ f ∈ ms, f ∈ fo) (d : fo.Nodup) (hg : ∀ x ∈ fo, GenM ms x)
    (hc : ∀ x ∈ fo, ∀ f ∈ ms, comp f x ∈ fo) (wd : ∀ x ∈ ws, LetOk x) : (Tb.mk ws (ms.map fun f => ((fo.idxOf f : Nat) : Int)) (prods fo)).Good := by
  have hn : (Tb.mk ws (ms.map fun f => ((fo.idxOf f : Nat) : Int)) (prods fo)).n = fo.length := by unfold Tb.n prods; simp
  have ok : ∀ f ∈ fo, MapOk r f := fun f hf => gen_ok hm (hg f hf)
  have cl : ∀ y ∈ fo, ∀ x ∈ fo, comp y x ∈ fo := fun y hy x hx => gen_closed hm hg hc (hg y hy) x hx
  have at_ : ∀ i j : Nat, (hi : i < fo.length) → (hj : j < fo.length) → (Tb.mk ws (ms.map fun f => ((fo.idxOf f : Nat) : Int)) (prods fo)).mul i j = ((fo.idxOf (comp fo[j] fo[i]) : Nat) : Int) := by
    intro i j hi hj
    rw [mul_in (by omega) (by omega)]
    unfold prods
    simp only [Int.toNat_natCast, List.getD_eq_getElem?_getD, List.getElem?_map, List.getElem?_eq_getElem hi, List.getElem?_eq_getElem hj, Option.map_some, Option.getD_some]
  have idx : ∀ y ∈ fo, ∃ h : fo.idxOf y < fo.length, fo[fo.idxOf y] = y := fun y hy => ⟨List.idxOf_lt_length_iff.mpr hy, List.getElem_idxOf _⟩
  refine ⟨fun e => h0 (List.eq_nil_of_length_eq_zero (by rw [← hw]; simp_all)), by simp [hw], by show ws.length ≤ 4; omega, fun v hv => ?_, by rw [hn]; exact few_maps hr d ok, fun q hq => ?_, ?_, wd⟩
  · obtain ⟨f, hf, rfl⟩ := List.mem_map.mp hv
    rw [hn]
    have := List.idxOf_lt_length_iff.mpr (hin f hf)
    omega
  · obtain ⟨x, hx, rfl⟩ := List.mem_map.mp (show q ∈ fo.map _ from hq)
    rw [hn]
    refine ⟨by simp, fun v hv => ?_⟩
    obtain ⟨y, hy, rfl⟩ := List.mem_map.mp hv
    have := List.idxOf_lt_length_iff.mpr (cl y hy x hx)
    omega
  · intro a b c ha ha2 hb hb2 hc hc2
    rw [hn] at ha2 hb2 hc2
    obtain ⟨i, rfl⟩ := Int.eq_ofNat_of_zero_le ha
    obtain ⟨j, rfl⟩ := Int.eq_ofNat_of_zero_le hb
    obtain ⟨k, rfl⟩ := Int.eq_ofNat_of_zero_le hc
    have hi : i < fo.length := by omega
    have hj : j < fo.length := by omega
    have hk : k < fo.length := by omega
    have m1 := cl _ (List.getElem_mem hj) _ (List.getElem_mem hi)
    have m2 := cl _ (List.getElem_mem hk) _ (List.getElem_mem hj)
    obtain ⟨l1, e1⟩ := idx _ m1
    obtain ⟨l2, e2⟩ := idx _ m2
    rw [at_ i j hi hj, at_ j k hj hk, at_ _ k l1 hk, at_ i _ hi l2, e1, e2, comp_as (ok _ (List.getElem_mem hj)).1 (ok _ (List.getElem_mem hi))]
end K92
section
open PySem PySem.Spec PyProof.Rows L2 Sf
local macro_rules | `(tactic| walk_at "nin") => `(tactic| first | (simp only [List.not_mem_nil, not_false_eq_true]; done) | (intro hz; simp only [List.mem_cons, List.not_mem_nil, or_false] at hz; first | exact absurd hz (by assumption) | exact absurd hz.symm (by assumption) | (rcases hz with hz | hz <;> first | exact absurd hz (by assumption) | exact absurd hz.symm (by assumption))))
local macro_rules | `(tactic| walk_at "ne") => `(tactic| first | assumption | exact Ne.symm (by assumption))
local macro_rules | `(tactic| walk_at "hp") => `(tactic| first | assumption | exact Sf.g_same | ((with_reducible refine Sf.g_new (by assumption) ?_); walk_at "hp") | ((with_reducible refine Sf.g_mut (by walk_at "ne") ?_); walk_at "hp") | ((with_reducible refine Sf.Kp.get (by assumption) (by walk_at "nin") ?_); walk_at "hp"))
local macro_rules | `(tactic| walk_at "sq") => `(tactic| first | assumption | exact SqL.of (by walk_at "hp") | exact SqT.of (by walk_at "hp") | ((with_reducible refine Sf.sqL_new (by assumption) ?_); walk_at "sq") | ((with_reducible refine Sf.sqT_new (by assumption) ?_); walk_at "sq") | ((with_reducible refine Sf.Kp.sqL (by assumption) (by walk_at "nin") ?_); walk_at "sq") | ((with_reducible refine Sf.Kp.sqT (by assumption) (by walk_at "nin") ?_); walk_at "sq"))
local macro_rules | `(tactic| walk_at "rd1") => `(tactic| first
  | ((with_reducible refine o_varE ?_); refine ⟨_, rfl, ?_⟩) | with_reducible refine o_c ?_ | with_reducible refine o_op ?_ | with_reducible refine o_cb ?_ | with_reducible refine o_cons ?_ | with_reducible refine o_nil ?_ | with_reducible refine o_tup ?_ | with_reducible refine o_lst ?_
  | with_reducible refine o_call ?_ | with_reducible refine o_ret ?_ | with_reducible refine o_asg ?_ | with_reducible refine o_seq ?_ | with_reducible refine o_next ?_ | with_reducible refine o_brk ?_ | with_reducible refine o_cont ?_ | with_reducible refine o_drop ?_ | with_reducible refine o_if ?_ | with_reducible refine o_test ?_ | with_reducible refine o_B ?_ | with_reducible refine o_and ?_
  | with_reducible refine o_or ?_ | with_reducible refine o_not ?_ | with_reducible refine o_andV ?_ | with_reducible refine o_orV ?_ | with_reducible refine o_notV ?_ | with_reducible refine o_ifx ?_ | with_reducible refine o_chain ?_ | with_reducible refine o_sl ?_ | with_reducible refine o_part ?_ | with_reducible refine o_nop ?_ | with_reducible refine o_bm ?_ | with_reducible refine o_bm0 ?_ | with_reducible refine o_m1 ?_
  | with_reducible refine o_bl ?_ | with_reducible refine o_int ?_ | with_reducible refine o_yes ?_ | with_reducible refine r_add ?_ | with_reducible refine r_sub ?_ | with_reducible refine r_lt ?_ | with_reducible refine r_le ?_ | with_reducible refine r_gt ?_ | with_reducible refine r_ge ?_ | with_reducible refine r_int ?_ | with_reducible refine r_intB ?_ | with_reducible refine r_inS ?_ | with_reducible refine r_isN ?_ | with_reducible refine r_notN ?_
  | ((with_reducible refine r_eq ?h ?_); (case h => rfl)) | ((with_reducible refine r_ne ?h ?_); (case h => rfl)) | with_reducible refine r_lenS (Sf.sz (by first | omega | (simp; omega))) ?_ | ((with_reducible refine e_lenL ?_); refine ⟨_, by walk_at "sq", ?_⟩) | ((with_reducible refine e_ixL ?_); refine ⟨_, _, by walk_at "sq", by first | exact atZ0 | exact atZ1 | exact atZ2 | exact atZ3, ?_⟩) | ((with_reducible refine e_ixT ?_); refine ⟨_, _, by walk_at "sq", by first | exact atZ0 | exact atZ1 | exact atZ2 | exact atZ3, ?_⟩) | with_reducible refine r_mod (by first | decide | omega) ?_ | with_reducible refine r_div ⟨by first | decide | omega, by first | decide | omega⟩ ?_ | with_reducible refine iteT ?_ | with_reducible refine iteF ?_ | with_reducible refine iteNT ?_ | with_reducible refine iteNF ?_ | with_reducible refine r_leS ?_ | with_reducible refine o_asgG ?_ | with_reducible refine o_gsub ?_ | with_reducible refine o_gname ?_ | with_reducible refine o_retN ?_ | with_reducible refine o_par ?_)
local macro_rules | `(tactic| walk_at "rd") => `(tactic| repeat walk_at "rd1")
namespace K92
open PySem PySem.Spec PyProof.Rows L2 Sf
/-- a def's ends -/
abbrev fin (Q : VK) : Ends := { nx := fun _ H' => Q .non H', rt := Q }
theorem inV_strs (f : Str) (l : List Str) : inV (.str f) (l.map V.str) = decide (f ∈ l) := by
  unfold inV
  induction l with
  | nil => rfl
  | cons a r ih =>
    rw [List.map_cons, List.any_cons, ih]
    show (decide (a = f) || decide (f ∈ r)) = decide (f ∈ a :: r)
    by_cases h : a = f
    · subst h; simp
    · have h' : ¬ f = a := fun e => h e.symm
      simp [h, h']
theorem flat_strs (l : List Str) : (l.map V.str).all flatV = true := by
  rw [List.all_eq_true]
  intro x hx
  obtain ⟨y, _, rfl⟩ := List.mem_map.mp hx
  rfl
/-! ### the window's attributes -/
structure WT (K : PySem.W.Frag) (ca : Nat → Addr) : Prop where
  c : Cls K (ca 20)
  t : NoAttr K (ca 20) "table"
  f : NoAttr K (ca 20) "front"
  b : NoAttr K (ca 20) "back"
  h : NoAttr K (ca 20) "behind"
  m : NoAttr K (ca 20) "many"
theorem lk_1 {k : Str} {v : V} {r : List (Str × V)} : List.lookup k ((k, v) :: r) = some v := by simp [List.lookup]
theorem lk_2 {k g : Str} {v : V} {r : List (Str × V)} (h : (k == g) = false) : List.lookup k ((g, v) :: r) = List.lookup k r := by simp only [List.lookup, h]
theorem pu_1 {f : Str} {v x : V} {r : List (Str × V)} : putF f v ((f, x) :: r) = (f, v) :: r := if_pos rfl
theorem pu_2 {f g : Str} {v x : V} {r : List (Str × V)} (h : ¬ g = f) : putF f v ((g, x) :: r) = (g, x) :: putF f v r := if_neg h
section
variable {tp fl bl : Addr} {be m z : Int}
theorem wf_t : (wf tp fl bl be m).lookup ("table" : Str) = some (.ref tp) := lk_1
theorem wf_f : (wf tp fl bl be m).lookup ("front" : Str) = some (.ref fl) := (lk_2 (by decide +kernel)).trans lk_1
theorem wf_b : (wf tp fl bl be m).lookup ("back" : Str) = some (.ref bl) := (lk_2 (by decide +kernel)).trans ((lk_2 (by decide +kernel)).trans lk_1)
theorem wf_h : (wf tp fl bl be m).lookup ("behind" : Str) = some (.int be) := (lk_2 (by decide +kernel)).trans ((lk_2 (by decide +kernel)).trans ((lk_2 (by decide +kernel)).trans lk_1))
theorem wf_m : (wf tp fl bl be m).lookup ("many" : Str) = some (.int m) := (lk_2 (by decide +kernel)).trans ((lk_2 (by decide +kernel)).trans ((lk_2 (by decide +kernel)).trans ((lk_2 (by decide +kernel)).trans lk_1)))
theorem wf_no {x : Str} (h1 : (x == ("table" : Str)) = false) (h2 : (x == ("front" : Str)) = false) (h3 : (x == ("back" : Str)) = false) (h4 : (x == ("behind" : Str)) = false) (h5 : (x == ("many" : Str)) = false) : (wf tp fl bl be m).lookup x = none :=
  (lk_2 h1).trans ((lk_2 h2).trans ((lk_2 h3).trans ((lk_2 h4).trans ((lk_2 h5).trans rfl))))
theorem put_h : putF "behind" (.int z) (wf tp fl bl be m) = wf tp fl bl z m := by
  unfold wf
  rw [pu_2 (by decide +kernel), pu_2 (by decide +kernel), pu_2 (by decide +kernel), pu_1]
theorem put_m : putF "many" (.int z) (wf tp fl bl be m) = wf tp fl bl be z := by
  unfold wf
  rw [pu_2 (by decide +kernel), pu_2 (by decide +kernel), pu_2 (by decide +kernel), pu_2 (by decide +kernel), pu_1]
end
theorem upd_twice {H : Hp} {p : Addr} {o u : HO} : upd (upd H p o) p u = upd H p u := by
  funext b
  by_cases h : b = p
  · subst h; rw [upd_same, upd_same]
  · rw [upd_ne h, upd_ne h, upd_ne h]
section
variable {K : PySem.W.Frag} {ca : Nat → Addr} {σ : L2.St} {H H' : Hp} {p tp fl bl dx : Addr} {be m : Int} {i : Nat} {Q : VK} {D : Ends} {tv : TE} {t : Tb} {x : Str}
theorem r_inStrsT {a : Addr} {f : Str} {l : List Str} {neg : Bool} (h : SqT K H a (l.map V.str)) (q : Q (.bl (if neg then !decide (f ∈ l) else decide (f ∈ l))) H) : rIn K neg (.str f) (.ref a) H Q := by
  refine r_inT h rfl (flat_strs l) ?_
  rw [inV_strs]
  exact q
theorem r_inStrsL {a : Addr} {f : Str} {l : List Str} {neg : Bool} (h : SqL K H a (l.map V.str)) (q : Q (.bl (if neg then !decide (f ∈ l) else decide (f ∈ l))) H) : rIn K neg (.str f) (.ref a) H Q := by
  refine r_inL h rfl (flat_strs l) ?_
  rw [inV_strs]
  exact q
theorem g_t (W : WT K ca) (hv : σ[i]? = some (some (.ref p))) (hp : H p = some (.ins (ca 20) dx (wf tp fl bl be m))) (q : Q (.ref tp) H) : tFld K (tVar i) "table" σ H Q := o_fld (fun R r => ⟨_, hv, r⟩) hp W.c W.t wf_t q
theorem g_f (W : WT K ca) (hv : σ[i]? = some (some (.ref p))) (hp : H p = some (.ins (ca 20) dx (wf tp fl bl be m))) (q : Q (.ref fl) H) : tFld K (tVar i) "front" σ H Q := o_fld (fun R r => ⟨_, hv, r⟩) hp W.c W.f wf_f q
theorem g_b (W : WT K ca) (hv : σ[i]? = some (some (.ref p))) (hp : H p = some (.ins (ca 20) dx (wf tp fl bl be m))) (q : Q (.ref bl) H) : tFld K (tVar i) "back" σ H Q := o_fld (fun R r => ⟨_, hv, r⟩) hp W.c W.b wf_b q
theorem g_h (W : WT K ca) (hv : σ[i]? = some (some (.ref p))) (hp : H p = some (.ins (ca 20) dx (wf tp fl bl be m))) (q : Q (.int be) H) : tFld K (tVar i) "behind" σ H Q := o_fld (fun R r => ⟨_, hv, r⟩) hp W.c W.h wf_h q
theorem g_m (W : WT K ca) (hv : σ[i]? = some (some (.ref p))) (hp : H p = some (.ins (ca 20) dx (wf tp fl bl be m))) (q : Q (.int m) H) : tFld K (tVar i) "many" σ H Q := o_fld (fun R r => ⟨_, hv, r⟩) hp W.c W.m wf_m q
theorem s_h (W : WT K ca) (hv : σ[i]? = some (some (.ref p))) (q : tv σ H fun y H1 => ∃ z tp fl bl dx be m, y = .int z ∧ H1 p = some (.ins (ca 20) dx (wf tp fl bl be m)) ∧ D.nx σ (upd H1 p (.ins (ca 20) dx (wf tp fl bl z m)))) (mono : ∀ {R R' : VK}, (∀ y H1, R y H1 → R' y H1) → tv σ H R → tv σ H R') : sFld K (tVar i) tv "behind" D σ H := by
  refine o_setF (mono (fun y H1 h => ?_) q)
  obtain ⟨z, tp, fl, bl, dx, be, m, rfl, hp, go⟩ := h
  refine ⟨_, hv, p, ca 20, dx, _, rfl, hp, W.c, W.h, by show 5 < 1000; decide, ?_⟩
  rw [put_h]
  exact go
/-! ### the table -/
theorem TupsAt.tk (k : Tk H H') : ∀ {vs : List V} {fs : List (List Int)}, TupsAt K H vs fs → TupsAt K H' vs fs
  | [], [], _ => trivial
  | _ :: _, _ :: _, ⟨⟨a, e, s⟩, r⟩ => ⟨⟨a, e, k.sqT s⟩, r.tk k⟩
  | [], _ :: _, h => h.elim
  | _ :: _, [], h => h.elim
theorem TupsAt.dps : ∀ {vs : List V} {fs : List (List Int)}, TupsAt K H vs fs → DpAll K H vs (fs.map fun r => .tuple (r.map .int))
  | [], [], _ => .nil
  | _ :: _, _ :: _, ⟨⟨a, e, s⟩, r⟩ => .cons (e ▸ .tup s (dps_ints _)) r.dps
  | [], _ :: _, h => h.elim
  | _ :: _, [], h => h.elim
theorem TupsAt.get : ∀ {vs : List V} {fs : List (List Int)} {k : Nat} {f : List Int}, TupsAt K H vs fs → fs[k]? = some f → ∃ a, vs[k]? = some (.ref a) ∧ SqT K H a (f.map V.int)
  | [], [], k, f, _, h => by simp at h
  | _ :: _, _ :: _, 0, f, ⟨⟨a, e, s⟩, r⟩, h => ⟨a, by rw [e]; rfl, Option.some.inj h ▸ s⟩
  | _ :: _, _ :: _, k + 1, f, ⟨⟨a, e, s⟩, r⟩, h => by simpa using r.get (by simpa using h)
  | [], _ :: _, _, _, h, _ => h.elim
  | _ :: _, [], _, _, h, _ => h.elim
theorem TupsAt.len : ∀ {vs : List V} {fs : List (List Int)}, TupsAt K H vs fs → vs.length = fs.length
  | [], [], _ => rfl
  | _ :: _, _ :: _, ⟨_, r⟩ => by simp [r.len]
  | [], _ :: _, h => h.elim
  | _ :: _, [], h => h.elim
theorem TabAt.tk (h : TabAt K H tp t) (k : Tk H H') : TabAt K H' tp t := by
  obtain ⟨a0, a1, a2, o, rows, s, z, n, s1, s2, r⟩ := h
  exact ⟨a0, a1, a2, o, rows, k.sqT s, k.2 _ _ _ z, n, k.sqT s1, k.sqT s2, r.tk k⟩
theorem TabAt.dp (h : TabAt K H tp t) : Dp K H (.ref tp) t.d := by
  obtain ⟨a0, a1, a2, o, rows, s, z, n, s1, s2, r⟩ := h
  exact .tup s (.cons (.tup (.inl (.inr ⟨_, z⟩)) (dps_strs _)) (.cons (.tup s1 (dps_ints _)) (.cons (.tup s2 r.dps) .nil)))
/-- table[1][table[0].index(x)] -/
theorem letval {te : TE} {tx : TA} (hT : ∀ R : VK, R (.ref tp) H → te σ H R) (hx : ∀ R : List V → Hp → Prop, R [.str x] H → tx σ H R) (h : TabAt K H tp t) (g : t.Good) (m : x ∈ t.L) (q : Q (.int (t.val x)) H) :
    tOp (rIxT K) (tOp (rIxT K) te (tC (.int 1))) (tBMT (rdTupIndex K) (tOp (rIxT K) te (tC (.int 0))) tx) σ H Q := by
  obtain ⟨a0, a1, a2, o, rows, s, z, n, s1, s2, r⟩ := h
  refine o_op (o_op (hT _ (o_c (r_ixT s atZ1 ?_))))
  have hl : t.L.idxOf x < t.L.length := List.idxOf_lt_length_iff.mpr m
  refine o_op (hT _ (o_c (r_ixT s atZ0 ⟨⟨a0, o, _, rfl, z, n⟩, hx _ ⟨a0, t.L, x, t.L.idxOf x, rfl, rfl, .inl (.inr ⟨_, z⟩), ?_, fun k hk => ?_, ?_⟩⟩)))
  · rw [List.getElem?_eq_getElem hl, List.getElem_idxOf]
  · have hk2 : k < t.L.length := by omega
    rw [List.getElem?_eq_getElem hk2]
    intro e
    have h1 : (t.L[k] == x) = false := List.not_of_lt_findIdx (p := (· == x)) hk
    rw [Option.some.inj e] at h1
    simp at h1
  · exact r_ixT s1 (at_nat (by rw [List.getElem?_map, val_at g m]; rfl)) q
theorem kt_ne {H1 : Hp} {a : Addr} {o : HO} (h : ∀ c, c ≠ p → H1 c = H c) (n : a ≠ p) (e : H a = some o) : H1 a = some o := by rw [h a n]; exact e
theorem kt_of {o' : HO} {C : Addr} {fs : List (Str × V)} {H1 : Hp} (hp : H p = some (.ins C dx fs)) (h : ∀ c, c ≠ p → H1 c = H c) : Kt [p] H H1 := by
  refine ⟨fun b o e n => by rw [h b (by simpa using n)]; exact e, fun b xs e => ?_, fun b z u e => ?_⟩
  · rw [h b ?_]; · exact e
    rintro rfl; rw [hp] at e; cases e
  · rw [h b ?_]; · exact e
    rintro rfl; rw [hp] at e; cases e
theorem FrA.tk (k : Tk H H') : ∀ {vs : List V} {xs : List Str}, FrA H t vs xs → FrA H' t vs xs
  | [], [], _ => trivial
  | _ :: _, _ :: _, ⟨⟨a, e, s⟩, r⟩ => ⟨⟨a, e, k.1 _ _ s⟩, r.tk k⟩
  | [], _ :: _, h => h.elim
  | _ :: _, [], h => h.elim
theorem FrA.len : ∀ {vs : List V} {xs : List Str}, FrA H t vs xs → vs.length = xs.length
  | [], [], _ => rfl
  | _ :: _, _ :: _, ⟨_, r⟩ => by simp [r.len]
  | [], _ :: _, h => h.elim
  | _ :: _, [], h => h.elim
theorem WinAt.kt {S : List Addr} {front back : List Str} (h : WinAt K ca H t p fl bl front back m) (k : Kt S H H') (n1 : p ∉ S) (n2 : fl ∉ S) (n3 : bl ∉ S) : WinAt K ca H' t p fl bl front back m := by
  obtain ⟨⟨tp, dx, o, tb⟩, ⟨fvs, f, fa⟩, b, a1, a2, a3, c1, c2, g, l⟩ := h
  exact ⟨⟨tp, dx, k.1 _ _ o n1, tb.tk k.2⟩, ⟨fvs, k.1 _ _ f n2, fa.tk k.2⟩, k.1 _ _ b n3, a1, a2, a3, c1, c2, g, l⟩
/-! ### times, the window -/
theorem times_run {tw : TE} (h : ∀ R : VK, R (.ref tp) H → tw σ H R) {ta tb : TE} {a b : Int} (ha : ∀ R : VK, R (.int a) H → ta σ H R) (hb : ∀ R : VK, R (.int b) H → tb σ H R) (tab : TabAt K H tp t) (g : t.Good) (a0 : 0 ≤ a) (a1 : a < t.n) (b0 : 0 ≤ b) (b1 : b < t.n) (q : Q (.int (t.mul a b)) H) :
    tOp (rIxT K) (tOp (rIxT K) (tOp (rIxT K) tw (tC (.int 2))) ta) tb σ H Q := by
  obtain ⟨x0, x1, x2, o, rows, s, z, n, s1, s2, r⟩ := tab
  obtain ⟨row, e1, e2, _⟩ := mul_at g a0 a1 b0 b1
  obtain ⟨ra, e3, s3⟩ := r.get e1
  refine o_op (o_op (o_op (h _ (o_c (r_ixT s atZ2 (ha _ (r_ixT s2 (at_int a0 e3) (hb _ (r_ixT s3 (at_int b0 (by rw [List.getElem?_map, e2]; rfl)) q)))))))))
theorem pure_times (vs : List V) (H : Hp) (Q : VK) (E : XK) (h : sp_times K ca vs H Q E) : t_times K ca (fin Q) (start ["table", "first", "second"] vs) H := by
  obtain ⟨tp, a, b, t, rfl, tab, g, ha, hb, q⟩ := h
  unfold t_times
  walk_at "rd"
  refine if_b (fun h1 => ?_) (fun h1 => ?_)
  · have h1 := of_decide_eq_true h1
    walk_at "rd"
    rw [mul_l h1] at q
    exact q
  · have h1 := of_decide_eq_false h1
    walk_at "rd"
    refine if_b (fun h2 => ?_) (fun h2 => ?_)
    · have h2 := of_decide_eq_true h2
      walk_at "rd"
      rw [mul_r (by omega) h2] at q
      exact q
    · have h2 := of_decide_eq_false h2
      refine o_next ?_
      dsimp only
      refine o_ret (times_run (fun R r => ⟨_, rfl, r⟩) (fun R r => ⟨_, rfl, r⟩) (fun R r => ⟨_, rfl, r⟩) tab g (by omega) ha.2 (by omega) hb.2 q)
theorem pure_law_times (vs : List V) (H : Hp) (Q : VK) (E : XK) (h : sp_law_times K ca vs H Q E) : t_law_times K ca (fin Q) (start ["table", "first", "second"] vs) H := pure_times vs H Q E h
theorem times_use {E : XK} {a b : Int} (tab : TabAt K H tp t) (g : t.Good) (ha : inR t.n a) (hb : inR t.n b) (q : Q (.int (t.mul a b)) H) : sp_times K ca [.ref tp, .int a, .int b] H Q E := ⟨tp, a, b, t, rfl, tab, g, ha, hb, q⟩
theorem fl_1 {f : Str} {v : V} : putF f v [] = [(f, v)] := rfl
theorem pure_Window_init (W : WT K ca) (vs : List V) (H : Hp) (Q : VK) (E : XK) (h : sp_Window_init K ca vs H Q E) : t_Window_init K ca (fin Q) (start ["self", "table"] vs) H := by
  obtain ⟨p, tp, dx, rfl, hp, k⟩ := h
  unfold t_Window_init
  refine o_seq (o_setF ⟨_, rfl, _, rfl, p, ca 20, dx, [], rfl, hp, W.c, W.t, by show 0 < 1000; decide, ?_⟩)
  dsimp only
  rw [fl_1]
  refine o_seq (o_setF (o_lst (o_nil ⟨sz (by simp), fun fl hfl => ⟨_, rfl, p, ca 20, dx, _, rfl, g_new hfl g_same, W.c, W.f, by show 1 < 1000; decide, ?_⟩⟩)))
  have nf : fl ≠ p := Ne.symm (ne_of_none g_same hfl)
  have hfl0 : H fl = none := by rw [upd_ne nf] at hfl; exact hfl
  rw [pu_2 (by decide +kernel), fl_1]
  dsimp only
  refine o_seq (o_setF (o_lst (o_nil ⟨sz (by simp), fun bl hbl => ⟨_, rfl, p, ca 20, dx, _, rfl, g_new hbl g_same, W.c, W.b, by show 2 < 1000; decide, ?_⟩⟩)))
  have nb : bl ≠ p := Ne.symm (ne_of_none g_same hbl)
  have nbf : fl ≠ bl := ne_of_none (g_mut nf g_same) hbl
  have hbl0 : H bl = none := by
    rw [upd_ne nb, upd_ne (Ne.symm nbf), upd_ne nb] at hbl
    exact hbl
  rw [pu_2 (by decide +kernel), pu_2 (by decide +kernel), fl_1]
  dsimp only
  refine o_seq (o_setF (o_un (o_c ⟨1, rfl, _, rfl, p, ca 20, dx, _, rfl, g_same, W.c, W.h, by show 3 < 1000; decide, ?_⟩)))
  rw [pu_2 (by decide +kernel), pu_2 (by decide +kernel), pu_2 (by decide +kernel), fl_1]
  dsimp only
  refine o_setF (o_c ⟨_, rfl, p, ca 20, dx, _, rfl, g_same, W.c, W.m, by show 4 < 1000; decide, ?_⟩)
  rw [pu_2 (by decide +kernel), pu_2 (by decide +kernel), pu_2 (by decide +kernel), pu_2 (by decide +kernel), fl_1]
  have k0 : Kt [p] H (upd H p (.ins (ca 20) dx [("table", .ref tp)])) := (Kt.refl [p] H).ins hp (by simp)
  have k1 := (k0.new (o := .lst []) hfl).ins (o := .ins (ca 20) dx [("table", V.ref tp), ("front", .ref fl)]) (g_new hfl g_same) (by simp)
  have k2 := (k1.new (o := .lst []) hbl).ins (o := .ins (ca 20) dx [("table", V.ref tp), ("front", .ref fl), ("back", .ref bl)]) (g_new hbl g_same) (by simp)
  have k3 := k2.ins (o := .ins (ca 20) dx [("table", V.ref tp), ("front", .ref fl), ("back", .ref bl), ("behind", .int (-1))]) g_same (by simp)
  have k4 := k3.ins (o := .ins (ca 20) dx [("table", V.ref tp), ("front", .ref fl), ("back", .ref bl), ("behind", .int (-1)), ("many", .int 0)]) g_same (by simp)
  refine k fl bl _ hfl0 hbl0 nbf g_same ?_ ?_ k4
  · exact g_mut nf (g_mut nf (g_mut nf (g_new hbl (g_mut nf g_same))))
  · exact g_mut nb (g_mut nb (g_mut nb g_same))
theorem pure_Window_product (W : WT K ca) (vs : List V) (H : Hp) (Q : VK) (E : XK) (h : sp_Window_product K ca vs H Q E) : t_Window_product K ca (fin Q) (start ["self", "first", "second"] vs) H := by
  obtain ⟨p, tp, fl, bl, dx, a, b, be, m, t, rfl, hp, tab, g, ha, hb, k⟩ := h
  unfold t_Window_product
  have rest : ∀ H', H' p = some (.ins (ca 20) dx (wf tp fl bl be (m + if 0 ≤ a ∧ 0 ≤ b then 1 else 0))) → (∀ c, c ≠ p → H' c = H c) → tRet (rCallG (sp_times K ca) E0 (tCons (tFld K (tVar 0) "table") (tCons (tVar 1) (tCons (tVar 2) tNil)))) (fin Q) (start ["self", "first", "second"] [V.ref p, .int a, .int b]) H' := fun H' h1 h2 => by
    refine o_ret (o_call (o_cons (g_t W rfl h1 (o_cons ⟨_, rfl, o_cons ⟨_, rfl, o_nil (times_use (tab.tk ?_) g ha hb (k H' h1 h2))⟩⟩))))
    exact (kt_of (o' := .lst []) hp h2).2
  walk_at "rd"
  refine if_b (fun h1 => ?_) (fun h1 => ?_)
  · have h1 := of_decide_eq_true h1
    walk_at "rd"
    refine if_b (fun h2 => ?_) (fun h2 => ?_)
    · have h2 := of_decide_eq_true h2
      refine ⟨_, rfl, p, ca 20, dx, _, _, rfl, hp, W.c, W.m, wf_m, m, 1, rfl, rfl, dx, _, hp, by show 5 < 1000; decide, ?_⟩
      rw [put_m]
      refine rest _ ?_ fun c n => upd_ne n
      rw [if_pos ⟨h1, h2⟩]
      exact g_same
    · have h2 := of_decide_eq_false h2
      refine o_next (rest _ ?_ fun c n => rfl)
      rw [if_neg fun z => h2 z.2, Int.add_zero]
      exact hp
  · have h1 := of_decide_eq_false h1
    refine iteF (o_next (rest _ ?_ fun c n => rfl))
    rw [if_neg fun z => h1 z.1, Int.add_zero]
    exact hp
end
end K92
namespace K92
open PySem PySem.Spec PyProof.Rows L2 Sf
section
variable {K : PySem.W.Frag} {ca : Nat → Addr} {σ : L2.St} {H H' : Hp} {p tp fl bl dx : Addr} {be m : Int} {i : Nat} {Q : VK} {D : Ends} {t : Tb} {x : Str}
theorem pure_Window_push (W : WT K ca) (vs : List V) (H : Hp) (Q : VK) (E : XK) (h : sp_Window_push K ca vs H Q E) : t_Window_push K ca E (fin Q) (start ["self", "letter"] vs) H := by
  obtain ⟨p, fl, bl, x, t, front, back, m, rfl, w, hl, kE, k⟩ := h
  obtain ⟨tp, dx, hp, tab⟩ := w.ob
  obtain ⟨a0, a1, a2, o, rows, s, z, nn, s1, s2, r⟩ := id tab
  unfold t_Window_push
  refine o_seq (o_if (o_test (o_op ⟨_, rfl, o_op (g_t W rfl hp (o_c (r_ixT s atZ0 (r_inStrsT (l := t.L) (.inl (.inr ⟨_, z⟩)) ?_))))⟩)))
  rw [if_pos rfl]
  refine o_bl (if_b (fun h1 => ?_) (fun h1 => ?_))
  · exact kE (by simpa using h1)
  · have hx : x ∈ t.L := by simpa using h1
    refine o_next ?_
    dsimp only
    refine o_seq (o_setF (o_meth ⟨_, rfl, p, dx, _, rfl, hp, wf_no (by decide +kernel) (by decide +kernel) (by decide +kernel) (by decide +kernel) (by decide +kernel), ?_⟩))
    refine o_cons (g_h W rfl hp (o_cons (letval (fun R r => g_t W rfl hp r) (fun R r => o_cons ⟨_, rfl, o_nil r⟩) tab w.good hx (o_nil ?_))))
    have fR := fold_R w.good w.inB
    have vR := val_r w.good hx
    refine ⟨p, tp, fl, bl, dx, _, _, _, m, t, rfl, hp, tab, w.good, fR, val_R w.good hx, fun H1 h1 h2 => ?_⟩
    refine ⟨_, rfl, p, ca 20, dx, _, rfl, h1, W.c, W.h, by show 5 < 1000; decide, ?_⟩
    rw [put_h]
    dsimp only
    have kt1 : Kt [p] H (upd H1 p (.ins (ca 20) dx (wf tp fl bl (t.mul (t.fold back) (t.val x)) (m + if 0 ≤ t.fold back ∧ 0 ≤ t.val x then 1 else 0)))) := (kt_of (o' := .lst []) hp h2).ins h1 (by simp)
    have hb := kt1.1 _ _ w.bk (by simp [Ne.symm w.n2])
    have hp2 : (upd H1 p (.ins (ca 20) dx (wf tp fl bl (t.mul (t.fold back) (t.val x)) (m + if 0 ≤ t.fold back ∧ 0 ≤ t.val x then 1 else 0)))) p = some _ := g_same
    generalize upd H1 p _ = H2 at *
    have lb := w.len
    refine o_drop (o_bm (g_b W rfl hp2 ⟨.inl ⟨rfl, _, SqL.of hb⟩, o_cons ⟨_, rfl, o_nil (r_app hb (szl (by simp; omega)) ?_)⟩⟩))
    have kt2 := (kt1.sub (S' := [p, bl]) (by simp)).lst (o := .lst (back.map V.str ++ [.str x])) hb (by simp)
    have em : (if 0 ≤ t.fold back ∧ 0 ≤ t.val x then (1 : Int) else 0) = if back = [] then 0 else 1 := by
      by_cases e : back = []
      · subst e; rw [if_pos rfl, if_neg (by rw [fold_nil]; omega)]
      · rw [if_neg e, if_pos ⟨fold_pos w.good w.inB e, vR.1⟩]
    refine k hx _ kt2 ⟨⟨tp, dx, ?_, tab.tk kt2.2⟩, ?_, ?_, w.n1, w.n2, w.n3, w.inF, fun y hy => ?_, w.good, by simp; omega⟩
    · rw [fold_snoc, ← em]
      exact g_mut w.n2 hp2
    · obtain ⟨fvs, f, fa⟩ := w.fr
      exact ⟨fvs, kt2.1 _ _ f (by simp [Ne.symm w.n1, w.n3]), fa.tk kt2.2⟩
    · rw [upd_same, List.map_append]; rfl
    · rcases List.mem_append.mp hy with hy | hy
      · exact w.inB y hy
      · rw [List.mem_singleton.mp hy]; exact hx
theorem last_split {α : Type} : ∀ l : List α, l ≠ [] → ∃ r x, l = r ++ [x]
  | [], h => absurd rfl h
  | [x], _ => ⟨[], x, rfl⟩
  | x :: y :: r, _ => by
    obtain ⟨q, z, e⟩ := last_split (y :: r) (by simp)
    exact ⟨x :: q, z, by rw [e]; rfl⟩
/-- pop of what ends so -/
theorem r_popE {l : Addr} {ys : List V} {v : V} (h : H l = some (.lst (ys ++ [v]))) (q : Q v (upd H l (.lst ys))) : rPop (.ref l) [] H Q := by
  refine ⟨l, ys ++ [v], v, rfl, rfl, h, by simp, ?_⟩
  rw [List.dropLast_concat]
  exact q
theorem pure_Window_turn (W : WT K ca) (vs : List V) (H : Hp) (Q : VK) (E : XK) (h : sp_Window_turn K ca vs H Q E) : t_Window_turn K ca (fin Q) (start ["self", "value", "letter"] vs) H := by
  obtain ⟨p, fl, bl, t, back, m, rfl, w, hne, k⟩ := h
  obtain ⟨tp, dx, hp, tab⟩ := w.ob
  obtain ⟨fvs, f, fa⟩ := w.fr
  have ef : fvs = [] := by
    have := fa.len
    simpa using this
  subst ef
  unfold t_Window_turn
  refine o_seq (o_asg (o_un (o_c ⟨1, rfl, ?_⟩)))
  refine o_seq ?_
  refine ⟨fun mm σ1 H1 => ∃ (bs fs : List Str) (fv : List V) (c : Option V), mm = bs.length ∧ back = bs ++ fs ∧ σ1 = [some (.ref p), some (.int (t.fold fs)), c] ∧ Kt [p, fl, bl] H H1 ∧ H1 p = some (.ins (ca 20) dx (wf tp fl bl (t.fold back) (m + ((fs.length - 1 : Nat) : Int)))) ∧
      H1 bl = some (.lst (bs.map V.str)) ∧ H1 fl = some (.lst fv) ∧ FrA H1 t fv.reverse fs, ⟨back.length, back, [], [], none, rfl, by simp, rfl, Kt.refl _ _, by simpa using hp, w.bk, f, fa⟩, ?_⟩
  rintro mm σ1 H1 ⟨bs, fs, fv, c, rfl, eb, rfl, kt, hp1, hb1, hf1, fa1⟩
  have lb := w.len
  have lbs : bs.length + fs.length ≤ 10000 := by
    have := congrArg List.length eb
    rw [List.length_append] at this
    simp at lb
    omega
  refine o_test (o_op (o_cb (o_cons (g_b W rfl hp1 (o_nil (r_lenL (SqL.of hb1) (o_c (r_gt (o_bl ?_)))))))))
  rw [List.length_map]
  refine if_b (fun h1 => ?_) (fun h1 => ?_)
  · have h1 := of_decide_eq_true h1
    obtain ⟨bs', x, rfl⟩ := last_split bs (by rintro rfl; simp at h1)
    have hx : x ∈ t.L := w.inB x (by rw [eb]; simp)
    have hfs : ∀ y ∈ fs, y ∈ t.L := fun y hy => w.inB y (by rw [eb]; simp [hy])
    rw [List.map_append] at hb1
    refine ⟨fun σ2 H2 => ∃ (fv : List V) (c : Option V), σ2 = [some (.ref p), some (.int (t.fold (x :: fs))), c] ∧ Kt [p, fl, bl] H H2 ∧ H2 p = some (.ins (ca 20) dx (wf tp fl bl (t.fold back) (m + (((x :: fs).length - 1 : Nat) : Int)))) ∧
      H2 bl = some (.lst (bs'.map V.str)) ∧ H2 fl = some (.lst fv) ∧ FrA H2 t fv.reverse (x :: fs), ?_, ?_⟩
    · rintro σ2 H2 ⟨fv2, c2, r1, r2, r3, r4, r5, r6⟩
      exact ⟨bs'.length, by simp, bs', x :: fs, fv2, c2, rfl, by rw [eb]; simp, r1, r2, r3, r4, r5, r6⟩
    · refine o_seq (o_asg (o_bm0 (g_b W rfl hp1 ⟨.inl ⟨rfl, _, SqL.of hb1⟩, r_popE hb1 ?_⟩)))
      have kt2 := kt.lst (o := .lst (bs'.map V.str)) hb1 (by simp)
      have tab2 := tab.tk kt2.2
      have hp2 := g_mut (o := .lst (bs'.map V.str)) w.n2 hp1
      have hf2 := g_mut (o := .lst (bs'.map V.str)) w.n3 hf1
      have hb2 : (upd H1 bl (.lst (bs'.map V.str))) bl = some (.lst (bs'.map V.str)) := g_same
      have fa2 := fa1.tk ((Tk.refl H1).lst (o := .lst (bs'.map V.str)) hb1)
      generalize upd H1 bl _ = H2 at *
      dsimp only
      refine o_seq (o_asg (o_meth ⟨_, rfl, p, dx, _, rfl, hp2, wf_no (by decide +kernel) (by decide +kernel) (by decide +kernel) (by decide +kernel) (by decide +kernel), ?_⟩))
      refine o_cons (letval (fun R r => g_t W rfl hp2 r) (fun R r => o_cons ⟨_, rfl, o_nil r⟩) tab2 w.good hx (o_cons ⟨_, rfl, o_nil ?_⟩))
      have fR := fold_R w.good hfs
      have vR := val_r w.good hx
      refine ⟨p, tp, fl, bl, dx, _, _, _, _, t, rfl, hp2, tab2, w.good, val_R w.good hx, fR, fun H3 h3 h4 => ?_⟩
      rw [← fold_cons w.good hx hfs]
      have kt3 := kt2.trans ((kt_of (o' := .lst []) hp2 h4).sub (S' := [p, fl, bl]) (by simp))
      have hf3 := kt_ne h4 (Ne.symm w.n1) hf2
      have hb3 := kt_ne h4 (Ne.symm w.n2) hb2
      have fa3 := fa2.tk (kt_of (o' := .lst []) hp2 h4).2
      have em : m + ((fs.length - 1 : Nat) : Int) + (if 0 ≤ t.val x ∧ 0 ≤ t.fold fs then 1 else 0) = m + (((x :: fs).length - 1 : Nat) : Int) := by
        by_cases e : fs = []
        · subst e; rw [if_neg (by rw [fold_nil]; omega)]; simp
        · have := List.length_pos_iff.mpr e
          rw [if_pos ⟨vR.1, fold_pos w.good hfs e⟩]
          simp only [List.length_cons]
          omega
      rw [em] at h3
      dsimp only
      refine o_drop (o_bm (g_f W rfl h3 ⟨.inl ⟨rfl, _, SqL.of hf3⟩, o_cons (o_tup (o_cons ⟨_, rfl, o_cons ⟨_, rfl, o_nil ⟨sz (by simp), fun q hq => o_nil ?_⟩⟩⟩))⟩))
      have hf4 := g_new (o := .tup [.str x, .int (t.fold (x :: fs))]) hq hf3
      refine r_app hf4 (szl ?_) ?_
      · have := fa3.len
        rw [List.length_reverse] at this
        simp at lbs
        omega
      · have kt4 := (kt3.new (o := .tup [.str x, .int (t.fold (x :: fs))]) hq).lst (o := .lst (fv ++ [.ref q])) hf4 (by simp)
        have nq : q ≠ fl := Ne.symm (ne_of_none hf3 hq)
        refine ⟨fv ++ [.ref q], _, rfl, kt4, g_mut w.n1 (g_new hq h3), g_mut (Ne.symm w.n3) (g_new hq hb3), g_same, ?_⟩
        rw [List.reverse_append]
        refine ⟨⟨q, rfl, g_mut nq g_same⟩, ?_⟩
        exact fa3.tk (((Tk.refl H3).new (o := .tup [.str x, .int (t.fold (x :: fs))]) hq).lst (o := .lst (fv ++ [.ref q])) hf4)
  · have h1 := of_decide_eq_false h1
    have e0 : bs = [] := List.eq_nil_of_length_eq_zero (by omega)
    subst e0
    have eb : back = fs := by simpa using eb
    subst eb
    dsimp only
    refine o_setF (o_un (o_c ⟨1, rfl, ?_⟩))
    refine ⟨_, rfl, p, ca 20, dx, _, rfl, hp1, W.c, W.h, by show 5 < 1000; decide, ?_⟩
    rw [put_h]
    have kt2 := kt.ins (o := .ins (ca 20) dx (wf tp fl bl (-1) (m + ((back.length - 1 : Nat) : Int)))) hp1 (by simp)
    have pos := List.length_pos_iff.mpr hne
    refine k _ kt2 ⟨⟨tp, dx, ?_, tab.tk kt2.2⟩, ⟨fv, g_mut (Ne.symm w.n1) hf1, fa1.tk ((Tk.refl H1).ins hp1)⟩, g_mut (Ne.symm w.n2) hb1, w.n1, w.n2, w.n3, w.inB, by simp, w.good, by simpa using w.len⟩
    rw [upd_same]
    have e2 : ((back.length - 1 : Nat) : Int) = (back.length : Int) - 1 := by omega
    rw [fold_nil, e2]
theorem pure_Window_pop (W : WT K ca) (vs : List V) (H : Hp) (Q : VK) (E : XK) (h : sp_Window_pop K ca vs H Q E) : t_Window_pop K ca E (fin Q) (start ["self", "letter", "_"] vs) H := by
  obtain ⟨p, fl, bl, t, front, back, m, rfl, w, kE, k⟩ := h
  obtain ⟨tp, dx, hp, tab⟩ := w.ob
  obtain ⟨fvs, f, fa⟩ := w.fr
  have lf := fa.len
  rw [List.length_reverse] at lf
  unfold t_Window_pop
  -- what is left once the front has a letter
  have rest : ∀ (x : Str) (fr bk : List Str) (m1 : Int) H1, Kt [p, fl, bl] H H1 → WinAt K ca H1 t p fl bl (x :: fr) bk m1 → (∀ H2, Kt [p, fl, bl] H H2 → WinAt K ca H2 t p fl bl fr bk m1 → Q (.str x) H2) →
      tSeq (tAsg (tBM0 K "list" rPop (tFld K (tVar 0) "front")) (gTup K 2 (gCons (gName 1) (gCons (gName 2) gNil)))) (tRet (tVar 1)) (fin Q) (start ["self", "letter", "_"] [V.ref p]) H1 := fun x fr bk m1 H1 kt w1 kk => by
    obtain ⟨tp, dx, hp1, tab1⟩ := w1.ob
    obtain ⟨fv, f1, fa1⟩ := w1.fr
    cases er : fv.reverse with
    | nil => rw [er] at fa1; exact fa1.elim
    | cons v vs =>
      rw [er] at fa1
      obtain ⟨⟨a, rfl, ha⟩, far⟩ := fa1
      have efv : fv = vs.reverse ++ [.ref a] := by
        have := congrArg List.reverse er
        rwa [List.reverse_reverse, List.reverse_cons] at this
      subst efv
      refine o_seq (o_asgG (o_bm0 (g_f W rfl hp1 ⟨.inl ⟨rfl, _, SqL.of f1⟩, r_popE f1 ?_⟩)))
      have kt2 := kt.lst (o := .lst vs.reverse) f1 (by simp)
      have tk2 := (Tk.refl H1).lst (o := .lst vs.reverse) f1
      refine ⟨a, _, rfl, SqT.of (tk2.1 _ _ ha), rfl, _, _, rfl, _, _, rfl, rfl, ?_⟩
      dsimp only
      refine o_ret ⟨_, rfl, kk _ kt2 ⟨⟨tp, dx, g_mut w1.n1 hp1, tab1.tk tk2⟩, ⟨_, g_same, by rw [List.reverse_reverse]; exact far.tk tk2⟩, g_mut (Ne.symm w1.n3) w1.bk, w1.n1, w1.n2, w1.n3, fun y hy => w1.inF y (by simp [hy]), w1.inB, w1.good, ?_⟩⟩
      have := w1.len
      simp at this
      omega
  refine o_seq (o_if (o_test (o_op (o_op ?_))))
  refine o_cb (o_cons (g_f W rfl hp (o_nil (r_lenL (SqL.of f) ?_))))
  refine o_cb (o_cons (g_b W rfl hp (o_nil (r_lenL (SqL.of w.bk) (r_add (o_c (r_eq rfl ?_)))))))
  rw [lf, List.length_map]
  refine o_bl (if_b (fun h1 => ?_) (fun h1 => ?_))
  · have h1 := V.int.inj (of_decide_eq_true h1)
    have e1 : front = [] := List.eq_nil_of_length_eq_zero (by omega)
    have e2 : back = [] := List.eq_nil_of_length_eq_zero (by omega)
    subst e1 e2
    exact kE rfl
  · have h1 : ¬ ((front.length : Int) + (back.length : Int) = 0) := fun z => of_decide_eq_false h1 (by rw [z])
    refine o_next ?_
    dsimp only
    refine o_seq (o_if (o_test (o_op ?_)))
    refine o_cb (o_cons (g_f W rfl hp (o_nil (r_lenL (SqL.of f) (o_c (r_eq rfl ?_))))))
    rw [lf]
    refine o_bl (if_b (fun h2 => ?_) (fun h2 => ?_))
    · have h2 := V.int.inj (of_decide_eq_true h2)
      have e1 : front = [] := List.eq_nil_of_length_eq_zero (by omega)
      subst e1
      cases back with
      | nil => simp at h1
      | cons x fr =>
        refine o_drop (o_meth ⟨_, rfl, p, dx, _, rfl, hp, wf_no (by decide +kernel) (by decide +kernel) (by decide +kernel) (by decide +kernel) (by decide +kernel), o_nil ?_⟩)
        refine ⟨p, fl, bl, t, x :: fr, m, rfl, w, by simp, fun H1 kt w1 => ?_⟩
        dsimp only
        refine rest x fr [] _ H1 kt w1 fun H2 kt2 w2 => k x fr [] (fr.length : Int) rfl H2 kt2 ?_
        have e : m + (((x :: fr).length : Int) - 1) = m + (fr.length : Int) := by simp
        rw [e] at w2
        exact w2
    · have h2 : ¬ ((front.length : Int) = 0) := fun z => of_decide_eq_false h2 (by rw [z])
      cases front with
      | nil => simp at h2
      | cons x fr =>
        refine o_next ?_
        dsimp only
        refine rest x fr back m H (Kt.refl _ _) w fun H2 kt2 w2 => k x fr back 0 rfl H2 kt2 ?_
        rw [Int.add_zero]
        exact w2
end
end K92
namespace K92
open PySem PySem.Spec PyProof.Rows L2 Sf
section
variable {K : PySem.W.Frag} {ca : Nat → Addr} {σ : L2.St} {H H' : Hp} {p tp fl bl dx : Addr} {be m : Int} {i : Nat} {Q : VK} {D : Ends} {t : Tb} {x : Str}
theorem at_last {α : Type} {l : List α} {z : α} (h : l[l.length - 1]? = some z) : atI l (-1) = some z := by
  have hl := (List.getElem?_eq_some_iff.mp h).1
  have e : (-1 + (l.length : Int)).toNat = l.length - 1 := by omega
  unfold atI ixN
  rw [if_neg (by omega), if_pos (by omega), e]
  exact h
theorem FrA.get : ∀ {vs : List V} {xs : List Str} {k : Nat} {v : V}, FrA H t vs xs → vs[k]? = some v → ∃ a x, xs[k]? = some x ∧ v = .ref a ∧ H a = some (.tup [.str x, .int (t.fold (xs.drop k))])
  | [], _, k, v, _, h => by simp at h
  | _ :: _, x :: xs, 0, v, ⟨⟨a, e, s⟩, r⟩, h => ⟨a, x, rfl, by rw [← e]; exact (Option.some.inj h).symm, s⟩
  | _ :: _, _ :: _, k + 1, v, ⟨_, r⟩, h => by simpa using r.get (by simpa using h)
  | _ :: _, [], _, _, h, _ => h.elim
theorem pure_Window_value (W : WT K ca) (vs : List V) (H : Hp) (Q : VK) (E : XK) (h : sp_Window_value K ca vs H Q E) : t_Window_value K ca (fin Q) (start ["self"] vs) H := by
  obtain ⟨p, fl, bl, t, front, back, m, rfl, w, k⟩ := h
  obtain ⟨tp, dx, hp, tab⟩ := w.ob
  obtain ⟨fvs, f, fa⟩ := w.fr
  have lf := fa.len
  rw [List.length_reverse] at lf
  have fR := fold_R w.good w.inF
  have bR := fold_R w.good w.inB
  unfold t_Window_value
  refine o_ret (o_meth ⟨_, rfl, p, dx, _, rfl, hp, wf_no (by decide +kernel) (by decide +kernel) (by decide +kernel) (by decide +kernel) (by decide +kernel), ?_⟩)
  have go : ∀ z, z = t.fold front → tCons (tFld K (tVar 0) "behind") tNil (start ["self"] [V.ref p]) H fun xs H2 => sp_Window_product K ca (.ref p :: .int z :: xs) H2 Q E0 := fun z ez => by
    subst ez
    refine o_cons (g_h W rfl hp (o_nil ⟨p, tp, fl, bl, dx, _, _, _, m, t, rfl, hp, tab, w.good, fR, bR, fun H1 h1 h2 => ?_⟩))
    rw [← fold_app w.good w.inF w.inB]
    have kt := kt_of (o' := .lst []) hp h2
    have em : (if 0 ≤ t.fold front ∧ 0 ≤ t.fold back then (1 : Int) else 0) = if front ≠ [] ∧ back ≠ [] then 1 else 0 := by
      by_cases e : front = []
      · subst e; rw [if_neg (by rw [fold_nil]; omega), if_neg (by simp)]
      · by_cases e2 : back = []
        · subst e2; rw [if_neg (by rw [fold_nil]; omega), if_neg (by simp)]
        · rw [if_pos ⟨fold_pos w.good w.inF e, fold_pos w.good w.inB e2⟩, if_pos ⟨e, e2⟩]
    rw [em] at h1
    exact k H1 kt ⟨⟨tp, dx, h1, tab.tk kt.2⟩, ⟨fvs, kt.1 _ _ f (by simp [Ne.symm w.n1]), fa.tk kt.2⟩, kt.1 _ _ w.bk (by simp [Ne.symm w.n2]), w.n1, w.n2, w.n3, w.inF, w.inB, w.good, w.len⟩
  refine o_cons (o_ifx (o_test (o_op ?_)))
  refine o_cb (o_cons (g_f W rfl hp (o_nil (r_lenL (SqL.of f) (o_c (r_gt (o_bl ?_)))))))
  refine if_b (fun h1 => ?_) (fun h1 => ?_)
  · have h1 := of_decide_eq_true h1
    cases front with
    | nil => rw [lf] at h1; simp at h1
    | cons x fr =>
      have hv : fvs.reverse[0]? = some (fvs.reverse[0]'(by rw [List.length_reverse]; omega)) := List.getElem?_eq_getElem _
      obtain ⟨a, y, e1, e2, e3⟩ := fa.get hv
      have e4 : fvs[fvs.length - 1]? = some (.ref a) := by
        rw [← e2, ← hv, List.getElem?_reverse (by omega)]
        rfl
      have e5 : y = x := (Option.some.inj e1).symm
      subst e5
      refine o_op (o_op (g_f W rfl hp (o_un (o_c ⟨1, rfl, r_ixL (SqL.of f) (at_last e4) (o_c (r_ixT (SqT.of e3) atZ1 ?_))⟩))))
      exact go _ rfl
  · have h1 := of_decide_eq_false h1
    have e0 : front = [] := List.eq_nil_of_length_eq_zero (by omega)
    refine o_un (o_c ⟨1, rfl, ?_⟩)
    exact go _ (by rw [e0]; rfl)
theorem pure_Window_made (W : WT K ca) (vs : List V) (H : Hp) (Q : VK) (E : XK) (h : sp_Window_made K ca vs H Q E) : t_Window_made K ca (fin Q) (start ["self"] vs) H := by
  obtain ⟨p, fl, bl, t, front, back, m, rfl, w, q⟩ := h
  obtain ⟨tp, dx, hp, tab⟩ := w.ob
  unfold t_Window_made
  exact o_ret (g_m W rfl hp q)
/-- what a walk over the front from behind gives, letter by letter -/
def outs (t : Tb) (g : Str → Int → V) : List Str → List V
  | [] => []
  | x :: r => g x (t.fold (x :: r)) :: outs t g r
theorem outs_at {g : Str → Int → V} : ∀ {l : List Str} {k : Nat} {x : Str}, l[k]? = some x → (outs t g l)[k]? = some (g x (t.fold (l.drop k)))
  | _ :: _, 0, x, h => by rw [← Option.some.inj h]; rfl
  | _ :: r, k + 1, x, h => by simpa [outs] using outs_at (g := g) (l := r) (k := k) (by simpa using h)
  | [], k, x, h => by simp at h
theorem outs_len {g : Str → Int → V} : ∀ {l : List Str}, (outs t g l).length = l.length
  | [] => rfl
  | _ :: r => by simp [outs, outs_len (l := r)]
theorem rev_lc (W : WT K ca) {front back : List Str} {c1 c2 : Option V} {te : TE} (g : Str → Int → V) (w : WinAt K ca H t p fl bl front back m) (he : ∀ x v H1 (R : VK), R (g x v) H1 → te [some (.ref p), some (.str x), some (.int v)] H1 R)
    (q : ∀ D H', Kp [] H H' → H' D = some (.lst (outs t g front)) → Q (.ref D) H') : tLc (iRev K (tCons (tFld K (tVar 0) "front") tNil)) (gTup K 2 (gCons (gName 1) (gCons (gName 2) gNil))) tYes te [1, 2] [some (.ref p), c1, c2] H Q := by
  obtain ⟨tp, dx, hp, tab⟩ := w.ob
  obtain ⟨fvs, f, fa⟩ := w.fr
  have lf := fa.len
  rw [List.length_reverse] at lf
  have wl := w.len
  unfold tLc iRev
  refine o_cons (g_f W rfl hp (o_nil ⟨fl, fvs, rfl, SqL.of f, fun D hD => ?_⟩))
  refine lc_it walk_rev (fun i H1 => Kp [] H H1 ∧ H1 D = some (.lst ((outs t g front).take i))) ⟨kp_new hD, by rw [upd_same]; simp⟩ (fun i H1 _ ⟨k1, _⟩ => SqL.of (k1 _ _ f (by simp))) (fun i v H1 H2 hi ⟨k1, a1⟩ y => ?_) fun H1 ⟨k1, a1⟩ => q D H1 k1 ?_
  · obtain ⟨rfl, hv⟩ := y
    have hr : fvs.reverse[i]? = some v := by rw [List.getElem?_reverse hi]; exact hv
    obtain ⟨a, x, e1, e2, e3⟩ := fa.get hr
    subst e2
    refine ⟨a, _, rfl, SqT.of (k1 _ _ e3 (by simp)), rfl, _, _, rfl, _, _, rfl, rfl, rfl, ?_⟩
    unfold tYes
    dsimp only
    rw [if_pos rfl]
    refine he x _ _ _ ⟨_, a1, szl ?_, k1.own hD, ?_⟩
    · rw [List.length_take, outs_len]; omega
    · rw [upd_same, take_more (outs_at e1)]
  · rw [a1, List.take_of_length_le (by rw [outs_len]; omega)]
theorem outs_str : ∀ l : List Str, outs t (fun x _ => .str x) l = l.map V.str
  | [] => rfl
  | x :: r => by rw [outs, outs_str r]; rfl
theorem outs_int : ∀ l : List Str, outs t (fun _ v => .int v) l = (t.sfx l).map V.int
  | [] => rfl
  | x :: r => by rw [outs, outs_int r]; rfl
theorem pure_Window_letters (W : WT K ca) (vs : List V) (H : Hp) (Q : VK) (E : XK) (h : sp_Window_letters K ca vs H Q E) : t_Window_letters K ca (fin Q) (start ["self", "letter", "_"] vs) H := by
  obtain ⟨p, fl, bl, t, front, back, m, rfl, w, k⟩ := h
  obtain ⟨tp, dx, hp, tab⟩ := w.ob
  have wl := w.len
  unfold t_Window_letters
  refine o_ret (o_cb (o_cons (o_op (rev_lc W (fun x _ => .str x) w (fun x v H1 R r => ⟨_, rfl, r⟩) fun D H1 k1 hD => ?_))))
  rw [outs_str] at hD
  refine g_b W rfl (k1 _ _ hp (by simp)) (r_cat hD (k1 _ _ w.bk (by simp)) (sz (by simp; omega)) fun l hl => o_nil (r_tupL (SqL.of g_same) fun l2 hl2 => ?_))
  refine k _ _ ((k1.new hl).new hl2) (.tup (SqT.of g_same) ?_)
  rw [← List.map_append]
  exact dps_strs _
theorem pure_Window_stored (W : WT K ca) (vs : List V) (H : Hp) (Q : VK) (E : XK) (h : sp_Window_stored K ca vs H Q E) : t_Window_stored K ca (fin Q) (start ["self", "_", "value"] vs) H := by
  obtain ⟨p, fl, bl, t, front, back, m, rfl, w, k⟩ := h
  obtain ⟨tp, dx, hp, tab⟩ := w.ob
  unfold t_Window_stored
  refine o_ret (o_tup (o_cons (o_cb (o_cons (rev_lc W (fun _ v => .int v) w (fun x v H1 R r => ⟨_, rfl, r⟩) fun D H1 k1 hD => ?_)))))
  rw [outs_int] at hD
  refine o_nil (r_tupL (SqL.of hD) fun l hl => ?_)
  have k2 := k1.new (o := .tup ((t.sfx front).map V.int)) hl
  refine o_cons (g_h W rfl (k2 _ _ hp (by simp)) (o_nil ⟨sz (by simp), fun l2 hl2 => k _ _ (k2.new hl2) ?_⟩))
  exact .tup (SqT.of g_same) (.cons (.tup (SqT.of (g_new hl2 g_same)) (dps_ints _)) (.cons (.int _) .nil))
/-! ### values of logs -/
theorem pure_law_value (vs : List V) (H : Hp) (Q : VK) (E : XK) (h : sp_law_value K ca vs H Q E) : t_law_value K ca (fin Q) (start ["table", "log", "value", "letter"] vs) H := by
  obtain ⟨tp, lp, t, l, rfl, tab, g, hl, ln, hin, k⟩ := h
  unfold t_law_value
  refine o_seq (o_asg (o_un (o_c ⟨1, rfl, ?_⟩)))
  refine o_seq ?_
  unfold tFor iTup
  refine ⟨_, rfl, lp, rfl, ⟨_, hl⟩, ?_⟩
  refine for_tup (xs := l.map V.str) (fun i σ' H1 => ∃ c, σ' = [some (.ref tp), some (.ref lp), some (.int (t.fold (l.take i))), c] ∧ Kp [] H H1) ⟨_, rfl, Kp.refl _ _⟩ (fun i σ' H1 _ ⟨_, _, k1⟩ => k1.sqT (by simp) hl) (fun i v σ' H1 hi ⟨c, e, k1⟩ => ?_) fun σ' H1 ⟨c, e, k1⟩ => ?_
  · subst e
    rw [List.getElem?_map] at hi
    obtain ⟨x, hx, rfl⟩ := Option.map_eq_some_iff.mp hi
    have mx := hin x (List.mem_of_getElem? hx)
    have hin2 : ∀ y ∈ l.take i, y ∈ t.L := fun y hy => hin y (List.mem_of_mem_take hy)
    refine o_gname ?_
    refine o_asg (o_call (o_cons ⟨_, rfl, o_cons ⟨_, rfl, o_cons (letval (fun R r => ⟨_, rfl, r⟩) (fun R r => o_cons ⟨_, rfl, o_nil r⟩) (tab.tk k1.tk) g mx (o_nil (times_use (tab.tk k1.tk) g (fold_R g hin2) (val_R g mx) ?_)))⟩⟩))
    refine ⟨some (.str x), ?_, k1⟩
    rw [take_more hx, fold_snoc]
    rfl
  · subst e
    dsimp only
    refine o_ret ⟨_, rfl, ?_⟩
    rw [List.length_map, List.take_of_length_le (Nat.le_refl _)]
    exact k _ k1
end
end K92
namespace K92
open PySem PySem.Spec PyProof.Rows L2 Sf
def preL (acc : List Int) : Sum Bool (List Int) → Sum Bool (List Int)
  | .inl e => .inl e
  | .inr l => .inr (acc ++ l)
theorem preL_nil (s : Sum Bool (List Int)) : preL [] s = s := by cases s <;> rfl
theorem preL_pre (acc : List Int) (c : Int) (s : Sum Bool (List Int)) : preL acc (pre c s) = preL (acc ++ [c]) s := by
  cases s with
  | inl e => rfl
  | inr l => simp [preL, pre]
theorem drop_more {α : Type} : ∀ {l : List α} {i : Nat} {x : α}, l[i]? = some x → l.drop i = x :: l.drop (i + 1)
  | _ :: _, 0, x, h => by rw [← Option.some.inj h]; rfl
  | _ :: r, i + 1, x, h => by simpa using drop_more (l := r) (i := i) (by simpa using h)
  | [], i, x, h => by simp at h
section
variable {K : PySem.W.Frag} {ca : Nat → Addr} {H : Hp} {Q : VK} {f b : Int} {r : List Str}
theorem co_in : costs f b ("in" :: r) = pre (if 0 < b then 1 else 0) (costs f (b + 1) r) := by rw [costs]; exact if_pos rfl
theorem co_ask : costs f b ("ask" :: r) = pre (if 0 < f ∧ 0 < b then 1 else 0) (costs f b r) := by
  rw [costs, if_neg (by decide +kernel), if_pos rfl]
theorem co_out0 (h : f + b = 0) : costs f b ("out" :: r) = .inl true := by rw [costs, if_neg (by decide +kernel), if_neg (by decide +kernel), if_pos rfl, if_pos h]
theorem co_out1 (h : ¬ f + b = 0) (h2 : f = 0) : costs f b ("out" :: r) = pre (b - 1) (costs (b - 1) 0 r) := by rw [costs, if_neg (by decide +kernel), if_neg (by decide +kernel), if_pos rfl, if_neg h, if_pos h2]
theorem co_out2 (h : ¬ f + b = 0) (h2 : ¬ f = 0) : costs f b ("out" :: r) = pre 0 (costs (f - 1) b r) := by rw [costs, if_neg (by decide +kernel), if_neg (by decide +kernel), if_pos rfl, if_neg h, if_neg h2]
theorem co_bad {m : Str} (h : ¬ m ∈ (["in", "out", "ask"] : List Str)) : costs f b (m :: r) = .inl false := by
  have h' : m ≠ "in" ∧ m ≠ "out" ∧ m ≠ "ask" := by simpa using h
  rw [costs, if_neg h'.1, if_neg h'.2.2, if_neg h'.2.1]
/-- where a walk over the moves stands -/
structure CI (H0 : Hp) (ms : List Str) (fo : Addr) (f b : Int) (acc : List Int) (i : Nat) (H1 : Hp) : Prop where
  f0 : 0 ≤ f
  b0 : 0 ≤ b
  kp : Kp [] H0 H1
  at_ : H1 fo = some (.lst (acc.map V.int))
  len : acc.length = i
  eq : costs 0 0 ms = preL acc (costs f b (ms.drop i))
theorem CI.app {H0 H1 : Hp} {ms : List Str} {fo : Addr} {f b f2 b2 c : Int} {acc : List Int} {i : Nat} {x : Str} (s : CI H0 ms fo f b acc i H1) (hx : ms[i]? = some x) (hn : H0 fo = none) (hf : 0 ≤ f2) (hb : 0 ≤ b2) (e : costs f b (x :: ms.drop (i + 1)) = pre c (costs f2 b2 (ms.drop (i + 1)))) :
    CI H0 ms fo f2 b2 (acc ++ [c]) (i + 1) (upd H1 fo (.lst (acc.map V.int ++ [.int c]))) := by
  refine ⟨hf, hb, s.kp.own hn, by rw [upd_same, List.map_append]; rfl, by simp [s.len], ?_⟩
  rw [s.eq, drop_more hx, e, preL_pre]
theorem CI.add {H0 H1 : Hp} {ms : List Str} {fo : Addr} {f b c : Int} {acc : List Int} {i : Nat} (s : CI H0 ms fo f b acc i H1) (hl : i < 1000) {σ : L2.St} {D : Ends} {k : Nat} (h1 : σ[1]? = some (some (.ref fo))) (h2 : σ[k]? = some (some (.int c))) (q : D.nx σ (upd H1 fo (.lst (acc.map V.int ++ [.int c])))) :
    tDrop (tBM K "list" rAppend (tVar 1) (tCons (tVar k) tNil)) D σ H1 :=
  o_drop (o_bm ⟨_, h1, .inl ⟨rfl, _, SqL.of s.at_⟩, o_cons ⟨_, h2, o_nil (r_app s.at_ (szl (by rw [List.length_map, s.len]; omega)) q)⟩⟩)
theorem pure_cost_of (hM : ∀ H, SqT K H (ca 0) [.str "in", .str "out", .str "ask"]) (vs : List V) (H : Hp) (Q : VK) (E : XK) (h : sp_cost_of K ca vs H Q E) : t_cost_of K ca E (fin Q) (start ["moves", "found", "move", "front", "back", "cost"] vs) H := by
  obtain ⟨a, ms, rfl, ha, hl, kF, kM, k⟩ := h
  unfold t_cost_of
  refine o_seq (o_asgG (o_tup (o_cons (o_c (o_cons (o_c (o_nil ⟨sz (by simp), fun q hq => ?_⟩)))))))
  refine ⟨q, _, rfl, SqT.of g_same, rfl, _, _, rfl, _, _, rfl, rfl, ?_⟩
  have k1 := kp_new (o := .tup [.int 0, .int 0]) hq
  generalize upd H q _ = H1 at *
  dsimp only
  refine o_seq (o_asg (o_lst (o_nil ⟨sz (by simp), fun fo hfo => ?_⟩)))
  have k2 := k1.new (o := .lst []) hfo
  have hfo0 := k1.free (by simp) hfo
  have hf2 : (upd H1 fo (.lst [])) fo = some (.lst []) := g_same
  generalize upd H1 fo _ = H2 at *
  dsimp only
  refine o_seq ?_
  unfold tFor iList
  refine ⟨_, rfl, a, rfl, ⟨_, k2.sqL (by simp) ha⟩, ?_⟩
  refine for_list (xs := ms.map V.str) (fun i σ' H' => ∃ mv c f b acc, σ' = [some (.ref a), some (.ref fo), mv, some (.int f), some (.int b), c] ∧ CI H ms fo f b acc i H') ⟨_, _, 0, 0, [], rfl, Int.le_refl _, Int.le_refl _, k2, hf2, rfl, by rw [preL_nil]; rfl⟩ (fun i σ' H' _ ⟨_, _, _, _, _, _, s⟩ => s.kp.sqL (by simp) ha) (fun i v σ' H' hi ⟨mv, c, f, b, acc, e, s⟩ => ?_) fun σ' H' ⟨mv, c, f, b, acc, e, s⟩ => ?_
  · subst e
    rw [List.getElem?_map] at hi
    obtain ⟨x, hx, rfl⟩ := Option.map_eq_some_iff.mp hi
    have hi1 : i < 1000 := by have := lt_get hx; omega
    refine o_gname ?_
    have sM := hM H'
    refine o_seq (o_if (o_test (o_op ⟨_, rfl, o_c (r_inStrsT (l := ["in", "out", "ask"]) sM ?_)⟩)))
    rw [if_pos rfl]
    refine o_bl (if_b (fun h1 => ?_) (fun h1 => ?_))
    · refine kF ?_ H' s.kp
      rw [s.eq, drop_more hx, co_bad (by simpa using h1)]
      rfl
    · have h1 : x ∈ (["in", "out", "ask"] : List Str) := Decidable.byContradiction fun z => by rw [decide_eq_false z] at h1; cases h1
      refine o_next ?_
      dsimp only
      walk_at "rd"
      refine if_b (fun h2 => ?_) (fun h2 => ?_)
      · have h2 := V.str.inj (of_decide_eq_true h2)
        subst h2
        walk_at "rd"
        refine ⟨_, rfl, o_c ⟨_, _, rfl, rfl, ?_⟩⟩
        dsimp only
        refine s.add hi1 rfl rfl ⟨_, _, f, b + 1, _, rfl, s.app hx hfo0 s.f0 (by have := s.b0; omega) ?_⟩
        rw [co_in]
        by_cases e : 0 < b
        · rw [if_pos e, if_pos (by simpa using e)]
        · rw [if_neg e, if_neg (by simpa using e)]
      · have h2 : ¬ x = "in" := fun z => of_decide_eq_false h2 (by rw [z])
        walk_at "rd"
        refine if_b (fun h3 => ?_) (fun h3 => ?_)
        · have h3 := V.str.inj (of_decide_eq_true h3)
          subst h3
          walk_at "rd"
          have fin2 : ∀ c : Int, c = (if 0 < f ∧ 0 < b then 1 else 0) → CI H ms fo f b (acc ++ [c]) (i + 1) (upd H' fo (.lst (acc.map V.int ++ [.int c]))) := fun c hc => s.app hx hfo0 s.f0 s.b0 (by rw [co_ask, hc])
          refine if_b (fun a1 => ?_) (fun a1 => ?_)
          · have a1 := of_decide_eq_true a1
            refine o_op ⟨_, rfl, o_c (r_gt (o_nil (r_intB ?_)))⟩
            dsimp only
            refine s.add hi1 rfl rfl ⟨_, _, f, b, _, rfl, fin2 _ ?_⟩
            by_cases e : 0 < b
            · rw [if_pos (decide_eq_true e), if_pos ⟨a1, e⟩]
            · rw [if_neg (by simpa using e), if_neg fun z => e z.2]
          · have a1 := of_decide_eq_false a1
            refine o_nil (r_intB ?_)
            dsimp only
            refine s.add hi1 rfl rfl ⟨_, _, f, b, _, rfl, fin2 _ ?_⟩
            exact (if_neg (show ¬ (0 < f ∧ 0 < b) from fun z => a1 z.1)).symm
        · have h3 : ¬ x = "ask" := fun z => of_decide_eq_false h3 (by rw [z])
          have ex : x = "out" := by
            rcases List.mem_cons.mp h1 with z | z
            · exact absurd z h2
            · rcases List.mem_cons.mp z with z | z
              · exact z
              · exact absurd (List.mem_singleton.mp z) h3
          subst ex
          walk_at "rd"
          refine if_b (fun h4 => ?_) (fun h4 => ?_)
          · have h4 := V.int.inj (of_decide_eq_true h4)
            refine kM ?_ H' s.kp
            rw [s.eq, drop_more hx, co_out0 h4]
            rfl
          · have h4 : ¬ f + b = 0 := fun z => of_decide_eq_false h4 (by rw [z])
            walk_at "rd"
            refine if_b (fun h5 => ?_) (fun h5 => ?_)
            · have h5 := V.int.inj (of_decide_eq_true h5)
              walk_at "rd"
              refine ⟨_, _, rfl, ?_⟩
              dsimp only
              refine ⟨_, rfl, o_c ⟨_, _, rfl, rfl, ?_⟩⟩
              dsimp only
              refine s.add hi1 rfl rfl ⟨_, _, b - 1, 0, _, rfl, s.app hx hfo0 (by have := s.f0; have := s.b0; omega) (Int.le_refl _) ?_⟩
              rw [co_out1 h4 h5]
            · have h5 : ¬ f = 0 := fun z => of_decide_eq_false h5 (by rw [z])
              refine o_next ?_
              dsimp only
              refine ⟨_, rfl, o_c ⟨_, _, rfl, rfl, ?_⟩⟩
              dsimp only
              refine s.add hi1 rfl rfl ⟨_, _, f - 1, b, _, rfl, s.app hx hfo0 (by have := s.f0; omega) s.b0 ?_⟩
              rw [co_out2 h4 h5]
  · subst e
    dsimp only
    have e2 : costs 0 0 ms = .inr acc := by
      rw [s.eq, List.length_map, List.drop_of_length_le (Nat.le_refl _)]
      simp [costs, preL]
    refine o_ret (o_cb (o_cons ⟨_, rfl, o_nil (r_tupL (SqL.of s.at_) fun l hl => ?_)⟩))
    exact k acc e2 _ _ (s.kp.new hl) (.tup (SqT.of g_same) (dps_ints _))
theorem CI.new {H0 H1 : Hp} {ms : List Str} {fo q : Addr} {f b : Int} {acc : List Int} {i : Nat} {o : HO} (s : CI H0 ms fo f b acc i H1) (h : H1 q = none) : CI H0 ms fo f b acc i (upd H1 q o) :=
  ⟨s.f0, s.b0, s.kp.new h, g_new h s.at_, s.len, s.eq⟩
theorem pure_law_costs (vs : List V) (H : Hp) (Q : VK) (E : XK) (h : sp_law_costs K ca vs H Q E) : t_law_costs K ca (fin Q) (start ["moves", "found", "move", "front", "back", "cost"] vs) H := by
  obtain ⟨a, ms, rfl, ha, hl, k⟩ := h
  unfold t_law_costs
  refine o_seq (o_asgG (o_tup (o_cons (o_c (o_cons (o_c (o_nil ⟨sz (by simp), fun q hq => ?_⟩)))))))
  refine ⟨q, _, rfl, SqT.of g_same, rfl, _, _, rfl, _, _, rfl, rfl, ?_⟩
  have k1 := kp_new (o := .tup [.int 0, .int 0]) hq
  generalize upd H q _ = H1 at *
  dsimp only
  refine o_seq (o_asg (o_lst (o_nil ⟨sz (by simp), fun fo hfo => ?_⟩)))
  have k2 := k1.new (o := .lst []) hfo
  have hfo0 := k1.free (by simp) hfo
  have hf2 : (upd H1 fo (.lst [])) fo = some (.lst []) := g_same
  generalize upd H1 fo _ = H2 at *
  dsimp only
  refine o_seq ?_
  unfold tFor iList
  refine ⟨_, rfl, a, rfl, ⟨_, k2.sqL (by simp) ha⟩, ?_⟩
  refine for_list (xs := ms.map V.str) (fun i σ' H' => ∃ mv c f b acc, σ' = [some (.ref a), some (.ref fo), mv, some (.int f), some (.int b), c] ∧ CI H ms fo f b acc i H') ⟨_, _, 0, 0, [], rfl, Int.le_refl _, Int.le_refl _, k2, hf2, rfl, by rw [preL_nil]; rfl⟩ (fun i σ' H' _ ⟨_, _, _, _, _, _, s⟩ => s.kp.sqL (by simp) ha) (fun i v σ' H' hi ⟨mv, c, f, b, acc, e, s⟩ => ?_) fun σ' H' ⟨mv, c, f, b, acc, e, s⟩ => ?_
  · subst e
    rw [List.getElem?_map] at hi
    obtain ⟨x, hx, rfl⟩ := Option.map_eq_some_iff.mp hi
    have hi1 : i < 1000 := by have := lt_get hx; omega
    refine o_gname ?_
    refine o_seq (o_if (o_test (o_op ⟨_, rfl, ?_⟩)))
    refine o_lst (o_cons (o_c (o_cons (o_c (o_cons (o_c (o_nil ⟨sz (by simp), fun q hq => ?_⟩)))))))
    refine r_inStrsL (l := ["in", "out", "ask"]) (SqL.of g_same) ?_
    have s := s.new (o := .lst [.str "in", .str "out", .str "ask"]) hq
    generalize upd H' q _ = H' at *
    rw [if_pos rfl]
    refine o_bl (if_b (fun h1 => ?_) (fun h1 => ?_))
    · refine o_ret (o_c (k _ H' s.kp ?_))
      rw [s.eq, drop_more hx, co_bad (by simpa using h1)]
      exact .str _
    · have h1 : x ∈ (["in", "out", "ask"] : List Str) := Decidable.byContradiction fun z => by rw [decide_eq_false z] at h1; cases h1
      refine o_next ?_
      dsimp only
      refine o_seq (o_asg ?_)
      have fin2 : ∀ (y : Str) (c f b f2 b2 : Int) (acc : List Int) (σ' : L2.St), CI H ms fo f b acc i H' → ms[i]? = some y → (∃ mv, σ' = [some (.ref a), some (.ref fo), mv, some (.int f2), some (.int b2), some (.int c)]) → 0 ≤ f2 → 0 ≤ b2 → costs f b (y :: ms.drop (i + 1)) = pre c (costs f2 b2 (ms.drop (i + 1))) →
          tDrop (tBM K "list" rAppend (tVar 1) (tCons (tVar 5) tNil)) { nx := fun σ' H' => ∃ mv c f b acc, σ' = [some (.ref a), some (.ref fo), mv, some (.int f), some (.int b), c] ∧ CI H ms fo f b acc (i + 1) H', rt := Q, bk := tRet (tTup (tCons (tC (.str "told")) (tCons (tCB (rdTuple K) (tCons (tVar 1) tNil)) tNil))) (fin Q), ct := fun σ' H' => ∃ mv c f b acc, σ' = [some (.ref a), some (.ref fo), mv, some (.int f), some (.int b), c] ∧ CI H ms fo f b acc (i + 1) H' } σ' H' := fun y c f b f2 b2 acc σ' s hx he g1 g2 e => by
        obtain ⟨mv, rfl⟩ := he
        exact s.add hi1 rfl rfl ⟨_, _, f2, b2, _, rfl, s.app hx hfo0 g1 g2 e⟩
      -- the first cost
      have first : ∀ R : VK, R (.int (if 0 < f ∧ 0 < b then 1 else 0)) H' → tCB rdInt (tCons (tAndV (tOp rdGt (tVar 3) (tC (.int 0))) (tOp rdGt (tVar 4) (tC (.int 0)))) tNil) [some (.ref a), some (.ref fo), some (.str x), some (.int f), some (.int b), c] H' R := fun R r => by
        walk_at "rd"
        refine if_b (fun a1 => ?_) (fun a1 => ?_)
        · have a1 := of_decide_eq_true a1
          walk_at "rd"
          by_cases e : 0 < b
          · rw [if_pos (by simpa using e)]; rw [if_pos ⟨a1, e⟩] at r; exact r
          · rw [if_neg (by simpa using e)]; rw [if_neg fun z => e z.2] at r; exact r
        · have a1 := of_decide_eq_false a1
          refine o_nil (r_intB ?_)
          rw [if_neg fun z => a1 z.1] at r
          exact r
      refine first _ ?_
      dsimp only
      walk_at "rd"
      refine if_b (fun h2 => ?_) (fun h2 => ?_)
      · have h2 := V.str.inj (of_decide_eq_true h2)
        subst h2
        walk_at "rd"
        rw [if_neg (by decide +kernel)]
        refine o_next (fin2 "in" _ f b f (b + 1) acc _ s hx ⟨_, rfl⟩ s.f0 (by have := s.b0; omega) ?_)
        rw [co_in]
        by_cases e : 0 < b
        · rw [if_pos e, if_pos (by simpa using e)]
        · rw [if_neg e, if_neg (by simpa using e)]
      · have h2 : ¬ x = "in" := fun z => of_decide_eq_false h2 (by rw [z])
        walk_at "rd"
        refine if_b (fun h3 => ?_) (fun h3 => ?_)
        · have h3 := V.str.inj (of_decide_eq_true h3)
          subst h3
          walk_at "rd"
          refine if_b (fun h4 => ?_) (fun h4 => ?_)
          · have h4 := V.int.inj (of_decide_eq_true h4)
            refine o_ret (o_c (k _ H' s.kp ?_))
            rw [s.eq, drop_more hx, co_out0 h4]
            exact .str _
          · have h4 : ¬ f + b = 0 := fun z => of_decide_eq_false h4 (by rw [z])
            walk_at "rd"
            refine if_b (fun h5 => ?_) (fun h5 => ?_)
            · have h5 := V.int.inj (of_decide_eq_true h5)
              walk_at "rd"
              refine ⟨_, _, rfl, ?_⟩
              dsimp only
              refine o_asg (o_op ⟨_, rfl, o_c (r_sub ?_)⟩)
              dsimp only
              refine fin2 "out" _ f b (b - 1) 0 acc _ s hx ⟨_, rfl⟩ (by have := s.f0; have := s.b0; omega) (Int.le_refl _) (co_out1 h4 h5)
            · have h5 : ¬ f = 0 := fun z => of_decide_eq_false h5 (by rw [z])
              refine o_next ?_
              dsimp only
              refine o_asg (o_op ⟨_, rfl, o_c (r_sub ?_)⟩)
              dsimp only
              refine fin2 "out" _ f b (f - 1) b acc _ s hx ⟨_, rfl⟩ (by have := s.f0; omega) s.b0 (co_out2 h4 h5)
        · have h3 : ¬ x = "out" := fun z => of_decide_eq_false h3 (by rw [z])
          have ex : x = "ask" := by
            rcases List.mem_cons.mp h1 with z | z
            · exact absurd z h2
            · rcases List.mem_cons.mp z with z | z
              · exact absurd z h3
              · exact List.mem_singleton.mp z
          subst ex
          refine o_next (fin2 "ask" _ f b f b acc _ s hx ⟨_, rfl⟩ s.f0 s.b0 co_ask)
  · subst e
    dsimp only
    have e2 : costs 0 0 ms = .inr acc := by
      rw [s.eq, List.length_map, List.drop_of_length_le (Nat.le_refl _)]
      simp [costs, preL]
    refine o_ret (o_tup (o_cons (o_c (o_cons (o_cb (o_cons ⟨_, rfl, o_nil (r_tupL (SqL.of s.at_) fun l hl => o_nil ⟨sz (by simp), fun l2 hl2 => ?_⟩)⟩))))))
    refine k _ _ ((s.kp.new hl).new hl2) ?_
    rw [e2]
    exact .tup (SqT.of g_same) (.cons (.str _) (.cons (.tup (SqT.of (g_new hl2 g_same)) (dps_ints _)) .nil))
end
end K92
namespace K92
open PySem PySem.Spec PyProof.Rows L2 Sf
/-- the classes of errors -/
structure XF (K : PySem.W.Frag) (ca : Nat → Addr) : Prop where
  e1 : PySem.W.exmOne K (.ref (ca 24)) (.ref (ca 24)) = some true
  e2 : PySem.W.exmOne K (.ref (ca 22)) (.ref (ca 24)) = some false
  e3 : PySem.W.exmOne K (.ref (ca 22)) (.ref (ca 22)) = some true
  a1 : PySem.W.kitOne K (.ref (ca 24)) (.ref (ca 21)) = some true
  a2 : PySem.W.kitOne K (.ref (ca 24)) (.ref (ca 22)) = some false
  a3 : PySem.W.kitOne K (.ref (ca 24)) (.ref (ca 25)) = some false
  a4 : PySem.W.kitOne K (.ref (ca 24)) (.ref (ca 23)) = some false
  b1 : PySem.W.kitOne K (.ref (ca 22)) (.ref (ca 21)) = some true
  b2 : PySem.W.kitOne K (.ref (ca 22)) (.ref (ca 24)) = some false
  b3 : PySem.W.kitOne K (.ref (ca 22)) (.ref (ca 25)) = some false
  b4 : PySem.W.kitOne K (.ref (ca 22)) (.ref (ca 23)) = some false
section
variable {K : PySem.W.Frag} {ca : Nat → Addr} {H : Hp} {Q : VK} {D : Ends} {σ : L2.St}
/-- what an except suite tells -/
theorem suite_run {y : Str} {C S A B F ah : Addr} (h1 : PySem.W.kitOne K (.ref C) (.ref S) = some true) (h2 : PySem.W.kitOne K (.ref C) (.ref A) = some false) (h3 : PySem.W.kitOne K (.ref C) (.ref B) = some false) (h4 : PySem.W.kitOne K (.ref C) (.ref F) = some false)
    (hv : σ[3]? = some (some (.ref ah))) (q : ∀ H', Kp [] H H' → D.rt (.str y) H') : tRet (tOp (rIxL K) (tLst (tCons (tC (.str y)) (tCons (tC (.str "odd")) tNil))) (tCB rdInt (tCons (tOrV (tNotV (tCB (rIsE K C ah) (tCons (tVar 3) (tCons (tC (.ref S)) tNil))))
      (tCB (rIsEs K C ah) (tCons (tVar 3) (tCons (tTup (tCons (tC (.ref A)) (tCons (tC (.ref B)) (tCons (tC (.ref F)) tNil)))) tNil)))) tNil))) D σ H := by
  refine o_ret (o_op (o_lst (o_cons (o_c (o_cons (o_c (o_nil ⟨sz (by simp), fun l hl => ?_⟩)))))))
  refine o_cb (o_cons (o_orV (o_notV (o_cb (o_cons ⟨_, hv, o_cons (o_c (o_nil ⟨.ref S, .ref S, true, rfl, fun u r => r, h1, true, rfl, false, rfl, ?_⟩))⟩)))))
  rw [if_neg Bool.false_ne_true]
  refine o_cb (o_cons ⟨_, hv, o_cons (o_tup (o_cons (o_c (o_cons (o_c (o_cons (o_c (o_nil ⟨sz (by simp), fun tp ht => o_nil ?_⟩))))))))⟩)
  have ka : PySem.W.kitAny K (.ref C) [.ref A, .ref B, .ref F] = some false := kitAny_cons h2 (fun _ => kitAny_cons h3 (fun _ => kitAny_cons h4 (fun _ => rfl) nofun) nofun) nofun
  refine ⟨tp, _, _, false, rfl, g_same, .cons (.own A) (.cons (.own B) (.cons (.own F) .nil)), ka, o_nil (r_intB ?_)⟩
  exact r_ixL (SqL.of (g_new ht g_same)) atZ0 (q _ ((kp_new hl).new ht))
theorem law_class_run (X : XF K ca) {tb : WX → TS} (h : ∀ W : WX, (∀ σ H, 3 < σ.length → (∀ H', Kp [] H H' → D.rt (.str "missing") H') → W (.ref (ca 24)) none σ H) → (∀ σ H, 3 < σ.length → (∀ H', Kp [] H H' → D.rt (.str "refused") H') → W (.ref (ca 22)) none σ H) → tb W D σ H) :
    tb (wishA K (fun _ _ _ _ => False) D ((.ref (ca 24), 3, fun ah cc dx => tIs cc dx (.ref (ca 24)) (tRet (tOp (rIxL K) (tLst (tCons (tC (.str "missing")) (tCons (tC (.str "odd")) tNil))) (tCB rdInt (tCons (tOrV (tNotV (tCB (rIsE K (ca 24) ah) (tCons (tVar 3) (tCons (tC (.ref (ca 21))) tNil)))) (tCB (rIsEs K (ca 24) ah) (tCons (tVar 3) (tCons (tTup (tCons (tC (.ref (ca 22))) (tCons (tC (.ref (ca 25))) (tCons (tC (.ref (ca 23))) tNil)))) tNil)))) tNil))))) ::
      ((.ref (ca 22), 3, fun ah cc dx => tIs cc dx (.ref (ca 22)) (tRet (tOp (rIxL K) (tLst (tCons (tC (.str "refused")) (tCons (tC (.str "odd")) tNil))) (tCB rdInt (tCons (tOrV (tNotV (tCB (rIsE K (ca 22) ah) (tCons (tVar 3) (tCons (tC (.ref (ca 21))) tNil)))) (tCB (rIsEs K (ca 22) ah) (tCons (tVar 3) (tCons (tTup (tCons (tC (.ref (ca 24))) (tCons (tC (.ref (ca 25))) (tCons (tC (.ref (ca 23))) tNil)))) tNil)))) tNil))))) :: []))) D σ H := by
  refine h _ (fun σ H hl q => ?_) (fun σ H hl q => ?_)
  · refine ⟨true, X.e1, nofun, fun _ ad _ => ⟨rfl, rfl, ?_⟩⟩
    exact suite_run X.a1 X.a2 X.a3 X.a4 (List.getElem?_set_self hl) q
  · refine ⟨false, X.e2, fun _ => ⟨true, X.e3, nofun, fun _ ad _ => ⟨rfl, rfl, ?_⟩⟩, nofun⟩
    exact suite_run X.b1 X.b2 X.b3 X.b4 (List.getElem?_set_self hl) q
theorem pure_law_class (X : XF K ca) (vs : List V) (H : Hp) (Q : VK) (E : XK) (h : sp_law_class K ca vs H Q E) : t_law_class K ca (fin Q) (start ["way", "window", "thing", "e"] vs) H := by
  unfold t_law_class
  refine law_class_run X (tb := fun W => (tSeq (tIfS (tTest (tOp rEq (tVar 0) (tC (.int 0)))) (tRet (tTup (tCons (tC (.str "told")) (tCons (tMethX (ca 20) "push" (sp_Window_push K ca) (WE W) (tVar 1) (tCons (tVar 2) tNil)) tNil)))) tNext)
    (tSeq (tIfS (tTest (tOp rEq (tVar 0) (tC (.int 1)))) (tRet (tTup (tCons (tC (.str "told")) (tCons (tMethX (ca 20) "pop" (sp_Window_pop K ca) (WE W) (tVar 1) tNil) tNil)))) tNext)
    (tRet (tTup (tCons (tC (.str "told")) (tCons (tCallS (sp_cost_of K ca) (WE W) (tCons (tVar 2) tNil)) tNil))))))) (fun W wm wr => ?_)
  rcases h with ⟨p, fl, bl, x, t, front, back, m, rfl, w, hl, kE, k⟩ | ⟨p, fl, bl, y, t, front, back, m, rfl, w, kE, k⟩ | ⟨a, y, ms, rfl, ha, hl, k⟩
  · obtain ⟨tp, dx, hp, tab⟩ := w.ob
    walk_at "rd"
    rw [if_pos (by decide)]
    refine o_ret (o_tup (o_cons (o_c (o_cons ⟨_, rfl, p, dx, _, rfl, hp, wf_no (by decide +kernel) (by decide +kernel) (by decide +kernel) (by decide +kernel) (by decide +kernel), o_cons ⟨_, rfl, o_nil ?_⟩⟩))))
    refine ⟨p, fl, bl, x, t, front, back, m, rfl, w, hl, fun hx => wr _ H (by simp [L2.start]) (kE hx), fun hx H1 kt w1 => o_nil ⟨sz (by simp), fun l hnl => ?_⟩⟩
    refine k hx _ _ (kt.new hnl) (w1.kt (kp_new hnl).kt (by simp : p ∉ ([] : List Addr)) (by simp) (by simp)) ?_
    exact .tup (SqT.of g_same) (.cons (.str _) (.cons .non .nil))
  · obtain ⟨tp, dx, hp, tab⟩ := w.ob
    walk_at "rd"
    rw [if_neg (by decide)]
    walk_at "rd"
    rw [if_pos (by decide)]
    refine o_ret (o_tup (o_cons (o_c (o_cons ⟨_, rfl, p, dx, _, rfl, hp, wf_no (by decide +kernel) (by decide +kernel) (by decide +kernel) (by decide +kernel) (by decide +kernel), o_nil ?_⟩))))
    refine ⟨p, fl, bl, t, front, back, m, rfl, w, fun hn => wm _ H (by simp [L2.start]) (kE hn), fun x fr bk c e H1 kt w1 => o_nil ⟨sz (by simp), fun l hnl => ?_⟩⟩
    refine k x fr bk c e _ _ (kt.new hnl) (w1.kt (kp_new hnl).kt (by simp : p ∉ ([] : List Addr)) (by simp) (by simp)) ?_
    exact .tup (SqT.of g_same) (.cons (.str _) (.cons (.str _) .nil))
  · walk_at "rd"
    rw [if_neg (by decide)]
    walk_at "rd"
    rw [if_neg (by decide)]
    refine o_next ?_
    dsimp only
    refine o_ret (o_tup (o_cons (o_c (o_cons ?_))))
    show tCons (tVar 2) tNil _ _ _
    refine o_cons ⟨_, rfl, o_nil ?_⟩
    refine ⟨a, ms, rfl, ha, hl, fun e H1 k1 => wr _ H1 (by simp [L2.start]) fun H2 k2 => ?_, fun e H1 k1 => wm _ H1 (by simp [L2.start]) fun H2 k2 => ?_, fun l e v H1 k1 d => o_nil ⟨sz (by simp), fun l2 hnl => ?_⟩⟩
    · exact k _ H2 (k1.trans k2) (by rw [e]; exact .str _)
    · exact k _ H2 (k1.trans k2) (by rw [e]; exact .str _)
    · refine k _ _ (k1.new hnl) ?_
      rw [e]
      exact .tup (SqT.of g_same) (.cons (.str _) (.cons ((kp_new hnl).dp0 d) .nil))
/-! ### plays -/
theorem PlayAt.kp {q p fl bl : Addr} {t : Tb} {front back : List Str} {m : Int} {H' : Hp} (h : PlayAt K ca H t q p fl bl front back m) (k : Kp [] H H') : PlayAt K ca H' t q p fl bl front back m := by
  obtain ⟨⟨ft, bt, a, b, c⟩, w, q1, q2, q3⟩ := h
  exact ⟨⟨ft, bt, k _ _ a (by simp), k.sqT (by simp) b, k.sqT (by simp) c⟩, w.kt (S := []) k.kt (by simp) (by simp) (by simp), q1, q2, q3⟩
theorem r_slA {a : Addr} {xs : List V} {lo hi : Option Int} (h : SqT K H a xs) (q : ∀ p H1, Kp [] H H1 → SqT K H1 p (cutV xs lo hi) → Q (.ref p) H1) : rSlA K (.ref a) lo hi H Q := by
  refine ⟨a, xs, rfl, h, fun e => q a H (Kp.refl _ _) ?_, fun _ p hp => q p _ (kp_new hp) (SqT.of g_same)⟩
  have : cutV xs lo hi = xs := by
    unfold cutV
    rw [e.1, e.2, List.drop_zero, List.take_of_length_le (by omega)]
  rw [this]
  exact h
theorem r_catA {a b : Addr} {xs ys : List V} (ha : SqT K H a xs) (hb : SqT K H b ys) (hz : xs.length + ys.length ≤ 16777216) (q : ∀ p H1, Kp [] H H1 → SqT K H1 p (xs ++ ys) → Q (.ref p) H1) : rCatA K (.ref a) (.ref b) H Q := by
  refine ⟨a, b, xs, ys, rfl, rfl, ha, hb, sz hz, fun e => q b H (Kp.refl _ _) ?_, fun _ e => q a H (Kp.refl _ _) ?_, fun _ _ p hp => q p _ (kp_new hp) (SqT.of g_same)⟩
  · rw [e]; exact hb
  · rw [e, List.append_nil]; exact ha
/-- [e for k in range(n)], nothing but new things -/
theorem lcR {te : TE} {ta : TA} {n j : Nat} (f : Nat → V) (h0 : ∀ R : List V → Hp → Prop, R [.int (n : Int)] H → ta σ H R) (hn : n ≤ 1000000)
    (he : ∀ i H1, i < n → Kp [] H H1 → ∀ R : VK, (∀ H2, Kp [] H1 H2 → R (f i) H2) → te ((σ.set j none).set j (some (.int (i : Int)))) H1 R)
    (q : ∀ D H', Kp [] H H' → H' D = some (.lst ((List.range n).map f)) → Q (.ref D) H') : tLc (iRng1 ta) (gName j) tYes te [j] σ H Q := by
  refine h0 _ ⟨n, rfl, by omega, by omega, fun D hD => ?_⟩
  refine lc_range (lo := 0) (n := n) (fun i H1 => Kp [] H H1 ∧ H1 D = some (.lst ((List.range i).map f))) ⟨kp_new hD, by rw [upd_same]; rfl⟩ (fun i H1 hi ⟨k1, a1⟩ => ⟨wipe_one σ j _, ?_⟩) fun H1 ⟨k1, a1⟩ => q D H1 k1 a1
  have e0 : (0 : Int) + (i : Int) = (i : Int) := Int.zero_add _
  unfold tYes
  dsimp only
  rw [if_pos rfl, e0]
  refine he i H1 hi k1 _ fun H2 k2 => ⟨_, k2 _ _ a1 (by simp), szl (by simp; omega), (k1.trans k2).own hD, ?_⟩
  rw [upd_same, List.range_succ, List.map_append]
  rfl
theorem cutT_from (xs : List V) (k : Nat) : cutV xs (some (k : Int)) none = xs.drop k := by
  unfold cutV
  rw [HT.sIx_nat, HT.sIx_none]
  by_cases h : k ≤ xs.length
  · rw [Nat.min_eq_left h, List.take_of_length_le (by simp)]
  · have e : min k xs.length = xs.length := by omega
    rw [e, List.drop_of_length_le (by omega : xs.length ≤ k)]; simp
theorem pure_law_stored (vs : List V) (H : Hp) (Q : VK) (E : XK) (h : sp_law_stored K ca vs H Q E) : t_law_stored K ca (fin Q) (start ["table", "play", "found", "window", "front", "back", "made", "k"] vs) H := by
  obtain ⟨tp, q, p, fl, bl, t, front, back, m, rfl, tab, pl, k⟩ := h
  obtain ⟨⟨ft, bt, hq, hf, hb⟩, w, q1, q2, q3⟩ := pl
  have wl := w.len
  unfold t_law_stored
  refine o_seq (o_asgG ⟨_, rfl, ?_⟩)
  refine ⟨q, _, rfl, SqL.of hq, rfl, _, _, rfl, _, _, rfl, _, _, rfl, _, _, rfl, rfl, ?_⟩
  dsimp only
  refine o_seq (o_asg ?_)
  refine lc_arg (o_cons (o_cb (o_cons ⟨_, rfl, o_nil (r_lenT hf (o_nil ?_))⟩)))
  rw [List.length_map]
  refine lcR (n := front.length) (fun k => .int (t.fold (front.drop k))) (fun R r => r) (by omega) (fun i H1 hi k1 R r => ?_) fun D H1 k1 hD => ?_
  · refine o_call (o_cons ⟨_, rfl, o_cons (o_sl ⟨_, rfl, o_part ⟨_, rfl, _, rfl, o_nop ?_⟩⟩)⟩)
    refine r_slA (k1.sqT (by simp) hf) fun sl H2 k2 hs => o_nil ?_
    rw [cutT_from, ← List.map_drop] at hs
    refine ⟨tp, sl, t, front.drop i, rfl, tab.tk (k1.trans k2).tk, w.good, hs, by rw [List.length_drop]; omega, fun x hx => w.inF x (List.mem_of_mem_drop hx), fun H3 k3 => ?_⟩
    exact r H3 (k2.trans k3)
  · dsimp only
    refine o_ret (o_tup (o_cons (o_cb (o_cons ⟨_, rfl, o_nil (r_tupL (SqL.of hD) fun l hl => ?_)⟩))))
    refine o_cons (o_call (o_cons ⟨_, rfl, o_cons ⟨_, rfl, o_nil ?_⟩⟩))
    have k2 := k1.new (o := .tup ((List.range front.length).map fun k => V.int (t.fold (front.drop k)))) hl
    refine ⟨tp, bt, t, back, rfl, tab.tk k2.tk, w.good, k2.sqT (by simp) hb, by omega, w.inB, fun H3 k3 => o_nil ⟨sz (by simp), fun l2 hl2 => k _ _ ((k2.trans k3).new hl2) ?_⟩⟩
    refine .tup (SqT.of g_same) (.cons (.tup (SqT.of (g_new hl2 (k3 _ _ g_same (by simp)))) ?_) (.cons (.int _) .nil))
    rw [sfx_eq, List.map_map]
    have : (List.range front.length).map (fun k => V.int (t.fold (front.drop k))) = ((List.range front.length).map fun k => t.fold (front.drop k)).map V.int := by rw [List.map_map]; rfl
    rw [this]
    have e2 : (List.range front.length).map (PyData.int ∘ fun k => t.fold (front.drop k)) = ((List.range front.length).map fun k => t.fold (front.drop k)).map PyData.int := by rw [List.map_map]
    rw [e2]
    exact dps_ints _
end
end K92
namespace K92
open PySem PySem.Spec PyProof.Rows L2 Sf
theorem cut_to (xs : List V) (k : Nat) : cutV xs none (some (k : Int)) = xs.take k := by
  unfold cutV
  rw [HT.sIx_nat, HT.sIx_none]
  by_cases h : k ≤ xs.length
  · rw [Nat.min_eq_left h]; simp
  · have e : min k xs.length = xs.length := by omega
    rw [e, List.take_of_length_le (by omega : xs.length ≤ k)]; simp
section
variable {K : PySem.W.Frag} {ca : Nat → Addr}
theorem pure_law_same (vs : List V) (H : Hp) (Q : VK) (E : XK) (h : sp_law_same K ca vs H Q E) : t_law_same K ca (fin Q) (start ["told", "due"] vs) H := by
  obtain ⟨u, v, d, rfl, du, dv, h1, h2, h3, h4, k⟩ := h
  have g1 : (PyData.list [d]).showable = true := by simp [PyData.showable, PyData.showableAll, h1]
  have g2 : (PyData.list [d]).hasDict = false := by simp [PyData.hasDict, PyData.hasDictAll, h2]
  have g3 : (PyData.list [d]).depth ≤ 60 := by simp [PyData.depth, PyData.depthAll]; omega
  unfold t_law_same
  walk_at "rd"
  refine ⟨sz (by simp), fun l hl => ?_⟩
  walk_at "rd"
  have k1 := kp_new (o := .lst [u]) hl
  refine ⟨l, _, rfl, .lst (SqL.of g_same) (.cons (k1.dp0 du) .nil), g1, g2, g3, h4, ?_⟩
  walk_at "rd"
  refine ⟨sz (by simp), fun l2 hl2 => ?_⟩
  walk_at "rd"
  have k2 := kp_new (o := .lst [v]) hl2
  refine ⟨l2, _, rfl, .lst (SqL.of g_same) (.cons ((k1.trans k2).dp0 dv) .nil), g1, g2, g3, h4, ?_⟩
  walk_at "rd"
  rw [decide_eq_true rfl]
  exact k _ (k1.trans k2)
theorem pure_law_next (vs : List V) (H : Hp) (Q : VK) (E : XK) (h : sp_law_next K ca vs H Q E) : t_law_next K ca (fin Q) (start ["state", "many", "turn"] vs) H := by
  obtain ⟨st, nu, m, n, rfl, hm, ⟨j, ns, hj, hs, hnu, hne, hn0, hln, hns⟩, hb, k⟩ := h
  unfold bigN at hb
  unfold t_law_next
  walk_at "rd"
  refine r_setL hs (n := 1) rfl ?_
  have e1 : [V.ref nu, V.int (j : Int)].set 1 (V.int ((j : Int) + 1)) = [V.ref nu, V.int (((j + 1 : Nat)) : Int)] := by
    simp
  rw [e1]
  have kp : Kp [st] H (upd H st (.lst [V.ref nu, V.int (((j + 1 : Nat)) : Int)])) := (Kp.refl _ _).mut (by simp)
  have hs' : (upd H st (.lst [V.ref nu, V.int (((j + 1 : Nat)) : Int)])) st = some (.lst [V.ref nu, V.int (((j + 1 : Nat)) : Int)]) := g_same
  have hnu' : (upd H st (.lst [V.ref nu, V.int (((j + 1 : Nat)) : Int)])) nu = some (.lst (ns.map V.int)) := g_mut hne hnu
  generalize upd H st (.lst [V.ref nu, V.int (((j + 1 : Nat)) : Int)]) = H1 at *
  have hlen : 0 < ns.length := List.length_pos_iff.mpr hn0
  walk_at "rd"
  rw [List.length_map]
  refine r_div ⟨by omega, by omega⟩ ?_
  walk_at "rd"
  rw [List.length_map]
  refine r_mod (by omega) ?_
  have hmod0 : 0 ≤ ((j + 1 : Nat) : Int) % (ns.length : Int) := Int.emod_nonneg _ (by omega)
  have hmod1 : ((j + 1 : Nat) : Int) % (ns.length : Int) < (ns.length : Int) := Int.emod_lt_of_pos _ (by omega)
  have hlt : (((j + 1 : Nat) : Int) % (ns.length : Int)).toNat < ns.length := by omega
  refine r_ixL (SqL.of hnu') (at_int hmod0 (z := V.int ns[(((j + 1 : Nat) : Int) % (ns.length : Int)).toNat]) ?_) ?_
  · rw [List.getElem?_map, List.getElem?_eq_getElem hlt]; rfl
  walk_at "rd"
  refine r_mul (.inr ⟨by decide, by decide⟩) ?_
  walk_at "rd"
  refine r_mul (.inl ⟨by omega, by omega⟩) ?_
  walk_at "rd"
  refine r_mul (.inr ⟨by decide, by decide⟩) ?_
  walk_at "rd"
  exact k _ H1 (Int.emod_nonneg _ (by omega)) (Int.emod_lt_of_pos _ hm) kp ⟨j + 1, ns, by omega, hs', hnu', hne, hn0, hln, hns⟩
/-- the numbers so far, in the list at p; the cells stand at q -/
def StrI (H0 : Hp) (p q : Addr) (cs : List V) (B : Nat) (H' : Hp) : Prop := ∃ xs : List Int, Kp [] H0 H' ∧ H' p = some (.lst (xs.map V.int)) ∧ xs.length ≤ B ∧ (∀ x ∈ xs, 0 ≤ x ∧ x < 1009) ∧ q ≠ p ∧ H' q = some (.lst cs)
section
variable {H0 H' : Hp} {p q : Addr} {cs : List V} {B C : Nat} {z : Int}
theorem StrI.le (s : StrI H0 p q cs B H') (h : B ≤ C) : StrI H0 p q cs C H' := by
  obtain ⟨xs, a, b, c, d⟩ := s
  exact ⟨xs, a, b, Nat.le_trans c h, d⟩
theorem StrI.app (hp : H0 p = none) (s : StrI H0 p q cs B H') (h : 0 ≤ z ∧ z < 1009) (hB : B ≤ 100000) {R : VK} (k : ∀ H2, StrI H0 p q cs (B + 1) H2 → R .non H2) : rAppend (.ref p) [.int z] H' R := by
  obtain ⟨xs, a, b, c, d, e, f⟩ := s
  refine r_app b (szl (by simp; omega)) (k _ ⟨xs ++ [z], a.own hp, by rw [upd_same]; simp, by simp; omega, fun x hx => ?_, e, g_mut e f⟩)
  rcases List.mem_append.mp hx with hx | hx
  · exact d x hx
  · rw [List.mem_singleton.mp hx]; exact h
theorem StrI.ty (s : StrI H0 p q cs B H') : tyV K "list" (.ref p) H' := by
  obtain ⟨xs, a, b, c, d⟩ := s
  exact .inl ⟨rfl, _, SqL.of b⟩
end
theorem mod_in (z : Int) : 0 ≤ z % 1009 ∧ z % 1009 < 1009 := ⟨Int.emod_nonneg _ (by decide), Int.emod_lt_of_pos _ (by decide)⟩
theorem pure_law_stream (vs : List V) (H : Hp) (Q : VK) (E : XK) (h : sp_law_stream K ca vs H Q E) : t_law_stream K ca (fin Q) (start ["script", "numbers", "cell", "rest", "k", "mixed"] vs) H := by
  obtain ⟨a, ns, rfl, ha, hl, k⟩ := h
  unfold t_law_stream
  walk_at "rd"
  refine ⟨sz (by simp), fun p hp => ?_⟩
  have ha1 := (kp_new (o := .lst []) hp).sqL (by simp) ha
  have kp1 := kp_new (o := .lst []) hp
  have hp1 : (upd H p (.lst [])) p = some (.lst []) := g_same
  generalize upd H p (.lst []) = H1 at *
  walk_at "rd"
  have lp : ∀ (D : Ends), (∀ σ H2 q, StrI H p q (ns.map V.int) 4000 H2 → (∃ c2 c3 c4 c5, σ = [some (.ref a), some (.ref p), c2, c3, c4, c5]) → D.nx σ H2) → ∀ c2 c3 c4 c5, tFor (iList K (tSl (rSlL K) (tVar 0) tNoPart (tPart (tC (.int 63))))) (gName 2)
    (tSeq (tAsg (tCB rdAbs (tCons (tCB rdInt (tCons (tVar 2) tNil)) tNil)) (gName 3))
    (tIfS (tTest (tOp rdGe (tVar 3) (tOp rdPow (tC (.int 10)) (tC (.int 18))))) (tFor (iRng1 (tCons (tC (.int 60)) tNil)) (gName 4)
    (tSeq (tDrop (tBM K "list" rAppend (tVar 1) (tCons (tOp rdMod (tCB rdInt (tCons (tVar 3) tNil)) (tC (.int 1009))) tNil)))
    (tSeq (tAsg (tOp rdDiv (tVar 3) (tC (.int 1009))) (gName 3))
    (tIfS (tTest (tOp rEq (tVar 3) (tC (.int 0)))) tBreak tNext)))) (tSeq (tAsg (tOp rdMod (tCB rdInt (tCons (tVar 3) tNil)) (tC (.int 2147483647))) (gName 5))
    (tFor (iRng1 (tCons (tC (.int 10)) tNil)) (gName 4)
    (tSeq (tAsg (tOp rdMod (tCB rdInt (tCons (tOp rdAdd (tOp rdAdd (tOp rdMul (tVar 5) (tC (.int 48271))) (tOp rdMul (tC (.int 7)) (tVar 4))) (tC (.int 11))) tNil)) (tC (.int 2147483647))) (gName 5))
    (tDrop (tBM K "list" rAppend (tVar 1) (tCons (tOp rdMod (tOp rdMod (tCB rdInt (tCons (tOp rdAdd (tOp rdMul (tVar 5) (tC (.int 69621))) (tVar 4)) tNil)) (tC (.int 2147483629))) (tC (.int 1009))) tNil)))))))) D [some (.ref a), some (.ref p), c2, c3, c4, c5] H1 := by
    intro D hD c2 c3 c4 c5
    refine o_sl ⟨_, rfl, o_nop (o_part (o_c (o_int ?_)))⟩
    refine r_slL ha1 fun q hq => ⟨q, rfl, ⟨_, SqL.of g_same⟩, ?_⟩
    have ec : cutV (ns.map V.int) none (some 63) = ns.map V.int := by
      show cutV (ns.map V.int) none (some ((63 : Nat) : Int)) = _
      rw [cut_to (ns.map V.int) 63, List.take_of_length_le (by simp; omega)]
    rw [ec]
    have s2 : StrI H p q (ns.map V.int) 0 (upd H1 q (.lst (ns.map V.int))) := ⟨[], kp1.new hq, g_new hq hp1, by simp, by simp, Ne.symm (ne_of_none hp1 hq), g_same⟩
    generalize upd H1 q (.lst (ns.map V.int)) = H2 at *
    refine for_list (xs := ns.map V.int) (fun i σ' H' => (∃ c2 c3 c4 c5, σ' = [some (.ref a), some (.ref p), c2, c3, c4, c5]) ∧ StrI H p q (ns.map V.int) (60 * i) H') ⟨⟨_, _, _, _, rfl⟩, s2⟩ (fun i σ' H' _ ⟨_, s⟩ => ?_) (fun i y σ' H' hi ⟨⟨c2, c3, c4, c5, e⟩, s⟩ => ?_) fun σ' H' ⟨e, s⟩ => hD _ _ q (s.le (by simp; omega)) e
    · obtain ⟨xs, _, _, _, _, _, f⟩ := s
      exact SqL.of f
    · subst e
      have hi63 : i < 63 := by have := lt_get hi; simp at this; omega
      obtain ⟨z, hz, rfl⟩ : ∃ z, ns[i]? = some z ∧ y = V.int z := by
        rw [List.getElem?_map] at hi
        cases e : ns[i]? with
        | none => rw [e] at hi; cases hi
        | some z => rw [e] at hi; exact ⟨z, rfl, (Option.some.inj hi).symm⟩
      walk_at "rd"
      refine ⟨z, rfl, ?_⟩
      walk_at "rd"
      refine r_pow ⟨by decide, by decide, by decide⟩ ?_
      walk_at "rd"
      generalize (if z < 0 then -z else z) = rest
      refine if_b (fun hb => ?_) (fun hb => ?_)
      · refine ⟨60, rfl, by decide, by decide, ?_⟩
        refine for_range (lo := 0) (n := 60) (fun m σ2 H3 => (∃ c2 c4 c5 rest, σ2 = [some (.ref a), some (.ref p), c2, some (.int rest), c4, c5]) ∧ StrI H p q (ns.map V.int) (60 * i + m) H3) ⟨⟨_, _, _, _, rfl⟩, s⟩ (fun m σ2 H3 hm ⟨⟨c2, c4, c5, rest, e⟩, s3⟩ => ?_) fun σ2 H3 ⟨⟨c2, c4, c5, rest, e⟩, s3⟩ => ⟨⟨_, _, _, _, e⟩, s3.le (by omega)⟩
        subst e
        walk_at "rd"
        refine ⟨s3.ty, ?_⟩
        walk_at "rd"
        refine s3.app hp (mod_in _) (by omega) fun H4 s4 => ?_
        walk_at "rd"
        refine r_div ⟨by decide, by decide⟩ ?_
        walk_at "rd"
        refine if_b (fun h0 => ?_) (fun h0 => ?_)
        · exact o_brk ⟨⟨_, _, _, _, rfl⟩, s4.le (by omega)⟩
        · exact o_next ⟨⟨_, _, _, _, rfl⟩, s4⟩
      · walk_at "rd"
        refine ⟨10, rfl, by decide, by decide, ?_⟩
        refine for_range (lo := 0) (n := 10) (fun m σ2 H3 => (∃ c2 c3 c4 mx, σ2 = [some (.ref a), some (.ref p), c2, c3, c4, some (.int mx)]) ∧ StrI H p q (ns.map V.int) (60 * i + m) H3) ⟨⟨_, _, _, _, rfl⟩, s⟩ (fun m σ2 H3 hm ⟨⟨c2, c3, c4, mx, e⟩, s3⟩ => ?_) fun σ2 H3 ⟨⟨c2, c3, c4, mx, e⟩, s3⟩ => ⟨⟨_, _, _, _, e⟩, s3.le (by omega)⟩
        subst e
        walk_at "rd"
        refine r_mul (.inr ⟨by decide, by decide⟩) ?_
        walk_at "rd"
        refine r_mul (.inl ⟨by decide, by decide⟩) ?_
        walk_at "rd"
        refine ⟨s3.ty, ?_⟩
        walk_at "rd"
        refine r_mul (.inr ⟨by decide, by decide⟩) ?_
        walk_at "rd"
        refine s3.app hp (mod_in _) (by omega) fun H4 s4 => ?_
        exact ⟨⟨_, _, _, _, rfl⟩, s4⟩
  refine lp _ (fun σ H2 q s ⟨c2, c3, c4, c5, e⟩ => ?_) _ _ _ _
  subst e
  have hs : ∃ xs, SqL K H2 p xs := by
    obtain ⟨xs, _, b, _⟩ := s
    exact ⟨_, SqL.of b⟩
  obtain ⟨xs, k2, b, c, d, e, f⟩ := s
  have hbL : SqL K H2 p (xs.map V.int) := SqL.of b
  dsimp only
  walk_at "rd"
  rw [List.length_map]
  refine if_b (fun h0 => ?_) (fun h0 => ?_)
  · walk_at "rd"
    refine ⟨.inl ⟨rfl, _, hbL⟩, ?_⟩
    walk_at "rd"
    refine r_app b (szl (by simp; omega)) ?_
    walk_at "rd"
    refine k p (xs ++ [0]) _ (k2.own hp) hp (by rw [upd_same]; simp) (by simp) (by simp; omega) fun x hx => ?_
    rcases List.mem_append.mp hx with hx | hx
    · exact d x hx
    · rw [List.mem_singleton.mp hx]; decide
  · walk_at "rd"
    refine k p xs _ k2 hp b (fun z => ?_) (by omega) d
    rw [z] at h0
    simp at h0
end
end K92
namespace K92
open PySem PySem.Spec PyProof.Rows L2 Sf
def strA : List Str → TA
  | [] => tNil
  | a :: r => tCons (tC (.str a)) (strA r)
theorem strA_run {σ : L2.St} {H : Hp} : ∀ (l : List Str) (QA : List V → Hp → Prop), QA (l.map V.str) H → strA l σ H QA
  | [], _, q => q
  | a :: r, QA, q => o_cons (o_c (strA_run r _ q))
theorem len_cps (x : Str) : x.length = (TL.tl x).length := TL.len_tl x
section
variable {K : PySem.W.Frag} {ca : Nat → Addr} {σ : L2.St} {H : Hp} {st nu : Addr} {n i : Nat} {m : Int} {te : TE} {Q : VK}
/-- _law_next(state, m) -/
theorem draw (hv : σ[i]? = some (some (.ref st))) (hs : StB H st nu n) (hb : n < bigN) (hm : 0 < m) (ht : ∀ R : VK, R (.int m) H → te σ H R)
    (q : ∀ r H', 0 ≤ r → r < m → Kp [st] H H' → StB H' st nu (n + 1) → Q (.int r) H') : rCallG (sp_law_next K ca) E0 (tCons (tVar i) (tCons te tNil)) σ H Q :=
  o_call (o_cons ⟨_, hv, o_cons (ht _ (o_nil ⟨st, nu, m, n, rfl, hm, hs, hb, q⟩))⟩)
theorem next_use {E : XK} (hs : StB H st nu n) (hm : 0 < m) (hb : n < bigN) (q : ∀ r H', 0 ≤ r → r < m → Kp [st] H H' → StB H' st nu (n + 1) → Q (.int r) H') : sp_law_next K ca [.ref st, .int m] H Q E := ⟨st, nu, m, n, rfl, hm, hs, hb, q⟩
/-- [..][_law_next(state, m)], the list's items known -/
theorem draw_of {vs : List V} {tl : TE} (hl : ∀ R : VK, (∀ p H1, Kp [] H H1 → H1 p = some (.lst vs) → p ≠ st → R (.ref p) H1) → tl σ H R) (hv : σ[i]? = some (some (.ref st))) (hs : StB H st nu n) (hb : n < bigN) (hm : m = (vs.length : Int)) (h0 : 0 < vs.length)
    (q : ∀ v ∈ vs, ∀ H', Kp [st] H H' → StB H' st nu (n + 1) → Q v H') : tOp (rIxL K) tl (rCallG (sp_law_next K ca) E0 (tCons (tVar i) (tCons (tC (.int m)) tNil))) σ H Q := by
  refine o_op (hl _ fun p H1 k1 hp hne => draw hv (hs.kp k1) hb (by omega) (fun R r => o_c r) fun r H2 r0 r1 k2 s2 => ?_)
  have hlt : r.toNat < vs.length := by omega
  refine r_ixL (SqL.of (k2 _ _ hp (by simp [hne]))) (at_int r0 (List.getElem?_eq_getElem hlt)) ?_
  exact q _ (List.getElem_mem hlt) H2 ((k1.sub (by simp)).trans k2) s2
/-- ['..', ..][_law_next(state, m)] -/
theorem menu_of (l : List Str) (hv : σ[i]? = some (some (.ref st))) (hs : StB H st nu n) (hb : n < bigN) (hm : m = (l.length : Int)) (h0 : 0 < l.length) (hz : l.length ≤ 1000)
    (q : ∀ x ∈ l, ∀ H', Kp [st] H H' → StB H' st nu (n + 1) → Q (.str x) H') : tOp (rIxL K) (tLst (strA l)) (rCallG (sp_law_next K ca) E0 (tCons (tVar i) (tCons (tC (.int m)) tNil))) σ H Q := by
  refine draw_of (vs := l.map V.str) (fun R r => o_lst (strA_run l _ ⟨sz (by simp; omega), fun t ht => r t _ (kp_new ht) g_same (hs.ne ht).1⟩)) hv hs hb (by simpa using hm) (by simpa using h0) fun v hv H' k s => ?_
  obtain ⟨x, hx, rfl⟩ := List.mem_map.mp hv
  exact q x hx H' k s
theorem tl_one (c : Nat) : TL.tl (⟨#[c]⟩ : Str) = [c] := rfl
theorem pure_law_word (vs : List V) (H : Hp) (Q : VK) (E : XK) (h : sp_law_word K ca vs H Q E) : t_law_word K ca (fin Q) (start ["state", "taken", "word", "k"] vs) H := by
  obtain ⟨st, nu, tk, ts, n, rfl, ht, hl, hne, hs, hb, k⟩ := h
  have hb' : n + 10 < 1000000000 := hb
  unfold t_law_word
  walk_at "rd"
  unfold tFor iRng1
  walk_at "rd"
  refine next_use hs (by decide) (by unfold bigN; omega) fun r1 H1 h10 h11 k1 s1 => ?_
  walk_at "rd"
  refine ⟨sz (by simp), fun t htn => ?_⟩
  obtain ⟨ne1, ne2⟩ := s1.ne htn
  walk_at "rd"
  refine next_use (s1.new htn) (by decide) (by unfold bigN; omega) fun r2 H2 h20 h21 k2 s2 => ?_
  have h2t : H2 t = some (.lst [.int 1, .int 2, .int (1 + r1)]) := k2 _ _ g_same (by simp [ne1])
  have kA : Kp [st] H H2 := (k1.new htn).trans k2
  obtain ⟨c, hc, hc1, hc2⟩ : ∃ c : Int, atI [V.int 1, V.int 2, V.int (1 + r1)] r2 = some (.int c) ∧ 1 ≤ c ∧ c ≤ 8 := by
    have : r2 = 0 ∨ r2 = 1 ∨ r2 = 2 := by omega
    rcases this with rfl | rfl | rfl
    · exact ⟨1, atZ0, by decide, by decide⟩
    · exact ⟨2, atZ1, by decide, by decide⟩
    · exact ⟨1 + r1, atZ2, by omega, by omega⟩
  refine r_ixL (SqL.of h2t) hc (o_nil ⟨c, rfl, by omega, by omega, ?_⟩)
  refine for_range (lo := 0) (n := c.toNat) (fun m σ' H' => (∃ (w : Str) (x : Option V), σ' = [some (.ref st), some (.ref tk), some (.str w), x] ∧ w.length = m ∧ ∀ z ∈ TL.tl w, 97 ≤ z ∧ z ≤ 122 ∧ z ≠ 113) ∧ Kp [st] H H' ∧ StB H' st nu (n + 2 + m)) ⟨⟨"", none, rfl, rfl, fun z hz => absurd hz (by show z ∉ ([] : List Nat); simp)⟩, kA, s2.le (by omega)⟩ (fun m σ' H' hm ⟨⟨w, x, e, hw, ha⟩, k3, s3⟩ => ?_) fun σ' H' ⟨⟨w, x, e, hw, ha⟩, k3, s3⟩ => ?_
  · subst e
    walk_at "rd"
    refine next_use s3 (by decide) (by unfold bigN; omega) fun r3 H3 h30 h31 k4 s4 => ?_
    obtain ⟨z, hz, hza⟩ : ∃ z, atI (Str.ofString "abyz").cps.toList r3 = some z ∧ 97 ≤ z ∧ z ≤ 122 ∧ z ≠ 113 := by
      have e : (Str.ofString "abyz").cps.toList = [97, 98, 121, 122] := by rfl
      rw [e]
      have : r3 = 0 ∨ r3 = 1 ∨ r3 = 2 ∨ r3 = 3 := by omega
      rcases this with rfl | rfl | rfl | rfl
      · exact ⟨97, atZ0, by decide⟩
      · exact ⟨98, atZ1, by decide⟩
      · exact ⟨121, atZ2, by decide⟩
      · exact ⟨122, atZ3, by decide⟩
    refine r_ixS (sz (by decide +kernel)) hz ?_
    have e1 : (⟨#[z]⟩ : Str).length = 1 := rfl
    refine r_adds (sz (by rw [e1]; omega)) ?_
    refine ⟨⟨w ++ ⟨#[z]⟩, _, rfl, ?_, fun y hy => ?_⟩, k3.trans k4, s4.le (by omega)⟩
    · rw [len_cps, TL.tl_append, List.length_append, ← len_cps, hw]; rfl
    · rw [TL.tl_append] at hy
      rcases List.mem_append.mp hy with hy | hy
      · exact ha y hy
      · rw [tl_one] at hy; rw [List.mem_singleton.mp hy]; exact hza
  · subst e
    have ht' := k3.sqL (by simp [hne]) ht
    walk_at "rd"
    refine r_inStrsL ht' ?_
    rw [if_neg Bool.false_ne_true]
    walk_at "rd"
    refine if_b (fun h1 => ?_) (fun h1 => ?_)
    · walk_at "rd"
      rw [List.length_map]
      have hlt : ts.length < (Str.ofString "abcdefghijklmnopqrstuvwxyz").cps.toList.length := by
        have e : (Str.ofString "abcdefghijklmnopqrstuvwxyz").cps.toList.length = 26 := by decide +kernel
        omega
      refine r_ixS (sz (by decide +kernel)) (at_nat (List.getElem?_eq_getElem hlt)) ?_
      have hm : 97 ≤ (Str.ofString "abcdefghijklmnopqrstuvwxyz").cps.toList[ts.length] ∧ (Str.ofString "abcdefghijklmnopqrstuvwxyz").cps.toList[ts.length] ≤ 101 := by
        have all : ∀ z ∈ (Str.ofString "abcdefghijklmnopqrstuvwxyz").cps.toList.take 5, 97 ≤ z ∧ z ≤ 101 := by decide +kernel
        exact all _ (List.mem_of_getElem? (show ((Str.ofString "abcdefghijklmnopqrstuvwxyz").cps.toList.take 5)[ts.length]? = some _ by rw [List.getElem?_take_of_lt (by omega), List.getElem?_eq_getElem hlt]))
      generalize (Str.ofString "abcdefghijklmnopqrstuvwxyz").cps.toList[ts.length] = z at *
      have e1 : (⟨#[z]⟩ : Str).length = 1 := rfl
      have e2 : (Str.ofString "c").length = 1 := rfl
      refine r_adds (sz (by rw [e1, e2]; decide)) ?_
      refine k _ H' ?_ k3 (s3.le (by omega))
      have e3 : TL.tl (Str.ofString "c" ++ ⟨#[z]⟩) = [99, z] := by rw [TL.tl_append]; rfl
      have e4 : ∀ y ∈ TL.tl (Str.ofString "c" ++ ⟨#[z]⟩), 97 ≤ y ∧ y ≤ 101 := fun y hy => by
        rw [e3] at hy
        simp only [List.mem_cons, List.not_mem_nil, or_false] at hy
        rcases hy with rfl | rfl
        · omega
        · exact hm
      refine ⟨by rw [len_cps, e3]; simp, by rw [len_cps, e3]; simp, fun y hy => ?_, fun hy => ?_⟩
      · have := e4 y hy; omega
      · have := e4 113 hy; omega
    · walk_at "rd"
      exact k w H' ⟨by omega, by omega, fun y hy => by have := ha y hy; omega, fun hy => (ha 113 hy).2.2 rfl⟩ k3 (s3.le (by omega))
theorem pure_law_letters (vs : List V) (H : Hp) (Q : VK) (E : XK) (h : sp_law_letters K ca vs H Q E) : t_law_letters K ca (fin Q) (start ["state", "many", "found", "k"] vs) H := by
  obtain ⟨st, nu, c, n, rfl, hc, hs, hb, k⟩ := h
  unfold t_law_letters
  refine o_seq (o_asg (o_lst (o_nil ⟨sz (by simp), fun fo hfo => ?_⟩)))
  have s1 := hs.new (o := .lst []) hfo
  have nfo := (hs.ne hfo).1
  have nfo2 := (hs.ne hfo).2
  have k1 : Kp [st] H (upd H fo (.lst [])) := (Kp.refl _ _).new hfo
  have hf1 : (upd H fo (.lst [])) fo = some (.lst []) := g_same
  generalize upd H fo _ = H1 at *
  dsimp only
  refine o_seq ?_
  unfold tFor iRng1
  refine o_cons ⟨_, rfl, o_nil ⟨c, rfl, by omega, by omega, ?_⟩⟩
  refine for_range (lo := 0) (n := (c : Int).toNat) (fun m σ' H' => ∃ (ws : List Str) (x : Option V), σ' = [some (.ref st), some (.int c), some (.ref fo), x] ∧ ws.length = m ∧ (∀ x ∈ ws, LetOk x) ∧ H' fo = some (.lst (ws.map V.str)) ∧ Kp [st] H H' ∧ StB H' st nu (n + 10 * m)) ⟨[], none, rfl, rfl, by simp, hf1, k1, s1⟩ (fun m σ' H' hm ⟨ws, x, e, hw, ok, hf, kk, ss⟩ => ?_) fun σ' H' ⟨ws, x, e, hw, ok, hf, kk, ss⟩ => ?_
  · subst e
    have hm : m < c := by omega
    refine o_gname ?_
    have hb' : n + 50 < 1000000000 := hb
    refine o_drop (o_bm ⟨_, rfl, .inl ⟨rfl, _, SqL.of hf⟩, o_cons (o_call (o_cons ⟨_, rfl, o_cons ⟨_, rfl, o_nil ?_⟩⟩))⟩)
    refine ⟨st, nu, fo, ws, _, rfl, SqL.of hf, by omega, nfo, ss, by unfold bigN; omega, fun y H2 ly k2 s2 => o_nil ?_⟩
    have hf2 := k2 _ _ hf (by simp [nfo])
    refine r_app hf2 (szl (by simp; omega)) ⟨ws ++ [y], _, rfl, by simp [hw], fun z hz => ?_, by rw [upd_same, List.map_append]; rfl, (kk.trans k2).own ?_, ?_⟩
    · rcases List.mem_append.mp hz with h | h
      · exact ok z h
      · rw [List.mem_singleton.mp h]; exact ly
    · cases e : H fo with
      | none => rfl
      | some u => rw [e] at hfo; cases hfo
    · exact (s2.mut nfo nfo2).le (by omega)
  · subst e
    dsimp only
    refine o_ret (o_cb (o_cons ⟨_, rfl, o_nil ⟨fo, _, rfl, SqL.of hf, fun l o hl no => ?_⟩⟩))
    exact k l ws _ (by rw [hw]; exact Int.toNat_natCast c) ok ⟨o, g_same, no⟩ (kk.new hl) ((ss.new hl).le (by rw [Int.toNat_natCast]; omega))
theorem ints_of {P : Int → Prop} : ∀ (xs : List V), (∀ v ∈ xs, ∃ x : Int, v = .int x ∧ P x) → ∃ ys : List Int, xs = ys.map V.int ∧ ∀ y ∈ ys, P y
  | [], _ => ⟨[], rfl, by simp⟩
  | v :: r, h => by
    obtain ⟨x, e, p⟩ := h v (by simp)
    obtain ⟨ys, e2, p2⟩ := ints_of r (fun v hv => h v (by simp [hv]))
    exact ⟨x :: ys, by rw [e, e2]; rfl, fun y hy => by
      rcases List.mem_cons.mp hy with z | z
      · rw [z]; exact p
      · exact p2 y z⟩
theorem rep_flat (r : Nat) (z : Int) : (List.replicate r [V.int z]).flatten = (List.replicate r z).map V.int := by
  induction r with
  | zero => rfl
  | succ r ih => rw [List.replicate_succ, List.flatten_cons, ih, List.replicate_succ, List.map_cons]; rfl
theorem pure_law_map (vs : List V) (H : Hp) (Q : VK) (E : XK) (h : sp_law_map K ca vs H Q E) : t_law_map K ca (fin Q) (start ["state", "rooms", "kind", "one", "other", "turn", "k"] vs) H := by
  obtain ⟨st, nu, r, n, kind, rfl, hr2, hr4, hs, hb, k⟩ := h
  have hb' : n + 10 < 1000000000 := hb
  unfold t_law_map
  -- the draws
  have draws : ∀ (σ : L2.St) (R : VK), σ[0]? = some (some (.ref st)) → σ[1]? = some (some (.int (r : Int))) → 6 < σ.length → (∀ D H1 (ys : List Int), MapOk r ys → H1 D = some (.lst (ys.map V.int)) → Kp [st] H H1 → StB H1 st nu (n + 10) → R (.ref D) H1) →
      tLc (iRng1 (tCons (tVar 1) tNil)) (gName 6) tYes (rCallG (sp_law_next K ca) E0 (tCons (tVar 0) (tCons (tVar 1) tNil))) [6] σ H R := fun σ R h0 h1 h6 q => by
    refine lcRD (n := (r : Int)) (P := fun _ v => ∃ z : Int, v = .int z ∧ 0 ≤ z ∧ z < r) 1 (fun _ _ _ _ h => h) (fun R r => o_cons ⟨_, h1, o_nil r⟩) (by omega) (by omega) hs (by unfold bigN; omega) (fun j H3 m hj k3 s3 hm R r => ?_) fun D H3 xs hD k3 hx hl hP s3 => ?_
    · refine o_call (o_cons ⟨_, by rw [List.getElem?_set_ne (by decide), List.getElem?_set_ne (by decide)]; exact h0, o_cons ⟨_, by rw [List.getElem?_set_ne (by decide), List.getElem?_set_ne (by decide)]; exact h1, o_nil ?_⟩⟩)
      exact next_use s3 (by omega) (by omega) fun z H4 z0 z1 k4 s4 => r _ H4 ⟨z, rfl, z0, z1⟩ k4 s4
    · obtain ⟨ys, rfl, hy⟩ := ints_of xs hP
      rw [List.length_map] at hl
      exact q D H3 ys ⟨by omega, hy⟩ hx k3 (s3.le (by omega))
  walk_at "rd"
  refine if_b (fun h1 => ?_) (fun h1 => ?_)
  · refine o_ret (o_cb (o_cons (draws _ _ rfl rfl (by simp [L2.start]) fun D H1 ys ok hx k1 s1 => o_nil (r_tupL (SqL.of hx) fun l hl => ?_))))
    exact k l ys _ ok (SqT.of g_same) (k1.new hl) (s1.new hl)
  walk_at "rd"
  refine if_b (fun h1 => ?_) (fun h1 => ?_)
  · refine o_ret (o_cb (o_cons (o_cb (o_cons (draws _ _ rfl rfl (by simp [L2.start]) fun D H1 ys ok hx k1 s1 => o_nil ⟨D, ys, rfl, SqL.of hx, fun zs p perm srt hp => o_nil (r_tupL (SqL.of g_same) fun l hl => ?_)⟩)))))
    exact k l zs _ ⟨by rw [perm.length_eq]; exact ok.1, fun x hx => ok.2 x (perm.mem_iff.mp hx)⟩ (SqT.of g_same) ((k1.new hp).new hl) ((s1.new hp).new hl)
  walk_at "rd"
  refine if_b (fun h1 => ?_) (fun h1 => ?_)
  · walk_at "rd"
    refine next_use hs (by omega) (by unfold bigN; omega) fun tn H1 t0 t1 k1 s1 => ?_
    refine o_next ?_
    dsimp only
    refine o_ret (o_cb (o_cons (lcR (n := r) (fun i => .int (((i : Int) + tn) % r)) (fun R q => o_cons ⟨_, rfl, o_nil q⟩) (by omega) (fun i H2 hi k2 R q => ?_) fun D H2 k2 hD => o_nil (r_tupL (SqL.of hD) fun l hl => ?_))))
    · refine o_op (o_cb (o_cons (o_op ⟨_, rfl, _, rfl, r_add (o_nil (r_int ⟨_, rfl, r_mod (by omega) (q _ (Kp.refl _ _))⟩))⟩)))
    · refine k l ((List.range r).map fun i : Nat => (((i : Nat) : Int) + tn) % r) _ ⟨by simp, fun x hx => ?_⟩ (SqT.of (by rw [upd_same, List.map_map]; rfl)) ((k1.trans (k2.sub (by simp))).new hl) (((s1.kp k2).new hl).le (by omega))
      obtain ⟨i, _, rfl⟩ := List.mem_map.mp hx
      exact ⟨Int.emod_nonneg _ (by omega), Int.emod_lt_of_pos _ (by omega)⟩
  walk_at "rd"
  refine if_b (fun h1 => ?_) (fun h1 => ?_)
  · refine o_ret (o_op (o_tup (o_cons (o_call (o_cons ⟨_, rfl, o_cons ⟨_, rfl, o_nil ?_⟩⟩)))))
    refine next_use hs (by omega) (by unfold bigN; omega) fun z H1 z0 z1 k1 s1 => o_nil ⟨sz (by simp), fun l hl => ⟨_, rfl, ?_⟩⟩
    refine ⟨l, r, [.int z], rfl, rfl, SqT.of g_same, by simp, by omega, by omega, by simp, fun p hp => ?_⟩
    have e : (List.replicate (r : Int).toNat [V.int z]).flatten = (List.replicate r z).map V.int := by
      rw [Int.toNat_natCast]
      exact rep_flat r z
    rw [e]
    exact k p (List.replicate r z) _ ⟨by simp, fun x hx => by rw [List.eq_of_mem_replicate hx]; exact ⟨z0, z1⟩⟩ (SqT.of g_same) ((k1.new hl).new hp) (((s1.new hl).new hp).le (by omega))
  walk_at "rd"
  refine if_b (fun h1 => ?_) (fun h1 => ?_)
  · refine o_ret (o_cb (o_cons (lcRD (n := (r : Int)) (P := fun _ v => ∃ z : Int, v = .int z ∧ 0 ≤ z ∧ z < r) 1 (fun _ _ _ _ h => h) (fun R r => o_cons ⟨_, rfl, o_nil r⟩) (by omega) (by omega) hs (by unfold bigN; omega) (fun j H3 m hj k3 s3 hm R q => ?_) fun D H3 xs hD k3 hx hl hP s3 => o_nil ?_)))
    · refine o_cb (o_cons (o_op ⟨_, rfl, o_c (r_sub (o_cons (o_op (o_op ⟨_, rfl, o_c (r_add ?_)⟩))))⟩))
      refine o_call (o_cons ⟨_, rfl, o_cons (o_c (o_nil ?_))⟩)
      refine next_use s3 (by decide) (by omega) fun z H4 z0 z1 k4 s4 => r_add (o_nil ⟨_, _, rfl, q _ H4 ⟨_, rfl, ?_, ?_⟩ k4 s4⟩)
      · split <;> omega
      · split <;> omega
    · obtain ⟨ys, rfl, hy⟩ := ints_of xs hP
      rw [List.length_map] at hl
      exact r_tupL (SqL.of hx) fun l hnl => k l ys _ ⟨by omega, hy⟩ (SqT.of g_same) (k3.new hnl) ((s3.new hnl).le (by omega))
  refine o_next ?_
  dsimp only
  refine o_seq (o_asg (o_call (o_cons ⟨_, rfl, o_cons (o_op ⟨_, rfl, o_c (r_sub (o_nil ?_))⟩)⟩)))
  refine next_use hs (by omega) (by unfold bigN; omega) fun one H1 z0 z1 k1 s1 => ?_
  dsimp only
  refine o_seq (o_asg (o_call (o_cons ⟨_, rfl, o_cons (o_op ⟨_, rfl, o_c (r_sub (o_nil ?_))⟩)⟩)))
  refine next_use s1 (by omega) (by unfold bigN; omega) fun oth H2 y0 y1 k2 s2 => ?_
  dsimp only
  refine o_ret (o_cb (o_cons (lcR (n := r) (fun i => .int (if (i : Int) = one then oth else (r : Int) - 1)) (fun R q => o_cons ⟨_, rfl, o_nil q⟩) (by omega) (fun i H3 hi k3 R q => ?_) fun D H3 k3 hD => o_nil (r_tupL (SqL.of hD) fun l hl => ?_))))
  · refine o_op (o_lst (o_cons (o_op ⟨_, rfl, o_c (r_sub (o_cons ⟨_, rfl, o_nil ⟨sz (by simp), fun p hp => ?_⟩⟩))⟩)))
    refine o_cb (o_cons (o_op ⟨_, rfl, _, rfl, r_eq rfl (o_nil (r_intB ?_))⟩))
    by_cases e : (i : Int) = one
    · rw [if_pos (by simpa using e)]
      refine r_ixL (SqL.of g_same) atZ1 ?_
      have := q _ (kp_new (o := .lst [.int ((r : Int) - 1), .int oth]) hp)
      rw [if_pos e] at this
      exact this
    · rw [if_neg (by simpa using e)]
      refine r_ixL (SqL.of g_same) atZ0 ?_
      have := q _ (kp_new (o := .lst [.int ((r : Int) - 1), .int oth]) hp)
      rw [if_neg e] at this
      exact this
  · refine k l ((List.range r).map fun i => if ((i : Nat) : Int) = one then oth else (r : Int) - 1) _ ⟨by simp, fun x hx => ?_⟩ (SqT.of (by rw [upd_same, List.map_map]; rfl)) (((k1.trans k2).trans (k3.sub (by simp))).new hl) (((s2.kp k3).new hl).le (by omega))
    obtain ⟨i, _, rfl⟩ := List.mem_map.mp hx
    split <;> omega
end
end K92
namespace K92
open PySem PySem.Spec PyProof.Rows L2 Sf
def md (f : List Int) : PyData := .tuple (f.map .int)
theorem eqv_ints : ∀ a b : List Int, PyData.eqvAll (a.map .int) (b.map .int) = decide (a = b)
  | [], [] => by simp [PyData.eqvAll]
  | [], _ :: _ => by simp [PyData.eqvAll]
  | _ :: _, [] => by simp [PyData.eqvAll]
  | x :: a, y :: b => by
    rw [List.map_cons, List.map_cons, PyData.eqvAll, eqv_ints a b, PyData.eqv]
    by_cases h : x = y
    · subst h; simp
    · simp [h]
theorem eqv_md (a b : List Int) : PyData.eqv (md a) (md b) = decide (a = b) := by
  unfold md
  rw [PyData.eqv]
  exact eqv_ints a b
theorem any_md (fo : List (List Int)) (f : List Int) : ((fo.map md).any fun z => PyData.eqv z (md f)) = decide (f ∈ fo) := by
  induction fo with
  | nil => rfl
  | cons a r ih =>
    rw [List.map_cons, List.any_cons, ih, eqv_md]
    by_cases h : a = f
    · subst h; simp
    · have h' : ¬ f = a := fun e => h e.symm
      simp [h, h']
theorem lay_ints (f : List Int) : PyData.canLayAll0 (f.map .int) = true ∧ PyData.depthAll (f.map .int) = 0 := by
  induction f with
  | nil => exact ⟨rfl, rfl⟩
  | cons a r ih => exact ⟨by simp [PyData.canLayAll0, PyData.canLay0, ih.1], by simp [PyData.depthAll, PyData.depth, ih.2]⟩
theorem shape_md (f : List Int) : SeqAt.shaped (md f) = true := by
  unfold SeqAt.shaped md
  simp [PyData.canLay0, PyData.depth, lay_ints f]
theorem shape_mds (fo : List (List Int)) : SeqAt.shaped (.list (fo.map md)) = true := by
  have : PyData.canLayAll0 (fo.map md) = true ∧ PyData.depthAll (fo.map md) ≤ 1 := by
    induction fo with
    | nil => exact ⟨rfl, by simp [PyData.depthAll]⟩
    | cons a r ih => exact ⟨by simp [PyData.canLayAll0, md, PyData.canLay0, lay_ints a, ih.1], by simp only [List.map_cons, PyData.depthAll]; exact Nat.max_le.mpr ⟨by simp [md, PyData.depth, lay_ints a], ih.2⟩⟩
  have h2 := this.2
  unfold SeqAt.shaped
  simp [PyData.canLay0, PyData.depth, this.1]
  omega
theorem filt_true {α : Type} (l : List α) : l.filter (fun _ => true) = l := List.filter_eq_self.mpr fun _ _ => rfl
section
variable {K : PySem.W.Frag} {ca : Nat → Addr} {H H1 : Hp} {Q : VK} {σ : L2.St} {fo a oa : Addr} {fv : List V} {found : List (List Int)} {f x : List Int} {r : Nat}
theorem TupsAt.app {y : V} {l : Addr} (e : y = .ref l) (h : SqT K H l (f.map V.int)) : ∀ {vs : List V} {fs : List (List Int)}, TupsAt K H vs fs → TupsAt K H (vs ++ [y]) (fs ++ [f])
  | [], [], _ => ⟨⟨l, e, h⟩, trivial⟩
  | _ :: _, _ :: _, ⟨p, r⟩ => ⟨p, TupsAt.app e h r⟩
  | [], _ :: _, h => h.elim
  | _ :: _, [], h => h.elim
theorem notin_run (hf : H fo = some (.lst fv)) (ht : TupsAt K H fv found) (ha : SqT K H a (f.map V.int)) (q : Q (.bl (!decide (f ∈ found))) H) : rNotInD K (.ref a) (.ref fo) H Q := by
  refine ⟨md f, found.map md, .tup ha (dps_ints _), .lst (SqL.of hf) ht.dps, shape_md f, shape_mds found, ?_⟩
  rw [any_md]
  exact q
theorem index_run (hf : H fo = some (.lst fv)) (ht : TupsAt K H fv found) (ha : SqT K H a (f.map V.int)) (m : f ∈ found) (q : Q (.int ((found.idxOf f : Nat) : Int)) H) : rIndexD K (.ref fo) [.ref a] H Q := by
  have hl : found.idxOf f < found.length := List.idxOf_lt_length_iff.mpr m
  refine ⟨fo, .ref a, md f, found.map md, found.idxOf f, md f, rfl, rfl, .lst (SqL.of hf) ht.dps, .tup ha (dps_ints _), shape_mds found, shape_md f, ?_, ?_, fun k z hk hz => ?_, q⟩
  · rw [List.getElem?_map, List.getElem?_eq_getElem hl, List.getElem_idxOf]
    rfl
  · rw [eqv_md]; simp
  · rw [List.getElem?_map] at hz
    obtain ⟨y, hy, rfl⟩ := Option.map_eq_some_iff.mp hz
    have hk2 : k < found.length := by omega
    have h1 : (found[k] == f) = false := List.not_of_lt_findIdx (p := (· == f)) hk
    rw [List.getElem?_eq_getElem hk2] at hy
    rw [Option.some.inj hy] at h1
    rw [eqv_md]
    simpa using h1
/-- a comprehension over a list, its results told by place -/
theorem lcLi {j : Nat} {te t0 : TE} {xs : List V} (out : List V) (hlen : out.length = xs.length) (h0 : ∀ R : VK, R (.ref a) H → t0 σ H R) (hx : SqL K H a xs) (hz : xs.length ≤ 1000000)
    (he : ∀ (i : Nat) (v y : V) (H1 : Hp), xs[i]? = some v → out[i]? = some y → Kp [] H H1 → ∀ R : VK, (∀ H2, Kp [] H1 H2 → R y H2) → te ((σ.set j none).set j (some v)) H1 R)
    (q : ∀ D H', H D = none → Kp [] H H' → H' D = some (.lst out) → Q (.ref D) H') : tLc (iList K t0) (gName j) tYes te [j] σ H Q := by
  refine h0 _ ⟨a, rfl, ⟨xs, hx⟩, fun D hD => ?_⟩
  refine lc_list (xs := xs) (fun i H1 => Kp [] H H1 ∧ H1 D = some (.lst (out.take i))) ⟨kp_new hD, by rw [upd_same]; simp⟩ (fun i H1 _ ⟨k1, _⟩ => k1.sqL (by simp) hx) (fun i v H1 hi ⟨k1, a1⟩ => ⟨wipe_one σ j _, ?_⟩) fun H1 ⟨k1, a1⟩ => ?_
  · have hl : i < out.length := by rw [hlen]; exact lt_get hi
    unfold tYes
    dsimp only
    rw [if_pos rfl]
    refine he i v out[i] H1 hi (List.getElem?_eq_getElem hl) k1 _ fun H2 k2 => ⟨_, k2 _ _ a1 (by simp), szl (by rw [List.length_take]; omega), (k1.trans k2).own hD, ?_⟩
    rw [upd_same, take_more (List.getElem?_eq_getElem hl)]
  · refine q D H1 hD k1 ?_
    rw [a1, ← hlen, List.take_of_length_le (Nat.le_refl _)]
/-- tuple([f[room] for room in x]) -/
theorem comp_run {i : Nat} {t0 : TE} (h0 : ∀ R : VK, R (.ref a) H → t0 σ H R) (hx : SqT K H a (x.map V.int)) (ho : SqT K H oa (f.map V.int)) (hi : σ[i]? = some (some (.ref oa))) (h8 : i ≠ 8) (hl : 8 < σ.length) (okf : MapOk r f) (okx : MapOk r x) (hr : r ≤ 4)
    (q : ∀ l H', Kp [] H H' → SqT K H' l ((comp f x).map V.int) → Q (.ref l) H') : tCB (rdTuple K) (tCons (tLc (iTup K t0) (gName 8) tYes (tOp (rIxT K) (tVar i) (tVar 8)) [8]) tNil) σ H Q := by
  refine o_cb (o_cons (lcT (xs := x.map V.int) (fun _ => true) (fun v => match v with | .int k => .int (f.getD k.toNat 0) | _ => .non) h0 hx (by rw [List.length_map, okx.1]; omega) (fun v H1 _ _ R q => q _ (Kp.refl [] _)) (fun v H1 hm _ k1 R q => ?_) fun D H1 hD k1 ha => ?_))
  · obtain ⟨z, hz, rfl⟩ := List.mem_map.mp hm
    have hz2 := okx.2 z hz
    have hlt : z.toNat < f.length := by rw [okf.1]; omega
    refine o_op ⟨.ref oa, by rw [List.getElem?_set_ne (Ne.symm h8), List.getElem?_set_ne (Ne.symm h8)]; exact hi, .int z, by rw [List.getElem?_set_self (by simpa using hl)], ?_⟩
    refine r_ixT (k1.sqT (by simp) ho) (at_int hz2.1 (by rw [List.getElem?_map, List.getElem?_eq_getElem hlt]; rfl)) ?_
    have this : R (.int (f.getD z.toNat 0)) H1 := q _ (Kp.refl [] H1)
    rw [List.getD_eq_getElem?_getD, List.getElem?_eq_getElem hlt] at this
    exact this
  · rw [filt_true, List.map_map] at ha
    refine o_nil (r_tupL (SqL.of ha) fun l hnl => q l _ (k1.new hnl) (SqT.of ?_))
    rw [upd_same]
    unfold comp
    rw [List.map_map]
    rfl
/-- what is found so far -/
structure Fo (K : PySem.W.Frag) (H : Hp) (ms : List (List Int)) (fo : Addr) (found : List (List Int)) (H1 : Hp) : Prop where
  kp : Kp [] H H1
  at_ : ∃ fv, H1 fo = some (.lst fv) ∧ TupsAt K H1 fv found
  nd : found.Nodup
  gen : ∀ x ∈ found, GenM ms x
theorem Fo.kp' {ms : List (List Int)} {H2 : Hp} (h : Fo K H ms fo found H1) (k : Kp [] H1 H2) : Fo K H ms fo found H2 := by
  obtain ⟨a, ⟨fv, b, c⟩, d, e⟩ := h
  exact ⟨a.trans k, ⟨fv, k _ _ b (by simp), c.tk k.tk⟩, d, e⟩
theorem nodup_snoc {l : List (List Int)} {x : List Int} (d : l.Nodup) (h : x ∉ l) : (l ++ [x]).Nodup := by
  rw [List.nodup_append]
  exact ⟨d, by simp, fun a ha b hb e => h (by rw [← List.mem_singleton.mp hb, ← e]; exact ha)⟩
/-- if x is not there, it is put behind -/
theorem Fo.put {ms : List (List Int)} {D : Ends} {i : Nat} {la : Addr} (h : Fo K H ms fo found H1) (h2 : σ[2]? = some (some (.ref fo))) (hi : σ[i]? = some (some (.ref la))) (hs : SqT K H1 la (x.map V.int)) (gx : GenM ms x) (hn : H fo = none) (few : found.length ≤ 1000)
    (q : ∀ fd H2, Fo K H ms fo fd H2 → (∃ ext, fd = found ++ ext) → x ∈ fd → D.nx σ H2) : tIfS (tTest (tOp (rNotInD K) (tVar i) (tVar 2))) (tDrop (tBM K "list" rAppend (tVar 2) (tCons (tVar i) tNil))) tNext D σ H1 := by
  obtain ⟨kp, ⟨fv, at_, ta⟩, nd, gen⟩ := id h
  refine o_if (o_test (o_op ⟨_, hi, _, h2, notin_run at_ ta hs (o_bl (if_b (fun h1 => ?_) (fun h1 => ?_)))⟩))
  · have hx : x ∉ found := by simpa using h1
    have lf := ta.len
    refine o_drop (o_bm ⟨_, h2, .inl ⟨rfl, _, SqL.of at_⟩, o_cons ⟨_, hi, o_nil (r_app at_ (szl (by omega)) ?_)⟩⟩)
    have tk := (Tk.refl H1).lst (o := .lst (fv ++ [.ref la])) at_
    refine q (found ++ [x]) _ ⟨kp.own hn, ⟨_, g_same, (ta.tk tk).app rfl (tk.sqT hs)⟩, nodup_snoc nd hx, fun y hy => ?_⟩ ⟨[x], rfl⟩ (by simp)
    rcases List.mem_append.mp hy with hy | hy
    · exact gen y hy
    · rw [List.mem_singleton.mp hy]; exact gx
  · exact o_next (q found H1 h ⟨[], by simp⟩ (by simpa using h1))
theorem Fo.few {ms : List (List Int)} (h : Fo K H ms fo found H1) (hm : ∀ f ∈ ms, MapOk r f) (hr : r ≤ 4) : found.length ≤ 256 := few_maps hr h.nd fun f hf => gen_ok hm (h.gen f hf)
end
end K92
namespace K92
open PySem PySem.Spec PyProof.Rows L2 Sf
section
variable {K : PySem.W.Frag} {ca : Nat → Addr} {H H1 : Hp} {Q : VK} {σ : L2.St} {fo a oa : Addr} {fv : List V} {found : List (List Int)} {f x : List Int} {r : Nat}
theorem forL {t0 : TE} {g : TG} {tb : TS} {D : Ends} {xs : List V} (h : ∀ R : VK, R (.ref a) H → t0 σ H R) (hx0 : SqL K H a xs) (Pv : Nat → L2.St → Hp → Prop) (h0 : Pv 0 σ H) (hx : ∀ i σ H, i ≤ xs.length → Pv i σ H → SqL K H a xs)
    (hs : ∀ i x σ H, xs[i]? = some x → Pv i σ H → g x σ H fun σ2 H2 => tb { D with nx := Pv (i + 1), ct := Pv (i + 1), bk := D.nx } σ2 H2) (hd : ∀ σ H, Pv xs.length σ H → D.nx σ H) : tFor (iList K t0) g tb D σ H := by
  unfold tFor iList
  exact h _ ⟨a, rfl, ⟨_, hx0⟩, for_list (xs := xs) Pv h0 hx hs hd⟩
theorem forR {ta : TA} {g : TG} {tb : TS} {D : Ends} {n : Nat} (h : ∀ R : List V → Hp → Prop, R [.int (n : Int)] H → ta σ H R) (hn : n ≤ 1000000) (Pv : Nat → L2.St → Hp → Prop) (h0 : Pv 0 σ H)
    (hs : ∀ m σ H, m < n → Pv m σ H → g (.int (m : Int)) σ H fun σ2 H2 => tb { D with nx := Pv (m + 1), ct := Pv (m + 1), bk := D.nx } σ2 H2) (hd : ∀ σ H, Pv n σ H → D.nx σ H) : tFor (iRng1 ta) g tb D σ H := by
  unfold tFor iRng1
  refine h _ ⟨n, rfl, by omega, by omega, ?_⟩
  refine for_range (lo := 0) (n := n) Pv h0 (fun m σ' H' hm p => ?_) hd
  have e0 : (0 : Int) + (m : Int) = (m : Int) := Int.zero_add _
  rw [e0]
  exact hs m σ' H' hm p
theorem get_app {α : Type} {l e : List α} {k : Nat} {x : α} (h : l[k]? = some x) : (l ++ e)[k]? = some x := by
  rw [List.getElem?_append_left (lt_get h)]; exact h
theorem pure_law_built (vs : List V) (H : Hp) (Q : VK) (E : XK) (h : sp_law_built K ca vs H Q E) : t_law_built K ca (fin Q) (start ["letters", "maps", "found", "one", "at", "products", "longer", "other", "room"] vs) H := by
  obtain ⟨la, ma, ws, mv, ms, r, rfl, ⟨ol, hla, hno⟩, hma, htm, hwm, hne, hm4, hr1, hr4, okm, wd, k⟩ := h
  have lm := htm.len
  unfold t_law_built
  refine o_seq (o_asg (o_lst (o_nil ⟨sz (by simp), fun fo hfo => ?_⟩)))
  have F0 : Fo K H ms fo [] (upd H fo (.lst [])) := ⟨kp_new hfo, ⟨[], g_same, trivial⟩, List.nodup_nil, by simp⟩
  generalize upd H fo (.lst []) = H1 at *
  dsimp only
  refine o_seq ?_
  have maSq : ∀ {H2}, Kp [] H H2 → SqL K H2 ma mv := fun k2 => SqL.of (k2 _ _ hma (by simp))
  -- the maps themselves
  refine forL (a := ma) (xs := mv) (fun R q => ⟨_, rfl, q⟩) (maSq F0.kp) (fun i σ' H2 => ∃ one fd, σ' = [some (.ref la), some (.ref ma), some (.ref fo), one, none, none, none, none, none] ∧ Fo K H ms fo fd H2 ∧ ∀ f ∈ ms.take i, f ∈ fd) ⟨none, [], rfl, F0, by simp⟩ (fun i σ' H2 _ ⟨_, _, _, F, _⟩ => maSq F.kp) (fun i v σ' H2 hi ⟨one, fd, e, F, hin⟩ => ?_) fun σ' H2 ⟨one, fd, e, F, hin⟩ => ?_
  · subst e
    have hi2 : i < ms.length := by rw [← lm]; exact lt_get hi
    obtain ⟨oa, e1, so⟩ := (htm.tk F.kp.tk).get (List.getElem?_eq_getElem hi2)
    rw [hi] at e1
    have e1 := Option.some.inj e1
    subst e1
    refine o_gname ?_
    refine F.put rfl rfl so (.base (List.getElem_mem hi2)) hfo (by have := F.few okm hr4; omega) fun fd2 H3 F2 ⟨ext, ex⟩ hx => ⟨_, fd2, rfl, F2, fun f hf => ?_⟩
    rw [take_more (List.getElem?_eq_getElem hi2)] at hf
    rcases List.mem_append.mp hf with hf | hf
    · rw [ex]; exact List.mem_append_left _ (hin f hf)
    · rw [List.mem_singleton.mp hf]; exact hx
  subst e
  have hin : ∀ f ∈ ms, f ∈ fd := by rw [lm, List.take_of_length_le (Nat.le_refl _)] at hin; exact hin
  clear F0 H1
  dsimp only
  -- what comes of them
  refine o_seq ?_
  refine forR (n := 400) (fun R q => o_cons (o_c (o_nil q))) (by decide) (fun m σ' H2 => ∃ one at_ lo fd, σ' = [some (.ref la), some (.ref ma), some (.ref fo), one, at_, none, lo, none, none] ∧ Fo K H ms fo fd H2 ∧ (∀ f ∈ ms, f ∈ fd) ∧ ∀ k x, k < m → fd[k]? = some x → ∀ f ∈ ms, comp f x ∈ fd) ⟨one, none, none, fd, rfl, F, hin, fun k x h => absurd h (by omega)⟩ (fun m σ' H2 hm ⟨one, at_, lo, fd, e, F, hin, hcl⟩ => ?_) fun σ' H2 ⟨one, at_, lo, fd, e, F, hin, hcl⟩ => ?_
  · subst e
    have few := F.few okm hr4
    obtain ⟨fv, hfv, htf⟩ := F.at_
    have lf := htf.len
    refine o_gname ?_
    refine o_if (o_test (o_op ⟨_, rfl, o_cb (o_cons ⟨_, rfl, o_nil (r_lenL (SqL.of hfv) (r_lt (o_bl ?_)))⟩)⟩))
    rw [lf]
    refine if_b (fun h1 => ?_) (fun h1 => ?_)
    · have h1 := of_decide_eq_true h1
      have hml : m < fd.length := by omega
      refine forL (a := ma) (xs := mv) (fun R q => ⟨_, rfl, q⟩) (maSq F.kp) (fun i σ' H3 => ∃ one lo ext, σ' = [some (.ref la), some (.ref ma), some (.ref fo), one, some (.int (m : Int)), none, lo, none, none] ∧ Fo K H ms fo (fd ++ ext) H3 ∧ ∀ f ∈ ms.take i, comp f fd[m] ∈ fd ++ ext) ⟨one, lo, [], rfl, by rw [List.append_nil]; exact F, by simp⟩ (fun i σ' H3 _ ⟨_, _, _, _, F, _⟩ => maSq F.kp) (fun i v σ' H3 hi ⟨one, lo, ext, e, F3, hc3⟩ => ?_) fun σ' H3 ⟨one, lo, ext, e, F3, hc3⟩ => ?_
      · subst e
        have hi2 : i < ms.length := by rw [← lm]; exact lt_get hi
        obtain ⟨oa, e1, so⟩ := (htm.tk F3.kp.tk).get (List.getElem?_eq_getElem hi2)
        rw [hi] at e1
        have e1 := Option.some.inj e1
        subst e1
        refine o_gname ?_
        obtain ⟨fv3, hfv3, htf3⟩ := F3.at_
        have gx : (fd ++ ext)[m]? = some fd[m] := get_app (List.getElem?_eq_getElem hml)
        obtain ⟨xa, ex, sx⟩ := htf3.get gx
        have okx : MapOk r fd[m] := gen_ok okm (F.gen _ (List.getElem_mem hml))
        refine o_seq (o_asg (comp_run (x := fd[m]) (i := 3) (fun R q => o_op ⟨_, rfl, _, rfl, r_ixL (SqL.of hfv3) (at_int (by omega) ?_) q⟩) sx so rfl (by decide) (by simp) (okm _ (List.getElem_mem hi2)) okx hr4 fun l H4 k4 hl4 => ?_))
        · rw [Int.toNat_natCast]
          exact ex
        · dsimp only
          have F4 := F3.kp' k4
          refine F4.put (i := 6) rfl rfl hl4 (.step (List.getElem_mem hi2) (F.gen _ (List.getElem_mem hml))) hfo (by have := F4.few okm hr4; omega) fun fd2 H5 F5 ⟨ext2, ex2⟩ hx => ⟨_, _, ext ++ ext2, rfl, by rw [← List.append_assoc, ← ex2]; exact F5, fun f hf => ?_⟩
          rw [← List.append_assoc, ← ex2]
          rw [take_more (List.getElem?_eq_getElem hi2)] at hf
          rcases List.mem_append.mp hf with hf | hf
          · rw [ex2]; exact List.mem_append_left _ (hc3 f hf)
          · rw [List.mem_singleton.mp hf]; exact hx
      · subst e
        rw [lm, List.take_of_length_le (Nat.le_refl _)] at hc3
        refine ⟨_, _, _, fd ++ ext, rfl, F3, fun f hf => List.mem_append_left _ (hin f hf), fun k x hk hx f hf => ?_⟩
        rw [List.getElem?_append_left (by omega)] at hx
        by_cases e : k = m
        · subst e
          rw [List.getElem?_eq_getElem hml] at hx
          rw [← Option.some.inj hx]
          exact hc3 f hf
        · exact List.mem_append_left _ (hcl k x (by omega) hx f hf)
    · have h1 := of_decide_eq_false h1
      refine o_next ⟨_, _, _, fd, rfl, F, hin, fun k x hk hx f hf => ?_⟩
      exact hcl k x (by have := lt_get hx; omega) hx f hf
  subst e
  have few := F.few okm hr4
  have hcl : ∀ x ∈ fd, ∀ f ∈ ms, comp f x ∈ fd := fun x hx f hf => by
    obtain ⟨k, hk, e⟩ := List.getElem_of_mem hx
    exact hcl k x (by omega) (by rw [List.getElem?_eq_getElem hk, e]) f hf
  have cl : ∀ y ∈ fd, ∀ x ∈ fd, comp y x ∈ fd := fun y hy x hx => gen_closed okm F.gen hcl (F.gen y hy) x hx
  have ok : ∀ y ∈ fd, MapOk r y := fun y hy => gen_ok okm (F.gen y hy)
  have good := tab_good (ws := ws) hr4 hwm hne hm4 okm hin F.nd F.gen hcl wd
  obtain ⟨fv, hfv, htf⟩ := F.at_
  have lf := htf.len
  have kp := F.kp
  clear F
  dsimp only
  -- the products
  refine o_seq (o_asg (o_lst (o_nil ⟨sz (by simp), fun pr hpr => ?_⟩)))
  have npr : fo ≠ pr := ne_of_none hfv hpr
  have kp1 := kp.new (o := .lst []) hpr
  have hfv1 := g_new (o := .lst []) hpr hfv
  have htf1 := htf.tk ((Tk.refl H2).new (o := .lst []) hpr)
  have hpr0 : H pr = none := kp.free (by simp) hpr
  have hp1 : (upd H2 pr (.lst [])) pr = some (.lst []) := g_same
  generalize upd H2 pr (.lst []) = H3 at *
  dsimp only
  refine o_seq ?_
  refine forL (a := fo) (xs := fv) (fun R q => ⟨_, rfl, q⟩) (SqL.of hfv1) (fun i σ' H4 => ∃ one at_ lo pv, σ' = [some (.ref la), some (.ref ma), some (.ref fo), one, at_, some (.ref pr), lo, none, none] ∧ Kp [] H H4 ∧ H4 fo = some (.lst fv) ∧ TupsAt K H4 fv fd ∧ H4 pr = some (.lst pv) ∧ TupsAt K H4 pv ((prods fd).take i)) ⟨_, _, _, [], rfl, kp1, hfv1, htf1, hp1, by simp [TupsAt]⟩ (fun i σ' H4 _ ⟨_, _, _, _, _, _, h, _⟩ => SqL.of h) (fun i v σ' H4 hi ⟨one, at_, lo, pv, e, k4, f4, t4, p4, q4⟩ => ?_) fun σ' H4 ⟨one, at_, lo, pv, e, k4, f4, t4, p4, q4⟩ => ?_
  · subst e
    have hi2 : i < fd.length := by rw [← lf]; exact lt_get hi
    obtain ⟨xa, e1, sx⟩ := t4.get (List.getElem?_eq_getElem hi2)
    rw [hi] at e1
    have e1 := Option.some.inj e1
    subst e1
    refine o_gname ?_
    refine o_drop (o_bm ⟨_, rfl, .inl ⟨rfl, _, SqL.of p4⟩, o_cons (o_cb (o_cons ?_))⟩)
    refine lcLi (fd.map fun y => .int ((fd.idxOf (comp y fd[i]) : Nat) : Int)) (by rw [List.length_map, lf]) (fun R q => ⟨_, rfl, q⟩) (SqL.of f4) (by omega) (fun j v y H5 hj hy k5 R q => ?_) fun D H5 hD k5 aD => ?_
    · have hj2 : j < fd.length := by rw [← lf]; exact lt_get hj
      have t5 := t4.tk k5.tk
      obtain ⟨ya, e2, sy⟩ := t5.get (List.getElem?_eq_getElem hj2)
      rw [hj] at e2
      have e2 := Option.some.inj e2
      subst e2
      rw [List.getElem?_map, List.getElem?_eq_getElem hj2] at hy
      have hy := Option.some.inj hy
      have f5 := k5 _ _ f4 (by simp)
      refine o_bm ⟨_, rfl, .inl ⟨rfl, _, SqL.of f5⟩, o_cons (comp_run (x := fd[i]) (i := 7) (fun R q => ⟨_, rfl, q⟩) (k5.sqT (by simp) sx) sy rfl (by decide) (by simp) (ok _ (List.getElem_mem hj2)) (ok _ (List.getElem_mem hi2)) hr4 fun l H6 k6 hl6 => o_nil ?_)⟩
      refine index_run (k6 _ _ f5 (by simp)) (t5.tk k6.tk) hl6 (cl _ (List.getElem_mem hj2) _ (List.getElem_mem hi2)) ?_
      rw [← hy] at q
      exact q H6 k6
    · refine o_nil (r_tupL (SqL.of aD) fun l hl => o_nil ?_)
      have k6 := k5.new (o := .tup (fd.map fun y => V.int ((fd.idxOf (comp y fd[i]) : Nat) : Int))) hl
      have p6 := k6 _ _ p4 (by simp)
      have lp := q4.len
      have lpr : (prods fd).length = fd.length := by unfold prods; rw [List.length_map]
      refine r_app p6 (szl (by rw [lp, List.length_take, lpr]; omega)) ?_
      have tk7 := (Tk.refl _).lst (o := .lst (pv ++ [.ref l])) p6
      have npf : fo ≠ pr := npr
      refine ⟨_, _, _, pv ++ [.ref l], rfl, (k4.trans k6).own hpr0, g_mut npf (k6 _ _ f4 (by simp)), (t4.tk k6.tk).tk tk7, g_same, ?_⟩
      have gi : (prods fd)[i]? = some (fd.map fun y => ((fd.idxOf (comp y fd[i]) : Nat) : Int)) := by
        unfold prods
        rw [List.getElem?_map, List.getElem?_eq_getElem hi2]
        rfl
      rw [take_more gi]
      refine ((q4.tk k6.tk).tk tk7).app rfl (tk7.sqT (SqT.of ?_))
      rw [upd_same, List.map_map]
      rfl
  subst e
  dsimp only
  have lpr : (prods fd).length = fd.length := by unfold prods; rw [List.length_map]
  rw [lf, List.take_of_length_le (by omega)] at q4
  -- the table
  refine o_ret (o_tup (o_cons ⟨_, rfl, o_cons (o_cb (o_cons ?_))⟩))
  refine lcLi (ms.map fun f => .int ((fd.idxOf f : Nat) : Int)) (by rw [List.length_map, lm]) (fun R q => ⟨_, rfl, q⟩) (maSq k4) (by omega) (fun j v y H5 hj hy k5 R q => ?_) fun D H5 hD k5 aD => ?_
  · have hj2 : j < ms.length := by rw [← lm]; exact lt_get hj
    obtain ⟨ya, e2, sy⟩ := (htm.tk (k4.trans k5).tk).get (List.getElem?_eq_getElem hj2)
    rw [hj] at e2
    have e2 := Option.some.inj e2
    subst e2
    rw [List.getElem?_map, List.getElem?_eq_getElem hj2] at hy
    have hy := Option.some.inj hy
    have f5 := k5 _ _ f4 (by simp)
    refine o_bm ⟨_, rfl, .inl ⟨rfl, _, SqL.of f5⟩, o_cons ⟨_, rfl, o_nil ?_⟩⟩
    refine index_run f5 (t4.tk k5.tk) sy (hin _ (List.getElem_mem hj2)) ?_
    rw [← hy] at q
    exact q H5 (Kp.refl _ _)
  · refine o_nil (r_tupL (SqL.of aD) fun l hl => ?_)
    have k6 := k5.new (o := .tup (ms.map fun f => V.int ((fd.idxOf f : Nat) : Int))) hl
    have hl6 : (upd H5 l (.tup (ms.map fun f => V.int ((fd.idxOf f : Nat) : Int)))) l = some _ := g_same
    generalize upd H5 l _ = H6 at *
    refine o_cons (o_cb (o_cons ⟨_, rfl, o_nil (r_tupL (SqL.of (k6 _ _ p4 (by simp))) fun l2 hl2 => o_nil ⟨sz (by simp), fun l3 hl3 => ?_⟩)⟩))
    have k7 := k6.new (o := .tup pv) hl2
    have k8 := k7.new (o := .tup [.ref la, .ref l, .ref l2]) hl3
    refine k l3 (Tb.mk ws (ms.map fun f => ((fd.idxOf f : Nat) : Int)) (prods fd)) _ good ⟨la, l, l2, ol, pv, SqT.of g_same, (k4.trans k8) _ _ hla (by simp), hno, SqT.of (g_new hl3 (g_new hl2 ?_)), SqT.of (g_new hl3 g_same), q4.tk k8.tk⟩ (k4.trans k8)
    rw [List.map_map]
    exact hl6
end
end K92
namespace K92
open PySem PySem.Spec PyProof.Rows L2 Sf
section
variable {K : PySem.W.Frag} {ca : Nat → Addr} {H H1 : Hp} {Q : VK} {σ : L2.St} {st nu : Addr} {n : Nat}
def intA : List Int → TA
  | [] => tNil
  | a :: r => tCons (tC (.int a)) (intA r)
theorem intA_run : ∀ (l : List Int) (QA : List V → Hp → Prop), QA (l.map V.int) H → intA l σ H QA
  | [], _, q => q
  | a :: r, QA, q => o_cons (o_c (intA_run r _ q))
def llA : List (List Int) → TA
  | [] => tNil
  | a :: r => tCons (tLst (intA a)) (llA r)
def LLs (H0 H : Hp) (vs : List V) (ls : List (List Int)) : Prop := vs.length = ls.length ∧ ∀ (i : Nat) l, ls[i]? = some l → ∃ a, vs[i]? = some (.ref a) ∧ H0 a = none ∧ H a = some (.lst (l.map V.int))
theorem llA_run : ∀ (ls : List (List Int)) (H : Hp) (QA : List V → Hp → Prop), (∀ l ∈ ls, l.length ≤ 1000) → (∀ vs H', Kp [] H H' → LLs H H' vs ls → QA vs H') → llA ls σ H QA
  | [], H, QA, _, q => q [] H (Kp.refl _ _) ⟨rfl, fun i l h => by simp at h⟩
  | a :: r, H, QA, hz, q => by
    refine o_cons (o_lst (intA_run a _ ⟨sz (by have := hz a (by simp); simp; omega), fun p hp => ?_⟩))
    refine llA_run r _ _ (fun l hl => hz l (by simp [hl])) fun vs H' k ⟨h1, h2⟩ => q _ H' ((kp_new hp).trans k) ⟨by simp [h1], fun i l hi => ?_⟩
    cases i with
    | zero =>
      have e : a = l := by simpa using hi
      subst e
      exact ⟨p, rfl, hp, k _ _ g_same (by simp)⟩
    | succ i =>
      obtain ⟨b, e1, e2, e3⟩ := h2 i l (by simpa using hi)
      refine ⟨b, by simpa using e1, ?_, e3⟩
      by_cases hb : b = p
      · subst hb; exact hp
      · rw [upd_ne hb] at e2; exact e2
theorem tups_of {r : Nat} : ∀ (xs : List V), (∀ v ∈ xs, ∃ a f, v = .ref a ∧ SqT K H a (f.map V.int) ∧ MapOk r f) → ∃ fs, TupsAt K H xs fs ∧ ∀ f ∈ fs, MapOk r f
  | [], _ => ⟨[], trivial, by simp⟩
  | v :: vs, h => by
    obtain ⟨a, f, e, s, o⟩ := h v (by simp)
    obtain ⟨fs, t, of_⟩ := tups_of vs fun v hv => h v (by simp [hv])
    exact ⟨f :: fs, ⟨⟨a, e, s⟩, t⟩, fun g hg => by
      rcases List.mem_cons.mp hg with z | z
      · rw [z]; exact o
      · exact of_ g z⟩
theorem StB.ne_frz {p : Addr} {o : Obj} {u : HO} (s : StB H st nu n) (h : H p = some (.frz o u)) : p ≠ st := by
  obtain ⟨j, ns, _, a, _⟩ := s
  rintro rfl
  rw [a] at h; cases h
/-- a map of r rooms -/
def MapV (K : PySem.W.Frag) (r : Nat) (H : Hp) (v : V) : Prop := ∃ a f, v = .ref a ∧ SqT K H a (f.map V.int) ∧ MapOk r f
theorem MapV.tk {r : Nat} {H H' : Hp} {v : V} (k : Tk H H') (h : MapV K r H v) : MapV K r H' v := by
  obtain ⟨a, f, e, s, o⟩ := h
  exact ⟨a, f, e, k.sqT s, o⟩
theorem pure_law_table (vs : List V) (H : Hp) (Q : VK) (E : XK) (h : sp_law_table K ca vs H Q E) : t_law_table K ca (fin Q) (start ["state", "rooms", "kinds", "maps", "k", "kind"] vs) H := by
  obtain ⟨st, nu, n, rfl, hs, hb, k⟩ := h
  have hb' : n + 200 < 1000000000 := hb
  unfold t_law_table
  -- the end of either way
  have end_ : ∀ (σ : L2.St) (H1 : Hp) (te : TA) (mp : Addr) (mv : List V) (ms : List (List Int)) (r m c : Nat), σ[0]? = some (some (.ref st)) → Kp [st] H H1 → StB H1 st nu m → m ≤ n + 100 → c = ms.length → ms ≠ [] → ms.length ≤ 4 → 1 ≤ r → r ≤ 4 →
      (∀ R : List V → Hp → Prop, R [.int (c : Int)] H1 → te σ H1 R) → ∀ (tm : TE), (∀ H2, Kp [st] H1 H2 → StB H2 st nu (m + 50) → ∀ R : VK, (∀ H3 m2 mv, Kp [st] H2 H3 → StB H3 st nu m2 → m2 ≤ n + 200 → H3 mp = some (.lst mv) → TupsAt K H3 mv ms → R (.ref mp) H3) → tm σ H2 R) → (∀ f ∈ ms, MapOk r f) →
      rCallG (sp_law_built K ca) E0 (tCons (rCallG (sp_law_letters K ca) E0 (tCons (tVar 0) te)) (tCons tm tNil)) σ H1 Q := fun σ H1 te mp mv ms r m c h0 k1 s1 hm hc hne h4 hr1 hr4 hte tm htm ok => by
    subst hc
    refine o_call (o_cons (o_call (o_cons ⟨_, h0, hte _ ?_⟩)))
    refine ⟨st, nu, ms.length, m, rfl, h4, s1, by unfold bigN; omega, fun a ws H2 hl hw ⟨o, ho, no⟩ k2 s2 => ?_⟩
    refine o_cons (htm H2 k2 s2 _ fun H3 m2 mv k3 s3 hm2 hmp htu => o_nil ?_)
    refine ⟨a, mp, ws, mv, ms, r, rfl, ⟨o, (s2.tk k3).2 _ _ _ ho, no⟩, hmp, htu, hl, hne, h4, hr1, hr4, ok, hw, fun b t H4 g tab k4 => ?_⟩
    exact k b t H4 g tab (((k1.trans k2).trans k3).trans (k4.sub (by simp))) ((s3.kp k4).le hm2)
  refine o_seq (o_if (o_test (o_op (o_call (o_cons ⟨_, rfl, o_cons (o_c (o_nil ?_))⟩)))))
  refine next_use hs (by decide) (by unfold bigN; omega) fun d0 H1 _ _ k1 s1 => o_c (r_eq rfl (o_bl ?_))
  refine if_b (fun h1 => ?_) (fun h1 => ?_)
  · -- four maps of two rooms
    refine o_ret (o_call (o_cons (o_call (o_cons ⟨_, rfl, o_cons (o_c (o_nil ?_))⟩))))
    refine ⟨st, nu, 4, _, rfl, by decide, s1, by unfold bigN; omega, fun a ws H2 hl hw ⟨o, ho, no⟩ k2 s2 => ?_⟩
    refine o_cons (lcRD (n := 4) (P := MapV K 2) 10 (fun _ _ _ tk h => h.tk tk) (fun R q => o_cons (o_c (o_nil q))) (by decide) (by decide) s2 (by unfold bigN; omega) (fun j H3 m hj k3 s3 hm R q => ?_) fun D H3 xs hD k3 hx hl2 hP s3 => o_nil ?_)
    · refine o_call (o_cons ⟨_, rfl, o_cons (o_c (o_cons (o_c (o_nil ?_))))⟩)
      exact ⟨st, nu, 2, m, 0, rfl, by decide, by decide, s3, hm, fun b f H4 ok sq k4 s4 => q _ H4 ⟨b, f, rfl, sq, ok⟩ k4 s4⟩
    · obtain ⟨fs, tu, of_⟩ := tups_of xs hP
      have e4 : xs.length = 4 := hl2
      have ef : fs.length = 4 := by rw [← tu.len]; exact e4
      refine ⟨a, D, ws, xs, fs, 2, rfl, ⟨o, (s2.tk k3).2 _ _ _ ho, no⟩, hx, tu, by omega, (by intro z; rw [z] at ef; cases ef), by omega, by decide, by decide, of_, hw, fun b t H4 g tab k4 => ?_⟩
      exact k b t H4 g tab (((k1.trans k2).trans k3).trans (k4.sub (by simp))) ((s3.kp k4).le (by omega))
  · refine o_next ?_
    dsimp only
    -- how many rooms
    refine o_seq (o_asg (draw_of (m := 4) (vs := [3, 3, 2, 4].map V.int) (fun R q => o_lst (intA_run [3, 3, 2, 4] _ ⟨sz (by simp), fun p hp => q p _ (kp_new hp) g_same (s1.ne hp).1⟩)) rfl s1 (by unfold bigN; omega) (by simp) (by simp) fun v hv H2 k2 s2 => ?_))
    obtain ⟨r, rfl, hr2, hr4⟩ : ∃ r : Nat, v = .int (r : Int) ∧ 2 ≤ r ∧ r ≤ 4 := by
      simp only [List.map_cons, List.map_nil, List.mem_cons, List.not_mem_nil, or_false] at hv
      rcases hv with rfl | rfl | rfl | rfl
      · exact ⟨3, rfl, by decide, by decide⟩
      · exact ⟨3, rfl, by decide, by decide⟩
      · exact ⟨2, rfl, by decide, by decide⟩
      · exact ⟨4, rfl, by decide, by decide⟩
    have k2 := k1.trans k2
    dsimp only
    -- the kinds
    refine o_seq (o_asg (o_op (o_lst ?_)))
    refine llA_run [[0], [0, 1], [1, 3], [0, 2], [2, 3], [1, 4], [5], [5, 3]] H2 _ (by decide) fun kvs H3 k3 ⟨lk, hk⟩ => ⟨sz (by rw [lk]; decide), fun p hp => ?_⟩
    have s3 := s2.kp k3
    have kp4 := k3.new (o := .lst kvs) hp
    have s4 := s3.new (o := .lst kvs) hp
    refine draw rfl s4 (by unfold bigN; omega) (m := 8) (by decide) (fun R q => o_c q) fun d2 H5 y0 y1 k5 s5 => ?_
    have hp5 : H5 p = some (.lst kvs) := k5 _ _ g_same (by simp [(s3.ne hp).1])
    have hd2 : d2.toNat < ([[0], [0, 1], [1, 3], [0, 2], [2, 3], [1, 4], [5], [5, 3]] : List (List Int)).length := by show d2.toNat < 8; omega
    obtain ⟨kl, e1, e2, e3⟩ := hk d2.toNat _ (List.getElem?_eq_getElem hd2)
    have nks : kl ≠ st := (s2.ne e2).1
    have hkl : ∃ kz : List Int, kz ≠ [] ∧ kz.length ≤ 4 ∧ H3 kl = some (.lst (kz.map V.int)) := ⟨_, by
      have : ∀ l ∈ ([[0], [0, 1], [1, 3], [0, 2], [2, 3], [1, 4], [5], [5, 3]] : List (List Int)), l ≠ [] ∧ l.length ≤ 4 := by decide
      exact (this _ (List.getElem_mem hd2)).1, by
      have : ∀ l ∈ ([[0], [0, 1], [1, 3], [0, 2], [2, 3], [1, 4], [5], [5, 3]] : List (List Int)), l ≠ [] ∧ l.length ≤ 4 := by decide
      exact (this _ (List.getElem_mem hd2)).2, e3⟩
    obtain ⟨kz, kz0, kz4, e4⟩ := hkl
    refine r_ixL (SqL.of hp5) (at_int y0 e1) ?_
    have k5' : Kp [st] H H5 := (k2.trans (kp4.sub (by simp))).trans k5
    have e5 : H5 kl = some (.lst (kz.map V.int)) := k5 _ _ (g_new hp e4) (by simp [nks])
    dsimp only
    refine o_seq (o_asg (o_lst (o_nil ⟨sz (by simp), fun mp hmp => ?_⟩)))
    have nms := (s5.ne hmp).1
    have nmu := (s5.ne hmp).2
    have nmk : kl ≠ mp := ne_of_none e5 hmp
    have s6 := s5.new (o := .lst []) hmp
    have k6 := k5'.new (o := .lst []) hmp
    have e6 := g_new (o := .lst []) hmp e5
    have m6 : (upd H5 mp (.lst [])) mp = some (.lst []) := g_same
    have hmp0 : H mp = none := by
      cases e : H mp with
      | none => rfl
      | some u => rw [k5' _ _ e (by simp [nms])] at hmp; cases hmp
    generalize upd H5 mp (.lst []) = H6 at *
    dsimp only
    refine o_seq ?_
    -- the maps
    have many : ∀ R : List V → Hp → Prop, (∀ (c : Nat) H7, 1 ≤ c → c ≤ 3 → Kp [st] H6 H7 → StB H7 st nu (n + 4) → R [.int (c : Int)] H7) → ∀ σ : L2.St, σ[0]? = some (some (.ref st)) →
        tCons (tOp (rIxL K) (tLst (tCons (tC (.int 2)) (tCons (tC (.int 3)) (tCons (tC (.int 2)) (tCons (tC (.int 1)) tNil))))) (rCallG (sp_law_next K ca) E0 (tCons (tVar 0) (tCons (tC (.int 4)) tNil)))) tNil σ H6 R := fun R q σ h0 => by
      refine o_cons (draw_of (m := 4) (vs := [2, 3, 2, 1].map V.int) (fun R q => o_lst (intA_run [2, 3, 2, 1] _ ⟨sz (by simp), fun p hp => q p _ (kp_new hp) g_same (s6.ne hp).1⟩)) h0 s6 (by unfold bigN; omega) (by simp) (by simp) fun v hv H7 k7 s7 => o_nil ?_)
      simp only [List.map_cons, List.map_nil, List.mem_cons, List.not_mem_nil, or_false] at hv
      rcases hv with rfl | rfl | rfl | rfl
      · exact q 2 H7 (by decide) (by decide) k7 (s7.le (by omega))
      · exact q 3 H7 (by decide) (by decide) k7 (s7.le (by omega))
      · exact q 2 H7 (by decide) (by decide) k7 (s7.le (by omega))
      · exact q 1 H7 (by decide) (by decide) k7 (s7.le (by omega))
    unfold tFor iRng1
    refine many _ (fun c H7 c1 c3 k7 s7 => ⟨c, rfl, by omega, by omega, ?_⟩) _ rfl
    have k7' := k6.trans k7
    have e7 := k7 _ _ e6 (by simp [nks])
    have m7 := k7 _ _ m6 (by simp [nms])
    refine for_range (lo := 0) (n := (c : Int).toNat) (fun m σ' H8 => ∃ a b mv ms, σ' = [some (.ref st), some (.int (r : Int)), some (.ref kl), some (.ref mp), a, b] ∧ Kp [st] H H8 ∧ StB H8 st nu (n + 4 + 11 * m) ∧ H8 kl = some (.lst (kz.map V.int)) ∧ H8 mp = some (.lst mv) ∧ TupsAt K H8 mv ms ∧ ms.length = m ∧ ∀ f ∈ ms, MapOk r f) ⟨none, none, [], [], rfl, k7', s7, e7, m7, trivial, rfl, by simp⟩ (fun m σ' H8 hm ⟨a, b, mv, ms, e, k8, s8, e8, m8, t8, l8, o8⟩ => ?_) fun σ' H8 ⟨a, b, mv, ms, e, k8, s8, e8, m8, t8, l8, o8⟩ => ?_
    · subst e
      have hm3 : m < 3 := by omega
      refine o_gname ?_
      refine o_seq (o_asg (o_op ⟨_, rfl, o_call (o_cons ⟨_, rfl, o_cons (o_cb (o_cons ⟨_, rfl, o_nil (r_lenL (SqL.of e8) (o_nil ?_))⟩))⟩)⟩))
      rw [List.length_map]
      have kzp := List.length_pos_iff.mpr kz0
      refine next_use s8 (by omega) (by unfold bigN; omega) fun d H9 z0 z1 k9 s9 => ?_
      have e9 := k9 _ _ e8 (by simp [nks])
      have hlt : d.toNat < kz.length := by omega
      refine r_ixL (SqL.of e9) (at_int z0 (by rw [List.getElem?_map, List.getElem?_eq_getElem hlt]; rfl)) ?_
      have m9 := k9 _ _ m8 (by simp [nms])
      have t9 := t8.tk (s8.tk k9)
      dsimp only
      refine o_drop (o_bm ⟨_, rfl, .inl ⟨rfl, _, SqL.of m9⟩, o_cons (o_call (o_cons ⟨_, rfl, o_cons ⟨_, rfl, o_cons (o_op (o_lst (o_cons ⟨_, rfl, o_cons (o_c (o_nil ⟨sz (by simp), fun q hq => ?_⟩))⟩)))⟩⟩))⟩)
      have s10 := s9.new (o := .lst [.int kz[d.toNat], .int 1]) hq
      have m10 := g_new (o := .lst [.int kz[d.toNat], .int 1]) hq m9
      have e10 := g_new (o := .lst [.int kz[d.toNat], .int 1]) hq e9
      have t10 := t9.tk ((Tk.refl H9).new (o := .lst [.int kz[d.toNat], .int 1]) hq)
      have k10 := (k8.trans k9).new (o := .lst [.int kz[d.toNat], .int 1]) hq
      have q10 : (upd H9 q (.lst [.int kz[d.toNat], .int 1])) q = some (.lst [.int kz[d.toNat], .int 1]) := g_same
      generalize upd H9 q (.lst [.int kz[d.toNat], .int 1]) = H10 at *
      have kin : ∀ kind : Int, sp_law_map K ca [.ref st, .int (r : Int), .int kind] H10 (fun x H2 => tNil [some (V.ref st), some (V.int (r : Int)), some (V.ref kl), some (V.ref mp), some (V.int ((0 : Int) + m)), some (V.int kz[d.toNat])] H2 fun xs H3 => rAppend (.ref mp) (x :: xs) H3 fun _ H1 => ∃ a b mv ms, [some (V.ref st), some (V.int (r : Int)), some (V.ref kl), some (V.ref mp), some (V.int ((0 : Int) + m)), some (V.int kz[d.toNat])] = [some (V.ref st), some (V.int (r : Int)), some (V.ref kl), some (V.ref mp), a, b] ∧ Kp [st] H H1 ∧ StB H1 st nu (n + 4 + 11 * (m + 1)) ∧ H1 kl = some (.lst (kz.map V.int)) ∧ H1 mp = some (.lst mv) ∧ TupsAt K H1 mv ms ∧ ms.length = m + 1 ∧ ∀ f ∈ ms, MapOk r f) E0 := fun kind => by
        refine ⟨st, nu, r, _, kind, rfl, hr2, hr4, s10, by unfold bigN; omega, fun ma f H11 okf sq k11 s11 => o_nil ?_⟩
        have m11 := k11 _ _ m10 (by simp [nms])
        have t11 := t10.tk (s10.tk k11)
        have tk12 := (Tk.refl H11).lst (o := .lst (mv ++ [.ref ma])) m11
        have lmv := t8.len
        refine r_app m11 (szl (by omega)) ⟨_, _, mv ++ [.ref ma], ms ++ [f], rfl, (k10.trans k11).own hmp0, (s11.mut nms nmu).le (by omega), g_mut nmk (k11 _ _ e10 (by simp [nks])), g_same, (t11.tk tk12).app rfl (tk12.sqT sq), by simp [l8], fun g hg => ?_⟩
        rcases List.mem_append.mp hg with hg | hg
        · exact o8 g hg
        · rw [List.mem_singleton.mp hg]; exact okf
      refine o_cb (o_cons (o_andV (o_op ⟨_, rfl, o_c (r_eq rfl ⟨_, rfl, ?_⟩)⟩)))
      refine if_b (fun g1 => ?_) (fun g1 => ?_)
      · refine o_op ⟨_, rfl, o_c (r_eq rfl (o_nil (r_intB ?_)))⟩
        by_cases g2 : (r : Int) = 4
        · rw [if_pos (by simpa using g2)]
          exact r_ixL (SqL.of q10) atZ1 (o_nil (kin 1))
        · rw [if_neg (by simpa using g2)]
          exact r_ixL (SqL.of q10) atZ0 (o_nil (kin _))
      · exact o_nil (r_intB (r_ixL (SqL.of q10) atZ0 (o_nil (kin _))))
    · subst e
      rw [Int.toNat_natCast] at l8
      have msn : ms ≠ [] := by intro z; rw [z] at l8; simp at l8; omega
      have lmv := t8.len
      dsimp only
      -- maps[:1] or all of them
      have go : ∀ (σ : L2.St) H9 mp2 mv2 ms2, σ[0]? = some (some (.ref st)) → σ[3]? = some (some (.ref mp2)) → Kp [st] H H9 → StB H9 st nu (n + 40) → H9 mp2 = some (.lst mv2) → mp2 ≠ st → TupsAt K H9 mv2 ms2 → ms2 ≠ [] → ms2.length ≤ 4 → (∀ f ∈ ms2, MapOk r f) →
          tRet (rCallG (sp_law_built K ca) E0 (tCons (rCallG (sp_law_letters K ca) E0 (tCons (tVar 0) (tCons (tCB (rdLen K) (tCons (tVar 3) tNil)) tNil))) (tCons (tVar 3) tNil))) (fin Q) σ H9 := fun σ H9 mp2 mv2 ms2 h0 h3 k9 s9 m9 nm t9 hn hl ok => by
        refine o_ret (end_ σ H9 _ mp2 mv2 ms2 r (n + 40) mv2.length h0 k9 s9 (by omega) t9.len hn hl (by omega) hr4 (fun R q => o_cons (o_cb (o_cons ⟨_, h3, o_nil (r_lenL (SqL.of m9) (o_nil q))⟩))) (tVar 3) (fun H2 k2 s2 R q => ⟨_, h3, q H2 _ mv2 (Kp.refl _ _) s2 (by omega) (k2 _ _ m9 (by simp [nm])) (t9.tk (s9.tk k2))⟩) ok)
      refine o_seq (o_if (o_and (o_test (o_op ⟨_, rfl, o_c (r_eq rfl (o_bl ?_))⟩))))
      have nx : ∀ (σ : L2.St) H9, σ = [some (.ref st), some (.int (r : Int)), some (.ref kl), some (.ref mp), a, b] → H9 = H8 → tRet (rCallG (sp_law_built K ca) E0 (tCons (rCallG (sp_law_letters K ca) E0 (tCons (tVar 0) (tCons (tCB (rdLen K) (tCons (tVar 3) tNil)) tNil))) (tCons (tVar 3) tNil))) (fin Q) σ H9 := fun σ H9 e1 e2 => by
        subst e1 e2
        exact go _ _ mp mv ms rfl rfl k8 (s8.le (by rw [Int.toNat_natCast]; omega)) m8 nms t8 msn (by omega) o8
      refine if_b (fun g1 => ?_) (fun g1 => ?_)
      · refine o_test (o_op (o_c ⟨_, rfl, r_inL (SqL.of e8) rfl (by rw [List.all_eq_true]; intro v hv; obtain ⟨z, _, rfl⟩ := List.mem_map.mp hv; rfl) (o_bl ?_)⟩))
        refine if_b (fun g2 => ?_) (fun g2 => ?_)
        · refine o_asg (o_sl ⟨_, rfl, o_nop (o_part (o_c (o_int (r_slL (SqL.of m8) fun p hp => ?_))))⟩)
          have ec : cutV mv none (some 1) = mv.take 1 := cut_to mv 1
          rw [ec]
          dsimp only
          obtain ⟨v, mv', rfl⟩ : ∃ v mv', mv = v :: mv' := by
            cases mv with
            | nil => simp at lmv; omega
            | cons v mv' => exact ⟨v, mv', rfl⟩
          obtain ⟨f, ms', rfl⟩ : ∃ f ms', ms = f :: ms' := by
            cases ms with
            | nil => exact absurd rfl msn
            | cons f ms' => exact ⟨f, ms', rfl⟩
          exact go _ _ p [v] [f] rfl rfl (k8.new hp) ((s8.new hp).le (by rw [Int.toNat_natCast]; omega)) g_same (s8.ne hp).1 ⟨t8.1.imp fun a h => ⟨h.1, ((Tk.refl H8).new hp).sqT h.2⟩, trivial⟩ (by simp) (by simp) fun g hg => o8 g (by rw [List.mem_singleton.mp hg]; simp)
        · exact o_next (nx _ _ rfl rfl)
      · exact iteF (o_next (nx _ _ rfl rfl))
end
end K92
end
namespace Sf
open PySem PySem.Spec PyProof.Rows L2
/-- data that is short and shown short -/
structure Shw (d : PyData) (n h : Nat) : Prop where
  sh : d.showable = true
  nd : d.hasDict = false
  dp : d.depth ≤ h
  ls : d.leavesShort 13 = true
  we : d.bulk ≤ n
structure ShwA (ds : List PyData) (n h : Nat) : Prop where
  sh : PyData.showableAll ds = true
  nd : PyData.hasDictAll ds = false
  dp : PyData.depthAll ds ≤ h
  ls : PyData.leavesShortAll 13 ds = true
  we : PyData.bulkAll ds ≤ n
theorem Shw.le {d : PyData} {n m h k : Nat} (s : Shw d n h) (a : n ≤ m) (b : h ≤ k) : Shw d m k := ⟨s.sh, s.nd, Nat.le_trans s.dp b, s.ls, Nat.le_trans s.we a⟩
theorem ShwA.le {d : List PyData} {n m h k : Nat} (s : ShwA d n h) (a : n ≤ m) (b : h ≤ k) : ShwA d m k := ⟨s.sh, s.nd, Nat.le_trans s.dp b, s.ls, Nat.le_trans s.we a⟩
theorem Shw.non : Shw .none 0 0 := ⟨rfl, rfl, Nat.le_refl _, rfl, Nat.le_refl _⟩
theorem Shw.bl (b : Bool) : Shw (.bool b) 0 0 := ⟨rfl, rfl, Nat.le_refl _, rfl, Nat.le_refl _⟩
theorem Shw.str {x : Str} (h : Sm x) : Shw (.str x) x.length 0 := by
  refine ⟨rfl, rfl, Nat.le_refl _, ?_, ?_⟩
  · simp only [PyData.leavesShort, List.all_eq_true, decide_eq_true_eq]
    intro c hc
    exact Nat.lt_trans (h c hc) (by decide)
  · simp only [PyData.bulk]; exact Nat.le_refl _
theorem Shw.tup {ds : List PyData} {n h : Nat} (s : ShwA ds n h) : Shw (.tuple ds) n (h + 1) :=
  ⟨by simpa only [PyData.showable] using s.sh, by simpa only [PyData.hasDict] using s.nd, by simpa only [PyData.depth] using Nat.succ_le_succ s.dp, by simpa only [PyData.leavesShort] using s.ls, by simpa only [PyData.bulk] using s.we⟩
theorem Shw.lst {ds : List PyData} {n h : Nat} (s : ShwA ds n h) : Shw (.list ds) n (h + 1) :=
  ⟨by simpa only [PyData.showable] using s.sh, by simpa only [PyData.hasDict] using s.nd, by simpa only [PyData.depth] using Nat.succ_le_succ s.dp, by simpa only [PyData.leavesShort] using s.ls, by simpa only [PyData.bulk] using s.we⟩
theorem ShwA.nil : ShwA [] 0 0 := ⟨rfl, rfl, Nat.le_refl _, rfl, Nat.le_refl _⟩
theorem ShwA.cons {d : PyData} {ds : List PyData} {n m h : Nat} (a : Shw d n h) (s : ShwA ds m h) : ShwA (d :: ds) (n + 1 + m) h := by
  refine ⟨?_, ?_, ?_, ?_, ?_⟩
  · simp only [PyData.showableAll, a.sh, s.sh, Bool.and_self]
  · simp only [PyData.hasDictAll, a.nd, s.nd, Bool.or_self]
  · simp only [PyData.depthAll]
    exact Nat.max_le.mpr ⟨a.dp, s.dp⟩
  · simp only [PyData.leavesShortAll, a.ls, s.ls, Bool.and_self]
  · simp only [PyData.bulkAll]
    have := a.we
    have := s.we
    omega
theorem ofString_len (z : Int) : (PyData.shown (.int z)).length = (toString z).length := by
  show (Str.ofString (toString z)).length = _
  rw [PySem.ofString_length]
theorem Shw.int {z : Int} (h0 : z.natAbs < 2 ^ 36) : Shw (.int z) 0 0 := by
  have h2 : z.natAbs.log2 < 36 := by
    by_cases hz : z.natAbs = 0
    · rw [hz]; decide
    · exact (Nat.log2_lt hz).mpr h0
  refine ⟨?_, rfl, Nat.le_refl _, ?_, ?_⟩
  · simp only [PyData.showable, decide_eq_true_eq]
    omega
  · simp only [PyData.leavesShort, decide_eq_true_eq]
    rw [ofString_len]
    exact int_text_length_le10 (k := 12) (by decide) (Nat.lt_trans h0 (by decide))
  · simp only [PyData.bulk]
    exact Nat.le_refl _
theorem ShwA.strs : ∀ {l : List Str}, (∀ y ∈ l, Sm y) → ShwA (l.map .str) ((l.map Str.length).sum + l.length) 0
  | [], _ => .nil
  | a :: r, h => by
    have := ShwA.cons (Shw.str (h a (by simp))) (ShwA.strs (l := r) fun y hy => h y (by simp [hy]))
    refine this.le ?_ (Nat.le_refl _)
    simp only [List.map_cons, List.sum_cons, List.length_cons]
    omega
theorem ShwA.ints : ∀ {l : List Int}, (∀ y ∈ l, y.natAbs < 2 ^ 36) → ShwA (l.map .int) l.length 0
  | [], _ => .nil
  | a :: r, h => by
    have := ShwA.cons (Shw.int (h a (by simp))) (ShwA.ints (l := r) fun y hy => h y (by simp [hy]))
    refine this.le ?_ (Nat.le_refl _)
    simp only [List.length_cons]
    omega
theorem Shw.fits {d : PyData} {n h : Nat} (s : Shw d n h) (hn : n ≤ 1000000) : (PyData.list [d]).shown.length ≤ sizeLine := by
  have e := Shw.lst (ShwA.cons s (ShwA.nil.le (Nat.le_refl _) (Nat.zero_le _)))
  have b := PyData.shown_le_bulk 13 (by decide) _ e.ls
  have w := e.we
  have z := sizeLine_eq
  omega
end Sf
section
open PySem PySem.Spec PyProof.Rows L2 Sf
local macro_rules | `(tactic| walk_at "nin") => `(tactic| first | (simp only [List.not_mem_nil, not_false_eq_true]; done) | (intro hz; simp only [List.mem_cons, List.not_mem_nil, or_false] at hz; first | exact absurd hz (by assumption) | exact absurd hz.symm (by assumption) | (rcases hz with hz | hz <;> first | exact absurd hz (by assumption) | exact absurd hz.symm (by assumption))))
local macro_rules | `(tactic| walk_at "ne") => `(tactic| first | assumption | exact Ne.symm (by assumption))
local macro_rules | `(tactic| walk_at "hp") => `(tactic| first | assumption | exact Sf.g_same | ((with_reducible refine Sf.g_new (by assumption) ?_); walk_at "hp") | ((with_reducible refine Sf.g_mut (by walk_at "ne") ?_); walk_at "hp") | ((with_reducible refine Sf.Kp.get (by assumption) (by walk_at "nin") ?_); walk_at "hp"))
local macro_rules | `(tactic| walk_at "sq") => `(tactic| first | assumption | exact SqL.of (by walk_at "hp") | exact SqT.of (by walk_at "hp") | ((with_reducible refine Sf.sqL_new (by assumption) ?_); walk_at "sq") | ((with_reducible refine Sf.sqT_new (by assumption) ?_); walk_at "sq") | ((with_reducible refine Sf.Kp.sqL (by assumption) (by walk_at "nin") ?_); walk_at "sq") | ((with_reducible refine Sf.Kp.sqT (by assumption) (by walk_at "nin") ?_); walk_at "sq"))
local macro_rules | `(tactic| walk_at "rd1") => `(tactic| first
  | ((with_reducible refine o_varE ?_); refine ⟨_, rfl, ?_⟩) | with_reducible refine o_c ?_ | with_reducible refine o_op ?_ | with_reducible refine o_cb ?_ | with_reducible refine o_cons ?_ | with_reducible refine o_nil ?_ | with_reducible refine o_tup ?_ | with_reducible refine o_lst ?_
  | with_reducible refine o_call ?_ | with_reducible refine o_ret ?_ | with_reducible refine o_asg ?_ | with_reducible refine o_seq ?_ | with_reducible refine o_next ?_ | with_reducible refine o_brk ?_ | with_reducible refine o_cont ?_ | with_reducible refine o_drop ?_ | with_reducible refine o_if ?_ | with_reducible refine o_test ?_ | with_reducible refine o_B ?_ | with_reducible refine o_and ?_
  | with_reducible refine o_or ?_ | with_reducible refine o_not ?_ | with_reducible refine o_andV ?_ | with_reducible refine o_orV ?_ | with_reducible refine o_notV ?_ | with_reducible refine o_ifx ?_ | with_reducible refine o_chain ?_ | with_reducible refine o_sl ?_ | with_reducible refine o_part ?_ | with_reducible refine o_nop ?_ | with_reducible refine o_bm ?_ | with_reducible refine o_bm0 ?_ | with_reducible refine o_m1 ?_
  | with_reducible refine o_bl ?_ | with_reducible refine o_int ?_ | with_reducible refine o_yes ?_ | with_reducible refine r_add ?_ | with_reducible refine r_sub ?_ | with_reducible refine r_lt ?_ | with_reducible refine r_le ?_ | with_reducible refine r_gt ?_ | with_reducible refine r_ge ?_ | with_reducible refine r_int ?_ | with_reducible refine r_intB ?_ | with_reducible refine r_inS ?_ | with_reducible refine r_isN ?_ | with_reducible refine r_notN ?_
  | ((with_reducible refine r_eq ?h ?_); (case h => rfl)) | ((with_reducible refine r_ne ?h ?_); (case h => rfl)) | with_reducible refine r_lenS (Sf.sz (by first | omega | (simp; omega))) ?_ | ((with_reducible refine e_lenL ?_); refine ⟨_, by walk_at "sq", ?_⟩) | ((with_reducible refine e_ixL ?_); refine ⟨_, _, by walk_at "sq", by first | exact atZ0 | exact atZ1 | exact atZ2 | exact atZ3, ?_⟩) | ((with_reducible refine e_ixT ?_); refine ⟨_, _, by walk_at "sq", by first | exact atZ0 | exact atZ1 | exact atZ2 | exact atZ3, ?_⟩) | with_reducible refine r_mod (by first | decide | omega) ?_ | with_reducible refine r_div ⟨by first | decide | omega, by first | decide | omega⟩ ?_ | with_reducible refine iteT ?_ | with_reducible refine iteF ?_ | with_reducible refine iteNT ?_ | with_reducible refine iteNF ?_ | with_reducible refine r_leS ?_ | with_reducible refine o_asgG ?_ | with_reducible refine o_gsub ?_ | with_reducible refine o_gname ?_ | with_reducible refine o_retN ?_ | with_reducible refine o_par ?_)
local macro_rules | `(tactic| walk_at "rd") => `(tactic| repeat walk_at "rd1")
namespace K92
open PySem PySem.Spec PyProof.Rows L2 Sf
section
variable {K : PySem.W.Frag} {ca : Nat → Addr} {H H1 : Hp} {Q : VK} {σ : L2.St} {st nu : Addr} {n : Nat}
theorem same_use {E : XK} {u v : V} {d : PyData} {n h : Nat} (a : Dp K H u d) (b : Dp K H v d) (s : Shw d n h) (hn : n ≤ 1000000) (hh : h ≤ 50) (q : ∀ H', Kp [] H H' → Q (.bl true) H') : sp_law_same K ca [u, v] H Q E :=
  ⟨u, v, d, rfl, a, b, s.sh, s.nd, Nat.le_trans s.dp hh, s.fits hn, q⟩
theorem sum_len {l : List Str} (h : ∀ x ∈ l, LetOk x) : (l.map Str.length).sum ≤ 10 * l.length := by
  induction l with
  | nil => simp
  | cons a r ih =>
    have := (h a (by simp)).2.1
    have := ih fun x hx => h x (by simp [hx])
    simp only [List.map_cons, List.sum_cons, List.length_cons]
    omega
theorem shw_strs {l : List Str} {n : Nat} (h : ∀ x ∈ l, LetOk x) (hn : 11 * l.length ≤ n) : Shw (.tuple (l.map .str)) n 1 := by
  have := sum_len h
  exact (Shw.tup (ShwA.strs fun y hy => (h y hy).2.2.1)).le (by omega) (by omega)
theorem fold_small {t : Tb} (g : t.Good) {l : List Str} (h : ∀ x ∈ l, x ∈ t.L) : (t.fold l).natAbs < 2 ^ 36 := by
  have := fold_R g h
  have := g.n256
  unfold inR at *
  omega
theorem pure_law_stands (W : WT K ca) (vs : List V) (H : Hp) (Q : VK) (E : XK) (h : sp_law_stands K ca vs H Q E) : t_law_stands K ca (fin Q) (start ["table", "play", "due", "window", "front", "back", "made"] vs) H := by
  obtain ⟨tp, q, p, fl, bl, t, front, back, m, rfl, tab, pl, m0, m1, k⟩ := h
  obtain ⟨⟨ft, bt, hq, hf, hb⟩, w, q1, q2, q3⟩ := id pl
  have wl := w.len
  unfold t_law_stands
  refine o_seq (o_asgG ⟨_, rfl, ?_⟩)
  refine ⟨q, _, rfl, SqL.of hq, rfl, _, _, rfl, _, _, rfl, _, _, rfl, _, _, rfl, rfl, ?_⟩
  dsimp only
  refine o_seq (o_asg (o_lst (o_cons (o_op ?_))))
  refine o_cb (o_cons ⟨_, rfl, o_nil (r_tupT hf ?_)⟩)
  refine o_cb (o_cons ⟨_, rfl, o_nil (r_tupT hb ?_)⟩)
  refine r_catA hf hb (by simp; omega) fun l H1 k1 hl => ?_
  refine o_cons (o_call (o_cons ⟨_, rfl, o_cons ⟨_, rfl, o_nil ?_⟩⟩))
  refine ⟨tp, q, p, fl, bl, t, front, back, m, rfl, tab.tk k1.tk, pl.kp k1, fun v2 H2 k2 d2 => o_cons ⟨_, rfl, o_nil ⟨sz (by simp), fun du hdu => ?_⟩⟩⟩
  have k3 := (k1.trans k2).new (o := .lst [.ref l, v2, .int m]) hdu
  have kl := kp_new (o := .lst [.ref l, v2, .int m]) hdu
  have dd : Dp K (upd H2 du (.lst [.ref l, v2, .int m])) (.ref du) (.list [.tuple ((front ++ back).map .str), .tuple [.tuple ((t.sfx front).map .int), .int (t.fold back)], .int m]) := by
    refine .lst (SqL.of g_same) (.cons (.tup (kl.sqT (by simp) (k2.sqT (by simp) hl)) ?_) (.cons (kl.dp0 d2) (.cons (.int m) .nil)))
    rw [← List.map_append]
    exact dps_strs _
  generalize upd H2 du _ = H3 at *
  have pl3 := pl.kp k3
  obtain ⟨tp2, dx, hp3, _⟩ := pl3.w.ob
  dsimp only
  refine o_ret (o_call (o_cons (o_lst (o_cons (o_meth ⟨_, rfl, p, dx, _, rfl, hp3, wf_no (by decide +kernel) (by decide +kernel) (by decide +kernel) (by decide +kernel) (by decide +kernel), o_nil ?_⟩)))))
  refine ⟨p, fl, bl, t, front, back, m, rfl, pl3.w, fun v4 H4 k4 d4 => ?_⟩
  have pl4 := pl3.kp k4
  obtain ⟨tp4, dx4, hp4, _⟩ := pl4.w.ob
  refine o_cons (o_meth ⟨_, rfl, p, dx4, _, rfl, hp4, wf_no (by decide +kernel) (by decide +kernel) (by decide +kernel) (by decide +kernel) (by decide +kernel), o_nil ?_⟩)
  refine ⟨p, fl, bl, t, front, back, m, rfl, pl4.w, fun v5 H5 k5 d5 => ?_⟩
  have pl5 := pl4.kp k5
  obtain ⟨tp5, dx5, hp5, _⟩ := pl5.w.ob
  refine o_cons (o_meth ⟨_, rfl, p, dx5, _, rfl, hp5, wf_no (by decide +kernel) (by decide +kernel) (by decide +kernel) (by decide +kernel) (by decide +kernel), o_nil ?_⟩)
  refine ⟨p, fl, bl, t, front, back, m, rfl, pl5.w, o_nil ⟨sz (by simp), fun z hz => o_cons ⟨_, rfl, o_nil ?_⟩⟩⟩
  have k6 := (k4.trans k5).new (o := .lst [v4, v5, .int m]) hz
  have kz := kp_new (o := .lst [v4, v5, .int m]) hz
  have g := w.good
  have s1 := shw_strs (l := front ++ back) (n := 110000) (fun x hx => by
    rcases List.mem_append.mp hx with hx | hx
    · exact g.wd x (w.inF x hx)
    · exact g.wd x (w.inB x hx)) (by simp; omega)
  have s2 : Shw (.tuple [.tuple ((t.sfx front).map .int), .int (t.fold back)]) 11000 2 := by
    have a := Shw.tup (ShwA.ints (l := t.sfx front) fun y hy => by
      rw [sfx_eq] at hy
      obtain ⟨j, _, rfl⟩ := List.mem_map.mp hy
      exact fold_small g fun x hx => w.inF x (List.mem_of_mem_drop hx))
    rw [sfx_len] at a
    exact (Shw.tup (ShwA.cons (a.le (Nat.le_refl _) (by omega)) (ShwA.cons ((Shw.int (fold_small g w.inB)).le (Nat.le_refl _) (by omega)) (ShwA.nil.le (Nat.le_refl _) (Nat.zero_le 1))))).le (by omega) (by omega)
  have s3 : Shw (.list [.tuple ((front ++ back).map .str), .tuple [.tuple ((t.sfx front).map .int), .int (t.fold back)], .int m]) 200000 3 :=
    (Shw.lst (ShwA.cons (s1.le (Nat.le_refl _) (by omega)) (ShwA.cons s2 (ShwA.cons ((Shw.int (z := m) (by omega)).le (Nat.le_refl _) (by omega)) (ShwA.nil.le (Nat.le_refl _) (Nat.zero_le 2)))))).le (by omega) (by omega)
  refine same_use (.lst (SqL.of g_same) (.cons ((k5.trans kz).dp0 d4) (.cons (kz.dp0 d5) (.cons (.int m) .nil)))) (k6.dp0 dd) s3 (by decide) (by decide) fun H7 k7 => ?_
  exact k H7 ((k3.trans k6).trans k7)
end
end K92
namespace K92
open PySem PySem.Spec PyProof.Rows L2 Sf
section
variable {K : PySem.W.Frag} {ca : Nat → Addr} {H H1 : Hp} {Q : VK} {σ : L2.St} {st nu : Addr} {n : Nat}
theorem q_not {x : Str} {l : List Str} (h : ∀ y ∈ l, LetOk y) (hx : x.length = 0 ∨ 113 ∈ x.cps.toList) : x ∉ l := fun m => by
  obtain ⟨a, _, _, b⟩ := h x m
  rcases hx with e | e
  · omega
  · exact b e
theorem sm_of {x : Str} (h : x.cps.toList.all (fun c => decide (c < 200)) = true) : Sm x := fun c hc => of_decide_eq_true (List.all_eq_true.mp h c hc)
theorem told_sm : Sm ("told" : Str) := sm_of (by decide +kernel)
theorem told_len : ("told" : Str).length = 4 := by decide +kernel
theorem pure_law_turn (W : WT K ca) (vs : List V) (H : Hp) (Q : VK) (E : XK) (h : sp_law_turn K ca vs H Q E) : t_law_turn K ca (fin Q) (start ["state", "table", "play", "pick", "window", "front", "back", "made", "strange", "letter"] vs) H := by
  obtain ⟨st, nu, tp, q, p, fl, bl, t, front, back, m, n, rfl, tab, pl, len, hs, hb, nst, nnu, k⟩ := h
  have hb' : n + 10 < 1000000000 := hb
  obtain ⟨⟨ft, bt, hq, hf, hbk⟩, w, q1, q2, q3⟩ := id pl
  have g := w.good
  have nst' : st ≠ q ∧ st ≠ p ∧ st ≠ fl ∧ st ≠ bl := by simpa using nst
  have nnu' : nu ≠ q ∧ nu ≠ p ∧ nu ≠ fl ∧ nu ≠ bl := by simpa using nnu
  unfold t_law_turn
  refine o_seq (o_asgG ⟨_, rfl, ?_⟩)
  refine ⟨q, _, rfl, SqL.of hq, rfl, _, _, rfl, _, _, rfl, _, _, rfl, _, _, rfl, rfl, ?_⟩
  dsimp only
  refine o_seq (o_asg (o_call (o_cons ⟨_, rfl, o_cons (o_c (o_nil ?_))⟩)))
  refine next_use hs (by decide) (by unfold bigN; omega) fun pick H1 p0 p9 k1 s1 => ?_
  have kt1 : Kt [st, q, p, fl, bl] H H1 := (Kt.of_st hs k1).sub (by simp)
  have hq1 := k1 _ _ hq (by simp [Ne.symm nst'.1])
  have tab1 := tab.tk kt1.2
  have hf1 := kt1.2.sqT hf
  have hb1 := kt1.2.sqT hbk
  have w1 : WinAt K ca H1 t p fl bl front back m := w.kt (Kt.of_st hs k1) (by simp [Ne.symm nst'.2.1]) (by simp [Ne.symm nst'.2.2.1]) (by simp [Ne.symm nst'.2.2.2])
  clear hs
  -- how it ends
  have done : ∀ (fr bk : List Str) (m2 : Int) H2, Kt [st, q, p, fl, bl] H H2 → (∃ ft bt, H2 q = some (.lst [.ref p, .ref ft, .ref bt, .int m2]) ∧ SqT K H2 ft (fr.map V.str) ∧ SqT K H2 bt (bk.map V.str)) → WinAt K ca H2 t p fl bl fr bk m2 → fr.length + bk.length ≤ front.length + back.length + 1 → m ≤ m2 → m2 ≤ m + 10000 → StB H2 st nu (n + 10) → Q (.bl true) H2 :=
    fun fr bk m2 H2 a b c d e f s => k fr bk m2 H2 a ⟨b, c, q1, q2, q3⟩ d e f s
  -- the numbers are kept where only the play or the window changes
  have stw : ∀ {Ha Hb : Hp} {j : Nat} {S : List Addr}, StB Ha st nu j → Kp S Ha Hb → st ∉ S → nu ∉ S → StB Hb st nu j := fun s k1 a b => by
    obtain ⟨j, ns, h0, h1, h2, h3⟩ := s
    exact ⟨j, ns, h0, k1 _ _ h1 a, k1 _ _ h2 b, h3⟩
  have lens := w.len
  obtain ⟨a0, a1, a2, o, rows, sq, za, na, sv1, sv2, rws⟩ := id tab1
  dsimp only
  refine o_seq (o_if (o_test (o_op ⟨_, rfl, o_c (r_eq rfl (o_bl ?_))⟩)))
  refine if_b (fun c0 => ?_) (fun c0 => ?_)
  · -- a letter that is none
    have l0 : 0 < t.L.length := List.length_pos_iff.mpr g.l0
    have e0 : t.L[0]? = some t.L[0] := List.getElem?_eq_getElem l0
    have lo := g.wd _ (List.getElem_mem l0)
    refine o_seq (o_asg (draw_of (m := 3) (vs := (["qq", "", t.L[0] ++ "q"] : List Str).map V.str) (fun R r => ?_) rfl s1 (by unfold bigN; omega) (by simp) (by simp) fun v hv H2 k2 s2 => ?_))
    · refine o_lst (o_cons (o_c (o_cons (o_c (o_cons (o_op (o_op (o_op ⟨_, rfl, o_c (r_ixT sq atZ0 ?_)⟩))))))))
      refine o_c (r_ixT (.inl (.inr ⟨_, za⟩)) (at_nat (n := 0) (by rw [List.getElem?_map, e0]; rfl)) ?_)
      refine o_c (r_adds (sz ?_) (o_nil ⟨sz (by simp), fun l hl => r l _ (kp_new hl) g_same (s1.ne hl).1⟩))
      have e1 : ("q" : Str).length = 1 := by rfl
      rw [e1]
      have := lo.2.1
      omega
    · obtain ⟨x, hx, rfl⟩ := List.mem_map.mp hv
      have hxn : x ∉ t.L := q_not g.wd (by
        have hx' : x = "qq" ∨ x = "" ∨ x = t.L[0] ++ "q" := by simpa using hx
        rcases hx' with rfl | rfl | rfl
        · right; decide +kernel
        · left; rfl
        · right
          have : (113 : Nat) ∈ TL.tl (t.L[0] ++ "q") := by rw [TL.tl_append]; exact List.mem_append_right _ (by decide +kernel)
          exact this)
      have w2 : WinAt K ca H2 t p fl bl front back m := w1.kt (Kt.of_st s1 k2) (by simp [Ne.symm nst'.2.1]) (by simp [Ne.symm nst'.2.2.1]) (by simp [Ne.symm nst'.2.2.2])
      dsimp only
      refine o_ret (o_op (o_call (o_cons (o_c (o_cons ⟨_, rfl, o_cons ⟨_, rfl, o_nil ?_⟩⟩)))))
      refine .inl ⟨p, fl, bl, x, t, front, back, m, rfl, w2, by omega, fun _ H3 k3 => o_c (r_eq rfl ?_), fun h => absurd h hxn⟩
      rw [decide_eq_true rfl]
      have kt2 : Kt [st, q, p, fl, bl] H1 H2 := (Kt.of_st s1 k2).sub (by simp)
      have kt3 := (kt1.trans kt2).trans (k3.kt (S := [st, q, p, fl, bl]))
      exact done front back m H3 kt3 ⟨ft, bt, k3 _ _ (k2 _ _ hq1 (by simp [Ne.symm nst'.1])) (by simp), kt3.2.sqT hf, kt3.2.sqT hbk⟩ (w2.kt (S := []) k3.kt (by simp) (by simp) (by simp)) (by omega) (by omega) (by omega) ((s2.kp k3).le (by omega))
  · refine o_next ?_
    dsimp only
    refine o_seq (o_if (o_test (o_op ⟨_, rfl, o_c (r_lt (o_bl ?_))⟩)))
    refine if_b (fun c1 => ?_) (fun c1 => ?_)
    · -- a letter comes
      refine o_seq (o_asg (o_op (o_op ⟨_, rfl, o_c (r_ixT sq atZ0 ?_)⟩)))
      refine o_call (o_cons ⟨_, rfl, o_cons (o_cb (o_cons (o_op ⟨_, rfl, o_c (r_ixT sq atZ0 (o_nil (r_lenT (.inl (.inr ⟨_, za⟩)) (o_nil ?_))))⟩)))⟩)
      rw [List.length_map]
      have l0 : 0 < t.L.length := List.length_pos_iff.mpr g.l0
      refine next_use s1 (by omega) (by unfold bigN; omega) fun d H2 d0 d1 k2 s2 => ?_
      have kt2 : Kt [st, q, p, fl, bl] H1 H2 := (Kt.of_st s1 k2).sub (by simp)
      have hlt : d.toNat < t.L.length := by omega
      have za2 := kt2.2.2 _ _ _ za
      refine r_ixT (.inl (.inr ⟨_, za2⟩)) (at_int d0 (by rw [List.getElem?_map, List.getElem?_eq_getElem hlt]; rfl)) ?_
      have hx : t.L[d.toNat] ∈ t.L := List.getElem_mem hlt
      generalize t.L[d.toNat] = x at *
      have w2 : WinAt K ca H2 t p fl bl front back m := w1.kt (Kt.of_st s1 k2) (by simp [Ne.symm nst'.2.1]) (by simp [Ne.symm nst'.2.2.1]) (by simp [Ne.symm nst'.2.2.2])
      have hq2 := k2 _ _ hq1 (by simp [Ne.symm nst'.1])
      have hb2 := kt2.2.sqT hb1
      dsimp only
      refine o_seq (o_asgG (o_op ⟨_, rfl, o_cb (o_cons (o_op (o_cb (o_cons ⟨_, rfl, o_nil (r_lenT hb2 (o_c (r_gt (o_nil (r_intB (r_add ?_))))))⟩))))⟩))
      rw [List.length_map]
      refine o_gsub ⟨_, rfl, o_c (r_setL hq2 (n := 3) rfl ?_)⟩
      have em : m + (if decide ((0 : Int) < (back.length : Int)) = true then 1 else 0) = m + (if back = [] then 0 else 1) := by
        by_cases e : back = []
        · subst e; rfl
        · have := List.length_pos_iff.mpr e
          rw [if_neg e, if_pos (by simpa using this)]
      rw [em]
      have kt3 := (kt1.trans kt2).lst (o := .lst [.ref p, .ref ft, .ref bt, .int (m + if back = [] then 0 else 1)]) hq2 (by simp)
      have kq := (Kt.refl [q] H2).lst (o := .lst [.ref p, .ref ft, .ref bt, .int (m + if back = [] then 0 else 1)]) hq2 (by simp)
      have w3 := w2.kt kq (by simp [Ne.symm q1]) (by simp [Ne.symm q2]) (by simp [Ne.symm q3])
      have s3 := stw s2 kq.1 (by simp [nst'.1]) (by simp [nnu'.1])
      have hq3 : (upd H2 q (.lst [.ref p, .ref ft, .ref bt, .int (m + if back = [] then 0 else 1)])) q = some _ := g_same
      dsimp only [List.set_cons_succ, List.set_cons_zero]
      show tSeq _ _ _ _ (upd H2 q (.lst [.ref p, .ref ft, .ref bt, .int (m + if back = [] then 0 else 1)]))
      generalize upd H2 q (.lst [.ref p, .ref ft, .ref bt, .int (m + if back = [] then 0 else 1)]) = H3 at *
      have hb3 := kt3.2.sqT hbk
      refine o_seq (o_asgG (o_op ⟨_, rfl, o_tup (o_cons ⟨_, rfl, o_nil ⟨sz (by simp), fun u hu => ?_⟩⟩)⟩))
      have ku := kp_new (o := .tup [.str x]) hu
      refine r_catA (ku.sqT (by simp) hb3) (SqT.of g_same) (by simp; omega) fun b4 H4 k4 hb4 => ?_
      have k4' := ku.trans k4
      have hq4 := k4' _ _ hq3 (by simp)
      refine o_gsub ⟨_, rfl, o_c (r_setL hq4 (n := 2) rfl ?_)⟩
      have kt5 := (kt3.trans k4'.kt).lst (o := .lst [.ref p, .ref ft, .ref b4, .int (m + if back = [] then 0 else 1)]) hq4 (by simp)
      have kq5 := (Kt.refl [q] H4).lst (o := .lst [.ref p, .ref ft, .ref b4, .int (m + if back = [] then 0 else 1)]) hq4 (by simp)
      have w5 := (w3.kt (S := []) k4'.kt (by simp) (by simp) (by simp)).kt kq5 (by simp [Ne.symm q1]) (by simp [Ne.symm q2]) (by simp [Ne.symm q3])
      have s5 := stw (s3.kp k4') kq5.1 (by simp [nst'.1]) (by simp [nnu'.1])
      have hb5 := kq5.2.sqT hb4
      have hq5 : (upd H4 q (.lst [.ref p, .ref ft, .ref b4, .int (m + if back = [] then 0 else 1)])) q = some _ := g_same
      dsimp only [List.set_cons_succ, List.set_cons_zero]
      show tRet _ _ _ (upd H4 q (.lst [.ref p, .ref ft, .ref b4, .int (m + if back = [] then 0 else 1)]))
      generalize upd H4 q (.lst [.ref p, .ref ft, .ref b4, .int (m + if back = [] then 0 else 1)]) = H5 at *
      refine o_ret (o_call (o_cons (o_call (o_cons (o_c (o_cons ⟨_, rfl, o_cons ⟨_, rfl, o_nil ?_⟩⟩))))))
      refine .inl ⟨p, fl, bl, x, t, front, back, m, rfl, w5, by omega, fun h => absurd hx h, fun _ v6 H6 kt6 w6 d6 => ?_⟩
      refine o_cons (o_tup (o_cons (o_c (o_cons (o_c (o_nil ⟨sz (by simp), fun u7 hu7 => o_nil ?_⟩))))))
      refine same_use (n := 10) (h := 1) ((kp_new hu7).dp0 d6) (.tup (SqT.of g_same) (.cons (.str _) (.cons .non .nil))) ((Shw.tup (ShwA.cons (Shw.str (x := "told") told_sm) (ShwA.cons Shw.non ShwA.nil))).le (by decide +kernel) (by omega)) (by decide) (by decide) fun H8 k8 => ?_
      have k78 := (kp_new (o := .tup [.str "told", .non]) hu7).trans k8
      have kt6' : Kt [st, q, p, fl, bl] H5 H6 := kt6.sub (by simp)
      have kt8 := (kt5.trans kt6').trans (k78.kt (S := [st, q, p, fl, bl]))
      refine done front (back ++ [x]) _ H8 kt8 ⟨ft, b4, k78 _ _ (kt6.1 _ _ hq5 (by simp [q1, q3])) (by simp), kt8.2.sqT hf, ?_⟩ (w6.kt (S := []) k78.kt (by simp) (by simp) (by simp)) (by rw [List.length_append, List.length_singleton]; omega) (by split <;> omega) (by split <;> omega) (((stw s5 kt6.1 (by simp [nst'.2.1, nst'.2.2.2]) (by simp [nnu'.2.1, nnu'.2.2.2])).kp k78).le (by omega))
      rw [List.map_append]
      exact (k78.tk).sqT (kt6.2.sqT hb5)
    · refine o_next ?_
      dsimp only
      refine o_seq (o_if (o_test (o_op ⟨_, rfl, o_c (r_eq rfl (o_bl ?_))⟩)))
      refine if_b (fun c2 => ?_) (fun c2 => ?_)
      · -- the value is asked
        refine o_seq (o_asgG (o_op ⟨_, rfl, o_cb (o_cons (o_andV (o_op (o_cb (o_cons ⟨_, rfl, o_nil (r_lenT hf1 (o_c (r_gt ⟨_, rfl, ?_⟩)))⟩)))))⟩))
        rw [List.length_map]
        have rest : ∀ c : Int, c = (if front ≠ [] ∧ back ≠ [] then 1 else 0) → (fun x H1_1 => rdAdd (.int m) x H1_1 fun x H1 => gSub (tVar 2) (tC (.int 3)) rSetL x ((((L2.start ["state", "table", "play", "pick", "window", "front", "back", "made", "strange", "letter"] [V.ref st, .ref tp, .ref q]).set 4 (some (.ref p))).set 5 (some (.ref ft))).set 6 (some (.ref bt)) |>.set 7 (some (.int m)) |>.set 3 (some (.int pick))) H1 (fun σ' H' => tRet (rCallG (sp_law_same K ca) E0 (tCons (tMeth (ca 20) "value" (sp_Window_value K ca) [] E0 (tVar 4) tNil) (tCons (rCallG (sp_law_value K ca) E0 (tCons (tVar 1) (tCons (tOp (rCatA K) (tCB (rdTuple K) (tCons (tVar 5) tNil)) (tCB (rdTuple K) (tCons (tVar 6) tNil))) tNil))) tNil))) (fin Q) σ' H')) (V.int c) H1 := fun c hc => by
          subst hc
          refine r_add ?_
          refine o_gsub ⟨_, rfl, o_c (r_setL hq1 (n := 3) rfl ?_)⟩
          have kt3 := kt1.lst (o := .lst [.ref p, .ref ft, .ref bt, .int (m + if front ≠ [] ∧ back ≠ [] then 1 else 0)]) hq1 (by simp)
          have kq := (Kt.refl [q] H1).lst (o := .lst [.ref p, .ref ft, .ref bt, .int (m + if front ≠ [] ∧ back ≠ [] then 1 else 0)]) hq1 (by simp)
          have w3 := w1.kt kq (by simp [Ne.symm q1]) (by simp [Ne.symm q2]) (by simp [Ne.symm q3])
          have s3 := stw s1 kq.1 (by simp [nst'.1]) (by simp [nnu'.1])
          have hq3 : (upd H1 q (.lst [.ref p, .ref ft, .ref bt, .int (m + if front ≠ [] ∧ back ≠ [] then 1 else 0)])) q = some _ := g_same
          dsimp only [List.set_cons_succ, List.set_cons_zero]
          show tRet _ _ _ (upd H1 q (.lst [.ref p, .ref ft, .ref bt, .int (m + if front ≠ [] ∧ back ≠ [] then 1 else 0)]))
          generalize upd H1 q (.lst [.ref p, .ref ft, .ref bt, .int (m + if front ≠ [] ∧ back ≠ [] then 1 else 0)]) = H3 at *
          obtain ⟨tp3, dx3, hp3, _⟩ := w3.ob
          refine o_ret (o_call (o_cons (o_meth ⟨_, rfl, p, dx3, _, rfl, hp3, wf_no (by decide +kernel) (by decide +kernel) (by decide +kernel) (by decide +kernel) (by decide +kernel), o_nil ?_⟩)))
          refine ⟨p, fl, bl, t, front, back, m, rfl, w3, fun H4 kt4 w4 => ?_⟩
          have kt4' : Kt [st, q, p, fl, bl] H3 H4 := kt4.sub (by simp)
          have kt5 := kt3.trans kt4'
          have hf5 := kt5.2.sqT hf
          have hb5 := kt5.2.sqT hbk
          refine o_cons (o_call (o_cons ⟨_, rfl, o_cons (o_op (o_cb (o_cons ⟨_, rfl, o_nil (r_tupT hf5 ?_)⟩)))⟩))
          refine o_cb (o_cons ⟨_, rfl, o_nil (r_tupT hb5 ?_)⟩)
          refine r_catA hf5 hb5 (by simp; omega) fun l H6 k6 hl => o_nil ?_
          rw [← List.map_append] at hl
          refine ⟨tp, l, t, front ++ back, rfl, tab.tk (kt5.2.trans k6.tk), g, hl, by rw [List.length_append]; omega, fun x hx => ?_, fun H7 k7 => o_nil ?_⟩
          · rcases List.mem_append.mp hx with hx | hx
            · exact w.inF x hx
            · exact w.inB x hx
          · have k67 := k6.trans k7
            refine same_use (d := .int (t.fold (front ++ back))) (n := 0) (h := 0) (.int _) (.int _) (Shw.int (fold_small g fun x hx => ?_)) (by decide) (by decide) fun H8 k8 => ?_
            · rcases List.mem_append.mp hx with hx | hx
              · exact w.inF x hx
              · exact w.inB x hx
            · have k68 := k67.trans k8
              have kt8 := kt5.trans (k68.kt (S := [st, q, p, fl, bl]))
              exact done front back _ H8 kt8 ⟨ft, bt, k68 _ _ (kt4.1 _ _ hq3 (by simp [q1])) (by simp), kt8.2.sqT hf, kt8.2.sqT hbk⟩ (w4.kt (S := []) k68.kt (by simp) (by simp) (by simp)) (by omega) (by split <;> omega) (by split <;> omega) (((stw s3 kt4.1 (by simp [nst'.2.1]) (by simp [nnu'.2.1])).kp k68).le (by omega))
        refine if_b (fun d1 => ?_) (fun d1 => ?_)
        · have d1 := of_decide_eq_true d1
          refine o_op (o_cb (o_cons ⟨_, rfl, o_nil (r_lenT hb1 (o_c (r_gt (o_nil (r_intB ?_)))))⟩))
          rw [List.length_map]
          refine rest _ ?_
          have nf : front ≠ [] := fun z => by rw [z] at d1; simp at d1
          by_cases e : back = []
          · subst e; rw [if_neg (by simp), if_neg (by simp)]
          · have := List.length_pos_iff.mpr e
            rw [if_pos (by simpa using this), if_pos ⟨nf, e⟩]
        · have d1 := of_decide_eq_false d1
          refine o_nil (r_intB (rest _ ?_))
          have nf : front = [] := List.eq_nil_of_length_eq_zero (by omega)
          exact (if_neg (fun z : front ≠ [] ∧ back ≠ [] => z.1 nf)).symm
      · refine o_next ?_
        dsimp only
        refine o_seq (o_if (o_test (o_op (o_op (o_cb (o_cons ⟨_, rfl, o_nil (r_lenT hf1 ?_)⟩))))))
        refine o_cb (o_cons ⟨_, rfl, o_nil (r_lenT hb1 (r_add (o_c (r_eq rfl (o_bl ?_)))))⟩)
        rw [List.length_map, List.length_map]
        -- the letter goes
        have rest : ∀ (σ : L2.St) (Hx : Hp) (ft2 bt2 y1 y2 : Addr) (x : Str) (fr bk : List Str) (c : Int), σ[1]? = some (some (.ref tp)) → σ[2]? = some (some (.ref q)) → σ[4]? = some (some (.ref p)) → σ[5]? = some (some (.ref ft2)) → σ[6]? = some (some (.ref bt2)) → popR front back = some (x, fr, bk, c) → 0 ≤ c → c ≤ 10000 → fr.length + bk.length ≤ front.length + back.length → x ∈ t.L →
            Kt [st, q, p, fl, bl] H Hx → StB Hx st nu (n + 1) → WinAt K ca Hx t p fl bl front back m → SqT K Hx ft2 ((x :: fr).map V.str) → SqT K Hx bt2 (bk.map V.str) → Hx q = some (.lst [.ref p, .ref y1, .ref y2, .int (m + c)]) →
            tSeq (tAsg (tTup (tCons (tSl (rSlA K) (tVar 5) (tPart (tC (.int 1))) tNoPart) (tCons (tVar 6) tNil))) (gTup K 2 (gCons (gSub (tVar 2) (tC (.int 1)) rSetL) (gCons (gSub (tVar 2) (tC (.int 2)) rSetL) gNil))))
              (tRet (rCallG (sp_law_same K ca) E0 (tCons (rCallG (sp_law_class K ca) E0 (tCons (tC (.int 1)) (tCons (tVar 4) (tCons (tC (.str "")) tNil)))) (tCons (tTup (tCons (tC (.str "told")) (tCons (tOp (rIxT K) (tVar 5) (tC (.int 0))) tNil))) tNil)))) (fin Q) σ Hx := fun σ Hx ft2 bt2 y1 y2 x fr bk c v1 v2 v4 v5 v6 ep c0 c4 hlen hx kt s w hft hbt hqx => by
          refine o_seq (o_asgG (o_tup (o_cons (o_sl ⟨_, v5, o_part (o_c ⟨1, rfl, o_nop (r_slA hft fun l H2 k2 hl => ?_)⟩)⟩))))
          have ec : cutV ((x :: fr).map V.str) (some 1) none = fr.map V.str := cutT_from ((x :: fr).map V.str) 1
          rw [ec] at hl
          refine o_cons ⟨_, v6, o_nil ⟨sz (by simp), fun u hu => ?_⟩⟩
          have ku := k2.new (o := .tup [.ref l, .ref bt2]) hu
          have hq2 := ku _ _ hqx (by simp)
          have hl2 := (kp_new (o := .tup [.ref l, .ref bt2]) hu).sqT (by simp) hl
          have hb2 := ku.sqT (by simp) hbt
          have hft2 := ku.sqT (by simp) hft
          have kt2 := kt.trans (ku.kt (S := [st, q, p, fl, bl]))
          have w2 := w.kt (S := []) ku.kt (by simp) (by simp) (by simp)
          have s2 := s.kp ku
          refine ⟨u, _, rfl, SqT.of g_same, rfl, _, _, rfl, o_gsub ⟨_, v2, o_c (r_setL hq2 (n := 1) rfl ⟨_, _, rfl, o_gsub ⟨_, v2, o_c (r_setL g_same (n := 2) rfl ⟨rfl, ?_⟩)⟩⟩)⟩⟩
          rw [upd_twice]
          dsimp only [List.set_cons_succ, List.set_cons_zero]
          generalize upd H2 u (.tup [.ref l, .ref bt2]) = H3 at *
          have kt3 := kt2.lst (o := .lst [.ref p, .ref l, .ref bt2, .int (m + c)]) hq2 (by simp)
          have kq := (Kt.refl [q] H3).lst (o := .lst [.ref p, .ref l, .ref bt2, .int (m + c)]) hq2 (by simp)
          have w3 := w2.kt kq (by simp [Ne.symm q1]) (by simp [Ne.symm q2]) (by simp [Ne.symm q3])
          have s3 := stw s2 kq.1 (by simp [nst'.1]) (by simp [nnu'.1])
          have hl3 := kq.2.sqT hl2
          have hb3 := kq.2.sqT hb2
          have hft3 := kq.2.sqT hft2
          have hq3 : (upd H3 q (.lst [.ref p, .ref l, .ref bt2, .int (m + c)])) q = some _ := g_same
          show tRet _ _ _ (upd H3 q (.lst [.ref p, .ref l, .ref bt2, .int (m + c)]))
          generalize upd H3 q (.lst [.ref p, .ref l, .ref bt2, .int (m + c)]) = H4 at *
          refine o_ret (o_call (o_cons (o_call (o_cons (o_c (o_cons ⟨_, v4, o_cons (o_c (o_nil ?_))⟩))))))
          refine .inr (.inl ⟨p, fl, bl, _, t, front, back, m, rfl, w3, fun e => (by rw [ep] at e; cases e), fun x2 fr2 bk2 c2 e2 v5' H5 kt5 w5 d5 => ?_⟩)
          rw [ep] at e2
          have e2 := Option.some.inj e2
          injection e2 with e3 e4
          injection e4 with e4 e5
          injection e5 with e5 e6
          subst e3 e4 e5 e6
          have hft5 := kt5.2.sqT hft3
          refine o_cons (o_tup (o_cons (o_c (o_cons (o_op ⟨_, v5, o_c (r_ixT hft5 atZ0 (o_nil ⟨sz (by simp), fun u7 hu7 => o_nil ?_⟩))⟩)))))
          have lx := g.wd x hx
          have shw : Shw (.tuple [.str "told", .str x]) 100 1 := (Shw.tup (ShwA.cons (Shw.str told_sm) (ShwA.cons (Shw.str lx.2.2.1) ShwA.nil))).le (by have := lx.2.1; rw [told_len]; omega) (by omega)
          refine same_use ((kp_new hu7).dp0 d5) (.tup (SqT.of g_same) (.cons (.str _) (.cons (.str _) .nil))) shw (by decide) (by decide) fun H8 k8 => ?_
          have k78 := (kp_new (o := .tup [.str "told", .str x]) hu7).trans k8
          have kt5' : Kt [st, q, p, fl, bl] H4 H5 := kt5.sub (by simp)
          have kt8 := (kt3.trans kt5').trans (k78.kt (S := [st, q, p, fl, bl]))
          exact done fr bk _ H8 kt8 ⟨l, bt2, k78 _ _ (kt5.1 _ _ hq3 (by simp [q1, q2, q3])) (by simp), k78.tk.sqT (kt5.2.sqT hl3), k78.tk.sqT (kt5.2.sqT hb3)⟩ (w5.kt (S := []) k78.kt (by simp) (by simp) (by simp)) (by omega) (by omega) (by omega) (((stw s3 kt5.1 (by simp [nst'.2.1, nst'.2.2.1, nst'.2.2.2]) (by simp [nnu'.2.1, nnu'.2.2.1, nnu'.2.2.2])).kp k78).le (by omega))
        refine if_b (fun d1 => ?_) (fun d1 => ?_)
        · -- nothing is there
          have d1 := V.int.inj (of_decide_eq_true d1)
          have e1 : front = [] := List.eq_nil_of_length_eq_zero (by omega)
          have e2 : back = [] := List.eq_nil_of_length_eq_zero (by omega)
          subst e1 e2
          refine o_ret (o_op (o_call (o_cons (o_c (o_cons ⟨_, rfl, o_cons (o_c (o_nil ?_))⟩)))))
          refine .inr (.inl ⟨p, fl, bl, _, t, [], [], m, rfl, w1, fun _ H3 k3 => o_c (r_eq rfl ?_), fun x fr bk c e => (by cases e)⟩)
          rw [decide_eq_true rfl]
          have kt3 := kt1.trans (k3.kt (S := [st, q, p, fl, bl]))
          exact done [] [] m H3 kt3 ⟨ft, bt, k3 _ _ hq1 (by simp), kt3.2.sqT hf, kt3.2.sqT hbk⟩ (w1.kt (S := []) k3.kt (by simp) (by simp) (by simp)) (by omega) (by omega) (by omega) ((s1.kp k3).le (by omega))
        · have d1 : ¬ ((front.length : Int) + (back.length : Int) = 0) := fun z => of_decide_eq_false d1 (by rw [z])
          refine o_next ?_
          dsimp only
          refine o_seq (o_if (o_test (o_op (o_cb (o_cons ⟨_, rfl, o_nil (r_lenT hf1 (o_c (r_eq rfl (o_bl ?_))))⟩)))))
          rw [List.length_map]
          refine if_b (fun d2 => ?_) (fun d2 => ?_)
          · have d2 := V.int.inj (of_decide_eq_true d2)
            have e1 : front = [] := List.eq_nil_of_length_eq_zero (by omega)
            subst e1
            cases back with
            | nil => simp at d1
            | cons x fr =>
              have hx : x ∈ t.L := w.inB x (by simp)
              refine o_seq (o_asgG (o_op (o_op ⟨_, rfl, o_cb (o_cons ⟨_, rfl, o_nil (r_lenT hb1 (r_add (o_c (r_sub ?_))))⟩)⟩)))
              refine o_gsub ⟨_, rfl, o_c (r_setL hq1 (n := 3) rfl ?_)⟩
              have em : m + (((x :: fr).map V.str).length : Int) - 1 = m + (fr.length : Int) := by simp; omega
              rw [em]
              have kt3 := kt1.lst (o := .lst [.ref p, .ref ft, .ref bt, .int (m + (fr.length : Int))]) hq1 (by simp)
              have kq := (Kt.refl [q] H1).lst (o := .lst [.ref p, .ref ft, .ref bt, .int (m + (fr.length : Int))]) hq1 (by simp)
              have w3 := w1.kt kq (by simp [Ne.symm q1]) (by simp [Ne.symm q2]) (by simp [Ne.symm q3])
              have s3 := stw s1 kq.1 (by simp [nst'.1]) (by simp [nnu'.1])
              have hq3 : (upd H1 q (.lst [.ref p, .ref ft, .ref bt, .int (m + (fr.length : Int))])) q = some _ := g_same
              have hb3 := kq.2.sqT hb1
              dsimp only [List.set_cons_succ, List.set_cons_zero]
              show tPar _ _ _ _ _ (upd H1 q (.lst [.ref p, .ref ft, .ref bt, .int (m + (fr.length : Int))]))
              generalize upd H1 q (.lst [.ref p, .ref ft, .ref bt, .int (m + (fr.length : Int))]) = H3 at *
              refine o_par (o_cons ⟨_, rfl, o_cons (o_tup (o_nil ⟨sz (by simp), fun e5 he5 => o_nil ⟨_, _, rfl, ?_⟩⟩))⟩)
              have k5 := kp_new (o := .tup []) he5
              dsimp only
              refine rest _ _ bt e5 ft bt x fr [] (fr.length : Int) rfl rfl rfl rfl rfl rfl (by omega) (by simp at lens; omega) (by simp) hx (kt3.trans k5.kt) (s3.new he5) (w3.kt (S := []) k5.kt (by simp) (by simp) (by simp)) (k5.sqT (by simp) hb3) (SqT.of g_same) (k5 _ _ hq3 (by simp))
          · have d2 : ¬ ((front.length : Int) = 0) := fun z => of_decide_eq_false d2 (by rw [z])
            cases front with
            | nil => simp at d2
            | cons x fr =>
              have hx : x ∈ t.L := w.inF x (by simp)
              refine o_next ?_
              dsimp only
              refine rest _ H1 ft bt ft bt x fr back 0 rfl rfl rfl rfl rfl rfl (by omega) (by omega) (by rw [List.length_cons]; omega) hx kt1 s1 w1 hf1 hb1 (by rw [Int.add_zero]; exact hq1)
end
end K92
namespace K92
open PySem PySem.Spec PyProof.Rows L2 Sf
theorem costs_bd : ∀ (ms : List Str) (f b : Int) (l : List Int), 0 ≤ f → 0 ≤ b → costs f b ms = .inr l → (∀ c ∈ l, 0 ≤ c ∧ c ≤ f + b + ms.length) ∧ l.length = ms.length
  | [], f, b, l, _, hb, h => by
    have : l = [] := (Sum.inr.inj h).symm
    subst this
    simp
  | m :: r, f, b, l, hf, hb, h => by
    have go : ∀ (c f2 b2 : Int) (l' : List Int), 0 ≤ f2 → 0 ≤ b2 → f2 + b2 ≤ f + b + 1 → 0 ≤ c → c ≤ f + b + 1 → costs f2 b2 r = .inr l' → l = c :: l' → (∀ c ∈ l, 0 ≤ c ∧ c ≤ f + b + (m :: r).length) ∧ l.length = (m :: r).length := fun c f2 b2 l' g1 g2 g3 g4 g5 e el => by
      obtain ⟨a, b'⟩ := costs_bd r f2 b2 l' g1 g2 e
      subst el
      refine ⟨fun z hz => ?_, by simp [b']⟩
      simp only [List.length_cons]
      rcases List.mem_cons.mp hz with hz | hz
      · omega
      · have := a z hz; omega
    unfold costs at h
    by_cases h1 : m = "in"
    · rw [if_pos h1] at h
      obtain ⟨l', e, el⟩ := pre_inr h
      exact go _ f (b + 1) l' hf (by omega) (by omega) (by split <;> omega) (by split <;> omega) e el
    · rw [if_neg h1] at h
      by_cases h2 : m = "ask"
      · rw [if_pos h2] at h
        obtain ⟨l', e, el⟩ := pre_inr h
        exact go _ f b l' hf hb (by omega) (by split <;> omega) (by split <;> omega) e el
      · rw [if_neg h2] at h
        by_cases h3 : m = "out"
        · rw [if_pos h3] at h
          by_cases h4 : f + b = 0
          · rw [if_pos h4] at h; cases h
          · rw [if_neg h4] at h
            by_cases h5 : f = 0
            · rw [if_pos h5] at h
              obtain ⟨l', e, el⟩ := pre_inr h
              exact go _ (b - 1) 0 l' (by omega) (by omega) (by omega) (by omega) (by omega) e el
            · rw [if_neg h5] at h
              obtain ⟨l', e, el⟩ := pre_inr h
              exact go _ (f - 1) b l' (by omega) hb (by omega) (by omega) (by omega) e el
        · rw [if_neg h3] at h; cases h
theorem shw_costs {ms : List Str} (h : ms.length ≤ 1000) : Shw (costD (costs 0 0 ms)) 2000 2 := by
  cases e : costs 0 0 ms with
  | inl b =>
    cases b with
    | true => exact (Shw.str (x := "missing") (sm_of (by decide +kernel))).le (by decide +kernel) (by omega)
    | false => exact (Shw.str (x := "refused") (sm_of (by decide +kernel))).le (by decide +kernel) (by omega)
  | inr l =>
    obtain ⟨h1, h2⟩ := costs_bd ms 0 0 l (Int.le_refl _) (Int.le_refl _) e
    refine (Shw.tup (ShwA.cons ((Shw.str told_sm).le (Nat.le_refl _) (Nat.zero_le 1)) (ShwA.cons (Shw.tup (ShwA.ints (l := l) fun y hy => ?_)) (ShwA.nil.le (Nat.le_refl _) (Nat.zero_le 1))))).le (by rw [told_len]; omega) (by omega)
    have := h1 y hy
    omega
theorem Shw.fits0 {d : PyData} {n h : Nat} (s : Shw d n h) (hn : n ≤ 1000000) : d.shown.length ≤ sizeLine := by
  have b := PyData.shown_le_bulk 13 (by decide) _ s.ls
  have w := s.we
  have z := sizeLine_eq
  omega
theorem filt_len (y : Str) (ms : List Str) : (((ms.map V.str).filter fun v => decide (v = V.str y)).map id).length = (ms.filter fun m => decide (m = y)).length := by
  rw [List.map_id, List.filter_map, List.length_map]
  congr 1
  refine List.filter_congr fun x _ => ?_
  simp
def MvOk (ms : List Str) : Prop := ms.length ≤ 130 ∧ ∀ x ∈ ms, x.length ≤ 10 ∧ Sm x
theorem shw_moves {ms : List Str} (h : MvOk ms) : Shw (.list (ms.map .str)) 2000 1 := by
  have a := ShwA.strs (l := ms) fun y hy => (h.2 y hy).2
  have b : (ms.map Str.length).sum ≤ 10 * ms.length := by
    have h2 := h.2
    clear a h
    induction ms with
    | nil => simp
    | cons x r ih =>
      have := (h2 x (by simp)).1
      have := ih fun y hy => h2 y (by simp [hy])
      simp only [List.map_cons, List.sum_cons, List.length_cons]
      omega
  have := h.1
  exact (Shw.lst a).le (by omega) (by omega)
section
variable {K : PySem.W.Frag} {ca : Nat → Addr} {H H1 : Hp} {Q : VK} {σ : L2.St} {st nu : Addr} {n : Nat}
theorem dp_tup {v : V} {ds : List PyData} (h : Dp K H v (.tuple ds)) : ∃ a xs, v = .ref a ∧ SqT K H a xs ∧ DpAll K H xs ds := by
  cases h with
  | tup a b => exact ⟨_, _, rfl, a, b⟩
theorem dps_cons {vs : List V} {d : PyData} {ds : List PyData} (h : DpAll K H vs (d :: ds)) : ∃ v r, vs = v :: r ∧ Dp K H v d ∧ DpAll K H r ds := by
  cases h with
  | cons a b => exact ⟨_, _, rfl, a, b⟩
theorem dps_nil {vs : List V} (h : DpAll K H vs []) : vs = [] := by
  cases h; rfl
theorem dps_int : ∀ {vs : List V} {l : List Int}, DpAll K H vs (l.map .int) → vs = l.map V.int
  | _, [], h => dps_nil h
  | _, a :: r, h => by
    obtain ⟨v, q, rfl, h1, h2⟩ := dps_cons h
    cases h1
    rw [dps_int h2]; rfl
/-- len([move for move in moves if move == '..']) -/
theorem count_run {mp : Addr} {ms : List Str} {y : Str} (h1 : σ[1]? = some (some (.ref mp))) (h7 : 7 < σ.length) (hm : H mp = some (.lst (ms.map V.str))) (hl : ms.length ≤ 1000) (q : ∀ H', Kp [] H H' → Q (.int ((ms.filter fun m => decide (m = y)).length : Nat)) H') :
    tCB (rdLen K) (tCons (tLc (iList K (tVar 1)) (gName 7) (tTest (tOp rEq (tVar 7) (tC (.str y)))) (tVar 7) [7]) tNil) σ H Q := by
  refine o_cb (o_cons (lcL (xs := ms.map V.str) (fun v => decide (v = V.str y)) id (fun R r => ⟨_, h1, r⟩) (SqL.of hm) (by simp; omega) (fun v H1 hv k1 R r => ?_) (fun v H1 hv hp k1 R r => ?_) fun D H1 hD k1 hd => ?_))
  · obtain ⟨x, _, rfl⟩ := List.mem_map.mp hv
    refine o_test (o_op ⟨.str x, by rw [List.getElem?_set_self (by simpa using h7)], o_c (r_eq rfl (o_bl (r H1 (Kp.refl _ _))))⟩)
  · exact ⟨v, by rw [List.getElem?_set_self (by simpa using h7)], r H1 (Kp.refl _ _)⟩
  · refine o_nil (r_lenL (SqL.of hd) ?_)
    rw [filt_len]
    exact q H1 k1
theorem pure_law_counted (vs : List V) (H : Hp) (Q : VK) (E : XK) (h : sp_law_counted K ca vs H Q E) : t_law_counted K ca (fin Q) (start ["state", "moves", "k", "kept", "due", "ins", "at", "move"] vs) H := by
  obtain ⟨st, nu, n, rfl, hs, hb, k⟩ := h
  have hb' : n + 100 < 1000000000 := hb
  unfold t_law_counted
  -- once the moves are made
  have rest : ∀ (c2 c5 c6 c7 c3 c4 : Option V) (H1 : Hp) (mp : Addr) (ms : List Str), Kp [st] H H1 → StB H1 st nu (n + 100) → H1 mp = some (.lst (ms.map V.str)) → MvOk ms →
      tSeq (tAsg (tCB (rReprD K) (tCons (tVar 1) tNil)) (gName 3))
    (tSeq (tAsg (rCallG (sp_law_costs K ca) E0 (tCons (tVar 1) tNil)) (gName 4))
    (tSeq (tIfS (tOr (tNot (tB (rCallG (sp_law_same K ca) E0 (tCons (rCallG (sp_law_class K ca) E0 (tCons (tC (.int 2)) (tCons (tC .non) (tCons (tVar 1) tNil)))) (tCons (tVar 4) tNil))))) (tTest (tOp rNe (tCB (rReprD K) (tCons (tVar 1) tNil)) (tVar 3)))) (tRet (tC (.bl false))) tNext)
    (tSeq (tAsg (tCB (rdLen K) (tCons (tLc (iList K (tVar 1)) (gName 7) (tTest (tOp rEq (tVar 7) (tC (.str "in")))) (tVar 7) [7]) tNil)) (gName 5))
    (tRet (tOrV (tCB (rIsi K) (tCons (tVar 4) (tCons (tC (.ty "str")) tNil))) (tOp rdLe (tCB (rSumT K) (tCons (tOp (rIxT K) (tVar 4) (tC (.int 1))) tNil)) (tOp rdAdd (tOp rdMul (tC (.int 2)) (tVar 5)) (tCB (rdLen K) (tCons (tLc (iList K (tVar 1)) (gName 7) (tTest (tOp rEq (tVar 7) (tC (.str "ask")))) (tVar 7) [7]) tNil)))))))))
        (fin Q) [some (.ref st), some (.ref mp), c2, c3, c4, c5, c6, c7] H1 := fun c2 c5 c6 c7 c3 c4 H1 mp ms k1 s1 hm ok => by
    have sh := shw_moves ok
    have dm : Dp K H1 (.ref mp) (.list (ms.map .str)) := .lst (SqL.of hm) (dps_strs _)
    refine o_seq (o_asg (o_cb (o_cons ⟨_, rfl, o_nil ⟨mp, _, rfl, dm, sh.sh, sh.nd, Nat.le_trans sh.dp (by decide), Shw.fits0 sh (by decide), ?_⟩⟩)))
    dsimp only
    have l70 := ok.1
    refine o_seq (o_asg (o_call (o_cons ⟨_, rfl, o_nil ⟨mp, ms, rfl, SqL.of hm, by omega, fun v H2 k2 d2 => ?_⟩⟩)))
    have hm2 := k2 _ _ hm (by simp)
    dsimp only
    refine o_seq (o_if (o_or (o_not (o_B (o_call (o_cons (o_call (o_cons (o_c (o_cons (o_c (o_cons ⟨_, rfl, o_nil ?_⟩))))))))))))
    refine .inr (.inr ⟨mp, _, ms, rfl, SqL.of hm2, by omega, fun v3 H3 k3 d3 => o_cons ⟨_, rfl, o_nil ?_⟩⟩)
    refine same_use d3 (k3.dp0 d2) (shw_costs (by omega)) (by decide) (by decide) fun H4 k4 => ⟨true, rfl, ?_⟩
    have hm4 := (k3.trans k4) _ _ hm2 (by simp)
    have dm4 : Dp K H4 (.ref mp) (.list (ms.map .str)) := .lst (SqL.of hm4) (dps_strs _)
    refine iteNT (o_test (o_op (o_cb (o_cons ⟨_, rfl, o_nil ⟨mp, _, rfl, dm4, sh.sh, sh.nd, Nat.le_trans sh.dp (by decide), Shw.fits0 sh (by decide), ⟨_, rfl, r_ne rfl (o_bl ?_)⟩⟩⟩))))
    rw [decide_eq_true rfl]
    refine iteF (o_next ?_)
    dsimp only
    refine o_seq (o_asg (count_run (ms := ms) rfl (by simp) hm4 (by omega) fun H5 k5 => ?_))
    have k25 := ((k2.trans k3).trans k4).trans k5
    have k35 := (k3.trans k4).trans k5
    have d5 := k35.dp0 d2
    have hm5 := k5 _ _ hm4 (by simp)
    have fin2 : ∀ H6, Kp [] H5 H6 → Q (.bl true) H6 := fun H6 k6 => k H6 (k1.trans ((k25.trans k6).sub (by simp))) (s1.kp (k25.trans k6))
    dsimp only
    refine o_ret (o_orV (o_cb (o_cons ⟨_, rfl, o_cons (o_c (o_nil ?_))⟩)))
    cases ec : costs 0 0 ms with
    | inl b =>
      have ev : ∃ z, v = .str z := by
        rw [ec] at d5
        cases b <;> (cases d5; exact ⟨_, rfl⟩)
      obtain ⟨z, rfl⟩ := ev
      exact ⟨_, _, _, _, true, rfl, .ty "str", .base (.str z), kit_ty (by decide +kernel), true, rfl, iteT (fin2 H5 (Kp.refl _ _))⟩
    | inr l =>
      rw [ec] at d5
      obtain ⟨a, xs, rfl, sa, da⟩ := dp_tup d5
      obtain ⟨v1, r1, rfl, _, da⟩ := dps_cons da
      obtain ⟨v2, r2, rfl, dl, da⟩ := dps_cons da
      have e3 := dps_nil da
      subst e3
      obtain ⟨b, ys, rfl, sb, db⟩ := dp_tup dl
      have e4 := dps_int db
      subst e4
      have ty : TyX K H5 (.ref a) (.type "tuple") := by
        rcases sa with (e | ⟨o, e⟩) | ⟨o, its, nn, e1, e2, _⟩
        · exact .base (.tup e)
        · exact .fTuple e
        · exact .kTuple e1 e2
      refine ⟨_, _, _, _, false, rfl, .ty "str", ty, kit_ty (by decide +kernel), false, rfl, iteF ?_⟩
      refine o_op (o_cb (o_cons (o_op ⟨_, rfl, o_c (r_ixT sa atZ1 (o_nil ⟨b, l, rfl, sb, ?_⟩))⟩)))
      refine o_op (o_op (o_c ⟨_, rfl, r_mul (.inl ⟨by decide, by decide⟩) ?_⟩))
      refine count_run (ms := ms) rfl (by simp) hm5 (by omega) fun H6 k6 => r_add (r_le ?_)
      have := costs_sum ms 0 0 l (Int.le_refl _) (Int.le_refl _) ec
      unfold ins asks at this
      rw [decide_eq_true (by omega)]
      exact fin2 H6 k6
  have len1 : ∀ (l : List Str), (∀ y ∈ l, y.length ≤ 10 ∧ ∀ c ∈ y.cps.toList, c < 200) → ∀ x ∈ l, x.length ≤ 10 ∧ Sm x := fun l h => h
  refine o_seq (o_asg (o_lst (o_nil ⟨sz (by simp), fun mp hmp => ?_⟩)))
  have s1 := hs.new (o := .lst []) hmp
  have k1 : Kp [st] H (upd H mp (.lst [])) := (Kp.refl _ _).new hmp
  have m1 : (upd H mp (.lst [])) mp = some (.lst []) := g_same
  have nm := (hs.ne hmp).1
  have nm2 := (hs.ne hmp).2
  generalize upd H mp (.lst []) = H1 at *
  dsimp only
  refine o_seq ?_
  unfold tFor iRng1
  refine o_cons (o_call (o_cons ⟨_, rfl, o_cons (o_c (o_nil ?_))⟩))
  refine next_use s1 (by decide) (by unfold bigN; omega) fun c H2 c0 c1 k2 s2 => o_nil ⟨c, rfl, by omega, by omega, ?_⟩
  have m2 := k2 _ _ m1 (by simp [nm])
  refine for_range (lo := 0) (n := c.toNat) (fun m σ' H3 => ∃ a ms, σ' = [some (.ref st), some (.ref mp), a, none, none, none, none, none] ∧ Kp [st] H H3 ∧ StB H3 st nu (n + 1 + m) ∧ H3 mp = some (.lst (ms.map V.str)) ∧ ms.length = m ∧ ∀ x ∈ ms, x.length ≤ 10 ∧ Sm x) ⟨none, [], rfl, k1.trans k2, s2, m2, rfl, by simp⟩ (fun m σ' H3 hm ⟨a, ms, e, k3, s3, m3, l3, o3⟩ => ?_) fun σ' H3 ⟨a, ms, e, k3, s3, m3, l3, o3⟩ => ?_
  · subst e
    refine o_gname ?_
    refine o_drop (o_bm ⟨_, rfl, .inl ⟨rfl, _, SqL.of m3⟩, o_cons (menu_of (m := 4) ["in", "in", "out", "ask"] rfl s3 (by unfold bigN; omega) rfl (by simp) (by simp) fun x hx H4 k4 s4 => o_nil ?_)⟩)
    have m4 := k4 _ _ m3 (by simp [nm])
    refine r_app m4 (szl (by simp; omega)) ⟨_, ms ++ [x], rfl, (k3.trans k4).own ?_, (s4.mut nm nm2).le (by omega), by rw [upd_same, List.map_append]; rfl, by simp [l3], fun y hy => ?_⟩
    · cases e : H mp with
      | none => rfl
      | some u => rw [e] at hmp; cases hmp
    · rcases List.mem_append.mp hy with hy | hy
      · exact o3 y hy
      · rw [List.mem_singleton.mp hy]
        exact len1 ["in", "in", "out", "ask"] (by decide +kernel) x hx
  · subst e
    have lc : ms.length ≤ 60 := by omega
    dsimp only
    refine o_seq (o_if (o_test (o_op (o_call (o_cons ⟨_, rfl, o_cons (o_c (o_nil ?_))⟩)))))
    refine next_use s3 (by decide) (by unfold bigN; omega) fun d H4 _ _ k4 s4 => o_c (r_eq rfl (o_bl ?_))
    have m4 := k4 _ _ m3 (by simp [nm])
    refine if_b (fun d1 => ?_) (fun d1 => ?_)
    · refine o_seq (o_asg (o_call (o_cons ⟨_, rfl, o_cons (o_op (o_cb (o_cons ⟨_, rfl, o_nil (r_lenL (SqL.of m4) (o_c (r_add (o_nil ?_))))⟩)))⟩)))
      rw [List.length_map]
      refine next_use s4 (by omega) (by unfold bigN; omega) fun at_ H5 a0 a1 k5 s5 => ?_
      have m5 := k5 _ _ m4 (by simp [nm])
      dsimp only
      obtain ⟨at2, rfl⟩ := Int.eq_ofNat_of_zero_le a0
      have cs : ∀ lo hi, ∃ ys : List Str, cutV (ms.map V.str) lo hi = ys.map V.str ∧ ys.length ≤ ms.length ∧ ∀ y ∈ ys, y ∈ ms := fun lo hi => by
        refine ⟨(ms.drop (HT.sIx (ms.map V.str).length 0 lo)).take (HT.sIx (ms.map V.str).length (ms.map V.str).length hi - HT.sIx (ms.map V.str).length 0 lo), ?_, ?_, fun y hy => List.mem_of_mem_drop (List.mem_of_mem_take hy)⟩
        · unfold cutV
          rw [List.map_take, List.map_drop]
        · rw [List.length_take, List.length_drop]; omega
      refine o_asg (o_op (o_op (o_sl ⟨_, rfl, o_nop (o_part ⟨_, rfl, _, rfl, r_slL (SqL.of m5) fun p1 hp1 => ?_⟩)⟩)))
      obtain ⟨ys, ey, ly, iy⟩ := cs none (some (at2 : Int))
      rw [ey]
      have s6 := s5.new (o := .lst (ys.map V.str)) hp1
      have m6 := g_new (o := .lst (ys.map V.str)) hp1 m5
      refine o_lst (o_cons (menu_of (m := 4) ["In", "", "into", "out "] rfl s6 (by unfold bigN; omega) rfl (by simp) (by simp) fun x hx H7 k7 s7 => o_nil ⟨sz (by simp), fun p2 hp2 => ?_⟩))
      have n1 := (s5.ne hp1).1
      have q7 := k7 _ _ g_same (by simp [n1])
      have m7 := k7 _ _ m6 (by simp [nm])
      refine r_cat (g_new hp2 q7) g_same (sz (by simp; omega)) fun p3 hp3 => ?_
      have m9 := g_new (o := .lst (ys.map V.str ++ [.str x])) hp3 (g_new (o := .lst [.str x]) hp2 m7)
      refine o_sl ⟨_, rfl, o_part ⟨_, rfl, _, rfl, o_nop (r_slL (SqL.of m9) fun p4 hp4 => ?_)⟩⟩
      obtain ⟨zs, ez, lz, iz⟩ := cs (some (at2 : Int)) none
      rw [ez]
      refine r_cat (xs := ys.map V.str ++ [.str x]) (ys := zs.map V.str) (g_new hp4 g_same) g_same (sz (by simp; omega)) fun p5 hp5 => ?_
      dsimp only
      refine rest _ _ _ _ _ _ _ p5 (ys ++ [x] ++ zs) (((((((((k3.trans k4).trans k5).new hp1).trans k7).new hp2).new hp3).new hp4).new hp5)) (((((s7.new hp2).new hp3).new hp4).new hp5).le (by omega)) (by rw [upd_same, List.map_append, List.map_append]; rfl) ⟨by simp; omega, fun y hy => ?_⟩
      rcases List.mem_append.mp hy with hy | hy
      · rcases List.mem_append.mp hy with hy | hy
        · exact o3 y (iy y hy)
        · rw [List.mem_singleton.mp hy]
          exact len1 ["In", "", "into", "out "] (by decide +kernel) x hx
      · exact o3 y (iz y hy)
    · refine o_next ?_
      dsimp only
      exact rest _ _ _ _ _ _ H4 mp ms (k3.trans k4) (s4.le (by omega)) m4 ⟨by omega, o3⟩
end
end K92
namespace K92
open PySem PySem.Spec PyProof.Rows L2 Sf
section
variable {K : PySem.W.Frag} {ca : Nat → Addr} {H H1 : Hp} {Q : VK} {σ : L2.St} {st nu : Addr} {n : Nat}
theorem shw_rows : ∀ {ps : List (List Int)} {c : Nat}, (∀ r ∈ ps, r.length ≤ c ∧ ∀ x ∈ r, x.natAbs < 2 ^ 36) → ShwA (ps.map fun r => .tuple (r.map .int)) ((c + 1) * ps.length) 1
  | [], c, _ => ShwA.nil.le (Nat.zero_le _) (Nat.zero_le _)
  | r :: ps, c, h => by
    obtain ⟨h1, h2⟩ := h r (by simp)
    have a := ShwA.cons ((Shw.tup (ShwA.ints h2)).le h1 (Nat.le_refl _)) (shw_rows (ps := ps) (c := c) fun r hr => h r (by simp [hr]))
    refine a.le ?_ (Nat.le_refl _)
    rw [List.length_cons, Nat.mul_succ]
    omega
theorem shw_tab {t : Tb} (g : t.Good) : Shw t.d 70000 3 := by
  have n256 := g.n256
  have a := shw_strs (l := t.L) (n := 100) g.wd (by have := g.l4; omega)
  have b := Shw.tup (ShwA.ints (l := t.Vs) fun y hy => by have := g.vr y hy; omega)
  have c := Shw.tup (shw_rows (ps := t.Ps) (c := 256) fun r hr => ⟨by have := (g.row r hr).1; omega, fun x hx => by have := (g.row r hr).2 x hx; omega⟩)
  have l4 := g.l4
  have lv := g.lv
  have lp : t.Ps.length ≤ 256 := n256
  have d := Shw.tup (ShwA.cons (a.le (Nat.le_refl _) (by omega : 1 ≤ 2)) (ShwA.cons (b.le (Nat.le_refl _) (by omega : 0 + 1 ≤ 2)) (ShwA.cons (c.le (Nat.le_refl _) (by omega : 1 + 1 ≤ 2)) (ShwA.nil.le (Nat.le_refl _) (Nat.zero_le 2)))))
  refine Shw.le d ?_ (by omega)
  omega
/-- a window that is made anew -/
theorem mk_win {a : Addr} {t : Tb} {te : TE} (g : t.Good) (W : WT K ca) (tab : TabAt K H a t) (hte : ∀ R : VK, R (.ref a) H → te σ H R)
    (q : ∀ p f b H', Kp [] H H' → H p = none → H f = none → H b = none → WinAt K ca H' t p f b [] [] 0 → Q (.ref p) H') : tMake (ca 20) (sp_Window_init K ca) [] E0 (tCons te tNil) σ H Q := by
  unfold tMake
  simp only [List.append_nil]
  refine o_cons (hte _ (o_nil fun p dx hp hdx nd => ?_))
  refine ⟨p, a, dx, rfl, g_same, fun f b H1 hf hb nfb hp1 hf1 hb1 kt => ⟨rfl, ?_⟩⟩
  have nfp : f ≠ p := Ne.symm (ne_of_none g_same hf)
  have nbp : b ≠ p := Ne.symm (ne_of_none g_same hb)
  have nfd : f ≠ dx := by
    rintro rfl
    rw [upd_ne nd, upd_same] at hf
    cases hf
  have nbd : b ≠ dx := by
    rintro rfl
    rw [upd_ne nd, upd_same] at hb
    cases hb
  have hf0 : H f = none := by rw [upd_ne nfp, upd_ne nfd] at hf; exact hf
  have hb0 : H b = none := by rw [upd_ne nbp, upd_ne nbd] at hb; exact hb
  have k1 : Kp [] H H1 := fun c u e _ => by
    have n1 : c ≠ p := ne_of_none e hp
    have n2 : c ≠ dx := ne_of_none e hdx
    exact kt.1 _ _ (g_mut n1 (g_mut n2 e)) (by simp [n1])
  have w : WinAt K ca H1 t p f b [] [] 0 := ⟨⟨a, dx, hp1, tab.tk k1.tk⟩, ⟨[], hf1, trivial⟩, hb1, Ne.symm nfp, Ne.symm nbp, nfb, by simp, by simp, g, by simp⟩
  exact q p f b H1 k1 hp hf0 hb0 w
/-- a play that is made anew -/
theorem mk_play {a : Addr} {t : Tb} {te : TE} (g : t.Good) (W : WT K ca) (tab : TabAt K H a t) (hte : ∀ R : VK, R (.ref a) H → te σ H R)
    (q : ∀ x p f b H', Kp [] H H' → H x = none → H p = none → H f = none → H b = none → PlayAt K ca H' t x p f b [] [] 0 → Q (.ref x) H') :
    tLst (tCons (tMake (ca 20) (sp_Window_init K ca) [] E0 (tCons te tNil)) (tCons (tTup tNil) (tCons (tTup tNil) (tCons (tC (.int 0)) tNil)))) σ H Q := by
  refine o_lst (o_cons (mk_win g W tab hte fun p f b H1 k1 hp hf0 hb0 w => ?_))
  obtain ⟨_, _, hp1, _⟩ := w.ob
  obtain ⟨_, hf1, _⟩ := w.fr
  have hb1 := w.bk
  refine o_cons (o_tup (o_nil ⟨sz (by simp), fun u1 h1 => ?_⟩))
  have k2 := kp_new (o := .tup []) h1
  refine o_cons (o_tup (o_nil ⟨sz (by simp), fun u2 h2 => ?_⟩))
  have k3 := k2.new (o := .tup []) h2
  refine o_cons (o_c (o_nil ⟨sz (by simp), fun x hx => ?_⟩))
  have k4 := k3.new (o := .lst [.ref p, .ref u1, .ref u2, .int 0]) hx
  have w4 := w.kt (S := []) k4.kt (by simp) (by simp) (by simp)
  have x0 : H x = none := (k1.trans k3).free (by simp) hx
  have xp := ne_of_none (k3 _ _ hp1 (by simp)) hx
  have xf := ne_of_none (k3 _ _ hf1 (by simp)) hx
  have xb := ne_of_none (k3 _ _ hb1 (by simp)) hx
  refine q x p f b _ (k1.trans k4) x0 hp hf0 hb0 ⟨⟨u1, u2, g_same, SqT.of (g_new hx (g_new h2 g_same)), SqT.of (g_new hx g_same)⟩, w4, Ne.symm xp, Ne.symm xf, Ne.symm xb⟩
theorem PlayAt.kt {q p fl bl : Addr} {t : Tb} {front back : List Str} {m : Int} {H' : Hp} {S : List Addr} (h : PlayAt K ca H t q p fl bl front back m) (k : Kt S H H') (n0 : q ∉ S) (n1 : p ∉ S) (n2 : fl ∉ S) (n3 : bl ∉ S) : PlayAt K ca H' t q p fl bl front back m := by
  obtain ⟨⟨ft, bt, a, b, c⟩, w, q1, q2, q3⟩ := h
  exact ⟨⟨ft, bt, k.1 _ _ a n0, k.2.sqT b, k.2.sqT c⟩, w.kt k n1 n2 n3, q1, q2, q3⟩
/-- one play, whatever it holds -/
structure Pl (K : PySem.W.Frag) (ca : Nat → Addr) (H : Hp) (t : Tb) (a q p f b : Addr) (m : Nat) : Prop where
  tab : TabAt K H a t
  good : t.Good
  pl : ∃ fr bk c, PlayAt K ca H t q p f b fr bk c ∧ fr.length + bk.length ≤ m ∧ 0 ≤ c ∧ c ≤ 10000 * m
theorem Pl.kt {t : Tb} {a q p f b : Addr} {m : Nat} {H' : Hp} {S : List Addr} (h : Pl K ca H t a q p f b m) (k : Kt S H H') (n0 : q ∉ S) (n1 : p ∉ S) (n2 : f ∉ S) (n3 : b ∉ S) : Pl K ca H' t a q p f b m := by
  obtain ⟨tab, g, fr, bk, c, pl, h1, h2, h3⟩ := h
  exact ⟨tab.tk k.2, g, fr, bk, c, pl.kt k n0 n1 n2 n3, h1, h2, h3⟩
theorem Pl.le {t : Tb} {a q p f b : Addr} {m m2 : Nat} (h : Pl K ca H t a q p f b m) (l : m ≤ m2) : Pl K ca H t a q p f b m2 := by
  obtain ⟨tab, g, fr, bk, c, pl, h1, h2, h3⟩ := h
  exact ⟨tab, g, fr, bk, c, pl, by omega, h2, by omega⟩
theorem turn_run {te tq : TE} {t : Tb} {a q p f b : Addr} {m : Nat} {QB : Bool → Hp → Prop} (hs : StB H st nu n) (hb : n + 10 < bigN) (P : Pl K ca H t a q p f b m) (hm : m ≤ 2000) (n1 : st ∉ [q, p, f, b]) (n2 : nu ∉ [q, p, f, b]) (h1 : σ[1]? = some (some (.ref st)))
    (hte : ∀ R : VK, R (.ref a) H → te σ H R) (htq : ∀ R : VK, R (.ref q) H → tq σ H R) (go : ∀ H', Kt [st, q, p, f, b] H H' → StB H' st nu (n + 10) → Pl K ca H' t a q p f b (m + 1) → QB true H') :
    tB (rCallG (sp_law_turn K ca) E0 (tCons (tVar 1) (tCons te (tCons tq tNil)))) σ H QB := by
  obtain ⟨tab, g, fr, bk, c, pl, l, c0, c1⟩ := P
  refine o_B (o_call (o_cons ⟨_, h1, o_cons (hte _ (o_cons (htq _ (o_nil ?_))))⟩))
  refine ⟨st, nu, a, q, p, f, b, t, fr, bk, c, n, rfl, tab, pl, by omega, hs, hb, n1, n2, fun fr2 bk2 c2 H' kt pl2 l2 m1 m2 s2 => ⟨true, rfl, ?_⟩⟩
  exact go H' kt s2 ⟨tab.tk kt.2, g, fr2, bk2, c2, pl2, by omega, by omega, by omega⟩
theorem stands_run {te tq : TE} {t : Tb} {a q p f b : Addr} {m : Nat} {QB : Bool → Hp → Prop} (P : Pl K ca H t a q p f b m) (hm : m ≤ 2000) (hte : ∀ R : VK, R (.ref a) H → te σ H R) (htq : ∀ R : VK, R (.ref q) H → tq σ H R) (go : ∀ H', Kp [] H H' → QB true H') :
    tB (rCallG (sp_law_stands K ca) E0 (tCons te (tCons tq tNil))) σ H QB := by
  obtain ⟨tab, g, fr, bk, c, pl, l, c0, c1⟩ := P
  refine o_B (o_call (o_cons (hte _ (o_cons (htq _ (o_nil ?_))))))
  exact ⟨a, q, p, f, b, t, fr, bk, c, rfl, tab, pl, by omega, by omega, fun H' k => ⟨true, rfl, go H' k⟩⟩
theorem trues_of : ∀ (xs : List V), (∀ v ∈ xs, v = .bl true) → ∃ bs : List Bool, xs = bs.map V.bl ∧ bs.all id = true
  | [], _ => ⟨[], rfl, rfl⟩
  | v :: r, h => by
    obtain ⟨bs, e, f⟩ := trues_of r fun v hv => h v (by simp [hv])
    exact ⟨true :: bs, by rw [h v (by simp), e]; rfl, by simpa using f⟩
end
end K92
namespace K92
open PySem PySem.Spec PyProof.Rows L2 Sf
section
variable {K : PySem.W.Frag} {ca : Nat → Addr} {H H1 : Hp} {Q : VK} {σ : L2.St} {st nu : Addr} {n : Nat}
theorem law_end (hM : ∀ H, SqT K H (ca 0) [.str "in", .str "out", .str "ask"]) (W : WT K ca) {t0 t1 : Tb} {ta tb tl q0 p0 f0 b0 q1 p1 f1 b1 : Addr} {c m : Nat} {kept : Str} {v0 v4 v5 v6 v7 : Option V} (P0 : Pl K ca H t0 ta q0 p0 f0 b0 c) (P1 : Pl K ca H t1 tb q1 p1 f1 b1 c) (s8 : StB H st nu m) (hm : m ≤ 100000)
    (tl8 : H tl = some (.lst [.ref ta, .ref tb])) (shw : Shw (.list [t0.d, t1.d]) 200000 4) (hkept : (PyData.list [t0.d, t1.d]).shown = kept) (k : ∀ H', Q (.bl true) H') :
    tSeq (tIfS (tOr (tNot (tB (rCallG (sp_law_same K ca) E0 (tCons (tMeth (ca 20) "value" (sp_Window_value K ca) [] E0 (tMake (ca 20) (sp_Window_init K ca) [] E0 (tCons (tOp (rIxL K) (tVar 2) (tC (.int 0))) tNil)) tNil) (tCons (tUn (rU fun i => .int (-i)) (tC (.int 1))) tNil))))) (tNot (tB (tCB (rAll K) (tCons (tLc (iRng1 (tCons (tC (.int 3)) tNil)) (gName 7) tYes (rCallG (sp_law_counted K ca) E0 (tCons (tVar 1) tNil)) [7]) tNil))))) (tRet (tC (.bl false))) tNext)
    (tRet (tAndV (tOp rEq (tCB (rReprD K) (tCons (tVar 2) tNil)) (tVar 3)) (tOp (rEqD K) (tC (.ref (ca 0))) (tTup (tCons (tC (.str "in")) (tCons (tC (.str "out")) (tCons (tC (.str "ask")) tNil))))))) (fin Q) [v0, some (.ref st), some (.ref tl), some (.str kept), v4, v5, v6, v7] H := by
  have ntl : tl ≠ st := by
    obtain ⟨tab, _⟩ := P0
    obtain ⟨j, ns, _, a, b, c, d⟩ := s8
    rintro rfl
    rw [a] at tl8
    injection tl8 with e
    injection e with e
    injection e with _ e
    injection e with e _
    cases e
  have g0 := P0.good
  refine o_seq (o_if (o_or (o_not (o_B (o_call (o_cons (o_meth ?_)))))))
  refine mk_win g0 W P0.tab (fun R r => o_op ⟨_, rfl, o_c (r_ixL (SqL.of tl8) atZ0 r)⟩) fun p f b H1 k1 hp hf hb w => ?_
  obtain ⟨tp, dx, hp1, _⟩ := w.ob
  refine ⟨p, dx, _, rfl, hp1, wf_no (by decide +kernel) (by decide +kernel) (by decide +kernel) (by decide +kernel) (by decide +kernel), o_nil ⟨p, f, b, t0, [], [], 0, rfl, w, fun H2 kt2 w2 => o_cons (o_un (o_c ⟨1, rfl, o_nil ?_⟩))⟩⟩
  refine same_use (d := .int (-1)) (n := 0) (h := 0) (.int _) (.int _) (Shw.int (by decide)) (by decide) (by decide) fun H3 k3 => ⟨true, rfl, ?_⟩
  have np : p ≠ st ∧ p ≠ nu ∧ tl ≠ p := ⟨(s8.ne hp).1, (s8.ne hp).2, ne_of_none tl8 hp⟩
  have s3 : StB H3 st nu m := by
    obtain ⟨j, ns, h0, h1, h2, h3⟩ := s8
    exact ⟨j, ns, h0, k3 _ _ (kt2.1 _ _ (k1 _ _ h1 (by simp)) (by simp [Ne.symm np.1])) (by simp), k3 _ _ (kt2.1 _ _ (k1 _ _ h2 (by simp)) (by simp [Ne.symm np.2.1])) (by simp), h3⟩
  have tl3 := k3 _ _ (kt2.1 _ _ (k1 _ _ tl8 (by simp)) (by simp [np.2.2])) (by simp)
  have tab0 := ((P0.tab.tk k1.tk).tk kt2.2).tk k3.tk
  have tab1 := ((P1.tab.tk k1.tk).tk kt2.2).tk k3.tk
  refine iteNT (o_not (o_B (o_cb (o_cons ?_))))
  refine lcRD (n := 3) (P := fun _ v => v = .bl true) 100 (fun _ _ _ _ h => h) (fun R q => o_cons (o_c (o_nil q))) (by decide) (by decide) s3 (by unfold bigN; show m + 100 * 3 < _; omega) (fun j H4 m2 hj k4 s4 hm2 R q => ?_) fun D H4 xs hD k4 hx hl hP s4 => ?_
  · exact o_call (o_cons ⟨_, rfl, o_nil ⟨st, nu, m2, rfl, s4, hm2, fun H5 k5 s5 => q _ H5 rfl k5 s5⟩⟩)
  · obtain ⟨bs, rfl, hbs⟩ := trues_of xs hP
    refine o_nil (r_all (SqL.of hx) ⟨_, rfl, ?_⟩)
    rw [hbs]
    refine iteNT (o_next ?_)
    have tl4 := k4 _ _ tl3 (by simp [ntl])
    have tk4 := s3.tk k4
    dsimp only
    refine o_ret (o_andV (o_op (o_cb (o_cons ⟨_, rfl, o_nil ⟨tl, _, rfl, .lst (SqL.of tl4) (.cons (tab0.tk tk4).dp (.cons (tab1.tk tk4).dp .nil)), shw.sh, shw.nd, Nat.le_trans shw.dp (by decide), Shw.fits0 shw (by decide), ⟨_, rfl, r_eq rfl ⟨_, rfl, ?_⟩⟩⟩⟩))))
    rw [if_pos (by rw [hkept]; exact decide_eq_true rfl)]
    refine o_op (o_c (o_tup (o_cons (o_c (o_cons (o_c (o_cons (o_c (o_nil ⟨sz (by simp), fun u hu => ?_⟩)))))))))
    refine ⟨.tuple [.str "in", .str "out", .str "ask"], .tuple [.str "in", .str "out", .str "ask"], .tup (hM _) (dps_strs ["in", "out", "ask"]), .tup (SqT.of g_same) (dps_strs ["in", "out", "ask"]), by decide +kernel, by decide +kernel, ?_⟩
    have e : PyData.eqv (.tuple [.str "in", .str "out", .str "ask"]) (.tuple [.str "in", .str "out", .str "ask"]) = true := by decide +kernel
    rw [e]
    exact k _
end
end K92
namespace K92
open PySem PySem.Spec PyProof.Rows L2 Sf
section
variable {K : PySem.W.Frag} {ca : Nat → Addr} {H H1 : Hp} {Q : VK} {σ : L2.St} {st nu : Addr} {n : Nat}
theorem pure_law (hM : ∀ H, SqT K H (ca 0) [.str "in", .str "out", .str "ask"]) (W : WT K ca) (vs : List V) (H : Hp) (Q : VK) (E : XK) (h : sp_law K ca vs H Q E) : t_law K ca (fin Q) (start ["script", "state", "tables", "kept", "plays", "many", "turn", "k"] vs) H := by
  obtain ⟨a, ns, rfl, ha, hl, k⟩ := h
  unfold t_law
  refine o_seq (o_asg (o_lst (o_cons (o_call (o_cons ⟨_, rfl, o_nil ?_⟩)))))
  refine ⟨a, ns, rfl, ha, hl, fun nu xs H1 k1 hnu0 hnu hx hxl hxr => o_cons (o_c (o_nil ⟨sz (by simp), fun st hst => ?_⟩))⟩
  have s1 : StB (upd H1 st (.lst [.ref nu, .int 0])) st nu 0 := ⟨0, xs, Nat.le_refl _, g_same, g_new hst hnu, ne_of_none hnu hst, hx, hxl, hxr⟩
  generalize upd H1 st (.lst [.ref nu, .int 0]) = H2 at *
  clear hst hnu hnu0 k1 ha
  dsimp only
  -- the tables
  refine o_seq (o_asg (o_lst (o_cons (o_call (o_cons ⟨_, rfl, o_nil ?_⟩)))))
  refine ⟨st, nu, 0, rfl, s1, by decide, fun ta t0 H3 g0 tab0 k3 s3 => o_cons (o_call (o_cons ⟨_, rfl, o_nil ?_⟩))⟩
  refine ⟨st, nu, _, rfl, s3, by decide, fun tb t1 H4 g1 tab1 k4 s4 => o_nil ⟨sz (by simp), fun tl htl => ?_⟩⟩
  have tab0 := (tab0.tk (s3.tk k4)).tk (kp_new (o := .lst [.ref ta, .ref tb]) htl).tk
  have tab1 := tab1.tk (kp_new (o := .lst [.ref ta, .ref tb]) htl).tk
  have s5 := s4.new (o := .lst [.ref ta, .ref tb]) htl
  have ntl := (s4.ne htl).1
  have ntl2 := (s4.ne htl).2
  have htl5 : (upd H4 tl (.lst [.ref ta, .ref tb])) tl = some (.lst [.ref ta, .ref tb]) := g_same
  generalize upd H4 tl (.lst [.ref ta, .ref tb]) = H5 at *
  dsimp only
  have shw : Shw (.list [t0.d, t1.d]) 200000 4 := (Shw.lst (ShwA.cons ((shw_tab g0).le (Nat.le_refl _) (by omega : 3 ≤ 3)) (ShwA.cons ((shw_tab g1).le (Nat.le_refl _) (by omega : 3 ≤ 3)) (ShwA.nil.le (Nat.le_refl _) (Nat.zero_le 3))))).le (by omega) (by omega)
  have dT : ∀ {Hx : Hp}, Hx tl = some (.lst [.ref ta, .ref tb]) → TabAt K Hx ta t0 → TabAt K Hx tb t1 → Dp K Hx (.ref tl) (.list [t0.d, t1.d]) := fun h1 h2 h3 => .lst (SqL.of h1) (.cons h2.dp (.cons h3.dp .nil))
  refine o_seq (o_asg (o_cb (o_cons ⟨_, rfl, o_nil ⟨tl, _, rfl, dT htl5 tab0 tab1, shw.sh, shw.nd, Nat.le_trans shw.dp (by decide), Shw.fits0 shw (by decide), ?_⟩⟩)))
  generalize hkept : (PyData.list [t0.d, t1.d]).shown = kept
  dsimp only
  -- the plays
  refine o_seq (o_asg ?_)
  have play : ∀ (i : Nat) (H6 : Hp) (σ : L2.St) (R : VK), i < 2 → Kp [] H5 H6 → σ[2]? = some (some (.ref tl)) → σ[7]? = some (some (.int (i : Int))) → (∀ x p f b H', Kp [] H6 H' → H6 x = none → H6 p = none → H6 f = none → H6 b = none → (i = 0 → PlayAt K ca H' t0 x p f b [] [] 0) → (i = 1 → PlayAt K ca H' t1 x p f b [] [] 0) → R (.ref x) H') →
      tLst (tCons (tMake (ca 20) (sp_Window_init K ca) [] E0 (tCons (tOp (rIxL K) (tVar 2) (tVar 7)) tNil)) (tCons (tTup tNil) (tCons (tTup tNil) (tCons (tC (.int 0)) tNil)))) σ H6 R := fun i H6 σ R hi k6 h2 h7 q => by
    have htl6 := k6 _ _ htl5 (by simp)
    have : i = 0 ∨ i = 1 := by omega
    rcases this with rfl | rfl
    · exact mk_play g0 W (tab0.tk k6.tk) (fun R r => o_op ⟨_, h2, _, h7, r_ixL (SqL.of htl6) atZ0 r⟩) fun x p f b H' a1 a2 a3 a4 a5 a6 => q x p f b H' a1 a2 a3 a4 a5 (fun _ => a6) (fun z => by cases z)
    · exact mk_play g1 W (tab1.tk k6.tk) (fun R r => o_op ⟨_, h2, _, h7, r_ixL (SqL.of htl6) atZ1 r⟩) fun x p f b H' a1 a2 a3 a4 a5 a6 => q x p f b H' a1 a2 a3 a4 a5 (fun z => by cases z) (fun _ => a6)
  unfold tLc iRng1
  refine o_cons (o_c (o_nil ⟨2, rfl, by decide, by decide, fun D hD => ?_⟩))
  refine lc_range (lo := 0) (n := (2 : Int).toNat) (fun i H6 => Kp [] H5 H6 ∧ H5 D = none ∧ ((i = 0 ∧ H6 D = some (.lst [])) ∨ ∃ q0 p0 f0 b0, H5 q0 = none ∧ H5 p0 = none ∧ H5 f0 = none ∧ H5 b0 = none ∧ D ∉ [q0, p0, f0, b0] ∧ PlayAt K ca H6 t0 q0 p0 f0 b0 [] [] 0 ∧
      ((i = 1 ∧ H6 D = some (.lst [.ref q0])) ∨ ∃ q1 p1 f1 b1, H5 q1 = none ∧ H5 p1 = none ∧ H5 f1 = none ∧ H5 b1 = none ∧ D ∉ [q1, p1, f1, b1] ∧ PlayAt K ca H6 t1 q1 p1 f1 b1 [] [] 0 ∧ (∀ y ∈ [q0, p0, f0, b0], y ∉ [q1, p1, f1, b1]) ∧ i = 2 ∧ H6 D = some (.lst [.ref q0, .ref q1])))) ⟨kp_new hD, hD, .inl ⟨rfl, g_same⟩⟩ (fun i H6 hi ⟨k6, _, ph⟩ => ⟨rfl, ?_⟩) fun H6 ⟨k6, _, ph⟩ => ?_
  · have e0 : (0 : Int) + (i : Int) = (i : Int) := Int.zero_add _
    unfold tYes
    dsimp only
    rw [if_pos rfl, e0]
    refine play i H6 _ _ (by have : (2 : Int).toNat = 2 := rfl; omega) k6 rfl rfl fun x p f b H7 k7 x0 p0 f0 b0 pA pB => ?_
    rcases ph with ⟨rfl, hD6⟩ | ⟨q0, p0', f0', b0', nq0, np0, nf0, nb0, nD0, pl0, ⟨rfl, hD6⟩ | ⟨q1, p1, f1, b1, _, _, _, _, _, _, _, e2, _⟩⟩
    · have hD7 := k7 _ _ hD6 (by simp)
      have kt := (Kt.refl [D] H7).lst (o := .lst ([] ++ [.ref x])) hD7 (by simp)
      have dx := ne_of_none hD6 x0
      have dp := ne_of_none hD6 p0
      have df := ne_of_none hD6 f0
      have db := ne_of_none hD6 b0
      exact ⟨[], hD7, szl (by simp), (k6.trans k7).own hD, hD, .inr ⟨x, p, f, b, k6.free (by simp) x0, k6.free (by simp) p0, k6.free (by simp) f0, k6.free (by simp) b0, by simp [dx, dp, df, db], (pA rfl).kt kt (by simp [Ne.symm dx]) (by simp [Ne.symm dp]) (by simp [Ne.symm df]) (by simp [Ne.symm db]), .inl ⟨rfl, g_same⟩⟩⟩
    · have hD7 := k7 _ _ hD6 (by simp)
      have kt := (Kt.refl [D] H7).lst (o := .lst ([.ref q0] ++ [.ref x])) hD7 (by simp)
      have dx := ne_of_none hD6 x0
      have dp := ne_of_none hD6 p0
      have df := ne_of_none hD6 f0
      have db := ne_of_none hD6 b0
      have nD0' : D ≠ q0 ∧ D ≠ p0' ∧ D ≠ f0' ∧ D ≠ b0' := by simpa using nD0
      obtain ⟨⟨_, _, y1, _, _⟩, w0, _, _, _⟩ := id pl0
      obtain ⟨_, _, y2, _⟩ := w0.ob
      obtain ⟨_, y3, _⟩ := w0.fr
      have y4 := w0.bk
      refine ⟨[.ref q0], hD7, szl (by simp), (k6.trans k7).own hD, hD, .inr ⟨q0, p0', f0', b0', nq0, np0, nf0, nb0, nD0, (pl0.kp k7).kt kt (by simp [Ne.symm nD0'.1]) (by simp [Ne.symm nD0'.2.1]) (by simp [Ne.symm nD0'.2.2.1]) (by simp [Ne.symm nD0'.2.2.2]), .inr ⟨x, p, f, b, k6.free (by simp) x0, k6.free (by simp) p0, k6.free (by simp) f0, k6.free (by simp) b0, by simp [dx, dp, df, db], (pB rfl).kt kt (by simp [Ne.symm dx]) (by simp [Ne.symm dp]) (by simp [Ne.symm df]) (by simp [Ne.symm db]), ?_, rfl, g_same⟩⟩⟩
      intro y hy
      have any : ∀ {u : HO} {y : Addr}, H6 y = some u → y ∉ [x, p, f, b] := fun e => by simp [ne_of_none e x0, ne_of_none e p0, ne_of_none e f0, ne_of_none e b0]
      simp only [List.mem_cons, List.not_mem_nil, or_false] at hy
      rcases hy with rfl | rfl | rfl | rfl
      · exact any y1
      · exact any y2
      · exact any y3
      · exact any y4
    · have : (2 : Int).toNat = 2 := rfl
      omega
  · rcases ph with ⟨e, _⟩ | ⟨q0, p0, f0, b0, nq0, np0, nf0, nb0, nD0, pl0, ⟨e, _⟩ | ⟨q1, p1, f1, b1, nq1, np1, nf1, nb1, nD1, pl1, dis, _, hD6⟩⟩
    · cases e
    · cases e
    · have nst : ∀ {y}, H5 y = none → y ≠ st ∧ y ≠ nu ∧ y ≠ tl := fun h => ⟨(s5.ne h).1, (s5.ne h).2, Ne.symm (ne_of_none htl5 h)⟩
      have s6 := s5.kp k6
      have htl6 := k6 _ _ htl5 (by simp)
      have P0 : Pl K ca H6 t0 ta q0 p0 f0 b0 0 := ⟨tab0.tk k6.tk, g0, [], [], 0, pl0, by simp, by omega, by omega⟩
      have P1 : Pl K ca H6 t1 tb q1 p1 f1 b1 0 := ⟨tab1.tk k6.tk, g1, [], [], 0, pl1, by simp, by omega, by omega⟩
      have nD := nst hD
      have a0 := nst nq0
      have a1 := nst np0
      have a2 := nst nf0
      have a3 := nst nb0
      have c0 := nst nq1
      have c1 := nst np1
      have c2 := nst nf1
      have c3 := nst nb1
      have nD0' : D ≠ q0 ∧ D ≠ p0 ∧ D ≠ f0 ∧ D ≠ b0 := by simpa using nD0
      have nD1' : D ≠ q1 ∧ D ≠ p1 ∧ D ≠ f1 ∧ D ≠ b1 := by simpa using nD1
      have x0 : q0 ∉ [q1, p1, f1, b1] := dis q0 (by simp)
      have x1 : p0 ∉ [q1, p1, f1, b1] := dis p0 (by simp)
      have x2 : f0 ∉ [q1, p1, f1, b1] := dis f0 (by simp)
      have x3 : b0 ∉ [q1, p1, f1, b1] := dis b0 (by simp)
      have x0' : q0 ≠ q1 ∧ q0 ≠ p1 ∧ q0 ≠ f1 ∧ q0 ≠ b1 := by simpa using x0
      have x1' : p0 ≠ q1 ∧ p0 ≠ p1 ∧ p0 ≠ f1 ∧ p0 ≠ b1 := by simpa using x1
      have x2' : f0 ≠ q1 ∧ f0 ≠ p1 ∧ f0 ≠ f1 ∧ f0 ≠ b1 := by simpa using x2
      have x3' : b0 ≠ q1 ∧ b0 ≠ p1 ∧ b0 ≠ f1 ∧ b0 ≠ b1 := by simpa using x3
      clear play tab0 tab1 dis pl0 pl1 k6 s5
      dsimp only
      -- how many turns
      have many : ∀ (σ : L2.St) (R : VK), σ[1]? = some (some (.ref st)) → (∀ (c : Nat) H7, c ≤ 1500 → Kp [st] H6 H7 → StB H7 st nu 1000 → R (.int (c : Int)) H7) →
          tOp (rIxL K) (tLst (tCons (tC (.int 120)) (tCons (tC (.int 1500)) tNil))) (tCB rdInt (tCons (tOp rEq (rCallG (sp_law_next K ca) E0 (tCons (tVar 1) (tCons (tC (.int 12)) tNil))) (tC (.int 0))) tNil)) σ H6 R := fun σ R h1 q => by
        refine o_op (o_lst (intA_run [120, 1500] _ ⟨sz (by simp), fun u hu => ?_⟩))
        have s7 := s6.new (o := .lst ([120, 1500].map V.int)) hu
        refine o_cb (o_cons (o_op (o_call (o_cons ⟨_, h1, o_cons (o_c (o_nil ?_))⟩))))
        refine next_use s7 (by decide) (by decide) fun d H7 _ _ k7 s8 => o_c (r_eq rfl (o_nil (r_intB ?_)))
        have hu7 := k7 _ _ g_same (by simp [(s6.ne hu).1])
        have kk : Kp [st] H6 H7 := ((Kp.refl [st] H6).new hu).trans k7
        by_cases e : d = 0
        · rw [if_pos (by simpa using e)]
          exact r_ixL (SqL.of hu7) atZ1 (q 1500 H7 (by decide) kk (s8.le (by decide)))
        · rw [if_neg (by simpa using e)]
          exact r_ixL (SqL.of hu7) atZ0 (q 120 H7 (by decide) kk (s8.le (by decide)))
      refine o_seq (o_asg (many _ _ rfl fun c H7 hc k7 s7 => ?_))
      have kt7 : Kt [st] H6 H7 := Kt.of_st s6 k7
      have htl7 := k7 _ _ htl6 (by simp [ntl])
      have hD7 := k7 _ _ hD6 (by simp [nD.1])
      have P0 := P0.kt kt7 (by simp [a0.1]) (by simp [a1.1]) (by simp [a2.1]) (by simp [a3.1])
      have P1 := P1.kt kt7 (by simp [c0.1]) (by simp [c1.1]) (by simp [c2.1]) (by simp [c3.1])
      dsimp only
      refine o_seq ?_
      refine forR (n := c) (fun R q => o_cons ⟨_, rfl, o_nil q⟩) (by omega) (fun m σ' H8 => ∃ y6 y7, σ' = [some (.ref a), some (.ref st), some (.ref tl), some (.str kept), some (.ref D), some (.int (c : Int)), y6, y7] ∧ StB H8 st nu (1000 + 10 * m) ∧ H8 tl = some (.lst [.ref ta, .ref tb]) ∧ H8 D = some (.lst [.ref q0, .ref q1]) ∧ Pl K ca H8 t0 ta q0 p0 f0 b0 m ∧ Pl K ca H8 t1 tb q1 p1 f1 b1 m) ⟨_, _, rfl, s7, htl7, hD7, P0, P1⟩ (fun m σ' H8 hm ⟨y6, y7, e, s8, tl8, D8, P0, P1⟩ => ?_) fun σ' H8 ⟨y6, y7, e, s8, tl8, D8, P0, P1⟩ => ?_
      · subst e
        refine o_gname ?_
        refine o_seq (o_asg (o_op (o_cb (o_cons ⟨_, rfl, o_nil (r_int (o_c (r_mod (by decide) ?_)))⟩))))
        dsimp only
        -- the answers are those of the law
        have stand : ∀ (kk : Int) (H9 : Hp), (kk = 0 ∨ kk = 1) → StB H9 st nu (1000 + 10 * (m + 1)) → H9 tl = some (.lst [.ref ta, .ref tb]) → H9 D = some (.lst [.ref q0, .ref q1]) → Pl K ca H9 t0 ta q0 p0 f0 b0 (m + 1) → Pl K ca H9 t1 tb q1 p1 f1 b1 (m + 1) →
            ∀ (N : L2.St → Hp → Prop) (D2 : Ends), D2.nx = N → (∀ y6 y7 H10, StB H10 st nu (1000 + 10 * (m + 1)) → H10 tl = some (.lst [.ref ta, .ref tb]) → H10 D = some (.lst [.ref q0, .ref q1]) → Pl K ca H10 t0 ta q0 p0 f0 b0 (m + 1) → Pl K ca H10 t1 tb q1 p1 f1 b1 (m + 1) → N [some (.ref a), some (.ref st), some (.ref tl), some (.str kept), some (.ref D), some (.int (c : Int)), y6, y7] H10) →
            tIfS (tAnd (tOr (tTest (tOp rdLt (tVar 5) (tC (.int 200)))) (tOr (tTest (tOp rdLt (tOp rdMod (tVar 6) (tC (.int 100))) (tC (.int 2)))) (tTest (tOp rdGt (tVar 6) (tOp rdSub (tVar 5) (tC (.int 3))))))) (tNot (tB (rCallG (sp_law_stands K ca) E0 (tCons (tOp (rIxL K) (tVar 2) (tVar 7)) (tCons (tOp (rIxL K) (tVar 4) (tVar 7)) tNil)))))) (tRet (tC (.bl false))) tNext D2
              [some (.ref a), some (.ref st), some (.ref tl), some (.str kept), some (.ref D), some (.int (c : Int)), some (.int (m : Int)), some (.int kk)] H9 := fun kk H9 hkk s9 tl9 D9 P0 P1 N D2 eN q => by
          subst eN
          refine o_if (o_and ?_)
          have second : tNot (tB (rCallG (sp_law_stands K ca) E0 (tCons (tOp (rIxL K) (tVar 2) (tVar 7)) (tCons (tOp (rIxL K) (tVar 4) (tVar 7)) tNil)))) [some (.ref a), some (.ref st), some (.ref tl), some (.str kept), some (.ref D), some (.int (c : Int)), some (.int (m : Int)), some (.int kk)] H9 fun cc H1 => if cc = true then tRet (tC (.bl false)) D2 [some (.ref a), some (.ref st), some (.ref tl), some (.str kept), some (.ref D), some (.int (c : Int)), some (.int (m : Int)), some (.int kk)] H1 else tNext D2 [some (.ref a), some (.ref st), some (.ref tl), some (.str kept), some (.ref D), some (.int (c : Int)), some (.int (m : Int)), some (.int kk)] H1 := by
            refine o_not ?_
            have fin3 : ∀ H10, Kp [] H9 H10 → if (!true) = true then tRet (tC (.bl false)) D2 [some (.ref a), some (.ref st), some (.ref tl), some (.str kept), some (.ref D), some (.int (c : Int)), some (.int (m : Int)), some (.int kk)] H10 else tNext D2 [some (.ref a), some (.ref st), some (.ref tl), some (.str kept), some (.ref D), some (.int (c : Int)), some (.int (m : Int)), some (.int kk)] H10 := fun H10 k10 =>
              iteNT (o_next (q _ _ H10 (s9.kp k10) (k10 _ _ tl9 (by simp)) (k10 _ _ D9 (by simp)) (P0.kt (S := []) k10.kt (by simp) (by simp) (by simp) (by simp)) (P1.kt (S := []) k10.kt (by simp) (by simp) (by simp) (by simp))))
            rcases hkk with rfl | rfl
            · exact stands_run P0 (by omega) (fun R r => o_op ⟨_, rfl, _, rfl, r_ixL (SqL.of tl9) atZ0 r⟩) (fun R r => o_op ⟨_, rfl, _, rfl, r_ixL (SqL.of D9) atZ0 r⟩) fin3
            · exact stands_run P1 (by omega) (fun R r => o_op ⟨_, rfl, _, rfl, r_ixL (SqL.of tl9) atZ1 r⟩) (fun R r => o_op ⟨_, rfl, _, rfl, r_ixL (SqL.of D9) atZ1 r⟩) fin3
          have skip : tNext D2 [some (.ref a), some (.ref st), some (.ref tl), some (.str kept), some (.ref D), some (.int (c : Int)), some (.int (m : Int)), some (.int kk)] H9 := o_next (q _ _ H9 s9 tl9 D9 P0 P1)
          refine o_or (o_test (o_op ⟨_, rfl, o_c (r_lt (o_bl (if_b (fun _ => iteT second) fun _ => ?_)))⟩))
          refine o_or (o_test (o_op (o_op ⟨_, rfl, o_c (r_mod (by decide) (o_c (r_lt (o_bl (if_b (fun _ => iteT second) fun _ => ?_)))))⟩)))
          refine o_test (o_op ⟨_, rfl, o_op ⟨_, rfl, o_c (r_sub (r_gt (o_bl (if_b (fun _ => second) fun _ => iteF skip))))⟩⟩)
        have hmod : (m : Int) % 2 = 0 ∨ (m : Int) % 2 = 1 := by omega
        refine o_seq (o_if (o_not ?_))
        have big : 1000 + 10 * m + 10 < bigN := by unfold bigN; omega
        rcases hmod with e | e
        · rw [e]
          refine turn_run s8 big P0 (by omega) (by simp [Ne.symm a0.1, Ne.symm a1.1, Ne.symm a2.1, Ne.symm a3.1]) (by simp [Ne.symm a0.2.1, Ne.symm a1.2.1, Ne.symm a2.2.1, Ne.symm a3.2.1]) rfl (fun R r => o_op ⟨_, rfl, _, rfl, r_ixL (SqL.of tl8) atZ0 r⟩) (fun R r => o_op ⟨_, rfl, _, rfl, r_ixL (SqL.of D8) atZ0 r⟩) fun H9 kt9 s9 P0' => iteNT (o_next ?_)
          dsimp only
          refine stand 0 H9 (.inl rfl) (s9.le (by omega)) (kt9.1 _ _ tl8 (by simp [ntl, Ne.symm a0.2.2, Ne.symm a1.2.2, Ne.symm a2.2.2, Ne.symm a3.2.2])) (kt9.1 _ _ D8 (by simp [nD.1, nD0'.1, nD0'.2.1, nD0'.2.2.1, nD0'.2.2.2])) P0' ((P1.kt kt9 (by simp [c0.1, Ne.symm x0'.1, Ne.symm x1'.1, Ne.symm x2'.1, Ne.symm x3'.1]) (by simp [c1.1, Ne.symm x0'.2.1, Ne.symm x1'.2.1, Ne.symm x2'.2.1, Ne.symm x3'.2.1]) (by simp [c2.1, Ne.symm x0'.2.2.1, Ne.symm x1'.2.2.1, Ne.symm x2'.2.2.1, Ne.symm x3'.2.2.1]) (by simp [c3.1, Ne.symm x0'.2.2.2, Ne.symm x1'.2.2.2, Ne.symm x2'.2.2.2, Ne.symm x3'.2.2.2])).le (by omega)) _ _ rfl fun y6 y7 H10 e1 e2 e3 e4 e5 => ⟨y6, y7, rfl, e1, e2, e3, e4, e5⟩
        · rw [e]
          refine turn_run s8 big P1 (by omega) (by simp [Ne.symm c0.1, Ne.symm c1.1, Ne.symm c2.1, Ne.symm c3.1]) (by simp [Ne.symm c0.2.1, Ne.symm c1.2.1, Ne.symm c2.2.1, Ne.symm c3.2.1]) rfl (fun R r => o_op ⟨_, rfl, _, rfl, r_ixL (SqL.of tl8) atZ1 r⟩) (fun R r => o_op ⟨_, rfl, _, rfl, r_ixL (SqL.of D8) atZ1 r⟩) fun H9 kt9 s9 P1' => iteNT (o_next ?_)
          dsimp only
          refine stand 1 H9 (.inr rfl) (s9.le (by omega)) (kt9.1 _ _ tl8 (by simp [ntl, Ne.symm c0.2.2, Ne.symm c1.2.2, Ne.symm c2.2.2, Ne.symm c3.2.2])) (kt9.1 _ _ D8 (by simp [nD.1, nD1'.1, nD1'.2.1, nD1'.2.2.1, nD1'.2.2.2])) ((P0.kt kt9 (by simp [a0.1, x0'.1, x0'.2.1, x0'.2.2.1, x0'.2.2.2]) (by simp [a1.1, x1'.1, x1'.2.1, x1'.2.2.1, x1'.2.2.2]) (by simp [a2.1, x2'.1, x2'.2.1, x2'.2.2.1, x2'.2.2.2]) (by simp [a3.1, x3'.1, x3'.2.1, x3'.2.2.1, x3'.2.2.2])).le (by omega)) P1' _ _ rfl fun y6 y7 H10 e1 e2 e3 e4 e5 => ⟨y6, y7, rfl, e1, e2, e3, e4, e5⟩
      · subst e
        exact law_end hM W P0 P1 s8 (by omega) tl8 shw hkept fun H' => k H'
end
end K92
end
/-! the end of a row whose law's promise (FnG) is for callers without guards -/
namespace Sf
open PySem PySem.Spec PyProof.Rows L2
/-- what the law's call must show -/
def Told (s1 : Shared) (r : Result) (s' : Shared) : Prop := r = .ok (.ret (.bool true)) ∧ OldK s1.heap s'.heap ∧ s'.os = s1.os ∧ AllBare s'.gens
section
variable {Pg : Program} {wo : World} {Kf : PySem.W.Frag} {glo gb : Str → Option Value} {lv : Nat} {fa a : Addr} {fu : FuncData} {x : Str} {pr : Sp} {s1 : Shared} {us : List Value} {ns : List Int}
/-- the call from a tracked heap Hh that knows the script at most -/
theorem call_from (kin : Kf.In s1.heap) (gl : s1.heap.Ns mainGlobals glo) (bl : s1.heap.Ns builtinsNs gb) (boot : ∀ y : Str, y ≠ "__name__" → gb y = bootBuiltins y) (nol : s1.heap.NoLimit) (gens : s1.gens = #[])
    (ob : s1.heap.get? a = some ⟨.type "list", none, .seq us.toArray, #[]⟩) (ro : Room lv callerA) (bt : BindsTo s1 fu ⟨[.ref a], []⟩ [(x, .ref a)])
    (F : ∀ bs : Heap, Kf.In bs → bs.Ns mainGlobals glo → FnG Pg wo Kf glo bs CX0 lv fa fu [x] pr) (Hh : Hp) (only : Only Hh) (ok : HOk Pg wo Hh s1.heap) (mine : ∀ b, Hh b ≠ none → b = a) (out : Hh a ≠ none → Kf.lookup a = none)
    (hp : pr [.ref a] Hh (fun v _ => v = .bl true) fun _ _ _ => False) : codeAny (model Pg wo) callerA (.call (.ref fa) ⟨[.ref a], []⟩) (Told s1) s1 := by
  have free : ∀ {b : Addr} {o : Obj}, s1.heap.get? b = some o → (∀ h : b = a, False) → (hidT s1.heap Hh).get? b = some o := fun {b o} e nb => by
    refine hidT_get e ?_
    cases q : Hh b with
    | none => rfl
    | some z => exact (nb (mine b (by rw [q]; simp))).elim
  have nsB : ∀ {b : Addr} {m : Str → Option Value}, s1.heap.Ns b m → (hidT s1.heap Hh).Ns b m := by
    rintro b m ⟨o, es, ep, e, d, r⟩
    refine ⟨o, es, ep, free e fun hb => ?_, d, r⟩
    subst hb
    rw [ob] at e
    injection e with e
    subst e
    have d' : Data.seq us.toArray _ = Data.dict es ep := d
    nomatch d'
  have kb : Kf.In (hidT s1.heap Hh) := fun b o e => by
    refine hidT_get (kin b o e) ?_
    cases q : Hh b with
    | none => rfl
    | some z =>
      have hb := mine b (by rw [q]; simp)
      subst hb
      have := out (by rw [q]; simp)
      rw [e] at this
      nomatch this
  have lim : (hidT s1.heap Hh).NoLimit := by
    obtain ⟨mc, z1, z2⟩ := nol
    exact ⟨mc, nsB z1, z2⟩
  have md : Mod Kf glo (hidT s1.heap Hh) := ⟨kb, nsB gl, ⟨gb, nsB bl, boot⟩, lim⟩
  have nob : ∀ b : Addr, b ∉ ([] : List Addr) := fun b => by simp
  have en : Env0 Pg wo Kf glo (hidT s1.heap Hh) callerA [] s1 Hh := ⟨rfl, md, fun b o e => of_hidT e, Nat.le_of_eq (hidT_size _ _), trivial, fun b hb => (nob b hb).elim, ok, .of_eq gens⟩
  refine codeAny_mono ((F _ kb (nsB gl)).go callerA [] s1 Hh ⟨[.ref a], []⟩ [.ref a] [.ref a] _ _ rfl ro en bt (.cons rfl .nil) hp) fun r s' h => ?_
  match r, h with
  | .error e, h => exact False.elim h
  | .ok .next, h => exact False.elim h
  | .ok .brk, h => exact False.elim h
  | .ok .cont, h => exact False.elim h
  | .ok (.ret u), ⟨v, H2, os, bare, un, ok2, rl, q⟩ =>
    have q2 : v = .bl true := q
    rw [q2] at rl
    have ru : u = Value.bool true := rl
    refine ⟨by rw [ru], OldK.of_keep fun b o e => ?_, os, bare⟩
    rcases only b with z | ⟨fo, ys, z⟩
    · exact un.keep b o e z (nob b) (nob b)
    · have before := (ok b _ z).1
      have after := (ok2 b _ (un.frzs b fo _ z)).1
      rw [before] at e
      rw [← Option.some.inj e]
      exact after
theorem call_law (kin : Kf.In s1.heap) (gl : s1.heap.Ns mainGlobals glo) (bl : s1.heap.Ns builtinsNs gb) (boot : ∀ y : Str, y ≠ "__name__" → gb y = bootBuiltins y) (nol : s1.heap.NoLimit) (gens : s1.gens = #[])
    (ob : s1.heap.get? a = some ⟨.type "list", none, .seq us.toArray, #[]⟩) (li : IntsAre us ns) (small : ns.length ≤ sizeLine) (ro : Room lv callerA) (bt : BindsTo s1 fu ⟨[.ref a], []⟩ [(x, .ref a)])
    (F : ∀ bs : Heap, Kf.In bs → bs.Ns mainGlobals glo → FnG Pg wo Kf glo bs CX0 lv fa fu [x] pr)
    (hp : ∀ Hh : Hp, SqL Kf Hh a (ns.map V.int) → pr [.ref a] Hh (fun v _ => v = .bl true) fun _ _ _ => False) : codeAny (model Pg wo) callerA (.call (.ref fa) ⟨[.ref a], []⟩) (Told s1) s1 := by
  have vals := vals_ints li
  have long := li.length
  by_cases hk : Kf.lookup a = none
  · have yes : ∀ u : HO, (fun b => if b = a then some u else none : Hp) a = some u := fun u => if_pos rfl
    have no : ∀ (u : HO) (b : Addr), b ≠ a → (fun b => if b = a then some u else none : Hp) b = none := fun u b n => if_neg n
    refine call_from kin gl bl boot nol gens ob ro bt F (fun b => if b = a then some (.frz ⟨.type "list", none, .seq us.toArray, #[]⟩ (.lst (ns.map V.int))) else none) (fun b => ?_) (fun b u z => ?_) (fun b z => ?_) (fun _ => hk) (hp _ (.inl (.inr ⟨_, yes _⟩)))
    · by_cases hb : b = a
      · subst hb; exact .inr ⟨_, _, yes _⟩
      · exact .inl (no _ b hb)
    · by_cases hb : b = a
      · subst hb
        rw [yes] at z
        injection z with z
        subst z
        exact ⟨ob, by rw [List.length_map]; exact small, us, _, vals, ob⟩
      · rw [no _ b hb] at z
        nomatch z
    · by_cases hb : b = a
      · exact hb
      · exact absurd (no _ b hb) z
  · obtain ⟨o, ho⟩ := Option.ne_none_iff_exists'.mp hk
    have same := kin a o ho
    rw [ob] at same
    have eo := (Option.some.inj same).symm
    subst eo
    refine call_from kin gl bl boot nol gens ob ro bt F (fun _ => none) (fun _ => .inl rfl) (fun b u z => nomatch z) (fun b z => absurd rfl z) (fun z => absurd rfl z) (hp _ (.inr ⟨_, us.toArray, _, ho, rfl, rfl, rfl, ?_, by simpa using vals⟩))
    rw [List.size_toArray, long]
    exact small
end
/-- a law row's walk, its only argument the script -/
theorem walk_G {l : PySem.W.OpenLaw} {n lv : Nat} {q : Program} {loose : List Str} {XP : (Str → Option Value) → Heap → Prop} {YP : World → Heap → Prop} {d : DefRec} {Kf : Params → PySem.W.Frag} {pr : PySem.W.Frag → Sp}
    (most : l.most = some n) (small : n ≤ sizeLine) (plain : d.params.defaults = []) (ro : Room lv callerA) (kin : ∀ (w : World) (h : Heap), YP w h → (Kf w.params).In h) (nm : d.name = "law")
    (F : ∀ (w : World) (glo : Str → Option Value) (h : Heap), (Kf w.params).In h → h.Ns mainGlobals glo →
      ∃ (fa : Addr) (fu : FuncData), glo "law" = some (.ref fa) ∧ Binds (Kf w.params) fu ["script"] [] ∧ ∀ bs : Heap, (Kf w.params).In bs → bs.Ns mainGlobals glo → FnG l.prog w (Kf w.params) glo bs CX0 lv fa fu ["script"] (pr (Kf w.params)))
    (hp : ∀ (K : PySem.W.Frag) (Hh : Hp) (a : Addr) (ns : List Int), ns.length ≤ n → SqL K Hh a (ns.map V.int) → pr K [.ref a] Hh (fun v _ => v = .bl true) fun _ _ _ => False) :
    PySem.W.WalkO q loose XP YP l.row.toRowW d [] (fun f vs => PySem.call f vs) := by
  refine Att.attach_call most plain fun w s0 s1 glo gb fa o pm cd doc a us ns G Y _ _ _ at_ ob li le gens => ?_
  have ki := kin w _ Y
  obtain ⟨f2, fu, e2, bi, fn⟩ := F w glo _ ki G.T.g
  rw [nm, e2] at at_
  have ef : f2 = fa := Value.ref.inj (Option.some.inj at_)
  subst ef
  exact call_law ki G.T.g G.T.b G.T.builtins G.T.nolimit gens ob li (Nat.le_trans le small) ro (bi s1 [.ref a] ki rfl) fn (fun Hh sq => hp _ Hh a ns le sq)
/-! ### what the top wrote -/
section
variable {K : PySem.W.Frag} {h : Heap} {mg : Str → Option Value} {x : Str} {f : Addr} {w : World}
theorem df_mk {st : Stmt} {pl : List Str} {od an : Option Addr} {sl : Array (Option Value)} {oc kV dc pm cd ct : Value} (X : K.In h) (G : h.Ns mainGlobals mg) (a : PySem.W.nsIn K mainGlobals x = some (some (.ref f)))
    (l : K.lookup f = some ⟨oc, od, .func (PySem.W.fnOf x x (defArgs st) (defBody st) (defScope st) .none kV dc pm an cd ct), sl⟩) (c : PySem.W.codeIn K cd x = true) (k : PySem.W.keepIn K (.ref f) = true)
    (b : ∀ F : Fun K x x st f (PySem.W.fnOf x x (defArgs st) (defBody st) (defScope st) .none kV dc pm an cd ct), Binds K (PySem.W.fnOf x x (defArgs st) (defBody st) (defScope st) .none kV dc pm an cd ct) pl []) : ∃ ad fu, Df K mg x st pl ad fu :=
  ⟨f, _, fun_mk l c k, PySem.W.mg_of X G a, b (fun_mk l c k)⟩
theorem gc_mk {v : V} {u : Value} (X : K.In h) (G : h.Ns mainGlobals mg) (a : PySem.W.nsIn K mainGlobals x = some (some u)) (r : RelV v u) : Gc mg x v := ⟨u, PySem.W.mg_of X G a, r⟩
theorem sqT_mk {xs : List V} {od : Option Addr} {its : Array Value} {n : Nat} {sl : Array (Option Value)} (l : K.lookup f = some ⟨.type "tuple", od, .seq its n, sl⟩) (z : its.size ≤ 1000) (v : Vals xs its.toList) : ∀ H, SqT K H f xs :=
  fun H => .inr ⟨_, its, n, l, rfl, rfl, sz (Nat.le_trans z (by decide)), v⟩
/-- a written dict's entries -/
def Ents (P : Params) : List DictEntry → List (Str × Int) → Prop
  | [], [] => True
  | e :: r, q :: m => (∃ t t2, e.key = .str q.1 t ∧ e.hash = PyData.keyHash P q.1 ∧ e.val = .int q.2 t2) ∧ Ents P r m
  | _, _ => False
theorem ents_lit {P : Params} : ∀ {es : List DictEntry} {m : List (Str × Int)}, Ents P es m → PySem.W.KeysLit P es
  | [], _, _ => trivial
  | _ :: _, _ :: _, ⟨⟨t, _, a, b, _⟩, r⟩ => ⟨⟨_, t, a, b⟩, ents_lit r⟩
  | _ :: _, [], h => h.elim
theorem ents_find {P : Params} (z : Str) : ∀ {es : List DictEntry} {m : List (Str × Int)}, Ents P es m → (es.any (·.refKey) = false) ∧ (m.lookup z = none → es.find? (·.key.isStr z) = none) ∧ ∀ i, m.lookup z = some i → ∃ e t, es.find? (·.key.isStr z) = some e ∧ e.val = .int i t
  | [], [], _ => ⟨rfl, fun _ => rfl, fun i h => nomatch h⟩
  | e :: r, q :: m, ⟨⟨t, t2, a, _, b⟩, h⟩ => by
    obtain ⟨i1, i2, i3⟩ := ents_find z h
    obtain ⟨k, n⟩ := q
    have er : e.refKey = false := by unfold DictEntry.refKey; rw [a]
    refine ⟨by rw [List.any_cons, er, i1]; rfl, ?_⟩
    rw [List.lookup_cons]
    by_cases hz : z = k
    · subst hz
      have ek : e.key.isStr z = true := by rw [a]; simp [Value.isStr]
      simp only [beq_self_eq_true]
      refine ⟨(fun y => nomatch y), fun i y => ⟨e, t2, by rw [List.find?_cons, ek], ?_⟩⟩
      have : n = i := Option.some.inj y
      rw [b, this]
    · have ek : e.key.isStr z = false := by rw [a]; simp [Value.isStr]; exact fun y => hz y.symm
      have ez : (z == k) = false := by simpa using hz
      rw [ez, List.find?_cons, ek]
      exact ⟨i2, i3⟩
  | [], _ :: _, h => h.elim
  | _ :: _, [], h => h.elim
theorem kd_mk {m : List (Str × Int)} {es : Array DictEntry} {n : Nat} (l : K.lookup f = some ⟨.type "dict", none, .dict es n, #[]⟩) (e : Ents w.params es.toList m) (lo : (f == sysModules) = false) : (∃ es n, KDict K w f es n) ∧ KdInts K f m := by
  refine ⟨⟨es, n, l, ents_lit e, lo⟩, fun z => ?_⟩
  obtain ⟨h1, h2, h3⟩ := ents_find z e
  unfold PySem.W.nsIn
  rw [l]
  dsimp only
  cases q : m.lookup z with
  | none =>
    rw [h2 q]
    dsimp only
    rw [h1]
    exact ⟨none, rfl, (fun _ => rfl), fun i y => by cases y⟩
  | some i =>
    obtain ⟨e, t, e1, e2⟩ := h3 i q
    rw [e1]
    exact ⟨some e.val, rfl, (fun y => nomatch y), fun j y => ⟨t, by rw [e2, Option.some.inj y]⟩⟩
end
end Sf
namespace Sf
open PySem PySem.Spec PyProof.Rows L2
theorem kit_mk {K : PySem.W.Frag} {a b : Addr} {v : Bool} (ne : (Value.ref a == Value.ref b) = false) (c : PySem.W.isClsIn K b = true) (t : PySem.W.typeIn K (.ref b) = some (.type "type")) (s : PySem.W.subIn K (.ref a) (.ref b) = some v) : PySem.W.kitOne K (.ref a) (.ref b) = some v := by
  have c2 : (PySem.W.clsIn K b).isSome = true := c
  have e : ((PySem.W.clsIn K b).isSome && PySem.W.typeIn K (.ref b) == some (.type "type")) = true := by rw [c2, t]; rfl
  unfold PySem.W.kitOne
  rw [ne, if_neg Bool.false_ne_true]
  show (if ((PySem.W.clsIn K b).isSome && PySem.W.typeIn K (.ref b) == some (.type "type")) = true then PySem.W.subIn K (.ref a) (.ref b) else none) = some v
  rw [if_pos e]
  exact s
end Sf
namespace K92
open PySem PySem.Spec PyProof.Rows L2 Sf
theorem cls_mk {K : PySem.W.Frag} {h : Heap} {mg : Str → Option Value} {c20 c21 c22 c23 c24 c25 f2000 f2001 f2002 f2003 f2004 f2005 f2006 f2007 f2008 : Addr} {oc2000 kV2000 dc2000 pm2000 cd2000 ct2000 : Value} {od2000 an2000 : Option Addr} {sl2000 : Array (Option Value)} {oc2001 kV2001 dc2001 pm2001 cd2001 ct2001 : Value} {od2001 an2001 : Option Addr} {sl2001 : Array (Option Value)} {oc2002 kV2002 dc2002 pm2002 cd2002 ct2002 : Value} {od2002 an2002 : Option Addr} {sl2002 : Array (Option Value)} {oc2003 kV2003 dc2003 pm2003 cd2003 ct2003 : Value} {od2003 an2003 : Option Addr} {sl2003 : Array (Option Value)} {oc2004 kV2004 dc2004 pm2004 cd2004 ct2004 : Value} {od2004 an2004 : Option Addr} {sl2004 : Array (Option Value)} {oc2005 kV2005 dc2005 pm2005 cd2005 ct2005 : Value} {od2005 an2005 : Option Addr} {sl2005 : Array (Option Value)} {oc2006 kV2006 dc2006 pm2006 cd2006 ct2006 : Value} {od2006 an2006 : Option Addr} {sl2006 : Array (Option Value)} {oc2007 kV2007 dc2007 pm2007 cd2007 ct2007 : Value} {od2007 an2007 : Option Addr} {sl2007 : Array (Option Value)} {oc2008 kV2008 dc2008 pm2008 cd2008 ct2008 : Value} {od2008 an2008 : Option Addr} {sl2008 : Array (Option Value)} (X : K.In h) (G : h.Ns mainGlobals mg)
    (a20 : PySem.W.nsIn K mainGlobals "Window" = some (some (.ref c20)))
    (pg20 : PySem.W.plainGet K c20 Str.empty = true)
    (po20 : PySem.W.plainOver K c20 = true)
    (hd20 : PySem.W.hasDictIn K c20 = true)
    (sa20 : PySem.W.findIn K (.ref c20) "__setattr__" = some (some (.builtin "object.__setattr__")))
    (mk20 : PySem.W.makesIn K c20 = true)
    (kp20 : PySem.W.keepIn K (.ref c20) = true)
    (n20table : PySem.W.findIn K (.ref c20) "table" = some none)
    (n20front : PySem.W.findIn K (.ref c20) "front" = some none)
    (n20back : PySem.W.findIn K (.ref c20) "back" = some none)
    (n20behind : PySem.W.findIn K (.ref c20) "behind" = some none)
    (n20many : PySem.W.findIn K (.ref c20) "many" = some none)
    (a21 : PySem.W.nsIn K mainGlobals "ScarpError" = some (some (.ref c21)))
    (a22 : PySem.W.nsIn K mainGlobals "NotAllowed" = some (some (.ref c22)))
    (a23 : PySem.W.nsIn K mainGlobals "TooLarge" = some (some (.ref c23)))
    (a24 : PySem.W.nsIn K mainGlobals "Missing" = some (some (.ref c24)))
    (a25 : PySem.W.nsIn K mainGlobals "BadPaper" = some (some (.ref c25)))
    (m2000 : PySem.W.findIn K (.ref c20) "__init__" = some (some (.ref f2000)))
    (i2000 : PySem.W.isFn K (.ref f2000) = true)
    (l2000 : K.lookup f2000 = some ⟨oc2000, od2000, .func (PySem.W.fnOf "__init__" "Window.__init__" (defArgs (L2.inClass (K92.topS 10) 0)) (defBody (L2.inClass (K92.topS 10) 0)) (defScope (L2.inClass (K92.topS 10) 0)) .none kV2000 dc2000 pm2000 an2000 cd2000 ct2000), sl2000⟩)
    (q2000 : PySem.W.codeIn K cd2000 "Window.__init__" = true)
    (k2000 : PySem.W.keepIn K (.ref f2000) = true)
    (m2001 : PySem.W.findIn K (.ref c20) "product" = some (some (.ref f2001)))
    (i2001 : PySem.W.isFn K (.ref f2001) = true)
    (l2001 : K.lookup f2001 = some ⟨oc2001, od2001, .func (PySem.W.fnOf "product" "Window.product" (defArgs (L2.inClass (K92.topS 10) 1)) (defBody (L2.inClass (K92.topS 10) 1)) (defScope (L2.inClass (K92.topS 10) 1)) .none kV2001 dc2001 pm2001 an2001 cd2001 ct2001), sl2001⟩)
    (q2001 : PySem.W.codeIn K cd2001 "Window.product" = true)
    (k2001 : PySem.W.keepIn K (.ref f2001) = true)
    (m2002 : PySem.W.findIn K (.ref c20) "push" = some (some (.ref f2002)))
    (i2002 : PySem.W.isFn K (.ref f2002) = true)
    (l2002 : K.lookup f2002 = some ⟨oc2002, od2002, .func (PySem.W.fnOf "push" "Window.push" (defArgs (L2.inClass (K92.topS 10) 2)) (defBody (L2.inClass (K92.topS 10) 2)) (defScope (L2.inClass (K92.topS 10) 2)) .none kV2002 dc2002 pm2002 an2002 cd2002 ct2002), sl2002⟩)
    (q2002 : PySem.W.codeIn K cd2002 "Window.push" = true)
    (k2002 : PySem.W.keepIn K (.ref f2002) = true)
    (m2003 : PySem.W.findIn K (.ref c20) "pop" = some (some (.ref f2003)))
    (i2003 : PySem.W.isFn K (.ref f2003) = true)
    (l2003 : K.lookup f2003 = some ⟨oc2003, od2003, .func (PySem.W.fnOf "pop" "Window.pop" (defArgs (L2.inClass (K92.topS 10) 3)) (defBody (L2.inClass (K92.topS 10) 3)) (defScope (L2.inClass (K92.topS 10) 3)) .none kV2003 dc2003 pm2003 an2003 cd2003 ct2003), sl2003⟩)
    (q2003 : PySem.W.codeIn K cd2003 "Window.pop" = true)
    (k2003 : PySem.W.keepIn K (.ref f2003) = true)
    (m2004 : PySem.W.findIn K (.ref c20) "turn" = some (some (.ref f2004)))
    (i2004 : PySem.W.isFn K (.ref f2004) = true)
    (l2004 : K.lookup f2004 = some ⟨oc2004, od2004, .func (PySem.W.fnOf "turn" "Window.turn" (defArgs (L2.inClass (K92.topS 10) 4)) (defBody (L2.inClass (K92.topS 10) 4)) (defScope (L2.inClass (K92.topS 10) 4)) .none kV2004 dc2004 pm2004 an2004 cd2004 ct2004), sl2004⟩)
    (q2004 : PySem.W.codeIn K cd2004 "Window.turn" = true)
    (k2004 : PySem.W.keepIn K (.ref f2004) = true)
    (m2005 : PySem.W.findIn K (.ref c20) "value" = some (some (.ref f2005)))
    (i2005 : PySem.W.isFn K (.ref f2005) = true)
    (l2005 : K.lookup f2005 = some ⟨oc2005, od2005, .func (PySem.W.fnOf "value" "Window.value" (defArgs (L2.inClass (K92.topS 10) 5)) (defBody (L2.inClass (K92.topS 10) 5)) (defScope (L2.inClass (K92.topS 10) 5)) .none kV2005 dc2005 pm2005 an2005 cd2005 ct2005), sl2005⟩)
    (q2005 : PySem.W.codeIn K cd2005 "Window.value" = true)
    (k2005 : PySem.W.keepIn K (.ref f2005) = true)
    (m2006 : PySem.W.findIn K (.ref c20) "letters" = some (some (.ref f2006)))
    (i2006 : PySem.W.isFn K (.ref f2006) = true)
    (l2006 : K.lookup f2006 = some ⟨oc2006, od2006, .func (PySem.W.fnOf "letters" "Window.letters" (defArgs (L2.inClass (K92.topS 10) 6)) (defBody (L2.inClass (K92.topS 10) 6)) (defScope (L2.inClass (K92.topS 10) 6)) .none kV2006 dc2006 pm2006 an2006 cd2006 ct2006), sl2006⟩)
    (q2006 : PySem.W.codeIn K cd2006 "Window.letters" = true)
    (k2006 : PySem.W.keepIn K (.ref f2006) = true)
    (m2007 : PySem.W.findIn K (.ref c20) "stored" = some (some (.ref f2007)))
    (i2007 : PySem.W.isFn K (.ref f2007) = true)
    (l2007 : K.lookup f2007 = some ⟨oc2007, od2007, .func (PySem.W.fnOf "stored" "Window.stored" (defArgs (L2.inClass (K92.topS 10) 7)) (defBody (L2.inClass (K92.topS 10) 7)) (defScope (L2.inClass (K92.topS 10) 7)) .none kV2007 dc2007 pm2007 an2007 cd2007 ct2007), sl2007⟩)
    (q2007 : PySem.W.codeIn K cd2007 "Window.stored" = true)
    (k2007 : PySem.W.keepIn K (.ref f2007) = true)
    (m2008 : PySem.W.findIn K (.ref c20) "made" = some (some (.ref f2008)))
    (i2008 : PySem.W.isFn K (.ref f2008) = true)
    (l2008 : K.lookup f2008 = some ⟨oc2008, od2008, .func (PySem.W.fnOf "made" "Window.made" (defArgs (L2.inClass (K92.topS 10) 8)) (defBody (L2.inClass (K92.topS 10) 8)) (defScope (L2.inClass (K92.topS 10) 8)) .none kV2008 dc2008 pm2008 an2008 cd2008 ct2008), sl2008⟩)
    (q2008 : PySem.W.codeIn K cd2008 "Window.made" = true)
    (k2008 : PySem.W.keepIn K (.ref f2008) = true)
    (x22 : PySem.W.excIn K c22 [.type "ValueError", .type "Exception", .type "BaseException", .type "object"] "ValueError.__new__" = true)
    (kp22 : PySem.W.keepIn K (.ref c22) = true)
    (bb22 : PySem.W.subIn K (.ref c22) (.type "BaseException") = some true)
    (ty22 : PySem.W.typeIn K (.ref c22) = some (.type "type"))
    (hd22 : PySem.W.hasDictIn K c22 = true)
    (ga22 : PySem.W.findIn K (.ref c22) "__getattribute__" = some (some (.builtin "BaseException.__getattribute__")))
    (gt22 : PySem.W.findIn K (.ref c22) "__getattr__" = some none)
    (cc22 : PySem.W.findIn K (.ref c22) "__class__" = some (some (.builtin "object.__class__")))
    (sp0 : PySem.W.specialIn K (.builtin "object.__class__") "__get__" = some (some (.builtin "getset_descriptor.__get__")))
    (tk0 : PySem.W.takesIn K (.builtin "object.__class__") = some true)
    (mo22 : PySem.W.mroIn K c22 (.type "object") = some true)
    (x24 : PySem.W.excIn K c24 [.type "ValueError", .type "Exception", .type "BaseException", .type "object"] "ValueError.__new__" = true)
    (kp24 : PySem.W.keepIn K (.ref c24) = true)
    (bb24 : PySem.W.subIn K (.ref c24) (.type "BaseException") = some true)
    (ty24 : PySem.W.typeIn K (.ref c24) = some (.type "type"))
    (hd24 : PySem.W.hasDictIn K c24 = true)
    (ga24 : PySem.W.findIn K (.ref c24) "__getattribute__" = some (some (.builtin "BaseException.__getattribute__")))
    (gt24 : PySem.W.findIn K (.ref c24) "__getattr__" = some none)
    (cc24 : PySem.W.findIn K (.ref c24) "__class__" = some (some (.builtin "object.__class__")))
    (mo24 : PySem.W.mroIn K c24 (.type "object") = some true)
    (su24_24 : PySem.W.subIn K (.ref c24) (.ref c24) = some true)
    (su22_24 : PySem.W.subIn K (.ref c22) (.ref c24) = some false)
    (su22_22 : PySem.W.subIn K (.ref c22) (.ref c22) = some true)
    (su24_21 : PySem.W.subIn K (.ref c24) (.ref c21) = some true)
    (is21 : PySem.W.isClsIn K c21 = true)
    (ty21 : PySem.W.typeIn K (.ref c21) = some (.type "type"))
    (ne24_21 : (Value.ref c24 == Value.ref c21) = false)
    (su24_22 : PySem.W.subIn K (.ref c24) (.ref c22) = some false)
    (is22 : PySem.W.isClsIn K c22 = true)
    (ne24_22 : (Value.ref c24 == Value.ref c22) = false)
    (su24_25 : PySem.W.subIn K (.ref c24) (.ref c25) = some false)
    (is25 : PySem.W.isClsIn K c25 = true)
    (ty25 : PySem.W.typeIn K (.ref c25) = some (.type "type"))
    (ne24_25 : (Value.ref c24 == Value.ref c25) = false)
    (su24_23 : PySem.W.subIn K (.ref c24) (.ref c23) = some false)
    (is23 : PySem.W.isClsIn K c23 = true)
    (ty23 : PySem.W.typeIn K (.ref c23) = some (.type "type"))
    (ne24_23 : (Value.ref c24 == Value.ref c23) = false)
    (su22_21 : PySem.W.subIn K (.ref c22) (.ref c21) = some true)
    (ne22_21 : (Value.ref c22 == Value.ref c21) = false)
    (is24 : PySem.W.isClsIn K c24 = true)
    (ne22_24 : (Value.ref c22 == Value.ref c24) = false)
    (su22_25 : PySem.W.subIn K (.ref c22) (.ref c25) = some false)
    (ne22_25 : (Value.ref c22 == Value.ref c25) = false)
    (su22_23 : PySem.W.subIn K (.ref c22) (.ref c23) = some false)
    (ne22_23 : (Value.ref c22 == Value.ref c23) = false) :
    ∃ (c20 c21 c22 c23 c24 c25 f2000 f2001 f2002 f2003 f2004 f2005 f2006 f2007 f2008 : Addr) (d2000 d2001 d2002 d2003 d2004 d2005 d2006 d2007 d2008 : FuncData), mg "Window" = some (.ref c20) ∧ Cls K c20 ∧ NoAttr K c20 "table" ∧ NoAttr K c20 "front" ∧ NoAttr K c20 "back" ∧ NoAttr K c20 "behind" ∧ NoAttr K c20 "many" ∧ mg "ScarpError" = some (.ref c21) ∧ mg "NotAllowed" = some (.ref c22) ∧ mg "TooLarge" = some (.ref c23) ∧ mg "Missing" = some (.ref c24) ∧ mg "BadPaper" = some (.ref c25) ∧ Fun K "__init__" "Window.__init__" (L2.inClass (K92.topS 10) 0) f2000 d2000 ∧ Binds K d2000 ["self", "table"] [] ∧ Mk K c20 f2000 ∧ Fun K "product" "Window.product" (L2.inClass (K92.topS 10) 1) f2001 d2001 ∧ Binds K d2001 ["self", "first", "second"] [] ∧ Meth K c20 "product" f2001 ∧ Fun K "push" "Window.push" (L2.inClass (K92.topS 10) 2) f2002 d2002 ∧ Binds K d2002 ["self", "letter"] [] ∧ Meth K c20 "push" f2002 ∧ Fun K "pop" "Window.pop" (L2.inClass (K92.topS 10) 3) f2003 d2003 ∧ Binds K d2003 ["self"] [] ∧ Meth K c20 "pop" f2003 ∧ Fun K "turn" "Window.turn" (L2.inClass (K92.topS 10) 4) f2004 d2004 ∧ Binds K d2004 ["self"] [] ∧ Meth K c20 "turn" f2004 ∧ Fun K "value" "Window.value" (L2.inClass (K92.topS 10) 5) f2005 d2005 ∧ Binds K d2005 ["self"] [] ∧ Meth K c20 "value" f2005 ∧ Fun K "letters" "Window.letters" (L2.inClass (K92.topS 10) 6) f2006 d2006 ∧ Binds K d2006 ["self"] [] ∧ Meth K c20 "letters" f2006 ∧ Fun K "stored" "Window.stored" (L2.inClass (K92.topS 10) 7) f2007 d2007 ∧ Binds K d2007 ["self"] [] ∧ Meth K c20 "stored" f2007 ∧ Fun K "made" "Window.made" (L2.inClass (K92.topS 10) 8) f2008 d2008 ∧ Binds K d2008 ["self"] [] ∧ Meth K c20 "made" f2008 ∧ PySem.W.excIn K c22 [.type "ValueError", .type "Exception", .type "BaseException", .type "object"] "ValueError.__new__" = true ∧ PySem.W.keepIn K (.ref c22) = true ∧ PySem.W.subIn K (.ref c22) (.type "BaseException") = some true ∧ PySem.W.typeIn K (.ref c22) = some (.type "type") ∧ ExcC K c22 ∧ PySem.W.excIn K c24 [.type "ValueError", .type "Exception", .type "BaseException", .type "object"] "ValueError.__new__" = true ∧ PySem.W.keepIn K (.ref c24) = true ∧ PySem.W.subIn K (.ref c24) (.type "BaseException") = some true ∧ PySem.W.typeIn K (.ref c24) = some (.type "type") ∧ ExcC K c24 ∧ PySem.W.exmOne K (.ref c24) (.ref c24) = some true ∧ PySem.W.exmOne K (.ref c22) (.ref c24) = some false ∧ PySem.W.exmOne K (.ref c22) (.ref c22) = some true ∧ PySem.W.kitOne K (.ref c24) (.ref c21) = some true ∧ PySem.W.kitOne K (.ref c24) (.ref c22) = some false ∧ PySem.W.kitOne K (.ref c24) (.ref c25) = some false ∧ PySem.W.kitOne K (.ref c24) (.ref c23) = some false ∧ PySem.W.kitOne K (.ref c22) (.ref c21) = some true ∧ PySem.W.kitOne K (.ref c22) (.ref c24) = some false ∧ PySem.W.kitOne K (.ref c22) (.ref c25) = some false ∧ PySem.W.kitOne K (.ref c22) (.ref c23) = some false :=
  ⟨c20, c21, c22, c23, c24, c25, f2000, f2001, f2002, f2003, f2004, f2005, f2006, f2007, f2008, _, _, _, _, _, _, _, _, _, PySem.W.mg_of X G a20,
    ⟨pg20, hd20, po20, sa20⟩,
    n20table,
    n20front,
    n20back,
    n20behind,
    n20many,
    PySem.W.mg_of X G a21,
    PySem.W.mg_of X G a22,
    PySem.W.mg_of X G a23,
    PySem.W.mg_of X G a24,
    PySem.W.mg_of X G a25,
    fun_mk l2000 q2000 k2000,
    L2.Fun.binds (ps := ["self", "table"]) (fun_mk (st := (L2.inClass (K92.topS 10) 0)) l2000 q2000 k2000) fun _ _ _ _ _ _ us hl => match us, hl with | [_, _], _ => rfl,
    ⟨mk20, m2000, i2000, kp20⟩,
    fun_mk l2001 q2001 k2001,
    L2.Fun.binds (ps := ["self", "first", "second"]) (fun_mk (st := (L2.inClass (K92.topS 10) 1)) l2001 q2001 k2001) fun _ _ _ _ _ _ us hl => match us, hl with | [_, _, _], _ => rfl,
    ⟨m2001, i2001, k2001⟩,
    fun_mk l2002 q2002 k2002,
    L2.Fun.binds (ps := ["self", "letter"]) (fun_mk (st := (L2.inClass (K92.topS 10) 2)) l2002 q2002 k2002) fun _ _ _ _ _ _ us hl => match us, hl with | [_, _], _ => rfl,
    ⟨m2002, i2002, k2002⟩,
    fun_mk l2003 q2003 k2003,
    L2.Fun.binds (ps := ["self"]) (fun_mk (st := (L2.inClass (K92.topS 10) 3)) l2003 q2003 k2003) fun _ _ _ _ _ _ us hl => match us, hl with | [_], _ => rfl,
    ⟨m2003, i2003, k2003⟩,
    fun_mk l2004 q2004 k2004,
    L2.Fun.binds (ps := ["self"]) (fun_mk (st := (L2.inClass (K92.topS 10) 4)) l2004 q2004 k2004) fun _ _ _ _ _ _ us hl => match us, hl with | [_], _ => rfl,
    ⟨m2004, i2004, k2004⟩,
    fun_mk l2005 q2005 k2005,
    L2.Fun.binds (ps := ["self"]) (fun_mk (st := (L2.inClass (K92.topS 10) 5)) l2005 q2005 k2005) fun _ _ _ _ _ _ us hl => match us, hl with | [_], _ => rfl,
    ⟨m2005, i2005, k2005⟩,
    fun_mk l2006 q2006 k2006,
    L2.Fun.binds (ps := ["self"]) (fun_mk (st := (L2.inClass (K92.topS 10) 6)) l2006 q2006 k2006) fun _ _ _ _ _ _ us hl => match us, hl with | [_], _ => rfl,
    ⟨m2006, i2006, k2006⟩,
    fun_mk l2007 q2007 k2007,
    L2.Fun.binds (ps := ["self"]) (fun_mk (st := (L2.inClass (K92.topS 10) 7)) l2007 q2007 k2007) fun _ _ _ _ _ _ us hl => match us, hl with | [_], _ => rfl,
    ⟨m2007, i2007, k2007⟩,
    fun_mk l2008 q2008 k2008,
    L2.Fun.binds (ps := ["self"]) (fun_mk (st := (L2.inClass (K92.topS 10) 8)) l2008 q2008 k2008) fun _ _ _ _ _ _ us hl => match us, hl with | [_], _ => rfl,
    ⟨m2008, i2008, k2008⟩,
    x22,
    kp22,
    bb22,
    ty22,
    ⟨ga22, gt22, bb22, hd22, cc22, sp0, tk0, mo22⟩,
    x24,
    kp24,
    bb24,
    ty24,
    ⟨ga24, gt24, bb24, hd24, cc24, sp0, tk0, mo24⟩,
    PySem.W.exm_ref bb24 hd24 ty24 su24_24,
    PySem.W.exm_ref bb24 hd24 ty24 su22_24,
    PySem.W.exm_ref bb22 hd22 ty22 su22_22,
    Sf.kit_mk ne24_21 is21 ty21 su24_21,
    Sf.kit_mk ne24_22 is22 ty22 su24_22,
    Sf.kit_mk ne24_25 is25 ty25 su24_25,
    Sf.kit_mk ne24_23 is23 ty23 su24_23,
    Sf.kit_mk ne22_21 is21 ty21 su22_21,
    Sf.kit_mk ne22_24 is24 ty24 su22_24,
    Sf.kit_mk ne22_25 is25 ty25 su22_25,
    Sf.kit_mk ne22_23 is23 ty23 su22_23⟩
end K92
namespace K92
open PySem PySem.Spec PyProof.Rows L2 Sf
section
variable {P : Program} {w : World} {K : PySem.W.Frag} {mg : Str → Option Value} {base : Heap} {ad : Nat → Addr} {fu : Nat → FuncData} {ca : Nat → Addr}
theorem law_ok (T : Tx w K mg ad fu ca) : FnG P w K mg base CX0 7 (ad 30) (fu 30) ["script"] (sp_law K ca) := by
  have W : WT K ca := ⟨T.c_Window, T.n_Window_table, T.n_Window_front, T.n_Window_back, T.n_Window_behind, T.n_Window_many⟩
  have XFs : XF K ca := ⟨T.em_Missing_Missing, T.em_NotAllowed_Missing, T.em_NotAllowed_NotAllowed, T.ki_Missing_ScarpError, T.ki_Missing_NotAllowed, T.ki_Missing_BadPaper, T.ki_Missing_TooLarge, T.ki_NotAllowed_ScarpError, T.ki_NotAllowed_Missing, T.ki_NotAllowed_BadPaper, T.ki_NotAllowed_TooLarge⟩
  have F_times : FnOk P w K mg base CX0 1 (ad 7) (fu 7) ["table", "first", "second"] (sp_times K ca) := okP T.d_times.F sc_times (fun a b c d h => by first | (obtain ⟨_, rfl, _⟩ := h; rfl) | (obtain ⟨_, _, rfl, _⟩ := h; rfl) | (obtain ⟨_, _, _, rfl, _⟩ := h; rfl) | (obtain ⟨_, _, _, _, rfl, _⟩ := h; rfl) | (obtain ⟨_, _, _, _, _, rfl, _⟩ := h; rfl) | (obtain ⟨_, _, _, _, _, _, rfl, _⟩ := h; rfl) | (obtain ⟨_, _, _, _, _, _, _, rfl, _⟩ := h; rfl) | (obtain ⟨_, _, _, _, _, _, _, _, rfl, _⟩ := h; rfl) | (obtain ⟨_, _, _, _, _, _, _, _, _, rfl, _⟩ := h; rfl) | (obtain ⟨_, _, _, _, _, _, _, _, _, _, rfl, _⟩ := h; rfl) | (obtain ⟨_, _, _, _, _, _, _, _, _, _, _, rfl, _⟩ := h; rfl) | (obtain ⟨_, _, _, _, _, _, _, _, _, _, _, _, rfl, _⟩ := h; rfl) | (rcases h with ⟨_, _, _, _, _, _, _, _, rfl, _⟩ | ⟨_, _, _, _, _, _, _, _, rfl, _⟩ | ⟨_, _, _, rfl, _⟩ <;> rfl)) (body_times T) (pure_times)
  have F_Window_init : FnOk P w K mg base CX0 1 (ad 2000) (fu 2000) ["self", "table"] (sp_Window_init K ca) := okP T.d_Window_init sc_Window_init (fun a b c d h => by first | (obtain ⟨_, rfl, _⟩ := h; rfl) | (obtain ⟨_, _, rfl, _⟩ := h; rfl) | (obtain ⟨_, _, _, rfl, _⟩ := h; rfl) | (obtain ⟨_, _, _, _, rfl, _⟩ := h; rfl) | (obtain ⟨_, _, _, _, _, rfl, _⟩ := h; rfl) | (obtain ⟨_, _, _, _, _, _, rfl, _⟩ := h; rfl) | (obtain ⟨_, _, _, _, _, _, _, rfl, _⟩ := h; rfl) | (obtain ⟨_, _, _, _, _, _, _, _, rfl, _⟩ := h; rfl) | (obtain ⟨_, _, _, _, _, _, _, _, _, rfl, _⟩ := h; rfl) | (obtain ⟨_, _, _, _, _, _, _, _, _, _, rfl, _⟩ := h; rfl) | (obtain ⟨_, _, _, _, _, _, _, _, _, _, _, rfl, _⟩ := h; rfl) | (obtain ⟨_, _, _, _, _, _, _, _, _, _, _, _, rfl, _⟩ := h; rfl) | (rcases h with ⟨_, _, _, _, _, _, _, _, rfl, _⟩ | ⟨_, _, _, _, _, _, _, _, rfl, _⟩ | ⟨_, _, _, rfl, _⟩ <;> rfl)) (body_Window_init T) (pure_Window_init W)
  have F_Window_product : FnOk P w K mg base CX0 2 (ad 2001) (fu 2001) ["self", "first", "second"] (sp_Window_product K ca) := okP T.d_Window_product sc_Window_product (fun a b c d h => by first | (obtain ⟨_, rfl, _⟩ := h; rfl) | (obtain ⟨_, _, rfl, _⟩ := h; rfl) | (obtain ⟨_, _, _, rfl, _⟩ := h; rfl) | (obtain ⟨_, _, _, _, rfl, _⟩ := h; rfl) | (obtain ⟨_, _, _, _, _, rfl, _⟩ := h; rfl) | (obtain ⟨_, _, _, _, _, _, rfl, _⟩ := h; rfl) | (obtain ⟨_, _, _, _, _, _, _, rfl, _⟩ := h; rfl) | (obtain ⟨_, _, _, _, _, _, _, _, rfl, _⟩ := h; rfl) | (obtain ⟨_, _, _, _, _, _, _, _, _, rfl, _⟩ := h; rfl) | (obtain ⟨_, _, _, _, _, _, _, _, _, _, rfl, _⟩ := h; rfl) | (obtain ⟨_, _, _, _, _, _, _, _, _, _, _, rfl, _⟩ := h; rfl) | (obtain ⟨_, _, _, _, _, _, _, _, _, _, _, _, rfl, _⟩ := h; rfl) | (rcases h with ⟨_, _, _, _, _, _, _, _, rfl, _⟩ | ⟨_, _, _, _, _, _, _, _, rfl, _⟩ | ⟨_, _, _, rfl, _⟩ <;> rfl)) (body_Window_product T F_times) (pure_Window_product W)
  have F_Window_push : FnOk P w K mg base (L2.CX P w) 3 (ad 2002) (fu 2002) ["self", "letter"] (sp_Window_push K ca) := okX T.d_Window_push sc_Window_push (fun a b c d h => by first | (obtain ⟨_, rfl, _⟩ := h; rfl) | (obtain ⟨_, _, rfl, _⟩ := h; rfl) | (obtain ⟨_, _, _, rfl, _⟩ := h; rfl) | (obtain ⟨_, _, _, _, rfl, _⟩ := h; rfl) | (obtain ⟨_, _, _, _, _, rfl, _⟩ := h; rfl) | (obtain ⟨_, _, _, _, _, _, rfl, _⟩ := h; rfl) | (obtain ⟨_, _, _, _, _, _, _, rfl, _⟩ := h; rfl) | (obtain ⟨_, _, _, _, _, _, _, _, rfl, _⟩ := h; rfl) | (obtain ⟨_, _, _, _, _, _, _, _, _, rfl, _⟩ := h; rfl) | (obtain ⟨_, _, _, _, _, _, _, _, _, _, rfl, _⟩ := h; rfl) | (obtain ⟨_, _, _, _, _, _, _, _, _, _, _, rfl, _⟩ := h; rfl) | (obtain ⟨_, _, _, _, _, _, _, _, _, _, _, _, rfl, _⟩ := h; rfl) | (rcases h with ⟨_, _, _, _, _, _, _, _, rfl, _⟩ | ⟨_, _, _, _, _, _, _, _, rfl, _⟩ | ⟨_, _, _, rfl, _⟩ <;> rfl)) (body_Window_push T F_Window_product) (pure_Window_push W)
  have F_Window_turn : FnOk P w K mg base CX0 3 (ad 2004) (fu 2004) ["self"] (sp_Window_turn K ca) := okP T.d_Window_turn sc_Window_turn (fun a b c d h => by first | (obtain ⟨_, rfl, _⟩ := h; rfl) | (obtain ⟨_, _, rfl, _⟩ := h; rfl) | (obtain ⟨_, _, _, rfl, _⟩ := h; rfl) | (obtain ⟨_, _, _, _, rfl, _⟩ := h; rfl) | (obtain ⟨_, _, _, _, _, rfl, _⟩ := h; rfl) | (obtain ⟨_, _, _, _, _, _, rfl, _⟩ := h; rfl) | (obtain ⟨_, _, _, _, _, _, _, rfl, _⟩ := h; rfl) | (obtain ⟨_, _, _, _, _, _, _, _, rfl, _⟩ := h; rfl) | (obtain ⟨_, _, _, _, _, _, _, _, _, rfl, _⟩ := h; rfl) | (obtain ⟨_, _, _, _, _, _, _, _, _, _, rfl, _⟩ := h; rfl) | (obtain ⟨_, _, _, _, _, _, _, _, _, _, _, rfl, _⟩ := h; rfl) | (obtain ⟨_, _, _, _, _, _, _, _, _, _, _, _, rfl, _⟩ := h; rfl) | (rcases h with ⟨_, _, _, _, _, _, _, _, rfl, _⟩ | ⟨_, _, _, _, _, _, _, _, rfl, _⟩ | ⟨_, _, _, rfl, _⟩ <;> rfl)) (body_Window_turn T F_Window_product) (pure_Window_turn W)
  have F_Window_pop : FnOk P w K mg base (L2.CX P w) 4 (ad 2003) (fu 2003) ["self"] (sp_Window_pop K ca) := okX T.d_Window_pop sc_Window_pop (fun a b c d h => by first | (obtain ⟨_, rfl, _⟩ := h; rfl) | (obtain ⟨_, _, rfl, _⟩ := h; rfl) | (obtain ⟨_, _, _, rfl, _⟩ := h; rfl) | (obtain ⟨_, _, _, _, rfl, _⟩ := h; rfl) | (obtain ⟨_, _, _, _, _, rfl, _⟩ := h; rfl) | (obtain ⟨_, _, _, _, _, _, rfl, _⟩ := h; rfl) | (obtain ⟨_, _, _, _, _, _, _, rfl, _⟩ := h; rfl) | (obtain ⟨_, _, _, _, _, _, _, _, rfl, _⟩ := h; rfl) | (obtain ⟨_, _, _, _, _, _, _, _, _, rfl, _⟩ := h; rfl) | (obtain ⟨_, _, _, _, _, _, _, _, _, _, rfl, _⟩ := h; rfl) | (obtain ⟨_, _, _, _, _, _, _, _, _, _, _, rfl, _⟩ := h; rfl) | (obtain ⟨_, _, _, _, _, _, _, _, _, _, _, _, rfl, _⟩ := h; rfl) | (rcases h with ⟨_, _, _, _, _, _, _, _, rfl, _⟩ | ⟨_, _, _, _, _, _, _, _, rfl, _⟩ | ⟨_, _, _, rfl, _⟩ <;> rfl)) (body_Window_pop T F_Window_turn) (pure_Window_pop W)
  have F_Window_value : FnOk P w K mg base CX0 3 (ad 2005) (fu 2005) ["self"] (sp_Window_value K ca) := okP T.d_Window_value sc_Window_value (fun a b c d h => by first | (obtain ⟨_, rfl, _⟩ := h; rfl) | (obtain ⟨_, _, rfl, _⟩ := h; rfl) | (obtain ⟨_, _, _, rfl, _⟩ := h; rfl) | (obtain ⟨_, _, _, _, rfl, _⟩ := h; rfl) | (obtain ⟨_, _, _, _, _, rfl, _⟩ := h; rfl) | (obtain ⟨_, _, _, _, _, _, rfl, _⟩ := h; rfl) | (obtain ⟨_, _, _, _, _, _, _, rfl, _⟩ := h; rfl) | (obtain ⟨_, _, _, _, _, _, _, _, rfl, _⟩ := h; rfl) | (obtain ⟨_, _, _, _, _, _, _, _, _, rfl, _⟩ := h; rfl) | (obtain ⟨_, _, _, _, _, _, _, _, _, _, rfl, _⟩ := h; rfl) | (obtain ⟨_, _, _, _, _, _, _, _, _, _, _, rfl, _⟩ := h; rfl) | (obtain ⟨_, _, _, _, _, _, _, _, _, _, _, _, rfl, _⟩ := h; rfl) | (rcases h with ⟨_, _, _, _, _, _, _, _, rfl, _⟩ | ⟨_, _, _, _, _, _, _, _, rfl, _⟩ | ⟨_, _, _, rfl, _⟩ <;> rfl)) (body_Window_value T F_Window_product) (pure_Window_value W)
  have F_Window_letters : FnOk P w K mg base CX0 1 (ad 2006) (fu 2006) ["self"] (sp_Window_letters K ca) := okP T.d_Window_letters sc_Window_letters (fun a b c d h => by first | (obtain ⟨_, rfl, _⟩ := h; rfl) | (obtain ⟨_, _, rfl, _⟩ := h; rfl) | (obtain ⟨_, _, _, rfl, _⟩ := h; rfl) | (obtain ⟨_, _, _, _, rfl, _⟩ := h; rfl) | (obtain ⟨_, _, _, _, _, rfl, _⟩ := h; rfl) | (obtain ⟨_, _, _, _, _, _, rfl, _⟩ := h; rfl) | (obtain ⟨_, _, _, _, _, _, _, rfl, _⟩ := h; rfl) | (obtain ⟨_, _, _, _, _, _, _, _, rfl, _⟩ := h; rfl) | (obtain ⟨_, _, _, _, _, _, _, _, _, rfl, _⟩ := h; rfl) | (obtain ⟨_, _, _, _, _, _, _, _, _, _, rfl, _⟩ := h; rfl) | (obtain ⟨_, _, _, _, _, _, _, _, _, _, _, rfl, _⟩ := h; rfl) | (obtain ⟨_, _, _, _, _, _, _, _, _, _, _, _, rfl, _⟩ := h; rfl) | (rcases h with ⟨_, _, _, _, _, _, _, _, rfl, _⟩ | ⟨_, _, _, _, _, _, _, _, rfl, _⟩ | ⟨_, _, _, rfl, _⟩ <;> rfl)) (body_Window_letters T) (pure_Window_letters W)
  have F_Window_stored : FnOk P w K mg base CX0 1 (ad 2007) (fu 2007) ["self"] (sp_Window_stored K ca) := okP T.d_Window_stored sc_Window_stored (fun a b c d h => by first | (obtain ⟨_, rfl, _⟩ := h; rfl) | (obtain ⟨_, _, rfl, _⟩ := h; rfl) | (obtain ⟨_, _, _, rfl, _⟩ := h; rfl) | (obtain ⟨_, _, _, _, rfl, _⟩ := h; rfl) | (obtain ⟨_, _, _, _, _, rfl, _⟩ := h; rfl) | (obtain ⟨_, _, _, _, _, _, rfl, _⟩ := h; rfl) | (obtain ⟨_, _, _, _, _, _, _, rfl, _⟩ := h; rfl) | (obtain ⟨_, _, _, _, _, _, _, _, rfl, _⟩ := h; rfl) | (obtain ⟨_, _, _, _, _, _, _, _, _, rfl, _⟩ := h; rfl) | (obtain ⟨_, _, _, _, _, _, _, _, _, _, rfl, _⟩ := h; rfl) | (obtain ⟨_, _, _, _, _, _, _, _, _, _, _, rfl, _⟩ := h; rfl) | (obtain ⟨_, _, _, _, _, _, _, _, _, _, _, _, rfl, _⟩ := h; rfl) | (rcases h with ⟨_, _, _, _, _, _, _, _, rfl, _⟩ | ⟨_, _, _, _, _, _, _, _, rfl, _⟩ | ⟨_, _, _, rfl, _⟩ <;> rfl)) (body_Window_stored T) (pure_Window_stored W)
  have F_Window_made : FnOk P w K mg base CX0 1 (ad 2008) (fu 2008) ["self"] (sp_Window_made K ca) := okP T.d_Window_made sc_Window_made (fun a b c d h => by first | (obtain ⟨_, rfl, _⟩ := h; rfl) | (obtain ⟨_, _, rfl, _⟩ := h; rfl) | (obtain ⟨_, _, _, rfl, _⟩ := h; rfl) | (obtain ⟨_, _, _, _, rfl, _⟩ := h; rfl) | (obtain ⟨_, _, _, _, _, rfl, _⟩ := h; rfl) | (obtain ⟨_, _, _, _, _, _, rfl, _⟩ := h; rfl) | (obtain ⟨_, _, _, _, _, _, _, rfl, _⟩ := h; rfl) | (obtain ⟨_, _, _, _, _, _, _, _, rfl, _⟩ := h; rfl) | (obtain ⟨_, _, _, _, _, _, _, _, _, rfl, _⟩ := h; rfl) | (obtain ⟨_, _, _, _, _, _, _, _, _, _, rfl, _⟩ := h; rfl) | (obtain ⟨_, _, _, _, _, _, _, _, _, _, _, rfl, _⟩ := h; rfl) | (obtain ⟨_, _, _, _, _, _, _, _, _, _, _, _, rfl, _⟩ := h; rfl) | (rcases h with ⟨_, _, _, _, _, _, _, _, rfl, _⟩ | ⟨_, _, _, _, _, _, _, _, rfl, _⟩ | ⟨_, _, _, rfl, _⟩ <;> rfl)) (body_Window_made T) (pure_Window_made W)
  have F_cost_of : FnOk P w K mg base (L2.CX P w) 1 (ad 11) (fu 11) ["moves"] (sp_cost_of K ca) := okX T.d_cost_of.F sc_cost_of (fun a b c d h => by first | (obtain ⟨_, rfl, _⟩ := h; rfl) | (obtain ⟨_, _, rfl, _⟩ := h; rfl) | (obtain ⟨_, _, _, rfl, _⟩ := h; rfl) | (obtain ⟨_, _, _, _, rfl, _⟩ := h; rfl) | (obtain ⟨_, _, _, _, _, rfl, _⟩ := h; rfl) | (obtain ⟨_, _, _, _, _, _, rfl, _⟩ := h; rfl) | (obtain ⟨_, _, _, _, _, _, _, rfl, _⟩ := h; rfl) | (obtain ⟨_, _, _, _, _, _, _, _, rfl, _⟩ := h; rfl) | (obtain ⟨_, _, _, _, _, _, _, _, _, rfl, _⟩ := h; rfl) | (obtain ⟨_, _, _, _, _, _, _, _, _, _, rfl, _⟩ := h; rfl) | (obtain ⟨_, _, _, _, _, _, _, _, _, _, _, rfl, _⟩ := h; rfl) | (obtain ⟨_, _, _, _, _, _, _, _, _, _, _, _, rfl, _⟩ := h; rfl) | (rcases h with ⟨_, _, _, _, _, _, _, _, rfl, _⟩ | ⟨_, _, _, _, _, _, _, _, rfl, _⟩ | ⟨_, _, _, rfl, _⟩ <;> rfl)) (body_cost_of T) (pure_cost_of T.s_MOVES)
  have G_law_stream : FnG P w K mg base CX0 1 (ad 13) (fu 13) ["script"] (sp_law_stream K ca) := ok_fun T.d_law_stream.F sc_law_stream (fun a b c d h => by first | (obtain ⟨_, rfl, _⟩ := h; rfl) | (obtain ⟨_, _, rfl, _⟩ := h; rfl) | (obtain ⟨_, _, _, rfl, _⟩ := h; rfl) | (obtain ⟨_, _, _, _, rfl, _⟩ := h; rfl) | (obtain ⟨_, _, _, _, _, rfl, _⟩ := h; rfl) | (obtain ⟨_, _, _, _, _, _, rfl, _⟩ := h; rfl) | (obtain ⟨_, _, _, _, _, _, _, rfl, _⟩ := h; rfl) | (obtain ⟨_, _, _, _, _, _, _, _, rfl, _⟩ := h; rfl) | (obtain ⟨_, _, _, _, _, _, _, _, _, rfl, _⟩ := h; rfl) | (obtain ⟨_, _, _, _, _, _, _, _, _, _, rfl, _⟩ := h; rfl) | (obtain ⟨_, _, _, _, _, _, _, _, _, _, _, rfl, _⟩ := h; rfl) | (obtain ⟨_, _, _, _, _, _, _, _, _, _, _, _, rfl, _⟩ := h; rfl) | (rcases h with ⟨_, _, _, _, _, _, _, _, rfl, _⟩ | ⟨_, _, _, _, _, _, _, _, rfl, _⟩ | ⟨_, _, _, rfl, _⟩ <;> rfl)) (body_law_stream T) (pure_law_stream)
  have G_law_next : FnG P w K mg base CX0 1 (ad 14) (fu 14) ["state", "many"] (sp_law_next K ca) := ok_fun T.d_law_next.F sc_law_next (fun a b c d h => by first | (obtain ⟨_, rfl, _⟩ := h; rfl) | (obtain ⟨_, _, rfl, _⟩ := h; rfl) | (obtain ⟨_, _, _, rfl, _⟩ := h; rfl) | (obtain ⟨_, _, _, _, rfl, _⟩ := h; rfl) | (obtain ⟨_, _, _, _, _, rfl, _⟩ := h; rfl) | (obtain ⟨_, _, _, _, _, _, rfl, _⟩ := h; rfl) | (obtain ⟨_, _, _, _, _, _, _, rfl, _⟩ := h; rfl) | (obtain ⟨_, _, _, _, _, _, _, _, rfl, _⟩ := h; rfl) | (obtain ⟨_, _, _, _, _, _, _, _, _, rfl, _⟩ := h; rfl) | (obtain ⟨_, _, _, _, _, _, _, _, _, _, rfl, _⟩ := h; rfl) | (obtain ⟨_, _, _, _, _, _, _, _, _, _, _, rfl, _⟩ := h; rfl) | (obtain ⟨_, _, _, _, _, _, _, _, _, _, _, _, rfl, _⟩ := h; rfl) | (rcases h with ⟨_, _, _, _, _, _, _, _, rfl, _⟩ | ⟨_, _, _, _, _, _, _, _, rfl, _⟩ | ⟨_, _, _, rfl, _⟩ <;> rfl)) (body_law_next T) (pure_law_next)
  have G_law_same : FnG P w K mg base CX0 1 (ad 15) (fu 15) ["told", "due"] (sp_law_same K ca) := ok_fun T.d_law_same.F sc_law_same (fun a b c d h => by first | (obtain ⟨_, rfl, _⟩ := h; rfl) | (obtain ⟨_, _, rfl, _⟩ := h; rfl) | (obtain ⟨_, _, _, rfl, _⟩ := h; rfl) | (obtain ⟨_, _, _, _, rfl, _⟩ := h; rfl) | (obtain ⟨_, _, _, _, _, rfl, _⟩ := h; rfl) | (obtain ⟨_, _, _, _, _, _, rfl, _⟩ := h; rfl) | (obtain ⟨_, _, _, _, _, _, _, rfl, _⟩ := h; rfl) | (obtain ⟨_, _, _, _, _, _, _, _, rfl, _⟩ := h; rfl) | (obtain ⟨_, _, _, _, _, _, _, _, _, rfl, _⟩ := h; rfl) | (obtain ⟨_, _, _, _, _, _, _, _, _, _, rfl, _⟩ := h; rfl) | (obtain ⟨_, _, _, _, _, _, _, _, _, _, _, rfl, _⟩ := h; rfl) | (obtain ⟨_, _, _, _, _, _, _, _, _, _, _, _, rfl, _⟩ := h; rfl) | (rcases h with ⟨_, _, _, _, _, _, _, _, rfl, _⟩ | ⟨_, _, _, _, _, _, _, _, rfl, _⟩ | ⟨_, _, _, rfl, _⟩ <;> rfl)) (body_law_same T) (pure_law_same)
  have G_law_word : FnG P w K mg base CX0 2 (ad 16) (fu 16) ["state", "taken"] (sp_law_word K ca) := ok_fun T.d_law_word.F sc_law_word (fun a b c d h => by first | (obtain ⟨_, rfl, _⟩ := h; rfl) | (obtain ⟨_, _, rfl, _⟩ := h; rfl) | (obtain ⟨_, _, _, rfl, _⟩ := h; rfl) | (obtain ⟨_, _, _, _, rfl, _⟩ := h; rfl) | (obtain ⟨_, _, _, _, _, rfl, _⟩ := h; rfl) | (obtain ⟨_, _, _, _, _, _, rfl, _⟩ := h; rfl) | (obtain ⟨_, _, _, _, _, _, _, rfl, _⟩ := h; rfl) | (obtain ⟨_, _, _, _, _, _, _, _, rfl, _⟩ := h; rfl) | (obtain ⟨_, _, _, _, _, _, _, _, _, rfl, _⟩ := h; rfl) | (obtain ⟨_, _, _, _, _, _, _, _, _, _, rfl, _⟩ := h; rfl) | (obtain ⟨_, _, _, _, _, _, _, _, _, _, _, rfl, _⟩ := h; rfl) | (obtain ⟨_, _, _, _, _, _, _, _, _, _, _, _, rfl, _⟩ := h; rfl) | (rcases h with ⟨_, _, _, _, _, _, _, _, rfl, _⟩ | ⟨_, _, _, _, _, _, _, _, rfl, _⟩ | ⟨_, _, _, rfl, _⟩ <;> rfl)) (body_law_word T G_law_next) (pure_law_word)
  have G_law_letters : FnG P w K mg base CX0 3 (ad 17) (fu 17) ["state", "many"] (sp_law_letters K ca) := ok_fun T.d_law_letters.F sc_law_letters (fun a b c d h => by first | (obtain ⟨_, rfl, _⟩ := h; rfl) | (obtain ⟨_, _, rfl, _⟩ := h; rfl) | (obtain ⟨_, _, _, rfl, _⟩ := h; rfl) | (obtain ⟨_, _, _, _, rfl, _⟩ := h; rfl) | (obtain ⟨_, _, _, _, _, rfl, _⟩ := h; rfl) | (obtain ⟨_, _, _, _, _, _, rfl, _⟩ := h; rfl) | (obtain ⟨_, _, _, _, _, _, _, rfl, _⟩ := h; rfl) | (obtain ⟨_, _, _, _, _, _, _, _, rfl, _⟩ := h; rfl) | (obtain ⟨_, _, _, _, _, _, _, _, _, rfl, _⟩ := h; rfl) | (obtain ⟨_, _, _, _, _, _, _, _, _, _, rfl, _⟩ := h; rfl) | (obtain ⟨_, _, _, _, _, _, _, _, _, _, _, rfl, _⟩ := h; rfl) | (obtain ⟨_, _, _, _, _, _, _, _, _, _, _, _, rfl, _⟩ := h; rfl) | (rcases h with ⟨_, _, _, _, _, _, _, _, rfl, _⟩ | ⟨_, _, _, _, _, _, _, _, rfl, _⟩ | ⟨_, _, _, rfl, _⟩ <;> rfl)) (body_law_letters T G_law_word) (pure_law_letters)
  have G_law_map : FnG P w K mg base CX0 2 (ad 18) (fu 18) ["state", "rooms", "kind"] (sp_law_map K ca) := ok_fun T.d_law_map.F sc_law_map (fun a b c d h => by first | (obtain ⟨_, rfl, _⟩ := h; rfl) | (obtain ⟨_, _, rfl, _⟩ := h; rfl) | (obtain ⟨_, _, _, rfl, _⟩ := h; rfl) | (obtain ⟨_, _, _, _, rfl, _⟩ := h; rfl) | (obtain ⟨_, _, _, _, _, rfl, _⟩ := h; rfl) | (obtain ⟨_, _, _, _, _, _, rfl, _⟩ := h; rfl) | (obtain ⟨_, _, _, _, _, _, _, rfl, _⟩ := h; rfl) | (obtain ⟨_, _, _, _, _, _, _, _, rfl, _⟩ := h; rfl) | (obtain ⟨_, _, _, _, _, _, _, _, _, rfl, _⟩ := h; rfl) | (obtain ⟨_, _, _, _, _, _, _, _, _, _, rfl, _⟩ := h; rfl) | (obtain ⟨_, _, _, _, _, _, _, _, _, _, _, rfl, _⟩ := h; rfl) | (obtain ⟨_, _, _, _, _, _, _, _, _, _, _, _, rfl, _⟩ := h; rfl) | (rcases h with ⟨_, _, _, _, _, _, _, _, rfl, _⟩ | ⟨_, _, _, _, _, _, _, _, rfl, _⟩ | ⟨_, _, _, rfl, _⟩ <;> rfl)) (body_law_map T G_law_next) (pure_law_map)
  have G_law_built : FnG P w K mg base CX0 1 (ad 19) (fu 19) ["letters", "maps"] (sp_law_built K ca) := ok_fun T.d_law_built.F sc_law_built (fun a b c d h => by first | (obtain ⟨_, rfl, _⟩ := h; rfl) | (obtain ⟨_, _, rfl, _⟩ := h; rfl) | (obtain ⟨_, _, _, rfl, _⟩ := h; rfl) | (obtain ⟨_, _, _, _, rfl, _⟩ := h; rfl) | (obtain ⟨_, _, _, _, _, rfl, _⟩ := h; rfl) | (obtain ⟨_, _, _, _, _, _, rfl, _⟩ := h; rfl) | (obtain ⟨_, _, _, _, _, _, _, rfl, _⟩ := h; rfl) | (obtain ⟨_, _, _, _, _, _, _, _, rfl, _⟩ := h; rfl) | (obtain ⟨_, _, _, _, _, _, _, _, _, rfl, _⟩ := h; rfl) | (obtain ⟨_, _, _, _, _, _, _, _, _, _, rfl, _⟩ := h; rfl) | (obtain ⟨_, _, _, _, _, _, _, _, _, _, _, rfl, _⟩ := h; rfl) | (obtain ⟨_, _, _, _, _, _, _, _, _, _, _, _, rfl, _⟩ := h; rfl) | (rcases h with ⟨_, _, _, _, _, _, _, _, rfl, _⟩ | ⟨_, _, _, _, _, _, _, _, rfl, _⟩ | ⟨_, _, _, rfl, _⟩ <;> rfl)) (body_law_built T) (pure_law_built)
  have G_law_table : FnG P w K mg base CX0 4 (ad 20) (fu 20) ["state"] (sp_law_table K ca) := ok_fun T.d_law_table.F sc_law_table (fun a b c d h => by first | (obtain ⟨_, rfl, _⟩ := h; rfl) | (obtain ⟨_, _, rfl, _⟩ := h; rfl) | (obtain ⟨_, _, _, rfl, _⟩ := h; rfl) | (obtain ⟨_, _, _, _, rfl, _⟩ := h; rfl) | (obtain ⟨_, _, _, _, _, rfl, _⟩ := h; rfl) | (obtain ⟨_, _, _, _, _, _, rfl, _⟩ := h; rfl) | (obtain ⟨_, _, _, _, _, _, _, rfl, _⟩ := h; rfl) | (obtain ⟨_, _, _, _, _, _, _, _, rfl, _⟩ := h; rfl) | (obtain ⟨_, _, _, _, _, _, _, _, _, rfl, _⟩ := h; rfl) | (obtain ⟨_, _, _, _, _, _, _, _, _, _, rfl, _⟩ := h; rfl) | (obtain ⟨_, _, _, _, _, _, _, _, _, _, _, rfl, _⟩ := h; rfl) | (obtain ⟨_, _, _, _, _, _, _, _, _, _, _, _, rfl, _⟩ := h; rfl) | (rcases h with ⟨_, _, _, _, _, _, _, _, rfl, _⟩ | ⟨_, _, _, _, _, _, _, _, rfl, _⟩ | ⟨_, _, _, rfl, _⟩ <;> rfl)) (body_law_table T G_law_built G_law_letters G_law_map G_law_next) (pure_law_table)
  have G_law_times : FnG P w K mg base CX0 1 (ad 21) (fu 21) ["table", "first", "second"] (sp_law_times K ca) := ok_fun T.d_law_times.F sc_law_times (fun a b c d h => by first | (obtain ⟨_, rfl, _⟩ := h; rfl) | (obtain ⟨_, _, rfl, _⟩ := h; rfl) | (obtain ⟨_, _, _, rfl, _⟩ := h; rfl) | (obtain ⟨_, _, _, _, rfl, _⟩ := h; rfl) | (obtain ⟨_, _, _, _, _, rfl, _⟩ := h; rfl) | (obtain ⟨_, _, _, _, _, _, rfl, _⟩ := h; rfl) | (obtain ⟨_, _, _, _, _, _, _, rfl, _⟩ := h; rfl) | (obtain ⟨_, _, _, _, _, _, _, _, rfl, _⟩ := h; rfl) | (obtain ⟨_, _, _, _, _, _, _, _, _, rfl, _⟩ := h; rfl) | (obtain ⟨_, _, _, _, _, _, _, _, _, _, rfl, _⟩ := h; rfl) | (obtain ⟨_, _, _, _, _, _, _, _, _, _, _, rfl, _⟩ := h; rfl) | (obtain ⟨_, _, _, _, _, _, _, _, _, _, _, _, rfl, _⟩ := h; rfl) | (rcases h with ⟨_, _, _, _, _, _, _, _, rfl, _⟩ | ⟨_, _, _, _, _, _, _, _, rfl, _⟩ | ⟨_, _, _, rfl, _⟩ <;> rfl)) (body_law_times T) (pure_law_times)
  have G_law_value : FnG P w K mg base CX0 2 (ad 22) (fu 22) ["table", "log"] (sp_law_value K ca) := ok_fun T.d_law_value.F sc_law_value (fun a b c d h => by first | (obtain ⟨_, rfl, _⟩ := h; rfl) | (obtain ⟨_, _, rfl, _⟩ := h; rfl) | (obtain ⟨_, _, _, rfl, _⟩ := h; rfl) | (obtain ⟨_, _, _, _, rfl, _⟩ := h; rfl) | (obtain ⟨_, _, _, _, _, rfl, _⟩ := h; rfl) | (obtain ⟨_, _, _, _, _, _, rfl, _⟩ := h; rfl) | (obtain ⟨_, _, _, _, _, _, _, rfl, _⟩ := h; rfl) | (obtain ⟨_, _, _, _, _, _, _, _, rfl, _⟩ := h; rfl) | (obtain ⟨_, _, _, _, _, _, _, _, _, rfl, _⟩ := h; rfl) | (obtain ⟨_, _, _, _, _, _, _, _, _, _, rfl, _⟩ := h; rfl) | (obtain ⟨_, _, _, _, _, _, _, _, _, _, _, rfl, _⟩ := h; rfl) | (obtain ⟨_, _, _, _, _, _, _, _, _, _, _, _, rfl, _⟩ := h; rfl) | (rcases h with ⟨_, _, _, _, _, _, _, _, rfl, _⟩ | ⟨_, _, _, _, _, _, _, _, rfl, _⟩ | ⟨_, _, _, rfl, _⟩ <;> rfl)) (body_law_value T G_law_times) (pure_law_value)
  have F_law_class : FnOk P w K mg base CX0 5 (ad 24) (fu 24) ["way", "window", "thing"] (sp_law_class K ca) := okP T.d_law_class.F sc_law_class (fun a b c d h => by rcases h with ⟨_, _, _, _, _, _, _, _, rfl, _⟩ | ⟨_, _, _, _, _, _, _, _, rfl, _⟩ | ⟨_, _, _, rfl, _⟩ <;> rfl) (body_law_class T F_Window_pop F_Window_push F_cost_of) (pure_law_class XFs)
  have G_law_stored : FnG P w K mg base CX0 3 (ad 25) (fu 25) ["table", "play"] (sp_law_stored K ca) := ok_fun T.d_law_stored.F sc_law_stored (fun a b c d h => by first | (obtain ⟨_, rfl, _⟩ := h; rfl) | (obtain ⟨_, _, rfl, _⟩ := h; rfl) | (obtain ⟨_, _, _, rfl, _⟩ := h; rfl) | (obtain ⟨_, _, _, _, rfl, _⟩ := h; rfl) | (obtain ⟨_, _, _, _, _, rfl, _⟩ := h; rfl) | (obtain ⟨_, _, _, _, _, _, rfl, _⟩ := h; rfl) | (obtain ⟨_, _, _, _, _, _, _, rfl, _⟩ := h; rfl) | (obtain ⟨_, _, _, _, _, _, _, _, rfl, _⟩ := h; rfl) | (obtain ⟨_, _, _, _, _, _, _, _, _, rfl, _⟩ := h; rfl) | (obtain ⟨_, _, _, _, _, _, _, _, _, _, rfl, _⟩ := h; rfl) | (obtain ⟨_, _, _, _, _, _, _, _, _, _, _, rfl, _⟩ := h; rfl) | (obtain ⟨_, _, _, _, _, _, _, _, _, _, _, _, rfl, _⟩ := h; rfl) | (rcases h with ⟨_, _, _, _, _, _, _, _, rfl, _⟩ | ⟨_, _, _, _, _, _, _, _, rfl, _⟩ | ⟨_, _, _, rfl, _⟩ <;> rfl)) (body_law_stored T G_law_value) (pure_law_stored)
  have G_law_stands : FnG P w K mg base CX0 4 (ad 26) (fu 26) ["table", "play"] (sp_law_stands K ca) := ok_fun T.d_law_stands.F sc_law_stands (fun a b c d h => by first | (obtain ⟨_, rfl, _⟩ := h; rfl) | (obtain ⟨_, _, rfl, _⟩ := h; rfl) | (obtain ⟨_, _, _, rfl, _⟩ := h; rfl) | (obtain ⟨_, _, _, _, rfl, _⟩ := h; rfl) | (obtain ⟨_, _, _, _, _, rfl, _⟩ := h; rfl) | (obtain ⟨_, _, _, _, _, _, rfl, _⟩ := h; rfl) | (obtain ⟨_, _, _, _, _, _, _, rfl, _⟩ := h; rfl) | (obtain ⟨_, _, _, _, _, _, _, _, rfl, _⟩ := h; rfl) | (obtain ⟨_, _, _, _, _, _, _, _, _, rfl, _⟩ := h; rfl) | (obtain ⟨_, _, _, _, _, _, _, _, _, _, rfl, _⟩ := h; rfl) | (obtain ⟨_, _, _, _, _, _, _, _, _, _, _, rfl, _⟩ := h; rfl) | (obtain ⟨_, _, _, _, _, _, _, _, _, _, _, _, rfl, _⟩ := h; rfl) | (rcases h with ⟨_, _, _, _, _, _, _, _, rfl, _⟩ | ⟨_, _, _, _, _, _, _, _, rfl, _⟩ | ⟨_, _, _, rfl, _⟩ <;> rfl)) (body_law_stands T F_Window_letters F_Window_made F_Window_stored G_law_same G_law_stored) (pure_law_stands W)
  have G_law_turn : FnG P w K mg base CX0 6 (ad 27) (fu 27) ["state", "table", "play"] (sp_law_turn K ca) := ok_fun T.d_law_turn.F sc_law_turn (fun a b c d h => by first | (obtain ⟨_, rfl, _⟩ := h; rfl) | (obtain ⟨_, _, rfl, _⟩ := h; rfl) | (obtain ⟨_, _, _, rfl, _⟩ := h; rfl) | (obtain ⟨_, _, _, _, rfl, _⟩ := h; rfl) | (obtain ⟨_, _, _, _, _, rfl, _⟩ := h; rfl) | (obtain ⟨_, _, _, _, _, _, rfl, _⟩ := h; rfl) | (obtain ⟨_, _, _, _, _, _, _, rfl, _⟩ := h; rfl) | (obtain ⟨_, _, _, _, _, _, _, _, rfl, _⟩ := h; rfl) | (obtain ⟨_, _, _, _, _, _, _, _, _, rfl, _⟩ := h; rfl) | (obtain ⟨_, _, _, _, _, _, _, _, _, _, rfl, _⟩ := h; rfl) | (obtain ⟨_, _, _, _, _, _, _, _, _, _, _, rfl, _⟩ := h; rfl) | (obtain ⟨_, _, _, _, _, _, _, _, _, _, _, _, rfl, _⟩ := h; rfl) | (rcases h with ⟨_, _, _, _, _, _, _, _, rfl, _⟩ | ⟨_, _, _, _, _, _, _, _, rfl, _⟩ | ⟨_, _, _, rfl, _⟩ <;> rfl)) (body_law_turn T F_Window_value F_law_class G_law_next G_law_same G_law_value) (pure_law_turn W)
  have G_law_costs : FnG P w K mg base CX0 1 (ad 28) (fu 28) ["moves"] (sp_law_costs K ca) := ok_fun T.d_law_costs.F sc_law_costs (fun a b c d h => by first | (obtain ⟨_, rfl, _⟩ := h; rfl) | (obtain ⟨_, _, rfl, _⟩ := h; rfl) | (obtain ⟨_, _, _, rfl, _⟩ := h; rfl) | (obtain ⟨_, _, _, _, rfl, _⟩ := h; rfl) | (obtain ⟨_, _, _, _, _, rfl, _⟩ := h; rfl) | (obtain ⟨_, _, _, _, _, _, rfl, _⟩ := h; rfl) | (obtain ⟨_, _, _, _, _, _, _, rfl, _⟩ := h; rfl) | (obtain ⟨_, _, _, _, _, _, _, _, rfl, _⟩ := h; rfl) | (obtain ⟨_, _, _, _, _, _, _, _, _, rfl, _⟩ := h; rfl) | (obtain ⟨_, _, _, _, _, _, _, _, _, _, rfl, _⟩ := h; rfl) | (obtain ⟨_, _, _, _, _, _, _, _, _, _, _, rfl, _⟩ := h; rfl) | (obtain ⟨_, _, _, _, _, _, _, _, _, _, _, _, rfl, _⟩ := h; rfl) | (rcases h with ⟨_, _, _, _, _, _, _, _, rfl, _⟩ | ⟨_, _, _, _, _, _, _, _, rfl, _⟩ | ⟨_, _, _, rfl, _⟩ <;> rfl)) (body_law_costs T) (pure_law_costs)
  have G_law_counted : FnG P w K mg base CX0 6 (ad 29) (fu 29) ["state"] (sp_law_counted K ca) := ok_fun T.d_law_counted.F sc_law_counted (fun a b c d h => by first | (obtain ⟨_, rfl, _⟩ := h; rfl) | (obtain ⟨_, _, rfl, _⟩ := h; rfl) | (obtain ⟨_, _, _, rfl, _⟩ := h; rfl) | (obtain ⟨_, _, _, _, rfl, _⟩ := h; rfl) | (obtain ⟨_, _, _, _, _, rfl, _⟩ := h; rfl) | (obtain ⟨_, _, _, _, _, _, rfl, _⟩ := h; rfl) | (obtain ⟨_, _, _, _, _, _, _, rfl, _⟩ := h; rfl) | (obtain ⟨_, _, _, _, _, _, _, _, rfl, _⟩ := h; rfl) | (obtain ⟨_, _, _, _, _, _, _, _, _, rfl, _⟩ := h; rfl) | (obtain ⟨_, _, _, _, _, _, _, _, _, _, rfl, _⟩ := h; rfl) | (obtain ⟨_, _, _, _, _, _, _, _, _, _, _, rfl, _⟩ := h; rfl) | (obtain ⟨_, _, _, _, _, _, _, _, _, _, _, _, rfl, _⟩ := h; rfl) | (rcases h with ⟨_, _, _, _, _, _, _, _, rfl, _⟩ | ⟨_, _, _, _, _, _, _, _, rfl, _⟩ | ⟨_, _, _, rfl, _⟩ <;> rfl)) (body_law_counted T F_law_class G_law_costs G_law_next G_law_same) (pure_law_counted)
  have G_law : FnG P w K mg base CX0 7 (ad 30) (fu 30) ["script"] (sp_law K ca) := ok_fun T.d_law.F sc_law (fun a b c d h => by first | (obtain ⟨_, rfl, _⟩ := h; rfl) | (obtain ⟨_, _, rfl, _⟩ := h; rfl) | (obtain ⟨_, _, _, rfl, _⟩ := h; rfl) | (obtain ⟨_, _, _, _, rfl, _⟩ := h; rfl) | (obtain ⟨_, _, _, _, _, rfl, _⟩ := h; rfl) | (obtain ⟨_, _, _, _, _, _, rfl, _⟩ := h; rfl) | (obtain ⟨_, _, _, _, _, _, _, rfl, _⟩ := h; rfl) | (obtain ⟨_, _, _, _, _, _, _, _, rfl, _⟩ := h; rfl) | (obtain ⟨_, _, _, _, _, _, _, _, _, rfl, _⟩ := h; rfl) | (obtain ⟨_, _, _, _, _, _, _, _, _, _, rfl, _⟩ := h; rfl) | (obtain ⟨_, _, _, _, _, _, _, _, _, _, _, rfl, _⟩ := h; rfl) | (obtain ⟨_, _, _, _, _, _, _, _, _, _, _, _, rfl, _⟩ := h; rfl) | (rcases h with ⟨_, _, _, _, _, _, _, _, rfl, _⟩ | ⟨_, _, _, _, _, _, _, _, rfl, _⟩ | ⟨_, _, _, rfl, _⟩ <;> rfl)) (body_law T F_Window_init F_Window_value G_law_counted G_law_next G_law_same G_law_stands G_law_stream G_law_table G_law_turn) (pure_law T.s_MOVES W)
  exact G_law
end
theorem tx_mk {w : World} {K : PySem.W.Frag} {mg : Str → Option Value} {f7 f11 f13 f14 f15 f16 f17 f18 f19 f20 f21 f22 f24 f25 f26 f27 f28 f29 f30 f2000 f2001 f2002 f2003 f2004 f2005 f2006 f2007 f2008 : Addr} {d7 d11 d13 d14 d15 d16 d17 d18 d19 d20 d21 d22 d24 d25 d26 d27 d28 d29 d30 d2000 d2001 d2002 d2003 d2004 d2005 d2006 d2007 d2008 : FuncData} {c0 c20 c21 c22 c23 c24 c25 : Addr}
    (d_times : Df K mg "times" (K92.topS 7) ["table", "first", "second"] f7 d7)
    (d_Window_init : Fun K "__init__" "Window.__init__" (L2.inClass (K92.topS 10) 0) f2000 d2000)
    (bi_Window_init : Binds K d2000 ["self", "table"] [])
    (mk_Window : Mk K c20 f2000)
    (d_Window_product : Fun K "product" "Window.product" (L2.inClass (K92.topS 10) 1) f2001 d2001)
    (bi_Window_product : Binds K d2001 ["self", "first", "second"] [])
    (m_Window_product : Meth K c20 "product" f2001)
    (d_Window_push : Fun K "push" "Window.push" (L2.inClass (K92.topS 10) 2) f2002 d2002)
    (bi_Window_push : Binds K d2002 ["self", "letter"] [])
    (m_Window_push : Meth K c20 "push" f2002)
    (d_Window_pop : Fun K "pop" "Window.pop" (L2.inClass (K92.topS 10) 3) f2003 d2003)
    (bi_Window_pop : Binds K d2003 ["self"] [])
    (m_Window_pop : Meth K c20 "pop" f2003)
    (d_Window_turn : Fun K "turn" "Window.turn" (L2.inClass (K92.topS 10) 4) f2004 d2004)
    (bi_Window_turn : Binds K d2004 ["self"] [])
    (m_Window_turn : Meth K c20 "turn" f2004)
    (d_Window_value : Fun K "value" "Window.value" (L2.inClass (K92.topS 10) 5) f2005 d2005)
    (bi_Window_value : Binds K d2005 ["self"] [])
    (m_Window_value : Meth K c20 "value" f2005)
    (d_Window_letters : Fun K "letters" "Window.letters" (L2.inClass (K92.topS 10) 6) f2006 d2006)
    (bi_Window_letters : Binds K d2006 ["self"] [])
    (m_Window_letters : Meth K c20 "letters" f2006)
    (d_Window_stored : Fun K "stored" "Window.stored" (L2.inClass (K92.topS 10) 7) f2007 d2007)
    (bi_Window_stored : Binds K d2007 ["self"] [])
    (m_Window_stored : Meth K c20 "stored" f2007)
    (d_Window_made : Fun K "made" "Window.made" (L2.inClass (K92.topS 10) 8) f2008 d2008)
    (bi_Window_made : Binds K d2008 ["self"] [])
    (m_Window_made : Meth K c20 "made" f2008)
    (d_cost_of : Df K mg "cost_of" (K92.topS 11) ["moves"] f11 d11)
    (d_law_stream : Df K mg "_law_stream" (K92.topS 13) ["script"] f13 d13)
    (d_law_next : Df K mg "_law_next" (K92.topS 14) ["state", "many"] f14 d14)
    (d_law_same : Df K mg "_law_same" (K92.topS 15) ["told", "due"] f15 d15)
    (d_law_word : Df K mg "_law_word" (K92.topS 16) ["state", "taken"] f16 d16)
    (d_law_letters : Df K mg "_law_letters" (K92.topS 17) ["state", "many"] f17 d17)
    (d_law_map : Df K mg "_law_map" (K92.topS 18) ["state", "rooms", "kind"] f18 d18)
    (d_law_built : Df K mg "_law_built" (K92.topS 19) ["letters", "maps"] f19 d19)
    (d_law_table : Df K mg "_law_table" (K92.topS 20) ["state"] f20 d20)
    (d_law_times : Df K mg "_law_times" (K92.topS 21) ["table", "first", "second"] f21 d21)
    (d_law_value : Df K mg "_law_value" (K92.topS 22) ["table", "log"] f22 d22)
    (d_law_class : Df K mg "_law_class" (K92.topS 24) ["way", "window", "thing"] f24 d24)
    (d_law_stored : Df K mg "_law_stored" (K92.topS 25) ["table", "play"] f25 d25)
    (d_law_stands : Df K mg "_law_stands" (K92.topS 26) ["table", "play"] f26 d26)
    (d_law_turn : Df K mg "_law_turn" (K92.topS 27) ["state", "table", "play"] f27 d27)
    (d_law_costs : Df K mg "_law_costs" (K92.topS 28) ["moves"] f28 d28)
    (d_law_counted : Df K mg "_law_counted" (K92.topS 29) ["state"] f29 d29)
    (d_law : Df K mg "law" (K92.topS 30) ["script"] f30 d30)
    (b_abs : mg "abs" = none)
    (b_all : mg "all" = none)
    (b_int : mg "int" = none)
    (b_isinstance : mg "isinstance" = none)
    (b_len : mg "len" = none)
    (b_min : mg "min" = none)
    (b_range : mg "range" = none)
    (b_repr : mg "repr" = none)
    (b_reversed : mg "reversed" = none)
    (b_sorted : mg "sorted" = none)
    (b_str : mg "str" = none)
    (b_sum : mg "sum" = none)
    (b_tuple : mg "tuple" = none)
    (g_MOVES : Gc mg "MOVES" (.ref c0))
    (s_MOVES : ∀ H, SqT K H c0 [.str "in", .str "out", .str "ask"])
    (g_Window : Gc mg "Window" (.ref c20))
    (gc_Window : mg "Window" = some (.ref c20))
    (c_Window : Cls K c20)
    (n_Window_table : NoAttr K c20 "table")
    (n_Window_front : NoAttr K c20 "front")
    (n_Window_back : NoAttr K c20 "back")
    (n_Window_behind : NoAttr K c20 "behind")
    (n_Window_many : NoAttr K c20 "many")
    (g_ScarpError : Gc mg "ScarpError" (.ref c21))
    (gc_ScarpError : mg "ScarpError" = some (.ref c21))
    (g_NotAllowed : Gc mg "NotAllowed" (.ref c22))
    (gc_NotAllowed : mg "NotAllowed" = some (.ref c22))
    (g_TooLarge : Gc mg "TooLarge" (.ref c23))
    (gc_TooLarge : mg "TooLarge" = some (.ref c23))
    (g_Missing : Gc mg "Missing" (.ref c24))
    (gc_Missing : mg "Missing" = some (.ref c24))
    (g_BadPaper : Gc mg "BadPaper" (.ref c25))
    (gc_BadPaper : mg "BadPaper" = some (.ref c25))
    (x_NotAllowed : PySem.W.excIn K c22 [.type "ValueError", .type "Exception", .type "BaseException", .type "object"] "ValueError.__new__" = true)
    (k_NotAllowed : PySem.W.keepIn K (.ref c22) = true)
    (bb_NotAllowed : PySem.W.subIn K (.ref c22) (.type "BaseException") = some true)
    (ty_NotAllowed : PySem.W.typeIn K (.ref c22) = some (.type "type"))
    (e_NotAllowed : ExcC K c22)
    (x_Missing : PySem.W.excIn K c24 [.type "ValueError", .type "Exception", .type "BaseException", .type "object"] "ValueError.__new__" = true)
    (k_Missing : PySem.W.keepIn K (.ref c24) = true)
    (bb_Missing : PySem.W.subIn K (.ref c24) (.type "BaseException") = some true)
    (ty_Missing : PySem.W.typeIn K (.ref c24) = some (.type "type"))
    (e_Missing : ExcC K c24)
    (em_Missing_Missing : PySem.W.exmOne K (.ref c24) (.ref c24) = some true)
    (em_NotAllowed_Missing : PySem.W.exmOne K (.ref c22) (.ref c24) = some false)
    (em_NotAllowed_NotAllowed : PySem.W.exmOne K (.ref c22) (.ref c22) = some true)
    (ki_Missing_ScarpError : PySem.W.kitOne K (.ref c24) (.ref c21) = some true)
    (ki_Missing_NotAllowed : PySem.W.kitOne K (.ref c24) (.ref c22) = some false)
    (ki_Missing_BadPaper : PySem.W.kitOne K (.ref c24) (.ref c25) = some false)
    (ki_Missing_TooLarge : PySem.W.kitOne K (.ref c24) (.ref c23) = some false)
    (ki_NotAllowed_ScarpError : PySem.W.kitOne K (.ref c22) (.ref c21) = some true)
    (ki_NotAllowed_Missing : PySem.W.kitOne K (.ref c22) (.ref c24) = some false)
    (ki_NotAllowed_BadPaper : PySem.W.kitOne K (.ref c22) (.ref c25) = some false)
    (ki_NotAllowed_TooLarge : PySem.W.kitOne K (.ref c22) (.ref c23) = some false)
    : ∃ ad fu ca, Tx w K mg ad fu ca ∧ ad 30 = f30 ∧ fu 30 = d30 :=
  ⟨(fun n => if n = 7 then f7 else if n = 11 then f11 else if n = 13 then f13 else if n = 14 then f14 else if n = 15 then f15 else if n = 16 then f16 else if n = 17 then f17 else if n = 18 then f18 else if n = 19 then f19 else if n = 20 then f20 else if n = 21 then f21 else if n = 22 then f22 else if n = 24 then f24 else if n = 25 then f25 else if n = 26 then f26 else if n = 27 then f27 else if n = 28 then f28 else if n = 29 then f29 else if n = 30 then f30 else if n = 2000 then f2000 else if n = 2001 then f2001 else if n = 2002 then f2002 else if n = 2003 then f2003 else if n = 2004 then f2004 else if n = 2005 then f2005 else if n = 2006 then f2006 else if n = 2007 then f2007 else if n = 2008 then f2008 else 0), (fun n => if n = 7 then d7 else if n = 11 then d11 else if n = 13 then d13 else if n = 14 then d14 else if n = 15 then d15 else if n = 16 then d16 else if n = 17 then d17 else if n = 18 then d18 else if n = 19 then d19 else if n = 20 then d20 else if n = 21 then d21 else if n = 22 then d22 else if n = 24 then d24 else if n = 25 then d25 else if n = 26 then d26 else if n = 27 then d27 else if n = 28 then d28 else if n = 29 then d29 else if n = 30 then d30 else if n = 2000 then d2000 else if n = 2001 then d2001 else if n = 2002 then d2002 else if n = 2003 then d2003 else if n = 2004 then d2004 else if n = 2005 then d2005 else if n = 2006 then d2006 else if n = 2007 then d2007 else if n = 2008 then d2008 else d30), (fun n => if n = 0 then c0 else if n = 20 then c20 else if n = 21 then c21 else if n = 22 then c22 else if n = 23 then c23 else if n = 24 then c24 else if n = 25 then c25 else 0), { d_times := d_times, d_Window_init := d_Window_init, bi_Window_init := bi_Window_init, mk_Window := mk_Window, d_Window_product := d_Window_product, bi_Window_product := bi_Window_product, m_Window_product := m_Window_product, d_Window_push := d_Window_push, bi_Window_push := bi_Window_push, m_Window_push := m_Window_push, d_Window_pop := d_Window_pop, bi_Window_pop := bi_Window_pop, m_Window_pop := m_Window_pop, d_Window_turn := d_Window_turn, bi_Window_turn := bi_Window_turn, m_Window_turn := m_Window_turn, d_Window_value := d_Window_value, bi_Window_value := bi_Window_value, m_Window_value := m_Window_value, d_Window_letters := d_Window_letters, bi_Window_letters := bi_Window_letters, m_Window_letters := m_Window_letters, d_Window_stored := d_Window_stored, bi_Window_stored := bi_Window_stored, m_Window_stored := m_Window_stored, d_Window_made := d_Window_made, bi_Window_made := bi_Window_made, m_Window_made := m_Window_made, d_cost_of := d_cost_of, d_law_stream := d_law_stream, d_law_next := d_law_next, d_law_same := d_law_same, d_law_word := d_law_word, d_law_letters := d_law_letters, d_law_map := d_law_map, d_law_built := d_law_built, d_law_table := d_law_table, d_law_times := d_law_times, d_law_value := d_law_value, d_law_class := d_law_class, d_law_stored := d_law_stored, d_law_stands := d_law_stands, d_law_turn := d_law_turn, d_law_costs := d_law_costs, d_law_counted := d_law_counted, d_law := d_law, b_abs := b_abs, b_all := b_all, b_int := b_int, b_isinstance := b_isinstance, b_len := b_len, b_min := b_min, b_range := b_range, b_repr := b_repr, b_reversed := b_reversed, b_sorted := b_sorted, b_str := b_str, b_sum := b_sum, b_tuple := b_tuple, g_MOVES := g_MOVES, s_MOVES := s_MOVES, g_Window := g_Window, gc_Window := gc_Window, c_Window := c_Window, n_Window_table := n_Window_table, n_Window_front := n_Window_front, n_Window_back := n_Window_back, n_Window_behind := n_Window_behind, n_Window_many := n_Window_many, g_ScarpError := g_ScarpError, gc_ScarpError := gc_ScarpError, g_NotAllowed := g_NotAllowed, gc_NotAllowed := gc_NotAllowed, g_TooLarge := g_TooLarge, gc_TooLarge := gc_TooLarge, g_Missing := g_Missing, gc_Missing := gc_Missing, g_BadPaper := g_BadPaper, gc_BadPaper := gc_BadPaper, x_NotAllowed := x_NotAllowed, k_NotAllowed := k_NotAllowed, bb_NotAllowed := bb_NotAllowed, ty_NotAllowed := ty_NotAllowed, e_NotAllowed := e_NotAllowed, x_Missing := x_Missing, k_Missing := k_Missing, bb_Missing := bb_Missing, ty_Missing := ty_Missing, e_Missing := e_Missing, em_Missing_Missing := em_Missing_Missing, em_NotAllowed_Missing := em_NotAllowed_Missing, em_NotAllowed_NotAllowed := em_NotAllowed_NotAllowed, ki_Missing_ScarpError := ki_Missing_ScarpError, ki_Missing_NotAllowed := ki_Missing_NotAllowed, ki_Missing_BadPaper := ki_Missing_BadPaper, ki_Missing_TooLarge := ki_Missing_TooLarge, ki_NotAllowed_ScarpError := ki_NotAllowed_ScarpError, ki_NotAllowed_Missing := ki_NotAllowed_Missing, ki_NotAllowed_BadPaper := ki_NotAllowed_BadPaper, ki_NotAllowed_TooLarge := ki_NotAllowed_TooLarge }, rfl, rfl⟩
end K92
open PySem PySem.W PyProof.Rows in
set_option maxRecDepth 100000 in
set_option maxHeartbeats 0 in
theorem PySem.Challenge.cw_scarpface_k92_windows_by_two_stacks_holds : PySem.Challenge.rw_scarpface_k92_windows_by_two_stacks.Holds := by
  w_on; o_law; k_head; (case hw => w_witness2)
  k_fill
  refine Sf.walk_G (l := PySem.Challenge.rw_scarpface_k92_windows_by_two_stacks) (n := 63) (lv := 7) (pr := fun K => K92.sp_law K (fun _ => 0)) rfl (by decide) rfl ⟨rfl, by decide, by decide⟩ (fun w h Y => PySem.W.kIn_of Y) rfl ?F (fun K H a ns hl hS => ⟨a, ns, rfl, hS, hl, fun _ => rfl⟩)
  case F =>
    intro w mg h KX G
    have Y_MOVES : ∃ c, Sf.Gc mg "MOVES" (.ref c) ∧ ∀ H, L2.SqT (L2.KOf KX) H c [.str "in", .str "out", .str "ask"] := by
      dsimp only [L2.KOf]
      refine' ⟨_, Sf.gc_mk KX G ?a ?r, Sf.sqT_mk ?l ?z ?v⟩
      (case a => k_is)
      (case r => rfl)
      (case l => k_is)
      (case z => decide)
      case v => exact (.cons ⟨_, rfl⟩ (.cons ⟨_, rfl⟩ (.cons ⟨_, rfl⟩ .nil)))
    have X7 : ∃ f d, Sf.Df (L2.KOf KX) mg "times" (K92.topS 7) ["table", "first", "second"] f d := by
      dsimp only [L2.KOf]
      refine' Sf.df_mk KX G ?a ?l ?c ?k ?b
      (case a => k_is); (case l => k_is); (case c => k_is); (case k => k_is)
      case b => exact fun F => L2.Fun.binds (ps := ["table", "first", "second"]) F fun _ _ _ _ _ _ us hl => match us, hl with | [_, _, _], _ => rfl
    have X11 : ∃ f d, Sf.Df (L2.KOf KX) mg "cost_of" (K92.topS 11) ["moves"] f d := by
      dsimp only [L2.KOf]
      refine' Sf.df_mk KX G ?a ?l ?c ?k ?b
      (case a => k_is); (case l => k_is); (case c => k_is); (case k => k_is)
      case b => exact fun F => L2.Fun.binds (ps := ["moves"]) F fun _ _ _ _ _ _ us hl => match us, hl with | [_], _ => rfl
    have X13 : ∃ f d, Sf.Df (L2.KOf KX) mg "_law_stream" (K92.topS 13) ["script"] f d := by
      dsimp only [L2.KOf]
      refine' Sf.df_mk KX G ?a ?l ?c ?k ?b
      (case a => k_is); (case l => k_is); (case c => k_is); (case k => k_is)
      case b => exact fun F => L2.Fun.binds (ps := ["script"]) F fun _ _ _ _ _ _ us hl => match us, hl with | [_], _ => rfl
    have X14 : ∃ f d, Sf.Df (L2.KOf KX) mg "_law_next" (K92.topS 14) ["state", "many"] f d := by
      dsimp only [L2.KOf]
      refine' Sf.df_mk KX G ?a ?l ?c ?k ?b
      (case a => k_is); (case l => k_is); (case c => k_is); (case k => k_is)
      case b => exact fun F => L2.Fun.binds (ps := ["state", "many"]) F fun _ _ _ _ _ _ us hl => match us, hl with | [_, _], _ => rfl
    have X15 : ∃ f d, Sf.Df (L2.KOf KX) mg "_law_same" (K92.topS 15) ["told", "due"] f d := by
      dsimp only [L2.KOf]
      refine' Sf.df_mk KX G ?a ?l ?c ?k ?b
      (case a => k_is); (case l => k_is); (case c => k_is); (case k => k_is)
      case b => exact fun F => L2.Fun.binds (ps := ["told", "due"]) F fun _ _ _ _ _ _ us hl => match us, hl with | [_, _], _ => rfl
    have X16 : ∃ f d, Sf.Df (L2.KOf KX) mg "_law_word" (K92.topS 16) ["state", "taken"] f d := by
      dsimp only [L2.KOf]
      refine' Sf.df_mk KX G ?a ?l ?c ?k ?b
      (case a => k_is); (case l => k_is); (case c => k_is); (case k => k_is)
      case b => exact fun F => L2.Fun.binds (ps := ["state", "taken"]) F fun _ _ _ _ _ _ us hl => match us, hl with | [_, _], _ => rfl
    have X17 : ∃ f d, Sf.Df (L2.KOf KX) mg "_law_letters" (K92.topS 17) ["state", "many"] f d := by
      dsimp only [L2.KOf]
      refine' Sf.df_mk KX G ?a ?l ?c ?k ?b
      (case a => k_is); (case l => k_is); (case c => k_is); (case k => k_is)
      case b => exact fun F => L2.Fun.binds (ps := ["state", "many"]) F fun _ _ _ _ _ _ us hl => match us, hl with | [_, _], _ => rfl
    have X18 : ∃ f d, Sf.Df (L2.KOf KX) mg "_law_map" (K92.topS 18) ["state", "rooms", "kind"] f d := by
      dsimp only [L2.KOf]
      refine' Sf.df_mk KX G ?a ?l ?c ?k ?b
      (case a => k_is); (case l => k_is); (case c => k_is); (case k => k_is)
      case b => exact fun F => L2.Fun.binds (ps := ["state", "rooms", "kind"]) F fun _ _ _ _ _ _ us hl => match us, hl with | [_, _, _], _ => rfl
    have X19 : ∃ f d, Sf.Df (L2.KOf KX) mg "_law_built" (K92.topS 19) ["letters", "maps"] f d := by
      dsimp only [L2.KOf]
      refine' Sf.df_mk KX G ?a ?l ?c ?k ?b
      (case a => k_is); (case l => k_is); (case c => k_is); (case k => k_is)
      case b => exact fun F => L2.Fun.binds (ps := ["letters", "maps"]) F fun _ _ _ _ _ _ us hl => match us, hl with | [_, _], _ => rfl
    have X20 : ∃ f d, Sf.Df (L2.KOf KX) mg "_law_table" (K92.topS 20) ["state"] f d := by
      dsimp only [L2.KOf]
      refine' Sf.df_mk KX G ?a ?l ?c ?k ?b
      (case a => k_is); (case l => k_is); (case c => k_is); (case k => k_is)
      case b => exact fun F => L2.Fun.binds (ps := ["state"]) F fun _ _ _ _ _ _ us hl => match us, hl with | [_], _ => rfl
    have X21 : ∃ f d, Sf.Df (L2.KOf KX) mg "_law_times" (K92.topS 21) ["table", "first", "second"] f d := by
      dsimp only [L2.KOf]
      refine' Sf.df_mk KX G ?a ?l ?c ?k ?b
      (case a => k_is); (case l => k_is); (case c => k_is); (case k => k_is)
      case b => exact fun F => L2.Fun.binds (ps := ["table", "first", "second"]) F fun _ _ _ _ _ _ us hl => match us, hl with | [_, _, _], _ => rfl
    have X22 : ∃ f d, Sf.Df (L2.KOf KX) mg "_law_value" (K92.topS 22) ["table", "log"] f d := by
      dsimp only [L2.KOf]
      refine' Sf.df_mk KX G ?a ?l ?c ?k ?b
      (case a => k_is); (case l => k_is); (case c => k_is); (case k => k_is)
      case b => exact fun F => L2.Fun.binds (ps := ["table", "log"]) F fun _ _ _ _ _ _ us hl => match us, hl with | [_, _], _ => rfl
    have X24 : ∃ f d, Sf.Df (L2.KOf KX) mg "_law_class" (K92.topS 24) ["way", "window", "thing"] f d := by
      dsimp only [L2.KOf]
      refine' Sf.df_mk KX G ?a ?l ?c ?k ?b
      (case a => k_is); (case l => k_is); (case c => k_is); (case k => k_is)
      case b => exact fun F => L2.Fun.binds (ps := ["way", "window", "thing"]) F fun _ _ _ _ _ _ us hl => match us, hl with | [_, _, _], _ => rfl
    have X25 : ∃ f d, Sf.Df (L2.KOf KX) mg "_law_stored" (K92.topS 25) ["table", "play"] f d := by
      dsimp only [L2.KOf]
      refine' Sf.df_mk KX G ?a ?l ?c ?k ?b
      (case a => k_is); (case l => k_is); (case c => k_is); (case k => k_is)
      case b => exact fun F => L2.Fun.binds (ps := ["table", "play"]) F fun _ _ _ _ _ _ us hl => match us, hl with | [_, _], _ => rfl
    have X26 : ∃ f d, Sf.Df (L2.KOf KX) mg "_law_stands" (K92.topS 26) ["table", "play"] f d := by
      dsimp only [L2.KOf]
      refine' Sf.df_mk KX G ?a ?l ?c ?k ?b
      (case a => k_is); (case l => k_is); (case c => k_is); (case k => k_is)
      case b => exact fun F => L2.Fun.binds (ps := ["table", "play"]) F fun _ _ _ _ _ _ us hl => match us, hl with | [_, _], _ => rfl
    have X27 : ∃ f d, Sf.Df (L2.KOf KX) mg "_law_turn" (K92.topS 27) ["state", "table", "play"] f d := by
      dsimp only [L2.KOf]
      refine' Sf.df_mk KX G ?a ?l ?c ?k ?b
      (case a => k_is); (case l => k_is); (case c => k_is); (case k => k_is)
      case b => exact fun F => L2.Fun.binds (ps := ["state", "table", "play"]) F fun _ _ _ _ _ _ us hl => match us, hl with | [_, _, _], _ => rfl
    have X28 : ∃ f d, Sf.Df (L2.KOf KX) mg "_law_costs" (K92.topS 28) ["moves"] f d := by
      dsimp only [L2.KOf]
      refine' Sf.df_mk KX G ?a ?l ?c ?k ?b
      (case a => k_is); (case l => k_is); (case c => k_is); (case k => k_is)
      case b => exact fun F => L2.Fun.binds (ps := ["moves"]) F fun _ _ _ _ _ _ us hl => match us, hl with | [_], _ => rfl
    have X29 : ∃ f d, Sf.Df (L2.KOf KX) mg "_law_counted" (K92.topS 29) ["state"] f d := by
      dsimp only [L2.KOf]
      refine' Sf.df_mk KX G ?a ?l ?c ?k ?b
      (case a => k_is); (case l => k_is); (case c => k_is); (case k => k_is)
      case b => exact fun F => L2.Fun.binds (ps := ["state"]) F fun _ _ _ _ _ _ us hl => match us, hl with | [_], _ => rfl
    have X30 : ∃ f d, Sf.Df (L2.KOf KX) mg "law" (K92.topS 30) ["script"] f d := by
      dsimp only [L2.KOf]
      refine' Sf.df_mk KX G ?a ?l ?c ?k ?b
      (case a => k_is); (case l => k_is); (case c => k_is); (case k => k_is)
      case b => exact fun F => L2.Fun.binds (ps := ["script"]) F fun _ _ _ _ _ _ us hl => match us, hl with | [_], _ => rfl
    have Z_abs : mg "abs" = none := by
      refine' PySem.W.mg_none_of KX G ?a
      case a => k_is
    have Z_all : mg "all" = none := by
      refine' PySem.W.mg_none_of KX G ?a
      case a => k_is
    have Z_int : mg "int" = none := by
      refine' PySem.W.mg_none_of KX G ?a
      case a => k_is
    have Z_isinstance : mg "isinstance" = none := by
      refine' PySem.W.mg_none_of KX G ?a
      case a => k_is
    have Z_len : mg "len" = none := by
      refine' PySem.W.mg_none_of KX G ?a
      case a => k_is
    have Z_min : mg "min" = none := by
      refine' PySem.W.mg_none_of KX G ?a
      case a => k_is
    have Z_range : mg "range" = none := by
      refine' PySem.W.mg_none_of KX G ?a
      case a => k_is
    have Z_repr : mg "repr" = none := by
      refine' PySem.W.mg_none_of KX G ?a
      case a => k_is
    have Z_reversed : mg "reversed" = none := by
      refine' PySem.W.mg_none_of KX G ?a
      case a => k_is
    have Z_sorted : mg "sorted" = none := by
      refine' PySem.W.mg_none_of KX G ?a
      case a => k_is
    have Z_str : mg "str" = none := by
      refine' PySem.W.mg_none_of KX G ?a
      case a => k_is
    have Z_sum : mg "sum" = none := by
      refine' PySem.W.mg_none_of KX G ?a
      case a => k_is
    have Z_tuple : mg "tuple" = none := by
      refine' PySem.W.mg_none_of KX G ?a
      case a => k_is
    have XC : ∃ (c20 c21 c22 c23 c24 c25 f2000 f2001 f2002 f2003 f2004 f2005 f2006 f2007 f2008 : Addr) (d2000 d2001 d2002 d2003 d2004 d2005 d2006 d2007 d2008 : FuncData), mg "Window" = some (.ref c20) ∧ L2.Cls (L2.KOf KX) c20 ∧ L2.NoAttr (L2.KOf KX) c20 "table" ∧ L2.NoAttr (L2.KOf KX) c20 "front" ∧ L2.NoAttr (L2.KOf KX) c20 "back" ∧ L2.NoAttr (L2.KOf KX) c20 "behind" ∧ L2.NoAttr (L2.KOf KX) c20 "many" ∧ mg "ScarpError" = some (.ref c21) ∧ mg "NotAllowed" = some (.ref c22) ∧ mg "TooLarge" = some (.ref c23) ∧ mg "Missing" = some (.ref c24) ∧ mg "BadPaper" = some (.ref c25) ∧ L2.Fun (L2.KOf KX) "__init__" "Window.__init__" (L2.inClass (K92.topS 10) 0) f2000 d2000 ∧ L2.Binds (L2.KOf KX) d2000 ["self", "table"] [] ∧ L2.Mk (L2.KOf KX) c20 f2000 ∧ L2.Fun (L2.KOf KX) "product" "Window.product" (L2.inClass (K92.topS 10) 1) f2001 d2001 ∧ L2.Binds (L2.KOf KX) d2001 ["self", "first", "second"] [] ∧ L2.Meth (L2.KOf KX) c20 "product" f2001 ∧ L2.Fun (L2.KOf KX) "push" "Window.push" (L2.inClass (K92.topS 10) 2) f2002 d2002 ∧ L2.Binds (L2.KOf KX) d2002 ["self", "letter"] [] ∧ L2.Meth (L2.KOf KX) c20 "push" f2002 ∧ L2.Fun (L2.KOf KX) "pop" "Window.pop" (L2.inClass (K92.topS 10) 3) f2003 d2003 ∧ L2.Binds (L2.KOf KX) d2003 ["self"] [] ∧ L2.Meth (L2.KOf KX) c20 "pop" f2003 ∧ L2.Fun (L2.KOf KX) "turn" "Window.turn" (L2.inClass (K92.topS 10) 4) f2004 d2004 ∧ L2.Binds (L2.KOf KX) d2004 ["self"] [] ∧ L2.Meth (L2.KOf KX) c20 "turn" f2004 ∧ L2.Fun (L2.KOf KX) "value" "Window.value" (L2.inClass (K92.topS 10) 5) f2005 d2005 ∧ L2.Binds (L2.KOf KX) d2005 ["self"] [] ∧ L2.Meth (L2.KOf KX) c20 "value" f2005 ∧ L2.Fun (L2.KOf KX) "letters" "Window.letters" (L2.inClass (K92.topS 10) 6) f2006 d2006 ∧ L2.Binds (L2.KOf KX) d2006 ["self"] [] ∧ L2.Meth (L2.KOf KX) c20 "letters" f2006 ∧ L2.Fun (L2.KOf KX) "stored" "Window.stored" (L2.inClass (K92.topS 10) 7) f2007 d2007 ∧ L2.Binds (L2.KOf KX) d2007 ["self"] [] ∧ L2.Meth (L2.KOf KX) c20 "stored" f2007 ∧ L2.Fun (L2.KOf KX) "made" "Window.made" (L2.inClass (K92.topS 10) 8) f2008 d2008 ∧ L2.Binds (L2.KOf KX) d2008 ["self"] [] ∧ L2.Meth (L2.KOf KX) c20 "made" f2008 ∧ PySem.W.excIn (L2.KOf KX) c22 [.type "ValueError", .type "Exception", .type "BaseException", .type "object"] "ValueError.__new__" = true ∧ PySem.W.keepIn (L2.KOf KX) (.ref c22) = true ∧ PySem.W.subIn (L2.KOf KX) (.ref c22) (.type "BaseException") = some true ∧ PySem.W.typeIn (L2.KOf KX) (.ref c22) = some (.type "type") ∧ L2.ExcC (L2.KOf KX) c22 ∧ PySem.W.excIn (L2.KOf KX) c24 [.type "ValueError", .type "Exception", .type "BaseException", .type "object"] "ValueError.__new__" = true ∧ PySem.W.keepIn (L2.KOf KX) (.ref c24) = true ∧ PySem.W.subIn (L2.KOf KX) (.ref c24) (.type "BaseException") = some true ∧ PySem.W.typeIn (L2.KOf KX) (.ref c24) = some (.type "type") ∧ L2.ExcC (L2.KOf KX) c24 ∧ PySem.W.exmOne (L2.KOf KX) (.ref c24) (.ref c24) = some true ∧ PySem.W.exmOne (L2.KOf KX) (.ref c22) (.ref c24) = some false ∧ PySem.W.exmOne (L2.KOf KX) (.ref c22) (.ref c22) = some true ∧ PySem.W.kitOne (L2.KOf KX) (.ref c24) (.ref c21) = some true ∧ PySem.W.kitOne (L2.KOf KX) (.ref c24) (.ref c22) = some false ∧ PySem.W.kitOne (L2.KOf KX) (.ref c24) (.ref c25) = some false ∧ PySem.W.kitOne (L2.KOf KX) (.ref c24) (.ref c23) = some false ∧ PySem.W.kitOne (L2.KOf KX) (.ref c22) (.ref c21) = some true ∧ PySem.W.kitOne (L2.KOf KX) (.ref c22) (.ref c24) = some false ∧ PySem.W.kitOne (L2.KOf KX) (.ref c22) (.ref c25) = some false ∧ PySem.W.kitOne (L2.KOf KX) (.ref c22) (.ref c23) = some false := by
      dsimp only [L2.KOf]
      refine' K92.cls_mk KX G ?a20 ?pg20 ?po20 ?hd20 ?sa20 ?mk20 ?kp20 ?n20table ?n20front ?n20back ?n20behind ?n20many ?a21 ?a22 ?a23 ?a24 ?a25 ?m2000 ?i2000 ?l2000 ?q2000 ?k2000 ?m2001 ?i2001 ?l2001 ?q2001 ?k2001 ?m2002 ?i2002 ?l2002 ?q2002 ?k2002 ?m2003 ?i2003 ?l2003 ?q2003 ?k2003 ?m2004 ?i2004 ?l2004 ?q2004 ?k2004 ?m2005 ?i2005 ?l2005 ?q2005 ?k2005 ?m2006 ?i2006 ?l2006 ?q2006 ?k2006 ?m2007 ?i2007 ?l2007 ?q2007 ?k2007 ?m2008 ?i2008 ?l2008 ?q2008 ?k2008 ?x22 ?kp22 ?bb22 ?ty22 ?hd22 ?ga22 ?gt22 ?cc22 ?sp0 ?tk0 ?mo22 ?x24 ?kp24 ?bb24 ?ty24 ?hd24 ?ga24 ?gt24 ?cc24 ?mo24 ?su24_24 ?su22_24 ?su22_22 ?su24_21 ?is21 ?ty21 ?ne24_21 ?su24_22 ?is22 ?ne24_22 ?su24_25 ?is25 ?ty25 ?ne24_25 ?su24_23 ?is23 ?ty23 ?ne24_23 ?su22_21 ?ne22_21 ?is24 ?ne22_24 ?su22_25 ?ne22_25 ?su22_23 ?ne22_23
      (case a20 => k_is)
      (case pg20 => k_is)
      (case po20 => k_is)
      (case hd20 => k_is)
      (case sa20 => k_is)
      (case mk20 => k_is)
      (case kp20 => k_is)
      (case n20table => k_is)
      (case n20front => k_is)
      (case n20back => k_is)
      (case n20behind => k_is)
      (case n20many => k_is)
      (case a21 => k_is)
      (case a22 => k_is)
      (case a23 => k_is)
      (case a24 => k_is)
      (case a25 => k_is)
      (case m2000 => k_is)
      (case i2000 => k_is)
      (case l2000 => k_is)
      (case q2000 => k_is)
      (case k2000 => k_is)
      (case m2001 => k_is)
      (case i2001 => k_is)
      (case l2001 => k_is)
      (case q2001 => k_is)
      (case k2001 => k_is)
      (case m2002 => k_is)
      (case i2002 => k_is)
      (case l2002 => k_is)
      (case q2002 => k_is)
      (case k2002 => k_is)
      (case m2003 => k_is)
      (case i2003 => k_is)
      (case l2003 => k_is)
      (case q2003 => k_is)
      (case k2003 => k_is)
      (case m2004 => k_is)
      (case i2004 => k_is)
      (case l2004 => k_is)
      (case q2004 => k_is)
      (case k2004 => k_is)
      (case m2005 => k_is)
      (case i2005 => k_is)
      (case l2005 => k_is)
      (case q2005 => k_is)
      (case k2005 => k_is)
      (case m2006 => k_is)
      (case i2006 => k_is)
      (case l2006 => k_is)
      (case q2006 => k_is)
      (case k2006 => k_is)
      (case m2007 => k_is)
      (case i2007 => k_is)
      (case l2007 => k_is)
      (case q2007 => k_is)
      (case k2007 => k_is)
      (case m2008 => k_is)
      (case i2008 => k_is)
      (case l2008 => k_is)
      (case q2008 => k_is)
      (case k2008 => k_is)
      (case x22 => k_exc)
      (case kp22 => k_is)
      (case bb22 => k_is)
      (case ty22 => k_is)
      (case hd22 => k_is)
      (case ga22 => k_is)
      (case gt22 => k_is)
      (case cc22 => k_is)
      (case sp0 => k_is)
      (case tk0 => k_is)
      (case mo22 => k_is)
      (case x24 => k_exc)
      (case kp24 => k_is)
      (case bb24 => k_is)
      (case ty24 => k_is)
      (case hd24 => k_is)
      (case ga24 => k_is)
      (case gt24 => k_is)
      (case cc24 => k_is)
      (case mo24 => k_is)
      (case su24_24 => first | rfl | k_is)
      (case su22_24 => first | rfl | k_is)
      (case su22_22 => first | rfl | k_is)
      (case su24_21 => first | rfl | k_is)
      (case is21 => k_is)
      (case ty21 => k_is)
      (case ne24_21 => first | rfl | decide)
      (case su24_22 => first | rfl | k_is)
      (case is22 => k_is)
      (case ne24_22 => first | rfl | decide)
      (case su24_25 => first | rfl | k_is)
      (case is25 => k_is)
      (case ty25 => k_is)
      (case ne24_25 => first | rfl | decide)
      (case su24_23 => first | rfl | k_is)
      (case is23 => k_is)
      (case ty23 => k_is)
      (case ne24_23 => first | rfl | decide)
      (case su22_21 => first | rfl | k_is)
      (case ne22_21 => first | rfl | decide)
      (case is24 => k_is)
      (case ne22_24 => first | rfl | decide)
      (case su22_25 => first | rfl | k_is)
      (case ne22_25 => first | rfl | decide)
      (case su22_23 => first | rfl | k_is)
      (case ne22_23 => first | rfl | decide)
    obtain ⟨f7, d7, D7⟩ := X7
    obtain ⟨f11, d11, D11⟩ := X11
    obtain ⟨f13, d13, D13⟩ := X13
    obtain ⟨f14, d14, D14⟩ := X14
    obtain ⟨f15, d15, D15⟩ := X15
    obtain ⟨f16, d16, D16⟩ := X16
    obtain ⟨f17, d17, D17⟩ := X17
    obtain ⟨f18, d18, D18⟩ := X18
    obtain ⟨f19, d19, D19⟩ := X19
    obtain ⟨f20, d20, D20⟩ := X20
    obtain ⟨f21, d21, D21⟩ := X21
    obtain ⟨f22, d22, D22⟩ := X22
    obtain ⟨f24, d24, D24⟩ := X24
    obtain ⟨f25, d25, D25⟩ := X25
    obtain ⟨f26, d26, D26⟩ := X26
    obtain ⟨f27, d27, D27⟩ := X27
    obtain ⟨f28, d28, D28⟩ := X28
    obtain ⟨f29, d29, D29⟩ := X29
    obtain ⟨f30, d30, D30⟩ := X30
    obtain ⟨c0, g_MOVES, s_MOVES⟩ := Y_MOVES
    obtain ⟨c20, c21, c22, c23, c24, c25, f2000, f2001, f2002, f2003, f2004, f2005, f2006, f2007, f2008, d2000, d2001, d2002, d2003, d2004, d2005, d2006, d2007, d2008, gc_Window, c_Window, n_Window_table, n_Window_front, n_Window_back, n_Window_behind, n_Window_many, gc_ScarpError, gc_NotAllowed, gc_TooLarge, gc_Missing, gc_BadPaper, d_Window_init, bi_Window_init, mk_Window, d_Window_product, bi_Window_product, m_Window_product, d_Window_push, bi_Window_push, m_Window_push, d_Window_pop, bi_Window_pop, m_Window_pop, d_Window_turn, bi_Window_turn, m_Window_turn, d_Window_value, bi_Window_value, m_Window_value, d_Window_letters, bi_Window_letters, m_Window_letters, d_Window_stored, bi_Window_stored, m_Window_stored, d_Window_made, bi_Window_made, m_Window_made, x_NotAllowed, k_NotAllowed, bb_NotAllowed, ty_NotAllowed, e_NotAllowed, x_Missing, k_Missing, bb_Missing, ty_Missing, e_Missing, em_Missing_Missing, em_NotAllowed_Missing, em_NotAllowed_NotAllowed, ki_Missing_ScarpError, ki_Missing_NotAllowed, ki_Missing_BadPaper, ki_Missing_TooLarge, ki_NotAllowed_ScarpError, ki_NotAllowed_Missing, ki_NotAllowed_BadPaper, ki_NotAllowed_TooLarge⟩ := XC
    obtain ⟨ad, fu, ca, T, e1, e2⟩ := K92.tx_mk D7 d_Window_init bi_Window_init mk_Window d_Window_product bi_Window_product m_Window_product d_Window_push bi_Window_push m_Window_push d_Window_pop bi_Window_pop m_Window_pop d_Window_turn bi_Window_turn m_Window_turn d_Window_value bi_Window_value m_Window_value d_Window_letters bi_Window_letters m_Window_letters d_Window_stored bi_Window_stored m_Window_stored d_Window_made bi_Window_made m_Window_made D11 D13 D14 D15 D16 D17 D18 D19 D20 D21 D22 D24 D25 D26 D27 D28 D29 D30 Z_abs Z_all Z_int Z_isinstance Z_len Z_min Z_range Z_repr Z_reversed Z_sorted Z_str Z_sum Z_tuple g_MOVES s_MOVES ⟨_, gc_Window, rfl⟩ gc_Window c_Window n_Window_table n_Window_front n_Window_back n_Window_behind n_Window_many ⟨_, gc_ScarpError, rfl⟩ gc_ScarpError ⟨_, gc_NotAllowed, rfl⟩ gc_NotAllowed ⟨_, gc_TooLarge, rfl⟩ gc_TooLarge ⟨_, gc_Missing, rfl⟩ gc_Missing ⟨_, gc_BadPaper, rfl⟩ gc_BadPaper x_NotAllowed k_NotAllowed bb_NotAllowed ty_NotAllowed e_NotAllowed x_Missing k_Missing bb_Missing ty_Missing e_Missing em_Missing_Missing em_NotAllowed_Missing em_NotAllowed_NotAllowed ki_Missing_ScarpError ki_Missing_NotAllowed ki_Missing_BadPaper ki_Missing_TooLarge ki_NotAllowed_ScarpError ki_NotAllowed_Missing ki_NotAllowed_BadPaper ki_NotAllowed_TooLarge
    refine ⟨f30, d30, D30.m, D30.b, fun bs _ _ => ?_⟩
    have ok := K92.law_ok (P := PySem.Challenge.rw_scarpface_k92_windows_by_two_stacks.prog) (base := bs) T
    rw [e1, e2] at ok
    exact ok
#print axioms PySem.Challenge.cw_scarpface_k92_windows_by_two_stacks_holds
