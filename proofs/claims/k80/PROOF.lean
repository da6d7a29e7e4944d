import PyProof.Rows.All
import Wide.All
import OpenK.AllK
import Wide.FinOn
import HandS.ForMost
import HandS.Star
import HandS.TupAny
import HandS.Deep
import HandS.Conv
import HandS.Replace
import HandS.ReplaceLit
import HandS.ReplaceList
import PyProof.ReprLen
import PySem.Challenge.RW_scarpface_k80_commands_read
set_option Elab.async false
set_option linter.all false
set_option maxHeartbeats 2000000
set_option maxRecDepth 100000
/-! own layer over HandS: a def's promise where no guard stands around (so that repr can be called) -/
namespace Sf
open PySem PySem.Spec PyProof.Rows L2
/-- as FnOk, but only where no guard (of repr) runs around -/
structure FnG (Pg : Program) (wo : World) (Kf : PySem.W.Frag) (glo : Str → Option Value) (bs : Heap) (cx : CXT) (lv : Nat) (ad : Addr) (fu : FuncData) (pl : List Str) (pr : Sp) : Prop where
  len : ∀ a b c d, pr a b c d → a.length = pl.length
  go : ∀ (R : Around) (out : List Env) (st : Shared) (Hh : Hp) (ar : Args) (uu : List Value) (vv : List V) (q : VK) (x : XK), R.guards = some [] → Room lv R → Env0 Pg wo Kf glo bs R out st Hh →
    BindsTo st fu ar (pl.zip uu) → Vals vv uu → pr vv Hh q x → codeAny (model Pg wo) R (.call (.ref ad) ar) (CR cx out Pg wo Hh st q x) st
theorem FnG.of {Pg : Program} {wo : World} {Kf : PySem.W.Frag} {glo : Str → Option Value} {bs : Heap} {cx : CXT} {lv : Nat} {ad : Addr} {fu : FuncData} {pl : List Str} {pr : Sp} (F : FnOk Pg wo Kf glo bs cx lv ad fu pl pr) : FnG Pg wo Kf glo bs cx lv ad fu pl pr :=
  ⟨F.len, fun R out st Hh ar uu vv q x _ => F.run R out st Hh ar uu vv q x⟩
theorem FnG.up {Pg : Program} {wo : World} {Kf : PySem.W.Frag} {glo : Str → Option Value} {bs : Heap} {cx : CXT} {lv lw : Nat} {ad : Addr} {fu : FuncData} {pl : List Str} {pr : Sp} (F : FnG Pg wo Kf glo bs cx lv ad fu pl pr) (h : lv ≤ lw) :
    FnG Pg wo Kf glo bs cx lw ad fu pl pr := ⟨F.len, fun R out st Hh ar uu vv q x g r => F.go R out st Hh ar uu vv q x g (r.mono h)⟩
section
variable {X : Cx} {cx : CXT} {lv : Nat} {ad C : Addr} {fu : FuncData} {pl : List Str} {pr : Sp} {E : XK}
/-- the callee runs -/
theorem go_fn {pins : List (Addr × Obj)} {sl : L2.St} {Hh : Hp} {st : Shared} {q : VK} {uu : List Value} {vv : List V} (F : FnG X.prog X.w X.K X.mg X.base cx lv ad fu pl pr) (gd : X.A.guards = some []) (ro : Room lv X.A) (bi : Binds X.K fu pl [])
    (ps : Passes cx X E) (I : Inv X pins sl Hh st) (rv : Vals vv uu) (h : pr vv Hh q E) : wpAny (model X.prog X.w) X.A (call (.ref ad) uu) (EP X pins sl q) X.xe st := by
  have ln : uu.length = pl.length := rv.length.symm.trans (F.len _ _ _ _ h)
  have bt : BindsTo st fu ⟨uu, []⟩ (pl.zip uu) := by
    have z := bi st uu I.kIn (by rw [List.append_nil]; exact ln)
    rw [List.append_nil] at z
    exact z
  refine wpAny_call (codeAny_mono (F.go X.A X.stack st Hh ⟨uu, []⟩ uu vv q E gd ro I.env0 bt rv h) fun res st' done => ?_)
  match res, done with
  | .error e, done => exact ps pins sl Hh st e st' I done
  | .ok (.ret u), done => exact I.after done
  | .ok .next, done => exact done.elim
  | .ok .brk, done => exact done.elim
  | .ok .cont, done => exact done.elim
end
/-- a def of the top: where it stands, its name, how it binds -/
structure Df (Kf : PySem.W.Frag) (glo : Str → Option Value) (x : Str) (st : Stmt) (pl : List Str) (ad : Addr) (fu : FuncData) : Prop where
  F : Fun Kf x x st ad fu
  m : glo x = some (.ref ad)
  b : Binds Kf fu pl []
def rCallG (pr : Sp) (E : XK) (t : TA) : TE := fun sl Hh q => t sl Hh fun vv H1 => pr vv H1 q E
section
variable {X : Cx} {cx : CXT} {lv : Nat} {ad : Addr} {fu : FuncData} {pl : List Str} {pr : Sp} {E : XK} {x : Str} {st : Stmt} {p pos : Pos} {e : Expr} {es : List Expr} {t : TA}
/-- f(e, ..), f a def of the top -/
theorem pe_callG (D : Df X.K X.mg x st pl ad fu) (F : FnG X.prog X.w X.K X.mg X.base cx lv ad fu pl pr) (gd : X.A.guards = some []) (ro : Room lv X.A) (ps : Passes cx X E) (ha : PA X (e :: es) t) (hg : Gl X x := by rfl)
    (dbg : (x == ("__debug__" : Str)) = false := by decide) (hst : starEach (e :: es) X.env = (false, eval e X.env) :: starEach es X.env := by rfl) (hbk : (backTo pos (starEach es X.env)).any (·.1) = false := by rfl) :
    PE X (.Call (.Name x p) (e :: es) [] pos) (rCallG pr E t) := by
  constructor
  intro pins s σ H Q I h
  apply wpAny_Call_Name_kw
  apply ld_glob I hg D.m _ dbg
  apply PySem.W.callWith_K (h₀ := X.base) I.ok.mod.kin D.F.kp _ hst hbk
  exact thn (ha.run pos pins s σ H _ I h) fun uu s1 ⟨vv, H1, I1, rv, hq⟩ => ⟨I1.kIn, go_fn F gd ro D.b ps I1 rv hq⟩
/-- f() -/
theorem pe_callG0 (D : Df X.K X.mg x st pl ad fu) (F : FnG X.prog X.w X.K X.mg X.base cx lv ad fu pl pr) (gd : X.A.guards = some []) (ro : Room lv X.A) (ps : Passes cx X E) (hg : Gl X x := by rfl)
    (dbg : (x == ("__debug__" : Str)) = false := by decide) : PE X (.Call (.Name x p) [] [] pos) (rCallG pr E tNil) := by
  constructor
  intro pins s σ H Q I h
  apply wpAny_Call_Name_kw
  apply ld_glob I hg D.m _ dbg
  exact PySem.W.callWith_K0 I.kIn D.F.kp (go_fn (uu := []) F gd ro D.b ps I .nil h)
end
/-- what a body's derivation shows -/
def Body (Pg : Program) (wo : World) (Kf : PySem.W.Frag) (glo : Str → Option Value) (bs : Heap) (lv : Nat) (x : Str) (st : Stmt) (ad : Addr) (nm : List Str) (t : TS) : Prop :=
  ∀ (cdv : Value) (R : Around) (out : List Env) (s : Shared) (Hh : Hp) (E : XK), R.guards = some [] → Room lv (R.deeper (envOfC x (defScope st) s.heap.objs.size ad cdv)) →
    PSs (cxOf CX0 Pg wo Kf glo bs nm x (defScope st) ad cdv R out s Hh E).nox (defBody st) t
theorem ok_fun {Pg : Program} {wo : World} {Kf : PySem.W.Frag} {glo : Str → Option Value} {bs : Heap} {lv : Nat} {x : Str} {st : Stmt} {ad : Addr} {fu : FuncData} {nm pl : List Str} {pr : Sp} {t : TS} (F : Fun Kf x x st ad fu) (S : FnScope nm pl (defScope st))
    (len : ∀ a b c d, pr a b c d → a.length = pl.length) (B : Body Pg wo Kf glo bs lv x st ad nm t) (h : ∀ vv Hh q E, pr vv Hh q E → t { nx := fun _ H' => q .non H', rt := q } (start nm vv) Hh) :
    FnG Pg wo Kf glo bs CX0 (lv + 1) ad fu pl pr := by
  obtain ⟨oc, od, kV, doc, pm, an, cdv, ct, osl, rfl, lk, hcd⟩ := F.ex
  refine ⟨len, fun R out s Hh ar uu vv q E gd ro e0 bt rv hp => ?_⟩
  have ln := len _ _ _ _ hp
  have inK : Kf.In s.heap := e0.mod.kin.keeps fun b o e => (e0.bs b o e).1
  have nol : s.heap.NoLimit := e0.mod.nolimit.keeps fun b o e => (e0.bs b o e).1
  refine codeAny_call_function ro.depth (inK _ _ lk) rfl S.co S.gen rfl (PySem.W.codeRec_of inK hcd) (bt _ _ _ _ ?_)
  refine wpAny_newFunctionEnv_cells S.kind (fun ⟨n, v⟩ hy => ?_) fun env he s1 ic => ?_
  · cases S.par n (List.of_mem_zip hy).1 with
    | inl z => exact Or.inl z
    | inr z => exact Or.inr ⟨z, PySem.W.cellsFrom_some _ _ _ (Or.inl z)⟩
  · subst he
    refine ⟨nol.keeps ic.toInCall.keep, codeAny_func ?_⟩
    have I0 := inv_start (CX := CX0) (E := E) S ro.hd e0 ln rv ic
    have I : Inv (cxOf CX0 Pg wo Kf glo bs nm x (defScope st) ad cdv R out s Hh E).nox [] (start nm vv) Hh s1 := I0.wish _
    refine wpAny_mono ((B cdv R out s Hh E gd (ro.deeper _)).run [] s1 (start nm vv) Hh _ I (h vv Hh q E hp)) (fun fl s' hs => ?_) fun e s' hs => hs.elim
    match fl, hs with
    | .ret u, ⟨v, σ', H', J, rv', qv⟩ => exact ⟨v, H', J.os, J.bare, J.base, J.hok, rv', qv⟩
    | .next, ⟨σ', H', J, qv⟩ => exact ⟨V.non, H', J.os, J.bare, J.base, J.hok, rfl, qv⟩
    | .brk, ⟨_, _, _, z⟩ => exact z.elim
    | .cont, ⟨_, _, _, z⟩ => exact z.elim
/-! ### repr of data -/
def rReprD (Kf : PySem.W.Frag) : List V → Hp → VK → Prop := fun vv Hh q => ∃ a d, vv = [V.ref a] ∧ Dp Kf Hh (V.ref a) d ∧ d.showable = true ∧ d.hasDict = false ∧ d.depth ≤ 60 ∧ d.shown.length ≤ sizeLine ∧ q (.str d.shown) Hh
theorem call_reprD {X : Cx} (gd : X.A.guards = some []) (hu : X.A.units + 64 < cLine) : CallR X (.builtin "repr") (rReprD X.K) := by
  intro pins s σ H xs us Q I rv h
  obtain ⟨a, d, rfl, dp, sh, nd, de, sz, q⟩ := h
  cases rv with
  | cons r0 rn =>
    cases rn
    obtain rfl := r0
    obtain ⟨as, rd⟩ := Dp.reads I d _ _ dp rfl
    exact repr_of_reads' rd sh (PyData.noDict_hsm nd) gd (by omega) (fun _ _ e => e) (fun h' u tk kp => ⟨.str d.shown, H, I.kept (t' := tk) kp, ⟨u, rfl⟩, q⟩) sz
end Sf
namespace Sf
open PySem PySem.Spec PyProof.Rows L2
/-! ### short names of readings -/
abbrev rdAdd : R2 := rI0 fun i j => .int (i + j)
abbrev rdSub : R2 := rI0 fun i j => .int (i - j)
abbrev rdMul : R2 := rI CMul fun i j => .int (i * j)
abbrev rdDiv : R2 := rI CDiv fun i j => .int (i / j)
abbrev rdMod : R2 := rI (fun _ j => 0 < j) fun i j => .int (i % j)
abbrev rdPow : R2 := rI CPow fun i j => .int (i ^ j.toNat)
abbrev rdLt : R2 := rI0 fun i j => .bl (decide (i < j))
abbrev rdLe : R2 := rI0 fun i j => .bl (decide (i ≤ j))
abbrev rdGt : R2 := rI0 fun i j => .bl (decide (j < i))
abbrev rdGe : R2 := rI0 fun i j => .bl (decide (j ≤ i))
abbrev rdAddS : R2 := fun u v H Q => ∃ i j, u = .str i ∧ v = .str j ∧ i.length + j.length ≤ sizeLine ∧ Q (.str (i ++ j)) H
abbrev rdLtS : R2 := fun u v H Q => ∃ i j, u = .str i ∧ v = .str j ∧ Q (.bl (decide (i.cps.toList < j.cps.toList))) H
abbrev rdLeS : R2 := fun u v H Q => ∃ i j, u = .str i ∧ v = .str j ∧ Q (.bl (!decide (j.cps.toList < i.cps.toList))) H
abbrev rdIsN : R2 := fun u v H Q => v = .non ∧ Q (.bl (decide (u = .non))) H
abbrev rdNotN : R2 := fun u v H Q => v = .non ∧ Q (.bl (!decide (u = .non))) H
abbrev rdInS : R2 := fun u v H Q => ∃ (c : Nat) (z : Str), u = .str ⟨#[c]⟩ ∧ v = .str z ∧ Q (.bl (decide (c ∈ z.cps.toList))) H
abbrev rdNotInS : R2 := fun u v H Q => ∃ (c : Nat) (z : Str), u = .str ⟨#[c]⟩ ∧ v = .str z ∧ Q (.bl (!decide (c ∈ z.cps.toList))) H
abbrev rInKd (K : PySem.W.Frag) (d : Addr) : R2 := fun u v H Q => ∃ (z : Str) (r : Option Value), u = .str z ∧ v = .ref d ∧ PySem.W.nsIn K d z = some r ∧ Q (.bl r.isSome) H
abbrev rItemKd (K : PySem.W.Frag) (d : Addr) : R2 := fun u v H Q => ∃ (z : Str) (u0 : Value) (j : Int), u = .ref d ∧ v = .str z ∧ PySem.W.nsIn K d z = some (some u0) ∧ RelV (.int j) u0 ∧ Q (.int j) H
abbrev rdLen (K : PySem.W.Frag) : List V → Hp → VK → Prop := fun a H Q => ∃ p ys, a = [.ref p] ∧ (SqL K H p ys ∨ SqT K H p ys) ∧ Q (.int ys.length) H
abbrev rdLenS : List V → Hp → VK → Prop := fun a H Q => ∃ z, a = [.str z] ∧ z.length ≤ sizeLine ∧ Q (.int z.length) H
abbrev rdAbs : List V → Hp → VK → Prop := fun a H Q => ∃ i, a = [.int i] ∧ Q (.int (if i < 0 then -i else i)) H
abbrev rdMin2 : List V → Hp → VK → Prop := fun a H Q => ∃ i j, a = [.int i, .int j] ∧ Q (.int (if j < i then j else i)) H
abbrev rdMax2 : List V → Hp → VK → Prop := fun a H Q => ∃ i j, a = [.int i, .int j] ∧ Q (.int (if j > i then j else i)) H
abbrev rdInt : List V → Hp → VK → Prop := fun a H Q => (∃ i, a = [.int i] ∧ Q (.int i) H) ∨ ∃ k, a = [.bl k] ∧ Q (.int (if k then 1 else 0)) H
abbrev rdIntS : List V → Hp → VK → Prop := fun xs H Q => ∃ a n, xs = [.str a] ∧ PySem.intText? a = some n ∧ a.length ≤ 640 ∧ Q (.int n) H
abbrev rdStr : List V → Hp → VK → Prop := fun a H Q => ∃ i, a = [.int i] ∧ i.natAbs.log2 < 1920 ∧ Q (.str (toString i)) H
abbrev rdTuple (K : PySem.W.Frag) : List V → Hp → VK → Prop := fun a H Q => ∃ p ys, a = [.ref p] ∧ ((SqL K H p ys ∧ ∀ l, H l = none → Q (.ref l) (upd H l (.tup ys))) ∨ (SqT K H p ys ∧ Q (.ref p) H))
abbrev rdList (K : PySem.W.Frag) : List V → Hp → VK → Prop := fun a H Q => ∃ p ys, a = [.ref p] ∧ (SqL K H p ys ∨ SqT K H p ys) ∧ ∀ l, H l = none → Q (.ref l) (upd H l (.lst ys))
abbrev rdSplit : V → List V → Hp → VK → Prop := fun u xs H Q => ∃ a b, u = .str a ∧ xs = [.str b] ∧ (b.length == 0) = false ∧ a.length + 2 ≤ sizeLine ∧ rNewStrs (Txt.split a b) H Q
abbrev rdJoin (K : PySem.W.Frag) : V → List V → Hp → VK → Prop := fun u xs H Q => ∃ a p, ∃ ys : List Str, u = .str a ∧ xs = [.ref p] ∧ (SqL K H p (ys.map V.str) ∨ SqT K H p (ys.map V.str)) ∧
  (ys.map (·.length)).sum + ys.length * a.length ≤ 16777216 ∧ Q (.str (Txt.join a ys)) H
/-! ### rules of our own -/
/-- the module's name x holds the value v -/
def Gc (glo : Str → Option Value) (x : Str) (v : V) : Prop := ∃ u, glo x = some u ∧ RelV v u
theorem pe_globE {X : Cx} {x : Str} {v : V} {pos : Pos} (hg : Gl X x) (h : Gc X.mg x v) (hd : (x == ("__debug__" : Str)) = false := by decide) : PE X (.Name x pos) (tC v) := by
  obtain ⟨u, e, r⟩ := h
  exact pe_glob hg e r hd
/-- d[k], d a written dict with text keys, the value an int -/
theorem ix_kd {X : Cx} {d : Addr} {es : Array DictEntry} {n : Nat} (D : KDict X.K X.w d es n) : IxR X (rItemKd X.K d) := by
  intro value slice pins s σ H x y v u Q I rx ry ⟨z, u0, j, ex, ey, e, r, q⟩ hs
  subst ex
  obtain rfl : v = Value.ref d := rx
  refine subscriptTail_builtin_flat (kd_type D I) PySem.F.slot_dict_getitem.lookup (wpAny_mono (op_item_kd D pins s σ H (.ref d) y (.ref d) u (fun w H1 => (∃ k, w = V.int k) ∧ Q w H1) I rfl ry ⟨z, u0, .int j, rfl, ey, e, r, ⟨j, rfl⟩, q⟩) (fun w s1 h => ?_) fun _ _ z => z) hs
  obtain ⟨w', H1, I1, rw', ⟨k, ek⟩, q1⟩ := h
  subst ek
  obtain ⟨t, et⟩ := id rw'
  subst et
  exact ⟨fun a => nofun, .int k, H1, I1, rw', q1⟩
theorem hu64 {k : Nat} {A : Around} (r : Room k A) : A.units + 64 < cLine := r.units
/-! ### heaps -/
section
variable {K : PySem.W.Frag} {H H' : Hp} {p q a : Addr} {o u : HO} {xs : List V} {v : V} {d : PyData}
theorem g_same : upd H p o p = some o := upd_same
theorem g_new (hr : H p = none) (h : H q = some u) : upd H p o q = some u := by rw [upd_ne (ne_of_none h hr)]; exact h
theorem g_mut (hn : q ≠ p) (h : H q = some u) : upd H p o q = some u := by rw [upd_ne hn]; exact h
theorem n_new (hn : q ≠ p) (h : H q = none) : upd H p o q = none := by rw [upd_ne hn]; exact h
/-- all is kept, the objects at the addresses S aside -/
def Kp (S : List Addr) (H H' : Hp) : Prop := ∀ b o, H b = some o → b ∉ S → H' b = some o
theorem Kp.refl (S : List Addr) (H : Hp) : Kp S H H := fun _ _ h _ => h
theorem Kp.trans {S : List Addr} {H0 H1 H2 : Hp} (a : Kp S H0 H1) (b : Kp S H1 H2) : Kp S H0 H2 := fun c o h n => b c o (a c o h n) n
theorem Kp.new {S : List Addr} {H0 H1 : Hp} (k : Kp S H0 H1) (h : H1 p = none) : Kp S H0 (upd H1 p o) := fun b u e n => g_new h (k b u e n)
theorem Kp.mut {S : List Addr} {H0 H1 : Hp} (k : Kp S H0 H1) (h : p ∈ S) : Kp S H0 (upd H1 p o) := fun b u e n => g_mut (fun z => n (z ▸ h)) (k b u e n)
/-- what H0 doesn't know may change -/
theorem Kp.own {S : List Addr} {H0 H1 : Hp} (k : Kp S H0 H1) (h : H0 p = none) : Kp S H0 (upd H1 p o) := fun b u e n => g_mut (ne_of_none e h) (k b u e n)
theorem Kp.sub {S S' : List Addr} {H0 H1 : Hp} (k : Kp S H0 H1) (h : ∀ x ∈ S, x ∈ S') : Kp S' H0 H1 := fun b o e n => k b o e fun z => n (h b z)
theorem Kp.get {S : List Addr} (k : Kp S H H') (n : q ∉ S) (h : H q = some u) : H' q = some u := k q u h n
theorem Kp.free {S : List Addr} (k : Kp S H H') (n : q ∉ S) (h : H' q = none) : H q = none := by
  cases e : H q with
  | none => rfl
  | some z => rw [k q z e n] at h; cases h
theorem Kp.rd {S : List Addr} (k : Kp S H H') (n : a ∉ S) (h : Rd H a u) : Rd H' a u := by
  rcases h with h | ⟨z, h⟩
  · exact .inl (k _ _ h n)
  · exact .inr ⟨z, k _ _ h n⟩
theorem Kp.sqL {S : List Addr} (k : Kp S H H') (n : a ∉ S) (h : SqL K H a xs) : SqL K H' a xs := by
  rcases h with h | h
  · exact .inl (k.rd n h)
  · exact .inr h
theorem Kp.sqT {S : List Addr} (k : Kp S H H') (n : a ∉ S) (h : SqT K H a xs) : SqT K H' a xs := by
  rcases h with h | h
  · exact .inl (k.rd n h)
  · exact .inr h
mutual
theorem Kp.dp0 (k : Kp [] H H') : ∀ {v : V} {d : PyData}, Dp K H v d → Dp K H' v d
  | _, _, .non => .non
  | _, _, .bl b => .bl b
  | _, _, .int i => .int i
  | _, _, .str x => .str x
  | _, _, .lst h r => .lst (k.sqL (by simp) h) (Kp.dps0 k r)
  | _, _, .tup h r => .tup (k.sqT (by simp) h) (Kp.dps0 k r)
theorem Kp.dps0 (k : Kp [] H H') : ∀ {vs : List V} {ds : List PyData}, DpAll K H vs ds → DpAll K H' vs ds
  | _, _, .nil => .nil
  | _, _, .cons h r => .cons (Kp.dp0 k h) (Kp.dps0 k r)
end
theorem kp_new (h : H p = none) : Kp [] H (upd H p o) := (Kp.refl [] H).new h
end
/-! ### data without lists: it stands whatever else is written -/
mutual
def noL : PyData → Bool
  | .none => true
  | .bool _ => true
  | .int _ => true
  | .str _ => true
  | .tuple xs => noLs xs
  | _ => false
def noLs : List PyData → Bool
  | [] => true
  | x :: r => noL x && noLs r
end
/-- tuples (and what is known) stand -/
def Tk (H H' : Hp) : Prop := (∀ b xs, H b = some (.tup xs) → H' b = some (.tup xs)) ∧ ∀ b z u, H b = some (.frz z u) → H' b = some (.frz z u)
section
variable {K : PySem.W.Frag} {H H' H'' : Hp} {p q a : Addr} {o u : HO} {xs : List V} {v : V} {d : PyData}
theorem Tk.refl (H : Hp) : Tk H H := ⟨fun _ _ h => h, fun _ _ _ h => h⟩
theorem Tk.trans (a : Tk H H') (b : Tk H' H'') : Tk H H'' := ⟨fun c x h => b.1 c x (a.1 c x h), fun c z u h => b.2 c z u (a.2 c z u h)⟩
theorem Tk.new (k : Tk H H') (h : H' p = none) : Tk H (upd H' p o) := ⟨fun c x e => g_new h (k.1 c x e), fun c z u e => g_new h (k.2 c z u e)⟩
theorem Tk.lst {ys : List V} (k : Tk H H') (h : H' p = some (.lst ys)) : Tk H (upd H' p o) := by
  refine ⟨fun c x e => g_mut ?_ (k.1 c x e), fun c z u e => g_mut ?_ (k.2 c z u e)⟩
  · rintro rfl
    rw [k.1 c x e] at h; cases h
  · rintro rfl
    rw [k.2 c z u e] at h; cases h
theorem Tk.sqT (k : Tk H H') (h : SqT K H a xs) : SqT K H' a xs := by
  rcases h with h | h
  · rcases h with h | ⟨z, h⟩
    · exact .inl (.inl (k.1 _ _ h))
    · exact .inl (.inr ⟨z, k.2 _ _ _ h⟩)
  · exact .inr h
theorem Kp.tk (k : Kp [] H H') : Tk H H' := ⟨fun b xs h => k b _ h (by simp), fun b z u h => k b _ h (by simp)⟩
mutual
theorem Tk.dp (k : Tk H H') : ∀ {v : V} {d : PyData}, noL d = true → Dp K H v d → Dp K H' v d
  | _, _, _, .non => .non
  | _, _, _, .bl b => .bl b
  | _, _, _, .int i => .int i
  | _, _, _, .str x => .str x
  | _, _, n, .lst h r => by simp [noL] at n
  | _, _, n, .tup h r => .tup (k.sqT h) (Tk.dps k (by simpa [noL] using n) r)
theorem Tk.dps (k : Tk H H') : ∀ {vs : List V} {ds : List PyData}, noLs ds = true → DpAll K H vs ds → DpAll K H' vs ds
  | _, _, _, .nil => .nil
  | _, _, n, .cons h r => .cons (Tk.dp k (by simp [noLs] at n; exact n.1) h) (Tk.dps k (by simp [noLs] at n; exact n.2) r)
end
/-- the only object that may change is a list -/
theorem Kp.tk1 {ys : List V} (k : Kp [p] H H') (h : H p = some (.lst ys)) : Tk H H' := by
  refine ⟨fun b x e => k b _ e ?_, fun b z u e => k b _ e ?_⟩
  · intro z
    have z' : b = p := by simpa using z
    subst z'
    rw [h] at e; cases e
  · intro z2
    have z' : b = p := by simpa using z2
    subst z'
    rw [h] at e; cases e
end
/-! ### data of a kind -/
theorem dps_strs {K : PySem.W.Frag} {H : Hp} : ∀ (xs : List Str), DpAll K H (xs.map V.str) (xs.map PyData.str)
  | [] => .nil
  | x :: r => .cons (.str x) (dps_strs r)
theorem dps_ints {K : PySem.W.Frag} {H : Hp} : ∀ (xs : List Int), DpAll K H (xs.map V.int) (xs.map PyData.int)
  | [] => .nil
  | x :: r => .cons (.int x) (dps_ints r)
theorem dps_app {K : PySem.W.Frag} {H : Hp} : ∀ {xs ys : List V} {ds es : List PyData}, DpAll K H xs ds → DpAll K H ys es → DpAll K H (xs ++ ys) (ds ++ es)
  | _, _, _, _, .nil, h => h
  | _, _, _, _, .cons a r, h => .cons a (dps_app r h)
theorem dps_len {K : PySem.W.Frag} {H : Hp} : ∀ {xs : List V} {ds : List PyData}, DpAll K H xs ds → xs.length = ds.length
  | _, _, .nil => rfl
  | _, _, .cons a r => by simp [dps_len r]
end Sf
namespace Sf
open PySem PySem.Spec PyProof.Rows L2 CwR
/-- a + 'text', then more items, which may lean on a token that is there -/
theorem pa_consP {X : Cx} {a : Expr} {ta : TE} {y : Str} {j : Nat} {cp bp : Pos} {es : List Expr} {t : TA} (ha : PE X a ta) (hr : PAT X es t)
    (hs : starEach (.BinOp a .Add (.Constant (.str y) j cp) bp :: es) X.env = (false, eval (.BinOp a .Add (.Constant (.str y) j cp) bp) X.env) :: starEach es X.env := by rfl) :
    PA X (.BinOp a .Add (.Constant (.str y) j cp) bp :: es) (tCons (tOp rdAddS ta (tC (.str y))) t) := by
  constructor
  intro pos pins s σ H Q I h
  rw [hs]
  refine Calls.spliced_cons (x := eval (.BinOp a .Add (.Constant (.str y) j cp) bp) X.env) (rest := backTo pos (starEach es X.env)) (wpAny_BinOp (thn (ha.run pins s σ H _ I h) fun v s1 ⟨x, H1, I1, rx, q1⟩ => Calls.Constant_str ?_))
  refine wpAny_mono (wpAny_toks_of (n := 1) (Nat.le_add_left 1 s1.toks) (op_add_str pins { s1 with toks := s1.toks + 1 } σ H1 x (.str y) v _ (fun z H2 => t σ H2 fun zs H3 => Q (z :: zs) H3) (I1.tok _) rx ⟨_, rfl⟩ q1)) (fun w s2 ⟨tk, z, H2, I2, rz, q2⟩ => ?_) fun _ _ e => e.2
  exact thn (hr pos pins s2 σ H2 _ tk I2 q2) fun us s3 ⟨zs, H3, I3, r3, q3⟩ => ⟨z :: zs, H3, I3, .cons rz r3, q3⟩
theorem pat_one {X : Cx} {e : Expr} {te : TE} (he : PET X e te) (hs : starEach [e] X.env = [(false, eval e X.env)] := by rfl) : PAT X [e] (tCons te tNil) := by
  intro pos pins s σ H Q tk I h
  rw [hs]
  exact Calls.spliced_cons (x := eval e X.env) (rest := []) (thn (he pins s σ H _ tk I h) fun v s1 ⟨x, H1, I1, rx, q1⟩ => Calls.spliced_nil ⟨[x], H1, I1, .cons rx .nil, q1⟩)
end Sf
namespace Sf
open PySem PySem.Spec PyProof.Rows L2
/-- a written dict of texts to ints, as it is asked -/
def KdInts (K : PySem.W.Frag) (d : Addr) (m : List (Str × Int)) : Prop := ∀ z : Str, ∃ r, PySem.W.nsIn K d z = some r ∧ (m.lookup z = none → r = none) ∧ ∀ i, m.lookup z = some i → ∃ t, r = some (Value.int i t)
/-- the law's source of numbers: the list at st holds the address nu of its numbers and how many were drawn, at most n -/
def StB (H : Hp) (st nu : Addr) (n : Nat) : Prop := ∃ (k : Nat) (ns : List Int), k ≤ n ∧ H st = some (.lst [.ref nu, .int (k : Int)]) ∧ H nu = some (.lst (ns.map V.int)) ∧ nu ≠ st ∧ ns ≠ [] ∧ ns.length ≤ 100000 ∧ ∀ x ∈ ns, 0 ≤ x ∧ x < 1009
theorem StB.new {H : Hp} {st nu p : Addr} {n : Nat} {o : HO} (s : StB H st nu n) (h : H p = none) : StB (upd H p o) st nu n := by
  obtain ⟨k, ns, a, b, c, d⟩ := s
  exact ⟨k, ns, a, g_new h b, g_new h c, d⟩
theorem StB.mut {H : Hp} {st nu p : Addr} {n : Nat} {o : HO} (s : StB H st nu n) (h1 : p ≠ st) (h2 : p ≠ nu) : StB (upd H p o) st nu n := by
  obtain ⟨k, ns, a, b, c, d⟩ := s
  exact ⟨k, ns, a, g_mut (Ne.symm h1) b, g_mut (Ne.symm h2) c, d⟩
theorem StB.kp {H H' : Hp} {st nu : Addr} {n : Nat} (s : StB H st nu n) (k : Kp [] H H') : StB H' st nu n := by
  obtain ⟨j, ns, a, b, c, d⟩ := s
  exact ⟨j, ns, a, k _ _ b (by simp), k _ _ c (by simp), d⟩
theorem StB.le {H : Hp} {st nu : Addr} {n m : Nat} (s : StB H st nu n) (h : n ≤ m) : StB H st nu m := by
  obtain ⟨j, ns, a, d⟩ := s
  exact ⟨j, ns, Nat.le_trans a h, d⟩
/-- what is new is neither the one nor the other -/
theorem StB.ne {H : Hp} {st nu p : Addr} {n : Nat} (s : StB H st nu n) (h : H p = none) : p ≠ st ∧ p ≠ nu := by
  obtain ⟨j, ns, a, b, c, d⟩ := s
  exact ⟨Ne.symm (ne_of_none b h), Ne.symm (ne_of_none c h)⟩
theorem StB.tk {H H' : Hp} {st nu : Addr} {n : Nat} (s : StB H st nu n) (k : Kp [st] H H') : Tk H H' := by
  obtain ⟨j, ns, a, b, c⟩ := s
  exact k.tk1 b
def bigN : Nat := 1000000000
/-! ### texts -/
def alpha : List Nat := (Str.ofString "abcdefghijklmnopqrstuvwxyz").cps.toList
def digs : List Nat := (Str.ofString "0123456789").cps.toList
def isL (x : Str) : Bool := decide (0 < x.length) && x.cps.toList.all fun c => decide (c ∈ alpha)
def isN (x : Str) : Bool := decide (1 ≤ x.length ∧ x.length ≤ 7) && (x.cps.toList.all fun c => decide (c ∈ digs)) && (decide (x = "0") || decide (x.cps.toList.head? ≠ some 48))
def intOf (x : Str) : Int := (PySem.intText? x).getD 0
/-- signs of small numbers only -/
def Sm (x : Str) : Prop := ∀ c ∈ x.cps.toList, c < 200
end Sf
namespace K80
open PySem PySem.Spec PyProof.Rows L2 Sf
def topS (i : Nat) : Stmt := PySem.Challenge.pw_scarpface_k80_commands_read.main.body.getD i (.Pass ⟨0, 0, 0, 0⟩)
structure Tx (w : World) (K : PySem.W.Frag) (mg : Str → Option Value) (ad : Nat → Addr) (fu : Nat → FuncData) (ca : Nat → Addr) : Prop where
  d_is_letters : Df K mg "is_letters" (topS 8) ["text"] (ad 8) (fu 8)
  d_is_number : Df K mg "is_number" (topS 9) ["text"] (ad 9) (fu 9)
  d_numbered_command : Df K mg "numbered_command" (topS 10) ["words"] (ad 10) (fu 10)
  d_kind_command : Df K mg "kind_command" (topS 11) ["words"] (ad 11) (fu 11)
  d_read_command : Df K mg "read_command" (topS 12) ["line"] (ad 12) (fu 12)
  d_law_same : Df K mg "_law_same" (topS 14) ["told", "due"] (ad 14) (fu 14)
  d_law_stream : Df K mg "_law_stream" (topS 15) ["script"] (ad 15) (fu 15)
  d_law_next : Df K mg "_law_next" (topS 16) ["state", "many"] (ad 16) (fu 16)
  d_law_word : Df K mg "_law_word" (topS 17) ["state", "taken"] (ad 17) (fu 17)
  d_law_number : Df K mg "_law_number" (topS 18) ["state"] (ad 18) (fu 18)
  d_law_text : Df K mg "_law_text" (topS 19) ["state"] (ad 19) (fu 19)
  d_law_good : Df K mg "_law_good" (topS 20) ["state"] (ad 20) (fu 20)
  d_law_spoilt : Df K mg "_law_spoilt" (topS 21) ["state", "line"] (ad 21) (fu 21)
  d_law_is_letters : Df K mg "_law_is_letters" (topS 22) ["text"] (ad 22) (fu 22)
  d_law_is_number : Df K mg "_law_is_number" (topS 23) ["text"] (ad 23) (fu 23)
  d_law_due : Df K mg "_law_due" (topS 24) ["line"] (ad 24) (fu 24)
  d_law : Df K mg "law" (topS 25) ["script"] (ad 25) (fu 25)
  b_abs : mg "abs" = none
  b_all : mg "all" = none
  b_int : mg "int" = none
  b_len : mg "len" = none
  b_range : mg "range" = none
  b_repr : mg "repr" = none
  b_str : mg "str" = none
  b_tuple : mg "tuple" = none
  g_ALPHABET : Gc mg "ALPHABET" (.str "abcdefghijklmnopqrstuvwxyz")
  g_DIGITS : Gc mg "DIGITS" (.str "0123456789")
  g_MAX_DIGITS : Gc mg "MAX_DIGITS" (.int 7)
  g_TEXTS : Gc mg "TEXTS" (.ref (ca 0))
  g_BARE : Gc mg "BARE" (.ref (ca 1))
  g_NUMBERS : Gc mg "NUMBERS" (.ref (ca 2))
  g_KINDS : Gc mg "KINDS" (.ref (ca 3))
  s_TEXTS : ∀ H, SqT K H (ca 0) [.str "read", .str "bar"]
  s_BARE : ∀ H, SqT K H (ca 1) [.str "undo", .str "log", .str "levels", .str "steady", .str "elements", .str "bound"]
  kd_NUMBERS : ∃ es n, KDict K w (ca 2) es n
  i_NUMBERS : KdInts K (ca 2) [("forget", 1), ("allow", 1), ("cut", 1), ("pieces", 2), ("lets", 3)]
  kd_KINDS : ∃ es n, KDict K w (ca 3) es n
  i_KINDS : KdInts K (ca 3) [("least", 0), ("enough", 1), ("play", 2)]
/-! ### what the lines mean -/
def nums : List (Str × Int) := [("forget", 1), ("allow", 1), ("cut", 1), ("pieces", 2), ("lets", 3)]
def kinds : List (Str × Int) := [("least", 0), ("enough", 1), ("play", 2)]
def nCmd (f : Str) (m : Int) (r : List Str) : PyData := if (r.length : Int) = m ∧ r.all isN = true then .tuple (.str f :: r.map fun x => .int (intOf x)) else .none
def kCmd (f : Str) (m : Int) : List Str → PyData
  | [] => .none
  | g :: r => if (g = "good" ∨ g = "forward") ∧ (r.length : Int) = m ∧ r.all isN = true then .tuple (.str f :: .str g :: r.map fun x => .int (intOf x)) else .none
/-- the tuple of the words of a line that is not empty -/
def cmdOf (f : Str) (r : List Str) : PyData :=
  if (f = "read" ∨ f = "bar") ∧ r ≠ [] then .tuple [.str f, .str (Txt.join " " r)]
  else if (f = "undo" ∨ f = "log" ∨ f = "levels" ∨ f = "steady" ∨ f = "elements" ∨ f = "bound") ∧ r = [] then .tuple [.str f]
  else if (f = "begin" ∨ f = "add") ∧ r.all isL = true then .tuple (.str f :: r.map .str)
  else match nums.lookup f with
    | some m => nCmd f m r
    | none => match kinds.lookup f with
      | some m => kCmd f m r
      | none => .none
def parse (x : Str) : PyData := if x = "" then .tuple [] else match Txt.split x " " with
  | [] => .none
  | f :: r => cmdOf f r
/-! ### promises -/
def sp_is_letters (K : PySem.W.Frag) : Sp := fun vs H Q _ => ∃ x : Str, vs = [.str x] ∧ x.length ≤ 100000 ∧ ∀ H', Kp [] H H' → Q (.bl (isL x)) H'
def sp_is_number (K : PySem.W.Frag) : Sp := fun vs H Q _ => ∃ x : Str, vs = [.str x] ∧ x.length ≤ 100000 ∧ ∀ H', Kp [] H H' → Q (.bl (isN x)) H'
def sp_law_is_letters : PySem.W.Frag → Sp := sp_is_letters
def sp_law_is_number : PySem.W.Frag → Sp := sp_is_number
def sp_numbered_command (K : PySem.W.Frag) : Sp := fun vs H Q _ => ∃ (p : Addr) (f : Str) (r : List Str) (m : Int), vs = [.ref p] ∧ H p = some (.lst ((f :: r).map V.str)) ∧ nums.lookup f = some m ∧ r.length ≤ 100000 ∧ (∀ x ∈ r, x.length ≤ 100000) ∧
  ∀ v H', Kp [] H H' → Dp K H' v (nCmd f m r) → Q v H'
def sp_kind_command (K : PySem.W.Frag) : Sp := fun vs H Q _ => ∃ (p : Addr) (f : Str) (r : List Str) (m : Int), vs = [.ref p] ∧ H p = some (.lst ((f :: r).map V.str)) ∧ kinds.lookup f = some m ∧ r.length ≤ 100000 ∧ (∀ x ∈ r, x.length ≤ 100000) ∧
  ∀ v H', Kp [] H H' → Dp K H' v (kCmd f m r) → Q v H'
def sp_read_command (K : PySem.W.Frag) : Sp := fun vs H Q _ => ∃ x : Str, vs = [.str x] ∧ x.length ≤ 10000 ∧ ∀ v H', Kp [] H H' → Dp K H' v (parse x) → Q v H'
def sp_law_due : PySem.W.Frag → Sp := sp_read_command
def sp_law_same (K : PySem.W.Frag) : Sp := fun vs H Q _ => ∃ (u v : V) (d : PyData), vs = [u, v] ∧ Dp K H u d ∧ Dp K H v d ∧ d.showable = true ∧ d.hasDict = false ∧ d.depth ≤ 50 ∧ (PyData.list [d]).shown.length ≤ sizeLine ∧ ∀ H', Kp [] H H' → Q (.bl true) H'
def sp_law_stream (K : PySem.W.Frag) : Sp := fun vs H Q _ => ∃ (a : Addr) (ns : List Int), vs = [.ref a] ∧ SqL K H a (ns.map V.int) ∧ ns.length ≤ 63 ∧
  ∀ p (xs : List Int) H', Kp [] H H' → H p = none → H' p = some (.lst (xs.map V.int)) → xs ≠ [] → xs.length ≤ 100000 → (∀ x ∈ xs, 0 ≤ x ∧ x < 1009) → Q (.ref p) H'
def sp_law_next (K : PySem.W.Frag) : Sp := fun vs H Q _ => ∃ (st nu : Addr) (m : Int) (n : Nat), vs = [.ref st, .int m] ∧ 0 < m ∧ StB H st nu n ∧ n < bigN ∧ ∀ r H', 0 ≤ r → r < m → Kp [st] H H' → StB H' st nu (n + 1) → Q (.int r) H'
def wordOk (x : Str) : Prop := 1 ≤ x.length ∧ x.length ≤ 8 ∧ ∀ c ∈ x.cps.toList, c ∈ alpha
def sp_law_word (K : PySem.W.Frag) : Sp := fun vs H Q _ => ∃ (st nu tk : Addr) (ts : List Str) (n : Nat), vs = [.ref st, .ref tk] ∧ SqL K H tk (ts.map V.str) ∧ ts.length ≤ 25 ∧ tk ≠ st ∧ StB H st nu n ∧ n + 10 < bigN ∧ ∀ x H', wordOk x → Kp [st] H H' → StB H' st nu (n + 10) → Q (.str x) H'
def numOk (x : Str) : Prop := isN x = true
def sp_law_number (K : PySem.W.Frag) : Sp := fun vs H Q _ => ∃ (st nu : Addr) (n : Nat), vs = [.ref st] ∧ StB H st nu n ∧ n + 3 < bigN ∧ ∀ x H', isN x = true → Kp [st] H H' → StB H' st nu (n + 3) → Q (.str x) H'
def sp_law_text (K : PySem.W.Frag) : Sp := fun vs H Q _ => ∃ (st nu : Addr) (n : Nat), vs = [.ref st] ∧ StB H st nu n ∧ n + 4 < bigN ∧ ∀ x H', x.length ≤ 100 → Sm x → Kp [st] H H' → StB H' st nu (n + 4) → Q (.str x) H'
def sp_law_good (K : PySem.W.Frag) : Sp := fun vs H Q _ => ∃ (st nu : Addr) (n : Nat), vs = [.ref st] ∧ StB H st nu n ∧ n + 40 < bigN ∧ ∀ x H', x.length ≤ 1000 → Sm x → parse x ≠ .none → Kp [st] H H' → StB H' st nu (n + 40) → Q (.str x) H'
def sp_law_spoilt (K : PySem.W.Frag) : Sp := fun vs H Q _ => ∃ (st nu : Addr) (y : Str) (n : Nat), vs = [.ref st, .str y] ∧ y.length ≤ 1000 ∧ Sm y ∧ StB H st nu n ∧ n + 10 < bigN ∧ ∀ x H', x.length ≤ 10000 → Sm x → Kp [st] H H' → StB H' st nu (n + 10) → Q (.str x) H'
def sp_law (K : PySem.W.Frag) : Sp := fun vs H Q _ => ∃ (a : Addr) (ns : List Int), vs = [.ref a] ∧ SqL K H a (ns.map V.int) ∧ ns.length ≤ 63 ∧ ∀ H', Q (.bl true) H'
end K80
set_option maxHeartbeats 4000000
namespace K80
open PySem PySem.Spec PyProof.Rows L2 Sf
section
variable {P : Program} {w : World} {K : PySem.W.Frag} {mg : Str → Option Value} {base : Heap} {ad : Nat → Addr} {fu : Nat → FuncData} {ca : Nat → Addr}
/-! is_letters : slots 0=text 1=letter -/
def t_is_letters (K : PySem.W.Frag) (ca : Nat → Addr) : TS :=
  (tRet (tAndV (tOp rdGt (tCB rdLenS (tCons (tVar 0) tNil)) (tC (.int 0))) (tCB (rAll K) (tCons (tLc (iStr (tVar 0)) (gName 1) tYes (tOp rdInS (tVar 1) (tC (.str "abcdefghijklmnopqrstuvwxyz"))) [1]) tNil))))
theorem sc_is_letters : FnScope ["text", "letter"] ["text"] (defScope (topS 8)) := ⟨rfl, rfl, rfl, by decide +kernel, rfl, by decide +kernel, by decide +kernel⟩
theorem body_is_letters (T : Tx w K mg ad fu ca) : Body P w K mg base 0 "is_letters" (topS 8) (ad 8) ["text", "letter"] (t_is_letters K ca) := by
  intro cdv R out s Hh E gd ro
  have nd := sc_is_letters.nd
  have hu := ro.units0
  have hu65 : R.units + 3 + 65 < cLine := by have := ro.un; show R.units + 3 + 65 < cLine; have e : (R.deeper (envOfC "is_letters" (defScope (topS 8)) s.heap.objs.size (ad 8) cdv)).units = R.units + 3 := rfl; rw [e] at this; omega
  exact (pss_one (ps_ret (pe_and (pe_cmpR op_gt (pe_callB call_len_str (by rfl) T.b_len (by decide +kernel) (pa_cons (pv 0) pa_nil)) pe_int (by rfl)) (pe_one (pe_callB (cr_all rfl) (by rfl) T.b_all (by decide +kernel) (pa_cons (pe_lc (own := [("letter", 1)]) rfl nd (pi_str (pv 0)) (blkOk_by (own := [("letter", 1)]) (N := ["text", "letter"]) (sc := defScope (topS 8)) (by decide +kernel)) (fun _ _ _ _ _ => (pg_name (i := 1) nd rfl (by first | exact Or.inl rfl | exact Or.inr rfl))) (fun _ _ _ _ _ => pts_nil) (fun _ _ _ _ _ => (pe_cmpR op_in_sign (pv 1) (pe_globE (by rfl) T.g_ALPHABET) (by rfl)))) pa_nil))))))
/-! is_number : slots 0=text 1=digit -/
def t_is_number (K : PySem.W.Frag) (ca : Nat → Addr) : TS :=
  (tSeq (tIfS (tOr (tNot (tTest (tChain rdLe rdLe (tC (.int 1)) (tCB rdLenS (tCons (tVar 0) tNil)) (tC (.int 7))))) (tNot (tB (tCB (rAll K) (tCons (tLc (iStr (tVar 0)) (gName 1) tYes (tOp rdInS (tVar 1) (tC (.str "0123456789"))) [1]) tNil))))) (tRet (tC (.bl false))) tNext)
    (tRet (tOrV (tOp rEq (tVar 0) (tC (.str "0"))) (tOp rNe (tOp rIxS (tVar 0) (tC (.int 0))) (tC (.str "0"))))))
theorem sc_is_number : FnScope ["text", "digit"] ["text"] (defScope (topS 9)) := ⟨rfl, rfl, rfl, by decide +kernel, rfl, by decide +kernel, by decide +kernel⟩
theorem body_is_number (T : Tx w K mg ad fu ca) : Body P w K mg base 0 "is_number" (topS 9) (ad 9) ["text", "digit"] (t_is_number K ca) := by
  intro cdv R out s Hh E gd ro
  have nd := sc_is_number.nd
  have hu := ro.units0
  have hu65 : R.units + 3 + 65 < cLine := by have := ro.un; show R.units + 3 + 65 < cLine; have e : (R.deeper (envOfC "is_number" (defScope (topS 9)) s.heap.objs.size (ad 9) cdv)).units = R.units + 3 := rfl; rw [e] at this; omega
  exact (pss_cons (ps_if (PW.pt (pw_or (pt_not (pt_chain op_le op_le pe_int (pe_callB call_len_str (by rfl) T.b_len (by decide +kernel) (pa_cons (pv 0) pa_nil)) (pe_globE (by rfl) T.g_MAX_DIGITS))) (pw_or1 (pt_not (pt_val (pe_callB (cr_all rfl) (by rfl) T.b_all (by decide +kernel) (pa_cons (pe_lc (own := [("digit", 1)]) rfl nd (pi_str (pv 0)) (blkOk_by (own := [("digit", 1)]) (N := ["text", "digit"]) (sc := defScope (topS 9)) (by decide +kernel)) (fun _ _ _ _ _ => (pg_name (i := 1) nd rfl (by first | exact Or.inl rfl | exact Or.inr rfl))) (fun _ _ _ _ _ => pts_nil) (fun _ _ _ _ _ => (pe_cmpR op_in_sign (pv 1) (pe_globE (by rfl) T.g_DIGITS) (by rfl)))) pa_nil))))))) (pss_one (ps_ret pe_bl)) pss_nil)
    (pss_one (ps_ret (pe_or (pe_cmpR op_eq (pv 0) pe_str (by rfl)) (pe_one (pe_cmpR op_ne (pe_ix ix_str (pv 0) pe_int (fun _ _ => rfl)) pe_str (by rfl)))))))
/-! numbered_command : slots 0=words 1=numbers 2=word -/
def t_numbered_command (K : PySem.W.Frag) (ca : Nat → Addr) : TS :=
  (tSeq (tAsg (tSl (rSlL K) (tVar 0) (tPart (tC (.int 1))) tNoPart) (gName 1))
    (tSeq (tIfS (tOr (tTest (tOp rNe (tCB (rdLen K) (tCons (tVar 1) tNil)) (tOp (rItemKd K (ca 2)) (tC (.ref (ca 2))) (tOp (rIxL K) (tVar 0) (tC (.int 0)))))) (tNot (tB (tCB (rAll K) (tCons (tLc (iList K (tVar 1)) (gName 2) tYes (rCallG (sp_is_number K) E0 (tCons (tVar 2) tNil)) [2]) tNil))))) (tRet (tC .non)) tNext)
    (tRet (tTup (tCons (tOp (rIxL K) (tVar 0) (tC (.int 0))) (StX.tStar K (tLc (iList K (tVar 1)) (gName 2) tYes (tCB rdIntS (tCons (tVar 2) tNil)) [2]) tNil))))))
theorem sc_numbered_command : FnScope ["words", "numbers", "word"] ["words"] (defScope (topS 10)) := ⟨rfl, rfl, rfl, by decide +kernel, rfl, by decide +kernel, by decide +kernel⟩
theorem body_numbered_command (T : Tx w K mg ad fu ca) (G_is_number : FnG P w K mg base CX0 1 (ad 9) (fu 9) ["text"] (sp_is_number K)) : Body P w K mg base 1 "numbered_command" (topS 10) (ad 10) ["words", "numbers", "word"] (t_numbered_command K ca) := by
  intro cdv R out s Hh E gd ro
  have nd := sc_numbered_command.nd
  obtain ⟨_, _, kd_NUMBERS⟩ := T.kd_NUMBERS
  have hu := ro.units0
  have hu65 : R.units + 3 + 65 < cLine := by have := ro.un; show R.units + 3 + 65 < cLine; have e : (R.deeper (envOfC "numbered_command" (defScope (topS 10)) s.heap.objs.size (ad 10) cdv)).units = R.units + 3 := rfl; rw [e] at this; omega
  exact (pss_cons (ps_set (i := 1) nd rfl (by first | exact Or.inl rfl | exact Or.inr rfl) (pe_slice sl_list (pv 0) (po_some pe_int) po_none))
    (pss_cons (ps_if (PW.pt (pw_or (pt_cmpR op_ne (pe_callB call_len_seq (by rfl) T.b_len (by decide +kernel) (pa_cons (pv 1) pa_nil)) (pe_ix (ix_kd kd_NUMBERS) (pe_globE (by rfl) T.g_NUMBERS) (pe_ix ix_list (pv 0) pe_int (fun _ _ => rfl)) (fun _ _ => rfl)) (by rfl)) (pw_or1 (pt_not (pt_val (pe_callB (cr_all rfl) (by rfl) T.b_all (by decide +kernel) (pa_cons (pe_lc (own := [("word", 2)]) rfl nd (pi_list (pv 1)) (blkOk_by (own := [("word", 2)]) (N := ["words", "numbers", "word"]) (sc := defScope (topS 10)) (by decide +kernel)) (fun _ _ _ _ _ => (pg_name (i := 2) nd rfl (by first | exact Or.inl rfl | exact Or.inr rfl))) (fun _ _ _ _ _ => pts_nil) (fun _ _ _ _ _ => (pe_callG T.d_is_number G_is_number gd (ro.mono (by decide)) pass0 (pa_cons (pv 2) pa_nil)))) pa_nil))))))) (pss_one (ps_ret pe_non)) pss_nil)
    (pss_one (ps_ret (pe_tup (pa_cons (pe_ix ix_list (pv 0) pe_int (fun _ _ => rfl)) (StX.pa_star (pe_lc (own := [("word", 2)]) rfl nd (pi_list (pv 1)) (blkOk_by (own := [("word", 2)]) (N := ["words", "numbers", "word"]) (sc := defScope (topS 10)) (by decide +kernel)) (fun _ _ _ _ _ => (pg_name (i := 2) nd rfl (by first | exact Or.inl rfl | exact Or.inr rfl))) (fun _ _ _ _ _ => pts_nil) (fun _ _ _ _ _ => (pe_callTy call_int_str (by rfl) T.b_int (by decide +kernel) (pa_cons (pv 2) pa_nil)))) pa_nil)))))))
/-! kind_command : slots 0=words 1=numbers 2=word -/
def t_kind_command (K : PySem.W.Frag) (ca : Nat → Addr) : TS :=
  (tSeq (tIfS (tOr (tTest (tOp rdLt (tCB (rdLen K) (tCons (tVar 0) tNil)) (tC (.int 2)))) (tTest (tOp (rIn K true) (tOp (rIxL K) (tVar 0) (tC (.int 1))) (tTup (tCons (tC (.str "good")) (tCons (tC (.str "forward")) tNil)))))) (tRet (tC .non)) tNext)
    (tSeq (tAsg (tSl (rSlL K) (tVar 0) (tPart (tC (.int 2))) tNoPart) (gName 1))
    (tSeq (tIfS (tOr (tTest (tOp rNe (tCB (rdLen K) (tCons (tVar 1) tNil)) (tOp (rItemKd K (ca 3)) (tC (.ref (ca 3))) (tOp (rIxL K) (tVar 0) (tC (.int 0)))))) (tNot (tB (tCB (rAll K) (tCons (tLc (iList K (tVar 1)) (gName 2) tYes (rCallG (sp_is_number K) E0 (tCons (tVar 2) tNil)) [2]) tNil))))) (tRet (tC .non)) tNext)
    (tRet (tTup (tCons (tOp (rIxL K) (tVar 0) (tC (.int 0))) (tCons (tOp (rIxL K) (tVar 0) (tC (.int 1))) (StX.tStar K (tLc (iList K (tVar 1)) (gName 2) tYes (tCB rdIntS (tCons (tVar 2) tNil)) [2]) tNil))))))))
theorem sc_kind_command : FnScope ["words", "numbers", "word"] ["words"] (defScope (topS 11)) := ⟨rfl, rfl, rfl, by decide +kernel, rfl, by decide +kernel, by decide +kernel⟩
theorem body_kind_command (T : Tx w K mg ad fu ca) (G_is_number : FnG P w K mg base CX0 1 (ad 9) (fu 9) ["text"] (sp_is_number K)) : Body P w K mg base 1 "kind_command" (topS 11) (ad 11) ["words", "numbers", "word"] (t_kind_command K ca) := by
  intro cdv R out s Hh E gd ro
  have nd := sc_kind_command.nd
  obtain ⟨_, _, kd_KINDS⟩ := T.kd_KINDS
  have hu := ro.units0
  have hu65 : R.units + 3 + 65 < cLine := by have := ro.un; show R.units + 3 + 65 < cLine; have e : (R.deeper (envOfC "kind_command" (defScope (topS 11)) s.heap.objs.size (ad 11) cdv)).units = R.units + 3 := rfl; rw [e] at this; omega
  exact (pss_cons (ps_if (PW.pt (pw_or (pt_cmpR op_lt (pe_callB call_len_seq (by rfl) T.b_len (by decide +kernel) (pa_cons (pv 0) pa_nil)) pe_int (by rfl)) (pw_or1 (pt_cmpR op_notIn_seq (pe_ix ix_list (pv 0) pe_int (fun _ _ => rfl)) (pe_tup (pa_cons pe_str (pa_cons pe_str pa_nil))) (by rfl))))) (pss_one (ps_ret pe_non)) pss_nil)
    (pss_cons (ps_set (i := 1) nd rfl (by first | exact Or.inl rfl | exact Or.inr rfl) (pe_slice sl_list (pv 0) (po_some pe_int) po_none))
    (pss_cons (ps_if (PW.pt (pw_or (pt_cmpR op_ne (pe_callB call_len_seq (by rfl) T.b_len (by decide +kernel) (pa_cons (pv 1) pa_nil)) (pe_ix (ix_kd kd_KINDS) (pe_globE (by rfl) T.g_KINDS) (pe_ix ix_list (pv 0) pe_int (fun _ _ => rfl)) (fun _ _ => rfl)) (by rfl)) (pw_or1 (pt_not (pt_val (pe_callB (cr_all rfl) (by rfl) T.b_all (by decide +kernel) (pa_cons (pe_lc (own := [("word", 2)]) rfl nd (pi_list (pv 1)) (blkOk_by (own := [("word", 2)]) (N := ["words", "numbers", "word"]) (sc := defScope (topS 11)) (by decide +kernel)) (fun _ _ _ _ _ => (pg_name (i := 2) nd rfl (by first | exact Or.inl rfl | exact Or.inr rfl))) (fun _ _ _ _ _ => pts_nil) (fun _ _ _ _ _ => (pe_callG T.d_is_number G_is_number gd (ro.mono (by decide)) pass0 (pa_cons (pv 2) pa_nil)))) pa_nil))))))) (pss_one (ps_ret pe_non)) pss_nil)
    (pss_one (ps_ret (pe_tup (pa_cons (pe_ix ix_list (pv 0) pe_int (fun _ _ => rfl)) (pa_cons (pe_ix ix_list (pv 0) pe_int (fun _ _ => rfl)) (StX.pa_star (pe_lc (own := [("word", 2)]) rfl nd (pi_list (pv 1)) (blkOk_by (own := [("word", 2)]) (N := ["words", "numbers", "word"]) (sc := defScope (topS 11)) (by decide +kernel)) (fun _ _ _ _ _ => (pg_name (i := 2) nd rfl (by first | exact Or.inl rfl | exact Or.inr rfl))) (fun _ _ _ _ _ => pts_nil) (fun _ _ _ _ _ => (pe_callTy call_int_str (by rfl) T.b_int (by decide +kernel) (pa_cons (pv 2) pa_nil)))) pa_nil)))))))))
/-! read_command : slots 0=line 1=words 2=first 3=word -/
def t_read_command (K : PySem.W.Frag) (ca : Nat → Addr) : TS :=
  (tSeq (tIfS (tTest (tOp rEq (tVar 0) (tC (.str "")))) (tRet (tTup tNil)) tNext)
    (tSeq (tAsg (tM1 rdSplit (tVar 0) (tC (.str " "))) (gName 1))
    (tSeq (tAsg (tOp (rIxL K) (tVar 1) (tC (.int 0))) (gName 2))
    (tSeq (tIfS (tAnd (tTest (tOp (rIn K false) (tVar 2) (tC (.ref (ca 0))))) (tTest (tOp rdGt (tCB (rdLen K) (tCons (tVar 1) tNil)) (tC (.int 1))))) (tRet (tTup (tCons (tVar 2) (tCons (tSl rSlS (tVar 0) (tPart (tOp rdAdd (tCB rdLenS (tCons (tVar 2) tNil)) (tC (.int 1)))) tNoPart) tNil)))) tNext)
    (tSeq (tIfS (tAnd (tTest (tOp (rIn K false) (tVar 2) (tC (.ref (ca 1))))) (tTest (tOp rEq (tCB (rdLen K) (tCons (tVar 1) tNil)) (tC (.int 1))))) (tRet (tTup (tCons (tVar 2) tNil))) tNext)
    (tSeq (tIfS (tAnd (tOr (tTest (tOp rEq (tVar 2) (tC (.str "begin")))) (tTest (tOp rEq (tVar 2) (tC (.str "add"))))) (tB (tCB (rAll K) (tCons (tLc (iList K (tVar 1)) (gName 3) tYes (rCallG (sp_is_letters K) E0 (tCons (tVar 3) tNil)) [3]) tNil)))) (tRet (tCB (rdTuple K) (tCons (tVar 1) tNil))) tNext)
    (tSeq (tIfS (tTest (tOp (rInKd K (ca 2)) (tVar 2) (tC (.ref (ca 2))))) (tRet (rCallG (sp_numbered_command K) E0 (tCons (tVar 1) tNil))) tNext)
    (tSeq (tIfS (tTest (tOp (rInKd K (ca 3)) (tVar 2) (tC (.ref (ca 3))))) (tRet (rCallG (sp_kind_command K) E0 (tCons (tVar 1) tNil))) tNext)
    (tRet (tC .non))))))))))
theorem sc_read_command : FnScope ["line", "words", "first", "word"] ["line"] (defScope (topS 12)) := ⟨rfl, rfl, rfl, by decide +kernel, rfl, by decide +kernel, by decide +kernel⟩
theorem body_read_command (T : Tx w K mg ad fu ca) (G_is_letters : FnG P w K mg base CX0 1 (ad 8) (fu 8) ["text"] (sp_is_letters K)) (G_kind_command : FnG P w K mg base CX0 2 (ad 11) (fu 11) ["words"] (sp_kind_command K)) (G_numbered_command : FnG P w K mg base CX0 2 (ad 10) (fu 10) ["words"] (sp_numbered_command K)) : Body P w K mg base 2 "read_command" (topS 12) (ad 12) ["line", "words", "first", "word"] (t_read_command K ca) := by
  intro cdv R out s Hh E gd ro
  have nd := sc_read_command.nd
  obtain ⟨_, _, kd_KINDS⟩ := T.kd_KINDS
  obtain ⟨_, _, kd_NUMBERS⟩ := T.kd_NUMBERS
  have hu := ro.units0
  have hu65 : R.units + 3 + 65 < cLine := by have := ro.un; show R.units + 3 + 65 < cLine; have e : (R.deeper (envOfC "read_command" (defScope (topS 12)) s.heap.objs.size (ad 12) cdv)).units = R.units + 3 := rfl; rw [e] at this; omega
  exact (pss_cons (ps_if (pt_cmpR op_eq (pv 0) pe_str (by rfl)) (pss_one (ps_ret (pe_tup pa_nil))) pss_nil)
    (pss_cons (ps_set (i := 1) nd rfl (by first | exact Or.inl rfl | exact Or.inr rfl) (pe_split (pv 0) pe_str))
    (pss_cons (ps_set (i := 2) nd rfl (by first | exact Or.inl rfl | exact Or.inr rfl) (pe_ix ix_list (pv 1) pe_int (fun _ _ => rfl)))
    (pss_cons (ps_if (PW.pt (pw_and (pt_cmpR op_in_seq (pv 2) (pe_globE (by rfl) T.g_TEXTS) (by rfl)) (pw_and1 (pt_cmpR op_gt (pe_callB call_len_seq (by rfl) T.b_len (by decide +kernel) (pa_cons (pv 1) pa_nil)) pe_int (by rfl))))) (pss_one (ps_ret (pe_tup (pa_cons (pv 2) (pa_cons (pe_slice sl_str (pv 0) (po_some (pe_op op_add (pe_callB call_len_str (by rfl) T.b_len (by decide +kernel) (pa_cons (pv 2) pa_nil)) pe_int)) po_none) pa_nil))))) pss_nil)
    (pss_cons (ps_if (PW.pt (pw_and (pt_cmpR op_in_seq (pv 2) (pe_globE (by rfl) T.g_BARE) (by rfl)) (pw_and1 (pt_cmpR op_eq (pe_callB call_len_seq (by rfl) T.b_len (by decide +kernel) (pa_cons (pv 1) pa_nil)) pe_int (by rfl))))) (pss_one (ps_ret (pe_tup (pa_cons (pv 2) pa_nil)))) pss_nil)
    (pss_cons (ps_if (PW.pt (pw_and (PW.pt (pw_or (pt_cmpR op_eq (pv 2) pe_str (by rfl)) (pw_or1 (pt_cmpR op_eq (pv 2) pe_str (by rfl))))) (pw_and1 (pt_val (pe_callB (cr_all rfl) (by rfl) T.b_all (by decide +kernel) (pa_cons (pe_lc (own := [("word", 3)]) rfl nd (pi_list (pv 1)) (blkOk_by (own := [("word", 3)]) (N := ["line", "words", "first", "word"]) (sc := defScope (topS 12)) (by decide +kernel)) (fun _ _ _ _ _ => (pg_name (i := 3) nd rfl (by first | exact Or.inl rfl | exact Or.inr rfl))) (fun _ _ _ _ _ => pts_nil) (fun _ _ _ _ _ => (pe_callG T.d_is_letters G_is_letters gd (ro.mono (by decide)) pass0 (pa_cons (pv 3) pa_nil)))) pa_nil)))))) (pss_one (ps_ret (pe_callTy call_tuple_of (by rfl) T.b_tuple (by decide +kernel) (pa_cons (pv 1) pa_nil)))) pss_nil)
    (pss_cons (ps_if (pt_cmpR (op_in_kd kd_NUMBERS) (pv 2) (pe_globE (by rfl) T.g_NUMBERS) (by rfl)) (pss_one (ps_ret (pe_callG T.d_numbered_command G_numbered_command gd (ro.mono (by decide)) pass0 (pa_cons (pv 1) pa_nil)))) pss_nil)
    (pss_cons (ps_if (pt_cmpR (op_in_kd kd_KINDS) (pv 2) (pe_globE (by rfl) T.g_KINDS) (by rfl)) (pss_one (ps_ret (pe_callG T.d_kind_command G_kind_command gd (ro.mono (by decide)) pass0 (pa_cons (pv 1) pa_nil)))) pss_nil)
    (pss_one (ps_ret pe_non))))))))))
/-! _law_same : slots 0=told 1=due -/
def t_law_same (K : PySem.W.Frag) (ca : Nat → Addr) : TS :=
  (tRet (tOp rEq (tCB (rReprD K) (tCons (tLst (tCons (tVar 0) tNil)) tNil)) (tCB (rReprD K) (tCons (tLst (tCons (tVar 1) tNil)) tNil))))
theorem sc_law_same : FnScope ["told", "due"] ["told", "due"] (defScope (topS 14)) := ⟨rfl, rfl, rfl, by decide +kernel, rfl, by decide +kernel, by decide +kernel⟩
theorem body_law_same (T : Tx w K mg ad fu ca) : Body P w K mg base 0 "_law_same" (topS 14) (ad 14) ["told", "due"] (t_law_same K ca) := by
  intro cdv R out s Hh E gd ro
  have nd := sc_law_same.nd
  have hu := ro.units0
  have hu65 : R.units + 3 + 65 < cLine := by have := ro.un; show R.units + 3 + 65 < cLine; have e : (R.deeper (envOfC "_law_same" (defScope (topS 14)) s.heap.objs.size (ad 14) cdv)).units = R.units + 3 := rfl; rw [e] at this; omega
  exact (pss_one (ps_ret (pe_cmpR op_eq (pe_callB (call_reprD gd (hu64 ro)) (by rfl) T.b_repr (by decide +kernel) (pa_cons (pe_lst (pa_cons (pv 0) pa_nil)) pa_nil)) (pe_callB (call_reprD gd (hu64 ro)) (by rfl) T.b_repr (by decide +kernel) (pa_cons (pe_lst (pa_cons (pv 1) pa_nil)) pa_nil)) (by rfl))))
/-! _law_stream : slots 0=script 1=numbers 2=cell 3=rest 4=k 5=mixed -/
def t_law_stream (K : PySem.W.Frag) (ca : Nat → Addr) : TS :=
  (tSeq (tAsg (tLst tNil) (gName 1))
    (tSeq (tFor (iList K (tSl (rSlL K) (tVar 0) tNoPart (tPart (tC (.int 63))))) (gName 2)
    (tSeq (tAsg (tCB rdAbs (tCons (tCB rdInt (tCons (tVar 2) tNil)) tNil)) (gName 3))
    (tIfS (tTest (tOp rdGe (tVar 3) (tOp rdPow (tC (.int 10)) (tC (.int 18))))) (tFor (iRng1 (tCons (tC (.int 60)) tNil)) (gName 4)
    (tSeq (tDrop (tBM K "list" rAppend (tVar 1) (tCons (tOp rdMod (tCB rdInt (tCons (tVar 3) tNil)) (tC (.int 1009))) tNil)))
    (tSeq (tAsg (tOp rdDiv (tVar 3) (tC (.int 1009))) (gName 3))
    (tIfS (tTest (tOp rEq (tVar 3) (tC (.int 0)))) tBreak tNext)))) (tSeq (tAsg (tOp rdMod (tCB rdInt (tCons (tVar 3) tNil)) (tC (.int 2147483647))) (gName 5))
    (tFor (iRng1 (tCons (tC (.int 10)) tNil)) (gName 4)
    (tSeq (tAsg (tOp rdMod (tCB rdInt (tCons (tOp rdAdd (tOp rdAdd (tOp rdMul (tVar 5) (tC (.int 48271))) (tOp rdMul (tC (.int 7)) (tVar 4))) (tC (.int 11))) tNil)) (tC (.int 2147483647))) (gName 5))
    (tDrop (tBM K "list" rAppend (tVar 1) (tCons (tOp rdMod (tOp rdMod (tCB rdInt (tCons (tOp rdAdd (tOp rdMul (tVar 5) (tC (.int 69621))) (tVar 4)) tNil)) (tC (.int 2147483629))) (tC (.int 1009))) tNil)))))))))
    (tSeq (tIfS (tTest (tOp rEq (tCB (rdLen K) (tCons (tVar 1) tNil)) (tC (.int 0)))) (tDrop (tBM K "list" rAppend (tVar 1) (tCons (tC (.int 0)) tNil))) tNext)
    (tRet (tVar 1)))))
theorem sc_law_stream : FnScope ["script", "numbers", "cell", "rest", "k", "mixed"] ["script"] (defScope (topS 15)) := ⟨rfl, rfl, rfl, by decide +kernel, rfl, by decide +kernel, by decide +kernel⟩
theorem body_law_stream (T : Tx w K mg ad fu ca) : Body P w K mg base 0 "_law_stream" (topS 15) (ad 15) ["script", "numbers", "cell", "rest", "k", "mixed"] (t_law_stream K ca) := by
  intro cdv R out s Hh E gd ro
  have nd := sc_law_stream.nd
  have hu := ro.units0
  have hu65 : R.units + 3 + 65 < cLine := by have := ro.un; show R.units + 3 + 65 < cLine; have e : (R.deeper (envOfC "_law_stream" (defScope (topS 15)) s.heap.objs.size (ad 15) cdv)).units = R.units + 3 := rfl; rw [e] at this; omega
  exact (pss_cons (ps_set (i := 1) nd rfl (by first | exact Or.inl rfl | exact Or.inr rfl) (pe_lst pa_nil))
    (pss_cons (ps_for PassesOwn.never rfl (pi_list (pe_slice sl_list (pv 0) po_none (po_some pe_int))) (pg_name (i := 2) nd rfl (by first | exact Or.inl rfl | exact Or.inr rfl))
    (pss_cons (ps_set (i := 3) nd rfl (by first | exact Or.inl rfl | exact Or.inr rfl) (pe_callB call_abs (by rfl) T.b_abs (by decide +kernel) (pa_cons (pe_callTy call_int1 (by rfl) T.b_int (by decide +kernel) (pa_cons (pv 2) pa_nil)) pa_nil)))
    (pss_one (ps_if (pt_cmpR op_ge (pv 3) (pe_op op_pow pe_int pe_int) (by rfl)) (pss_one (ps_for PassesOwn.never rfl (pi_range1 (by rfl) T.b_range (pa_cons pe_int pa_nil)) (pg_name (i := 4) nd rfl (by first | exact Or.inl rfl | exact Or.inr rfl))
    (pss_cons (ps_expr (pe_bm PySem.F.plainAttrs_list PySem.F.slot_list_append PySem.F.type_list_append mt_append (pv 1) (pa_cons (pe_op op_mod (pe_callTy call_int1 (by rfl) T.b_int (by decide +kernel) (pa_cons (pv 3) pa_nil)) pe_int) pa_nil)))
    (pss_cons (ps_set (i := 3) nd rfl (by first | exact Or.inl rfl | exact Or.inr rfl) (pe_op op_fdiv (pv 3) pe_int))
    (pss_one (ps_if (pt_cmpR op_eq (pv 3) pe_int (by rfl)) (pss_one ps_break) pss_nil)))))) (pss_cons (ps_set (i := 5) nd rfl (by first | exact Or.inl rfl | exact Or.inr rfl) (pe_op op_mod (pe_callTy call_int1 (by rfl) T.b_int (by decide +kernel) (pa_cons (pv 3) pa_nil)) pe_int))
    (pss_one (ps_for PassesOwn.never rfl (pi_range1 (by rfl) T.b_range (pa_cons pe_int pa_nil)) (pg_name (i := 4) nd rfl (by first | exact Or.inl rfl | exact Or.inr rfl))
    (pss_cons (ps_set (i := 5) nd rfl (by first | exact Or.inl rfl | exact Or.inr rfl) (pe_op op_mod (pe_callTy call_int1 (by rfl) T.b_int (by decide +kernel) (pa_cons (pe_op op_add (pe_op op_add (pe_op op_mul (pv 5) pe_int) (pe_op op_mul pe_int (pv 4))) pe_int) pa_nil)) pe_int))
    (pss_one (ps_expr (pe_bm PySem.F.plainAttrs_list PySem.F.slot_list_append PySem.F.type_list_append mt_append (pv 1) (pa_cons (pe_op op_mod (pe_op op_mod (pe_callTy call_int1 (by rfl) T.b_int (by decide +kernel) (pa_cons (pe_op op_add (pe_op op_mul (pv 5) pe_int) (pv 4)) pa_nil)) pe_int) pe_int) pa_nil))))))))))))
    (pss_cons (ps_if (pt_cmpR op_eq (pe_callB call_len_seq (by rfl) T.b_len (by decide +kernel) (pa_cons (pv 1) pa_nil)) pe_int (by rfl)) (pss_one (ps_expr (pe_bm PySem.F.plainAttrs_list PySem.F.slot_list_append PySem.F.type_list_append mt_append (pv 1) (pa_cons pe_int pa_nil)))) pss_nil)
    (pss_one (ps_ret (pv 1))))))
/-! _law_next : slots 0=state 1=many 2=turn -/
def t_law_next (K : PySem.W.Frag) (ca : Nat → Addr) : TS :=
  (tSeq (tAsg (tOp rdAdd (tOp (rIxL K) (tVar 0) (tC (.int 1))) (tC (.int 1))) (gSub (tVar 0) (tC (.int 1)) rSetL))
    (tSeq (tAsg (tOp rdDiv (tOp (rIxL K) (tVar 0) (tC (.int 1))) (tCB (rdLen K) (tCons (tOp (rIxL K) (tVar 0) (tC (.int 0))) tNil))) (gName 2))
    (tRet (tOp rdMod (tCB rdInt (tCons (tOp rdAdd (tOp rdAdd (tOp (rIxL K) (tOp (rIxL K) (tVar 0) (tC (.int 0))) (tOp rdMod (tOp (rIxL K) (tVar 0) (tC (.int 1))) (tCB (rdLen K) (tCons (tOp (rIxL K) (tVar 0) (tC (.int 0))) tNil)))) (tOp rdMul (tVar 2) (tC (.int 389)))) (tOp rdMul (tOp rdMul (tOp (rIxL K) (tVar 0) (tC (.int 1))) (tVar 2)) (tC (.int 17)))) tNil)) (tVar 1)))))
theorem sc_law_next : FnScope ["state", "many", "turn"] ["state", "many"] (defScope (topS 16)) := ⟨rfl, rfl, rfl, by decide +kernel, rfl, by decide +kernel, by decide +kernel⟩
theorem body_law_next (T : Tx w K mg ad fu ca) : Body P w K mg base 0 "_law_next" (topS 16) (ad 16) ["state", "many", "turn"] (t_law_next K ca) := by
  intro cdv R out s Hh E gd ro
  have nd := sc_law_next.nd
  have hu := ro.units0
  have hu65 : R.units + 3 + 65 < cLine := by have := ro.un; show R.units + 3 + 65 < cLine; have e : (R.deeper (envOfC "_law_next" (defScope (topS 16)) s.heap.objs.size (ad 16) cdv)).units = R.units + 3 := rfl; rw [e] at this; omega
  exact (pss_cons (ps_asg (pe_op op_add (pe_ix ix_list (pv 0) pe_int (fun _ _ => rfl)) pe_int) (pg_sub (pv 0) pe_int set_list))
    (pss_cons (ps_set (i := 2) nd rfl (by first | exact Or.inl rfl | exact Or.inr rfl) (pe_op op_fdiv (pe_ix ix_list (pv 0) pe_int (fun _ _ => rfl)) (pe_callB call_len_seq (by rfl) T.b_len (by decide +kernel) (pa_cons (pe_ix ix_list (pv 0) pe_int (fun _ _ => rfl)) pa_nil))))
    (pss_one (ps_ret (pe_op op_mod (pe_callTy call_int1 (by rfl) T.b_int (by decide +kernel) (pa_cons (pe_op op_add (pe_op op_add (pe_ix ix_list (pe_ix ix_list (pv 0) pe_int (fun _ _ => rfl)) (pe_op op_mod (pe_ix ix_list (pv 0) pe_int (fun _ _ => rfl)) (pe_callB call_len_seq (by rfl) T.b_len (by decide +kernel) (pa_cons (pe_ix ix_list (pv 0) pe_int (fun _ _ => rfl)) pa_nil))) (fun _ _ => rfl)) (pe_op op_mul (pv 2) pe_int)) (pe_op op_mul (pe_op op_mul (pe_ix ix_list (pv 0) pe_int (fun _ _ => rfl)) (pv 2)) pe_int)) pa_nil)) (pv 1))))))
/-! _law_word : slots 0=state 1=taken 2=word 3=k -/
def t_law_word (K : PySem.W.Frag) (ca : Nat → Addr) : TS :=
  (tSeq (tAsg (tC (.str "")) (gName 2))
    (tSeq (tFor (iRng1 (tCons (tOp (rIxL K) (tLst (tCons (tC (.int 1)) (tCons (tC (.int 2)) (tCons (tOp rdAdd (tC (.int 1)) (rCallG (sp_law_next K) E0 (tCons (tVar 0) (tCons (tC (.int 8)) tNil)))) tNil)))) (rCallG (sp_law_next K) E0 (tCons (tVar 0) (tCons (tC (.int 3)) tNil)))) tNil)) (gName 3)
    (tAsg (tOp rdAddS (tVar 2) (tOp rIxS (tC (.str "abyz")) (rCallG (sp_law_next K) E0 (tCons (tVar 0) (tCons (tC (.int 4)) tNil))))) (gName 2)))
    (tSeq (tIfS (tTest (tOp (rIn K false) (tVar 2) (tVar 1))) (tRet (tOp rdAddS (tC (.str "c")) (tOp rIxS (tC (.str "abcdefghijklmnopqrstuvwxyz")) (tCB (rdLen K) (tCons (tVar 1) tNil))))) tNext)
    (tRet (tVar 2)))))
theorem sc_law_word : FnScope ["state", "taken", "word", "k"] ["state", "taken"] (defScope (topS 17)) := ⟨rfl, rfl, rfl, by decide +kernel, rfl, by decide +kernel, by decide +kernel⟩
theorem body_law_word (T : Tx w K mg ad fu ca) (G_law_next : FnG P w K mg base CX0 1 (ad 16) (fu 16) ["state", "many"] (sp_law_next K)) : Body P w K mg base 1 "_law_word" (topS 17) (ad 17) ["state", "taken", "word", "k"] (t_law_word K ca) := by
  intro cdv R out s Hh E gd ro
  have nd := sc_law_word.nd
  have hu := ro.units0
  have hu65 : R.units + 3 + 65 < cLine := by have := ro.un; show R.units + 3 + 65 < cLine; have e : (R.deeper (envOfC "_law_word" (defScope (topS 17)) s.heap.objs.size (ad 17) cdv)).units = R.units + 3 := rfl; rw [e] at this; omega
  exact (pss_cons (ps_set (i := 2) nd rfl (by first | exact Or.inl rfl | exact Or.inr rfl) pe_str)
    (pss_cons (ps_for PassesOwn.never rfl (pi_range1 (by rfl) T.b_range (pa_cons (pe_ix ix_list (pe_lst (pa_cons pe_int (pa_cons pe_int (pa_cons (pe_op op_add pe_int (pe_callG T.d_law_next G_law_next gd (ro.mono (by decide)) pass0 (pa_cons (pv 0) (pa_cons pe_int pa_nil)))) pa_nil)))) (pe_callG T.d_law_next G_law_next gd (ro.mono (by decide)) pass0 (pa_cons (pv 0) (pa_cons pe_int pa_nil))) (fun _ _ => rfl)) pa_nil)) (pg_name (i := 3) nd rfl (by first | exact Or.inl rfl | exact Or.inr rfl))
    (pss_one (ps_set (i := 2) nd rfl (by first | exact Or.inl rfl | exact Or.inr rfl) (pe_op op_add_str (pv 2) (pe_ix ix_str pe_str (pe_callG T.d_law_next G_law_next gd (ro.mono (by decide)) pass0 (pa_cons (pv 0) (pa_cons pe_int pa_nil))) (fun _ _ => rfl))))))
    (pss_cons (ps_if (pt_cmpR op_in_seq (pv 2) (pv 1) (by rfl)) (pss_one (ps_ret (pe_op op_add_str pe_str (pe_ix ix_str pe_str (pe_callB call_len_seq (by rfl) T.b_len (by decide +kernel) (pa_cons (pv 1) pa_nil)) (fun _ _ => rfl))))) pss_nil)
    (pss_one (ps_ret (pv 2))))))
/-! _law_number : slots 0=state -/
def t_law_number (K : PySem.W.Frag) (ca : Nat → Addr) : TS :=
  (tRet (tCB rdStr (tCons (tOp (rIxL K) (tLst (tCons (rCallG (sp_law_next K) E0 (tCons (tVar 0) (tCons (tC (.int 9)) tNil))) (tCons (tOp rdMul (rCallG (sp_law_next K) E0 (tCons (tVar 0) (tCons (tC (.int 1009)) tNil))) (tC (.int 9900))) (tCons (tC (.int 0)) (tCons (tC (.int 9999999)) tNil))))) (rCallG (sp_law_next K) E0 (tCons (tVar 0) (tCons (tC (.int 4)) tNil)))) tNil)))
theorem sc_law_number : FnScope ["state"] ["state"] (defScope (topS 18)) := ⟨rfl, rfl, rfl, by decide +kernel, rfl, by decide +kernel, by decide +kernel⟩
theorem body_law_number (T : Tx w K mg ad fu ca) (G_law_next : FnG P w K mg base CX0 1 (ad 16) (fu 16) ["state", "many"] (sp_law_next K)) : Body P w K mg base 1 "_law_number" (topS 18) (ad 18) ["state"] (t_law_number K ca) := by
  intro cdv R out s Hh E gd ro
  have nd := sc_law_number.nd
  have hu := ro.units0
  have hu65 : R.units + 3 + 65 < cLine := by have := ro.un; show R.units + 3 + 65 < cLine; have e : (R.deeper (envOfC "_law_number" (defScope (topS 18)) s.heap.objs.size (ad 18) cdv)).units = R.units + 3 := rfl; rw [e] at this; omega
  exact (pss_one (ps_ret (pe_callTy call_str_int (by rfl) T.b_str (by decide +kernel) (pa_cons (pe_ix ix_list (pe_lst (pa_cons (pe_callG T.d_law_next G_law_next gd (ro.mono (by decide)) pass0 (pa_cons (pv 0) (pa_cons pe_int pa_nil))) (pa_cons (pe_op op_mul (pe_callG T.d_law_next G_law_next gd (ro.mono (by decide)) pass0 (pa_cons (pv 0) (pa_cons pe_int pa_nil))) pe_int) (pa_cons pe_int (pa_cons pe_int pa_nil))))) (pe_callG T.d_law_next G_law_next gd (ro.mono (by decide)) pass0 (pa_cons (pv 0) (pa_cons pe_int pa_nil))) (fun _ _ => rfl)) pa_nil))))
/-! _law_text : slots 0=state 1=menu 2=k -/
def t_law_text (K : PySem.W.Frag) (ca : Nat → Addr) : TS :=
  (tSeq (tAsg (tLst (tCons (tC (.str "again (a b)")) (tCons (tC (.str "not")) (tCons (tC (.str "")) (tCons (tC (.str " ")) (tCons (tC (.str "a or")) (tCons (tC (.str "(")) (tCons (tC (.str "none")) (tCons (tC (.str "0")) (tCons (tC (.str "a;b")) (tCons (tC (.str "q")) (tCons (tC (.str "A")) tNil)))))))))))) (gName 1))
    (tRet (tM1 (rdJoin K) (tC (.str " ")) (tLc (iRng1 (tCons (rCallG (sp_law_next K) E0 (tCons (tVar 0) (tCons (tC (.int 4)) tNil))) tNil)) (gName 2) tYes (tOp (rIxL K) (tVar 1) (rCallG (sp_law_next K) E0 (tCons (tVar 0) (tCons (tCB (rdLen K) (tCons (tVar 1) tNil)) tNil)))) [2]))))
theorem sc_law_text : FnScope ["state", "menu", "k"] ["state"] (defScope (topS 19)) := ⟨rfl, rfl, rfl, by decide +kernel, rfl, by decide +kernel, by decide +kernel⟩
theorem body_law_text (T : Tx w K mg ad fu ca) (G_law_next : FnG P w K mg base CX0 1 (ad 16) (fu 16) ["state", "many"] (sp_law_next K)) : Body P w K mg base 1 "_law_text" (topS 19) (ad 19) ["state", "menu", "k"] (t_law_text K ca) := by
  intro cdv R out s Hh E gd ro
  have nd := sc_law_text.nd
  have hu := ro.units0
  have hu65 : R.units + 3 + 65 < cLine := by have := ro.un; show R.units + 3 + 65 < cLine; have e : (R.deeper (envOfC "_law_text" (defScope (topS 19)) s.heap.objs.size (ad 19) cdv)).units = R.units + 3 := rfl; rw [e] at this; omega
  exact (pss_cons (ps_set (i := 1) nd rfl (by first | exact Or.inl rfl | exact Or.inr rfl) (pe_lst (pa_cons pe_str (pa_cons pe_str (pa_cons pe_str (pa_cons pe_str (pa_cons pe_str (pa_cons pe_str (pa_cons pe_str (pa_cons pe_str (pa_cons pe_str (pa_cons pe_str (pa_cons pe_str pa_nil)))))))))))))
    (pss_one (ps_ret (pe_join pe_str (pe_lc (own := [("k", 2)]) rfl nd (pi_range1 (by rfl) T.b_range (pa_cons (pe_callG T.d_law_next G_law_next gd (ro.mono (by decide)) pass0 (pa_cons (pv 0) (pa_cons pe_int pa_nil))) pa_nil)) (blkOk_by (own := [("k", 2)]) (N := ["state", "menu", "k"]) (sc := defScope (topS 19)) (by decide +kernel)) (fun _ _ _ _ _ => (pg_name (i := 2) nd rfl (by first | exact Or.inl rfl | exact Or.inr rfl))) (fun _ _ _ _ _ => pts_nil) (fun _ _ _ _ _ => (pe_ix ix_list (pv 1) (pe_callG T.d_law_next G_law_next gd (ro.mono (by decide)) pass0 (pa_cons (pv 0) (pa_cons (pe_callB call_len_seq (by rfl) T.b_len (by decide +kernel) (pa_cons (pv 1) pa_nil)) pa_nil))) (fun _ _ => rfl))))))))
/-! _law_good : slots 0=state 1=way 2=word 3=first 4=many 5=k -/
def t_law_good (K : PySem.W.Frag) (ca : Nat → Addr) : TS :=
  (tSeq (tAsg (rCallG (sp_law_next K) E0 (tCons (tVar 0) (tCons (tC (.int 6)) tNil))) (gName 1))
    (tSeq (tAsg (tOp rdAddS (rCallG (sp_law_word K) E0 (tCons (tVar 0) (tCons (tLst tNil) tNil))) (tOp (rIxL K) (tLst (tCons (tC (.str "")) (tCons (tC (.str "z")) tNil))) (rCallG (sp_law_next K) E0 (tCons (tVar 0) (tCons (tC (.int 2)) tNil))))) (gName 2))
    (tSeq (tIfS (tTest (tOp rEq (tVar 1) (tC (.int 0)))) (tRet (tOp rdAddS (tOp rdAddS (tOp (rIxL K) (tLst (tCons (tC (.str "read")) (tCons (tC (.str "bar")) tNil))) (rCallG (sp_law_next K) E0 (tCons (tVar 0) (tCons (tC (.int 2)) tNil)))) (tC (.str " "))) (rCallG (sp_law_text K) E0 (tCons (tVar 0) tNil)))) tNext)
    (tSeq (tIfS (tTest (tOp rEq (tVar 1) (tC (.int 1)))) (tRet (tOp (rIxL K) (tLst (tCons (tC (.str "undo")) (tCons (tC (.str "log")) (tCons (tC (.str "levels")) (tCons (tC (.str "steady")) (tCons (tC (.str "elements")) (tCons (tC (.str "bound")) tNil))))))) (rCallG (sp_law_next K) E0 (tCons (tVar 0) (tCons (tC (.int 6)) tNil))))) tNext)
    (tSeq (tIfS (tTest (tOp rEq (tVar 1) (tC (.int 2)))) (tRet (tM1 (rdJoin K) (tC (.str " ")) (tOp rCat (tLst (tCons (tOp (rIxL K) (tLst (tCons (tC (.str "begin")) (tCons (tC (.str "add")) tNil))) (rCallG (sp_law_next K) E0 (tCons (tVar 0) (tCons (tC (.int 2)) tNil)))) tNil)) (tOp rRep (tLst (tCons (tVar 2) tNil)) (rCallG (sp_law_next K) E0 (tCons (tVar 0) (tCons (tC (.int 5)) tNil))))))) tNext)
    (tSeq (tIfS (tTest (tOp rEq (tVar 1) (tC (.int 3)))) (tSeq (tAsg (tOp (rIxL K) (tLst (tCons (tTup (tCons (tC (.str "forget")) (tCons (tC (.int 1)) tNil))) (tCons (tTup (tCons (tC (.str "allow")) (tCons (tC (.int 1)) tNil))) (tCons (tTup (tCons (tC (.str "cut")) (tCons (tC (.int 1)) tNil))) (tCons (tTup (tCons (tC (.str "pieces")) (tCons (tC (.int 2)) tNil))) (tCons (tTup (tCons (tC (.str "lets")) (tCons (tC (.int 3)) tNil))) tNil)))))) (rCallG (sp_law_next K) E0 (tCons (tVar 0) (tCons (tC (.int 5)) tNil)))) (gTup K 2 (gCons (gName 3) (gCons (gName 4) gNil))))
    (tRet (tM1 (rdJoin K) (tC (.str " ")) (tOp rCat (tLst (tCons (tVar 3) tNil)) (tLc (iRng1 (tCons (tVar 4) tNil)) (gName 5) tYes (rCallG (sp_law_number K) E0 (tCons (tVar 0) tNil)) [5]))))) tNext)
    (tSeq (tAsg (tOp (rIxL K) (tLst (tCons (tTup (tCons (tC (.str "least")) (tCons (tC (.int 0)) tNil))) (tCons (tTup (tCons (tC (.str "enough")) (tCons (tC (.int 1)) tNil))) (tCons (tTup (tCons (tC (.str "play")) (tCons (tC (.int 2)) tNil))) tNil)))) (rCallG (sp_law_next K) E0 (tCons (tVar 0) (tCons (tC (.int 3)) tNil)))) (gTup K 2 (gCons (gName 3) (gCons (gName 4) gNil))))
    (tRet (tM1 (rdJoin K) (tC (.str " ")) (tOp rCat (tLst (tCons (tVar 3) (tCons (tOp (rIxL K) (tLst (tCons (tC (.str "good")) (tCons (tC (.str "forward")) tNil))) (rCallG (sp_law_next K) E0 (tCons (tVar 0) (tCons (tC (.int 2)) tNil)))) tNil))) (tLc (iRng1 (tCons (tVar 4) tNil)) (gName 5) tYes (rCallG (sp_law_number K) E0 (tCons (tVar 0) tNil)) [5])))))))))))
theorem sc_law_good : FnScope ["state", "way", "word", "first", "many", "k"] ["state"] (defScope (topS 20)) := ⟨rfl, rfl, rfl, by decide +kernel, rfl, by decide +kernel, by decide +kernel⟩
theorem body_law_good (T : Tx w K mg ad fu ca) (G_law_next : FnG P w K mg base CX0 1 (ad 16) (fu 16) ["state", "many"] (sp_law_next K)) (G_law_number : FnG P w K mg base CX0 2 (ad 18) (fu 18) ["state"] (sp_law_number K)) (G_law_text : FnG P w K mg base CX0 2 (ad 19) (fu 19) ["state"] (sp_law_text K)) (G_law_word : FnG P w K mg base CX0 2 (ad 17) (fu 17) ["state", "taken"] (sp_law_word K)) : Body P w K mg base 2 "_law_good" (topS 20) (ad 20) ["state", "way", "word", "first", "many", "k"] (t_law_good K ca) := by
  intro cdv R out s Hh E gd ro
  have nd := sc_law_good.nd
  have hu := ro.units0
  have hu65 : R.units + 3 + 65 < cLine := by have := ro.un; show R.units + 3 + 65 < cLine; have e : (R.deeper (envOfC "_law_good" (defScope (topS 20)) s.heap.objs.size (ad 20) cdv)).units = R.units + 3 := rfl; rw [e] at this; omega
  exact (pss_cons (ps_set (i := 1) nd rfl (by first | exact Or.inl rfl | exact Or.inr rfl) (pe_callG T.d_law_next G_law_next gd (ro.mono (by decide)) pass0 (pa_cons (pv 0) (pa_cons pe_int pa_nil))))
    (pss_cons (ps_set (i := 2) nd rfl (by first | exact Or.inl rfl | exact Or.inr rfl) (pe_op op_add_str (pe_callG T.d_law_word G_law_word gd (ro.mono (by decide)) pass0 (pa_cons (pv 0) (pa_cons (pe_lst pa_nil) pa_nil))) (pe_ix ix_list (pe_lst (pa_cons pe_str (pa_cons pe_str pa_nil))) (pe_callG T.d_law_next G_law_next gd (ro.mono (by decide)) pass0 (pa_cons (pv 0) (pa_cons pe_int pa_nil))) (fun _ _ => rfl))))
    (pss_cons (ps_if (pt_cmpR op_eq (pv 1) pe_int (by rfl)) (pss_one (ps_ret (pe_op op_add_str (pe_op op_add_str (pe_ix ix_list (pe_lst (pa_cons pe_str (pa_cons pe_str pa_nil))) (pe_callG T.d_law_next G_law_next gd (ro.mono (by decide)) pass0 (pa_cons (pv 0) (pa_cons pe_int pa_nil))) (fun _ _ => rfl)) pe_str) (pe_callG T.d_law_text G_law_text gd (ro.mono (by decide)) pass0 (pa_cons (pv 0) pa_nil))))) pss_nil)
    (pss_cons (ps_if (pt_cmpR op_eq (pv 1) pe_int (by rfl)) (pss_one (ps_ret (pe_ix ix_list (pe_lst (pa_cons pe_str (pa_cons pe_str (pa_cons pe_str (pa_cons pe_str (pa_cons pe_str (pa_cons pe_str pa_nil))))))) (pe_callG T.d_law_next G_law_next gd (ro.mono (by decide)) pass0 (pa_cons (pv 0) (pa_cons pe_int pa_nil))) (fun _ _ => rfl)))) pss_nil)
    (pss_cons (ps_if (pt_cmpR op_eq (pv 1) pe_int (by rfl)) (pss_one (ps_ret (pe_join pe_str (pe_op op_cat (pe_lst (pa_cons (pe_ix ix_list (pe_lst (pa_cons pe_str (pa_cons pe_str pa_nil))) (pe_callG T.d_law_next G_law_next gd (ro.mono (by decide)) pass0 (pa_cons (pv 0) (pa_cons pe_int pa_nil))) (fun _ _ => rfl)) pa_nil)) (pe_op op_rep (pe_lst (pa_cons (pv 2) pa_nil)) (pe_callG T.d_law_next G_law_next gd (ro.mono (by decide)) pass0 (pa_cons (pv 0) (pa_cons pe_int pa_nil)))))))) pss_nil)
    (pss_cons (ps_if (pt_cmpR op_eq (pv 1) pe_int (by rfl)) (pss_cons (ps_asg (pe_ix ix_list (pe_lst (pa_cons (pe_tup (pa_cons pe_str (pa_cons pe_int pa_nil))) (pa_cons (pe_tup (pa_cons pe_str (pa_cons pe_int pa_nil))) (pa_cons (pe_tup (pa_cons pe_str (pa_cons pe_int pa_nil))) (pa_cons (pe_tup (pa_cons pe_str (pa_cons pe_int pa_nil))) (pa_cons (pe_tup (pa_cons pe_str (pa_cons pe_int pa_nil))) pa_nil)))))) (pe_callG T.d_law_next G_law_next gd (ro.mono (by decide)) pass0 (pa_cons (pv 0) (pa_cons pe_int pa_nil))) (fun _ _ => rfl)) (pg_tup rfl (pgs_cons (pg_name (i := 3) nd rfl (by first | exact Or.inl rfl | exact Or.inr rfl)) (pgs_cons (pg_name (i := 4) nd rfl (by first | exact Or.inl rfl | exact Or.inr rfl)) pgs_nil))))
    (pss_one (ps_ret (pe_join pe_str (pe_op op_cat (pe_lst (pa_cons (pv 3) pa_nil)) (pe_lc (own := [("k", 5)]) rfl nd (pi_range1 (by rfl) T.b_range (pa_cons (pv 4) pa_nil)) (blkOk_by (own := [("k", 5)]) (N := ["state", "way", "word", "first", "many", "k"]) (sc := defScope (topS 20)) (by decide +kernel)) (fun _ _ _ _ _ => (pg_name (i := 5) nd rfl (by first | exact Or.inl rfl | exact Or.inr rfl))) (fun _ _ _ _ _ => pts_nil) (fun _ _ _ _ _ => (pe_callG T.d_law_number G_law_number gd (ro.mono (by decide)) pass0 (pa_cons (pv 0) pa_nil))))))))) pss_nil)
    (pss_cons (ps_asg (pe_ix ix_list (pe_lst (pa_cons (pe_tup (pa_cons pe_str (pa_cons pe_int pa_nil))) (pa_cons (pe_tup (pa_cons pe_str (pa_cons pe_int pa_nil))) (pa_cons (pe_tup (pa_cons pe_str (pa_cons pe_int pa_nil))) pa_nil)))) (pe_callG T.d_law_next G_law_next gd (ro.mono (by decide)) pass0 (pa_cons (pv 0) (pa_cons pe_int pa_nil))) (fun _ _ => rfl)) (pg_tup rfl (pgs_cons (pg_name (i := 3) nd rfl (by first | exact Or.inl rfl | exact Or.inr rfl)) (pgs_cons (pg_name (i := 4) nd rfl (by first | exact Or.inl rfl | exact Or.inr rfl)) pgs_nil))))
    (pss_one (ps_ret (pe_join pe_str (pe_op op_cat (pe_lst (pa_cons (pv 3) (pa_cons (pe_ix ix_list (pe_lst (pa_cons pe_str (pa_cons pe_str pa_nil))) (pe_callG T.d_law_next G_law_next gd (ro.mono (by decide)) pass0 (pa_cons (pv 0) (pa_cons pe_int pa_nil))) (fun _ _ => rfl)) pa_nil))) (pe_lc (own := [("k", 5)]) rfl nd (pi_range1 (by rfl) T.b_range (pa_cons (pv 4) pa_nil)) (blkOk_by (own := [("k", 5)]) (N := ["state", "way", "word", "first", "many", "k"]) (sc := defScope (topS 20)) (by decide +kernel)) (fun _ _ _ _ _ => (pg_name (i := 5) nd rfl (by first | exact Or.inl rfl | exact Or.inr rfl))) (fun _ _ _ _ _ => pts_nil) (fun _ _ _ _ _ => (pe_callG T.d_law_number G_law_number gd (ro.mono (by decide)) pass0 (pa_cons (pv 0) pa_nil)))))))))))))))
/-! _law_spoilt : slots 0=state 1=line 2=words 3=at 4=menu 5=other 6=way -/
def t_law_spoilt (K : PySem.W.Frag) (ca : Nat → Addr) : TS :=
  (tSeq (tAsg (tM1 rdSplit (tVar 1) (tC (.str " "))) (gName 2))
    (tSeq (tAsg (rCallG (sp_law_next K) E0 (tCons (tVar 0) (tCons (tCB (rdLen K) (tCons (tVar 2) tNil)) tNil))) (gName 3))
    (tSeq (tAsg (tLst (tCons (tC (.str "x")) (tCons (tC (.str "01")) (tCons (tC (.str "12345678")) (tCons (tC (.str "-1")) (tCons (tC (.str "Read")) (tCons (tC (.str "undo")) (tCons (tC (.str "good")) (tCons (tC (.str "")) (tCons (tC (.str "0")) (tCons (tC (.str "enough")) (tCons (tC (.str "q7")) (tCons (tC (.str "forward")) (tCons (tC (.str "lets")) tNil)))))))))))))) (gName 4))
    (tSeq (tAsg (tOp (rIxL K) (tVar 4) (rCallG (sp_law_next K) E0 (tCons (tVar 0) (tCons (tCB (rdLen K) (tCons (tVar 4) tNil)) tNil)))) (gName 5))
    (tSeq (tAsg (rCallG (sp_law_next K) E0 (tCons (tVar 0) (tCons (tC (.int 5)) tNil))) (gName 6))
    (tSeq (tIfS (tTest (tOp rEq (tVar 6) (tC (.int 0)))) (tRet (tM1 (rdJoin K) (tC (.str " ")) (tOp rCat (tSl (rSlL K) (tVar 2) tNoPart (tPart (tVar 3))) (tSl (rSlL K) (tVar 2) (tPart (tOp rdAdd (tVar 3) (tC (.int 1)))) tNoPart)))) tNext)
    (tSeq (tIfS (tTest (tOp rEq (tVar 6) (tC (.int 1)))) (tRet (tM1 (rdJoin K) (tC (.str " ")) (tOp rCat (tOp rCat (tSl (rSlL K) (tVar 2) tNoPart (tPart (tVar 3))) (tLst (tCons (tVar 5) tNil))) (tSl (rSlL K) (tVar 2) (tPart (tVar 3)) tNoPart)))) tNext)
    (tSeq (tIfS (tTest (tOp rEq (tVar 6) (tC (.int 2)))) (tRet (tM1 (rdJoin K) (tC (.str " ")) (tOp rCat (tOp rCat (tSl (rSlL K) (tVar 2) tNoPart (tPart (tVar 3))) (tLst (tCons (tVar 5) tNil))) (tSl (rSlL K) (tVar 2) (tPart (tOp rdAdd (tVar 3) (tC (.int 1)))) tNoPart)))) tNext)
    (tSeq (tIfS (tTest (tOp rEq (tVar 6) (tC (.int 3)))) (tRet (tM1 (rdJoin K) (tC (.str " ")) (tOp rCat (tOp rCat (tOp rCat (tSl (rSlL K) (tVar 2) tNoPart (tPart (tVar 3))) (tSl (rSlL K) (tVar 2) (tPart (tOp rdAdd (tVar 3) (tC (.int 1)))) (tPart (tOp rdAdd (tVar 3) (tC (.int 2)))))) (tSl (rSlL K) (tVar 2) (tPart (tVar 3)) (tPart (tOp rdAdd (tVar 3) (tC (.int 1)))))) (tSl (rSlL K) (tVar 2) (tPart (tOp rdAdd (tVar 3) (tC (.int 2)))) tNoPart)))) tNext)
    (tRet (tOp (rIxL K) (tLst (tCons (tOp rdAddS (tVar 1) (tC (.str " "))) (tCons (tOp rdAddS (tC (.str " ")) (tVar 1)) (tCons (tOp rdAddS (tVar 1) (tC (.str " 0"))) (tCons (CwR.tReplC (tVar 1) " " "  ") tNil))))) (rCallG (sp_law_next K) E0 (tCons (tVar 0) (tCons (tC (.int 4)) tNil))))))))))))))
theorem sc_law_spoilt : FnScope ["state", "line", "words", "at", "menu", "other", "way"] ["state", "line"] (defScope (topS 21)) := ⟨rfl, rfl, rfl, by decide +kernel, rfl, by decide +kernel, by decide +kernel⟩
theorem body_law_spoilt (T : Tx w K mg ad fu ca) (G_law_next : FnG P w K mg base CX0 1 (ad 16) (fu 16) ["state", "many"] (sp_law_next K)) : Body P w K mg base 1 "_law_spoilt" (topS 21) (ad 21) ["state", "line", "words", "at", "menu", "other", "way"] (t_law_spoilt K ca) := by
  intro cdv R out s Hh E gd ro
  have nd := sc_law_spoilt.nd
  have hu := ro.units0
  have hu65 : R.units + 3 + 65 < cLine := by have := ro.un; show R.units + 3 + 65 < cLine; have e : (R.deeper (envOfC "_law_spoilt" (defScope (topS 21)) s.heap.objs.size (ad 21) cdv)).units = R.units + 3 := rfl; rw [e] at this; omega
  exact (pss_cons (ps_set (i := 2) nd rfl (by first | exact Or.inl rfl | exact Or.inr rfl) (pe_split (pv 1) pe_str))
    (pss_cons (ps_set (i := 3) nd rfl (by first | exact Or.inl rfl | exact Or.inr rfl) (pe_callG T.d_law_next G_law_next gd (ro.mono (by decide)) pass0 (pa_cons (pv 0) (pa_cons (pe_callB call_len_seq (by rfl) T.b_len (by decide +kernel) (pa_cons (pv 2) pa_nil)) pa_nil))))
    (pss_cons (ps_set (i := 4) nd rfl (by first | exact Or.inl rfl | exact Or.inr rfl) (pe_lst (pa_cons pe_str (pa_cons pe_str (pa_cons pe_str (pa_cons pe_str (pa_cons pe_str (pa_cons pe_str (pa_cons pe_str (pa_cons pe_str (pa_cons pe_str (pa_cons pe_str (pa_cons pe_str (pa_cons pe_str (pa_cons pe_str pa_nil)))))))))))))))
    (pss_cons (ps_set (i := 5) nd rfl (by first | exact Or.inl rfl | exact Or.inr rfl) (pe_ix ix_list (pv 4) (pe_callG T.d_law_next G_law_next gd (ro.mono (by decide)) pass0 (pa_cons (pv 0) (pa_cons (pe_callB call_len_seq (by rfl) T.b_len (by decide +kernel) (pa_cons (pv 4) pa_nil)) pa_nil))) (fun _ _ => rfl)))
    (pss_cons (ps_set (i := 6) nd rfl (by first | exact Or.inl rfl | exact Or.inr rfl) (pe_callG T.d_law_next G_law_next gd (ro.mono (by decide)) pass0 (pa_cons (pv 0) (pa_cons pe_int pa_nil))))
    (pss_cons (ps_if (pt_cmpR op_eq (pv 6) pe_int (by rfl)) (pss_one (ps_ret (pe_join pe_str (pe_op op_cat (pe_slice sl_list (pv 2) po_none (po_some (pv 3))) (pe_slice sl_list (pv 2) (po_some (pe_op op_add (pv 3) pe_int)) po_none))))) pss_nil)
    (pss_cons (ps_if (pt_cmpR op_eq (pv 6) pe_int (by rfl)) (pss_one (ps_ret (pe_join pe_str (pe_op op_cat (pe_op op_cat (pe_slice sl_list (pv 2) po_none (po_some (pv 3))) (pe_lst (pa_cons (pv 5) pa_nil))) (pe_slice sl_list (pv 2) (po_some (pv 3)) po_none))))) pss_nil)
    (pss_cons (ps_if (pt_cmpR op_eq (pv 6) pe_int (by rfl)) (pss_one (ps_ret (pe_join pe_str (pe_op op_cat (pe_op op_cat (pe_slice sl_list (pv 2) po_none (po_some (pv 3))) (pe_lst (pa_cons (pv 5) pa_nil))) (pe_slice sl_list (pv 2) (po_some (pe_op op_add (pv 3) pe_int)) po_none))))) pss_nil)
    (pss_cons (ps_if (pt_cmpR op_eq (pv 6) pe_int (by rfl)) (pss_one (ps_ret (pe_join pe_str (pe_op op_cat (pe_op op_cat (pe_op op_cat (pe_slice sl_list (pv 2) po_none (po_some (pv 3))) (pe_slice sl_list (pv 2) (po_some (pe_op op_add (pv 3) pe_int)) (po_some (pe_op op_add (pv 3) pe_int)))) (pe_slice sl_list (pv 2) (po_some (pv 3)) (po_some (pe_op op_add (pv 3) pe_int)))) (pe_slice sl_list (pv 2) (po_some (pe_op op_add (pv 3) pe_int)) po_none))))) pss_nil)
    (pss_one (ps_ret (pe_ix ix_list (pe_lst (pa_cons (pe_op op_add_str (pv 1) pe_str) (pa_cons (pe_op op_add_str pe_str (pv 1)) (pa_consP (pv 1) (pat_one (CwR.pet_replC (pv 1))))))) (pe_callG T.d_law_next G_law_next gd (ro.mono (by decide)) pass0 (pa_cons (pv 0) (pa_cons pe_int pa_nil))) (fun _ _ => rfl)))))))))))))
/-! _law_is_letters : slots 0=text 1=letter -/
def t_law_is_letters (K : PySem.W.Frag) (ca : Nat → Addr) : TS :=
  (tRet (tAndV (tOp rdGt (tCB rdLenS (tCons (tVar 0) tNil)) (tC (.int 0))) (tOp rEq (tCB (rdLen K) (tCons (tLc (iStr (tVar 0)) (gName 1) (tTest (tChain rdLeS rdLeS (tC (.str "a")) (tVar 1) (tC (.str "z")))) (tVar 1) [1]) tNil)) (tCB rdLenS (tCons (tVar 0) tNil)))))
theorem sc_law_is_letters : FnScope ["text", "letter"] ["text"] (defScope (topS 22)) := ⟨rfl, rfl, rfl, by decide +kernel, rfl, by decide +kernel, by decide +kernel⟩
theorem body_law_is_letters (T : Tx w K mg ad fu ca) : Body P w K mg base 0 "_law_is_letters" (topS 22) (ad 22) ["text", "letter"] (t_law_is_letters K ca) := by
  intro cdv R out s Hh E gd ro
  have nd := sc_law_is_letters.nd
  have hu := ro.units0
  have hu65 : R.units + 3 + 65 < cLine := by have := ro.un; show R.units + 3 + 65 < cLine; have e : (R.deeper (envOfC "_law_is_letters" (defScope (topS 22)) s.heap.objs.size (ad 22) cdv)).units = R.units + 3 := rfl; rw [e] at this; omega
  exact (pss_one (ps_ret (pe_and (pe_cmpR op_gt (pe_callB call_len_str (by rfl) T.b_len (by decide +kernel) (pa_cons (pv 0) pa_nil)) pe_int (by rfl)) (pe_one (pe_cmpR op_eq (pe_callB call_len_seq (by rfl) T.b_len (by decide +kernel) (pa_cons (pe_lc (own := [("letter", 1)]) rfl nd (pi_str (pv 0)) (blkOk_by (own := [("letter", 1)]) (N := ["text", "letter"]) (sc := defScope (topS 22)) (by decide +kernel)) (fun _ _ _ _ _ => (pg_name (i := 1) nd rfl (by first | exact Or.inl rfl | exact Or.inr rfl))) (fun _ _ _ _ _ => (pts_one (pt_chain op_le_str op_le_str pe_str (pv 1) pe_str))) (fun _ _ _ _ _ => (pv 1))) pa_nil)) (pe_callB call_len_str (by rfl) T.b_len (by decide +kernel) (pa_cons (pv 0) pa_nil)) (by rfl))))))
/-! _law_is_number : slots 0=text 1=digits 2=digit -/
def t_law_is_number (K : PySem.W.Frag) (ca : Nat → Addr) : TS :=
  (tSeq (tAsg (tLc (iStr (tVar 0)) (gName 2) (tTest (tOp rdInS (tVar 2) (tC (.str "0123456789")))) (tVar 2) [2]) (gName 1))
    (tRet (tAndV (tChain rdLt rdLt (tC (.int 0)) (tCB rdLenS (tCons (tVar 0) tNil)) (tC (.int 8))) (tAndV (tOp rEq (tCB (rdLen K) (tCons (tVar 1) tNil)) (tCB rdLenS (tCons (tVar 0) tNil))) (tOrV (tOp rEq (tVar 0) (tC (.str "0"))) (tOp rNe (tOp rIxS (tVar 0) (tC (.int 0))) (tC (.str "0"))))))))
theorem sc_law_is_number : FnScope ["text", "digits", "digit"] ["text"] (defScope (topS 23)) := ⟨rfl, rfl, rfl, by decide +kernel, rfl, by decide +kernel, by decide +kernel⟩
theorem body_law_is_number (T : Tx w K mg ad fu ca) : Body P w K mg base 0 "_law_is_number" (topS 23) (ad 23) ["text", "digits", "digit"] (t_law_is_number K ca) := by
  intro cdv R out s Hh E gd ro
  have nd := sc_law_is_number.nd
  have hu := ro.units0
  have hu65 : R.units + 3 + 65 < cLine := by have := ro.un; show R.units + 3 + 65 < cLine; have e : (R.deeper (envOfC "_law_is_number" (defScope (topS 23)) s.heap.objs.size (ad 23) cdv)).units = R.units + 3 := rfl; rw [e] at this; omega
  exact (pss_cons (ps_setLc (i := 1) (own := [("digit", 2)]) rfl nd rfl rfl (sw_true rfl rfl rfl (by decide +kernel)) (pi_str (pv 0)) (blkOk_by (own := [("digit", 2)]) (N := ["text", "digits", "digit"]) (sc := defScope (topS 23)) (by decide +kernel)) (fun _ _ _ _ _ => (pg_name (i := 2) nd rfl (by first | exact Or.inl rfl | exact Or.inr rfl))) (fun _ _ _ _ _ => (pts_one (pt_cmpR op_in_sign (pv 2) pe_str (by rfl)))) (fun _ _ _ _ _ => (pv 2)))
    (pss_one (ps_ret (pe_and (pe_chain op_lt op_lt pe_int (pe_callB call_len_str (by rfl) T.b_len (by decide +kernel) (pa_cons (pv 0) pa_nil)) pe_int) (pe_and (pe_cmpR op_eq (pe_callB call_len_seq (by rfl) T.b_len (by decide +kernel) (pa_cons (pv 1) pa_nil)) (pe_callB call_len_str (by rfl) T.b_len (by decide +kernel) (pa_cons (pv 0) pa_nil)) (by rfl)) (pe_one (pe_or (pe_cmpR op_eq (pv 0) pe_str (by rfl)) (pe_one (pe_cmpR op_ne (pe_ix ix_str (pv 0) pe_int (fun _ _ => rfl)) pe_str (by rfl))))))))))
/-! _law_due : slots 0=line 1=words 2=first 3=rest 4=word 5=many 6=one -/
def t_law_due (K : PySem.W.Frag) (ca : Nat → Addr) : TS :=
  (tSeq (tAsg (tM1 rdSplit (tVar 0) (tC (.str " "))) (gName 1))
    (tSeq (tAsg (tOp (rIxL K) (tVar 1) (tC (.int 0))) (gName 2))
    (tSeq (tAsg (tSl (rSlL K) (tVar 1) (tPart (tC (.int 1))) tNoPart) (gName 3))
    (tSeq (tIfS (tTest (tOp rEq (tVar 0) (tC (.str "")))) (tRet (tTup tNil)) tNext)
    (tSeq (tIfS (tAnd (tTest (tOp (rIn K false) (tVar 2) (tLst (tCons (tC (.str "read")) (tCons (tC (.str "bar")) tNil))))) (tTest (tOp rdGt (tCB (rdLen K) (tCons (tVar 3) tNil)) (tC (.int 0))))) (tRet (tTup (tCons (tVar 2) (tCons (tM1 (rdJoin K) (tC (.str " ")) (tVar 3)) tNil)))) tNext)
    (tSeq (tIfS (tAnd (tTest (tOp (rIn K false) (tVar 2) (tLst (tCons (tC (.str "undo")) (tCons (tC (.str "log")) (tCons (tC (.str "levels")) (tCons (tC (.str "steady")) (tCons (tC (.str "elements")) (tCons (tC (.str "bound")) tNil))))))))) (tTest (tOp rEq (tCB (rdLen K) (tCons (tVar 3) tNil)) (tC (.int 0))))) (tRet (tTup (tCons (tVar 2) tNil))) tNext)
    (tSeq (tIfS (tAnd (tTest (tOp (rIn K false) (tVar 2) (tLst (tCons (tC (.str "begin")) (tCons (tC (.str "add")) tNil))))) (tB (tCB (rAll K) (tCons (tLc (iList K (tVar 3)) (gName 4) tYes (rCallG (sp_law_is_letters K) E0 (tCons (tVar 4) tNil)) [4]) tNil)))) (tRet (tCB (rdTuple K) (tCons (tVar 1) tNil))) tNext)
    (tSeq (tFor (iList K (tLst (tCons (tTup (tCons (tC (.str "forget")) (tCons (tC (.int 1)) tNil))) (tCons (tTup (tCons (tC (.str "allow")) (tCons (tC (.int 1)) tNil))) (tCons (tTup (tCons (tC (.str "cut")) (tCons (tC (.int 1)) tNil))) (tCons (tTup (tCons (tC (.str "pieces")) (tCons (tC (.int 2)) tNil))) (tCons (tTup (tCons (tC (.str "lets")) (tCons (tC (.int 3)) tNil))) tNil))))))) (gTup K 2 (gCons (gName 4) (gCons (gName 5) gNil)))
    (tIfS (tAnd (tTest (tOp rEq (tVar 2) (tVar 4))) (tAnd (tTest (tOp rEq (tCB (rdLen K) (tCons (tVar 3) tNil)) (tVar 5))) (tB (tCB (rAll K) (tCons (tLc (iList K (tVar 3)) (gName 6) tYes (rCallG (sp_law_is_number K) E0 (tCons (tVar 6) tNil)) [6]) tNil))))) (tRet (tCB (rdTuple K) (tCons (tOp rCat (tLst (tCons (tVar 2) tNil)) (tLc (iList K (tVar 3)) (gName 6) tYes (tCB rdIntS (tCons (tVar 6) tNil)) [6])) tNil))) tNext))
    (tSeq (tFor (iList K (tLst (tCons (tTup (tCons (tC (.str "least")) (tCons (tC (.int 0)) tNil))) (tCons (tTup (tCons (tC (.str "enough")) (tCons (tC (.int 1)) tNil))) (tCons (tTup (tCons (tC (.str "play")) (tCons (tC (.int 2)) tNil))) tNil))))) (gTup K 2 (gCons (gName 4) (gCons (gName 5) gNil)))
    (tIfS (tAnd (tTest (tOp rEq (tVar 2) (tVar 4))) (tAnd (tTest (tOp rEq (tCB (rdLen K) (tCons (tVar 3) tNil)) (tOp rdAdd (tVar 5) (tC (.int 1))))) (tAnd (tTest (tOp (rIn K false) (tOp (rIxL K) (tVar 3) (tC (.int 0))) (tLst (tCons (tC (.str "good")) (tCons (tC (.str "forward")) tNil))))) (tB (tCB (rAll K) (tCons (tLc (iList K (tSl (rSlL K) (tVar 3) (tPart (tC (.int 1))) tNoPart)) (gName 6) tYes (rCallG (sp_law_is_number K) E0 (tCons (tVar 6) tNil)) [6]) tNil)))))) (tRet (tCB (rdTuple K) (tCons (tOp rCat (tLst (tCons (tVar 2) (tCons (tOp (rIxL K) (tVar 3) (tC (.int 0))) tNil))) (tLc (iList K (tSl (rSlL K) (tVar 3) (tPart (tC (.int 1))) tNoPart)) (gName 6) tYes (tCB rdIntS (tCons (tVar 6) tNil)) [6])) tNil))) tNext))
    (tRet (tC .non)))))))))))
theorem sc_law_due : FnScope ["line", "words", "first", "rest", "word", "many", "one"] ["line"] (defScope (topS 24)) := ⟨rfl, rfl, rfl, by decide +kernel, rfl, by decide +kernel, by decide +kernel⟩
theorem body_law_due (T : Tx w K mg ad fu ca) (G_law_is_letters : FnG P w K mg base CX0 1 (ad 22) (fu 22) ["text"] (sp_law_is_letters K)) (G_law_is_number : FnG P w K mg base CX0 1 (ad 23) (fu 23) ["text"] (sp_law_is_number K)) : Body P w K mg base 1 "_law_due" (topS 24) (ad 24) ["line", "words", "first", "rest", "word", "many", "one"] (t_law_due K ca) := by
  intro cdv R out s Hh E gd ro
  have nd := sc_law_due.nd
  have hu := ro.units0
  have hu65 : R.units + 3 + 65 < cLine := by have := ro.un; show R.units + 3 + 65 < cLine; have e : (R.deeper (envOfC "_law_due" (defScope (topS 24)) s.heap.objs.size (ad 24) cdv)).units = R.units + 3 := rfl; rw [e] at this; omega
  exact (pss_cons (ps_set (i := 1) nd rfl (by first | exact Or.inl rfl | exact Or.inr rfl) (pe_split (pv 0) pe_str))
    (pss_cons (ps_set (i := 2) nd rfl (by first | exact Or.inl rfl | exact Or.inr rfl) (pe_ix ix_list (pv 1) pe_int (fun _ _ => rfl)))
    (pss_cons (ps_set (i := 3) nd rfl (by first | exact Or.inl rfl | exact Or.inr rfl) (pe_slice sl_list (pv 1) (po_some pe_int) po_none))
    (pss_cons (ps_if (pt_cmpR op_eq (pv 0) pe_str (by rfl)) (pss_one (ps_ret (pe_tup pa_nil))) pss_nil)
    (pss_cons (ps_if (PW.pt (pw_and (pt_cmpR op_in_seq (pv 2) (pe_lst (pa_cons pe_str (pa_cons pe_str pa_nil))) (by rfl)) (pw_and1 (pt_cmpR op_gt (pe_callB call_len_seq (by rfl) T.b_len (by decide +kernel) (pa_cons (pv 3) pa_nil)) pe_int (by rfl))))) (pss_one (ps_ret (pe_tup (pa_cons (pv 2) (pa_cons (pe_join pe_str (pv 3)) pa_nil))))) pss_nil)
    (pss_cons (ps_if (PW.pt (pw_and (pt_cmpR op_in_seq (pv 2) (pe_lst (pa_cons pe_str (pa_cons pe_str (pa_cons pe_str (pa_cons pe_str (pa_cons pe_str (pa_cons pe_str pa_nil))))))) (by rfl)) (pw_and1 (pt_cmpR op_eq (pe_callB call_len_seq (by rfl) T.b_len (by decide +kernel) (pa_cons (pv 3) pa_nil)) pe_int (by rfl))))) (pss_one (ps_ret (pe_tup (pa_cons (pv 2) pa_nil)))) pss_nil)
    (pss_cons (ps_if (PW.pt (pw_and (pt_cmpR op_in_seq (pv 2) (pe_lst (pa_cons pe_str (pa_cons pe_str pa_nil))) (by rfl)) (pw_and1 (pt_val (pe_callB (cr_all rfl) (by rfl) T.b_all (by decide +kernel) (pa_cons (pe_lc (own := [("word", 4)]) rfl nd (pi_list (pv 3)) (blkOk_by (own := [("word", 4)]) (N := ["line", "words", "first", "rest", "word", "many", "one"]) (sc := defScope (topS 24)) (by decide +kernel)) (fun _ _ _ _ _ => (pg_name (i := 4) nd rfl (by first | exact Or.inl rfl | exact Or.inr rfl))) (fun _ _ _ _ _ => pts_nil) (fun _ _ _ _ _ => (pe_callG T.d_law_is_letters G_law_is_letters gd (ro.mono (by decide)) pass0 (pa_cons (pv 4) pa_nil)))) pa_nil)))))) (pss_one (ps_ret (pe_callTy call_tuple_of (by rfl) T.b_tuple (by decide +kernel) (pa_cons (pv 1) pa_nil)))) pss_nil)
    (pss_cons (ps_for PassesOwn.never rfl (pi_list (pe_lst (pa_cons (pe_tup (pa_cons pe_str (pa_cons pe_int pa_nil))) (pa_cons (pe_tup (pa_cons pe_str (pa_cons pe_int pa_nil))) (pa_cons (pe_tup (pa_cons pe_str (pa_cons pe_int pa_nil))) (pa_cons (pe_tup (pa_cons pe_str (pa_cons pe_int pa_nil))) (pa_cons (pe_tup (pa_cons pe_str (pa_cons pe_int pa_nil))) pa_nil))))))) (pg_tup rfl (pgs_cons (pg_name (i := 4) nd rfl (by first | exact Or.inl rfl | exact Or.inr rfl)) (pgs_cons (pg_name (i := 5) nd rfl (by first | exact Or.inl rfl | exact Or.inr rfl)) pgs_nil)))
    (pss_one (ps_if (PW.pt (pw_and (pt_cmpR op_eq (pv 2) (pv 4) (by rfl)) (pw_and (pt_cmpR op_eq (pe_callB call_len_seq (by rfl) T.b_len (by decide +kernel) (pa_cons (pv 3) pa_nil)) (pv 5) (by rfl)) (pw_and1 (pt_val (pe_callB (cr_all rfl) (by rfl) T.b_all (by decide +kernel) (pa_cons (pe_lc (own := [("one", 6)]) rfl nd (pi_list (pv 3)) (blkOk_by (own := [("one", 6)]) (N := ["line", "words", "first", "rest", "word", "many", "one"]) (sc := defScope (topS 24)) (by decide +kernel)) (fun _ _ _ _ _ => (pg_name (i := 6) nd rfl (by first | exact Or.inl rfl | exact Or.inr rfl))) (fun _ _ _ _ _ => pts_nil) (fun _ _ _ _ _ => (pe_callG T.d_law_is_number G_law_is_number gd (ro.mono (by decide)) pass0 (pa_cons (pv 6) pa_nil)))) pa_nil))))))) (pss_one (ps_ret (pe_callTy call_tuple_of (by rfl) T.b_tuple (by decide +kernel) (pa_cons (pe_op op_cat (pe_lst (pa_cons (pv 2) pa_nil)) (pe_lc (own := [("one", 6)]) rfl nd (pi_list (pv 3)) (blkOk_by (own := [("one", 6)]) (N := ["line", "words", "first", "rest", "word", "many", "one"]) (sc := defScope (topS 24)) (by decide +kernel)) (fun _ _ _ _ _ => (pg_name (i := 6) nd rfl (by first | exact Or.inl rfl | exact Or.inr rfl))) (fun _ _ _ _ _ => pts_nil) (fun _ _ _ _ _ => (pe_callTy call_int_str (by rfl) T.b_int (by decide +kernel) (pa_cons (pv 6) pa_nil))))) pa_nil)))) pss_nil)))
    (pss_cons (ps_for PassesOwn.never rfl (pi_list (pe_lst (pa_cons (pe_tup (pa_cons pe_str (pa_cons pe_int pa_nil))) (pa_cons (pe_tup (pa_cons pe_str (pa_cons pe_int pa_nil))) (pa_cons (pe_tup (pa_cons pe_str (pa_cons pe_int pa_nil))) pa_nil))))) (pg_tup rfl (pgs_cons (pg_name (i := 4) nd rfl (by first | exact Or.inl rfl | exact Or.inr rfl)) (pgs_cons (pg_name (i := 5) nd rfl (by first | exact Or.inl rfl | exact Or.inr rfl)) pgs_nil)))
    (pss_one (ps_if (PW.pt (pw_and (pt_cmpR op_eq (pv 2) (pv 4) (by rfl)) (pw_and (pt_cmpR op_eq (pe_callB call_len_seq (by rfl) T.b_len (by decide +kernel) (pa_cons (pv 3) pa_nil)) (pe_op op_add (pv 5) pe_int) (by rfl)) (pw_and (pt_cmpR op_in_seq (pe_ix ix_list (pv 3) pe_int (fun _ _ => rfl)) (pe_lst (pa_cons pe_str (pa_cons pe_str pa_nil))) (by rfl)) (pw_and1 (pt_val (pe_callB (cr_all rfl) (by rfl) T.b_all (by decide +kernel) (pa_cons (pe_lc (own := [("one", 6)]) rfl nd (pi_list (pe_slice sl_list (pv 3) (po_some pe_int) po_none)) (blkOk_by (own := [("one", 6)]) (N := ["line", "words", "first", "rest", "word", "many", "one"]) (sc := defScope (topS 24)) (by decide +kernel)) (fun _ _ _ _ _ => (pg_name (i := 6) nd rfl (by first | exact Or.inl rfl | exact Or.inr rfl))) (fun _ _ _ _ _ => pts_nil) (fun _ _ _ _ _ => (pe_callG T.d_law_is_number G_law_is_number gd (ro.mono (by decide)) pass0 (pa_cons (pv 6) pa_nil)))) pa_nil)))))))) (pss_one (ps_ret (pe_callTy call_tuple_of (by rfl) T.b_tuple (by decide +kernel) (pa_cons (pe_op op_cat (pe_lst (pa_cons (pv 2) (pa_cons (pe_ix ix_list (pv 3) pe_int (fun _ _ => rfl)) pa_nil))) (pe_lc (own := [("one", 6)]) rfl nd (pi_list (pe_slice sl_list (pv 3) (po_some pe_int) po_none)) (blkOk_by (own := [("one", 6)]) (N := ["line", "words", "first", "rest", "word", "many", "one"]) (sc := defScope (topS 24)) (by decide +kernel)) (fun _ _ _ _ _ => (pg_name (i := 6) nd rfl (by first | exact Or.inl rfl | exact Or.inr rfl))) (fun _ _ _ _ _ => pts_nil) (fun _ _ _ _ _ => (pe_callTy call_int_str (by rfl) T.b_int (by decide +kernel) (pa_cons (pv 6) pa_nil))))) pa_nil)))) pss_nil)))
    (pss_one (ps_ret pe_non)))))))))))
/-! law : slots 0=script 1=state 2=k 3=line 4=due 5=spoilt 6=told -/
def t_law (K : PySem.W.Frag) (ca : Nat → Addr) : TS :=
  (tSeq (tAsg (tLst (tCons (rCallG (sp_law_stream K) E0 (tCons (tVar 0) tNil)) (tCons (tC (.int 0)) tNil))) (gName 1))
    (tSeq (tIfS (tNot (tB (rCallG (sp_law_same K) E0 (tCons (rCallG (sp_read_command K) E0 (tCons (tC (.str "")) tNil)) (tCons (tTup tNil) tNil))))) (tRet (tC (.bl false))) tNext)
    (tSeq (tFor (iRng1 (tCons (tC (.int 6)) tNil)) (gName 2)
    (tSeq (tAsg (rCallG (sp_law_good K) E0 (tCons (tVar 1) tNil)) (gName 3))
    (tSeq (tAsg (rCallG (sp_law_due K) E0 (tCons (tVar 3) tNil)) (gName 4))
    (tSeq (tIfS (tOr (tTest (tOp rdIsN (tVar 4) (tC .non))) (tNot (tB (rCallG (sp_law_same K) E0 (tCons (rCallG (sp_read_command K) E0 (tCons (tVar 3) tNil)) (tCons (tVar 4) tNil)))))) (tRet (tC (.bl false))) tNext)
    (tSeq (tAsg (rCallG (sp_law_spoilt K) E0 (tCons (tVar 1) (tCons (tVar 3) tNil))) (gName 5))
    (tSeq (tAsg (rCallG (sp_law_due K) E0 (tCons (tVar 5) tNil)) (gName 4))
    (tSeq (tAsg (rCallG (sp_read_command K) E0 (tCons (tVar 5) tNil)) (gName 6))
    (tIfS (tNot (tB (rCallG (sp_law_same K) E0 (tCons (tVar 6) (tCons (tVar 4) tNil))))) (tRet (tC (.bl false))) tNext))))))))
    (tRet (tC (.bl true))))))
theorem sc_law : FnScope ["script", "state", "k", "line", "due", "spoilt", "told"] ["script"] (defScope (topS 25)) := ⟨rfl, rfl, rfl, by decide +kernel, rfl, by decide +kernel, by decide +kernel⟩
theorem body_law (T : Tx w K mg ad fu ca) (G_law_due : FnG P w K mg base CX0 2 (ad 24) (fu 24) ["line"] (sp_law_due K)) (G_law_good : FnG P w K mg base CX0 3 (ad 20) (fu 20) ["state"] (sp_law_good K)) (G_law_same : FnG P w K mg base CX0 1 (ad 14) (fu 14) ["told", "due"] (sp_law_same K)) (G_law_spoilt : FnG P w K mg base CX0 2 (ad 21) (fu 21) ["state", "line"] (sp_law_spoilt K)) (G_law_stream : FnG P w K mg base CX0 1 (ad 15) (fu 15) ["script"] (sp_law_stream K)) (G_read_command : FnG P w K mg base CX0 3 (ad 12) (fu 12) ["line"] (sp_read_command K)) : Body P w K mg base 3 "law" (topS 25) (ad 25) ["script", "state", "k", "line", "due", "spoilt", "told"] (t_law K ca) := by
  intro cdv R out s Hh E gd ro
  have nd := sc_law.nd
  have hu := ro.units0
  have hu65 : R.units + 3 + 65 < cLine := by have := ro.un; show R.units + 3 + 65 < cLine; have e : (R.deeper (envOfC "law" (defScope (topS 25)) s.heap.objs.size (ad 25) cdv)).units = R.units + 3 := rfl; rw [e] at this; omega
  exact (pss_cons (ps_set (i := 1) nd rfl (by first | exact Or.inl rfl | exact Or.inr rfl) (pe_lst (pa_cons (pe_callG T.d_law_stream G_law_stream gd (ro.mono (by decide)) pass0 (pa_cons (pv 0) pa_nil)) (pa_cons pe_int pa_nil))))
    (pss_cons (ps_if (pt_not (pt_val (pe_callG T.d_law_same G_law_same gd (ro.mono (by decide)) pass0 (pa_cons (pe_callG T.d_read_command G_read_command gd (ro.mono (by decide)) pass0 (pa_cons pe_str pa_nil)) (pa_cons (pe_tup pa_nil) pa_nil))))) (pss_one (ps_ret pe_bl)) pss_nil)
    (pss_cons (ps_for PassesOwn.never rfl (pi_range1 (by rfl) T.b_range (pa_cons pe_int pa_nil)) (pg_name (i := 2) nd rfl (by first | exact Or.inl rfl | exact Or.inr rfl))
    (pss_cons (ps_set (i := 3) nd rfl (by first | exact Or.inl rfl | exact Or.inr rfl) (pe_callG T.d_law_good G_law_good gd (ro.mono (by decide)) pass0 (pa_cons (pv 1) pa_nil)))
    (pss_cons (ps_set (i := 4) nd rfl (by first | exact Or.inl rfl | exact Or.inr rfl) (pe_callG T.d_law_due G_law_due gd (ro.mono (by decide)) pass0 (pa_cons (pv 3) pa_nil)))
    (pss_cons (ps_if (PW.pt (pw_or (pt_cmpR op_isN (pv 4) pe_non (by rfl)) (pw_or1 (pt_not (pt_val (pe_callG T.d_law_same G_law_same gd (ro.mono (by decide)) pass0 (pa_cons (pe_callG T.d_read_command G_read_command gd (ro.mono (by decide)) pass0 (pa_cons (pv 3) pa_nil)) (pa_cons (pv 4) pa_nil)))))))) (pss_one (ps_ret pe_bl)) pss_nil)
    (pss_cons (ps_set (i := 5) nd rfl (by first | exact Or.inl rfl | exact Or.inr rfl) (pe_callG T.d_law_spoilt G_law_spoilt gd (ro.mono (by decide)) pass0 (pa_cons (pv 1) (pa_cons (pv 3) pa_nil))))
    (pss_cons (ps_set (i := 4) nd rfl (by first | exact Or.inl rfl | exact Or.inr rfl) (pe_callG T.d_law_due G_law_due gd (ro.mono (by decide)) pass0 (pa_cons (pv 5) pa_nil)))
    (pss_cons (ps_set (i := 6) nd rfl (by first | exact Or.inl rfl | exact Or.inr rfl) (pe_callG T.d_read_command G_read_command gd (ro.mono (by decide)) pass0 (pa_cons (pv 5) pa_nil)))
    (pss_one (ps_if (pt_not (pt_val (pe_callG T.d_law_same G_law_same gd (ro.mono (by decide)) pass0 (pa_cons (pv 6) (pa_cons (pv 4) pa_nil))))) (pss_one (ps_ret pe_bl)) pss_nil)))))))))
    (pss_one (ps_ret pe_bl)))))
end
end K80
namespace Sf
open PySem PySem.Spec PyProof.Rows L2
theorem sz {n : Nat} (h : n ≤ 16777216) : n ≤ sizeLine := Nat.le_trans h (by decide)
theorem szl {n : Nat} (h : n < 16777216) : n < sizeLine := Nat.lt_of_lt_of_le h (by decide)
/-! ### comprehensions -/
theorem wipe_one (σ : L2.St) (j : Nat) (v : Option V) : wipe ((wipe σ [j]).set j v) [j] = wipe σ [j] := by
  show (((σ.set j none).set j v).set j none) = σ.set j none
  rw [List.set_set, List.set_set]
/-- over a text's signs -/
theorem lc_str {x : Str} {g : TG} {tt : TT} {te : TE} {vs : List Nat} {σ : L2.St} {H1 : Hp} {D : Addr} {Qd : Hp → Prop} (Pv : Nat → Hp → Prop) (h0 : Pv 0 (upd H1 D (.lst [])))
    (hs : ∀ i c H, x.cps[i]? = some c → Pv i H → g (.str ⟨#[c]⟩) (wipe σ vs) H fun σ2 H2 => wipe σ2 vs = wipe σ vs ∧ tt σ2 H2 fun b H3 =>
      if b = true then te σ2 H3 fun y H4 => ∃ acc, H4 D = some (.lst acc) ∧ acc.length < sizeLine ∧ Pv (i + 1) (upd H4 D (.lst (acc ++ [y]))) else Pv (i + 1) H3) (hd : ∀ H, Pv x.cps.size H → Qd H) :
    ∃ W : Nat → Nat → Hp → Prop, (∃ m, W 0 m (upd H1 D (.lst []))) ∧ ∀ i m H, W i m H →
      ((Its x).stop i H ∧ Qd H) ∨ ((Its x).go i H ∧ ∃ Nx : Hp → Prop, (∀ H', Nx H' → ∃ m', m' < m ∧ W (i + 1) m' H') ∧ ∀ v H', (Its x).yld i H v H' → g v (wipe σ vs) H' fun σ2 H2 => wipe σ2 vs = wipe σ vs ∧ tt σ2 H2 fun b H3 =>
        if b = true then te σ2 H3 fun y H4 => ∃ acc, H4 D = some (.lst acc) ∧ acc.length < sizeLine ∧ Nx (upd H4 D (.lst (acc ++ [y]))) else Nx H3) := by
  refine ⟨fun i m H => m = x.cps.size - i ∧ i ≤ x.cps.size ∧ Pv i H, ⟨x.cps.size, by simp, Nat.zero_le _, h0⟩, ?_⟩
  rintro i m H ⟨rfl, hi, p⟩
  by_cases hlt : i < x.cps.size
  · refine Or.inr ⟨hlt, Pv (i + 1), fun H' p' => ⟨x.cps.size - (i + 1), by omega, rfl, hlt, p'⟩, fun v H' y => ?_⟩
    obtain ⟨rfl, c, hc, rfl⟩ := y
    exact hs i c H' hc p
  · have e : i = x.cps.size := by omega
    subst e
    exact Or.inl ⟨Nat.le_refl _, hd H p⟩
section
variable {K : PySem.W.Frag} {σ : L2.St} {H : Hp} {j : Nat} {tt : TT} {te t0 : TE} {Q : VK}
theorem lt_get {α : Type} {l : List α} {i : Nat} {x : α} (h : l[i]? = some x) : i < l.length := (List.getElem?_eq_some_iff.mp h).1
theorem take_more {α : Type} {l : List α} {i : Nat} {x : α} (h : l[i]? = some x) : l.take (i + 1) = l.take i ++ [x] := by
  rw [List.take_add_one, h]; rfl
theorem fm_more {α : Type} {l : List α} {i : Nat} {x : α} {p : α → Bool} {f : α → V} (h : l[i]? = some x) :
    ((l.take (i + 1)).filter p).map f = ((l.take i).filter p).map f ++ (if p x = true then [f x] else []) := by
  rw [take_more h, List.filter_append, List.map_append]
  by_cases hp : p x = true
  · simp [hp]
  · simp [hp]
/-- what a turn of a plain comprehension asks -/
theorem lc_turn {α : Type} {l : List α} {i : Nat} {x : α} {p : α → Bool} {f : α → V} {D : Addr} {H1 : Hp} {s2 : L2.St} (hD : H D = none) (hl : l.length ≤ 1000000) (hi : l[i]? = some x) (hk : Kp [] H H1) (hA : H1 D = some (.lst (((l.take i).filter p).map f)))
    (ht : ∀ R : Bool → Hp → Prop, (∀ H2, Kp [] H1 H2 → R (p x) H2) → tt s2 H1 R) (he : p x = true → ∀ H2, Kp [] H1 H2 → ∀ R : VK, (∀ H3, Kp [] H2 H3 → R (f x) H3) → te s2 H2 R) :
    tt s2 H1 fun b H3 => if b = true then te s2 H3 fun y H4 => ∃ acc, H4 D = some (.lst acc) ∧ acc.length < sizeLine ∧ (Kp [] H (upd H4 D (.lst (acc ++ [y]))) ∧ (upd H4 D (.lst (acc ++ [y]))) D = some (.lst (((l.take (i + 1)).filter p).map f)))
      else (Kp [] H H3 ∧ H3 D = some (.lst (((l.take (i + 1)).filter p).map f))) := by
  refine ht _ fun H2 k2 => ?_
  by_cases hp : p x = true
  · rw [if_pos hp]
    refine he hp H2 k2 _ fun H3 k3 => ⟨_, k3 _ _ (k2 _ _ hA (by simp)) (by simp), ?_, ?_, ?_⟩
    · refine szl (Nat.lt_of_le_of_lt ?_ (by decide : 1000000 < 16777216))
      rw [List.length_map]
      exact Nat.le_trans (List.length_filter_le _ _) (by rw [List.length_take]; omega)
    · exact ((hk.trans k2).trans k3).own hD
    · rw [upd_same, fm_more hi, if_pos hp]
  · rw [if_neg hp]
    refine ⟨hk.trans k2, ?_⟩
    rw [fm_more hi, if_neg hp, List.append_nil]
    exact k2 _ _ hA (by simp)
/-- [e for c in x if t], x a text -/
theorem lcS {x : Str} (p : Nat → Bool) (f : Nat → V) (h0 : ∀ R : VK, R (.str x) H → t0 σ H R) (hz : x.length ≤ 1000000)
    (ht : ∀ c H1, c ∈ x.cps.toList → Kp [] H H1 → ∀ R : Bool → Hp → Prop, (∀ H2, Kp [] H1 H2 → R (p c) H2) → tt ((σ.set j none).set j (some (.str ⟨#[c]⟩))) H1 R)
    (he : ∀ c H1, c ∈ x.cps.toList → p c = true → Kp [] H H1 → ∀ R : VK, (∀ H2, Kp [] H1 H2 → R (f c) H2) → te ((σ.set j none).set j (some (.str ⟨#[c]⟩))) H1 R)
    (q : ∀ D H', H D = none → Kp [] H H' → H' D = some (.lst ((x.cps.toList.filter p).map f)) → Q (.ref D) H') : tLc (iStr t0) (gName j) tt te [j] σ H Q := by
  refine h0 _ ⟨x, rfl, fun D hD => ?_⟩
  refine lc_str (x := x) (fun i H1 => Kp [] H H1 ∧ H1 D = some (.lst (((x.cps.toList.take i).filter p).map f))) ⟨kp_new hD, by rw [upd_same]; simp⟩ (fun i c H1 hi ⟨k1, a1⟩ => ⟨wipe_one σ j _, ?_⟩) fun H1 ⟨k1, a1⟩ => ?_
  · have hi' : x.cps.toList[i]? = some c := by simpa using hi
    have hm : c ∈ x.cps.toList := List.mem_of_getElem? hi'
    exact lc_turn (l := x.cps.toList) hD (by simpa [Str.length] using hz) hi' k1 a1 (ht c H1 hm k1) fun hp H2 k2 => he c H2 hm hp (k1.trans k2)
  · refine q D H1 hD k1 ?_
    rw [a1]
    have e : x.cps.toList.take x.cps.size = x.cps.toList := by
      rw [List.take_of_length_le]; simp
    rw [e]
/-- [e for v in xs if t], xs a list -/
theorem lcL {a : Addr} {xs : List V} (p : V → Bool) (f : V → V) (h0 : ∀ R : VK, R (.ref a) H → t0 σ H R) (hx : SqL K H a xs) (hz : xs.length ≤ 1000000)
    (ht : ∀ x H1, x ∈ xs → Kp [] H H1 → ∀ R : Bool → Hp → Prop, (∀ H2, Kp [] H1 H2 → R (p x) H2) → tt ((σ.set j none).set j (some x)) H1 R)
    (he : ∀ x H1, x ∈ xs → p x = true → Kp [] H H1 → ∀ R : VK, (∀ H2, Kp [] H1 H2 → R (f x) H2) → te ((σ.set j none).set j (some x)) H1 R)
    (q : ∀ D H', H D = none → Kp [] H H' → H' D = some (.lst ((xs.filter p).map f)) → Q (.ref D) H') : tLc (iList K t0) (gName j) tt te [j] σ H Q := by
  refine h0 _ ⟨a, rfl, ⟨xs, hx⟩, fun D hD => ?_⟩
  refine lc_list (xs := xs) (fun i H1 => Kp [] H H1 ∧ H1 D = some (.lst (((xs.take i).filter p).map f))) ⟨kp_new hD, by rw [upd_same]; simp⟩ (fun i H1 _ ⟨k1, _⟩ => k1.sqL (by simp) hx) (fun i c H1 hi ⟨k1, a1⟩ => ⟨wipe_one σ j _, ?_⟩) fun H1 ⟨k1, a1⟩ => ?_
  · have hm : c ∈ xs := List.mem_of_getElem? hi
    exact lc_turn (l := xs) hD hz hi k1 a1 (ht c H1 hm k1) fun hp H2 k2 => he c H2 hm hp (k1.trans k2)
  · refine q D H1 hD k1 ?_
    rw [a1, List.take_of_length_le (Nat.le_refl _)]
/-- [e for v in t], t a tuple -/
theorem lcT {a : Addr} {xs : List V} (p : V → Bool) (f : V → V) (h0 : ∀ R : VK, R (.ref a) H → t0 σ H R) (hx : SqT K H a xs) (hz : xs.length ≤ 1000000)
    (ht : ∀ x H1, x ∈ xs → Kp [] H H1 → ∀ R : Bool → Hp → Prop, (∀ H2, Kp [] H1 H2 → R (p x) H2) → tt ((σ.set j none).set j (some x)) H1 R)
    (he : ∀ x H1, x ∈ xs → p x = true → Kp [] H H1 → ∀ R : VK, (∀ H2, Kp [] H1 H2 → R (f x) H2) → te ((σ.set j none).set j (some x)) H1 R)
    (q : ∀ D H', H D = none → Kp [] H H' → H' D = some (.lst ((xs.filter p).map f)) → Q (.ref D) H') : tLc (iTup K t0) (gName j) tt te [j] σ H Q := by
  refine h0 _ ⟨a, rfl, ⟨xs, hx⟩, fun D hD => ?_⟩
  refine lc_tup (xs := xs) (fun i H1 => Kp [] H H1 ∧ H1 D = some (.lst (((xs.take i).filter p).map f))) ⟨kp_new hD, by rw [upd_same]; simp⟩ (fun i H1 _ ⟨k1, _⟩ => k1.sqT (by simp) hx) (fun i c H1 hi ⟨k1, a1⟩ => ⟨wipe_one σ j _, ?_⟩) fun H1 ⟨k1, a1⟩ => ?_
  · have hm : c ∈ xs := List.mem_of_getElem? hi
    exact lc_turn (l := xs) hD hz hi k1 a1 (ht c H1 hm k1) fun hp H2 k2 => he c H2 hm hp (k1.trans k2)
  · refine q D H1 hD k1 ?_
    rw [a1, List.take_of_length_le (Nat.le_refl _)]
/-- [e for k in range(n)], e may draw (and so change the list at st): what holds of the items (P) stands while tuples stand -/
theorem lcRD {st nu : Addr} {n : Int} {ta : TA} (P : Hp → V → Prop) (c : Nat) {n0 : Nat} (hP : ∀ H1 H2 v, Tk H1 H2 → P H1 v → P H2 v) (h0 : ∀ R : List V → Hp → Prop, R [.int n] H → ta σ H R) (hn : n ≤ 1000000) (hn0 : -1000000 ≤ n) (hs : StB H st nu n0) (hb : n0 + c * n.toNat < bigN)
    (he : ∀ (i : Nat) H1 m, (i : Int) < n → Kp [st] H H1 → StB H1 st nu m → m + c < bigN → ∀ R : VK, (∀ v H2, P H2 v → Kp [st] H1 H2 → StB H2 st nu (m + c) → R v H2) → te ((σ.set j none).set j (some (.int (i : Int)))) H1 R)
    (q : ∀ D H' xs, H D = none → Kp [st] H H' → H' D = some (.lst xs) → xs.length = n.toNat → (∀ x ∈ xs, P H' x) → StB H' st nu (n0 + c * n.toNat) → Q (.ref D) H') : tLc (iRng1 ta) (gName j) tYes te [j] σ H Q := by
  refine h0 _ ⟨n, rfl, by omega, by omega, fun D hD => ?_⟩
  obtain ⟨nd1, nd2⟩ := hs.ne hD
  refine lc_range (lo := 0) (n := n.toNat) (fun i H1 => Kp [st] H H1 ∧ StB H1 st nu (n0 + c * i) ∧ ∃ xs, H1 D = some (.lst xs) ∧ xs.length = i ∧ ∀ x ∈ xs, P H1 x) ?_ (fun i H1 hi ⟨k1, s1, xs, a1, l1, p1⟩ => ⟨wipe_one σ j _, ?_⟩) fun H1 ⟨k1, s1, xs, a1, l1, p1⟩ => q D H1 xs hD k1 a1 l1 p1 s1
  · exact ⟨(Kp.refl [st] H).new hD, (hs.new hD).le (by omega), [], upd_same, rfl, by simp⟩
  · have e0 : (0 : Int) + (i : Int) = (i : Int) := Int.zero_add _
    unfold tYes
    dsimp only
    rw [if_pos rfl, e0]
    have hb2 : c * (i + 1) ≤ c * n.toNat := Nat.mul_le_mul_left c hi
    have hb3 : c * (i + 1) = c * i + c := Nat.mul_succ c i
    refine he i H1 (n0 + c * i) (by omega) k1 s1 (by omega) _ fun v H2 pv k2 s2 => ?_
    have a2 : H2 D = some (.lst xs) := k2 _ _ a1 (by simp [nd1])
    refine ⟨xs, a2, szl (by omega), (k1.trans k2).own hD, ?_, xs ++ [v], upd_same, by simp [l1], fun x hx => ?_⟩
    · exact (s2.mut nd1 nd2).le (by omega)
    · have t2 : Tk H2 (upd H2 D (.lst (xs ++ [v]))) := (Tk.refl H2).lst a2
      rcases List.mem_append.mp hx with hx | hx
      · exact hP _ _ _ ((s1.tk k2).trans t2) (p1 x hx)
      · rw [List.mem_singleton.mp hx]
        exact hP _ _ _ t2 pv
end
end Sf
namespace Sf
open PySem PySem.Spec PyProof.Rows L2
section
variable {K : PySem.W.Frag} {σ : L2.St} {H : Hp} {ta tb tc te : TE} {tt tu : TT} {t tr : TA} {to1 to2 : TO} {ts tw : TS} {D : Ends} {Q : VK} {QB : Bool → Hp → Prop} {QA : List V → Hp → Prop} {QO : Option Int → Hp → Prop} {i j : Nat} {v w : V} {b : Bool} {r r' : R2} {pr : Sp} {E : XK} {g : TG}
/-! ### readings opened -/
theorem o_var (h : σ[i]? = some (some v)) (q : Q v H) : tVar i σ H Q := ⟨v, h, q⟩
theorem o_varE (q : ∃ v, σ[i]? = some (some v) ∧ Q v H) : tVar i σ H Q := q
theorem o_c (q : Q v H) : tC v σ H Q := q
theorem o_op (q : ta σ H fun x H1 => tb σ H1 fun y H2 => r x y H2 Q) : tOp r ta tb σ H Q := q
theorem o_un {r : V → Hp → VK → Prop} (q : ta σ H fun x H1 => r x H1 Q) : tUn r ta σ H Q := q
theorem o_cb {r : List V → Hp → VK → Prop} (q : t σ H fun vs H1 => r vs H1 Q) : tCB r t σ H Q := q
theorem o_cons (q : ta σ H fun x H1 => tr σ H1 fun xs H2 => QA (x :: xs) H2) : tCons ta tr σ H QA := q
theorem o_star (q : ta σ H fun x H1 => ∃ p xs, x = V.ref p ∧ (SqT K H1 p xs ∨ SqL K H1 p xs) ∧ t σ H1 fun ys H2 => QA (xs ++ ys) H2) : StX.tStar K ta t σ H QA := q
theorem o_nil (q : QA [] H) : tNil σ H QA := q
theorem o_tup (q : t σ H fun xs H1 => xs.length ≤ sizeLine ∧ ∀ p, H1 p = none → Q (.ref p) (upd H1 p (.tup xs))) : tTup t σ H Q := q
theorem o_lst (q : t σ H fun xs H1 => xs.length ≤ sizeLine ∧ ∀ p, H1 p = none → Q (.ref p) (upd H1 p (.lst xs))) : tLst t σ H Q := q
theorem o_call (q : t σ H fun vs H1 => pr vs H1 Q E) : rCallG pr E t σ H Q := q
theorem o_ret (q : te σ H D.rt) : tRet te D σ H := q
theorem o_retN (q : D.rt .non H) : tRetN D σ H := q
theorem o_asg (q : te σ H fun x H1 => D.nx (σ.set i (some x)) H1) : tAsg te (gName i) D σ H := q
theorem o_asgG (q : te σ H fun x H1 => g x σ H1 D.nx) : tAsg te g D σ H := q
theorem o_par (q : t σ H fun vs H1 => ∃ v w, vs = [v, w] ∧ D.nx ((σ.set i (some v)).set j (some w)) H1) : tPar i j t D σ H := q
theorem o_seq (q : ts { D with nx := tw D } σ H) : tSeq ts tw D σ H := q
theorem o_next (q : D.nx σ H) : tNext D σ H := q
theorem o_brk (q : D.bk σ H) : tBreak D σ H := q
theorem o_cont (q : D.ct σ H) : tCont D σ H := q
theorem o_drop (q : te σ H fun _ H1 => D.nx σ H1) : tDrop te D σ H := q
theorem o_if (q : tt σ H fun c H1 => if c = true then ts D σ H1 else tw D σ H1) : tIfS tt ts tw D σ H := q
theorem o_test (q : te σ H fun x H1 => ∃ k, x = .bl k ∧ QB k H1) : tTest te σ H QB := q
theorem o_B (q : te σ H fun x H1 => ∃ k, x = .bl k ∧ QB k H1) : tB te σ H QB := q
theorem o_and (q : tt σ H fun c H1 => if c = true then tu σ H1 QB else QB false H1) : tAnd tt tu σ H QB := q
theorem o_or (q : tt σ H fun c H1 => if c = true then QB true H1 else tu σ H1 QB) : tOr tt tu σ H QB := q
theorem o_not (q : tt σ H fun c H1 => QB (!c) H1) : tNot tt σ H QB := q
theorem o_andV (q : ta σ H fun x H1 => ∃ c, x = .bl c ∧ if c = true then tb σ H1 Q else Q (.bl false) H1) : tAndV ta tb σ H Q := q
theorem o_orV (q : ta σ H fun x H1 => ∃ c, x = .bl c ∧ if c = true then Q (.bl true) H1 else tb σ H1 Q) : tOrV ta tb σ H Q := q
theorem o_notV (q : ta σ H fun x H1 => ∃ c, x = .bl c ∧ Q (.bl (!c)) H1) : tNotV ta σ H Q := q
theorem o_ifx (q : tt σ H fun c H1 => if c = true then ta σ H1 Q else tb σ H1 Q) : tIf tt ta tb σ H Q := q
theorem o_chain (q : ta σ H fun x H1 => tb σ H1 fun y H2 => r x y H2 fun z H3 => ∃ k, z = .bl k ∧ if k = true then tc σ H3 (fun u H4 => r' y u H4 Q) else Q (.bl false) H3) : tChain r r' ta tb tc σ H Q := q
theorem o_sl {r : V → Option Int → Option Int → Hp → VK → Prop} (q : te σ H fun x H1 => to1 σ H1 fun l H2 => to2 σ H2 fun u H3 => r x l u H3 Q) : tSl r te to1 to2 σ H Q := q
theorem o_part (q : te σ H fun x H1 => ∃ n, x = .int n ∧ QO (some n) H1) : tPart te σ H QO := q
theorem o_nop (q : QO none H) : tNoPart σ H QO := q
theorem o_bm {T : String} {r : V → List V → Hp → VK → Prop} (q : te σ H fun x H1 => tyV K T x H1 ∧ t σ H1 fun xs H2 => r x xs H2 Q) : tBM K T r te t σ H Q := q
theorem o_bm0 {T : String} {r : V → List V → Hp → VK → Prop} (q : te σ H fun x H1 => tyV K T x H1 ∧ r x [] H1 Q) : tBM0 K T r te σ H Q := q
theorem o_m1 {r : V → List V → Hp → VK → Prop} (q : ta σ H fun x H1 => (∃ a, x = .str a) ∧ tb σ H1 fun y H2 => r x [y] H2 Q) : tM1 r ta tb σ H Q := q
theorem o_bl {P : Bool → Prop} (h : P b) : ∃ k, V.bl b = .bl k ∧ P k := ⟨b, rfl, h⟩
theorem o_int {P : Int → Prop} {n : Int} (h : P n) : ∃ k, V.int n = .int k ∧ P k := ⟨n, rfl, h⟩
theorem o_yes (q : QB true H) : tYes σ H QB := q
theorem o_gsub {t : TSet} {R : L2.St → Hp → Prop} (q : ta σ H fun o H1 => tb σ H1 fun i H2 => t o i v H2 fun H3 => R σ H3) : gSub ta tb t v σ H R := q
theorem o_gname {R : L2.St → Hp → Prop} (q : R (σ.set i (some v)) H) : gName i v σ H R := q
/-- values handed on -/
def tK (us : List V) : TA := fun _ H QA => QA us H
theorem lc_arg {tt : TT} {vs : List Nat} (q : t σ H fun us H1 => tLc (iRng1 (tK us)) g tt te vs σ H1 Q) : tLc (iRng1 t) g tt te vs σ H Q := q
/-! ### operations on values -/
variable {x y : Int} {s u : Str} {a p : Addr} {xs ys : List V} {d e : PyData}
theorem r_add (q : Q (.int (x + y)) H) : rdAdd (.int x) (.int y) H Q := ⟨x, y, rfl, rfl, q⟩
theorem r_sub (q : Q (.int (x - y)) H) : rdSub (.int x) (.int y) H Q := ⟨x, y, rfl, rfl, q⟩
theorem r_mul (h : CMul x y) (q : Q (.int (x * y)) H) : rdMul (.int x) (.int y) H Q := ⟨x, y, rfl, rfl, h, q⟩
theorem r_div (h : CDiv x y) (q : Q (.int (x / y)) H) : rdDiv (.int x) (.int y) H Q := ⟨x, y, rfl, rfl, h, q⟩
theorem r_mod (h : 0 < y) (q : Q (.int (x % y)) H) : rdMod (.int x) (.int y) H Q := ⟨x, y, rfl, rfl, h, q⟩
theorem r_pow (h : CPow x y) (q : Q (.int (x ^ y.toNat)) H) : rdPow (.int x) (.int y) H Q := ⟨x, y, rfl, rfl, h, q⟩
theorem r_lt (q : Q (.bl (decide (x < y))) H) : rdLt (.int x) (.int y) H Q := ⟨x, y, rfl, rfl, q⟩
theorem r_le (q : Q (.bl (decide (x ≤ y))) H) : rdLe (.int x) (.int y) H Q := ⟨x, y, rfl, rfl, q⟩
theorem r_gt (q : Q (.bl (decide (y < x))) H) : rdGt (.int x) (.int y) H Q := ⟨x, y, rfl, rfl, q⟩
theorem r_ge (q : Q (.bl (decide (y ≤ x))) H) : rdGe (.int x) (.int y) H Q := ⟨x, y, rfl, rfl, q⟩
theorem r_adds (h : s.length + u.length ≤ sizeLine) (q : Q (.str (s ++ u)) H) : rdAddS (.str s) (.str u) H Q := ⟨s, u, rfl, rfl, h, q⟩
theorem r_leS (q : Q (.bl (!decide (u.cps.toList < s.cps.toList))) H) : rdLeS (.str s) (.str u) H Q := ⟨s, u, rfl, rfl, q⟩
theorem r_eq (h : scal v w = true) (q : Q (.bl (decide (v = w))) H) : rEq v w H Q := ⟨h, q⟩
theorem r_ne (h : scal v w = true) (q : Q (.bl (!decide (v = w))) H) : rNe v w H Q := ⟨h, q⟩
theorem r_isN (q : Q (.bl (decide (v = .non))) H) : rdIsN v .non H Q := ⟨rfl, q⟩
theorem r_notN (q : Q (.bl (!decide (v = .non))) H) : rdNotN v .non H Q := ⟨rfl, q⟩
theorem r_inS {c : Nat} (q : Q (.bl (decide (c ∈ s.cps.toList))) H) : rdInS (.str ⟨#[c]⟩) (.str s) H Q := ⟨c, s, rfl, rfl, q⟩
theorem r_ixL (h : SqL K H p xs) (ha : atI xs x = some v) (q : Q v H) : rIxL K (.ref p) (.int x) H Q := ⟨p, xs, x, v, rfl, rfl, h, ha, q⟩
theorem r_ixT (h : SqT K H p xs) (ha : atI xs x = some v) (q : Q v H) : rIxT K (.ref p) (.int x) H Q := ⟨p, xs, x, v, rfl, rfl, h, ha, q⟩
theorem r_ixS {c : Nat} (h : s.length ≤ sizeLine) (ha : atI s.cps.toList x = some c) (q : Q (.str ⟨#[c]⟩) H) : rIxS (.str s) (.int x) H Q := ⟨s, x, c, rfl, rfl, h, ha, q⟩
theorem r_lenL (h : SqL K H p xs) (q : Q (.int (xs.length : Int)) H) : rdLen K [.ref p] H Q := ⟨p, xs, rfl, .inl h, q⟩
theorem r_lenT (h : SqT K H p xs) (q : Q (.int (xs.length : Int)) H) : rdLen K [.ref p] H Q := ⟨p, xs, rfl, .inr h, q⟩
theorem r_lenS (h : s.length ≤ sizeLine) (q : Q (.int (s.length : Int)) H) : rdLenS [.str s] H Q := ⟨s, rfl, h, q⟩
theorem r_int (q : Q (.int x) H) : rdInt [.int x] H Q := .inl ⟨x, rfl, q⟩
theorem r_intB (q : Q (.int (if b then 1 else 0)) H) : rdInt [.bl b] H Q := .inr ⟨b, rfl, q⟩
theorem r_all {bs : List Bool} (h : SqL K H p (bs.map V.bl)) (q : Q (.bl (bs.all id)) H) : rAll K [.ref p] H Q := ⟨p, bs, rfl, h, q⟩
theorem r_tupL (h : SqL K H p xs) (q : ∀ l, H l = none → Q (.ref l) (upd H l (.tup xs))) : rdTuple K [.ref p] H Q := ⟨p, xs, rfl, .inl ⟨h, q⟩⟩
theorem r_tupT (h : SqT K H p xs) (q : Q (.ref p) H) : rdTuple K [.ref p] H Q := ⟨p, xs, rfl, .inr ⟨h, q⟩⟩
theorem r_inL {neg : Bool} (h : SqL K H p xs) (h1 : flatV v = true) (h2 : xs.all flatV = true) (q : Q (.bl (if neg then !inV v xs else inV v xs)) H) : rIn K neg v (.ref p) H Q := ⟨p, xs, rfl, .inl h, h1, h2, q⟩
theorem r_inT {neg : Bool} (h : SqT K H p xs) (h1 : flatV v = true) (h2 : xs.all flatV = true) (q : Q (.bl (if neg then !inV v xs else inV v xs)) H) : rIn K neg v (.ref p) H Q := ⟨p, xs, rfl, .inr h, h1, h2, q⟩
theorem r_app (h : H p = some (.lst xs)) (hz : xs.length < sizeLine) (q : Q .non (upd H p (.lst (xs ++ [v])))) : rAppend (.ref p) [v] H Q := ⟨p, xs, v, rfl, rfl, h, hz, q⟩
theorem r_cat {z : Addr} (h : H p = some (.lst xs)) (h' : H z = some (.lst ys)) (hz : xs.length + ys.length ≤ sizeLine) (q : ∀ l, H l = none → Q (.ref l) (upd H l (.lst (xs ++ ys)))) : rCat (.ref p) (.ref z) H Q := ⟨p, z, xs, ys, rfl, rfl, h, h', hz, q⟩
theorem r_slL {lo hi : Option Int} (h : SqL K H p xs) (q : ∀ l, H l = none → Q (.ref l) (upd H l (.lst (cutV xs lo hi)))) : rSlL K (.ref p) lo hi H Q := ⟨p, xs, rfl, h, q⟩
theorem r_slS {lo hi : Option Int} (h : s.length ≤ sizeLine) (q : Q (.str (cutS s lo hi)) H) : rSlS (.str s) lo hi H Q := ⟨s, rfl, h, q⟩
theorem r_setL {n : Nat} (h : H p = some (.lst xs)) (hi : ixN xs.length x = some n) {R : Hp → Prop} (q : R (upd H p (.lst (xs.set n v)))) : rSetL (.ref p) (.int x) v H R := ⟨p, xs, x, n, rfl, rfl, h, hi, q⟩
/-! ### the same, with what they hand on asked together -/
theorem e_lenL (q : ∃ xs, SqL K H p xs ∧ Q (.int (xs.length : Int)) H) : rdLen K [.ref p] H Q := let ⟨_, h, q⟩ := q; r_lenL h q
theorem e_ixL (q : ∃ xs v, SqL K H p xs ∧ atI xs x = some v ∧ Q v H) : rIxL K (.ref p) (.int x) H Q := let ⟨_, _, h, ha, q⟩ := q; r_ixL h ha q
theorem e_ixT (q : ∃ xs v, SqT K H p xs ∧ atI xs x = some v ∧ Q v H) : rIxT K (.ref p) (.int x) H Q := let ⟨_, _, h, ha, q⟩ := q; r_ixT h ha q
theorem at_nat {α : Type} {l : List α} {n : Nat} {z : α} (h : l[n]? = some z) : atI l (n : Int) = some z := by
  have hl := (List.getElem?_eq_some_iff.mp h).1
  unfold atI ixN
  rw [if_pos (by omega), if_pos (by omega)]
  simpa using h
theorem at_int {α : Type} {l : List α} {i : Int} {z : α} (h0 : 0 ≤ i) (h : l[i.toNat]? = some z) : atI l i = some z := by
  have e : ((i.toNat : Nat) : Int) = i := Int.toNat_of_nonneg h0
  rw [← e]
  exact at_nat h
theorem atZ0 {α : Type} {r : List α} {z : α} : atI (z :: r) 0 = some z := at_nat (n := 0) rfl
theorem atZ1 {α : Type} {r : List α} {y z : α} : atI (y :: z :: r) 1 = some z := at_nat (n := 1) rfl
theorem atZ2 {α : Type} {r : List α} {x y z : α} : atI (x :: y :: z :: r) 2 = some z := at_nat (n := 2) rfl
theorem atZ3 {α : Type} {r : List α} {w x y z : α} : atI (w :: x :: y :: z :: r) 3 = some z := at_nat (n := 3) rfl
theorem r_kd {m : List (Str × Int)} {n : Int} (hi : KdInts K a m) (hl : m.lookup s = some n) (q : Q (.int n) H) : rItemKd K a (.ref a) (.str s) H Q := by
  obtain ⟨r, h1, h2, h3⟩ := hi s
  obtain ⟨t, e⟩ := h3 n hl
  exact ⟨s, _, n, rfl, rfl, by rw [h1, e], ⟨t, rfl⟩, q⟩
theorem r_inKd {m : List (Str × Int)} (hi : KdInts K a m) (q : Q (.bl (m.lookup s).isSome) H) : rInKd K a (.str s) (.ref a) H Q := by
  obtain ⟨r, h1, h2, h3⟩ := hi s
  refine ⟨s, r, rfl, rfl, h1, ?_⟩
  cases e : m.lookup s with
  | none => rw [e] at q; rw [h2 e]; exact q
  | some n =>
    obtain ⟨t, e2⟩ := h3 n e
    rw [e] at q; rw [e2]; exact q
/-! ### ifs -/
theorem ifs_next {Cond : Prop} (hn : ∀ H', Kp [] H H' → ¬ Cond → D.nx σ H') (h : ∀ N : Hp → Prop, (∀ H', Kp [] H H' → ¬ Cond → N H') → tt σ H fun c H1 => if c = true then ts D σ H1 else N H1) : tIfS tt ts tNext D σ H := h (fun H' => D.nx σ H') hn
theorem iteP {c A B : Prop} [Decidable c] (h : c) (a : A) : if c then A else B := by rw [if_pos h]; exact a
theorem iteN {c A B : Prop} [Decidable c] (h : ¬ c) (b : B) : if c then A else B := by rw [if_neg h]; exact b
theorem iteNT {A B : Prop} (h : B) : if (!true) = true then A else B := (if_neg (by decide)).mpr h
theorem iteNF {A B : Prop} (h : A) : if (!false) = true then A else B := (if_pos rfl).mpr h
theorem if_b {A B : Prop} (hA : b = true → A) (hB : b = false → B) : if b = true then A else B := by
  cases b with
  | true => exact (if_pos rfl).mpr (hA rfl)
  | false => exact (if_neg Bool.false_ne_true).mpr (hB rfl)
theorem sqL_new (h : H p = none) {o : HO} (hs : SqL K H a xs) : SqL K (upd H p o) a xs := (kp_new h).sqL (by simp) hs
theorem sqT_new (h : H p = none) {o : HO} (hs : SqT K H a xs) : SqT K (upd H p o) a xs := (kp_new h).sqT (by simp) hs
theorem sqT_mut (h : H p = some (.lst ys)) {o : HO} (hs : SqT K H a xs) : SqT K (upd H p o) a xs := ((Tk.refl H).lst h).sqT hs
end
end Sf
namespace K80
open PySem PySem.Spec PyProof.Rows L2 Sf TL
theorem len_cps (x : Str) : x.length = (tl x).length := len_tl x
/-! ### cuts at spaces -/
theorem spl_c (acc : List Nat) (c : Nat) (r : List Nat) : spl [32] 0 acc (c :: r) = if c = 32 then acc :: spl [32] 0 [] r else spl [32] 0 (acc ++ [c]) r := by
  by_cases h : c = 32
  · subst h
    rw [if_pos rfl]
    exact spl_hit (by rfl)
  · rw [if_neg h]
    exact spl_miss (pre_of_head [] r h)
theorem spl_ne (l : List Nat) : ∀ acc, spl [32] 0 acc l ≠ [] := by
  induction l with
  | nil => intro acc; rw [spl_nil]; simp
  | cons c r ih =>
    intro acc
    rw [spl_c]
    split
    · simp
    · exact ih _
theorem spl_back (l : List Nat) : ∀ acc, joinL [32] (spl [32] 0 acc l) = acc ++ l := by
  induction l with
  | nil => intro acc; rw [spl_nil]; simp [joinL]
  | cons c r ih =>
    intro acc
    rw [spl_c]
    split
    · rename_i h
      subst h
      have e := ih []
      cases hs : spl [32] 0 [] r with
      | nil => exact absurd hs (spl_ne r [])
      | cons p ps =>
        rw [hs] at e
        simp only [joinL]
        rw [e]
        simp
    · rw [ih]; simp
theorem spl_free (l : List Nat) : ∀ acc, 32 ∉ acc → ∀ p ∈ spl [32] 0 acc l, 32 ∉ p := by
  induction l with
  | nil => intro acc h p hp; rw [spl_nil] at hp; simp at hp; subst hp; exact h
  | cons c r ih =>
    intro acc h p hp
    rw [spl_c] at hp
    split at hp
    · rcases List.mem_cons.mp hp with e | hp
      · subst e; exact h
      · exact ih [] (by simp) p hp
    · rename_i hc
      exact ih _ (by simp [h]; exact fun e => hc e.symm) p hp
theorem tl_sp : tl (" " : Str) = [32] := by rfl
theorem sp_ok (x : Str) : ¬ Builtin.Str.strKind x < Builtin.Str.strKind (" " : Str) := kind_ok (by decide +kernel)
theorem split_map (x : Str) : (Txt.split x " ").map tl = spl [32] 0 [] (tl x) := by
  have h := split_spl x (" " : Str) (by rw [tl_sp]; simp) (sp_ok x)
  rw [tl_sp] at h
  exact h
theorem split_ne (x : Str) : Txt.split x " " ≠ [] := fun h => by
  have e := split_map x
  rw [h] at e
  exact spl_ne _ _ e.symm
theorem split_back (x : Str) : joinL [32] ((Txt.split x " ").map tl) = tl x := by
  rw [split_map, spl_back]; rfl
theorem tl_joinT (l : List Str) : tl (Txt.join " " l) = joinL [32] (l.map tl) := by
  rw [join_eq, tl_join, tl_sp]
theorem split_join' (l : List Str) (hn : l ≠ []) (h : ∀ p ∈ l, 32 ∉ tl p) : Txt.split (Txt.join " " l) " " = l := by
  apply map_tl_inj
  rw [split_map, tl_joinT]
  exact spl_join (s := 32) (S := []) (by simpa using hn) (by simpa using h)
theorem joinL_cons (p : List Nat) (q : List Nat) (r : List (List Nat)) : joinL [32] (p :: q :: r) = p ++ 32 :: joinL [32] (q :: r) := by
  simp [joinL]
/-- the words of a line, seen from the line -/
theorem split_cons {x f : Str} {r : List Str} (h : Txt.split x " " = f :: r) (hr : r ≠ []) : tl x = tl f ++ 32 :: tl (Txt.join " " r) := by
  have e := split_back x
  rw [h, tl_joinT] at *
  cases r with
  | nil => exact absurd rfl hr
  | cons g r =>
    rw [← e, List.map_cons, List.map_cons, joinL_cons]
theorem split_one {x f : Str} (h : Txt.split x " " = [f]) : x = f := by
  have e := split_back x
  rw [h] at e
  exact ext_tl (by rw [← e]; simp [joinL])
theorem joinL_len : ∀ l : List (List Nat), l ≠ [] → (joinL [32] l).length + 1 = (l.map List.length).sum + l.length
  | [], h => absurd rfl h
  | [p], _ => by simp [joinL]
  | p :: q :: r, _ => by
    rw [joinL_cons, List.length_append, List.length_cons]
    have ih := joinL_len (q :: r) (by simp)
    simp only [List.map_cons, List.sum_cons, List.length_cons] at *
    omega
theorem lens_eq (l : List Str) : (l.map Str.length).sum = ((l.map tl).map List.length).sum := by
  rw [List.map_map]
  exact congrArg List.sum (List.map_congr_left fun x _ => len_tl x)
theorem split_len (x : Str) : x.length + 1 = ((Txt.split x " ").map Str.length).sum + (Txt.split x " ").length := by
  have h := joinL_len ((Txt.split x " ").map tl) (by simpa using split_ne x)
  rw [split_back] at h
  rw [len_tl, lens_eq, h, List.length_map]
theorem join_len (l : List Str) (h : l ≠ []) : (Txt.join " " l).length + 1 = (l.map Str.length).sum + l.length := by
  have e := joinL_len (l.map tl) (by simpa using h)
  rw [len_tl, tl_joinT, lens_eq, e, List.length_map]
theorem join_le (l : List Str) : (Txt.join " " l).length ≤ (l.map Str.length).sum + l.length := by
  by_cases h : l = []
  · subst h
    rw [len_tl, tl_joinT]
    simp [joinL]
  · have := join_len l h
    omega
theorem strs_of {P : Str → Prop} : ∀ (xs : List V), (∀ v ∈ xs, ∃ x : Str, v = .str x ∧ P x) → ∃ ys : List Str, xs = ys.map V.str ∧ ∀ y ∈ ys, P y
  | [], _ => ⟨[], rfl, by simp⟩
  | v :: r, h => by
    obtain ⟨x, e, p⟩ := h v (by simp)
    obtain ⟨ys, e2, p2⟩ := strs_of r (fun v hv => h v (by simp [hv]))
    exact ⟨x :: ys, by rw [e, e2]; rfl, fun y hy => by
      rcases List.mem_cons.mp hy with z | z
      · rw [z]; exact p
      · exact p2 y z⟩
theorem sum_le {l : List Str} {B : Nat} (h : ∀ y ∈ l, y.length ≤ B) : (l.map Str.length).sum ≤ B * l.length := by
  induction l with
  | nil => simp
  | cons a r ih =>
    have h1 := h a (by simp)
    have h2 := ih fun y hy => h y (by simp [hy])
    simp only [List.map_cons, List.sum_cons, List.length_cons, Nat.mul_succ]
    omega
theorem mem_len {l : List Str} {x : Str} (h : x ∈ l) : x.length ≤ (l.map Str.length).sum := by
  induction l with
  | nil => simp at h
  | cons a r ih =>
    simp only [List.map_cons, List.sum_cons]
    rcases List.mem_cons.mp h with e | h
    · subst e; omega
    · have := ih h; omega
/-! ### small signs -/
theorem Sm_app {x y : Str} (hx : Sm x) (hy : Sm y) : Sm (x ++ y) := fun c hc => by
  have hc : c ∈ tl (x ++ y) := hc
  rw [tl_append] at hc
  rcases List.mem_append.mp hc with h | h
  · exact hx c h
  · exact hy c h
theorem joinL_mem {c : Nat} : ∀ l : List (List Nat), c ∈ joinL [32] l → c = 32 ∨ ∃ p ∈ l, c ∈ p
  | [], h => by simp [joinL] at h
  | [p], h => by simp [joinL] at h; exact .inr ⟨p, by simp, h⟩
  | p :: q :: r, h => by
    rw [joinL_cons] at h
    rcases List.mem_append.mp h with h | h
    · exact .inr ⟨p, by simp, h⟩
    · rcases List.mem_cons.mp h with h | h
      · exact .inl h
      · rcases joinL_mem (q :: r) h with h | ⟨z, hz, h⟩
        · exact .inl h
        · exact .inr ⟨z, by simp at hz ⊢; exact .inr hz, h⟩
theorem mem_joinL {c : Nat} {p : List Nat} : ∀ l : List (List Nat), p ∈ l → c ∈ p → c ∈ joinL [32] l
  | [], h, _ => by simp at h
  | [q], h, hc => by simp at h; subst h; simpa [joinL] using hc
  | a :: b :: r, h, hc => by
    rw [joinL_cons]
    rcases List.mem_cons.mp h with e | h
    · subst e; simp [hc]
    · have := mem_joinL (b :: r) h hc
      simp [this]
theorem Sm_join {l : List Str} (h : ∀ y ∈ l, Sm y) : Sm (Txt.join " " l) := fun c hc => by
  have hc : c ∈ tl (Txt.join " " l) := hc
  rw [tl_joinT] at hc
  rcases joinL_mem _ hc with e | ⟨p, hp, h2⟩
  · omega
  · obtain ⟨y, hy, rfl⟩ := List.mem_map.mp hp
    exact h y hy c h2
theorem Sm_split {x : Str} (h : Sm x) : ∀ y ∈ Txt.split x " ", Sm y := fun y hy c hc => by
  refine h c ?_
  show c ∈ tl x
  rw [← split_back x]
  exact mem_joinL _ (List.mem_map_of_mem hy) hc
theorem Sm_L {x : Str} (h : ∀ c ∈ tl x, 97 ≤ c ∧ c ≤ 122) : Sm x := fun c hc => by have := h c hc; omega
/-! ### slices -/
theorem cut_from (xs : List V) (k : Nat) : cutV xs (some (k : Int)) none = xs.drop k := by
  unfold cutV
  rw [HT.sIx_nat, HT.sIx_none]
  by_cases h : k ≤ xs.length
  · rw [Nat.min_eq_left h, List.take_of_length_le (by simp)]
  · have e : min k xs.length = xs.length := by omega
    rw [e, List.drop_of_length_le (by omega : xs.length ≤ k)]; simp
theorem cut_to (xs : List V) (k : Nat) : cutV xs none (some (k : Int)) = xs.take k := by
  unfold cutV
  rw [HT.sIx_nat, HT.sIx_none]
  by_cases h : k ≤ xs.length
  · rw [Nat.min_eq_left h]; simp
  · have e : min k xs.length = xs.length := by omega
    rw [e, List.take_of_length_le (by omega : xs.length ≤ k)]; simp
theorem cut_mid (xs : List V) (i j : Nat) : cutV xs (some (i : Int)) (some (j : Int)) = (xs.drop i).take (j - i) := by
  unfold cutV
  rw [HT.sIx_nat, HT.sIx_nat]
  by_cases h : i ≤ xs.length
  · rw [Nat.min_eq_left h]
    by_cases h2 : j ≤ xs.length
    · rw [Nat.min_eq_left h2]
    · have e : min j xs.length = xs.length := by omega
      rw [e, List.take_of_length_le (by simp), List.take_of_length_le (by simp; omega)]
  · have e : min i xs.length = xs.length := by omega
    rw [e, List.drop_of_length_le (by omega : xs.length ≤ i)]; simp
theorem cut_str (x : Str) (k : Nat) : tl (cutS x (some (k : Int)) none) = (tl x).drop k := by
  unfold cutS
  rw [HT.sIx_nat, HT.sIx_none, tl_mk]
  have e : x.length = (tl x).length := len_tl x
  show ((tl x).drop (min k x.length)).take (x.length - min k x.length) = (tl x).drop k
  rw [e]
  by_cases h : k ≤ (tl x).length
  · rw [Nat.min_eq_left h, List.take_of_length_le (by simp)]
  · have e : min k (tl x).length = (tl x).length := by omega
    rw [e, List.drop_of_length_le (by omega : (tl x).length ≤ k)]; simp
/-! ### letters, numbers -/
theorem alpha_iff (c : Nat) : c ∈ alpha ↔ 97 ≤ c ∧ c ≤ 122 := by
  have e : alpha = [97,98,99,100,101,102,103,104,105,106,107,108,109,110,111,112,113,114,115,116,117,118,119,120,121,122] := by decide +kernel
  rw [e]
  simp only [List.mem_cons, List.not_mem_nil, or_false]
  omega
theorem digs_iff (c : Nat) : c ∈ digs ↔ 48 ≤ c ∧ c ≤ 57 := by
  have e : digs = [48,49,50,51,52,53,54,55,56,57] := by decide +kernel
  rw [e]
  simp only [List.mem_cons, List.not_mem_nil, or_false]
  omega
theorem isL_iff (x : Str) : isL x = true ↔ 0 < x.length ∧ ∀ c ∈ tl x, 97 ≤ c ∧ c ≤ 122 := by
  unfold isL
  rw [Bool.and_eq_true, decide_eq_true_eq, List.all_eq_true]
  constructor
  · rintro ⟨a, b⟩; exact ⟨a, fun c hc => (alpha_iff c).mp (of_decide_eq_true (b c hc))⟩
  · rintro ⟨a, b⟩; exact ⟨a, fun c hc => decide_eq_true ((alpha_iff c).mpr (b c hc))⟩
theorem isN_digits {x : Str} (h : isN x = true) : 1 ≤ x.length ∧ x.length ≤ 7 ∧ NumText.AllDigits (tl x) := by
  unfold isN at h
  simp only [Bool.and_eq_true, decide_eq_true_eq, List.all_eq_true] at h
  exact ⟨h.1.1.1, h.1.1.2, fun c hc => (digs_iff c).mp (h.1.2 c hc)⟩
theorem digits_lt : ∀ (l : List Nat) (a : Nat), NumText.AllDigits l → l.foldl (fun acc c => acc * 10 + (c - 48)) a < (a + 1) * 10 ^ l.length
  | [], a, _ => by simp
  | c :: r, a, h => by
    have hc := h c (by simp)
    have ih := digits_lt r (a * 10 + (c - 48)) (fun d hd => h d (by simp [hd]))
    simp only [List.foldl_cons, List.length_cons]
    refine Nat.lt_of_lt_of_le ih ?_
    rw [Nat.pow_succ, Nat.mul_comm (10 ^ r.length) 10, ← Nat.mul_assoc]
    exact Nat.mul_le_mul_right _ (by omega)
theorem isN_int {x : Str} (h : isN x = true) : intText? x = some (intOf x) ∧ 0 ≤ intOf x ∧ intOf x < 10000000 := by
  obtain ⟨h1, h2, h3⟩ := isN_digits h
  have e := intText_digits (x := x) h3 (fun z => by rw [len_tl, show tl x = [] from z] at h1; simp at h1) (by omega)
  have e2 : intOf x = ((NumText.digitsVal x.cps.toList : Nat) : Int) := by unfold intOf; rw [e]; rfl
  refine ⟨by rw [e2]; exact e, by rw [e2]; omega, ?_⟩
  have b := digits_lt (tl x) 0 h3
  rw [e2]
  have hl : (tl x).length ≤ 7 := by rw [← len_tl]; exact h2
  have p : 10 ^ (tl x).length ≤ 10 ^ 7 := Nat.pow_le_pow_right (by decide) hl
  have q : NumText.digitsVal x.cps.toList < (0 + 1) * 10 ^ (tl x).length := b
  omega
theorem Sm_N {x : Str} (h : isN x = true) : Sm x := fun c hc => by have := (isN_digits h).2.2 c hc; omega
end K80
section
open PySem PySem.Spec PyProof.Rows L2 Sf
local macro_rules | `(tactic| walk_at "nin") => `(tactic| first | (simp only [List.not_mem_nil, not_false_eq_true]; done) | (intro hz; simp only [List.mem_cons, List.not_mem_nil, or_false] at hz; first | exact absurd hz (by assumption) | exact absurd hz.symm (by assumption) | (rcases hz with hz | hz <;> first | exact absurd hz (by assumption) | exact absurd hz.symm (by assumption))))
local macro_rules | `(tactic| walk_at "ne") => `(tactic| first | assumption | exact Ne.symm (by assumption))
local macro_rules | `(tactic| walk_at "hp") => `(tactic| first | assumption | exact Sf.g_same | ((with_reducible refine Sf.g_new (by assumption) ?_); walk_at "hp") | ((with_reducible refine Sf.g_mut (by walk_at "ne") ?_); walk_at "hp") | ((with_reducible refine Sf.Kp.get (by assumption) (by walk_at "nin") ?_); walk_at "hp"))
local macro_rules | `(tactic| walk_at "sq") => `(tactic| first | assumption | exact SqL.of (by walk_at "hp") | exact SqT.of (by walk_at "hp") | ((with_reducible refine Sf.sqL_new (by assumption) ?_); walk_at "sq") | ((with_reducible refine Sf.sqT_new (by assumption) ?_); walk_at "sq") | ((with_reducible refine Sf.Kp.sqL (by assumption) (by walk_at "nin") ?_); walk_at "sq") | ((with_reducible refine Sf.Kp.sqT (by assumption) (by walk_at "nin") ?_); walk_at "sq"))
local macro_rules | `(tactic| walk_at "rd1") => `(tactic| first
  | ((with_reducible refine o_varE ?_); refine ⟨_, rfl, ?_⟩) | with_reducible refine o_c ?_ | with_reducible refine o_op ?_ | with_reducible refine o_cb ?_ | with_reducible refine o_cons ?_ | with_reducible refine o_nil ?_ | with_reducible refine o_tup ?_ | with_reducible refine o_lst ?_
  | with_reducible refine o_call ?_ | with_reducible refine o_ret ?_ | with_reducible refine o_asg ?_ | with_reducible refine o_seq ?_ | with_reducible refine o_next ?_ | with_reducible refine o_brk ?_ | with_reducible refine o_cont ?_ | with_reducible refine o_drop ?_ | with_reducible refine o_if ?_ | with_reducible refine o_test ?_ | with_reducible refine o_B ?_ | with_reducible refine o_and ?_
  | with_reducible refine o_or ?_ | with_reducible refine o_not ?_ | with_reducible refine o_andV ?_ | with_reducible refine o_orV ?_ | with_reducible refine o_notV ?_ | with_reducible refine o_ifx ?_ | with_reducible refine o_chain ?_ | with_reducible refine o_sl ?_ | with_reducible refine o_part ?_ | with_reducible refine o_nop ?_ | with_reducible refine o_bm ?_ | with_reducible refine o_bm0 ?_ | with_reducible refine o_m1 ?_
  | with_reducible refine o_bl ?_ | with_reducible refine o_int ?_ | with_reducible refine o_yes ?_ | with_reducible refine r_add ?_ | with_reducible refine r_sub ?_ | with_reducible refine r_lt ?_ | with_reducible refine r_le ?_ | with_reducible refine r_gt ?_ | with_reducible refine r_ge ?_ | with_reducible refine r_int ?_ | with_reducible refine r_intB ?_ | with_reducible refine r_inS ?_ | with_reducible refine r_isN ?_ | with_reducible refine r_notN ?_
  | ((with_reducible refine r_eq ?h ?_); (case h => rfl)) | ((with_reducible refine r_ne ?h ?_); (case h => rfl)) | with_reducible refine r_lenS (Sf.sz (by first | omega | (simp; omega))) ?_ | ((with_reducible refine e_lenL ?_); refine ⟨_, by walk_at "sq", ?_⟩) | ((with_reducible refine e_ixL ?_); refine ⟨_, _, by walk_at "sq", by first | exact atZ0 | exact atZ1 | exact atZ2 | exact atZ3, ?_⟩) | ((with_reducible refine e_ixT ?_); refine ⟨_, _, by walk_at "sq", by first | exact atZ0 | exact atZ1 | exact atZ2 | exact atZ3, ?_⟩) | with_reducible refine r_mod (by first | decide | omega) ?_ | with_reducible refine r_div ⟨by first | decide | omega, by first | decide | omega⟩ ?_ | with_reducible refine iteT ?_ | with_reducible refine iteF ?_ | with_reducible refine iteNT ?_ | with_reducible refine iteNF ?_ | with_reducible refine r_leS ?_ | with_reducible refine o_asgG ?_ | with_reducible refine o_gsub ?_ | with_reducible refine o_gname ?_ | with_reducible refine o_retN ?_ | with_reducible refine o_par ?_)
local macro_rules | `(tactic| walk_at "rd") => `(tactic| repeat walk_at "rd1")
namespace K80
open PySem PySem.Spec PyProof.Rows L2 Sf
abbrev fin (Q : VK) : Ends := { nx := fun _ H' => Q .non H', rt := Q }
theorem filt_true {α : Type} (l : List α) : l.filter (fun _ => true) = l := by simp
theorem all_map {α : Type} (f : α → Bool) (l : List α) : (l.map f).all id = l.all f := by
  induction l with
  | nil => rfl
  | cons a r ih => simp [ih]
theorem head_cps (x : Str) (h : 0 < x.length) : ∃ c r, x.cps.toList = c :: r := by
  rw [show x.length = x.cps.toList.length from len_cps x] at h
  cases e : x.cps.toList with
  | nil => rw [e] at h; simp at h
  | cons c r => exact ⟨c, r, rfl⟩
theorem sign_eq (c d : Nat) : (V.str ⟨#[c]⟩ = V.str ⟨#[d]⟩) ↔ c = d := by simp
section
variable {K : PySem.W.Frag} {ca : Nat → Addr}
theorem pure_is_letters (vs : List V) (H : Hp) (Q : VK) (E : XK) (h : sp_is_letters K vs H Q E) : t_is_letters K ca (fin Q) (start ["text", "letter"] vs) H := by
  obtain ⟨x, rfl, hl, k⟩ := h
  unfold t_is_letters
  walk_at "rd"
  refine if_b (fun hb => ?_) (fun hb => ?_)
  · have hp : 0 < x.length := by have := of_decide_eq_true hb; omega
    walk_at "rd"
    refine lcS (fun _ => true) (fun c => .bl (decide (c ∈ alpha))) (fun R r => ⟨_, rfl, r⟩) (by omega) (fun c H1 _ _ R r => r _ (Kp.refl [] _)) (fun c H1 _ _ _ R r => ⟨_, rfl, _, _, rfl, rfl, r _ (Kp.refl [] _)⟩) fun D H' hD kp a => ?_
    rw [filt_true] at a
    walk_at "rd"
    refine r_all (bs := x.cps.toList.map fun c => decide (c ∈ alpha)) (SqL.of (by rw [a, List.map_map]; rfl)) ?_
    have e : isL x = (x.cps.toList.map fun c => decide (c ∈ alpha)).all id := by
      unfold isL
      rw [all_map, decide_eq_true hp, Bool.true_and]
    rw [← e]
    exact k _ kp
  · have hp : ¬ 0 < x.length := by have := of_decide_eq_false hb; omega
    have e : isL x = false := by
      unfold isL
      rw [decide_eq_false hp, Bool.false_and]
    rw [← e]
    exact k _ (Kp.refl [] _)
theorem isN_no (x : Str) (h : ¬ (1 ≤ x.length ∧ x.length ≤ 7)) : isN x = false := by
  unfold isN; rw [decide_eq_false h, Bool.false_and, Bool.false_and]
theorem pure_is_number (vs : List V) (H : Hp) (Q : VK) (E : XK) (h : sp_is_number K vs H Q E) : t_is_number K ca (fin Q) (start ["text", "digit"] vs) H := by
  obtain ⟨x, rfl, hl, k⟩ := h
  have no : isN x = false → Q (.bl false) H := fun e => by rw [← e]; exact k _ (Kp.refl [] _)
  unfold t_is_number
  walk_at "rd"
  refine if_b (fun hb => ?_) (fun hb => ?_)
  · have h1 := of_decide_eq_true hb
    walk_at "rd"
    refine if_b (fun hc => ?_) (fun hc => ?_)
    · exact no (isN_no x fun z => by simp at hc; omega)
    · have h2 : ((x.length : Nat) : Int) ≤ 7 := by simpa using hc
      walk_at "rd"
      refine lcS (fun _ => true) (fun c => .bl (decide (c ∈ digs))) (fun R r => ⟨_, rfl, r⟩) (by omega) (fun c H1 _ _ R r => r _ (Kp.refl [] _)) (fun c H1 _ _ _ R r => ⟨_, rfl, _, _, rfl, rfl, r _ (Kp.refl [] _)⟩) fun D H' hD kp a => ?_
      rw [filt_true] at a
      walk_at "rd"
      refine r_all (bs := x.cps.toList.map fun c => decide (c ∈ digs)) (SqL.of (by rw [a, List.map_map]; rfl)) ?_
      rw [all_map]
      walk_at "rd"
      have hn : isN x = ((x.cps.toList.all fun c => decide (c ∈ digs)) && (decide (x = "0") || decide (x.cps.toList.head? ≠ some 48))) := by
        unfold isN
        rw [decide_eq_true (by omega : 1 ≤ x.length ∧ x.length ≤ 7), Bool.true_and]
      refine if_b (fun hd => ?_) (fun hd => ?_)
      · have e : isN x = false := by
          rw [hn]
          have hd' : (x.cps.toList.all fun c => decide (c ∈ digs)) = false := by simpa using hd
          rw [hd', Bool.false_and]
        walk_at "rd"
        show Q (.bl false) H'
        rw [← e]
        exact k _ kp
      · have hd' : (x.cps.toList.all fun c => decide (c ∈ digs)) = true := by simpa using hd
        rw [hd', Bool.true_and] at hn
        walk_at "rd"
        refine if_b (fun h0 => ?_) (fun h0 => ?_)
        · have e0 : x = "0" := by have := of_decide_eq_true h0; exact V.str.inj this
          have e : isN x = true := by rw [hn, decide_eq_true e0, Bool.true_or]
          show Q (.bl true) H'
          rw [← e]
          exact k _ kp
        · have e0 : ¬ x = "0" := by have := of_decide_eq_false h0; exact fun z => this (by rw [z])
          obtain ⟨c, r, ec⟩ := head_cps x (by omega)
          walk_at "rd"
          refine r_ixS (c := c) (sz (by omega)) (by rw [ec]; exact atZ0) ?_
          walk_at "rd"
          have e : isN x = !decide (V.str ⟨#[c]⟩ = V.str ("0" : Str)) := by
            rw [hn, decide_eq_false e0, Bool.false_or, ec]
            have e1 : (V.str ⟨#[c]⟩ = V.str ("0" : Str)) ↔ c = 48 := sign_eq c 48
            by_cases hc : c = 48
            · rw [decide_eq_true (e1.mpr hc)]; simp [hc]
            · rw [decide_eq_false fun z => hc (e1.mp z)]; simp [hc]
          rw [← e]
          exact k _ kp
  · walk_at "rd"
    exact no (isN_no x fun z => by have := of_decide_eq_false hb; omega)
theorem strs_tail {f : Str} {r : List Str} : cutV ((f :: r).map V.str) (some 1) none = r.map V.str := cut_from _ 1
theorem pure_numbered_command (hi : KdInts K (ca 2) nums) (vs : List V) (H : Hp) (Q : VK) (E : XK) (h : sp_numbered_command K vs H Q E) : t_numbered_command K ca (fin Q) (start ["words", "numbers", "word"] vs) H := by
  obtain ⟨p, f, r, m, rfl, hp, hm, hl, hx, k⟩ := h
  have hpL : SqL K H p (V.str f :: r.map V.str) := SqL.of hp
  unfold t_numbered_command
  walk_at "rd"
  refine r_slL (SqL.of hp) fun l hln => ?_
  rw [strs_tail]
  have kl : Kp [] H (upd H l (.lst (r.map V.str))) := kp_new hln
  have hl2 : (upd H l (.lst (r.map V.str))) l = some (.lst (r.map V.str)) := g_same
  have hpL2 := kl.sqL (by simp) hpL
  generalize upd H l (.lst (r.map V.str)) = H2 at *
  walk_at "rd"
  refine r_kd hi hm ?_
  walk_at "rd"
  rw [List.length_map]
  refine if_b (fun hb => ?_) (fun hb => ?_)
  · have e : ¬ (r.length : Int) = m := by simpa using hb
    walk_at "rd"
    refine k _ _ kl ?_
    unfold nCmd
    rw [if_neg fun z => e z.1]
    exact .non
  · have e : (r.length : Int) = m := by simpa using hb
    walk_at "rd"
    refine lcL (xs := r.map V.str) (fun _ => true) (fun v => match v with | .str y => .bl (isN y) | _ => .non) (fun R q => ⟨_, rfl, q⟩) (SqL.of hl2) (by simp; omega) (fun x H1 _ _ R q => q _ (Kp.refl [] _)) (fun x H1 hm _ _ R q => ?_) fun D H3 hD k3 a => ?_
    · obtain ⟨y, hy, rfl⟩ := List.mem_map.mp hm
      walk_at "rd"
      exact ⟨y, rfl, hx y hy, fun H' k' => q _ k'⟩
    · rw [filt_true, List.map_map] at a
      walk_at "rd"
      refine r_all (bs := r.map isN) (SqL.of (by rw [a, List.map_map]; rfl)) ?_
      rw [all_map]
      walk_at "rd"
      refine if_b (fun hc => ?_) (fun hc => ?_)
      · walk_at "rd"
        refine k _ _ (kl.trans k3) ?_
        unfold nCmd
        rw [if_neg fun z => by rw [z.2] at hc; simp at hc]
        exact .non
      · have hc' : r.all isN = true := by simpa using hc
        have hpL3 := k3.sqL (by simp) hpL2
        have hl3 : H3 l = some (.lst (r.map V.str)) := k3 _ _ hl2 (by simp)
        walk_at "rd"
        refine o_star ?_
        refine lcL (xs := r.map V.str) (fun _ => true) (fun v => match v with | .str y => .int (intOf y) | _ => .non) (fun R q => ⟨_, rfl, q⟩) (SqL.of hl3) (by simp; omega) (fun x H1 _ _ R q => q _ (Kp.refl [] _)) (fun x H1 hm _ _ R q => ?_) fun D2 H4 hD2 k4 a2 => ?_
        · obtain ⟨y, hy, rfl⟩ := List.mem_map.mp hm
          have hn := isN_int (List.all_eq_true.mp hc' y hy)
          have h7 := isN_digits (List.all_eq_true.mp hc' y hy)
          walk_at "rd"
          exact ⟨y, intOf y, rfl, hn.1, by omega, q _ (Kp.refl [] _)⟩
        · rw [filt_true, List.map_map] at a2
          refine ⟨D2, _, rfl, .inr (SqL.of a2), ?_⟩
          walk_at "rd"
          refine ⟨sz (by simp; omega), fun t ht => ?_⟩
          refine k _ _ (((kl.trans k3).trans k4).trans (kp_new ht)) ?_
          unfold nCmd
          rw [if_pos ⟨e, hc'⟩]
          refine .tup (SqT.of g_same) ?_
          refine .cons (.str f) ?_
          have e3 : r.map ((fun v => match v with | V.str y => V.int (intOf y) | _ => V.non) ∘ V.str) ++ [] = (r.map intOf).map V.int := by simp [Function.comp_def]
          have e4 : r.map (fun x => PyData.int (intOf x)) = (r.map intOf).map PyData.int := by simp [Function.comp_def]
          rw [e3, e4]
          exact dps_ints _
end
end K80
namespace K80
open PySem PySem.Spec PyProof.Rows L2 Sf
theorem inV_strs (f : Str) (l : List Str) : inV (.str f) (l.map V.str) = decide (f ∈ l) := by
  unfold inV
  induction l with
  | nil => rfl
  | cons a r ih =>
    rw [List.map_cons, List.any_cons, ih]
    show (decide (a = f) || decide (f ∈ r)) = decide (f ∈ a :: r)
    by_cases h : a = f
    · subst h; simp
    · have h' : ¬ f = a := fun e => h e.symm
      simp [h, h']
theorem flat_strs (l : List Str) : (l.map V.str).all flatV = true := by
  rw [List.all_eq_true]
  intro x hx
  obtain ⟨y, _, rfl⟩ := List.mem_map.mp hx
  rfl
section
variable {K : PySem.W.Frag} {ca : Nat → Addr}
theorem r_inStrsT {a : Addr} {H : Hp} {Q : VK} {f : Str} {l : List Str} {neg : Bool} (h : SqT K H a (l.map V.str)) (q : Q (.bl (if neg then !decide (f ∈ l) else decide (f ∈ l))) H) : rIn K neg (.str f) (.ref a) H Q := by
  refine r_inT h rfl (flat_strs l) ?_
  rw [inV_strs]
  exact q
theorem r_inStrsL {a : Addr} {H : Hp} {Q : VK} {f : Str} {l : List Str} {neg : Bool} (h : SqL K H a (l.map V.str)) (q : Q (.bl (if neg then !decide (f ∈ l) else decide (f ∈ l))) H) : rIn K neg (.str f) (.ref a) H Q := by
  refine r_inL h rfl (flat_strs l) ?_
  rw [inV_strs]
  exact q
/-- all([test(word) for word in words]) by a promised test -/
theorem all_words {σ : L2.St} {H : Hp} {j i : Nat} {p : Addr} {ws : List Str} {sp : Sp} {f : Str → Bool} {D : VK} (hv : σ[i]? = some (some (.ref p))) (hj : j < σ.length) (hp : SqL K H p (ws.map V.str)) (hz : ws.length ≤ 100000)
    (hs : ∀ x ∈ ws, ∀ H1 (Q : VK) E, (∀ H2, Kp [] H1 H2 → Q (.bl (f x)) H2) → sp [.str x] H1 Q E)
    (q : ∀ H2, Kp [] H H2 → D (.bl (ws.all f)) H2) : tCB (rAll K) (tCons (tLc (iList K (tVar i)) (gName j) tYes (rCallG sp E0 (tCons (tVar j) tNil)) [j]) tNil) σ H D := by
  refine o_cb (o_cons ?_)
  refine lcL (xs := ws.map V.str) (fun _ => true) (fun v => match v with | .str y => .bl (f y) | _ => .non) (fun R q => ⟨_, hv, q⟩) hp (by simp; omega) (fun x H1 _ _ R q => q _ (Kp.refl [] _)) (fun x H1 hm _ _ R q => ?_) fun D2 H3 hD k3 a => ?_
  · obtain ⟨y, hy, rfl⟩ := List.mem_map.mp hm
    refine o_call (o_cons ⟨V.str y, by rw [List.getElem?_set_self (by simpa using hj)], o_nil ?_⟩)
    exact hs y hy _ _ _ fun H2 k2 => q H2 k2
  · rw [filt_true, List.map_map] at a
    refine o_nil (r_all (bs := ws.map f) (SqL.of (by rw [a, List.map_map]; rfl)) ?_)
    rw [all_map]
    exact q _ k3
/-- [int(word) for word in words] -/
theorem int_words {σ : L2.St} {H : Hp} {j i : Nat} {p : Addr} {ws : List Str} {Q : VK} (hv : σ[i]? = some (some (.ref p))) (hj : j < σ.length) (hp : SqL K H p (ws.map V.str)) (hz : ws.length ≤ 100000) (hn : ws.all isN = true)
    (q : ∀ D H2, H D = none → Kp [] H H2 → H2 D = some (.lst ((ws.map intOf).map V.int)) → Q (.ref D) H2) : tLc (iList K (tVar i)) (gName j) tYes (tCB rdIntS (tCons (tVar j) tNil)) [j] σ H Q := by
  refine lcL (xs := ws.map V.str) (fun _ => true) (fun v => match v with | .str y => .int (intOf y) | _ => .non) (fun R q => ⟨_, hv, q⟩) hp (by simp; omega) (fun x H1 _ _ R q => q _ (Kp.refl [] _)) (fun x H1 hm _ _ R q => ?_) fun D2 H3 hD k3 a => ?_
  · obtain ⟨y, hy, rfl⟩ := List.mem_map.mp hm
    have h1 := isN_int (List.all_eq_true.mp hn y hy)
    have h7 := isN_digits (List.all_eq_true.mp hn y hy)
    exact o_cb (o_cons ⟨V.str y, by rw [List.getElem?_set_self (by simpa using hj)], o_nil ⟨y, intOf y, rfl, h1.1, by omega, q _ (Kp.refl [] _)⟩⟩)
  · rw [filt_true, List.map_map] at a
    exact q D2 H3 hD k3 (by rw [a, List.map_map]; rfl)
theorem strs_tail2 {f g : Str} {r : List Str} : cutV ((f :: g :: r).map V.str) (some 2) none = r.map V.str := cut_from _ 2
theorem dp_cmd1 {H : Hp} {t : Addr} {f : Str} {r : List Str} (ht : H t = some (.tup (V.str f :: ((r.map intOf).map V.int ++ [])))) : Dp K H (.ref t) (.tuple (.str f :: r.map fun x => .int (intOf x))) := by
  refine .tup (SqT.of ht) (.cons (.str f) ?_)
  rw [List.append_nil, show r.map (fun x => PyData.int (intOf x)) = (r.map intOf).map PyData.int by simp [Function.comp_def]]
  exact dps_ints _
theorem dp_cmd2 {H : Hp} {t : Addr} {f g : Str} {r : List Str} (ht : H t = some (.tup (V.str f :: V.str g :: ((r.map intOf).map V.int ++ [])))) : Dp K H (.ref t) (.tuple (.str f :: .str g :: r.map fun x => .int (intOf x))) := by
  refine .tup (SqT.of ht) (.cons (.str f) (.cons (.str g) ?_))
  rw [List.append_nil, show r.map (fun x => PyData.int (intOf x)) = (r.map intOf).map PyData.int by simp [Function.comp_def]]
  exact dps_ints _
theorem pure_kind_command (hi : KdInts K (ca 3) kinds) (vs : List V) (H : Hp) (Q : VK) (E : XK) (h : sp_kind_command K vs H Q E) : t_kind_command K ca (fin Q) (start ["words", "numbers", "word"] vs) H := by
  obtain ⟨p, f, r, m, rfl, hp, hm, hl, hx, k⟩ := h
  have hpL : SqL K H p ((f :: r).map V.str) := SqL.of hp
  unfold t_kind_command
  walk_at "rd"
  cases r with
  | nil =>
    rw [if_pos (by simp)]
    walk_at "rd"
    exact k _ _ (Kp.refl [] _) .non
  | cons g r =>
    rw [if_neg (by simp; omega)]
    have hr : r.length ≤ 100000 := by simp at hl; omega
    have hx' : ∀ x ∈ r, x.length ≤ 100000 := fun x h => hx x (by simp [h])
    walk_at "rd"
    refine ⟨sz (by decide), fun t ht => ?_⟩
    have kt := kp_new (o := .tup [.str "good", .str "forward"]) ht
    refine r_inStrsT (l := ["good", "forward"]) (SqT.of g_same) ?_
    have hpL1 := kt.sqL (by simp) hpL
    generalize upd H t _ = H1 at *
    walk_at "rd"
    refine if_b (fun hb => ?_) (fun hb => ?_)
    · have hg : ¬ (g = "good" ∨ g = "forward") := by simpa using hb
      walk_at "rd"
      refine k _ _ kt ?_
      show Dp K _ _ (if _ then _ else _)
      rw [if_neg fun z => hg z.1]
      exact .non
    · have hg : g = "good" ∨ g = "forward" := by
        by_cases z : g = "good" ∨ g = "forward"
        · exact z
        · exfalso; have : (!decide (g ∈ [("good" : Str), "forward"])) = true := by simpa using z
          rw [if_pos rfl, this] at hb; cases hb
      walk_at "rd"
      refine r_slL hpL1 fun l hln => ?_
      rw [strs_tail2]
      have kl : Kp [] H (upd H1 l (.lst (r.map V.str))) := kt.new hln
      have hl2 : SqL K (upd H1 l (.lst (r.map V.str))) l (r.map V.str) := SqL.of g_same
      have hpL2 := (kp_new (o := .lst (r.map V.str)) hln).sqL (by simp) hpL1
      generalize upd H1 l (.lst (r.map V.str)) = H2 at *
      walk_at "rd"
      refine r_kd hi hm ?_
      walk_at "rd"
      rw [List.length_map]
      refine if_b (fun hb => ?_) (fun hb => ?_)
      · have e : ¬ (r.length : Int) = m := by simpa using hb
        walk_at "rd"
        refine k _ _ kl ?_
        show Dp K _ _ (if _ then _ else _)
        rw [if_neg fun z => e z.2.1]
        exact .non
      · have e : (r.length : Int) = m := by simpa using hb
        walk_at "rd"
        refine all_words (f := isN) rfl (by simp [L2.start]) hl2 hr (fun x hx2 H3 Q3 E3 q3 => ⟨x, rfl, hx' x hx2, q3⟩) fun H3 k3 => ?_
        walk_at "rd"
        refine if_b (fun hc => ?_) (fun hc => ?_)
        · walk_at "rd"
          refine k _ _ (kl.trans k3) ?_
          show Dp K _ _ (if _ then _ else _)
          rw [if_neg fun z => by rw [z.2.2] at hc; simp at hc]
          exact .non
        · have hc' : r.all isN = true := by simpa using hc
          have hpL3 := k3.sqL (by simp) hpL2
          have hl3 := k3.sqL (by simp) hl2
          walk_at "rd"
          refine o_star (int_words rfl (by simp [L2.start]) hl3 hr hc' fun D2 H4 hD2 k4 a2 => ?_)
          refine ⟨D2, _, rfl, .inr (SqL.of a2), ?_⟩
          walk_at "rd"
          refine ⟨sz (by simp; omega), fun t ht => ?_⟩
          refine k _ _ (((kl.trans k3).trans k4).trans (kp_new ht)) ?_
          show Dp K _ _ (if _ then _ else _)
          rw [if_pos ⟨hg, e, hc'⟩]
          exact dp_cmd2 g_same
end
end K80
namespace K80
open PySem PySem.Spec PyProof.Rows L2 Sf
theorem one_lt (c d : Nat) : ([c] : List Nat) < [d] ↔ c < d := by
  rw [List.cons_lt_cons_iff]
  constructor
  · rintro (h | ⟨_, h⟩)
    · exact h
    · exact absurd h (List.not_lt_nil _)
  · exact fun h => Or.inl h
theorem le_sign (c : Nat) : (decide ((⟨#[c]⟩ : Str).cps.toList < (Str.ofString "a").cps.toList)) = decide (c < 97) := by
  have e : (Str.ofString "a").cps.toList = [97] := by rfl
  rw [e]
  exact decide_eq_decide.mpr (one_lt c 97)
theorem ge_sign (c : Nat) : (decide ((Str.ofString "z").cps.toList < (⟨#[c]⟩ : Str).cps.toList)) = decide (122 < c) := by
  have e : (Str.ofString "z").cps.toList = [122] := by rfl
  rw [e]
  exact decide_eq_decide.mpr (one_lt 122 c)
theorem filt_len {α : Type} (p : α → Bool) (l : List α) : decide ((l.filter p).length = l.length) = l.all p := by
  by_cases h : l.all p = true
  · rw [h, decide_eq_true]
    rw [List.filter_eq_self.mpr (List.all_eq_true.mp h)]
  · rw [Bool.not_eq_true] at h
    rw [h, decide_eq_false]
    intro e
    have := List.length_filter_eq_length_iff.mp e
    rw [List.all_eq_true.mpr this] at h
    cases h
section
variable {K : PySem.W.Frag} {ca : Nat → Addr}
theorem pure_law_is_letters (vs : List V) (H : Hp) (Q : VK) (E : XK) (h : sp_law_is_letters K vs H Q E) : t_law_is_letters K ca (fin Q) (start ["text", "letter"] vs) H := by
  obtain ⟨x, rfl, hl, k⟩ := h
  unfold t_law_is_letters
  walk_at "rd"
  refine if_b (fun hb => ?_) (fun hb => ?_)
  · have hp : 0 < x.length := by have := of_decide_eq_true hb; omega
    walk_at "rd"
    refine lcS (fun c => decide (97 ≤ c ∧ c ≤ 122)) (fun c => .str ⟨#[c]⟩) (fun R r => ⟨_, rfl, r⟩) (by omega) (fun c H1 _ _ R r => ?_) (fun c H1 _ _ _ R r => ⟨_, rfl, r _ (Kp.refl [] _)⟩) fun D H' hD kp a => ?_
    · walk_at "rd"
      rw [le_sign]
      refine if_b (fun h1 => ?_) (fun h1 => ?_)
      · have h1' : ¬ c < 97 := by simpa using h1
        walk_at "rd"
        rw [ge_sign]
        have e : (!decide (122 < c)) = decide (97 ≤ c ∧ c ≤ 122) := by
          by_cases h2 : 122 < c
          · rw [decide_eq_true h2, decide_eq_false (by omega)]; rfl
          · rw [decide_eq_false h2, decide_eq_true (by omega)]; rfl
        rw [e]
        exact r _ (Kp.refl [] _)
      · have h1' : c < 97 := by simpa using h1
        walk_at "rd"
        have e : decide (97 ≤ c ∧ c ≤ 122) = false := decide_eq_false (by omega)
        have r' := r _ (Kp.refl [] _)
        rw [e] at r'
        exact r'
    · have hDl : SqL K H' D _ := SqL.of a
      walk_at "rd"
      rw [List.length_map]
      have e : isL x = decide (V.int (((x.cps.toList.filter fun c => decide (97 ≤ c ∧ c ≤ 122)).length : Nat) : Int) = V.int ((x.length : Nat) : Int)) := by
        have e1 : isL x = x.cps.toList.all fun c => decide (97 ≤ c ∧ c ≤ 122) := by
          unfold isL
          rw [decide_eq_true hp, Bool.true_and]
          congr 1
          funext c
          exact decide_eq_decide.mpr (alpha_iff c)
        rw [e1, ← filt_len]
        refine decide_eq_decide.mpr ?_
        rw [len_cps]
        constructor
        · intro h; rw [h]
        · intro h; have := V.int.inj h; exact Int.ofNat.inj this
      rw [← e]
      exact k _ kp
  · have hp : ¬ 0 < x.length := by have := of_decide_eq_false hb; omega
    have e : isL x = false := by
      unfold isL
      rw [decide_eq_false hp, Bool.false_and]
    rw [← e]
    exact k _ (Kp.refl [] _)
theorem pure_law_is_number (vs : List V) (H : Hp) (Q : VK) (E : XK) (h : sp_law_is_number K vs H Q E) : t_law_is_number K ca (fin Q) (start ["text", "digits", "digit"] vs) H := by
  obtain ⟨x, rfl, hl, k⟩ := h
  unfold t_law_is_number
  walk_at "rd"
  refine lcS (fun c => decide (c ∈ digs)) (fun c => .str ⟨#[c]⟩) (fun R r => ⟨_, rfl, r⟩) (by omega) (fun c H1 _ _ R r => ?_) (fun c H1 _ _ _ R r => ⟨_, rfl, r _ (Kp.refl [] _)⟩) fun D H' hD kp a => ?_
  · walk_at "rd"
    exact r _ (Kp.refl [] _)
  · have hDl : SqL K H' D _ := SqL.of a
    have no : isN x = false → Q (.bl false) H' := fun e => by rw [← e]; exact k _ kp
    walk_at "rd"
    refine if_b (fun h1 => ?_) (fun h1 => ?_)
    · have h1' := of_decide_eq_true h1
      walk_at "rd"
      refine if_b (fun h2 => ?_) (fun h2 => ?_)
      · have h2' := of_decide_eq_true h2
        have hn : isN x = ((x.cps.toList.all fun c => decide (c ∈ digs)) && (decide (x = "0") || decide (x.cps.toList.head? ≠ some 48))) := by
          unfold isN
          rw [decide_eq_true (by omega : 1 ≤ x.length ∧ x.length ≤ 7), Bool.true_and]
        walk_at "rd"
        have e1 : decide (V.int ((((x.cps.toList.filter fun c => decide (c ∈ digs)).map fun c => V.str ⟨#[c]⟩).length : Nat) : Int) = V.int ((x.length : Nat) : Int)) = x.cps.toList.all fun c => decide (c ∈ digs) := by
          rw [← filt_len, List.length_map]
          refine decide_eq_decide.mpr ?_
          rw [len_cps]
          constructor
          · intro h; have := V.int.inj h; exact Int.ofNat.inj this
          · intro h; rw [h]
        rw [e1]
        refine if_b (fun h3 => ?_) (fun h3 => ?_)
        · rw [h3, Bool.true_and] at hn
          walk_at "rd"
          refine if_b (fun h0 => ?_) (fun h0 => ?_)
          · have e0 : x = "0" := by have := of_decide_eq_true h0; exact V.str.inj this
            have e : isN x = true := by rw [hn, decide_eq_true e0, Bool.true_or]
            show Q (.bl true) H'
            rw [← e]
            exact k _ kp
          · have e0 : ¬ x = "0" := by have := of_decide_eq_false h0; exact fun z => this (by rw [z])
            obtain ⟨c, r, ec⟩ := head_cps x (by omega)
            walk_at "rd"
            refine r_ixS (c := c) (sz (by omega)) (by rw [ec]; exact atZ0) ?_
            walk_at "rd"
            have e : isN x = !decide (V.str ⟨#[c]⟩ = V.str ("0" : Str)) := by
              rw [hn, decide_eq_false e0, Bool.false_or, ec]
              have e1 : (V.str ⟨#[c]⟩ = V.str ("0" : Str)) ↔ c = 48 := sign_eq c 48
              by_cases hc : c = 48
              · rw [decide_eq_true (e1.mpr hc)]; simp [hc]
              · rw [decide_eq_false fun z => hc (e1.mp z)]; simp [hc]
            rw [← e]
            exact k _ kp
        · walk_at "rd"
          refine no ?_
          rw [hn, h3, Bool.false_and]
      · walk_at "rd"
        exact no (isN_no x fun z => by have := of_decide_eq_false h2; omega)
    · walk_at "rd"
      exact no (isN_no x fun z => by have := of_decide_eq_false h1; omega)
end
end K80
namespace K80
open PySem PySem.Spec PyProof.Rows L2 Sf
/-! ### written lists of pairs -/
def prA : List (Str × Int) → TA
  | [] => tNil
  | q :: r => tCons (tTup (tCons (tC (.str q.1)) (tCons (tC (.int q.2)) tNil))) (prA r)
def PrAt (H : Hp) : List V → List (Str × Int) → Prop
  | [], [] => True
  | v :: vs, q :: r => (∃ a, v = .ref a ∧ H a = some (.tup [.str q.1, .int q.2])) ∧ PrAt H vs r
  | _, _ => False
theorem PrAt.kp {H H' : Hp} (k : Tk H H') : ∀ {vs : List V} {ps : List (Str × Int)}, PrAt H vs ps → PrAt H' vs ps
  | [], [], _ => trivial
  | _ :: _, _ :: _, ⟨⟨a, e, h⟩, r⟩ => ⟨⟨a, e, k.1 _ _ h⟩, PrAt.kp k r⟩
  | [], _ :: _, h => h.elim
  | _ :: _, [], h => h.elim
theorem PrAt.len {H : Hp} : ∀ {vs : List V} {ps : List (Str × Int)}, PrAt H vs ps → vs.length = ps.length
  | [], [], _ => rfl
  | _ :: _, _ :: _, ⟨_, r⟩ => by simp [PrAt.len r]
  | [], _ :: _, h => h.elim
  | _ :: _, [], h => h.elim
theorem PrAt.get {H : Hp} : ∀ {vs : List V} {ps : List (Str × Int)} {i : Nat} {v : V}, PrAt H vs ps → vs[i]? = some v → ∃ q a, ps[i]? = some q ∧ v = .ref a ∧ H a = some (.tup [.str q.1, .int q.2])
  | [], [], _, _, _, h => by simp at h
  | _ :: _, q :: _, 0, v, ⟨⟨a, e, h⟩, _⟩, hv => ⟨q, a, rfl, by simp at hv; rw [← hv]; exact e, h⟩
  | _ :: _, _ :: _, i + 1, v, ⟨_, r⟩, hv => by
    obtain ⟨q, a, h1, h2⟩ := PrAt.get (i := i) (v := v) r (by simpa using hv)
    exact ⟨q, a, by simpa using h1, h2⟩
  | [], _ :: _, _, _, h, _ => h.elim
  | _ :: _, [], _, _, h, _ => h.elim
theorem prA_run {σ : L2.St} : ∀ (ps : List (Str × Int)) (H : Hp) (QA : List V → Hp → Prop), (∀ vs H', Kp [] H H' → PrAt H' vs ps → QA vs H') → prA ps σ H QA
  | [], H, QA, q => q [] H (Kp.refl [] _) trivial
  | p :: r, H, QA, q => by
    refine o_cons (o_tup (o_cons (o_c (o_cons (o_c (o_nil ⟨sz (by simp), fun t ht => ?_⟩))))))
    refine prA_run r _ _ fun vs H' k a => q _ _ ((kp_new ht).trans k) ⟨⟨t, rfl, k _ _ g_same (by simp)⟩, a⟩
/-- [(w, m), ..] -/
theorem o_pairs {σ : L2.St} {H : Hp} {Q : VK} (ps : List (Str × Int)) (hl : ps.length ≤ 1000) (q : ∀ p vs H', Kp [] H H' → H' p = some (.lst vs) → PrAt H' vs ps → H p = none → Q (.ref p) H') : tLst (prA ps) σ H Q := by
  refine o_lst (prA_run ps H _ fun vs H' k a => ⟨sz (by rw [a.len]; omega), fun p hp => ?_⟩)
  exact q p vs _ (k.new hp) g_same (a.kp (Kp.tk (kp_new hp))) (k.free (by simp) hp)
theorem parse_ne {x f : Str} {r : List Str} (h : x ≠ "") (e : Txt.split x " " = f :: r) : parse x = cmdOf f r := by
  unfold parse
  rw [if_neg h, e]
theorem split_bounds {x f : Str} {r : List Str} (e : Txt.split x " " = f :: r) : f.length + r.length ≤ x.length ∧ (∀ y ∈ f :: r, y.length ≤ x.length) := by
  have h := split_len x
  rw [e] at h
  simp only [List.map_cons, List.sum_cons, List.length_cons] at h
  refine ⟨by omega, fun y hy => ?_⟩
  have := mem_len hy
  simp only [List.map_cons, List.sum_cons] at this
  omega
theorem slice_rest {x f : Str} {r : List Str} (e : Txt.split x " " = f :: r) (hr : r ≠ []) : cutS x (some (((f.length : Nat) : Int) + 1)) none = Txt.join " " r := by
  apply TL.ext_tl
  have h := split_cons e hr
  have c := cut_str x (f.length + 1)
  have e1 : (((f.length + 1 : Nat) : Int)) = ((f.length : Nat) : Int) + 1 := by omega
  rw [e1] at c
  rw [c, h, TL.len_tl f]
  rw [List.drop_append]
  simp
theorem cmdOf_num {f : Str} {r : List Str} {m : Int} (n1 : ¬ ((f = "read" ∨ f = "bar") ∧ r ≠ [])) (n2 : ¬ ((f = "undo" ∨ f = "log" ∨ f = "levels" ∨ f = "steady" ∨ f = "elements" ∨ f = "bound") ∧ r = [])) (n3 : ¬ ((f = "begin" ∨ f = "add") ∧ r.all isL = true))
    (e : nums.lookup f = some m) : cmdOf f r = nCmd f m r := by
  unfold cmdOf
  rw [if_neg n1, if_neg n2, if_neg n3, e]
theorem cmdOf_kind {f : Str} {r : List Str} {m : Int} (n1 : ¬ ((f = "read" ∨ f = "bar") ∧ r ≠ [])) (n2 : ¬ ((f = "undo" ∨ f = "log" ∨ f = "levels" ∨ f = "steady" ∨ f = "elements" ∨ f = "bound") ∧ r = [])) (n3 : ¬ ((f = "begin" ∨ f = "add") ∧ r.all isL = true))
    (e0 : nums.lookup f = none) (e : kinds.lookup f = some m) : cmdOf f r = kCmd f m r := by
  unfold cmdOf
  rw [if_neg n1, if_neg n2, if_neg n3, e0, e]
theorem cmdOf_none {f : Str} {r : List Str} (n1 : ¬ ((f = "read" ∨ f = "bar") ∧ r ≠ [])) (n2 : ¬ ((f = "undo" ∨ f = "log" ∨ f = "levels" ∨ f = "steady" ∨ f = "elements" ∨ f = "bound") ∧ r = [])) (n3 : ¬ ((f = "begin" ∨ f = "add") ∧ r.all isL = true))
    (e0 : nums.lookup f = none) (e : kinds.lookup f = none) : cmdOf f r = .none := by
  unfold cmdOf
  rw [if_neg n1, if_neg n2, if_neg n3, e0, e]
section
variable {K : PySem.W.Frag} {ca : Nat → Addr}
theorem pure_read_command (hT : ∀ H, SqT K H (ca 0) [.str "read", .str "bar"]) (hB : ∀ H, SqT K H (ca 1) [.str "undo", .str "log", .str "levels", .str "steady", .str "elements", .str "bound"]) (hN : KdInts K (ca 2) nums) (hK : KdInts K (ca 3) kinds)
    (vs : List V) (H : Hp) (Q : VK) (E : XK) (h : sp_read_command K vs H Q E) : t_read_command K ca (fin Q) (start ["line", "words", "first", "word"] vs) H := by
  obtain ⟨x, rfl, hl, k⟩ := h
  unfold t_read_command
  walk_at "rd"
  refine if_b (fun h0 => ?_) (fun h0 => ?_)
  · have e0 : x = "" := by have := of_decide_eq_true h0; exact V.str.inj this
    walk_at "rd"
    refine ⟨sz (by simp), fun t ht => k _ _ (kp_new ht) ?_⟩
    unfold parse
    rw [if_pos e0]
    exact .tup (SqT.of g_same) .nil
  · have e0 : x ≠ "" := by have := of_decide_eq_false h0; exact fun z => this (by rw [z])
    walk_at "rd"
    refine ⟨⟨_, rfl⟩, ?_⟩
    walk_at "rd"
    refine ⟨x, " ", rfl, rfl, by decide +kernel, sz (by omega), fun p hp => ?_⟩
    obtain ⟨f, r, es⟩ : ∃ f r, Txt.split x " " = f :: r := by
      cases e : Txt.split x " " with
      | nil => exact absurd e (split_ne x)
      | cons f r => exact ⟨f, r, rfl⟩
    rw [es]
    obtain ⟨hb1, hb2⟩ := split_bounds es
    have pe := parse_ne e0 es
    have kp1 := kp_new (o := .lst ((f :: r).map V.str)) hp
    have hpA : (upd H p (.lst ((f :: r).map V.str))) p = some (.lst ((f :: r).map V.str)) := g_same
    have hpL : SqL K (upd H p (.lst ((f :: r).map V.str))) p ((f :: r).map V.str) := SqL.of hpA
    generalize upd H p _ = H1 at *
    have done : ∀ v H2, Kp [] H1 H2 → Dp K H2 v (cmdOf f r) → Q v H2 := fun v H2 k2 d => k _ _ (kp1.trans k2) (by rw [pe]; exact d)
    walk_at "rd"
    refine r_inStrsT (l := ["read", "bar"]) (hT _) ?_
    rw [if_neg Bool.false_ne_true]
    -- the three kinds that are told by lists of words, and what stands behind them
    have tail : ¬ ((f = "read" ∨ f = "bar") ∧ r ≠ []) → tSeq (tIfS (tAnd (tTest (tOp (rIn K false) (tVar 2) (tC (.ref (ca 1))))) (tTest (tOp rEq (tCB (rdLen K) (tCons (tVar 1) tNil)) (tC (.int 1))))) (tRet (tTup (tCons (tVar 2) tNil))) tNext)
        (tSeq (tIfS (tAnd (tOr (tTest (tOp rEq (tVar 2) (tC (.str "begin")))) (tTest (tOp rEq (tVar 2) (tC (.str "add"))))) (tB (tCB (rAll K) (tCons (tLc (iList K (tVar 1)) (gName 3) tYes (rCallG (sp_is_letters K) E0 (tCons (tVar 3) tNil)) [3]) tNil)))) (tRet (tCB (rdTuple K) (tCons (tVar 1) tNil))) tNext)
        (tSeq (tIfS (tTest (tOp (rInKd K (ca 2)) (tVar 2) (tC (.ref (ca 2))))) (tRet (rCallG (sp_numbered_command K) E0 (tCons (tVar 1) tNil))) tNext)
        (tSeq (tIfS (tTest (tOp (rInKd K (ca 3)) (tVar 2) (tC (.ref (ca 3))))) (tRet (rCallG (sp_kind_command K) E0 (tCons (tVar 1) tNil))) tNext)
        (tRet (tC .non))))) (fin Q) [some (.str x), some (.ref p), some (.str f), none] H1 := fun n1 => by
      -- from here on nothing of bare words either
      have tail2 : ¬ ((f = "undo" ∨ f = "log" ∨ f = "levels" ∨ f = "steady" ∨ f = "elements" ∨ f = "bound") ∧ r = []) → (tSeq (tIfS (tAnd (tOr (tTest (tOp rEq (tVar 2) (tC (.str "begin")))) (tTest (tOp rEq (tVar 2) (tC (.str "add"))))) (tB (tCB (rAll K) (tCons (tLc (iList K (tVar 1)) (gName 3) tYes (rCallG (sp_is_letters K) E0 (tCons (tVar 3) tNil)) [3]) tNil)))) (tRet (tCB (rdTuple K) (tCons (tVar 1) tNil))) tNext)
          (tSeq (tIfS (tTest (tOp (rInKd K (ca 2)) (tVar 2) (tC (.ref (ca 2))))) (tRet (rCallG (sp_numbered_command K) E0 (tCons (tVar 1) tNil))) tNext)
          (tSeq (tIfS (tTest (tOp (rInKd K (ca 3)) (tVar 2) (tC (.ref (ca 3))))) (tRet (rCallG (sp_kind_command K) E0 (tCons (tVar 1) tNil))) tNext)
          (tRet (tC .non))))) (fin Q) [some (.str x), some (.ref p), some (.str f), none] H1 := fun n2 => by
        have tail3 : ∀ H2, Kp [] H1 H2 → ¬ ((f = "begin" ∨ f = "add") ∧ r.all isL = true) → (tSeq (tIfS (tTest (tOp (rInKd K (ca 2)) (tVar 2) (tC (.ref (ca 2))))) (tRet (rCallG (sp_numbered_command K) E0 (tCons (tVar 1) tNil))) tNext)
            (tSeq (tIfS (tTest (tOp (rInKd K (ca 3)) (tVar 2) (tC (.ref (ca 3))))) (tRet (rCallG (sp_kind_command K) E0 (tCons (tVar 1) tNil))) tNext)
            (tRet (tC .non)))) (fin Q) [some (.str x), some (.ref p), some (.str f), none] H2 := fun H2 k2 n3 => by
          have hpA2 : H2 p = some (.lst ((f :: r).map V.str)) := k2 _ _ hpA (by simp)
          walk_at "rd"
          refine r_inKd hN ?_
          walk_at "rd"
          cases e1 : nums.lookup f with
          | some m =>
            refine iteP (by rfl) ?_
            walk_at "rd"
            refine ⟨p, f, r, m, rfl, hpA2, e1, by omega, fun y hy => by have := hb2 y (by simp [hy]); omega, fun v H3 k3 d => ?_⟩
            exact done v H3 (k2.trans k3) (by rw [cmdOf_num n1 n2 n3 e1]; exact d)
          | none =>
            refine iteN (by simp) ?_
            walk_at "rd"
            refine r_inKd hK ?_
            walk_at "rd"
            cases e2 : kinds.lookup f with
            | some m =>
              refine iteP (by rfl) ?_
              walk_at "rd"
              refine ⟨p, f, r, m, rfl, hpA2, e2, by omega, fun y hy => by have := hb2 y (by simp [hy]); omega, fun v H3 k3 d => ?_⟩
              exact done v H3 (k2.trans k3) (by rw [cmdOf_kind n1 n2 n3 e1 e2]; exact d)
            | none =>
              refine iteN (by simp) ?_
              walk_at "rd"
              exact done _ _ k2 (by rw [cmdOf_none n1 n2 n3 e1 e2]; exact .non)
        walk_at "rd"
        have go : (f = "begin" ∨ f = "add") → tB (tCB (rAll K) (tCons (tLc (iList K (tVar 1)) (gName 3) tYes (rCallG (sp_is_letters K) E0 (tCons (tVar 3) tNil)) [3]) tNil)) [some (.str x), some (.ref p), some (.str f), none] H1 fun c H2 => if c = true then tRet (tCB (rdTuple K) (tCons (tVar 1) tNil)) (fin Q) [some (.str x), some (.ref p), some (.str f), none] H2 else
            (tSeq (tIfS (tTest (tOp (rInKd K (ca 2)) (tVar 2) (tC (.ref (ca 2))))) (tRet (rCallG (sp_numbered_command K) E0 (tCons (tVar 1) tNil))) tNext)
            (tSeq (tIfS (tTest (tOp (rInKd K (ca 3)) (tVar 2) (tC (.ref (ca 3))))) (tRet (rCallG (sp_kind_command K) E0 (tCons (tVar 1) tNil))) tNext)
            (tRet (tC .non)))) (fin Q) [some (.str x), some (.ref p), some (.str f), none] H2 := fun hf => by
          refine o_B (all_words (f := isL) rfl (by simp) hpL (by simp; omega) (fun y hy H3 Q3 E3 q3 => ⟨y, rfl, by have := hb2 y hy; omega, q3⟩) fun H2 k2 => o_bl ?_)
          have ef : isL f = true := by rcases hf with rfl | rfl <;> decide +kernel
          rw [List.all_cons, ef, Bool.true_and]
          refine if_b (fun ha => ?_) (fun ha => ?_)
          · walk_at "rd"
            refine r_tupL (k2.sqL (by simp) hpL) fun t ht => ?_
            refine done _ _ (k2.trans (kp_new ht)) ?_
            unfold cmdOf
            rw [if_neg n1, if_neg n2, if_pos ⟨hf, ha⟩]
            exact .tup (SqT.of g_same) (dps_strs (f :: r))
          · exact tail3 H2 k2 fun z => by rw [z.2] at ha; cases ha
        refine if_b (fun h1 => ?_) (fun h1 => ?_)
        · exact go (Or.inl (V.str.inj (of_decide_eq_true h1)))
        · walk_at "rd"
          refine if_b (fun h2 => ?_) (fun h2 => ?_)
          · exact go (Or.inr (V.str.inj (of_decide_eq_true h2)))
          · refine iteF (o_next (tail3 H1 (Kp.refl [] _) fun z => ?_))
            rcases z.1 with z | z
            · exact of_decide_eq_false h1 (by rw [z])
            · exact of_decide_eq_false h2 (by rw [z])
      walk_at "rd"
      refine r_inStrsT (l := ["undo", "log", "levels", "steady", "elements", "bound"]) (hB _) ?_
      rw [if_neg Bool.false_ne_true]
      walk_at "rd"
      refine if_b (fun h1 => ?_) (fun h1 => ?_)
      · have h1' : f = "undo" ∨ f = "log" ∨ f = "levels" ∨ f = "steady" ∨ f = "elements" ∨ f = "bound" := by simpa using h1
        walk_at "rd"
        refine if_b (fun h2 => ?_) (fun h2 => ?_)
        · have hr : r = [] := by
            have := V.int.inj (of_decide_eq_true h2)
            simp at this
            exact List.eq_nil_of_length_eq_zero (by omega)
          walk_at "rd"
          refine ⟨sz (by simp), fun t ht => done _ _ (kp_new ht) ?_⟩
          unfold cmdOf
          rw [if_neg n1, if_pos ⟨h1', hr⟩]
          exact .tup (SqT.of g_same) (.cons (.str f) .nil)
        · refine o_next (tail2 fun z => ?_)
          rw [z.2] at h2
          simp at h2
      · refine iteF (o_next (tail2 fun z => ?_))
        have : decide (f ∈ (["undo", "log", "levels", "steady", "elements", "bound"] : List Str)) = true := by simpa using z.1
        rw [this] at h1; cases h1
    walk_at "rd"
    refine if_b (fun h1 => ?_) (fun h1 => ?_)
    · have h1' : f = "read" ∨ f = "bar" := by simpa using h1
      walk_at "rd"
      refine if_b (fun h2 => ?_) (fun h2 => ?_)
      · have hr : r ≠ [] := by
          intro z
          rw [z] at h2
          simp at h2
        walk_at "rd"
        refine r_slS (sz (by omega)) ?_
        rw [slice_rest es hr]
        walk_at "rd"
        refine ⟨sz (by simp), fun t ht => done _ _ (kp_new ht) ?_⟩
        unfold cmdOf
        rw [if_pos ⟨h1', hr⟩]
        exact .tup (SqT.of g_same) (.cons (.str f) (.cons (.str _) .nil))
      · refine o_next (tail fun z => ?_)
        have : (r.length : Int) + 1 ≤ 1 := by simpa using h2
        exact z.2 (List.eq_nil_of_length_eq_zero (by omega))
    · refine iteF (o_next (tail fun z => ?_))
      have : decide (f ∈ [("read" : Str), "bar"]) = true := by simpa using z.1
      rw [this] at h1; cases h1
end
end K80
namespace K80
open PySem PySem.Spec PyProof.Rows L2 Sf
def strA : List Str → TA
  | [] => tNil
  | a :: r => tCons (tC (.str a)) (strA r)
theorem strA_run {σ : L2.St} {H : Hp} : ∀ (l : List Str) (QA : List V → Hp → Prop), QA (l.map V.str) H → strA l σ H QA
  | [], _, q => q
  | a :: r, QA, q => o_cons (o_c (strA_run r _ q))
section
variable {K : PySem.W.Frag} {ca : Nat → Addr}
/-- x in ['..', ..] -/
theorem in_words {te : TE} {σ : L2.St} {H : Hp} {f : Str} {QB : Bool → Hp → Prop} (l : List Str) (hv : ∀ R : VK, R (.str f) H → te σ H R) (hl : l.length ≤ 1000) (q : ∀ H', Kp [] H H' → QB (decide (f ∈ l)) H') : tTest (tOp (rIn K false) te (tLst (strA l))) σ H QB := by
  refine o_test (o_op (hv _ (o_lst (strA_run l _ ⟨sz (by simp; omega), fun t ht => ?_⟩))))
  refine r_inStrsL (l := l) (SqL.of g_same) ?_
  rw [if_neg Bool.false_ne_true]
  exact o_bl (q _ (kp_new ht))
/-- the same over a list that is new -/
theorem all_wordsN {σ : L2.St} {H : Hp} {j : Nat} {te : TE} {ws : List Str} {sp : Sp} {f : Str → Bool} {D : VK} (hv : ∀ R : VK, (∀ a H1, Kp [] H H1 → SqL K H1 a (ws.map V.str) → R (.ref a) H1) → te σ H R) (hj : j < σ.length) (hz : ws.length ≤ 100000)
    (hs : ∀ x ∈ ws, ∀ H1 (Q : VK) E, (∀ H2, Kp [] H1 H2 → Q (.bl (f x)) H2) → sp [.str x] H1 Q E)
    (q : ∀ H2, Kp [] H H2 → D (.bl (ws.all f)) H2) : tCB (rAll K) (tCons (tLc (iList K te) (gName j) tYes (rCallG sp E0 (tCons (tVar j) tNil)) [j]) tNil) σ H D := by
  refine o_cb (o_cons (hv _ fun a H1 k1 s1 => ?_))
  show tLc (iList K (tC (.ref a))) (gName j) tYes (rCallG sp E0 (tCons (tVar j) tNil)) [j] σ H1 fun x H2 => tNil σ H2 fun xs H3 => rAll K (x :: xs) H3 D
  refine lcL (xs := ws.map V.str) (fun _ => true) (fun v => match v with | .str y => .bl (f y) | _ => .non) (fun R q => q) s1 (by simp; omega) (fun x H1 _ _ R q => q _ (Kp.refl [] _)) (fun x H1 hm _ _ R q => ?_) fun D2 H3 hD k3 a => ?_
  · obtain ⟨y, hy, rfl⟩ := List.mem_map.mp hm
    refine o_call (o_cons ⟨V.str y, by rw [List.getElem?_set_self (by simpa using hj)], o_nil ?_⟩)
    exact hs y hy _ _ _ fun H2 k2 => q H2 k2
  · rw [filt_true, List.map_map] at a
    refine o_nil (r_all (bs := ws.map f) (SqL.of (by rw [a, List.map_map]; rfl)) ?_)
    rw [all_map]
    exact q _ (k1.trans k3)
theorem int_wordsN {σ : L2.St} {H : Hp} {j : Nat} {te : TE} {ws : List Str} {Q : VK} (hv : ∀ R : VK, (∀ a H1, Kp [] H H1 → SqL K H1 a (ws.map V.str) → R (.ref a) H1) → te σ H R) (hj : j < σ.length) (hz : ws.length ≤ 100000) (hn : ws.all isN = true)
    (q : ∀ D H2, Kp [] H H2 → H2 D = some (.lst ((ws.map intOf).map V.int)) → Q (.ref D) H2) : tLc (iList K te) (gName j) tYes (tCB rdIntS (tCons (tVar j) tNil)) [j] σ H Q := by
  refine hv _ fun a H1 k1 s1 => ?_
  show tLc (iList K (tC (.ref a))) (gName j) tYes (tCB rdIntS (tCons (tVar j) tNil)) [j] σ H1 Q
  refine lcL (xs := ws.map V.str) (fun _ => true) (fun v => match v with | .str y => .int (intOf y) | _ => .non) (fun R q => q) s1 (by simp; omega) (fun x H1 _ _ R q => q _ (Kp.refl [] _)) (fun x H1 hm _ _ R q => ?_) fun D2 H3 hD k3 a => ?_
  · obtain ⟨y, hy, rfl⟩ := List.mem_map.mp hm
    have h1 := isN_int (List.all_eq_true.mp hn y hy)
    have h7 := isN_digits (List.all_eq_true.mp hn y hy)
    exact o_cb (o_cons ⟨V.str y, by rw [List.getElem?_set_self (by simpa using hj)], o_nil ⟨y, intOf y, rfl, h1.1, by omega, q _ (Kp.refl [] _)⟩⟩)
  · rw [filt_true, List.map_map] at a
    exact q D2 H3 (k1.trans k3) (by rw [a, List.map_map]; rfl)
theorem for_prs {H : Hp} {D : Ends} {tb : TS} {s0 s1 s2 s3 a0 b0 c : Option V} (ps : List (Str × Int)) (hl : ps.length ≤ 1000) (Co : Str × Int → Prop)
    (body : ∀ q ∈ ps, ∀ H1, Kp [] H H1 → ∀ N : L2.St → Hp → Prop, (Co q → ∀ H2, Kp [] H1 H2 → N [s0, s1, s2, s3, some (.str q.1), some (.int q.2), c] H2) → tb { D with nx := N, ct := N, bk := D.nx } [s0, s1, s2, s3, some (.str q.1), some (.int q.2), c] H1)
    (hd : ∀ a b H1, Kp [] H H1 → (∀ q ∈ ps, Co q) → D.nx [s0, s1, s2, s3, a, b, c] H1) :
    tFor (iList K (tLst (prA ps))) (gTup K 2 (gCons (gName 4) (gCons (gName 5) gNil))) tb D [s0, s1, s2, s3, a0, b0, c] H := by
  unfold tFor iList
  refine o_pairs ps hl fun p vs H' k hp pr hpn => ⟨p, rfl, ⟨vs, SqL.of hp⟩, ?_⟩
  refine for_list (xs := vs) (fun i σ' H1 => ∃ a b, σ' = [s0, s1, s2, s3, a, b, c] ∧ Kp [] H' H1 ∧ ∀ q ∈ ps.take i, Co q) ⟨a0, b0, rfl, Kp.refl [] _, by simp⟩ (fun i σ' H1 _ ⟨a, b, _, k1, _⟩ => k1.sqL (by simp) (SqL.of hp)) (fun i v σ' H1 hi ⟨a, b, e, k1, co⟩ => ?_) fun σ' H1 ⟨a, b, e, k1, co⟩ => ?_
  · subst e
    obtain ⟨q, t, hq, rfl, ht⟩ := pr.get hi
    refine ⟨t, _, rfl, SqT.of (k1 _ _ ht (by simp)), rfl, _, _, rfl, _, _, rfl, rfl, ?_⟩
    refine body q (List.mem_of_getElem? hq) H1 (k.trans k1) _ fun hc H2 k2 => ⟨_, _, rfl, k1.trans k2, fun q' hq' => ?_⟩
    rw [take_more hq] at hq'
    rcases List.mem_append.mp hq' with h | h
    · exact co q' h
    · rw [List.mem_singleton.mp h]; exact hc
  · subst e
    refine hd a b H1 (k.trans k1) fun q hq => co q ?_
    rw [pr.len, List.take_of_length_le (Nat.le_refl _)]
    exact hq
theorem nums_at : ∀ q ∈ nums, nums.lookup q.1 = some q.2 := by decide +kernel
theorem kinds_at : ∀ q ∈ kinds, kinds.lookup q.1 = some q.2 ∧ nums.lookup q.1 = none := by decide +kernel
theorem look_mem {l : List (Str × Int)} {f : Str} {m : Int} (h : l.lookup f = some m) : (f, m) ∈ l := by
  induction l with
  | nil => simp at h
  | cons a r ih =>
    obtain ⟨g, n⟩ := a
    rw [List.lookup_cons] at h
    by_cases e : f = g
    · subst e; simp at h; subst h; simp
    · have e' : (f == g) = false := by simpa using e
      rw [e'] at h
      exact List.mem_cons_of_mem _ (ih h)
theorem disj : ∀ q ∈ nums, ¬ (q.1 = "read" ∨ q.1 = "bar") ∧ ¬ (q.1 = "undo" ∨ q.1 = "log" ∨ q.1 = "levels" ∨ q.1 = "steady" ∨ q.1 = "elements" ∨ q.1 = "bound") ∧ ¬ (q.1 = "begin" ∨ q.1 = "add") := by decide +kernel
theorem pure_law_due (vs : List V) (H : Hp) (Q : VK) (E : XK) (h : sp_law_due K vs H Q E) : t_law_due K ca (fin Q) (start ["line", "words", "first", "rest", "word", "many", "one"] vs) H := by
  obtain ⟨x, rfl, hl, k⟩ := h
  unfold t_law_due
  walk_at "rd"
  refine ⟨⟨_, rfl⟩, ?_⟩
  walk_at "rd"
  refine ⟨x, " ", rfl, rfl, by decide +kernel, sz (by omega), fun p hp => ?_⟩
  obtain ⟨f, r, es⟩ : ∃ f r, Txt.split x " " = f :: r := by
    cases e : Txt.split x " " with
    | nil => exact absurd e (split_ne x)
    | cons f r => exact ⟨f, r, rfl⟩
  rw [es]
  obtain ⟨hb1, hb2⟩ := split_bounds es
  have kp1 := kp_new (o := .lst ((f :: r).map V.str)) hp
  have hpL : SqL K (upd H p (.lst ((f :: r).map V.str))) p ((f :: r).map V.str) := SqL.of g_same
  generalize upd H p _ = H1 at *
  walk_at "rd"
  refine r_slL hpL fun q hq => ?_
  rw [strs_tail]
  have kp2 := kp1.new (o := .lst (r.map V.str)) hq
  have hpL := (kp_new (o := .lst (r.map V.str)) hq).sqL (by simp) hpL
  have hqL : SqL K (upd H1 q (.lst (r.map V.str))) q (r.map V.str) := SqL.of g_same
  generalize upd H1 q _ = H2 at *
  walk_at "rd"
  refine if_b (fun h0 => ?_) (fun h0 => ?_)
  · have e0 : x = "" := by have := of_decide_eq_true h0; exact V.str.inj this
    walk_at "rd"
    refine ⟨sz (by simp), fun t ht => k _ _ (kp2.new ht) ?_⟩
    unfold parse
    rw [if_pos e0]
    exact .tup (SqT.of g_same) .nil
  · have e0 : x ≠ "" := by have := of_decide_eq_false h0; exact fun z => this (by rw [z])
    have pe := parse_ne e0 es
    have done : ∀ v H3, Kp [] H2 H3 → Dp K H3 v (cmdOf f r) → Q v H3 := fun v H3 k3 d => k _ _ (kp2.trans k3) (by rw [pe]; exact d)
    refine o_next ?_
    dsimp only
    refine o_seq ?_
    refine ifs_next (Cond := (f = "read" ∨ f = "bar") ∧ r ≠ []) (fun H3 k3 n1 => ?_) (fun N hN => o_and ?_)
    case refine_2 =>
      refine in_words ["read", "bar"] (fun R r => ⟨_, rfl, r⟩) (by simp) fun H3 k3 => ?_
      have hq3 := k3.sqL (by simp) hqL
      refine if_b (fun h1 => ?_) (fun h1 => ?_)
      · have h1' : f = "read" ∨ f = "bar" := by simpa using h1
        walk_at "rd"
        refine if_b (fun h2 => ?_) (fun h2 => ?_)
        · have hr : r ≠ [] := by
            intro z
            rw [z] at h2
            simp at h2
          walk_at "rd"
          refine ⟨⟨_, rfl⟩, ?_⟩
          walk_at "rd"
          refine ⟨" ", q, r, rfl, rfl, .inl hq3, ?_, ?_⟩
          · have e := join_len r hr
            have e2 := split_len x
            rw [es] at e2
            simp only [List.map_cons, List.sum_cons, List.length_cons] at e2
            have e3 : (" " : Str).length = 1 := by rfl
            have e4 : (r.map (·.length)).sum = (r.map Str.length).sum := rfl
            rw [e3, e4]
            omega
          · walk_at "rd"
            refine ⟨sz (by simp), fun t ht => done _ _ (k3.new ht) ?_⟩
            unfold cmdOf
            rw [if_pos ⟨h1', hr⟩]
            exact .tup (SqT.of g_same) (.cons (.str f) (.cons (.str _) .nil))
        · refine hN _ k3 fun z => ?_
          have := of_decide_eq_false h2
          rw [List.length_map] at this
          exact z.2 (List.eq_nil_of_length_eq_zero (by omega))
      · refine iteF (hN _ k3 fun z => ?_)
        have : decide (f ∈ ([("read" : Str), "bar"] : List Str)) = true := by simpa using z.1
        rw [this] at h1; cases h1
    have hpL := k3.sqL (by simp) hpL
    have hqL := k3.sqL (by simp) hqL
    dsimp only
    refine o_seq ?_
    refine ifs_next (Cond := (f = "undo" ∨ f = "log" ∨ f = "levels" ∨ f = "steady" ∨ f = "elements" ∨ f = "bound") ∧ r = []) (fun H4 k4 n2 => ?_) (fun N hN => o_and ?_)
    case refine_2 =>
      refine in_words ["undo", "log", "levels", "steady", "elements", "bound"] (fun R r => ⟨_, rfl, r⟩) (by simp) fun H4 k4 => ?_
      have hq4 := k4.sqL (by simp) hqL
      refine if_b (fun h1 => ?_) (fun h1 => ?_)
      · have h1' : f = "undo" ∨ f = "log" ∨ f = "levels" ∨ f = "steady" ∨ f = "elements" ∨ f = "bound" := by simpa using h1
        walk_at "rd"
        refine if_b (fun h2 => ?_) (fun h2 => ?_)
        · have hr : r = [] := by
            have := V.int.inj (of_decide_eq_true h2)
            rw [List.length_map] at this
            exact List.eq_nil_of_length_eq_zero (by omega)
          walk_at "rd"
          refine ⟨sz (by simp), fun t ht => done _ _ ((k3.trans k4).new ht) ?_⟩
          unfold cmdOf
          rw [if_neg n1, if_pos ⟨h1', hr⟩]
          exact .tup (SqT.of g_same) (.cons (.str f) .nil)
        · refine hN _ k4 fun z => ?_
          rw [z.2] at h2
          simp at h2
      · refine iteF (hN _ k4 fun z => ?_)
        have : decide (f ∈ (["undo", "log", "levels", "steady", "elements", "bound"] : List Str)) = true := by simpa using z.1
        rw [this] at h1; cases h1
    have hpL := k4.sqL (by simp) hpL
    have hqL := k4.sqL (by simp) hqL
    have k4 := k3.trans k4
    dsimp only
    refine o_seq ?_
    refine ifs_next (Cond := (f = "begin" ∨ f = "add") ∧ r.all isL = true) (fun H5 k5 n3 => ?_) (fun N hN => o_and ?_)
    case refine_2 =>
      refine in_words ["begin", "add"] (fun R r => ⟨_, rfl, r⟩) (by simp) fun H5 k5 => ?_
      have hq5 := k5.sqL (by simp) hqL
      refine if_b (fun h1 => ?_) (fun h1 => ?_)
      · have h1' : f = "begin" ∨ f = "add" := by simpa using h1
        refine o_B (all_words (f := isL) rfl (by simp [L2.start]) hq5 (by omega) (fun y hy H3 Q3 E3 q3 => ⟨y, rfl, by have := hb2 y (by simp [hy]); omega, q3⟩) fun H6 k6 => o_bl ?_)
        refine if_b (fun ha => ?_) (fun ha => ?_)
        · walk_at "rd"
          refine r_tupL (k6.sqL (by simp) (k5.sqL (by simp) hpL)) fun t ht => ?_
          refine done _ _ (((k4.trans k5).trans k6).new ht) ?_
          unfold cmdOf
          rw [if_neg n1, if_neg n2, if_pos ⟨h1', ha⟩]
          exact .tup (SqT.of g_same) (dps_strs (f :: r))
        · exact hN _ (k5.trans k6) fun z => by rw [z.2] at ha; cases ha
      · refine iteF (hN _ k5 fun z => ?_)
        have : decide (f ∈ (["begin", "add"] : List Str)) = true := by simpa using z.1
        rw [this] at h1; cases h1
    have hpL := k5.sqL (by simp) hpL
    have hqL := k5.sqL (by simp) hqL
    have k5 := k4.trans k5
    dsimp only
    refine o_seq ?_
    refine for_prs nums (by decide) (fun q => f = q.1 → nCmd f q.2 r = .none) (fun z hz H6 k6 N hN => ?_) (fun a b H6 k6 co1 => ?_)
    · have hq6 := k6.sqL (by simp) hqL
      refine ifs_next (Cond := f = z.1 ∧ (r.length : Int) = z.2 ∧ r.all isN = true) (fun H7 k7 nc => hN (fun e => ?_) H7 k7) (fun M hM => ?_)
      · unfold nCmd
        rw [if_neg fun y => nc ⟨e, y⟩]
      · walk_at "rd"
        refine if_b (fun h1 => ?_) (fun h1 => ?_)
        · have ef : f = z.1 := V.str.inj (of_decide_eq_true h1)
          walk_at "rd"
          refine if_b (fun h2 => ?_) (fun h2 => ?_)
          · have el : (r.length : Int) = z.2 := by have := V.int.inj (of_decide_eq_true h2); rw [List.length_map] at this; exact this
            refine o_B (all_words (f := isN) rfl (by simp) hq6 (by omega) (fun y hy H3 Q3 E3 q3 => ⟨y, rfl, by have := hb2 y (by simp [hy]); omega, q3⟩) fun H7 k7 => o_bl ?_)
            refine if_b (fun ha => ?_) (fun ha => ?_)
            · walk_at "rd"
              refine ⟨sz (by simp), fun l hln => ?_⟩
              have hq7 := (kp_new (o := .lst [.str f]) hln).sqL (by simp) (k7.sqL (by simp) hq6)
              refine int_words rfl (by simp) hq7 (by omega) ha fun D2 H8 hD2 k8 a8 => ?_
              refine r_cat (xs := [.str f]) (k8 _ _ g_same (by simp)) a8 (sz (by simp; omega)) fun t ht => ?_
              walk_at "rd"
              refine r_tupL (SqL.of g_same) fun t2 ht2 => ?_
              refine done _ _ (((((k5.trans k6).trans k7).new hln).trans k8).new ht |>.new ht2) ?_
              have hz' := nums_at z hz
              obtain ⟨d1, d2, d3⟩ := disj z hz
              rw [← ef] at hz' d1 d2 d3
              rw [cmdOf_num n1 n2 n3 hz']
              unfold nCmd
              rw [if_pos ⟨el, ha⟩]
              exact dp_cmd1 (by rw [List.append_nil]; exact g_same)
            · exact hM _ k7 fun y => by rw [y.2.2] at ha; cases ha
          · refine iteF (hM _ (Kp.refl [] _) fun y => of_decide_eq_false h2 ?_)
            rw [List.length_map, y.2.1]
        · refine iteF (hM _ (Kp.refl [] _) fun y => of_decide_eq_false h1 ?_)
          rw [y.1]
    have hqL := k6.sqL (by simp) hqL
    have k6 := k5.trans k6
    have no1 : ∀ m, nums.lookup f = some m → nCmd f m r = .none := fun m e => co1 (f, m) (look_mem e) rfl
    dsimp only
    refine o_seq ?_
    refine for_prs kinds (by decide) (fun q => f = q.1 → kCmd f q.2 r = .none) (fun z hz H7 k7 N hN => ?_) (fun a b H7 k7 co2 => ?_)
    · have hq7 := k7.sqL (by simp) hqL
      refine ifs_next (Cond := f = z.1 ∧ ∃ g s, r = g :: s ∧ (s.length : Int) = z.2 ∧ (g = "good" ∨ g = "forward") ∧ s.all isN = true) (fun H8 k8 nc => hN (fun e => ?_) H8 k8) (fun M hM => ?_)
      · cases r with
        | nil => rfl
        | cons g s =>
          show (if _ then _ else _) = _
          rw [if_neg fun y => nc ⟨e, g, s, rfl, y.2.1, y.1, y.2.2⟩]
      · walk_at "rd"
        refine if_b (fun h1 => ?_) (fun h1 => ?_)
        · have ef : f = z.1 := V.str.inj (of_decide_eq_true h1)
          walk_at "rd"
          refine if_b (fun h2 => ?_) (fun h2 => ?_)
          · have el : (r.length : Int) = z.2 + 1 := by have := V.int.inj (of_decide_eq_true h2); rw [List.length_map] at this; exact this
            have hz0 : 0 ≤ z.2 := by
              have : ∀ q ∈ kinds, 0 ≤ q.2 := by decide +kernel
              exact this z hz
            obtain ⟨g, s, rfl⟩ : ∃ g s, r = g :: s := by
              cases r with
              | nil => simp at el; omega
              | cons g s => exact ⟨g, s, rfl⟩
            have es' : (s.length : Int) = z.2 := by simp at el; omega
            have hs1 : s.length ≤ 100000 := by simp at hb1; omega
            have sl : ∀ {σ : L2.St} {H9 : Hp} {R : VK}, σ[3]? = some (some (.ref q)) → SqL K H9 q ((g :: s).map V.str) → (∀ a H1, Kp [] H9 H1 → SqL K H1 a (s.map V.str) → R (.ref a) H1) → tSl (rSlL K) (tVar 3) (tPart (tC (.int 1))) tNoPart σ H9 R := fun {σ H9 R} hv h9 q9 => by
              refine o_sl ⟨_, hv, o_part (o_c (o_int (o_nop (r_slL h9 fun l hl => ?_))))⟩
              rw [strs_tail]
              exact q9 l _ (kp_new hl) (SqL.of g_same)
            refine o_and ?_
            refine in_words (f := g) ["good", "forward"] (fun R r => ?_) (by simp) fun H8 k8 => ?_
            · exact o_op ⟨_, rfl, o_c (r_ixL hq7 atZ0 r)⟩
            · refine if_b (fun h3 => ?_) (fun h3 => ?_)
              · have hg : g = "good" ∨ g = "forward" := by simpa using h3
                have hq8 := k8.sqL (by simp) hq7
                refine o_B (all_wordsN (f := isN) (fun R r => sl rfl hq8 r) (by simp) hs1 (fun y hy H3 Q3 E3 q3 => ⟨y, rfl, by have := hb2 y (by simp [hy]); omega, q3⟩) fun H9 k9 => o_bl ?_)
                have hq9 := k9.sqL (by simp) hq8
                refine if_b (fun ha => ?_) (fun ha => ?_)
                · walk_at "rd"
                  refine ⟨sz (by simp), fun l hln => ?_⟩
                  have hq10 := (kp_new (o := .lst [.str f, .str g]) hln).sqL (by simp) hq9
                  refine int_wordsN (fun R r => sl rfl hq10 r) (by simp) hs1 ha fun D2 H10 k10 a10 => ?_
                  refine r_cat (xs := [.str f, .str g]) (k10 _ _ g_same (by simp)) a10 (sz (by simp; omega)) fun t ht => ?_
                  walk_at "rd"
                  refine r_tupL (SqL.of g_same) fun t2 ht2 => ?_
                  refine done _ _ ((((((k6.trans k7).trans k8).trans k9).new hln).trans k10).new ht |>.new ht2) ?_
                  obtain ⟨hz1, hz2⟩ := kinds_at z hz
                  rw [← ef] at hz1 hz2
                  rw [cmdOf_kind n1 n2 n3 hz2 hz1]
                  show Dp K _ _ (if _ then _ else _)
                  rw [if_pos ⟨hg, es', ha⟩]
                  exact dp_cmd2 (by rw [List.append_nil]; exact g_same)
                · refine hM _ (k8.trans k9) fun y => ?_
                  obtain ⟨_, g', s', e, _, _, y2⟩ := y
                  injection e with e1 e2
                  rw [e2, y2] at ha; cases ha
              · refine iteF (hM _ k8 fun y => ?_)
                obtain ⟨_, g', s', e, _, y1, _⟩ := y
                injection e with e1 e2
                have : decide (g ∈ (["good", "forward"] : List Str)) = true := by rw [e1]; simpa using y1
                rw [this] at h3; cases h3
          · refine iteF (hM _ (Kp.refl [] _) fun y => of_decide_eq_false h2 ?_)
            obtain ⟨_, g', s', e, y1, _⟩ := y
            rw [List.length_map, e, ← y1]
            simp
        · refine iteF (hM _ (Kp.refl [] _) fun y => of_decide_eq_false h1 ?_)
          rw [y.1]
    have k7 := k6.trans k7
    have no2 : ∀ m, kinds.lookup f = some m → kCmd f m r = .none := fun m e => co2 (f, m) (look_mem e) rfl
    dsimp only
    refine o_ret (o_c ?_)
    refine done _ _ k7 ?_
    have e : cmdOf f r = .none := by
      cases e1 : nums.lookup f with
      | some m => rw [cmdOf_num n1 n2 n3 e1]; exact no1 m e1
      | none =>
        cases e2 : kinds.lookup f with
        | some m => rw [cmdOf_kind n1 n2 n3 e1 e2]; exact no2 m e2
        | none => exact cmdOf_none n1 n2 n3 e1 e2
    rw [e]
    exact .non
end
end K80
namespace K80
open PySem PySem.Spec PyProof.Rows L2 Sf
section
variable {K : PySem.W.Frag} {ca : Nat → Addr}
theorem pure_law_same (vs : List V) (H : Hp) (Q : VK) (E : XK) (h : sp_law_same K vs H Q E) : t_law_same K ca (fin Q) (start ["told", "due"] vs) H := by
  obtain ⟨u, v, d, rfl, du, dv, h1, h2, h3, h4, k⟩ := h
  have g1 : (PyData.list [d]).showable = true := by simp [PyData.showable, PyData.showableAll, h1]
  have g2 : (PyData.list [d]).hasDict = false := by simp [PyData.hasDict, PyData.hasDictAll, h2]
  have g3 : (PyData.list [d]).depth ≤ 60 := by simp [PyData.depth, PyData.depthAll]; omega
  unfold t_law_same
  walk_at "rd"
  refine ⟨sz (by simp), fun l hl => ?_⟩
  walk_at "rd"
  have k1 := kp_new (o := .lst [u]) hl
  refine ⟨l, _, rfl, .lst (SqL.of g_same) (.cons (k1.dp0 du) .nil), g1, g2, g3, h4, ?_⟩
  walk_at "rd"
  refine ⟨sz (by simp), fun l2 hl2 => ?_⟩
  walk_at "rd"
  have k2 := kp_new (o := .lst [v]) hl2
  refine ⟨l2, _, rfl, .lst (SqL.of g_same) (.cons ((k1.trans k2).dp0 dv) .nil), g1, g2, g3, h4, ?_⟩
  walk_at "rd"
  rw [decide_eq_true rfl]
  exact k _ (k1.trans k2)
theorem pure_law_next (vs : List V) (H : Hp) (Q : VK) (E : XK) (h : sp_law_next K vs H Q E) : t_law_next K ca (fin Q) (start ["state", "many", "turn"] vs) H := by
  obtain ⟨st, nu, m, n, rfl, hm, ⟨j, ns, hj, hs, hnu, hne, hn0, hln, hns⟩, hb, k⟩ := h
  unfold bigN at hb
  unfold t_law_next
  walk_at "rd"
  refine r_setL hs (n := 1) rfl ?_
  have e1 : [V.ref nu, V.int (j : Int)].set 1 (V.int ((j : Int) + 1)) = [V.ref nu, V.int (((j + 1 : Nat)) : Int)] := by
    simp
  rw [e1]
  have kp : Kp [st] H (upd H st (.lst [V.ref nu, V.int (((j + 1 : Nat)) : Int)])) := (Kp.refl _ _).mut (by simp)
  have hs' : (upd H st (.lst [V.ref nu, V.int (((j + 1 : Nat)) : Int)])) st = some (.lst [V.ref nu, V.int (((j + 1 : Nat)) : Int)]) := g_same
  have hnu' : (upd H st (.lst [V.ref nu, V.int (((j + 1 : Nat)) : Int)])) nu = some (.lst (ns.map V.int)) := g_mut hne hnu
  generalize upd H st (.lst [V.ref nu, V.int (((j + 1 : Nat)) : Int)]) = H1 at *
  have hlen : 0 < ns.length := List.length_pos_iff.mpr hn0
  walk_at "rd"
  rw [List.length_map]
  refine r_div ⟨by omega, by omega⟩ ?_
  walk_at "rd"
  rw [List.length_map]
  refine r_mod (by omega) ?_
  have hmod0 : 0 ≤ ((j + 1 : Nat) : Int) % (ns.length : Int) := Int.emod_nonneg _ (by omega)
  have hmod1 : ((j + 1 : Nat) : Int) % (ns.length : Int) < (ns.length : Int) := Int.emod_lt_of_pos _ (by omega)
  have hlt : (((j + 1 : Nat) : Int) % (ns.length : Int)).toNat < ns.length := by omega
  refine r_ixL (SqL.of hnu') (at_int hmod0 (z := V.int ns[(((j + 1 : Nat) : Int) % (ns.length : Int)).toNat]) ?_) ?_
  · rw [List.getElem?_map, List.getElem?_eq_getElem hlt]; rfl
  walk_at "rd"
  refine r_mul (.inr ⟨by decide, by decide⟩) ?_
  walk_at "rd"
  refine r_mul (.inl ⟨by omega, by omega⟩) ?_
  walk_at "rd"
  refine r_mul (.inr ⟨by decide, by decide⟩) ?_
  walk_at "rd"
  exact k _ H1 (Int.emod_nonneg _ (by omega)) (Int.emod_lt_of_pos _ hm) kp ⟨j + 1, ns, by omega, hs', hnu', hne, hn0, hln, hns⟩
/-- the numbers so far, in the list at p; the cells stand at q -/
def StrI (H0 : Hp) (p q : Addr) (cs : List V) (B : Nat) (H' : Hp) : Prop := ∃ xs : List Int, Kp [] H0 H' ∧ H' p = some (.lst (xs.map V.int)) ∧ xs.length ≤ B ∧ (∀ x ∈ xs, 0 ≤ x ∧ x < 1009) ∧ q ≠ p ∧ H' q = some (.lst cs)
section
variable {H0 H' : Hp} {p q : Addr} {cs : List V} {B C : Nat} {z : Int}
theorem StrI.le (s : StrI H0 p q cs B H') (h : B ≤ C) : StrI H0 p q cs C H' := by
  obtain ⟨xs, a, b, c, d⟩ := s
  exact ⟨xs, a, b, Nat.le_trans c h, d⟩
theorem StrI.app (hp : H0 p = none) (s : StrI H0 p q cs B H') (h : 0 ≤ z ∧ z < 1009) (hB : B ≤ 100000) {R : VK} (k : ∀ H2, StrI H0 p q cs (B + 1) H2 → R .non H2) : rAppend (.ref p) [.int z] H' R := by
  obtain ⟨xs, a, b, c, d, e, f⟩ := s
  refine r_app b (szl (by simp; omega)) (k _ ⟨xs ++ [z], a.own hp, by rw [upd_same]; simp, by simp; omega, fun x hx => ?_, e, g_mut e f⟩)
  rcases List.mem_append.mp hx with hx | hx
  · exact d x hx
  · rw [List.mem_singleton.mp hx]; exact h
theorem StrI.ty (s : StrI H0 p q cs B H') : tyV K "list" (.ref p) H' := by
  obtain ⟨xs, a, b, c, d⟩ := s
  exact .inl ⟨rfl, _, SqL.of b⟩
end
theorem mod_in (z : Int) : 0 ≤ z % 1009 ∧ z % 1009 < 1009 := ⟨Int.emod_nonneg _ (by decide), Int.emod_lt_of_pos _ (by decide)⟩
theorem pure_law_stream (vs : List V) (H : Hp) (Q : VK) (E : XK) (h : sp_law_stream K vs H Q E) : t_law_stream K ca (fin Q) (start ["script", "numbers", "cell", "rest", "k", "mixed"] vs) H := by
  obtain ⟨a, ns, rfl, ha, hl, k⟩ := h
  unfold t_law_stream
  walk_at "rd"
  refine ⟨sz (by simp), fun p hp => ?_⟩
  have ha1 := (kp_new (o := .lst []) hp).sqL (by simp) ha
  have kp1 := kp_new (o := .lst []) hp
  have hp1 : (upd H p (.lst [])) p = some (.lst []) := g_same
  generalize upd H p (.lst []) = H1 at *
  walk_at "rd"
  have lp : ∀ (D : Ends), (∀ σ H2 q, StrI H p q (ns.map V.int) 4000 H2 → (∃ c2 c3 c4 c5, σ = [some (.ref a), some (.ref p), c2, c3, c4, c5]) → D.nx σ H2) → ∀ c2 c3 c4 c5, tFor (iList K (tSl (rSlL K) (tVar 0) tNoPart (tPart (tC (.int 63))))) (gName 2)
    (tSeq (tAsg (tCB rdAbs (tCons (tCB rdInt (tCons (tVar 2) tNil)) tNil)) (gName 3))
    (tIfS (tTest (tOp rdGe (tVar 3) (tOp rdPow (tC (.int 10)) (tC (.int 18))))) (tFor (iRng1 (tCons (tC (.int 60)) tNil)) (gName 4)
    (tSeq (tDrop (tBM K "list" rAppend (tVar 1) (tCons (tOp rdMod (tCB rdInt (tCons (tVar 3) tNil)) (tC (.int 1009))) tNil)))
    (tSeq (tAsg (tOp rdDiv (tVar 3) (tC (.int 1009))) (gName 3))
    (tIfS (tTest (tOp rEq (tVar 3) (tC (.int 0)))) tBreak tNext)))) (tSeq (tAsg (tOp rdMod (tCB rdInt (tCons (tVar 3) tNil)) (tC (.int 2147483647))) (gName 5))
    (tFor (iRng1 (tCons (tC (.int 10)) tNil)) (gName 4)
    (tSeq (tAsg (tOp rdMod (tCB rdInt (tCons (tOp rdAdd (tOp rdAdd (tOp rdMul (tVar 5) (tC (.int 48271))) (tOp rdMul (tC (.int 7)) (tVar 4))) (tC (.int 11))) tNil)) (tC (.int 2147483647))) (gName 5))
    (tDrop (tBM K "list" rAppend (tVar 1) (tCons (tOp rdMod (tOp rdMod (tCB rdInt (tCons (tOp rdAdd (tOp rdMul (tVar 5) (tC (.int 69621))) (tVar 4)) tNil)) (tC (.int 2147483629))) (tC (.int 1009))) tNil)))))))) D [some (.ref a), some (.ref p), c2, c3, c4, c5] H1 := by
    intro D hD c2 c3 c4 c5
    refine o_sl ⟨_, rfl, o_nop (o_part (o_c (o_int ?_)))⟩
    refine r_slL ha1 fun q hq => ⟨q, rfl, ⟨_, SqL.of g_same⟩, ?_⟩
    have ec : cutV (ns.map V.int) none (some 63) = ns.map V.int := by
      show cutV (ns.map V.int) none (some ((63 : Nat) : Int)) = _
      rw [cut_to (ns.map V.int) 63, List.take_of_length_le (by simp; omega)]
    rw [ec]
    have s2 : StrI H p q (ns.map V.int) 0 (upd H1 q (.lst (ns.map V.int))) := ⟨[], kp1.new hq, g_new hq hp1, by simp, by simp, Ne.symm (ne_of_none hp1 hq), g_same⟩
    generalize upd H1 q (.lst (ns.map V.int)) = H2 at *
    refine for_list (xs := ns.map V.int) (fun i σ' H' => (∃ c2 c3 c4 c5, σ' = [some (.ref a), some (.ref p), c2, c3, c4, c5]) ∧ StrI H p q (ns.map V.int) (60 * i) H') ⟨⟨_, _, _, _, rfl⟩, s2⟩ (fun i σ' H' _ ⟨_, s⟩ => ?_) (fun i y σ' H' hi ⟨⟨c2, c3, c4, c5, e⟩, s⟩ => ?_) fun σ' H' ⟨e, s⟩ => hD _ _ q (s.le (by simp; omega)) e
    · obtain ⟨xs, _, _, _, _, _, f⟩ := s
      exact SqL.of f
    · subst e
      have hi63 : i < 63 := by have := lt_get hi; simp at this; omega
      obtain ⟨z, hz, rfl⟩ : ∃ z, ns[i]? = some z ∧ y = V.int z := by
        rw [List.getElem?_map] at hi
        cases e : ns[i]? with
        | none => rw [e] at hi; cases hi
        | some z => rw [e] at hi; exact ⟨z, rfl, (Option.some.inj hi).symm⟩
      walk_at "rd"
      refine ⟨z, rfl, ?_⟩
      walk_at "rd"
      refine r_pow ⟨by decide, by decide, by decide⟩ ?_
      walk_at "rd"
      generalize (if z < 0 then -z else z) = rest
      refine if_b (fun hb => ?_) (fun hb => ?_)
      · refine ⟨60, rfl, by decide, by decide, ?_⟩
        refine for_range (lo := 0) (n := 60) (fun m σ2 H3 => (∃ c2 c4 c5 rest, σ2 = [some (.ref a), some (.ref p), c2, some (.int rest), c4, c5]) ∧ StrI H p q (ns.map V.int) (60 * i + m) H3) ⟨⟨_, _, _, _, rfl⟩, s⟩ (fun m σ2 H3 hm ⟨⟨c2, c4, c5, rest, e⟩, s3⟩ => ?_) fun σ2 H3 ⟨⟨c2, c4, c5, rest, e⟩, s3⟩ => ⟨⟨_, _, _, _, e⟩, s3.le (by omega)⟩
        subst e
        walk_at "rd"
        refine ⟨s3.ty, ?_⟩
        walk_at "rd"
        refine s3.app hp (mod_in _) (by omega) fun H4 s4 => ?_
        walk_at "rd"
        refine r_div ⟨by decide, by decide⟩ ?_
        walk_at "rd"
        refine if_b (fun h0 => ?_) (fun h0 => ?_)
        · exact o_brk ⟨⟨_, _, _, _, rfl⟩, s4.le (by omega)⟩
        · exact o_next ⟨⟨_, _, _, _, rfl⟩, s4⟩
      · walk_at "rd"
        refine ⟨10, rfl, by decide, by decide, ?_⟩
        refine for_range (lo := 0) (n := 10) (fun m σ2 H3 => (∃ c2 c3 c4 mx, σ2 = [some (.ref a), some (.ref p), c2, c3, c4, some (.int mx)]) ∧ StrI H p q (ns.map V.int) (60 * i + m) H3) ⟨⟨_, _, _, _, rfl⟩, s⟩ (fun m σ2 H3 hm ⟨⟨c2, c3, c4, mx, e⟩, s3⟩ => ?_) fun σ2 H3 ⟨⟨c2, c3, c4, mx, e⟩, s3⟩ => ⟨⟨_, _, _, _, e⟩, s3.le (by omega)⟩
        subst e
        walk_at "rd"
        refine r_mul (.inr ⟨by decide, by decide⟩) ?_
        walk_at "rd"
        refine r_mul (.inl ⟨by decide, by decide⟩) ?_
        walk_at "rd"
        refine ⟨s3.ty, ?_⟩
        walk_at "rd"
        refine r_mul (.inr ⟨by decide, by decide⟩) ?_
        walk_at "rd"
        refine s3.app hp (mod_in _) (by omega) fun H4 s4 => ?_
        exact ⟨⟨_, _, _, _, rfl⟩, s4⟩
  refine lp _ (fun σ H2 q s ⟨c2, c3, c4, c5, e⟩ => ?_) _ _ _ _
  subst e
  have hs : ∃ xs, SqL K H2 p xs := by
    obtain ⟨xs, _, b, _⟩ := s
    exact ⟨_, SqL.of b⟩
  obtain ⟨xs, k2, b, c, d, e, f⟩ := s
  have hbL : SqL K H2 p (xs.map V.int) := SqL.of b
  dsimp only
  walk_at "rd"
  rw [List.length_map]
  refine if_b (fun h0 => ?_) (fun h0 => ?_)
  · walk_at "rd"
    refine ⟨.inl ⟨rfl, _, hbL⟩, ?_⟩
    walk_at "rd"
    refine r_app b (szl (by simp; omega)) ?_
    walk_at "rd"
    refine k p (xs ++ [0]) _ (k2.own hp) hp (by rw [upd_same]; simp) (by simp) (by simp; omega) fun x hx => ?_
    rcases List.mem_append.mp hx with hx | hx
    · exact d x hx
    · rw [List.mem_singleton.mp hx]; decide
  · walk_at "rd"
    refine k p xs _ k2 hp b (fun z => ?_) (by omega) d
    rw [z] at h0
    simp at h0
end
end K80
namespace K80
open PySem PySem.Spec PyProof.Rows L2 Sf
section
variable {K : PySem.W.Frag} {ca : Nat → Addr} {σ : L2.St} {H : Hp} {st nu : Addr} {n i : Nat} {m : Int} {te : TE} {Q : VK}
/-- _law_next(state, m) -/
theorem draw (hv : σ[i]? = some (some (.ref st))) (hs : StB H st nu n) (hb : n < bigN) (hm : 0 < m) (ht : ∀ R : VK, R (.int m) H → te σ H R)
    (q : ∀ r H', 0 ≤ r → r < m → Kp [st] H H' → StB H' st nu (n + 1) → Q (.int r) H') : rCallG (sp_law_next K) E0 (tCons (tVar i) (tCons te tNil)) σ H Q :=
  o_call (o_cons ⟨_, hv, o_cons (ht _ (o_nil ⟨st, nu, m, n, rfl, hm, hs, hb, q⟩))⟩)
theorem next_use {E : XK} (hs : StB H st nu n) (hm : 0 < m) (hb : n < bigN) (q : ∀ r H', 0 ≤ r → r < m → Kp [st] H H' → StB H' st nu (n + 1) → Q (.int r) H') : sp_law_next K [.ref st, .int m] H Q E := ⟨st, nu, m, n, rfl, hm, hs, hb, q⟩
/-- [..][_law_next(state, m)], the list's items known -/
theorem draw_of {vs : List V} {tl : TE} (hl : ∀ R : VK, (∀ p H1, Kp [] H H1 → H1 p = some (.lst vs) → p ≠ st → R (.ref p) H1) → tl σ H R) (hv : σ[i]? = some (some (.ref st))) (hs : StB H st nu n) (hb : n < bigN) (hm : m = (vs.length : Int)) (h0 : 0 < vs.length)
    (q : ∀ v ∈ vs, ∀ H', Kp [st] H H' → StB H' st nu (n + 1) → Q v H') : tOp (rIxL K) tl (rCallG (sp_law_next K) E0 (tCons (tVar i) (tCons (tC (.int m)) tNil))) σ H Q := by
  refine o_op (hl _ fun p H1 k1 hp hne => draw hv (hs.kp k1) hb (by omega) (fun R r => o_c r) fun r H2 r0 r1 k2 s2 => ?_)
  have hlt : r.toNat < vs.length := by omega
  refine r_ixL (SqL.of (k2 _ _ hp (by simp [hne]))) (at_int r0 (List.getElem?_eq_getElem hlt)) ?_
  exact q _ (List.getElem_mem hlt) H2 ((k1.sub (by simp)).trans k2) s2
/-- ['..', ..][_law_next(state, m)] -/
theorem menu_of (l : List Str) (hv : σ[i]? = some (some (.ref st))) (hs : StB H st nu n) (hb : n < bigN) (hm : m = (l.length : Int)) (h0 : 0 < l.length) (hz : l.length ≤ 1000)
    (q : ∀ x ∈ l, ∀ H', Kp [st] H H' → StB H' st nu (n + 1) → Q (.str x) H') : tOp (rIxL K) (tLst (strA l)) (rCallG (sp_law_next K) E0 (tCons (tVar i) (tCons (tC (.int m)) tNil))) σ H Q := by
  refine draw_of (vs := l.map V.str) (fun R r => o_lst (strA_run l _ ⟨sz (by simp; omega), fun t ht => r t _ (kp_new ht) g_same (hs.ne ht).1⟩)) hv hs hb (by simpa using hm) (by simpa using h0) fun v hv H' k s => ?_
  obtain ⟨x, hx, rfl⟩ := List.mem_map.mp hv
  exact q x hx H' k s
theorem tl_one (c : Nat) : TL.tl (⟨#[c]⟩ : Str) = [c] := rfl
theorem pure_law_word (vs : List V) (H : Hp) (Q : VK) (E : XK) (h : sp_law_word K vs H Q E) : t_law_word K ca (fin Q) (start ["state", "taken", "word", "k"] vs) H := by
  obtain ⟨st, nu, tk, ts, n, rfl, ht, hl, hne, hs, hb, k⟩ := h
  have hb' : n + 10 < 1000000000 := hb
  unfold t_law_word
  walk_at "rd"
  unfold tFor iRng1
  walk_at "rd"
  refine next_use hs (by decide) (by unfold bigN; omega) fun r1 H1 h10 h11 k1 s1 => ?_
  walk_at "rd"
  refine ⟨sz (by simp), fun t htn => ?_⟩
  obtain ⟨ne1, ne2⟩ := s1.ne htn
  walk_at "rd"
  refine next_use (s1.new htn) (by decide) (by unfold bigN; omega) fun r2 H2 h20 h21 k2 s2 => ?_
  have h2t : H2 t = some (.lst [.int 1, .int 2, .int (1 + r1)]) := k2 _ _ g_same (by simp [ne1])
  have kA : Kp [st] H H2 := (k1.new htn).trans k2
  obtain ⟨c, hc, hc1, hc2⟩ : ∃ c : Int, atI [V.int 1, V.int 2, V.int (1 + r1)] r2 = some (.int c) ∧ 1 ≤ c ∧ c ≤ 8 := by
    have : r2 = 0 ∨ r2 = 1 ∨ r2 = 2 := by omega
    rcases this with rfl | rfl | rfl
    · exact ⟨1, atZ0, by decide, by decide⟩
    · exact ⟨2, atZ1, by decide, by decide⟩
    · exact ⟨1 + r1, atZ2, by omega, by omega⟩
  refine r_ixL (SqL.of h2t) hc (o_nil ⟨c, rfl, by omega, by omega, ?_⟩)
  refine for_range (lo := 0) (n := c.toNat) (fun m σ' H' => (∃ (w : Str) (x : Option V), σ' = [some (.ref st), some (.ref tk), some (.str w), x] ∧ w.length = m ∧ ∀ z ∈ TL.tl w, z ∈ alpha) ∧ Kp [st] H H' ∧ StB H' st nu (n + 2 + m)) ⟨⟨"", none, rfl, rfl, fun z hz => absurd hz (by show z ∉ ([] : List Nat); simp)⟩, kA, s2.le (by omega)⟩ (fun m σ' H' hm ⟨⟨w, x, e, hw, ha⟩, k3, s3⟩ => ?_) fun σ' H' ⟨⟨w, x, e, hw, ha⟩, k3, s3⟩ => ?_
  · subst e
    walk_at "rd"
    refine next_use s3 (by decide) (by unfold bigN; omega) fun r3 H3 h30 h31 k4 s4 => ?_
    obtain ⟨z, hz, hza⟩ : ∃ z, atI (Str.ofString "abyz").cps.toList r3 = some z ∧ z ∈ alpha := by
      have e : (Str.ofString "abyz").cps.toList = [97, 98, 121, 122] := by rfl
      rw [e]
      have : r3 = 0 ∨ r3 = 1 ∨ r3 = 2 ∨ r3 = 3 := by omega
      rcases this with rfl | rfl | rfl | rfl
      · exact ⟨97, atZ0, by rw [alpha_iff]; decide⟩
      · exact ⟨98, atZ1, by rw [alpha_iff]; decide⟩
      · exact ⟨121, atZ2, by rw [alpha_iff]; decide⟩
      · exact ⟨122, atZ3, by rw [alpha_iff]; decide⟩
    refine r_ixS (sz (by decide +kernel)) hz ?_
    have e1 : (⟨#[z]⟩ : Str).length = 1 := rfl
    refine r_adds (sz (by rw [e1]; omega)) ?_
    refine ⟨⟨w ++ ⟨#[z]⟩, _, rfl, ?_, fun y hy => ?_⟩, k3.trans k4, s4.le (by omega)⟩
    · rw [len_cps, TL.tl_append, List.length_append, ← len_cps, hw]; rfl
    · rw [TL.tl_append] at hy
      rcases List.mem_append.mp hy with hy | hy
      · exact ha y hy
      · rw [tl_one] at hy; rw [List.mem_singleton.mp hy]; exact hza
  · subst e
    have ht' := k3.sqL (by simp [hne]) ht
    walk_at "rd"
    refine r_inStrsL ht' ?_
    rw [if_neg Bool.false_ne_true]
    walk_at "rd"
    refine if_b (fun h1 => ?_) (fun h1 => ?_)
    · walk_at "rd"
      rw [List.length_map]
      have hlt : ts.length < (Str.ofString "abcdefghijklmnopqrstuvwxyz").cps.toList.length := by
        have e : (Str.ofString "abcdefghijklmnopqrstuvwxyz").cps.toList.length = 26 := by decide +kernel
        omega
      refine r_ixS (sz (by decide +kernel)) (at_nat (List.getElem?_eq_getElem hlt)) ?_
      have hm : (Str.ofString "abcdefghijklmnopqrstuvwxyz").cps.toList[ts.length] ∈ alpha := List.getElem_mem hlt
      generalize (Str.ofString "abcdefghijklmnopqrstuvwxyz").cps.toList[ts.length] = z at *
      have e1 : (⟨#[z]⟩ : Str).length = 1 := rfl
      have e2 : (Str.ofString "c").length = 1 := rfl
      refine r_adds (sz (by rw [e1, e2]; decide)) ?_
      refine k _ H' ?_ k3 (s3.le (by omega))
      have e3 : TL.tl (Str.ofString "c" ++ ⟨#[z]⟩) = [99, z] := by rw [TL.tl_append]; rfl
      refine ⟨by rw [len_cps, e3]; simp, by rw [len_cps, e3]; simp, fun y hy => ?_⟩
      have hy' : y ∈ TL.tl (Str.ofString "c" ++ ⟨#[z]⟩) := hy
      rw [e3] at hy'
      simp only [List.mem_cons, List.not_mem_nil, or_false] at hy'
      rcases hy' with rfl | rfl
      · rw [alpha_iff]; decide
      · exact hm
    · walk_at "rd"
      exact k w H' ⟨by omega, by omega, ha⟩ k3 (s3.le (by omega))
theorem isN_num (z : Int) (h0 : 0 ≤ z) (h1 : z < 10000000) : isN (toString z : String) = true := by
  obtain ⟨k, rfl⟩ := Int.eq_ofNat_of_zero_le h0
  have e : TL.tl (Str.ofString (toString ((k : Nat) : Int))) = TL.numL k := TL.tl_num k
  have hd := TL.numL_digits k
  have hn := TL.numL_ne k
  have hl : (TL.numL k).length ≤ 7 := TL.numL_len (by decide) (by omega)
  show isN (Str.ofString (toString ((k : Nat) : Int))) = true
  unfold isN
  simp only [Bool.and_eq_true, decide_eq_true_eq, List.all_eq_true, Bool.or_eq_true]
  have e' : (Str.ofString (toString ((k : Nat) : Int))).cps.toList = TL.numL k := e
  refine ⟨⟨⟨?_, ?_⟩, ?_⟩, ?_⟩
  · rw [len_cps, e]
    exact List.length_pos_iff.mpr hn
  · rw [len_cps, e]; exact hl
  · rw [e']
    intro c hc
    exact (digs_iff c).mpr (hd c hc)
  · rw [e']
    by_cases hz : k = 0
    · left
      subst hz
      rfl
    · right
      have : ∀ k : Nat, 0 < k → (TL.numL k).head? ≠ some 48 := by
        intro k
        induction k using Nat.strongRecOn with
        | ind k ih =>
          intro hk
          by_cases h10 : k < 10
          · rw [TL.numL_lt h10]
            intro e
            simp at e
            omega
          · rw [TL.numL_step (by omega)]
            have := ih (k / 10) (by omega) (by omega)
            have hn := TL.numL_ne (k / 10)
            cases e : TL.numL (k / 10) with
            | nil => exact absurd e hn
            | cons a r => rw [e] at this; simpa using this
      exact this k (by omega)
theorem pure_law_number (vs : List V) (H : Hp) (Q : VK) (E : XK) (h : sp_law_number K vs H Q E) : t_law_number K ca (fin Q) (start ["state"] vs) H := by
  obtain ⟨st, nu, n, rfl, hs, hb, k⟩ := h
  have hb' : n + 3 < 1000000000 := hb
  unfold t_law_number
  walk_at "rd"
  refine next_use hs (by decide) (by unfold bigN; omega) fun r1 H1 h10 h11 k1 s1 => ?_
  walk_at "rd"
  refine next_use s1 (by decide) (by unfold bigN; omega) fun r2 H2 h20 h21 k2 s2 => ?_
  walk_at "rd"
  refine r_mul (.inr ⟨by decide, by decide⟩) ?_
  walk_at "rd"
  refine ⟨sz (by simp), fun t ht => ?_⟩
  walk_at "rd"
  refine next_use (s2.new ht) (by decide) (by unfold bigN; omega) fun r3 H3 h30 h31 k3 s3 => ?_
  have h3t : H3 t = some (.lst [.int r1, .int (r2 * 9900), .int 0, .int 9999999]) := k3 _ _ g_same (by simp [(s2.ne ht).1])
  have kA : Kp [st] H H3 := ((k1.trans k2).new ht).trans k3
  obtain ⟨c, hc, hc1, hc2⟩ : ∃ c : Int, atI [V.int r1, V.int (r2 * 9900), V.int 0, V.int 9999999] r3 = some (.int c) ∧ 0 ≤ c ∧ c < 10000000 := by
    have : r3 = 0 ∨ r3 = 1 ∨ r3 = 2 ∨ r3 = 3 := by omega
    rcases this with rfl | rfl | rfl | rfl
    · exact ⟨_, atZ0, by omega, by omega⟩
    · exact ⟨_, atZ1, by omega, by omega⟩
    · exact ⟨_, atZ2, by decide, by decide⟩
    · exact ⟨_, atZ3, by decide, by decide⟩
  refine r_ixL (SqL.of h3t) hc (o_nil ⟨c, rfl, ?_, ?_⟩)
  · have : c.natAbs < 2 ^ 24 := by omega
    have h2 : c.natAbs.log2 < 24 := by
      by_cases hz : c.natAbs = 0
      · rw [hz]; decide
      · exact (Nat.log2_lt hz).mpr this
    omega
  · exact k _ H3 (isN_num c hc1 hc2) kA s3
theorem pure_law_text (vs : List V) (H : Hp) (Q : VK) (E : XK) (h : sp_law_text K vs H Q E) : t_law_text K ca (fin Q) (start ["state", "menu", "k"] vs) H := by
  obtain ⟨st, nu, n, rfl, hs, hb, k⟩ := h
  have hb' : n + 4 < 1000000000 := hb
  unfold t_law_text
  refine o_seq (o_asg (o_lst (strA_run ["again (a b)", "not", "", " ", "a or", "(", "none", "0", "a;b", "q", "A"] _ ⟨sz (by simp), fun t ht => ?_⟩)))
  have kt := kp_new (o := .lst ((["again (a b)", "not", "", " ", "a or", "(", "none", "0", "a;b", "q", "A"] : List Str).map V.str)) ht
  have hne := (hs.ne ht).1
  have hs1 := hs.new (o := .lst ((["again (a b)", "not", "", " ", "a or", "(", "none", "0", "a;b", "q", "A"] : List Str).map V.str)) ht
  have ht1 : (upd H t (.lst ((["again (a b)", "not", "", " ", "a or", "(", "none", "0", "a;b", "q", "A"] : List Str).map V.str))) t = some (.lst ((["again (a b)", "not", "", " ", "a or", "(", "none", "0", "a;b", "q", "A"] : List Str).map V.str)) := g_same
  generalize upd H t _ = H1 at *
  dsimp only
  walk_at "rd"
  refine ⟨⟨_, rfl⟩, lc_arg ?_⟩
  walk_at "rd"
  refine next_use hs1 (by decide) (by unfold bigN; omega) fun r1 H2 h10 h11 k1 s1 => ?_
  walk_at "rd"
  have ht2 : H2 t = some (.lst ((["again (a b)", "not", "", " ", "a or", "(", "none", "0", "a;b", "q", "A"] : List Str).map V.str)) := k1 _ _ ht1 (by simp [hne])
  refine lcRD (n := r1) (P := fun _ v => ∃ x : Str, v = .str x ∧ x.length ≤ 20 ∧ Sm x) 1 (fun _ _ _ _ h => h) (fun R r => r) (by omega) (by omega) s1 (by unfold bigN; omega) (fun j H3 m hj k3 s3 hm R r => ?_) fun D H3 xs hD k3 hx hl hP s3 => ?_
  · have ht3 : H3 t = some _ := k3 _ _ ht2 (by simp [hne])
    walk_at "rd"
    refine next_use s3 (by decide) (by omega) fun r2 H4 h20 h21 k4 s4 => ?_
    have hlt : r2.toNat < 11 := by simp at h21; omega
    have hlt' : r2.toNat < ((["again (a b)", "not", "", " ", "a or", "(", "none", "0", "a;b", "q", "A"] : List Str).map V.str).length := by simp; omega
    refine r_ixL (SqL.of (k4 _ _ ht3 (by simp [hne]))) (at_int h20 (List.getElem?_eq_getElem hlt')) ?_
    refine r _ H4 ?_ k4 s4
    have hm := List.getElem_mem hlt'
    obtain ⟨x, hx, e⟩ := List.mem_map.mp hm
    refine ⟨x, e.symm, ?_⟩
    have : ∀ y ∈ (["again (a b)", "not", "", " ", "a or", "(", "none", "0", "a;b", "q", "A"] : List Str), y.length ≤ 20 ∧ ∀ c ∈ y.cps.toList, c < 200 := by decide +kernel
    exact this x hx
  · obtain ⟨ys, rfl, hy⟩ := strs_of xs hP
    have hs2 := sum_le fun y h => (hy y h).1
    rw [List.length_map] at hl
    refine ⟨" ", D, ys, rfl, rfl, .inl (SqL.of hx), ?_, ?_⟩
    · have e3 : (" " : Str).length = 1 := by rfl
      have e4 : (ys.map (·.length)).sum = (ys.map Str.length).sum := rfl
      rw [e3, e4]
      omega
    · have := join_le ys
      exact k _ H3 (by omega) (Sm_join fun y h => (hy y h).2) (((kt.sub (by simp)).trans k1).trans k3) (s3.le (by omega))
end
end K80
namespace K80
open PySem PySem.Spec PyProof.Rows L2 Sf
/-! ### lines of a good form -/
theorem ne_empty {x : Str} (h : TL.tl x ≠ []) : x ≠ "" := fun e => h (by rw [e]; rfl)
theorem parse_join {f : Str} {r : List Str} (h : ∀ p ∈ f :: r, 32 ∉ TL.tl p) (h0 : TL.tl f ≠ []) : parse (Txt.join " " (f :: r)) = cmdOf f r := by
  refine parse_ne (ne_empty ?_) (split_join' _ (by simp) h)
  rw [tl_joinT]
  cases r with
  | nil => simpa [TL.joinL] using h0
  | cons g r => rw [List.map_cons, List.map_cons, joinL_cons]; simp
theorem split_pre (f t : Str) (h : 32 ∉ TL.tl f) : Txt.split (f ++ " " ++ t) " " = f :: Txt.split t " " := by
  apply TL.map_tl_inj
  rw [split_map, List.map_cons, split_map, TL.tl_append, TL.tl_append, tl_sp]
  have e := TL.spl_part1 (s := 32) (S := []) (p := TL.tl f) (rest := TL.tl t) (acc := []) h
  simpa using e
theorem isL_free {x : Str} (h : isL x = true) : 32 ∉ TL.tl x := fun z => by have := ((isL_iff x).mp h).2 32 z; omega
theorem isN_free {x : Str} (h : isN x = true) : 32 ∉ TL.tl x := fun z => by have := (isN_digits h).2.2 32 z; omega
theorem join_one (x : Str) : Txt.join " " [x] = x := by
  apply TL.ext_tl
  rw [tl_joinT]
  rfl
theorem good_text {f t : Str} (hf : f = "read" ∨ f = "bar") : parse (f ++ " " ++ t) ≠ .none := by
  have h32 : 32 ∉ TL.tl f := by rcases hf with rfl | rfl <;> decide +kernel
  have e := split_pre f t h32
  rw [parse_ne (ne_empty (by rw [TL.tl_append, TL.tl_append, tl_sp]; simp)) e]
  unfold cmdOf
  rw [if_pos ⟨hf, split_ne t⟩]
  intro h; cases h
theorem good_bare {f : Str} (hf : f = "undo" ∨ f = "log" ∨ f = "levels" ∨ f = "steady" ∨ f = "elements" ∨ f = "bound") : parse f ≠ .none := by
  have h32 : 32 ∉ TL.tl f ∧ TL.tl f ≠ [] ∧ ¬ (f = "read" ∨ f = "bar") := by rcases hf with rfl | rfl | rfl | rfl | rfl | rfl <;> decide +kernel
  have e := parse_join (f := f) (r := []) (by simpa using h32.1) h32.2.1
  rw [join_one] at e
  rw [e]
  unfold cmdOf
  rw [if_neg fun z => h32.2.2 z.1, if_pos ⟨hf, rfl⟩]
  intro h; cases h
theorem good_letters {f : Str} {r : List Str} (hf : f = "begin" ∨ f = "add") (hr : ∀ y ∈ r, isL y = true) : parse (Txt.join " " (f :: r)) ≠ .none := by
  have h32 : 32 ∉ TL.tl f ∧ TL.tl f ≠ [] ∧ ¬ (f = "read" ∨ f = "bar") ∧ ¬ (f = "undo" ∨ f = "log" ∨ f = "levels" ∨ f = "steady" ∨ f = "elements" ∨ f = "bound") := by rcases hf with rfl | rfl <;> decide +kernel
  rw [parse_join (fun p hp => by
    rcases List.mem_cons.mp hp with e | e
    · rw [e]; exact h32.1
    · exact isL_free (hr p e)) h32.2.1]
  unfold cmdOf
  rw [if_neg fun z => h32.2.2.1 z.1, if_neg fun z => h32.2.2.2 z.1, if_pos ⟨hf, List.all_eq_true.mpr hr⟩]
  intro h; cases h
theorem app_len (x y : Str) : (x ++ y).length = x.length + y.length := by rw [len_cps, len_cps, len_cps, TL.tl_append, List.length_append]
theorem isL_app {w z : Str} (hw : wordOk w) (hz : z ∈ ([("" : Str), "z"] : List Str)) : isL (w ++ z) = true ∧ (w ++ z).length ≤ 9 := by
  obtain ⟨h1, h2, h3⟩ := hw
  have hz1 : z.length ≤ 1 ∧ ∀ c ∈ TL.tl z, 97 ≤ c ∧ c ≤ 122 := by
    have : ∀ y ∈ ([("" : Str), "z"] : List Str), y.length ≤ 1 ∧ ∀ c ∈ TL.tl y, 97 ≤ c ∧ c ≤ 122 := by decide +kernel
    exact this z hz
  refine ⟨(isL_iff _).mpr ⟨by rw [app_len]; omega, fun c hc => ?_⟩, by rw [app_len]; omega⟩
  rw [TL.tl_append] at hc
  rcases List.mem_append.mp hc with hc | hc
  · exact (alpha_iff c).mp (h3 c hc)
  · exact hz1.2 c hc
theorem rep_one (k : Nat) (v : V) : (List.replicate k [v]).flatten = List.replicate k v := by
  induction k with
  | zero => rfl
  | succ k ih => rw [List.replicate_succ, List.flatten_cons, ih]; rfl
theorem sm_of {x : Str} (h : x.cps.toList.all (fun c => decide (c < 200)) = true) : Sm x := fun c hc => of_decide_eq_true (List.all_eq_true.mp h c hc)
theorem nums_sm : ∀ q ∈ nums, ∀ c ∈ q.1.cps.toList, c < 200 := by decide +kernel
theorem kinds_sm : ∀ q ∈ kinds, ∀ c ∈ q.1.cps.toList, c < 200 := by decide +kernel
theorem nums_ok : ∀ q ∈ nums, 32 ∉ TL.tl q.1 ∧ TL.tl q.1 ≠ [] ∧ q.1.length ≤ 10 ∧ 0 ≤ q.2 ∧ q.2 ≤ 3 := by decide +kernel
theorem kinds_ok : ∀ q ∈ kinds, 32 ∉ TL.tl q.1 ∧ TL.tl q.1 ≠ [] ∧ q.1.length ≤ 10 ∧ 0 ≤ q.2 ∧ q.2 ≤ 3 ∧ ¬ (q.1 = "read" ∨ q.1 = "bar") ∧ ¬ (q.1 = "undo" ∨ q.1 = "log" ∨ q.1 = "levels" ∨ q.1 = "steady" ∨ q.1 = "elements" ∨ q.1 = "bound") ∧ ¬ (q.1 = "begin" ∨ q.1 = "add") := by decide +kernel
theorem good_nums {q : Str × Int} {r : List Str} (hq : q ∈ nums) (hl : (r.length : Int) = q.2) (hr : ∀ y ∈ r, isN y = true) : parse (Txt.join " " (q.1 :: r)) ≠ .none := by
  obtain ⟨h1, h2, _⟩ := nums_ok q hq
  obtain ⟨d1, d2, d3⟩ := disj q hq
  rw [parse_join (fun p hp => by
    rcases List.mem_cons.mp hp with e | e
    · rw [e]; exact h1
    · exact isN_free (hr p e)) h2, cmdOf_num (fun z => d1 z.1) (fun z => d2 z.1) (fun z => d3 z.1) (nums_at q hq)]
  unfold nCmd
  rw [if_pos ⟨hl, List.all_eq_true.mpr hr⟩]
  intro h; cases h
theorem good_kinds {q : Str × Int} {g : Str} {r : List Str} (hq : q ∈ kinds) (hg : g = "good" ∨ g = "forward") (hl : (r.length : Int) = q.2) (hr : ∀ y ∈ r, isN y = true) : parse (Txt.join " " (q.1 :: g :: r)) ≠ .none := by
  obtain ⟨h1, h2, _, _, _, d1, d2, d3⟩ := kinds_ok q hq
  obtain ⟨k1, k2⟩ := kinds_at q hq
  have hg32 : 32 ∉ TL.tl g := by rcases hg with rfl | rfl <;> decide +kernel
  rw [parse_join (fun p hp => by
    rcases List.mem_cons.mp hp with e | e
    · rw [e]; exact h1
    · rcases List.mem_cons.mp e with e | e
      · rw [e]; exact hg32
      · exact isN_free (hr p e)) h2, cmdOf_kind (fun z => d1 z.1) (fun z => d2 z.1) (fun z => d3 z.1) k2 k1]
  unfold kCmd
  show (if _ then _ else _) ≠ _
  rw [if_pos ⟨hg, hl, List.all_eq_true.mpr hr⟩]
  intro h; cases h
section
variable {K : PySem.W.Frag} {ca : Nat → Addr}
theorem pure_law_good (vs : List V) (H : Hp) (Q : VK) (E : XK) (h : sp_law_good K vs H Q E) : t_law_good K ca (fin Q) (start ["state", "way", "word", "first", "many", "k"] vs) H := by
  obtain ⟨st, nu, n, rfl, hs, hb, k⟩ := h
  have hb' : n + 40 < 1000000000 := hb
  unfold t_law_good
  walk_at "rd"
  refine next_use hs (by decide) (by unfold bigN; omega) fun way H1 hw0 hw1 k1 s1 => ?_
  walk_at "rd"
  refine ⟨sz (by simp), fun t ht => ?_⟩
  refine ⟨st, nu, t, [], n + 1, rfl, SqL.of g_same, by simp, (s1.ne ht).1, s1.new ht, by unfold bigN; omega, fun w H2 hw k2 s2 => ?_⟩
  have k2 := (k1.new ht).trans k2
  refine o_op (menu_of ["", "z"] rfl s2 (by unfold bigN; omega) rfl (by simp) (by simp) fun z hz H3 k3 s3 => ?_)
  have e9 : z.length ≤ 1 := by
    have : ∀ y ∈ ([("" : Str), "z"] : List Str), y.length ≤ 1 := by decide +kernel
    exact this z hz
  refine r_adds (sz (by have := hw.2.1; omega)) ?_
  obtain ⟨wl, wn⟩ := isL_app hw hz
  generalize w ++ z = word at *
  have k3 := k2.trans k3
  have e1 : (" " : Str).length = 1 := by rfl
  have fin : ∀ (x : Str) (H' : Hp) m, x.length ≤ 1000 → Sm x → parse x ≠ .none → Kp [st] H3 H' → StB H' st nu m → m ≤ n + 40 → Q (.str x) H' := fun x H' m h1 hsm h2 h3 h4 h5 => k x H' h1 hsm h2 (k3.trans h3) (h4.le h5)
  have jn : ∀ (ys : List Str), (ys.map Str.length).sum + ys.length ≤ 900 → (ys.map (·.length)).sum + ys.length * (" " : Str).length ≤ 16777216 ∧ (Txt.join " " ys).length ≤ 1000 := fun ys h => by
    have e4 : (ys.map (·.length)).sum = (ys.map Str.length).sum := rfl
    have := join_le ys
    rw [e4, e1]
    omega
  walk_at "rd"
  refine if_b (fun h0 => ?_) (fun h0 => ?_)
  · refine o_ret (o_op (o_op (menu_of ["read", "bar"] rfl s3 (by unfold bigN; omega) rfl (by simp) (by simp) fun f hf H4 k4 s4 => ?_)))
    have hf' : f = "read" ∨ f = "bar" := by simpa using hf
    have lf : f.length ≤ 4 := by rcases hf' with rfl | rfl <;> decide +kernel
    refine o_c (r_adds (sz (by rw [e1]; omega)) ?_)
    walk_at "rd"
    refine ⟨st, nu, _, rfl, s4, by unfold bigN; omega, fun x H5 hx hsm k5 s5 => ?_⟩
    refine r_adds (sz (by rw [app_len, e1]; omega)) ?_
    exact fin _ H5 _ (by rw [app_len, app_len, e1]; omega) (Sm_app (Sm_app (by rcases hf' with rfl | rfl <;> exact sm_of (by decide +kernel)) (sm_of (by decide +kernel))) hsm) (good_text hf') (k4.trans k5) s5 (by omega)
  · walk_at "rd"
    refine if_b (fun h1 => ?_) (fun h1 => ?_)
    · refine o_ret (menu_of ["undo", "log", "levels", "steady", "elements", "bound"] rfl s3 (by unfold bigN; omega) rfl (by simp) (by simp) fun f hf H4 k4 s4 => ?_)
      have hf' : f = "undo" ∨ f = "log" ∨ f = "levels" ∨ f = "steady" ∨ f = "elements" ∨ f = "bound" := by simpa using hf
      have lf : f.length ≤ 10 := by rcases hf' with rfl | rfl | rfl | rfl | rfl | rfl <;> decide +kernel
      exact fin _ H4 _ (by omega) (by rcases hf' with rfl | rfl | rfl | rfl | rfl | rfl <;> exact sm_of (by decide +kernel)) (good_bare hf') k4 s4 (by omega)
    · walk_at "rd"
      refine if_b (fun h2 => ?_) (fun h2 => ?_)
      · walk_at "rd"
        refine ⟨⟨_, rfl⟩, o_op (o_lst (o_cons (menu_of ["begin", "add"] rfl s3 (by unfold bigN; omega) rfl (by simp) (by simp) fun f hf H4 k4 s4 => ?_)))⟩
        have hf' : f = "begin" ∨ f = "add" := by simpa using hf
        have lf : f.length ≤ 5 := by rcases hf' with rfl | rfl <;> decide +kernel
        walk_at "rd"
        refine ⟨sz (by simp), fun p hp => ?_⟩
        have s4' := s4.new (o := .lst [.str f]) hp
        have np := (s4.ne hp).1
        walk_at "rd"
        refine ⟨sz (by simp), fun q hq => ?_⟩
        have s4'' := s4'.new (o := .lst [.str word]) hq
        have nq := (s4'.ne hq).1
        have nqp : p ≠ q := ne_of_none g_same hq
        walk_at "rd"
        refine next_use s4'' (by decide) (by unfold bigN; omega) fun c H5 c0 c1 k5 s5 => ?_
        have hq5 : H5 q = some (.lst [.str word]) := k5 _ _ g_same (by simp [nq])
        have hp5 : H5 p = some (.lst [.str f]) := k5 _ _ (g_mut nqp g_same) (by simp [np])
        refine ⟨q, c, _, rfl, rfl, hq5, by omega, by omega, sz (by simp; omega), fun l hl => ?_⟩
        rw [rep_one]
        refine r_cat (g_new hl hp5) g_same (sz (by simp; omega)) fun l2 hl2 => ?_
        have sum1 : (((f :: List.replicate c.toNat word).map Str.length).sum + (f :: List.replicate c.toNat word).length) ≤ 900 := by
          have := sum_le (l := f :: List.replicate c.toNat word) (B := 9) fun y hy => by
            rcases List.mem_cons.mp hy with e | e
            · rw [e]; omega
            · rw [List.eq_of_mem_replicate e]; omega
          simp only [List.length_cons, List.length_replicate] at *
          omega
        obtain ⟨j1, j2⟩ := jn _ sum1
        refine ⟨" ", l2, f :: List.replicate c.toNat word, rfl, rfl, .inl (SqL.of (by rw [upd_same]; simp)), j1, ?_⟩
        refine fin _ _ _ j2 (Sm_join fun y hy => by
          rcases List.mem_cons.mp hy with e | e
          · rw [e]; rcases hf' with rfl | rfl <;> exact sm_of (by decide +kernel)
          · rw [List.eq_of_mem_replicate e]; exact Sm_L ((isL_iff _).mp wl).2) (good_letters hf' fun y hy => by rw [List.eq_of_mem_replicate hy]; exact wl) (((((k4.new hp).new hq).trans k5).new hl).new hl2) ((s5.new hl).new hl2) (by omega)
      · walk_at "rd"
        have nums_str : ∀ {σ : L2.St} {H5 : Hp} {m : Nat} {c : Int} {R : VK}, σ[0]? = some (some (.ref st)) → σ[4]? = some (some (.int c)) → 5 < σ.length → 0 ≤ c → c ≤ 3 → StB H5 st nu m → m + 3 * c.toNat < n + 40 →
            (∀ D H6 (ys : List Str), Kp [st] H5 H6 → H5 D = none → H6 D = some (.lst (ys.map V.str)) → (ys.length : Int) = c → (∀ y ∈ ys, isN y = true) → StB H6 st nu (m + 3 * c.toNat) → R (.ref D) H6) → tLc (iRng1 (tCons (tVar 4) tNil)) (gName 5) tYes (rCallG (sp_law_number K) E0 (tCons (tVar 0) tNil)) [5] σ H5 R := fun {σ H5 m c R} hv hv4 hl hc0 hc3 s5 hb5 q => by
          refine lcRD (n := c) (P := fun _ v => ∃ x : Str, v = .str x ∧ isN x = true) 3 (fun _ _ _ _ h => h) (fun R r => o_cons ⟨_, hv4, o_nil r⟩) (by omega) (by omega) s5 (by unfold bigN; omega) (fun j H6 m2 hj k6 s6 hm R r => ?_) fun D H6 xs hD k6 hx hl2 hP s6 => ?_
          · have hv' : ((σ.set 5 none).set 5 (some (.int (j : Int))))[0]? = some (some (.ref st)) := by
              rw [List.getElem?_set_ne (by decide), List.getElem?_set_ne (by decide)]; exact hv
            refine o_call (o_cons ⟨_, hv', o_nil ⟨st, nu, m2, rfl, s6, hm, fun x H7 hx k7 s7 => r _ H7 ⟨x, rfl, hx⟩ k7 s7⟩⟩)
          · obtain ⟨ys, rfl, hy⟩ := strs_of xs hP
            exact q D H6 ys k6 hD hx (by simp at hl2; omega) hy s6
        have take : ∀ {σ : L2.St} {H5 : Hp} {m : Nat} {R : VK} (ps : List (Str × Int)), σ[0]? = some (some (.ref st)) → StB H5 st nu m → m < n + 40 → 0 < ps.length → ps.length ≤ 1000 → (∀ q ∈ ps, ∀ a H6, Kp [st] H5 H6 → StB H6 st nu (m + 1) → H6 a = some (.tup [.str q.1, .int q.2]) → R (.ref a) H6) →
            tOp (rIxL K) (tLst (prA ps)) (rCallG (sp_law_next K) E0 (tCons (tVar 0) (tCons (tC (.int (ps.length : Int))) tNil))) σ H5 R := fun {σ H5 m R} ps hv s5 hm h0 hz q => by
          refine o_op (o_pairs ps hz fun p vs H6 k6 hp pr hpn => ?_)
          refine draw hv (s5.kp k6) (by unfold bigN; omega) (by omega) (fun R r => o_c r) fun r H7 r0 r1 k7 s7 => ?_
          have np : p ≠ st := (s5.ne hpn).1
          have hlt : r.toNat < vs.length := by rw [pr.len]; omega
          refine r_ixL (SqL.of (k7 _ _ hp (by simp [np]))) (at_int r0 (List.getElem?_eq_getElem hlt)) ?_
          obtain ⟨q', a, hq, ea, ha⟩ := pr.get (List.getElem?_eq_getElem hlt)
          rw [ea]
          exact q q' (List.mem_of_getElem? hq) a H7 ((k6.sub (by simp)).trans k7) s7 (((s5.kp k6).tk k7).1 _ _ ha)
        refine if_b (fun h3 => ?_) (fun h3 => ?_)
        · refine o_seq (o_asgG (take nums rfl s3 (by omega) (by decide) (by decide) fun q hq a H4 k4 s4 ha => ?_))
          obtain ⟨_, _, ql, q0, q3⟩ := nums_ok q hq
          refine ⟨a, _, rfl, SqT.of ha, rfl, _, _, rfl, _, _, rfl, rfl, ?_⟩
          dsimp only
          walk_at "rd"
          refine ⟨⟨_, rfl⟩, o_op ?_⟩
          walk_at "rd"
          refine ⟨sz (by simp), fun p hp => ?_⟩
          refine nums_str rfl rfl (by simp [L2.start]) q0 q3 (s4.new hp) (by omega) fun D H5 ys k5 hD hx hl hy s5 => ?_
          refine r_cat (k5 _ _ g_same (by simp [(s4.ne hp).1])) hx (sz (by simp; omega)) fun l2 hl2 => ?_
          have sum1 : ((q.1 :: ys).map Str.length).sum + (q.1 :: ys).length ≤ 900 := by
            have := sum_le (l := ys) (B := 7) fun y hy' => (isN_digits (hy y hy')).2.1
            simp only [List.map_cons, List.sum_cons, List.length_cons]
            omega
          obtain ⟨j1, j2⟩ := jn _ sum1
          refine ⟨" ", l2, q.1 :: ys, rfl, rfl, .inl (SqL.of (by rw [upd_same]; rfl)), j1, ?_⟩
          exact fin _ _ _ j2 (Sm_join fun y hy' => by
            rcases List.mem_cons.mp hy' with e | e
            · rw [e]; exact nums_sm q hq
            · exact Sm_N (hy y e)) (good_nums hq hl hy) (((k4.new hp).trans k5).new hl2) (s5.new hl2) (by omega)
        · refine o_next ?_
          dsimp only
          refine o_seq (o_asgG (take kinds rfl s3 (by omega) (by decide) (by decide) fun q hq a H4 k4 s4 ha => ?_))
          obtain ⟨_, _, ql, q0, q3, _⟩ := kinds_ok q hq
          refine ⟨a, _, rfl, SqT.of ha, rfl, _, _, rfl, _, _, rfl, rfl, ?_⟩
          dsimp only
          walk_at "rd"
          refine ⟨⟨_, rfl⟩, o_op (o_lst (o_cons ⟨_, rfl, o_cons (menu_of ["good", "forward"] rfl s4 (by unfold bigN; omega) rfl (by simp) (by simp) fun g hg H5 k5 s5 => ?_)⟩))⟩
          have hg' : g = "good" ∨ g = "forward" := by simpa using hg
          have lg : g.length ≤ 7 := by rcases hg' with rfl | rfl <;> decide +kernel
          walk_at "rd"
          refine ⟨sz (by simp), fun p hp => ?_⟩
          refine nums_str rfl rfl (by simp [L2.start]) q0 q3 (s5.new hp) (by omega) fun D H6 ys k6 hD hx hl hy s6 => ?_
          refine r_cat (k6 _ _ g_same (by simp [(s5.ne hp).1])) hx (sz (by simp; omega)) fun l2 hl2 => ?_
          have sum1 : ((q.1 :: g :: ys).map Str.length).sum + (q.1 :: g :: ys).length ≤ 900 := by
            have := sum_le (l := ys) (B := 7) fun y hy' => (isN_digits (hy y hy')).2.1
            simp only [List.map_cons, List.sum_cons, List.length_cons]
            omega
          obtain ⟨j1, j2⟩ := jn _ sum1
          refine ⟨" ", l2, q.1 :: g :: ys, rfl, rfl, .inl (SqL.of (by rw [upd_same]; rfl)), j1, ?_⟩
          exact fin _ _ _ j2 (Sm_join fun y hy' => by
            rcases List.mem_cons.mp hy' with e | e
            · rw [e]; exact kinds_sm q hq
            · rcases List.mem_cons.mp e with e | e
              · rw [e]; rcases hg' with rfl | rfl <;> exact sm_of (by decide +kernel)
              · exact Sm_N (hy y e)) (good_kinds hq hg' hl hy) ((((k4.trans k5).new hp).trans k6).new hl2) (s6.new hl2) (by omega)
end
end K80
namespace K80
open PySem PySem.Spec PyProof.Rows L2 Sf
/-- the weight of words -/
def wt (l : List Str) : Nat := (l.map Str.length).sum + l.length
theorem wt_cons (a : Str) (l : List Str) : wt (a :: l) = a.length + 1 + wt l := by
  unfold wt
  simp only [List.map_cons, List.sum_cons, List.length_cons]
  omega
theorem wt_app (a b : List Str) : wt (a ++ b) = wt a + wt b := by
  induction a with
  | nil => simp [wt]
  | cons x r ih => rw [List.cons_append, wt_cons, wt_cons, ih]; omega
theorem wt_take (l : List Str) : ∀ n, wt (l.take n) ≤ wt l := by
  induction l with
  | nil => intro n; simp
  | cons a r ih =>
    intro n
    cases n with
    | zero => simp [wt]
    | succ n => rw [List.take_succ_cons, wt_cons, wt_cons]; have := ih n; omega
theorem wt_drop (l : List Str) : ∀ n, wt (l.drop n) ≤ wt l := by
  induction l with
  | nil => intro n; simp
  | cons a r ih =>
    intro n
    cases n with
    | zero => simp
    | succ n => rw [List.drop_succ_cons, wt_cons]; have := ih n; omega
theorem cut_strs (ws : List Str) (lo hi : Option Int) : ∃ ys : List Str, cutV (ws.map V.str) lo hi = ys.map V.str ∧ wt ys ≤ wt ws ∧ ∀ y ∈ ys, y ∈ ws := by
  refine ⟨(ws.drop (HT.sIx (ws.map V.str).length 0 lo)).take (HT.sIx (ws.map V.str).length (ws.map V.str).length hi - HT.sIx (ws.map V.str).length 0 lo), ?_, ?_, fun y hy => List.mem_of_mem_drop (List.mem_of_mem_take hy)⟩
  · unfold cutV
    rw [List.map_take, List.map_drop]
  · exact Nat.le_trans (wt_take _ _) (wt_drop _ _)
section
variable {K : PySem.W.Frag} {ca : Nat → Addr} {σ : L2.St} {H : Hp}
/-- a reading that gives a new list of words, of this weight at most -/
def LS (σ : L2.St) (H : Hp) (te : TE) (c : Nat) : Prop := ∀ H0, Kp [] H H0 → ∀ Q : VK, (∀ p H1 ys, Kp [] H0 H1 → H1 p = some (.lst (ys.map V.str)) → wt ys ≤ c → (∀ y ∈ ys, Sm y) → Q (.ref p) H1) → te σ H0 Q
def PO (σ : L2.St) (H : Hp) (to : TO) : Prop := ∀ H0, Kp [] H H0 → ∀ QO : Option Int → Hp → Prop, (∀ o, QO o H0) → to σ H0 QO
theorem po_no : PO σ H tNoPart := fun _ _ _ q => q none
theorem po_var {i : Nat} {n : Int} (h : σ[i]? = some (some (.int n))) : PO σ H (tPart (tVar i)) := fun _ _ _ q => o_part ⟨_, h, n, rfl, q _⟩
theorem po_add {i : Nat} {n m : Int} (h : σ[i]? = some (some (.int n))) : PO σ H (tPart (tOp rdAdd (tVar i) (tC (.int m)))) := fun _ _ _ q => o_part (o_op ⟨_, h, o_c (r_add ⟨_, rfl, q _⟩)⟩)
theorem ls_sl {i : Nat} {p : Addr} {ws : List Str} {t1 t2 : TO} (h : σ[i]? = some (some (.ref p))) (hp : H p = some (.lst (ws.map V.str))) (hs : ∀ y ∈ ws, Sm y) (h1 : PO σ H t1) (h2 : PO σ H t2) : LS σ H (tSl (rSlL K) (tVar i) t1 t2) (wt ws) := by
  intro H0 k0 Q q
  refine o_sl ⟨_, h, h1 H0 k0 _ fun lo => h2 H0 k0 _ fun hi => r_slL (SqL.of (k0 _ _ hp (by simp))) fun l hl => ?_⟩
  obtain ⟨ys, e, hw, hm⟩ := cut_strs ws lo hi
  rw [e]
  exact q l _ ys (kp_new hl) g_same hw fun y hy => hs y (hm y hy)
theorem ls_one {i : Nat} {x : Str} (h : σ[i]? = some (some (.str x))) (hs : Sm x) : LS σ H (tLst (tCons (tVar i) tNil)) (x.length + 1) := by
  intro H0 k0 Q q
  refine o_lst (o_cons ⟨_, h, o_nil ⟨sz (by simp), fun p hp => q p _ [x] (kp_new hp) g_same (by rw [wt_cons]; simp [wt]) fun y hy => ?_⟩⟩)
  rw [List.mem_singleton.mp hy]; exact hs
theorem ls_cat {ta tb : TE} {c d : Nat} (h1 : LS σ H ta c) (h2 : LS σ H tb d) (hc : c + d ≤ 100000) : LS σ H (tOp rCat ta tb) (c + d) := by
  intro H0 k0 Q q
  refine o_op (h1 H0 k0 _ fun p H1 ys k1 hp w1 s1 => h2 H1 (k0.trans k1) _ fun p2 H2 zs k2 hp2 w2 s2 => ?_)
  have l1 : ys.length ≤ wt ys := Nat.le_add_left _ _
  have l2 : zs.length ≤ wt zs := Nat.le_add_left _ _
  refine r_cat (k2 _ _ hp (by simp)) hp2 (sz (by simp; omega)) fun l hl => ?_
  refine q l _ (ys ++ zs) ((k1.trans k2).new hl) (by rw [upd_same, List.map_append]) (by rw [wt_app]; omega) fun y hy => ?_
  rcases List.mem_append.mp hy with h | h
  · exact s1 y h
  · exact s2 y h
theorem ls_join {te : TE} {c : Nat} {Q : VK} (h : LS σ H te c) (hc : c ≤ 10000) (q : ∀ x H1, Kp [] H H1 → x.length ≤ 10000 → Sm x → Q (.str x) H1) : tM1 (rdJoin K) (tC (.str " ")) te σ H Q := by
  refine o_m1 (o_c ⟨⟨_, rfl⟩, h H (Kp.refl [] _) _ fun p H1 ys k1 hp w1 s1 => ?_⟩)
  have e3 : (" " : Str).length = 1 := by rfl
  have e4 : (ys.map (·.length)).sum = (ys.map Str.length).sum := rfl
  have e5 : wt ys = (ys.map Str.length).sum + ys.length := rfl
  have := join_le ys
  exact ⟨" ", p, ys, rfl, rfl, .inl (SqL.of hp), by rw [e3, e4]; omega, q _ H1 k1 (by omega) (Sm_join s1)⟩
theorem repl_small {l z : List Nat} {b : Nat} : ∀ n, l.length ≤ n → (PySem.StrLaws.replL [32] z l).length ≤ (z.length + 1) * n ∧ ((∀ c ∈ l, c < b) → (∀ c ∈ z, c < b) → ∀ c ∈ PySem.StrLaws.replL [32] z l, c < b) := by
  intro n
  induction n generalizing l with
  | zero =>
    intro h
    have : l = [] := List.eq_nil_of_length_eq_zero (by omega)
    subst this
    rw [PySem.StrLaws.replL_nil]
    simp
  | succ n ih =>
    intro h
    cases l with
    | nil => rw [PySem.StrLaws.replL_nil]; simp
    | cons c r =>
      have hr : r.length ≤ n := by simpa using h
      obtain ⟨i1, i2⟩ := ih hr
      rw [Nat.mul_succ]
      by_cases hc : (c :: r).take ([32] : List Nat).length = [32]
      · rw [PySem.StrLaws.replL_hit (by simp) hc]
        simp only [List.length_singleton, List.drop_succ_cons, List.drop_zero]
        refine ⟨by rw [List.length_append]; omega, fun h1 h2 d hd => ?_⟩
        rcases List.mem_append.mp hd with hd | hd
        · exact h2 d hd
        · exact i2 (fun c hc => h1 c (by simp [hc])) h2 d hd
      · rw [PySem.StrLaws.replL_miss hc]
        refine ⟨by rw [List.length_cons]; omega, fun h1 h2 d hd => ?_⟩
        rcases List.mem_cons.mp hd with hd | hd
        · rw [hd]; exact h1 c (by simp)
        · exact i2 (fun c hc => h1 c (by simp [hc])) h2 d hd
theorem repl_sp (x : Str) : (Txt.replace x " " "  ").length ≤ 3 * x.length ∧ (Sm x → Sm (Txt.replace x " " "  ")) := by
  have e : TL.tl (Txt.replace x " " "  ") = PySem.StrLaws.replL [32] [32, 32] (TL.tl x) := PySem.StrLaws.replace_list (by decide +kernel)
  obtain ⟨h1, h2⟩ := repl_small (l := TL.tl x) (z := [32, 32]) (b := 200) _ (Nat.le_refl _)
  refine ⟨by rw [len_cps, e, len_cps]; simpa using h1, fun h c hc => ?_⟩
  have hc : c ∈ TL.tl (Txt.replace x " " "  ") := hc
  rw [e] at hc
  exact h2 h (by simp) c hc
theorem pure_law_spoilt (vs : List V) (H : Hp) (Q : VK) (E : XK) (h : sp_law_spoilt K vs H Q E) : t_law_spoilt K ca (fin Q) (start ["state", "line", "words", "at", "menu", "other", "way"] vs) H := by
  obtain ⟨st, nu, y, n, rfl, hl, hsm, hs, hb, k⟩ := h
  have hb' : n + 10 < 1000000000 := hb
  unfold t_law_spoilt
  walk_at "rd"
  refine ⟨⟨_, rfl⟩, ?_⟩
  walk_at "rd"
  refine ⟨y, " ", rfl, rfl, by decide +kernel, sz (by omega), fun p hp => ?_⟩
  have hw : wt (Txt.split y " ") = y.length + 1 := (split_len y).symm
  have hss := Sm_split hsm
  have hsn : 0 < (Txt.split y " ").length := List.length_pos_iff.mpr (split_ne y)
  generalize Txt.split y " " = ws at *
  have kp1 : Kp [st] H (upd H p (.lst (ws.map V.str))) := (Kp.refl _ _).new hp
  have s1 := hs.new (o := .lst (ws.map V.str)) hp
  have hpL : (upd H p (.lst (ws.map V.str))) p = some (.lst (ws.map V.str)) := g_same
  have np := (hs.ne hp).1
  generalize upd H p _ = H1 at *
  have wl : ws.length ≤ wt ws := Nat.le_add_left _ _
  walk_at "rd"
  refine next_use s1 (by rw [List.length_map]; omega) (by unfold bigN; omega) fun i H2 i0 i1 k2 s2 => ?_
  have kp2 := kp1.trans k2
  have hpL := k2 _ _ hpL (by simp [np])
  refine o_next ?_
  dsimp only
  refine o_seq (o_asg (o_lst (strA_run ["x", "01", "12345678", "-1", "Read", "undo", "good", "", "0", "enough", "q7", "forward", "lets"] _ ⟨sz (by simp), fun t ht => ?_⟩)))
  have kp3 := kp2.new (o := .lst ((["x", "01", "12345678", "-1", "Read", "undo", "good", "", "0", "enough", "q7", "forward", "lets"] : List Str).map V.str)) ht
  have nt := (s2.ne ht).1
  have s3 := s2.new (o := .lst ((["x", "01", "12345678", "-1", "Read", "undo", "good", "", "0", "enough", "q7", "forward", "lets"] : List Str).map V.str)) ht
  have hpL := g_new (o := .lst ((["x", "01", "12345678", "-1", "Read", "undo", "good", "", "0", "enough", "q7", "forward", "lets"] : List Str).map V.str)) ht hpL
  have htL : (upd H2 t (.lst ((["x", "01", "12345678", "-1", "Read", "undo", "good", "", "0", "enough", "q7", "forward", "lets"] : List Str).map V.str))) t = some (.lst ((["x", "01", "12345678", "-1", "Read", "undo", "good", "", "0", "enough", "q7", "forward", "lets"] : List Str).map V.str)) := g_same
  generalize upd H2 t _ = H3 at *
  dsimp only
  walk_at "rd"
  refine next_use s3 (by simp) (by unfold bigN; omega) fun r4 H4 h40 h41 k4 s4 => ?_
  have hlt : r4.toNat < ((["x", "01", "12345678", "-1", "Read", "undo", "good", "", "0", "enough", "q7", "forward", "lets"] : List Str).map V.str).length := by simp at h41 ⊢; omega
  refine r_ixL (SqL.of (k4 _ _ htL (by simp [nt]))) (at_int h40 (List.getElem?_eq_getElem hlt)) ?_
  obtain ⟨oth, ho, eo⟩ := List.mem_map.mp (List.getElem_mem hlt)
  rw [← eo]
  have hoth : oth.length ≤ 20 ∧ ∀ c ∈ oth.cps.toList, c < 200 := by
    have : ∀ y ∈ (["x", "01", "12345678", "-1", "Read", "undo", "good", "", "0", "enough", "q7", "forward", "lets"] : List Str), y.length ≤ 20 ∧ ∀ c ∈ y.cps.toList, c < 200 := by decide +kernel
    exact this oth ho
  have kp4 := kp3.trans k4
  have hpL := k4 _ _ hpL (by simp [np])
  walk_at "rd"
  refine next_use s4 (by decide) (by unfold bigN; omega) fun way H5 h50 h51 k5 s5 => ?_
  have kp5 := kp4.trans k5
  have hpL := k5 _ _ hpL (by simp [np])
  have fin : ∀ (x : Str) H', Kp [] H5 H' → x.length ≤ 10000 → Sm x → Q (.str x) H' := fun x H' k6 h1 h2 => k x H' h1 h2 (kp5.trans (k6.sub (by simp))) ((s5.kp k6).le (by omega))
  walk_at "rd"
  refine if_b (fun h0 => ?_) (fun h0 => ?_)
  · refine o_ret (ls_join (ls_cat (ls_sl rfl hpL hss po_no (po_var rfl)) (ls_sl rfl hpL hss (po_add rfl) po_no) (by omega)) (by omega) fin)
  walk_at "rd"
  refine if_b (fun h0 => ?_) (fun h0 => ?_)
  · refine o_ret (ls_join (ls_cat (ls_cat (ls_sl rfl hpL hss po_no (po_var rfl)) (ls_one rfl hoth.2) (by omega)) (ls_sl rfl hpL hss (po_var rfl) po_no) (by omega)) (by omega) fin)
  walk_at "rd"
  refine if_b (fun h0 => ?_) (fun h0 => ?_)
  · refine o_ret (ls_join (ls_cat (ls_cat (ls_sl rfl hpL hss po_no (po_var rfl)) (ls_one rfl hoth.2) (by omega)) (ls_sl rfl hpL hss (po_add rfl) po_no) (by omega)) (by omega) fin)
  walk_at "rd"
  refine if_b (fun h0 => ?_) (fun h0 => ?_)
  · refine o_ret (ls_join (ls_cat (ls_cat (ls_cat (ls_sl rfl hpL hss po_no (po_var rfl)) (ls_sl rfl hpL hss (po_add rfl) (po_add rfl)) (by omega)) (ls_sl rfl hpL hss (po_var rfl) (po_add rfl)) (by omega)) (ls_sl rfl hpL hss (po_add rfl) po_no) (by omega)) (by omega) fin)
  have e1 : (" " : Str).length = 1 := by rfl
  have e2 : (" 0" : Str).length = 2 := by rfl
  have e3 : ("  " : Str).length = 2 := by rfl
  have g1 : Sm (" " : Str) := sm_of (by decide +kernel)
  have g2 : Sm (" 0" : Str) := sm_of (by decide +kernel)
  obtain ⟨rl, rs⟩ := repl_sp y
  refine o_next ?_
  dsimp only
  refine o_ret (draw_of (m := 4) (vs := [y ++ " ", " " ++ y, y ++ " 0", Txt.replace y " " "  "].map V.str) (fun R r => ?_) rfl s5 (by unfold bigN; omega) (by simp) (by simp) fun v hv H6 k6 s6 => ?_)
  · walk_at "rd"
    refine r_adds (sz (by omega)) ?_
    walk_at "rd"
    refine r_adds (sz (by omega)) ?_
    walk_at "rd"
    refine r_adds (sz (by omega)) ?_
    walk_at "rd"
    refine ⟨_, rfl, y, rfl, by rw [e3]; omega, ?_⟩
    walk_at "rd"
    exact ⟨sz (by simp), fun t2 ht2 => r _ _ (kp_new ht2) g_same (s5.ne ht2).1⟩
  · obtain ⟨x, hx, rfl⟩ := List.mem_map.mp hv
    have hx' : x = y ++ " " ∨ x = " " ++ y ∨ x = y ++ " 0" ∨ x = Txt.replace y " " "  " := by simpa using hx
    refine k x H6 ?_ ?_ (kp5.trans k6) (s6.le (by omega))
    · rcases hx' with rfl | rfl | rfl | rfl
      · rw [app_len]; omega
      · rw [app_len]; omega
      · rw [app_len]; omega
      · omega
    · rcases hx' with rfl | rfl | rfl | rfl
      · exact Sm_app hsm g1
      · exact Sm_app g1 hsm
      · exact Sm_app hsm g2
      · exact rs hsm
end
end K80
namespace Sf
open PySem PySem.Spec PyProof.Rows L2
/-- data that is short and shown short -/
structure Shw (d : PyData) (n h : Nat) : Prop where
  sh : d.showable = true
  nd : d.hasDict = false
  dp : d.depth ≤ h
  ls : d.leavesShort 13 = true
  we : d.weight ≤ n
structure ShwA (ds : List PyData) (n h : Nat) : Prop where
  sh : PyData.showableAll ds = true
  nd : PyData.hasDictAll ds = false
  dp : PyData.depthAll ds ≤ h
  ls : PyData.leavesShortAll 13 ds = true
  we : PyData.weightAll ds ≤ n
theorem Shw.le {d : PyData} {n m h k : Nat} (s : Shw d n h) (a : n ≤ m) (b : h ≤ k) : Shw d m k := ⟨s.sh, s.nd, Nat.le_trans s.dp b, s.ls, Nat.le_trans s.we a⟩
theorem ShwA.le {d : List PyData} {n m h k : Nat} (s : ShwA d n h) (a : n ≤ m) (b : h ≤ k) : ShwA d m k := ⟨s.sh, s.nd, Nat.le_trans s.dp b, s.ls, Nat.le_trans s.we a⟩
theorem Shw.non : Shw .none 0 0 := ⟨rfl, rfl, Nat.le_refl _, rfl, Nat.le_refl _⟩
theorem Shw.bl (b : Bool) : Shw (.bool b) 0 0 := ⟨rfl, rfl, Nat.le_refl _, rfl, Nat.le_refl _⟩
theorem Shw.str {x : Str} (h : Sm x) : Shw (.str x) x.length 0 := by
  refine ⟨rfl, rfl, Nat.le_refl _, ?_, ?_⟩
  · simp only [PyData.leavesShort, List.all_eq_true, decide_eq_true_eq]
    intro c hc
    exact Nat.lt_trans (h c hc) (by decide)
  · simp only [PyData.weight]; exact Nat.le_refl _
theorem Shw.tup {ds : List PyData} {n h : Nat} (s : ShwA ds n h) : Shw (.tuple ds) n (h + 1) :=
  ⟨by simpa only [PyData.showable] using s.sh, by simpa only [PyData.hasDict] using s.nd, by simpa only [PyData.depth] using Nat.succ_le_succ s.dp, by simpa only [PyData.leavesShort] using s.ls, by simpa only [PyData.weight] using s.we⟩
theorem Shw.lst {ds : List PyData} {n h : Nat} (s : ShwA ds n h) : Shw (.list ds) n (h + 1) :=
  ⟨by simpa only [PyData.showable] using s.sh, by simpa only [PyData.hasDict] using s.nd, by simpa only [PyData.depth] using Nat.succ_le_succ s.dp, by simpa only [PyData.leavesShort] using s.ls, by simpa only [PyData.weight] using s.we⟩
theorem ShwA.nil : ShwA [] 0 0 := ⟨rfl, rfl, Nat.le_refl _, rfl, Nat.le_refl _⟩
theorem ShwA.cons {d : PyData} {ds : List PyData} {n m h : Nat} (a : Shw d n h) (s : ShwA ds m h) : ShwA (d :: ds) (n + 1 + m) h := by
  refine ⟨?_, ?_, ?_, ?_, ?_⟩
  · simp only [PyData.showableAll, a.sh, s.sh, Bool.and_self]
  · simp only [PyData.hasDictAll, a.nd, s.nd, Bool.or_self]
  · simp only [PyData.depthAll]
    exact Nat.max_le.mpr ⟨a.dp, s.dp⟩
  · simp only [PyData.leavesShortAll, a.ls, s.ls, Bool.and_self]
  · simp only [PyData.weightAll]
    have := a.we
    have := s.we
    omega
theorem ofString_len (z : Int) : (PyData.shown (.int z)).length = (toString z).length := by
  show (Str.ofString (toString z)).length = _
  rw [PySem.ofString_length]
theorem Shw.int {z : Int} (h0 : z.natAbs < 2 ^ 36) : Shw (.int z) 37 0 := by
  have h2 : z.natAbs.log2 < 36 := by
    by_cases hz : z.natAbs = 0
    · rw [hz]; decide
    · exact (Nat.log2_lt hz).mpr h0
  refine ⟨?_, rfl, Nat.le_refl _, ?_, ?_⟩
  · simp only [PyData.showable, decide_eq_true_eq]
    omega
  · simp only [PyData.leavesShort, decide_eq_true_eq]
    rw [ofString_len]
    exact int_text_length_le10 (k := 12) (by decide) (Nat.lt_trans h0 (by decide))
  · simp only [PyData.weight]
    split <;> omega
theorem ShwA.strs : ∀ {l : List Str}, (∀ y ∈ l, Sm y) → ShwA (l.map .str) ((l.map Str.length).sum + l.length) 0
  | [], _ => .nil
  | a :: r, h => by
    have := ShwA.cons (Shw.str (h a (by simp))) (ShwA.strs (l := r) fun y hy => h y (by simp [hy]))
    refine this.le ?_ (Nat.le_refl _)
    simp only [List.map_cons, List.sum_cons, List.length_cons]
    omega
theorem ShwA.ints : ∀ {l : List Int}, (∀ y ∈ l, y.natAbs < 2 ^ 36) → ShwA (l.map .int) (38 * l.length) 0
  | [], _ => .nil
  | a :: r, h => by
    have := ShwA.cons (Shw.int (h a (by simp))) (ShwA.ints (l := r) fun y hy => h y (by simp [hy]))
    refine this.le ?_ (Nat.le_refl _)
    simp only [List.length_cons]
    omega
theorem Shw.fits {d : PyData} {n h : Nat} (s : Shw d n h) (hn : n ≤ 1000000) : (PyData.list [d]).shown.length ≤ sizeLine := by
  have e := Shw.lst (ShwA.cons s (ShwA.nil.le (Nat.le_refl _) (Nat.zero_le _)))
  exact PyData.shown_fits (B := 13) (by decide) (by decide) e.ls (Nat.le_trans e.we (by rw [show (2 : Nat) ^ 20 = 1048576 by decide]; omega))
end Sf
namespace K80
open PySem PySem.Spec PyProof.Rows L2 Sf
theorem shw_ints {r : List Str} (h : r.all isN = true) : ShwA (r.map fun x => .int (intOf x)) (38 * r.length) 0 := by
  have e := ShwA.ints (l := r.map intOf) fun y hy => by
    obtain ⟨x, hx, rfl⟩ := List.mem_map.mp hy
    have := isN_int (List.all_eq_true.mp h x hx)
    omega
  rw [List.map_map, List.length_map] at e
  exact e
theorem shw_nums {f : Str} {m : Int} {r : List Str} {n : Nat} (hf : Sm f) (hn : f.length + 38 * r.length + 10 ≤ n) : Shw (nCmd f m r) n 1 := by
  unfold nCmd
  split
  · rename_i h
    exact (Shw.tup (ShwA.cons (Shw.str hf) (shw_ints h.2))).le (by omega) (by omega)
  · exact Shw.non.le (by omega) (by omega)
theorem shw_kinds {f : Str} {m : Int} {r : List Str} {n : Nat} (hf : Sm f) (hr : ∀ y ∈ r, Sm y ∧ y.length ≤ 10000) (hn : f.length + 38 * r.length + 10010 ≤ n) : Shw (kCmd f m r) n 1 := by
  cases r with
  | nil => exact Shw.non.le (by omega) (by omega)
  | cons g s =>
    show Shw (if _ then _ else _) _ _
    split
    · rename_i h
      have hg := hr g (by simp)
      simp only [List.length_cons] at hn
      exact (Shw.tup (ShwA.cons (Shw.str hf) (ShwA.cons (Shw.str hg.1) (shw_ints h.2.2)))).le (by omega) (by omega)
    · exact Shw.non.le (by omega) (by omega)
theorem shw_parse {x : Str} (hl : x.length ≤ 10000) (hs : Sm x) : Shw (parse x) 900000 1 := by
  unfold parse
  split
  · exact (Shw.tup .nil).le (by omega) (by omega)
  · have h1 := Sm_split hs
    have h2 := split_len x
    have h3 := fun y (hy : y ∈ Txt.split x " ") => mem_len hy
    split
    · exact Shw.non.le (by omega) (by omega)
    · rename_i f r e
      rw [e] at h1 h2 h3
      have hf := h1 f (by simp)
      have hr : ∀ y ∈ r, Sm y := fun y hy => h1 y (by simp [hy])
      have lf := h3 f (by simp)
      have lr : ∀ y ∈ r, y.length ≤ 10000 := fun y hy => by have := h3 y (by simp [hy]); have e5 : (f :: r).length = r.length + 1 := rfl; omega
      have h4 := join_le r
      simp only [List.map_cons, List.sum_cons, List.length_cons] at *
      unfold cmdOf
      split
      · exact (Shw.tup (ShwA.cons (Shw.str hf) (ShwA.cons (Shw.str (Sm_join hr)) .nil))).le (by omega) (by omega)
      · split
        · exact (Shw.tup (ShwA.cons (Shw.str hf) .nil)).le (by omega) (by omega)
        · split
          · exact (Shw.tup (ShwA.cons (Shw.str hf) (ShwA.strs hr))).le (by omega) (by omega)
          · split
            · exact shw_nums hf (by omega)
            · split
              · exact shw_kinds hf (fun y hy => ⟨hr y hy, lr y hy⟩) (by omega)
              · exact Shw.non.le (by omega) (by omega)
section
variable {K : PySem.W.Frag} {ca : Nat → Addr} {H : Hp}
theorem same_use {E : XK} {Q : VK} {u v : V} {x : Str} (a : Dp K H u (parse x)) (b : Dp K H v (parse x)) (hl : x.length ≤ 10000) (hs : Sm x) (q : ∀ H', Kp [] H H' → Q (.bl true) H') : sp_law_same K [u, v] H Q E := by
  have s := shw_parse hl hs
  exact ⟨u, v, _, rfl, a, b, s.sh, s.nd, Nat.le_trans s.dp (by omega), s.fits (by omega), q⟩
theorem dp_not_non {v : V} {d : PyData} (h : Dp K H v d) (hd : d ≠ .none) : v ≠ .non := by
  cases h <;> simp_all
theorem pure_law (vs : List V) (H : Hp) (Q : VK) (E : XK) (h : sp_law K vs H Q E) : t_law K ca (fin Q) (start ["script", "state", "k", "line", "due", "spoilt", "told"] vs) H := by
  obtain ⟨a, ns, rfl, ha, hl, k⟩ := h
  unfold t_law
  walk_at "rd"
  refine ⟨a, ns, rfl, ha, hl, fun nu xs H1 k1 hnu0 hnu hx hxl hxr => ?_⟩
  walk_at "rd"
  refine ⟨sz (by simp), fun st hst => ?_⟩
  have s1 : StB (upd H1 st (.lst [.ref nu, .int 0])) st nu 0 := ⟨0, xs, Nat.le_refl _, g_same, g_new hst hnu, ne_of_none hnu hst, hx, hxl, hxr⟩
  generalize upd H1 st _ = H2 at *
  walk_at "rd"
  refine ⟨"", rfl, by decide +kernel, fun v0 H3 k3 d3 => ?_⟩
  walk_at "rd"
  refine ⟨sz (by simp), fun t0 ht0 => ?_⟩
  walk_at "rd"
  have e0 : parse "" = .tuple [] := rfl
  refine same_use (x := "") ((kp_new ht0).dp0 d3) (by rw [e0]; exact .tup (SqT.of g_same) .nil) (by decide +kernel) (sm_of (by decide +kernel)) fun H4 k4 => ?_
  have s4 : StB H4 st nu 0 := (s1.kp k3).new ht0 |>.kp k4
  walk_at "rd"
  unfold tFor iRng1
  walk_at "rd"
  refine ⟨6, rfl, by omega, by omega, ?_⟩
  refine for_range (lo := 0) (n := (6 : Int).toNat) (fun m σ' H' => (∃ b c d e f, σ' = [some (.ref a), some (.ref st), b, c, d, e, f]) ∧ StB H' st nu (100 * m)) ⟨⟨none, none, none, none, none, rfl⟩, s4⟩ (fun m σ' H' hm h => ?_) fun σ' H' h => ?_
  · obtain ⟨⟨b, c, d, e, f, rfl⟩, s5⟩ := h
    have hm : m < 6 := hm
    walk_at "rd"
    refine ⟨st, nu, 100 * m, rfl, s5, by unfold bigN; omega, fun x H5 hx hsm hp k5 s5 => ?_⟩
    walk_at "rd"
    refine ⟨x, rfl, by omega, fun v H6 k6 d6 => ?_⟩
    walk_at "rd"
    rw [decide_eq_false (dp_not_non d6 hp)]
    refine iteF ?_
    walk_at "rd"
    refine ⟨x, rfl, by omega, fun u H7 k7 d7 => ?_⟩
    walk_at "rd"
    refine same_use d7 (k7.dp0 d6) (by omega) hsm fun H8 k8 => ?_
    walk_at "rd"
    have s8 := ((s5.kp k6).kp k7).kp k8
    refine ⟨st, nu, x, _, rfl, hx, hsm, s8, by unfold bigN; omega, fun y H9 hy hsy k9 s9 => ?_⟩
    walk_at "rd"
    refine ⟨y, rfl, hy, fun v2 H10 k10 d10 => ?_⟩
    walk_at "rd"
    refine ⟨y, rfl, hy, fun u2 H11 k11 d11 => ?_⟩
    walk_at "rd"
    refine same_use d11 (k11.dp0 d10) hy hsy fun H12 k12 => ?_
    walk_at "rd"
    exact ⟨⟨_, _, _, _, _, rfl⟩, (((s9.kp k10).kp k11).kp k12).le (by omega)⟩
  · walk_at "rd"
    exact k _
end
end K80
end
/-! the end of a row whose law's promise (FnG) is for callers without guards -/
namespace Sf
open PySem PySem.Spec PyProof.Rows L2
/-- what the law's call must show -/
def Told (s1 : Shared) (r : Result) (s' : Shared) : Prop := r = .ok (.ret (.bool true)) ∧ OldK s1.heap s'.heap ∧ s'.os = s1.os ∧ AllBare s'.gens
section
variable {Pg : Program} {wo : World} {Kf : PySem.W.Frag} {glo gb : Str → Option Value} {lv : Nat} {fa a : Addr} {fu : FuncData} {x : Str} {pr : Sp} {s1 : Shared} {us : List Value} {ns : List Int}
/-- the call from a tracked heap Hh that knows the script at most -/
theorem call_from (kin : Kf.In s1.heap) (gl : s1.heap.Ns mainGlobals glo) (bl : s1.heap.Ns builtinsNs gb) (boot : ∀ y : Str, y ≠ "__name__" → gb y = bootBuiltins y) (nol : s1.heap.NoLimit) (gens : s1.gens = #[])
    (ob : s1.heap.get? a = some ⟨.type "list", none, .seq us.toArray, #[]⟩) (ro : Room lv callerA) (bt : BindsTo s1 fu ⟨[.ref a], []⟩ [(x, .ref a)])
    (F : ∀ bs : Heap, Kf.In bs → bs.Ns mainGlobals glo → FnG Pg wo Kf glo bs CX0 lv fa fu [x] pr) (Hh : Hp) (only : Only Hh) (ok : HOk Pg wo Hh s1.heap) (mine : ∀ b, Hh b ≠ none → b = a) (out : Hh a ≠ none → Kf.lookup a = none)
    (hp : pr [.ref a] Hh (fun v _ => v = .bl true) fun _ _ _ => False) : codeAny (model Pg wo) callerA (.call (.ref fa) ⟨[.ref a], []⟩) (Told s1) s1 := by
  have free : ∀ {b : Addr} {o : Obj}, s1.heap.get? b = some o → (∀ h : b = a, False) → (hidT s1.heap Hh).get? b = some o := fun {b o} e nb => by
    refine hidT_get e ?_
    cases q : Hh b with
    | none => rfl
    | some z => exact (nb (mine b (by rw [q]; simp))).elim
  have nsB : ∀ {b : Addr} {m : Str → Option Value}, s1.heap.Ns b m → (hidT s1.heap Hh).Ns b m := by
    rintro b m ⟨o, es, ep, e, d, r⟩
    refine ⟨o, es, ep, free e fun hb => ?_, d, r⟩
    subst hb
    rw [ob] at e
    injection e with e
    subst e
    have d' : Data.seq us.toArray _ = Data.dict es ep := d
    nomatch d'
  have kb : Kf.In (hidT s1.heap Hh) := fun b o e => by
    refine hidT_get (kin b o e) ?_
    cases q : Hh b with
    | none => rfl
    | some z =>
      have hb := mine b (by rw [q]; simp)
      subst hb
      have := out (by rw [q]; simp)
      rw [e] at this
      nomatch this
  have lim : (hidT s1.heap Hh).NoLimit := by
    obtain ⟨mc, z1, z2⟩ := nol
    exact ⟨mc, nsB z1, z2⟩
  have md : Mod Kf glo (hidT s1.heap Hh) := ⟨kb, nsB gl, ⟨gb, nsB bl, boot⟩, lim⟩
  have nob : ∀ b : Addr, b ∉ ([] : List Addr) := fun b => by simp
  have en : Env0 Pg wo Kf glo (hidT s1.heap Hh) callerA [] s1 Hh := ⟨rfl, md, fun b o e => of_hidT e, Nat.le_of_eq (hidT_size _ _), trivial, fun b hb => (nob b hb).elim, ok, .of_eq gens⟩
  refine codeAny_mono ((F _ kb (nsB gl)).go callerA [] s1 Hh ⟨[.ref a], []⟩ [.ref a] [.ref a] _ _ rfl ro en bt (.cons rfl .nil) hp) fun r s' h => ?_
  match r, h with
  | .error e, h => exact False.elim h
  | .ok .next, h => exact False.elim h
  | .ok .brk, h => exact False.elim h
  | .ok .cont, h => exact False.elim h
  | .ok (.ret u), ⟨v, H2, os, bare, un, ok2, rl, q⟩ =>
    have q2 : v = .bl true := q
    rw [q2] at rl
    have ru : u = Value.bool true := rl
    refine ⟨by rw [ru], OldK.of_keep fun b o e => ?_, os, bare⟩
    rcases only b with z | ⟨fo, ys, z⟩
    · exact un.keep b o e z (nob b) (nob b)
    · have before := (ok b _ z).1
      have after := (ok2 b _ (un.frzs b fo _ z)).1
      rw [before] at e
      rw [← Option.some.inj e]
      exact after
theorem call_law (kin : Kf.In s1.heap) (gl : s1.heap.Ns mainGlobals glo) (bl : s1.heap.Ns builtinsNs gb) (boot : ∀ y : Str, y ≠ "__name__" → gb y = bootBuiltins y) (nol : s1.heap.NoLimit) (gens : s1.gens = #[])
    (ob : s1.heap.get? a = some ⟨.type "list", none, .seq us.toArray, #[]⟩) (li : IntsAre us ns) (small : ns.length ≤ sizeLine) (ro : Room lv callerA) (bt : BindsTo s1 fu ⟨[.ref a], []⟩ [(x, .ref a)])
    (F : ∀ bs : Heap, Kf.In bs → bs.Ns mainGlobals glo → FnG Pg wo Kf glo bs CX0 lv fa fu [x] pr)
    (hp : ∀ Hh : Hp, SqL Kf Hh a (ns.map V.int) → pr [.ref a] Hh (fun v _ => v = .bl true) fun _ _ _ => False) : codeAny (model Pg wo) callerA (.call (.ref fa) ⟨[.ref a], []⟩) (Told s1) s1 := by
  have vals := vals_ints li
  have long := li.length
  by_cases hk : Kf.lookup a = none
  · have yes : ∀ u : HO, (fun b => if b = a then some u else none : Hp) a = some u := fun u => if_pos rfl
    have no : ∀ (u : HO) (b : Addr), b ≠ a → (fun b => if b = a then some u else none : Hp) b = none := fun u b n => if_neg n
    refine call_from kin gl bl boot nol gens ob ro bt F (fun b => if b = a then some (.frz ⟨.type "list", none, .seq us.toArray, #[]⟩ (.lst (ns.map V.int))) else none) (fun b => ?_) (fun b u z => ?_) (fun b z => ?_) (fun _ => hk) (hp _ (.inl (.inr ⟨_, yes _⟩)))
    · by_cases hb : b = a
      · subst hb; exact .inr ⟨_, _, yes _⟩
      · exact .inl (no _ b hb)
    · by_cases hb : b = a
      · subst hb
        rw [yes] at z
        injection z with z
        subst z
        exact ⟨ob, by rw [List.length_map]; exact small, us, _, vals, ob⟩
      · rw [no _ b hb] at z
        nomatch z
    · by_cases hb : b = a
      · exact hb
      · exact absurd (no _ b hb) z
  · obtain ⟨o, ho⟩ := Option.ne_none_iff_exists'.mp hk
    have same := kin a o ho
    rw [ob] at same
    have eo := (Option.some.inj same).symm
    subst eo
    refine call_from kin gl bl boot nol gens ob ro bt F (fun _ => none) (fun _ => .inl rfl) (fun b u z => nomatch z) (fun b z => absurd rfl z) (fun z => absurd rfl z) (hp _ (.inr ⟨_, us.toArray, _, ho, rfl, rfl, rfl, ?_, by simpa using vals⟩))
    rw [List.size_toArray, long]
    exact small
end
/-- a law row's walk, its only argument the script -/
theorem walk_G {l : PySem.W.OpenLaw} {n lv : Nat} {q : Program} {loose : List Str} {XP : (Str → Option Value) → Heap → Prop} {YP : World → Heap → Prop} {d : DefRec} {Kf : Params → PySem.W.Frag} {pr : PySem.W.Frag → Sp}
    (most : l.most = some n) (small : n ≤ sizeLine) (plain : d.params.defaults = []) (ro : Room lv callerA) (kin : ∀ (w : World) (h : Heap), YP w h → (Kf w.params).In h) (nm : d.name = "law")
    (F : ∀ (w : World) (glo : Str → Option Value) (h : Heap), (Kf w.params).In h → h.Ns mainGlobals glo →
      ∃ (fa : Addr) (fu : FuncData), glo "law" = some (.ref fa) ∧ Binds (Kf w.params) fu ["script"] [] ∧ ∀ bs : Heap, (Kf w.params).In bs → bs.Ns mainGlobals glo → FnG l.prog w (Kf w.params) glo bs CX0 lv fa fu ["script"] (pr (Kf w.params)))
    (hp : ∀ (K : PySem.W.Frag) (Hh : Hp) (a : Addr) (ns : List Int), ns.length ≤ n → SqL K Hh a (ns.map V.int) → pr K [.ref a] Hh (fun v _ => v = .bl true) fun _ _ _ => False) :
    PySem.W.WalkO q loose XP YP l.row.toRowW d [] (fun f vs => PySem.call f vs) := by
  refine Att.attach_call most plain fun w s0 s1 glo gb fa o pm cd doc a us ns G Y _ _ _ at_ ob li le gens => ?_
  have ki := kin w _ Y
  obtain ⟨f2, fu, e2, bi, fn⟩ := F w glo _ ki G.T.g
  rw [nm, e2] at at_
  have ef : f2 = fa := Value.ref.inj (Option.some.inj at_)
  subst ef
  exact call_law ki G.T.g G.T.b G.T.builtins G.T.nolimit gens ob li (Nat.le_trans le small) ro (bi s1 [.ref a] ki rfl) fn (fun Hh sq => hp _ Hh a ns le sq)
/-! ### what the top wrote -/
section
variable {K : PySem.W.Frag} {h : Heap} {mg : Str → Option Value} {x : Str} {f : Addr} {w : World}
theorem df_mk {st : Stmt} {pl : List Str} {od an : Option Addr} {sl : Array (Option Value)} {oc kV dc pm cd ct : Value} (X : K.In h) (G : h.Ns mainGlobals mg) (a : PySem.W.nsIn K mainGlobals x = some (some (.ref f)))
    (l : K.lookup f = some ⟨oc, od, .func (PySem.W.fnOf x x (defArgs st) (defBody st) (defScope st) .none kV dc pm an cd ct), sl⟩) (c : PySem.W.codeIn K cd x = true) (k : PySem.W.keepIn K (.ref f) = true)
    (b : ∀ F : Fun K x x st f (PySem.W.fnOf x x (defArgs st) (defBody st) (defScope st) .none kV dc pm an cd ct), Binds K (PySem.W.fnOf x x (defArgs st) (defBody st) (defScope st) .none kV dc pm an cd ct) pl []) : ∃ ad fu, Df K mg x st pl ad fu :=
  ⟨f, _, fun_mk l c k, PySem.W.mg_of X G a, b (fun_mk l c k)⟩
theorem gc_mk {v : V} {u : Value} (X : K.In h) (G : h.Ns mainGlobals mg) (a : PySem.W.nsIn K mainGlobals x = some (some u)) (r : RelV v u) : Gc mg x v := ⟨u, PySem.W.mg_of X G a, r⟩
theorem sqT_mk {xs : List V} {od : Option Addr} {its : Array Value} {n : Nat} {sl : Array (Option Value)} (l : K.lookup f = some ⟨.type "tuple", od, .seq its n, sl⟩) (z : its.size ≤ 1000) (v : Vals xs its.toList) : ∀ H, SqT K H f xs :=
  fun H => .inr ⟨_, its, n, l, rfl, rfl, sz (Nat.le_trans z (by decide)), v⟩
/-- a written dict's entries -/
def Ents (P : Params) : List DictEntry → List (Str × Int) → Prop
  | [], [] => True
  | e :: r, q :: m => (∃ t t2, e.key = .str q.1 t ∧ e.hash = PyData.keyHash P q.1 ∧ e.val = .int q.2 t2) ∧ Ents P r m
  | _, _ => False
theorem ents_lit {P : Params} : ∀ {es : List DictEntry} {m : List (Str × Int)}, Ents P es m → PySem.W.KeysLit P es
  | [], _, _ => trivial
  | _ :: _, _ :: _, ⟨⟨t, _, a, b, _⟩, r⟩ => ⟨⟨_, t, a, b⟩, ents_lit r⟩
  | _ :: _, [], h => h.elim
theorem ents_find {P : Params} (z : Str) : ∀ {es : List DictEntry} {m : List (Str × Int)}, Ents P es m → (es.any (·.refKey) = false) ∧ (m.lookup z = none → es.find? (·.key.isStr z) = none) ∧ ∀ i, m.lookup z = some i → ∃ e t, es.find? (·.key.isStr z) = some e ∧ e.val = .int i t
  | [], [], _ => ⟨rfl, fun _ => rfl, fun i h => nomatch h⟩
  | e :: r, q :: m, ⟨⟨t, t2, a, _, b⟩, h⟩ => by
    obtain ⟨i1, i2, i3⟩ := ents_find z h
    obtain ⟨k, n⟩ := q
    have er : e.refKey = false := by unfold DictEntry.refKey; rw [a]
    refine ⟨by rw [List.any_cons, er, i1]; rfl, ?_⟩
    rw [List.lookup_cons]
    by_cases hz : z = k
    · subst hz
      have ek : e.key.isStr z = true := by rw [a]; simp [Value.isStr]
      simp only [beq_self_eq_true]
      refine ⟨(fun y => nomatch y), fun i y => ⟨e, t2, by rw [List.find?_cons, ek], ?_⟩⟩
      have : n = i := Option.some.inj y
      rw [b, this]
    · have ek : e.key.isStr z = false := by rw [a]; simp [Value.isStr]; exact fun y => hz y.symm
      have ez : (z == k) = false := by simpa using hz
      rw [ez, List.find?_cons, ek]
      exact ⟨i2, i3⟩
  | [], _ :: _, h => h.elim
  | _ :: _, [], h => h.elim
theorem kd_mk {m : List (Str × Int)} {es : Array DictEntry} {n : Nat} (l : K.lookup f = some ⟨.type "dict", none, .dict es n, #[]⟩) (e : Ents w.params es.toList m) (lo : (f == sysModules) = false) : (∃ es n, KDict K w f es n) ∧ KdInts K f m := by
  refine ⟨⟨es, n, l, ents_lit e, lo⟩, fun z => ?_⟩
  obtain ⟨h1, h2, h3⟩ := ents_find z e
  unfold PySem.W.nsIn
  rw [l]
  dsimp only
  cases q : m.lookup z with
  | none =>
    rw [h2 q]
    dsimp only
    rw [h1]
    exact ⟨none, rfl, (fun _ => rfl), fun i y => by cases y⟩
  | some i =>
    obtain ⟨e, t, e1, e2⟩ := h3 i q
    rw [e1]
    exact ⟨some e.val, rfl, (fun y => nomatch y), fun j y => ⟨t, by rw [e2, Option.some.inj y]⟩⟩
end
end Sf
namespace K80
open PySem PySem.Spec PyProof.Rows L2 Sf
section
variable {P : Program} {w : World} {K : PySem.W.Frag} {mg : Str → Option Value} {base : Heap} {ad : Nat → Addr} {fu : Nat → FuncData} {ca : Nat → Addr}
theorem law_ok (T : Tx w K mg ad fu ca) : FnG P w K mg base CX0 4 (ad 25) (fu 25) ["script"] (sp_law K) := by
  have G_is_letters : FnG P w K mg base CX0 1 (ad 8) (fu 8) ["text"] (sp_is_letters K) := ok_fun T.d_is_letters.F sc_is_letters (fun a b c d h => by first | (obtain ⟨_, rfl, _⟩ := h; rfl) | (obtain ⟨_, _, rfl, _⟩ := h; rfl) | (obtain ⟨_, _, _, rfl, _⟩ := h; rfl) | (obtain ⟨_, _, _, _, rfl, _⟩ := h; rfl) | (obtain ⟨_, _, _, _, _, rfl, _⟩ := h; rfl) | (obtain ⟨_, _, _, _, _, _, rfl, _⟩ := h; rfl)) (body_is_letters T) (pure_is_letters)
  have G_is_number : FnG P w K mg base CX0 1 (ad 9) (fu 9) ["text"] (sp_is_number K) := ok_fun T.d_is_number.F sc_is_number (fun a b c d h => by first | (obtain ⟨_, rfl, _⟩ := h; rfl) | (obtain ⟨_, _, rfl, _⟩ := h; rfl) | (obtain ⟨_, _, _, rfl, _⟩ := h; rfl) | (obtain ⟨_, _, _, _, rfl, _⟩ := h; rfl) | (obtain ⟨_, _, _, _, _, rfl, _⟩ := h; rfl) | (obtain ⟨_, _, _, _, _, _, rfl, _⟩ := h; rfl)) (body_is_number T) (pure_is_number)
  have G_numbered_command : FnG P w K mg base CX0 2 (ad 10) (fu 10) ["words"] (sp_numbered_command K) := ok_fun T.d_numbered_command.F sc_numbered_command (fun a b c d h => by first | (obtain ⟨_, rfl, _⟩ := h; rfl) | (obtain ⟨_, _, rfl, _⟩ := h; rfl) | (obtain ⟨_, _, _, rfl, _⟩ := h; rfl) | (obtain ⟨_, _, _, _, rfl, _⟩ := h; rfl) | (obtain ⟨_, _, _, _, _, rfl, _⟩ := h; rfl) | (obtain ⟨_, _, _, _, _, _, rfl, _⟩ := h; rfl)) (body_numbered_command T G_is_number) (pure_numbered_command T.i_NUMBERS)
  have G_kind_command : FnG P w K mg base CX0 2 (ad 11) (fu 11) ["words"] (sp_kind_command K) := ok_fun T.d_kind_command.F sc_kind_command (fun a b c d h => by first | (obtain ⟨_, rfl, _⟩ := h; rfl) | (obtain ⟨_, _, rfl, _⟩ := h; rfl) | (obtain ⟨_, _, _, rfl, _⟩ := h; rfl) | (obtain ⟨_, _, _, _, rfl, _⟩ := h; rfl) | (obtain ⟨_, _, _, _, _, rfl, _⟩ := h; rfl) | (obtain ⟨_, _, _, _, _, _, rfl, _⟩ := h; rfl)) (body_kind_command T G_is_number) (pure_kind_command T.i_KINDS)
  have G_read_command : FnG P w K mg base CX0 3 (ad 12) (fu 12) ["line"] (sp_read_command K) := ok_fun T.d_read_command.F sc_read_command (fun a b c d h => by first | (obtain ⟨_, rfl, _⟩ := h; rfl) | (obtain ⟨_, _, rfl, _⟩ := h; rfl) | (obtain ⟨_, _, _, rfl, _⟩ := h; rfl) | (obtain ⟨_, _, _, _, rfl, _⟩ := h; rfl) | (obtain ⟨_, _, _, _, _, rfl, _⟩ := h; rfl) | (obtain ⟨_, _, _, _, _, _, rfl, _⟩ := h; rfl)) (body_read_command T G_is_letters G_kind_command G_numbered_command) (pure_read_command T.s_TEXTS T.s_BARE T.i_NUMBERS T.i_KINDS)
  have G_law_same : FnG P w K mg base CX0 1 (ad 14) (fu 14) ["told", "due"] (sp_law_same K) := ok_fun T.d_law_same.F sc_law_same (fun a b c d h => by first | (obtain ⟨_, rfl, _⟩ := h; rfl) | (obtain ⟨_, _, rfl, _⟩ := h; rfl) | (obtain ⟨_, _, _, rfl, _⟩ := h; rfl) | (obtain ⟨_, _, _, _, rfl, _⟩ := h; rfl) | (obtain ⟨_, _, _, _, _, rfl, _⟩ := h; rfl) | (obtain ⟨_, _, _, _, _, _, rfl, _⟩ := h; rfl)) (body_law_same T) (pure_law_same)
  have G_law_stream : FnG P w K mg base CX0 1 (ad 15) (fu 15) ["script"] (sp_law_stream K) := ok_fun T.d_law_stream.F sc_law_stream (fun a b c d h => by first | (obtain ⟨_, rfl, _⟩ := h; rfl) | (obtain ⟨_, _, rfl, _⟩ := h; rfl) | (obtain ⟨_, _, _, rfl, _⟩ := h; rfl) | (obtain ⟨_, _, _, _, rfl, _⟩ := h; rfl) | (obtain ⟨_, _, _, _, _, rfl, _⟩ := h; rfl) | (obtain ⟨_, _, _, _, _, _, rfl, _⟩ := h; rfl)) (body_law_stream T) (pure_law_stream)
  have G_law_next : FnG P w K mg base CX0 1 (ad 16) (fu 16) ["state", "many"] (sp_law_next K) := ok_fun T.d_law_next.F sc_law_next (fun a b c d h => by first | (obtain ⟨_, rfl, _⟩ := h; rfl) | (obtain ⟨_, _, rfl, _⟩ := h; rfl) | (obtain ⟨_, _, _, rfl, _⟩ := h; rfl) | (obtain ⟨_, _, _, _, rfl, _⟩ := h; rfl) | (obtain ⟨_, _, _, _, _, rfl, _⟩ := h; rfl) | (obtain ⟨_, _, _, _, _, _, rfl, _⟩ := h; rfl)) (body_law_next T) (pure_law_next)
  have G_law_word : FnG P w K mg base CX0 2 (ad 17) (fu 17) ["state", "taken"] (sp_law_word K) := ok_fun T.d_law_word.F sc_law_word (fun a b c d h => by first | (obtain ⟨_, rfl, _⟩ := h; rfl) | (obtain ⟨_, _, rfl, _⟩ := h; rfl) | (obtain ⟨_, _, _, rfl, _⟩ := h; rfl) | (obtain ⟨_, _, _, _, rfl, _⟩ := h; rfl) | (obtain ⟨_, _, _, _, _, rfl, _⟩ := h; rfl) | (obtain ⟨_, _, _, _, _, _, rfl, _⟩ := h; rfl)) (body_law_word T G_law_next) (pure_law_word)
  have G_law_number : FnG P w K mg base CX0 2 (ad 18) (fu 18) ["state"] (sp_law_number K) := ok_fun T.d_law_number.F sc_law_number (fun a b c d h => by first | (obtain ⟨_, rfl, _⟩ := h; rfl) | (obtain ⟨_, _, rfl, _⟩ := h; rfl) | (obtain ⟨_, _, _, rfl, _⟩ := h; rfl) | (obtain ⟨_, _, _, _, rfl, _⟩ := h; rfl) | (obtain ⟨_, _, _, _, _, rfl, _⟩ := h; rfl) | (obtain ⟨_, _, _, _, _, _, rfl, _⟩ := h; rfl)) (body_law_number T G_law_next) (pure_law_number)
  have G_law_text : FnG P w K mg base CX0 2 (ad 19) (fu 19) ["state"] (sp_law_text K) := ok_fun T.d_law_text.F sc_law_text (fun a b c d h => by first | (obtain ⟨_, rfl, _⟩ := h; rfl) | (obtain ⟨_, _, rfl, _⟩ := h; rfl) | (obtain ⟨_, _, _, rfl, _⟩ := h; rfl) | (obtain ⟨_, _, _, _, rfl, _⟩ := h; rfl) | (obtain ⟨_, _, _, _, _, rfl, _⟩ := h; rfl) | (obtain ⟨_, _, _, _, _, _, rfl, _⟩ := h; rfl)) (body_law_text T G_law_next) (pure_law_text)
  have G_law_good : FnG P w K mg base CX0 3 (ad 20) (fu 20) ["state"] (sp_law_good K) := ok_fun T.d_law_good.F sc_law_good (fun a b c d h => by first | (obtain ⟨_, rfl, _⟩ := h; rfl) | (obtain ⟨_, _, rfl, _⟩ := h; rfl) | (obtain ⟨_, _, _, rfl, _⟩ := h; rfl) | (obtain ⟨_, _, _, _, rfl, _⟩ := h; rfl) | (obtain ⟨_, _, _, _, _, rfl, _⟩ := h; rfl) | (obtain ⟨_, _, _, _, _, _, rfl, _⟩ := h; rfl)) (body_law_good T G_law_next G_law_number G_law_text G_law_word) (pure_law_good)
  have G_law_spoilt : FnG P w K mg base CX0 2 (ad 21) (fu 21) ["state", "line"] (sp_law_spoilt K) := ok_fun T.d_law_spoilt.F sc_law_spoilt (fun a b c d h => by first | (obtain ⟨_, rfl, _⟩ := h; rfl) | (obtain ⟨_, _, rfl, _⟩ := h; rfl) | (obtain ⟨_, _, _, rfl, _⟩ := h; rfl) | (obtain ⟨_, _, _, _, rfl, _⟩ := h; rfl) | (obtain ⟨_, _, _, _, _, rfl, _⟩ := h; rfl) | (obtain ⟨_, _, _, _, _, _, rfl, _⟩ := h; rfl)) (body_law_spoilt T G_law_next) (pure_law_spoilt)
  have G_law_is_letters : FnG P w K mg base CX0 1 (ad 22) (fu 22) ["text"] (sp_law_is_letters K) := ok_fun T.d_law_is_letters.F sc_law_is_letters (fun a b c d h => by first | (obtain ⟨_, rfl, _⟩ := h; rfl) | (obtain ⟨_, _, rfl, _⟩ := h; rfl) | (obtain ⟨_, _, _, rfl, _⟩ := h; rfl) | (obtain ⟨_, _, _, _, rfl, _⟩ := h; rfl) | (obtain ⟨_, _, _, _, _, rfl, _⟩ := h; rfl) | (obtain ⟨_, _, _, _, _, _, rfl, _⟩ := h; rfl)) (body_law_is_letters T) (pure_law_is_letters)
  have G_law_is_number : FnG P w K mg base CX0 1 (ad 23) (fu 23) ["text"] (sp_law_is_number K) := ok_fun T.d_law_is_number.F sc_law_is_number (fun a b c d h => by first | (obtain ⟨_, rfl, _⟩ := h; rfl) | (obtain ⟨_, _, rfl, _⟩ := h; rfl) | (obtain ⟨_, _, _, rfl, _⟩ := h; rfl) | (obtain ⟨_, _, _, _, rfl, _⟩ := h; rfl) | (obtain ⟨_, _, _, _, _, rfl, _⟩ := h; rfl) | (obtain ⟨_, _, _, _, _, _, rfl, _⟩ := h; rfl)) (body_law_is_number T) (pure_law_is_number)
  have G_law_due : FnG P w K mg base CX0 2 (ad 24) (fu 24) ["line"] (sp_law_due K) := ok_fun T.d_law_due.F sc_law_due (fun a b c d h => by first | (obtain ⟨_, rfl, _⟩ := h; rfl) | (obtain ⟨_, _, rfl, _⟩ := h; rfl) | (obtain ⟨_, _, _, rfl, _⟩ := h; rfl) | (obtain ⟨_, _, _, _, rfl, _⟩ := h; rfl) | (obtain ⟨_, _, _, _, _, rfl, _⟩ := h; rfl) | (obtain ⟨_, _, _, _, _, _, rfl, _⟩ := h; rfl)) (body_law_due T G_law_is_letters G_law_is_number) (pure_law_due)
  have G_law : FnG P w K mg base CX0 4 (ad 25) (fu 25) ["script"] (sp_law K) := ok_fun T.d_law.F sc_law (fun a b c d h => by first | (obtain ⟨_, rfl, _⟩ := h; rfl) | (obtain ⟨_, _, rfl, _⟩ := h; rfl) | (obtain ⟨_, _, _, rfl, _⟩ := h; rfl) | (obtain ⟨_, _, _, _, rfl, _⟩ := h; rfl) | (obtain ⟨_, _, _, _, _, rfl, _⟩ := h; rfl) | (obtain ⟨_, _, _, _, _, _, rfl, _⟩ := h; rfl)) (body_law T G_law_due G_law_good G_law_same G_law_spoilt G_law_stream G_read_command) (pure_law)
  exact G_law
end
theorem tx_mk {w : World} {K : PySem.W.Frag} {mg : Str → Option Value} {f8 f9 f10 f11 f12 f14 f15 f16 f17 f18 f19 f20 f21 f22 f23 f24 f25 : Addr} {d8 d9 d10 d11 d12 d14 d15 d16 d17 d18 d19 d20 d21 d22 d23 d24 d25 : FuncData} {c0 c1 c2 c3 : Addr}
    (D8 : Df K mg "is_letters" (topS 8) ["text"] f8 d8)
    (D9 : Df K mg "is_number" (topS 9) ["text"] f9 d9)
    (D10 : Df K mg "numbered_command" (topS 10) ["words"] f10 d10)
    (D11 : Df K mg "kind_command" (topS 11) ["words"] f11 d11)
    (D12 : Df K mg "read_command" (topS 12) ["line"] f12 d12)
    (D14 : Df K mg "_law_same" (topS 14) ["told", "due"] f14 d14)
    (D15 : Df K mg "_law_stream" (topS 15) ["script"] f15 d15)
    (D16 : Df K mg "_law_next" (topS 16) ["state", "many"] f16 d16)
    (D17 : Df K mg "_law_word" (topS 17) ["state", "taken"] f17 d17)
    (D18 : Df K mg "_law_number" (topS 18) ["state"] f18 d18)
    (D19 : Df K mg "_law_text" (topS 19) ["state"] f19 d19)
    (D20 : Df K mg "_law_good" (topS 20) ["state"] f20 d20)
    (D21 : Df K mg "_law_spoilt" (topS 21) ["state", "line"] f21 d21)
    (D22 : Df K mg "_law_is_letters" (topS 22) ["text"] f22 d22)
    (D23 : Df K mg "_law_is_number" (topS 23) ["text"] f23 d23)
    (D24 : Df K mg "_law_due" (topS 24) ["line"] f24 d24)
    (D25 : Df K mg "law" (topS 25) ["script"] f25 d25)
    (b_abs : mg "abs" = none)
    (b_all : mg "all" = none)
    (b_int : mg "int" = none)
    (b_len : mg "len" = none)
    (b_range : mg "range" = none)
    (b_repr : mg "repr" = none)
    (b_str : mg "str" = none)
    (b_tuple : mg "tuple" = none)
    (g_ALPHABET : Gc mg "ALPHABET" (.str "abcdefghijklmnopqrstuvwxyz"))
    (g_DIGITS : Gc mg "DIGITS" (.str "0123456789"))
    (g_MAX_DIGITS : Gc mg "MAX_DIGITS" (.int 7))
    (g_TEXTS : Gc mg "TEXTS" (.ref c0))
    (g_BARE : Gc mg "BARE" (.ref c1))
    (g_NUMBERS : Gc mg "NUMBERS" (.ref c2))
    (g_KINDS : Gc mg "KINDS" (.ref c3))
    (s_TEXTS : ∀ H, SqT K H c0 [.str "read", .str "bar"])
    (s_BARE : ∀ H, SqT K H c1 [.str "undo", .str "log", .str "levels", .str "steady", .str "elements", .str "bound"])
    (k_NUMBERS : (∃ es n, KDict K w c2 es n) ∧ KdInts K c2 [("forget", 1), ("allow", 1), ("cut", 1), ("pieces", 2), ("lets", 3)])
    (k_KINDS : (∃ es n, KDict K w c3 es n) ∧ KdInts K c3 [("least", 0), ("enough", 1), ("play", 2)])
    : ∃ ad fu ca, Tx w K mg ad fu ca ∧ ad 25 = f25 ∧ fu 25 = d25 := by
  refine ⟨fun n => ([0, 0, 0, 0, 0, 0, 0, 0, f8, f9, f10, f11, f12, 0, f14, f15, f16, f17, f18, f19, f20, f21, f22, f23, f24, f25] : List Addr).getD n 0, fun n => ([d25, d25, d25, d25, d25, d25, d25, d25, d8, d9, d10, d11, d12, d25, d14, d15, d16, d17, d18, d19, d20, d21, d22, d23, d24, d25] : List FuncData).getD n d25, fun n => ([c0, c1, c2, c3] : List Addr).getD n 0, { d_is_letters := D8, d_is_number := D9, d_numbered_command := D10, d_kind_command := D11, d_read_command := D12, d_law_same := D14, d_law_stream := D15, d_law_next := D16, d_law_word := D17, d_law_number := D18, d_law_text := D19, d_law_good := D20, d_law_spoilt := D21, d_law_is_letters := D22, d_law_is_number := D23, d_law_due := D24, d_law := D25, b_abs := b_abs, b_all := b_all, b_int := b_int, b_len := b_len, b_range := b_range, b_repr := b_repr, b_str := b_str, b_tuple := b_tuple, g_ALPHABET := g_ALPHABET, g_DIGITS := g_DIGITS, g_MAX_DIGITS := g_MAX_DIGITS, g_TEXTS := g_TEXTS, g_BARE := g_BARE, g_NUMBERS := g_NUMBERS, g_KINDS := g_KINDS, s_TEXTS := s_TEXTS, s_BARE := s_BARE, kd_NUMBERS := k_NUMBERS.1, i_NUMBERS := k_NUMBERS.2, kd_KINDS := k_KINDS.1, i_KINDS := k_KINDS.2 }, rfl, rfl⟩
end K80
open PySem PySem.W PyProof.Rows in
set_option maxRecDepth 100000 in
set_option maxHeartbeats 0 in
theorem PySem.Challenge.cw_scarpface_k80_commands_read_holds : PySem.Challenge.rw_scarpface_k80_commands_read.Holds := by
  w_on; o_law; k_head; (case hw => w_witness2)
  k_fill
  refine Sf.walk_G (l := PySem.Challenge.rw_scarpface_k80_commands_read) (n := 63) (lv := 4) (pr := K80.sp_law) rfl (by decide) rfl ⟨rfl, by decide, by decide⟩ (fun w h Y => PySem.W.kIn_of Y) rfl ?F (fun K H a ns hl hS => ⟨a, ns, rfl, hS, hl, fun _ => rfl⟩)
  case F =>
    intro w mg h KX G
    have X8 : ∃ f d, Sf.Df (L2.KOf KX) mg "is_letters" (K80.topS 8) ["text"] f d := by
      dsimp only [L2.KOf]
      refine' Sf.df_mk KX G ?a ?l ?c ?k ?b
      (case a => k_is); (case l => k_is); (case c => k_is); (case k => k_is)
      case b => exact fun F => L2.Fun.binds (ps := ["text"]) F fun _ _ _ _ _ _ us hl => match us, hl with | [_], _ => rfl
    have X9 : ∃ f d, Sf.Df (L2.KOf KX) mg "is_number" (K80.topS 9) ["text"] f d := by
      dsimp only [L2.KOf]
      refine' Sf.df_mk KX G ?a ?l ?c ?k ?b
      (case a => k_is); (case l => k_is); (case c => k_is); (case k => k_is)
      case b => exact fun F => L2.Fun.binds (ps := ["text"]) F fun _ _ _ _ _ _ us hl => match us, hl with | [_], _ => rfl
    have X10 : ∃ f d, Sf.Df (L2.KOf KX) mg "numbered_command" (K80.topS 10) ["words"] f d := by
      dsimp only [L2.KOf]
      refine' Sf.df_mk KX G ?a ?l ?c ?k ?b
      (case a => k_is); (case l => k_is); (case c => k_is); (case k => k_is)
      case b => exact fun F => L2.Fun.binds (ps := ["words"]) F fun _ _ _ _ _ _ us hl => match us, hl with | [_], _ => rfl
    have X11 : ∃ f d, Sf.Df (L2.KOf KX) mg "kind_command" (K80.topS 11) ["words"] f d := by
      dsimp only [L2.KOf]
      refine' Sf.df_mk KX G ?a ?l ?c ?k ?b
      (case a => k_is); (case l => k_is); (case c => k_is); (case k => k_is)
      case b => exact fun F => L2.Fun.binds (ps := ["words"]) F fun _ _ _ _ _ _ us hl => match us, hl with | [_], _ => rfl
    have X12 : ∃ f d, Sf.Df (L2.KOf KX) mg "read_command" (K80.topS 12) ["line"] f d := by
      dsimp only [L2.KOf]
      refine' Sf.df_mk KX G ?a ?l ?c ?k ?b
      (case a => k_is); (case l => k_is); (case c => k_is); (case k => k_is)
      case b => exact fun F => L2.Fun.binds (ps := ["line"]) F fun _ _ _ _ _ _ us hl => match us, hl with | [_], _ => rfl
    have X14 : ∃ f d, Sf.Df (L2.KOf KX) mg "_law_same" (K80.topS 14) ["told", "due"] f d := by
      dsimp only [L2.KOf]
      refine' Sf.df_mk KX G ?a ?l ?c ?k ?b
      (case a => k_is); (case l => k_is); (case c => k_is); (case k => k_is)
      case b => exact fun F => L2.Fun.binds (ps := ["told", "due"]) F fun _ _ _ _ _ _ us hl => match us, hl with | [_, _], _ => rfl
    have X15 : ∃ f d, Sf.Df (L2.KOf KX) mg "_law_stream" (K80.topS 15) ["script"] f d := by
      dsimp only [L2.KOf]
      refine' Sf.df_mk KX G ?a ?l ?c ?k ?b
      (case a => k_is); (case l => k_is); (case c => k_is); (case k => k_is)
      case b => exact fun F => L2.Fun.binds (ps := ["script"]) F fun _ _ _ _ _ _ us hl => match us, hl with | [_], _ => rfl
    have X16 : ∃ f d, Sf.Df (L2.KOf KX) mg "_law_next" (K80.topS 16) ["state", "many"] f d := by
      dsimp only [L2.KOf]
      refine' Sf.df_mk KX G ?a ?l ?c ?k ?b
      (case a => k_is); (case l => k_is); (case c => k_is); (case k => k_is)
      case b => exact fun F => L2.Fun.binds (ps := ["state", "many"]) F fun _ _ _ _ _ _ us hl => match us, hl with | [_, _], _ => rfl
    have X17 : ∃ f d, Sf.Df (L2.KOf KX) mg "_law_word" (K80.topS 17) ["state", "taken"] f d := by
      dsimp only [L2.KOf]
      refine' Sf.df_mk KX G ?a ?l ?c ?k ?b
      (case a => k_is); (case l => k_is); (case c => k_is); (case k => k_is)
      case b => exact fun F => L2.Fun.binds (ps := ["state", "taken"]) F fun _ _ _ _ _ _ us hl => match us, hl with | [_, _], _ => rfl
    have X18 : ∃ f d, Sf.Df (L2.KOf KX) mg "_law_number" (K80.topS 18) ["state"] f d := by
      dsimp only [L2.KOf]
      refine' Sf.df_mk KX G ?a ?l ?c ?k ?b
      (case a => k_is); (case l => k_is); (case c => k_is); (case k => k_is)
      case b => exact fun F => L2.Fun.binds (ps := ["state"]) F fun _ _ _ _ _ _ us hl => match us, hl with | [_], _ => rfl
    have X19 : ∃ f d, Sf.Df (L2.KOf KX) mg "_law_text" (K80.topS 19) ["state"] f d := by
      dsimp only [L2.KOf]
      refine' Sf.df_mk KX G ?a ?l ?c ?k ?b
      (case a => k_is); (case l => k_is); (case c => k_is); (case k => k_is)
      case b => exact fun F => L2.Fun.binds (ps := ["state"]) F fun _ _ _ _ _ _ us hl => match us, hl with | [_], _ => rfl
    have X20 : ∃ f d, Sf.Df (L2.KOf KX) mg "_law_good" (K80.topS 20) ["state"] f d := by
      dsimp only [L2.KOf]
      refine' Sf.df_mk KX G ?a ?l ?c ?k ?b
      (case a => k_is); (case l => k_is); (case c => k_is); (case k => k_is)
      case b => exact fun F => L2.Fun.binds (ps := ["state"]) F fun _ _ _ _ _ _ us hl => match us, hl with | [_], _ => rfl
    have X21 : ∃ f d, Sf.Df (L2.KOf KX) mg "_law_spoilt" (K80.topS 21) ["state", "line"] f d := by
      dsimp only [L2.KOf]
      refine' Sf.df_mk KX G ?a ?l ?c ?k ?b
      (case a => k_is); (case l => k_is); (case c => k_is); (case k => k_is)
      case b => exact fun F => L2.Fun.binds (ps := ["state", "line"]) F fun _ _ _ _ _ _ us hl => match us, hl with | [_, _], _ => rfl
    have X22 : ∃ f d, Sf.Df (L2.KOf KX) mg "_law_is_letters" (K80.topS 22) ["text"] f d := by
      dsimp only [L2.KOf]
      refine' Sf.df_mk KX G ?a ?l ?c ?k ?b
      (case a => k_is); (case l => k_is); (case c => k_is); (case k => k_is)
      case b => exact fun F => L2.Fun.binds (ps := ["text"]) F fun _ _ _ _ _ _ us hl => match us, hl with | [_], _ => rfl
    have X23 : ∃ f d, Sf.Df (L2.KOf KX) mg "_law_is_number" (K80.topS 23) ["text"] f d := by
      dsimp only [L2.KOf]
      refine' Sf.df_mk KX G ?a ?l ?c ?k ?b
      (case a => k_is); (case l => k_is); (case c => k_is); (case k => k_is)
      case b => exact fun F => L2.Fun.binds (ps := ["text"]) F fun _ _ _ _ _ _ us hl => match us, hl with | [_], _ => rfl
    have X24 : ∃ f d, Sf.Df (L2.KOf KX) mg "_law_due" (K80.topS 24) ["line"] f d := by
      dsimp only [L2.KOf]
      refine' Sf.df_mk KX G ?a ?l ?c ?k ?b
      (case a => k_is); (case l => k_is); (case c => k_is); (case k => k_is)
      case b => exact fun F => L2.Fun.binds (ps := ["line"]) F fun _ _ _ _ _ _ us hl => match us, hl with | [_], _ => rfl
    have X25 : ∃ f d, Sf.Df (L2.KOf KX) mg "law" (K80.topS 25) ["script"] f d := by
      dsimp only [L2.KOf]
      refine' Sf.df_mk KX G ?a ?l ?c ?k ?b
      (case a => k_is); (case l => k_is); (case c => k_is); (case k => k_is)
      case b => exact fun F => L2.Fun.binds (ps := ["script"]) F fun _ _ _ _ _ _ us hl => match us, hl with | [_], _ => rfl
    have Y_ALPHABET : Sf.Gc mg "ALPHABET" (L2.V.str "abcdefghijklmnopqrstuvwxyz") := by
      refine' Sf.gc_mk KX G ?a ?r
      (case a => k_is)
      case r => exact ⟨_, rfl⟩
    have Y_DIGITS : Sf.Gc mg "DIGITS" (L2.V.str "0123456789") := by
      refine' Sf.gc_mk KX G ?a ?r
      (case a => k_is)
      case r => exact ⟨_, rfl⟩
    have Y_MAX_DIGITS : Sf.Gc mg "MAX_DIGITS" (L2.V.int 7) := by
      refine' Sf.gc_mk KX G ?a ?r
      (case a => k_is)
      case r => exact ⟨_, rfl⟩
    have Y_TEXTS : ∃ c, Sf.Gc mg "TEXTS" (.ref c) ∧ ∀ H, L2.SqT (L2.KOf KX) H c [.str "read", .str "bar"] := by
      dsimp only [L2.KOf]
      refine' ⟨_, Sf.gc_mk KX G ?a ?r, Sf.sqT_mk ?l ?z ?v⟩
      (case a => k_is)
      (case r => rfl)
      (case l => k_is)
      (case z => decide)
      case v => exact (.cons ⟨_, rfl⟩ (.cons ⟨_, rfl⟩ .nil))
    have Y_BARE : ∃ c, Sf.Gc mg "BARE" (.ref c) ∧ ∀ H, L2.SqT (L2.KOf KX) H c [.str "undo", .str "log", .str "levels", .str "steady", .str "elements", .str "bound"] := by
      dsimp only [L2.KOf]
      refine' ⟨_, Sf.gc_mk KX G ?a ?r, Sf.sqT_mk ?l ?z ?v⟩
      (case a => k_is)
      (case r => rfl)
      (case l => k_is)
      (case z => decide)
      case v => exact (.cons ⟨_, rfl⟩ (.cons ⟨_, rfl⟩ (.cons ⟨_, rfl⟩ (.cons ⟨_, rfl⟩ (.cons ⟨_, rfl⟩ (.cons ⟨_, rfl⟩ .nil))))))
    have Y_NUMBERS : ∃ c, Sf.Gc mg "NUMBERS" (.ref c) ∧ (∃ es n, L2.KDict (L2.KOf KX) w c es n) ∧ Sf.KdInts (L2.KOf KX) c [("forget", 1), ("allow", 1), ("cut", 1), ("pieces", 2), ("lets", 3)] := by
      dsimp only [L2.KOf]
      refine' ⟨_, Sf.gc_mk KX G ?a ?r, Sf.kd_mk ?l ?e ?lo⟩
      (case a => k_is)
      (case r => rfl)
      (case l => k_is)
      (case e => exact ⟨⟨_, _, rfl, rfl, rfl⟩, ⟨_, _, rfl, rfl, rfl⟩, ⟨_, _, rfl, rfl, rfl⟩, ⟨_, _, rfl, rfl, rfl⟩, ⟨_, _, rfl, rfl, rfl⟩, trivial⟩)
      case lo => decide
    have Y_KINDS : ∃ c, Sf.Gc mg "KINDS" (.ref c) ∧ (∃ es n, L2.KDict (L2.KOf KX) w c es n) ∧ Sf.KdInts (L2.KOf KX) c [("least", 0), ("enough", 1), ("play", 2)] := by
      dsimp only [L2.KOf]
      refine' ⟨_, Sf.gc_mk KX G ?a ?r, Sf.kd_mk ?l ?e ?lo⟩
      (case a => k_is)
      (case r => rfl)
      (case l => k_is)
      (case e => exact ⟨⟨_, _, rfl, rfl, rfl⟩, ⟨_, _, rfl, rfl, rfl⟩, ⟨_, _, rfl, rfl, rfl⟩, trivial⟩)
      case lo => decide
    have Z_abs : mg "abs" = none := by
      refine' PySem.W.mg_none_of KX G ?a
      case a => k_is
    have Z_all : mg "all" = none := by
      refine' PySem.W.mg_none_of KX G ?a
      case a => k_is
    have Z_int : mg "int" = none := by
      refine' PySem.W.mg_none_of KX G ?a
      case a => k_is
    have Z_len : mg "len" = none := by
      refine' PySem.W.mg_none_of KX G ?a
      case a => k_is
    have Z_range : mg "range" = none := by
      refine' PySem.W.mg_none_of KX G ?a
      case a => k_is
    have Z_repr : mg "repr" = none := by
      refine' PySem.W.mg_none_of KX G ?a
      case a => k_is
    have Z_str : mg "str" = none := by
      refine' PySem.W.mg_none_of KX G ?a
      case a => k_is
    have Z_tuple : mg "tuple" = none := by
      refine' PySem.W.mg_none_of KX G ?a
      case a => k_is
    obtain ⟨f8, d8, D8⟩ := X8
    obtain ⟨f9, d9, D9⟩ := X9
    obtain ⟨f10, d10, D10⟩ := X10
    obtain ⟨f11, d11, D11⟩ := X11
    obtain ⟨f12, d12, D12⟩ := X12
    obtain ⟨f14, d14, D14⟩ := X14
    obtain ⟨f15, d15, D15⟩ := X15
    obtain ⟨f16, d16, D16⟩ := X16
    obtain ⟨f17, d17, D17⟩ := X17
    obtain ⟨f18, d18, D18⟩ := X18
    obtain ⟨f19, d19, D19⟩ := X19
    obtain ⟨f20, d20, D20⟩ := X20
    obtain ⟨f21, d21, D21⟩ := X21
    obtain ⟨f22, d22, D22⟩ := X22
    obtain ⟨f23, d23, D23⟩ := X23
    obtain ⟨f24, d24, D24⟩ := X24
    obtain ⟨f25, d25, D25⟩ := X25
    obtain ⟨c0, g0, p0⟩ := Y_TEXTS
    obtain ⟨c1, g1, p1⟩ := Y_BARE
    obtain ⟨c2, g2, p2⟩ := Y_NUMBERS
    obtain ⟨c3, g3, p3⟩ := Y_KINDS
    obtain ⟨ad, fu, ca, T, e1, e2⟩ := K80.tx_mk D8 D9 D10 D11 D12 D14 D15 D16 D17 D18 D19 D20 D21 D22 D23 D24 D25 Z_abs Z_all Z_int Z_len Z_range Z_repr Z_str Z_tuple Y_ALPHABET Y_DIGITS Y_MAX_DIGITS g0 g1 g2 g3 p0 p1 p2 p3
    exact ⟨f25, d25, D25.m, D25.b, fun bs _ _ => e1 ▸ e2 ▸ K80.law_ok T⟩
#print axioms PySem.Challenge.cw_scarpface_k80_commands_read_holds
