import PyProof.Rows.All
import Wide.All
import OpenK.AllK
import Wide.FinOn
import HandS.ForMost
import HandS.ForExc
import HandS.IsInst
import HandS.Rev
import HandS.RevTup
import HandS.Wide
import HandS.TryOnly
import HandS.TryMany
import HandS.ExcCtx
import HandS.HotCalls
import HandS.ExcIs
import HandS.Defaults
import HandS.HeadHook1
import HandS.Codes
import HandS.Style
import HandS.Head0
import HandS.Head1
import HandS.Head2
import HandS.HeadEnd
import HandS.HeadHook2
import HandS.HeadHook3
import HandS.HeadHook4
import PySem.Challenge.RW_asenacted_k00_whole_days_by_counting
set_option Elab.async false
set_option linter.all false
set_option maxRecDepth 100000
set_option maxHeartbeats 0
/-! helpers over the hand layer: calls by packets, data, isinstance of data, heaps with a mutable part -/
namespace XK
open PySem PySem.Spec PyProof.Rows L2
/-! ### calls -/
/-- a def that may be called by its name -/
structure Cl (P : Program) (w : World) (K : PySem.W.Frag) (mg : Str → Option Value) (base : Heap) (CX : CXT) (k : Nat) (x : Str) (sp : Sp) : Prop where
  ex : ∃ (f : Addr) (fd : FuncData) (ps : List Str), FnOk P w K mg base CX k f fd ps sp ∧ mg x = some (.ref f) ∧ PySem.W.keepIn K (.ref f) = true ∧ Binds K fd ps []
theorem Cl.mono {P : Program} {w : World} {K : PySem.W.Frag} {mg : Str → Option Value} {base : Heap} {CX : CXT} {j k : Nat} {x : Str} {sp : Sp} (c : Cl P w K mg base CX j x sp) (h : j ≤ k) : Cl P w K mg base CX k x sp := by
  obtain ⟨f, fd, ps, F, r⟩ := c.ex
  exact ⟨f, fd, ps, F.mono h, r⟩
def tK (sp : Sp) (E : L2.St → XK) (t : TA) : TE := fun σ H Q => t σ H fun vs H1 => sp vs H1 Q (E σ)
section
variable {X : Cx} {CX : CXT} {k j : Nat} {x : Str} {sp : Sp} {p pos : Pos} {e : Expr} {es : List Expr} {t : TA} {E : L2.St → XK}
theorem pe_k (c : Cl X.prog X.w X.K X.mg X.base CX k x sp) (hr : Room j X.A) (hk : k ≤ j) (hg : Gl X x) (hx : ∀ σ, PassesAt CX X σ (E σ)) (ha : PA X (e :: es) t)
    (hdb : (x == ("__debug__" : Str)) = false := by decide) (he : starEach (e :: es) X.env = (false, eval e X.env) :: starEach es X.env := by rfl) (hpl : (backTo pos (starEach es X.env)).any (·.1) = false := by rfl) :
    PE X (.Call (.Name x p) (e :: es) [] pos) (tK sp E t) := by
  obtain ⟨f, fd, ps, F, hm, kp, b⟩ := c.ex
  exact pe_callS F (hr.mono hk) hg hm kp b hx ha hdb he hpl
/-- nothing is raised -/
theorem at0 (σ : L2.St) : PassesAt CX0 X σ E0 := fun _ _ _ _ _ _ h => h.elim
/-- a def that may raise, called where it does not -/
theorem atL (σ : L2.St) : PassesAt (L2N.CX X.prog X.w) X σ E0 := fun pins H s e s' I c => (by obtain ⟨_, _, _, _, _, _, _, _, _, _, _, _, z⟩ := c; exact z.elim)
end
/-- what is raised leaves the def -/
theorem atX {X : Cx} {E : XK} (h : L2N.Takes X (fun cls d _ H => E cls d H)) (σ : L2.St) : PassesAt (L2N.CX X.prog X.w) X σ E := fun pins H s e s' I c => L2N.passes_call h (fun _ _ _ _ q => q) pins σ H s e s' I c
theorem pe_gc {X : Cx} {x : Str} {v : V} {pos : Pos} (hg : Gl X x) (h : ∃ u, X.mg x = some u ∧ RelV v u) (hd : (x == ("__debug__" : Str)) = false := by decide) : PE X (.Name x pos) (tC v) := by
  obtain ⟨u, hm, r⟩ := h
  exact pe_glob hg hm r hd
/-! ### data -/
mutual
theorem Dp.mono {K : PySem.W.Frag} {H H' : Hp} (s : Same H H') : ∀ {d : PyData} {v : V}, Dp K H v d → Dp K H' v d
  | _, _, .non => .non
  | _, _, .bl b => .bl b
  | _, _, .int i => .int i
  | _, _, .str x => .str x
  | _, _, .lst h a => .lst (s.seq h) (DpAll.mono s a)
  | _, _, .tup h a => .tup (by
      rcases h with (h | ⟨o, h⟩) | h
      · exact .inl (.inl (s _ _ h))
      · exact .inl (.inr ⟨o, s _ _ h⟩)
      · exact .inr h) (DpAll.mono s a)
theorem DpAll.mono {K : PySem.W.Frag} {H H' : Hp} (s : Same H H') : ∀ {ds : List PyData} {vs : List V}, DpAll K H vs ds → DpAll K H' vs ds
  | _, _, .nil => .nil
  | _, _, .cons a r => .cons (Dp.mono s a) (DpAll.mono s r)
end
theorem seqT {K : PySem.W.Frag} {H H' : Hp} {a : Addr} {xs : List V} (s : Same H H') (h : SqT K H a xs) : SqT K H' a xs := by
  rcases h with (h | ⟨o, h⟩) | h
  · exact .inl (.inl (s _ _ h))
  · exact .inl (.inr ⟨o, s _ _ h⟩)
  · exact .inr h
/-- the built-in type of data -/
def tag : PyData → _root_.Fin 7
  | .none => 0
  | .bool _ => 1
  | .int _ => 2
  | .str _ => 3
  | .list _ => 4
  | .tuple _ => 5
  | .dict _ => 6
def tyF (t : _root_.Fin 7) : String := ["NoneType", "bool", "int", "str", "list", "tuple", "dict"].getD t.val ""
def isF (T : String) (t : _root_.Fin 7) : Bool := tyF t == T || (t == 1 && T == "int")
abbrev tyN (d : PyData) : String := tyF (tag d)
abbrev isT (T : String) (d : PyData) : Bool := isF T (tag d)
theorem tyX_list {K : PySem.W.Frag} {H : Hp} {a : Addr} {xs : List V} (h : SqL K H a xs) : TyX K H (.ref a) (.type "list") := by
  rcases h with (h | ⟨o, h⟩) | ⟨o, its, n, h, c, _⟩
  · exact .base (.lst h)
  · exact .base (.frz h)
  · exact .kList h c
theorem tyX_tuple {K : PySem.W.Frag} {H : Hp} {a : Addr} {xs : List V} (h : SqT K H a xs) : TyX K H (.ref a) (.type "tuple") := by
  rcases h with (h | ⟨o, h⟩) | ⟨o, its, n, h, c, _⟩
  · exact .base (.tup h)
  · exact .fTuple h
  · exact .kTuple h c
theorem Dp.ty {K : PySem.W.Frag} {H : Hp} {v : V} {d : PyData} (h : Dp K H v d) : TyX K H v (.type (tyN d)) := by
  cases h with
  | non => exact .base .non
  | bl b => exact .base (.bl b)
  | int i => exact .base (.int i)
  | str x => exact .base (.str x)
  | lst h a => exact tyX_list h
  | tup h a => exact tyX_tuple h
/-- isinstance(x, T), x data, T a built-in type -/
def rIsD (K : PySem.W.Frag) : List V → Hp → VK → Prop := fun xs H Q => ∃ (x : V) (d : PyData) (T : String), xs = [x, .ty T] ∧ Dp K H x d ∧ kitB (tyN d) T = some (isT T d) ∧ Q (.bl (isT T d)) H
theorem call_isD {X : Cx} : CallR X (.builtin "isinstance") (rIsD X.K) := by
  intro pins s σ H xs us Q I r h
  obtain ⟨x, d, T, rfl, hd, hk, q⟩ := h
  exact call_isi pins s σ H [x, .ty T] us Q I r ⟨x, .ty T, .type (tyN d), .type T, isT T d, rfl, .ty T, XK.Dp.ty hd, kit_ty hk, q⟩
theorem kit_int (d : PyData) : kitB (tyN d) "int" = some (isT "int" d) := (by decide +kernel : ∀ t : _root_.Fin 7, kitB (tyF t) "int" = some (isF "int" t)) (tag d)
theorem kit_bool (d : PyData) : kitB (tyN d) "bool" = some (isT "bool" d) := (by decide +kernel : ∀ t : _root_.Fin 7, kitB (tyF t) "bool" = some (isF "bool" t)) (tag d)
theorem kit_str (d : PyData) : kitB (tyN d) "str" = some (isT "str" d) := (by decide +kernel : ∀ t : _root_.Fin 7, kitB (tyF t) "str" = some (isF "str" t)) (tag d)
theorem kit_tuple (d : PyData) : kitB (tyN d) "tuple" = some (isT "tuple" d) := (by decide +kernel : ∀ t : _root_.Fin 7, kitB (tyF t) "tuple" = some (isF "tuple" t)) (tag d)
theorem kit_list (d : PyData) : kitB (tyN d) "list" = some (isT "list" d) := (by decide +kernel : ∀ t : _root_.Fin 7, kitB (tyF t) "list" = some (isF "list" t)) (tag d)
theorem kit_dict (d : PyData) : kitB (tyN d) "dict" = some (isT "dict" d) := (by decide +kernel : ∀ t : _root_.Fin 7, kitB (tyF t) "dict" = some (isF "dict" t)) (tag d)
/-! ### heaps -/
theorem same_upd {H : Hp} {p : Addr} {o : HO} (h : H p = none) : Same H (upd H p o) := fun b x e => by
  rw [upd_ne (ne_of_none e h)]
  exact e
/-- the heap without what stands at a -/
def cut (a : Addr) (H : Hp) : Hp := fun b => if b = a then none else H b
theorem cut_ne {a b : Addr} {H : Hp} (h : b ≠ a) : cut a H b = H b := if_neg h
theorem cut_at {a : Addr} {H : Hp} : cut a H a = none := if_pos rfl
theorem cut_same (a : Addr) (H : Hp) : Same (cut a H) H := fun b o e => by
  by_cases c : b = a
  · rw [c, cut_at] at e
    cases e
  · rw [cut_ne c] at e
    exact e
theorem Same.cut {a : Addr} {H H' : Hp} (s : Same H H') : Same (cut a H) (cut a H') := fun b o e => by
  by_cases c : b = a
  · rw [c, cut_at] at e
    cases e
  · rw [cut_ne c] at e ⊢
    exact s _ _ e
theorem cut_upd {a : Addr} {H : Hp} {o : HO} : cut a (upd H a o) = cut a H := funext fun b => by
  by_cases c : b = a
  · rw [c, cut_at, cut_at]
  · rw [cut_ne c, cut_ne c, upd_ne c]
theorem cut_upd_ne {a p : Addr} {H : Hp} {o : HO} (h : p ≠ a) : cut a (upd H p o) = upd (cut a H) p o := funext fun b => by
  by_cases c : b = p
  · rw [c, cut_ne h, upd_same, upd_same]
  · rw [upd_ne c]
    by_cases c2 : b = a
    · rw [c2, cut_at, cut_at]
    · rw [cut_ne c2, cut_ne c2, upd_ne c]
theorem upd_self {H : Hp} {a : Addr} {o : HO} (h : H a = some o) : upd H a o = H := funext fun b => by
  by_cases c : b = a
  · rw [c, upd_same, h]
  · rw [upd_ne c]
theorem atI_of {α : Type} {xs : List α} {i : Int} {v : α} (h0 : 0 ≤ i) (h : xs[i.toNat]? = some v) : atI xs i = some v := by
  have e : ((i.toNat : Nat) : Int) = i := Int.toNat_of_nonneg h0
  rw [← e]
  exact atI_nat h
end XK

/-! within a def that is called from an except suite: a comprehension over range, isinstance of the handled exception -/
namespace XH
open PySem PySem.Spec PyProof.Rows L2 L2H
/-- a block's context where an exception is handled: its pin stays -/
abbrev blkH (X : Cx) (s : Shared) (H : Hp) (scope : Scope) (cenv : Env) (fp : List Addr) (p : Addr × Obj) : Cx := { X.blk s H scope cenv fp with pn := [p] }
section
variable {X : Cx} {pins : List (Addr × Obj)} {σ : L2.St} {H : Hp} {s : Shared} {tg : Expr}
theorem block_startH {scope : Scope} {own : List (Str × Nat)} {fp : List Addr} {p : Addr × Obj} (I : Inv X pins σ H s) (hp : p ∈ X.pn) (ok : BlkOk X.N X.env.scope scope own) (hN : X.N.Nodup) (hfp : ∀ b ∈ fp, FpOk X pins H b ∧ b < s.heap.objs.size) :
    Inv (blkH X s H scope (compEnvC scope (cellsFrom (s.heap.objs.size + 1) scope.names (cloFrom X.env.cells scope.names [])) s.heap.objs.size X.env) fp p) [] (wipe σ (own.map (·.2))) H { s with heap := pushCells (s.heap.push { cls := .type "dict", data := .dict #[] }) scope.names } := by
  have B := block_start I ok hN hfp
  obtain ⟨g1, g2, g3, g4, g5⟩ := I.pin p (List.mem_append_left _ hp)
  have o := B.ok
  refine ⟨⟨o.mod, o.kind, o.glob, o.blt, o.above, o.inj, o.has, o.cab, o.hd, o.frames, o.stk, o.exf, o.bs, o.bsz, o.noex, o.exfs, o.funs, o.frf⟩, B.os, B.bare, B.base, B.loc, B.cell, B.free, B.freeC, fun q hq => ?_, B.hok, B.len⟩
  have e : q = p := by simpa using (show q ∈ [p] ++ ([] : List (Addr × Obj)) from hq)
  rw [e]
  refine ⟨pushCells_keeps _ _ _ _ (Heap.get?_push_of_some _ g1), g2, Nat.ne_of_lt (Heap.lt_size g1), fun z => ?_, g5⟩
  rcases List.mem_cons.mp (I.stkSub _ z) with z | z
  · exact g3 z
  · exact g4 z
theorem lc_hot {pins : List (Addr × Obj)} {s : Shared} {σ : L2.St} {H : Hp} {Q : VK} {elt tg iter : Expr} {ifs : List Expr} {scope : Scope} {own : List (Str × Nat)} {pos pos' : Pos} {wi : TI} {g : TG} {tt : TT} {te : TE} {use : Option (Value → Sem Unit)} {Qf : Value → Shared → Prop}
    {pp : Addr × Obj} (hc : Hot1 X.A pp) (hpp : pp ∈ X.pn) (hN : X.N.Nodup) (I : Inv X pins σ H s) (hi : PIH X tg iter wi) (ok : BlkOk X.N X.env.scope scope own)
    (hg : ∀ (s : Shared) (H : Hp) (C : Addr) (cl : List (Str × Addr)) (fp : List Addr), PG (blkH X s H scope (compEnvC scope cl C X.env) fp pp) tg g) (ht : ∀ (s : Shared) (H : Hp) (C : Addr) (cl : List (Str × Addr)) (fp : List Addr), PTs (blkH X s H scope (compEnvC scope cl C X.env) fp pp) ifs tt)
    (he : ∀ (s : Shared) (H : Hp) (C : Addr) (cl : List (Str × Addr)) (fp : List Addr), PE (blkH X s H scope (compEnvC scope cl C X.env) fp pp) elt te) (hs : ∀ x, foldedSetIterable iter X.env x = pure x)
    (h : tLc wi g tt te (own.map (·.2)) σ H Q)
    (hRR : ∀ D C s' m H', Inv X pins σ H' s' → Q (.ref D) H' → s'.heap.Ns C m → FpOk X pins H' C → compPost (model X.prog X.w) X.A X.xe use Qf (.ref D) C (.ok .next) s') :
    wpAny (model X.prog X.w) X.A (comprehension (.ListComp elt [⟨tg, iter, ifs, 0⟩] scope pos) scope X.env pos' (newList []) false (eval iter X.env) use) Qf X.xe s := by
  have hfree : ∀ y ∈ scope.names, y.2 = .free → ∃ c, X.env.cells.lookup y.1 = some c := fun y hy e => by
    rcases ok.free y hy e with k | k
    · exact I.ok.has _ (.inl k)
    · exact I.ok.has _ (.inr k)
  refine wpAny_comprehension_free (use := use) rfl hs (closure_ok hfree) ok.kind (fun y hy e => by rw [ok.uniq y hy, e])
    (thn (hi.run pins s σ H _ I h) fun xv s1 hx => thn hx fun itv s2 h2 => ?_)
  obtain ⟨it, fp, tn, J, H2, e, I2, T, st2, f2, q⟩ := h2
  subst e
  refine wpAny_newObj_type (newEnv_comp ?_) (by show 0 ≤ sizeLine; decide)
  generalize hD : s2.heap.objs.size = D
  have hDn : H2 D = none := I2.hok.fresh (Nat.le_of_eq hD)
  obtain ⟨W, ⟨m0, w0⟩, turn⟩ := q D hDn
  -- the new list
  generalize hs3 : ({ s2 with heap := s2.heap.push { cls := .type "list", data := .seq ([] : List Value).toArray } } : Shared) = s3
  have I3 : Inv X pins σ (upd H2 D (.lst [])) s3 := by
    rw [← hs3]
    refine I2.laid (t' := s2.toks) (fun b o e => Heap.get?_push_of_some _ e) (Nat.le_of_eq hD) ⟨Nat.zero_le _, [], 0, .nil, ?_⟩
    rw [← hD]
    exact Heap.get?_push_size _ rfl
  have h3 : s3.heap = s2.heap.push { cls := .type "list", data := .seq ([] : List Value).toArray } := by rw [← hs3]
  have sz : ∀ b ∈ fp, b < s2.heap.objs.size := fun b hb => by
    obtain ⟨o, e, _⟩ := T.obj _ _ st2 b hb
    exact Heap.lt_size e
  have f3 : ∀ b ∈ fp, FpOk X pins (upd H2 D (.lst [])) b ∧ b < s3.heap.objs.size := fun b hb => by
    have hlt := sz b hb
    refine ⟨⟨?_, (f2 b hb).2⟩, by rw [h3, Heap.size_push]; exact Nat.lt_succ_of_lt hlt⟩
    rw [upd_ne (by rw [← hD]; exact Nat.ne_of_lt hlt)]
    exact (f2 b hb).1
  have st3 : tn 0 s3.heap := T.keep _ _ _ st2 fun b _ o e => by rw [h3]; exact Heap.get?_push_of_some _ e
  have I4 := block_startH I3 hpp ok hN f3
  have pg := hg s3 (upd H2 D (.lst [])) s3.heap.objs.size (cellsFrom (s3.heap.objs.size + 1) scope.names (cloFrom X.env.cells scope.names [])) fp
  have pt := ht s3 (upd H2 D (.lst [])) s3.heap.objs.size (cellsFrom (s3.heap.objs.size + 1) scope.names (cloFrom X.env.cells scope.names [])) fp
  have pe := he s3 (upd H2 D (.lst [])) s3.heap.objs.size (cellsFrom (s3.heap.objs.size + 1) scope.names (cloFrom X.env.cells scope.names [])) fp
  show codeAny _ _ (.compStart (.ListComp elt [⟨tg, iter, ifs, 0⟩] scope pos) 0 (.ref it) (.ref D) (compEnvC scope (cellsFrom (s3.heap.objs.size + 1) scope.names (cloFrom X.env.cells scope.names [])) s3.heap.objs.size X.env)) (compPost (model X.prog X.w) X.A X.xe use Qf (.ref D) s3.heap.objs.size) { s3 with heap := pushCells (s3.heap.push { cls := .type "dict", data := .dict #[] }) scope.names }
  have nfp : ∀ b ∈ fp, (upd H2 D (.lst [])) b = none := fun b hb => (f3 b hb).1.1
  generalize hce : compEnvC scope (cellsFrom (s3.heap.objs.size + 1) scope.names (cloFrom X.env.cells scope.names [])) s3.heap.objs.size X.env = ce at I4 pg pt pe ⊢
  have cL : ce.locals = s3.heap.objs.size := by subst hce; rfl
  generalize hH3 : upd H2 D (.lst []) = H3 at I3 I4 pg pt pe w0 nfp f3
  generalize hs4 : ({ s3 with heap := pushCells (s3.heap.push { cls := .type "dict", data := .dict #[] }) scope.names } : Shared) = s4 at I4 ⊢
  have st4 : tn 0 s4.heap := T.keep _ _ _ st3 fun b _ o e => by rw [← hs4]; exact pushCells_keeps _ _ _ _ (Heap.get?_push_of_some _ e)
  have stat : ∀ {σ' : L2.St} {H' : Hp} {s' : Shared}, Inv (blkH X s3 H3 scope ce fp pp) [] σ' H' s' → (∀ b ∈ fp, H' b = none) → ∀ b ∈ fp, FpOk (blkH X s3 H3 scope ce fp pp) [] H' b := fun {σ' H' s'} I' hn b hb =>
    ⟨hn b hb, (I'.ok.exf b hb).1, I'.ok.exfs b hb, .inl hb, fun x c e => (I'.ok.exf b hb).2 x c e, fun q hq => by
      have e : q = pp := by simpa using (show q ∈ [pp] ++ ([] : List (Addr × Obj)) from hq)
      rw [e]
      exact (f2 b hb).2.2.2.2.2 pp (List.mem_append_left _ hpp)⟩
  have loop : codeAny (model X.prog X.w) X.A (.compLoop (.ListComp elt [⟨tg, iter, ifs, 0⟩] scope pos) 0 (.ref it) (.ref D) ce) (compPost (model X.prog X.w) X.A X.xe use Qf (.ref D) s3.heap.objs.size) s4 := by
    refine compLoop_any (fun n s' => ∃ i H', Inv (blkH X s3 H3 scope ce fp pp) [] (wipe σ (own.map (·.2))) H' s' ∧ tn i s'.heap ∧ (∀ b ∈ fp, H' b = none) ∧ W i n H') ?_ m0 ⟨0, H3, I4, st4, nfp, w0⟩
    rintro n s5 ⟨i, H5, I5, st5, n5, w5⟩
    rcases turn i n H5 w5 with ⟨stop, qq⟩ | ⟨go, Nx, hNx, step⟩
    · have td := T.done (blkH X s3 H3 scope ce fp pp) rfl rfl rfl ⟨pp, hc, List.mem_singleton.mpr rfl⟩ i [] s5 _ H5 (fun _ _ => False) I5 (stat I5 n5) st5 stop
      refine thnF td fun r s6 ⟨hr, I6⟩ => ?_
      subst hr
      -- back in the def's context
      have I7 : Inv X pins σ H5 s6 := I3.call' (ch := fp) I6.os I6.base I6.hok I6.bare fun b hb => ⟨(f3 b hb).1.2.2.2.1, (f3 b hb).1.2.1, (f3 b hb).1.2.2.2.2.1, (f3 b hb).1.2.2.2.2.2⟩
      have nC : H5 s3.heap.objs.size = none := by
        have z : H5 ce.locals = none := I6.free
        rw [cL] at z
        exact z
      obtain ⟨m, hn, _⟩ := I6.loc
      have hn : s6.heap.Ns ce.locals m := hn
      rw [cL] at hn
      exact hRR D s3.heap.objs.size s6 m H5 I7 qq hn (I3.fpOk (Nat.le_refl _) nC)
    · have ti := T.item (blkH X s3 H3 scope ce fp pp) rfl rfl rfl ⟨pp, hc, List.mem_singleton.mpr rfl⟩ i [] s5 _ H5 (fun _ _ => False) I5 (stat I5 n5) st5 go
      refine thnF ti fun r s6 ⟨u, hr, h6⟩ => ?_
      subst hr
      refine thnF h6 fun _ s7 ⟨x, H7, I7, r7, y7, st7, n7⟩ => ?_
      have I7' := I7.pinned (stat I7 n7) (T.obj _ _ st7)
      refine thnF (pg.run _ s7 _ H7 x u _ I7' r7 (step x H7 y7)) fun _ s8 ⟨σ8, H8, I8, hw8, q8⟩ => ?_
      refine thnF (pt.run _ s8 σ8 H8 _ I8 q8) fun b s9 ⟨H9, I9, q9⟩ => ?_
      -- the turn's end
      have fin : ∀ {s' : Shared} {H' : Hp}, Inv (blkH X s3 H3 scope ce fp pp) ([] ++ pinsAt fp s7.heap) σ8 H' s' → Nx H' → ∃ m, m < n ∧ ∃ i H', Inv (blkH X s3 H3 scope ce fp pp) [] (wipe σ (own.map (·.2))) H' s' ∧ tn i s'.heap ∧ (∀ b ∈ fp, H' b = none) ∧ W i m H' := fun {s' H'} I' nx => by
        obtain ⟨m', hm, w'⟩ := hNx H' nx
        have pin' : ∀ b ∈ fp, ∀ o, s7.heap.get? b = some o → s'.heap.get? b = some o ∧ H' b = none := fun b hb o e =>
          let z := I'.pin (b, o) (List.mem_append_right _ (List.mem_append_right _ (mem_pinsAt hb e)))
          ⟨z.1, z.2.1⟩
        have hl : (wipe σ (own.map (·.2))).length = σ8.length := by rw [← hw8, wipe_length]
        refine ⟨m', hm, i + 1, H', (I'.unpinned (pins := [])).weak hl (fun j v e => ?_), T.keep _ _ _ st7 fun b hb o e => (pin' b hb o e).1, fun b hb => ?_, w'⟩
        · rw [← hw8] at e
          exact (wipe_some e).1
        · obtain ⟨o, e, _⟩ := T.obj _ _ st7 b hb
          exact (pin' b hb o e).2
      cases b with
      | false =>
        simp only [Bool.false_eq_true, if_false] at q9 ⊢
        exact fin I9 q9
      | true =>
        simp only [if_true] at q9 ⊢
        refine thnF (pe.run _ s9 σ8 H9 _ I9 q9) fun z s10 ⟨yv, H10, I10, r10, acc, hD10, hz10, nx⟩ => ?_
        exact app_ok (X := blkH X s3 H3 scope ce fp pp) I10 hD10 hz10 r10 fun s11 I11 => fin I11 nx
  exact codeAny_compStart_list loop (T.self X.A 0 _ _ _ st4 loop)
/-- as a value -/
theorem pe_lcH {elt tg iter : Expr} {ifs : List Expr} {scope : Scope} {own : List (Str × Nat)} {pos : Pos} {wi : TI} {g : TG} {tt : TT} {te : TE} {pp : Addr × Obj} (hc : Hot1 X.A pp) (hpp : pp ∈ X.pn) (hN : X.N.Nodup) (hi : PIH X tg iter wi) (ok : BlkOk X.N X.env.scope scope own)
    (hg : ∀ (s : Shared) (H : Hp) (C : Addr) (cl : List (Str × Addr)) (fp : List Addr), PG (blkH X s H scope (compEnvC scope cl C X.env) fp pp) tg g) (ht : ∀ (s : Shared) (H : Hp) (C : Addr) (cl : List (Str × Addr)) (fp : List Addr), PTs (blkH X s H scope (compEnvC scope cl C X.env) fp pp) ifs tt)
    (he : ∀ (s : Shared) (H : Hp) (C : Addr) (cl : List (Str × Addr)) (fp : List Addr), PE (blkH X s H scope (compEnvC scope cl C X.env) fp pp) elt te) (hs : ∀ x, foldedSetIterable iter X.env x = pure x := by intro _; rfl) :
    PE X (.ListComp elt [⟨tg, iter, ifs, 0⟩] scope pos) (tLc wi g tt te (own.map (·.2))) := by
  refine ⟨fun pins s σ H Q I h => ?_⟩
  rw [eval_ListComp]
  refine lc_hot hc hpp hN I hi ok hg ht he hs h fun D C s' m H' I' q hn f => ⟨m, hn, fun h'' sb => ?_⟩
  obtain ⟨f0, f1, f2, f3, f4, f5⟩ := f
  exact ⟨.ref D, H', I'.turned (t' := s'.toks) (fun b o hb e => (sb.2 b hb).trans e) f0 f1 f3 f4 f5, rfl, q⟩end
/-! ### a def called with the handled exception -/
/-- a promise of a def that is called while an exception is handled, of which Zp holds -/
structure FnZ (P : Program) (w : World) (K : PySem.W.Frag) (mg : Str → Option Value) (base : Heap) (CX : CXT) (k : Nat) (f : Addr) (fd : FuncData) (ps : List Str) (Zp : Addr × Obj → Prop) (sp : Sp) : Prop where
  len : ∀ vs H Q E, sp vs H Q E → vs.length = ps.length
  run : ∀ (A : Around) (outer : List Env) (s : Shared) (H : Hp) (args : Args) (us : List Value) (vs : List V) (Q : VK) (E : XK) (p : Addr × Obj), RoomH k A → Hot1 A p → Zp p → PinOk outer H s p → Env0 P w K mg base A outer s H → BindsTo s fd args (ps.zip us) → Vals vs us →
    sp vs H Q E → codeAny (model P w) A (.call (.ref f) args) (CR CX outer P w H s Q E) s
theorem fn_ofZ {CX : CXT} {P : Program} {w : World} {K : PySem.W.Frag} {mg : Str → Option Value} {base : Heap} {k : Nat} {f : Addr} {name qual : Str} {params : Arguments} {body : List Stmt} {scope : Scope} {dV kV doc pm cdv ct oc : Value} {an od : Option Addr}
    {osl : Array (Option Value)} {N ps : List Str} {Zp : Addr × Obj → Prop} {sp : Sp} (lk : K.lookup f = some ⟨oc, od, .func (PySem.W.fnOf name qual params body scope dV kV doc pm an cdv ct), osl⟩) (hcd : PySem.W.codeIn K cdv qual = true) (S : FnScope N ps scope)
    (len : ∀ vs H Q E, sp vs H Q E → vs.length = ps.length)
    (hbody : ∀ (A : Around) (outer : List Env) (s : Shared) (H : Hp) (vs : List V) (Q : VK) (E : XK) (p : Addr × Obj), Hot1 A p → Zp p → RoomH k (A.deeper (envOfC qual scope s.heap.objs.size f cdv)) → sp vs H Q E →
      ∃ t, PSs (cxH CX P w K mg base N qual scope f cdv A outer s H E p) body t ∧ t { nx := fun _ H' => Q .non H', rt := Q } (L2.start N vs) H) :
    FnZ P w K mg base CX (k + 1) f (PySem.W.fnOf name qual params body scope dV kV doc pm an cdv ct) ps Zp sp := by
  refine ⟨len, fun A outer s H args us vs Q E p hr hot hz hpin e0 hb r hsp => ?_⟩
  have hl := len _ _ _ _ hsp
  have KX : K.In s.heap := e0.mod.kin.keeps fun b o e => (e0.bs b o e).1
  have lim : s.heap.NoLimit := e0.mod.nolimit.keeps fun b o e => (e0.bs b o e).1
  have hkind : ∀ y ∈ ps.zip us, scope.names.lookup y.1 = some .local ∨ (scope.names.lookup y.1 = some .cell ∧ ((cellsFrom (s.heap.objs.size + 1) scope.names []).lookup y.1).isSome = true) := fun ⟨n, v⟩ hy => by
    rcases S.par n (List.of_mem_zip hy).1 with q | q
    · exact .inl q
    · exact .inr ⟨q, PySem.W.cellsFrom_some _ _ _ (.inl q)⟩
  refine codeAny_call_function hr.depth (KX _ _ lk) rfl S.co S.gen rfl (PySem.W.codeRec_of KX hcd) (hb _ _ _ _ ?_)
  refine wpAny_newFunctionEnv_cells S.kind hkind fun env he s1 x => ?_
  subst he
  refine ⟨lim.keeps x.toInCall.keep, codeAny_func ?_⟩
  obtain ⟨t, ht, hq⟩ := hbody A outer s H vs Q E p hot hz (hr.deeper _) hsp
  have I : Inv (cxH CX P w K mg base N qual scope f cdv A outer s H E p) [] (L2.start N vs) H s1 := inv_startH S hpin e0 hl r x
  refine wpAny_mono (ht.run [] s1 (L2.start N vs) H _ I hq) (fun fl s' hs => ?_) fun e s' hs => hs
  have fin : ∀ {σ' : L2.St} {H' : Hp} {v : V} {u : Value}, Inv (cxH CX P w K mg base N qual scope f cdv A outer s H E p) [] σ' H' s' → RelV v u → Q v H' → CE outer P w H s Q u s' :=
    fun {σ' H' v u} J rv q => ⟨v, H', J.os, J.bare, J.base, J.hok, rv, q⟩
  cases fl with
  | ret u =>
    obtain ⟨v, σ', H', J, rv, q⟩ := hs
    exact fin J rv q
  | next =>
    obtain ⟨σ', H', J, q⟩ := hs
    exact fin (v := V.non) (u := Value.none) J rfl q
  | brk =>
    obtain ⟨_, _, _, q⟩ := hs
    exact False.elim q
  | cont =>
    obtain ⟨_, _, _, q⟩ := hs
    exact False.elim q

section
variable {X : Cx} {CX : CXT} {k : Nat} {f C : Addr} {fd : FuncData} {ps : List Str} {sp : Sp} {E : L2.St → XK} {x m : Str} {q pos apos : Pos} {e o : Expr} {es : List Expr} {ta : TE} {t : TA}
theorem run_fnZ {pins : List (Addr × Obj)} {σ : L2.St} {H : Hp} {s : Shared} {Q : VK} {us : List Value} {vs : List V} {Zp : Addr × Obj → Prop} (F : FnZ X.prog X.w X.K X.mg X.base CX k f fd ps Zp sp) (hr : RoomH k X.A) (hc : ∃ p : Addr × Obj, Hot1 X.A p ∧ Zp p ∧ p ∈ X.pn) (hb : Binds X.K fd ps []) (hx : PassesAt CX X σ (E σ))
    (I : Inv X pins σ H s) (r : Vals vs us) (h : sp vs H Q (E σ)) : wpAny (model X.prog X.w) X.A (call (.ref f) us) (EP X pins σ Q) X.xe s := by
  obtain ⟨p, hot, hz, hp⟩ := hc
  have hl : us.length = ps.length := by rw [← r.length]; exact F.len _ _ _ _ h
  have b := hb s us I.kIn (by rw [List.append_nil]; exact hl)
  rw [List.append_nil] at b
  have P1 := I.pin p (List.mem_append_left _ hp)
  have hpin : PinOk X.stack H s p := ⟨P1.1, P1.2.1, fun hm => (List.mem_cons.mp (I.stkSub p.1 hm)).elim P1.2.2.1 P1.2.2.2.1, P1.2.2.2.2⟩
  refine wpAny_call (codeAny_mono (F.run X.A X.stack s H ⟨us, []⟩ us vs Q (E σ) p hr hot hz hpin I.env0 b r h) fun r s' hq => ?_)
  cases r with
  | error e => exact hx pins H s e s' I hq
  | ok fl =>
    cases fl with
    | ret u => exact I.after hq
    | next => exact False.elim hq
    | brk => exact False.elim hq
    | cont => exact False.elim hq
theorem pe_callZ {Zp : Addr × Obj → Prop} (F : FnZ X.prog X.w X.K X.mg X.base CX k f fd ps Zp sp) (hr : RoomH k X.A) (hc : ∃ p : Addr × Obj, Hot1 X.A p ∧ Zp p ∧ p ∈ X.pn) (hg : Gl X x) (hm : X.mg x = some (.ref f)) (hk : PySem.W.keepIn X.K (.ref f) = true) (hb : Binds X.K fd ps []) (hx : ∀ σ, PassesAt CX X σ (E σ))
    (ha : PA X (e :: es) t) (hdb : (x == ("__debug__" : Str)) = false := by decide) (he : starEach (e :: es) X.env = (false, eval e X.env) :: starEach es X.env := by rfl) (hpl : (backTo pos (starEach es X.env)).any (·.1) = false := by rfl) :
    PE X (.Call (.Name x q) (e :: es) [] pos) (tCallS sp E t) := by
  refine ⟨fun pins s σ H Q I h => ?_⟩
  refine wpAny_Call_Name_kw (ld_glob I hg hm ?_ hdb)
  refine PySem.W.callWith_K (h₀ := X.base) I.ok.mod.kin hk (thn (ha.run pos pins s σ H _ I h) fun us s1 ⟨vs, H1, I1, r, q⟩ => ⟨I1.kIn, ?_⟩) he hpl
  exact run_fnZ F hr hc hb (hx σ) I1 r q
end
section
variable {P : Program} {w : World} {K : PySem.W.Frag} {mg : Str → Option Value} {base : Heap} {x qual : Str} {params : Arguments} {body : List Stmt} {scope : Scope} {dvs : List V} {kws : List (Str × V)} {f : Addr} {fd : FuncData}
/-- the rule for such a def -/
theorem okZ {CX : CXT} {N ps : List Str} {k : Nat} {Zp : Addr × Obj → Prop} {sp : Sp} (F : FunD K x qual params body scope dvs kws f fd) (S : FnScope N ps scope) (len : ∀ vs H Q E, sp vs H Q E → vs.length = ps.length)
    (hbody : ∀ (cdv : Value) (A : Around) (outer : List Env) (s : Shared) (H : Hp) (vs : List V) (Q : VK) (E : XK) (p : Addr × Obj), Hot1 A p → Zp p → RoomH k (A.deeper (envOfC qual scope s.heap.objs.size f cdv)) → sp vs H Q E →
      ∃ t, PSs (cxH CX P w K mg base N qual scope f cdv A outer s H E p) body t ∧ t { nx := fun _ H' => Q .non H', rt := Q } (start N vs) H) : FnZ P w K mg base CX (k + 1) f fd ps Zp sp := by
  obtain ⟨oc, od, dV, kV, doc, pm, an, cdv, ct, osl, rfl, lk, hcd, _, _⟩ := F.ex
  exact fn_ofZ lk hcd S len fun A outer s H vs Q E p hot hz hr hsp => hbody cdv A outer s H vs Q E p hot hz hr hsp
end
/-! ### isinstance of the handled exception -/
theorem call_isP {X : Cx} {D : Addr} {p : Addr × Obj} (C : ExcC X.K D) (hp : p ∈ X.pn) (hz : Zc (.ref D) none p.2) (hf : ∃ vs, p.2.data = .fields vs) : CallR X (.builtin "isinstance") (rIsE X.K D p.1) := by
  intro pins s σ H xs us Q I r h
  obtain ⟨c, cv, b, rfl, hcv, e, q⟩ := h
  obtain ⟨u1, u2, rfl, r1, r2⟩ := vals2 r
  cases r1
  have ec := hcv _ r2
  subst ec
  obtain ⟨hget, _⟩ := I.pin p (List.mem_append_left _ hp)
  obtain ⟨vs, hv⟩ := hf
  have J : PySem.W.InstAt s.heap p.1 p.2 D none := by
    obtain ⟨pa, oc, od, oda, osl⟩ := p
    obtain ⟨h1, h2⟩ := hz
    dsimp only at h1 h2 hv
    subst h1 h2 hv
    exact ⟨hget, rfl, rfl, trivial⟩
  exact PySem.W.kia_one (PySem.W.handS_kitx_exc C.hg C.hk C.hs C.hd C.ha C.hn C.ht C.hm) I.kIn J e (fun z => nomatch z) fun tk => ⟨.bl b, H, I.kept (t' := tk) fun _ _ z => z, rfl, q⟩
/-! ### sum of a list, while an exception is handled -/
section
open HotX
variable {prog : Program} {w : World} {A : Around} {E : Value → Shared → Prop} {s : Shared}
theorem list_end_hot {it l x1 : Addr} {i : Nat} {items : Array Value} {Q : Option Value → Shared → Prop} (hot : HotAt A x1 s.heap) (hne : x1 ≠ it) (hit : s.heap.IsListIter it l i) (hl : s.heap.IsList l items) (hx : items[i]? = none)
    (hQ : ∀ h', (∀ b o, b ≠ it → s.heap.get? b = some o → h'.get? b = some o) → Q none { s with heap := h' }) : wpAny (model prog w) A (pyNext (.ref it)) Q E s := by
  obtain ⟨o, ho, hc, hd⟩ := id hit
  obtain ⟨ol, hol, _, nl, hdl⟩ := hl
  obtain ⟨hh, o1, vs1, h1, d1, c1⟩ := hot
  unfold pyNext
  refine wpAny_bind (wpAny_attempt (wpAny_callSpecial?_slot (name := Str.ofString "__next__") hit.typeIs slot_listiter_next
    (wpAny_call_entry slot_listiter_next hit.typeIs entry_listiter_next ?_ (args_listiter_next _))))
  show wpAny _ _ (field (.ref it) 0 >>= _) _ _ s
  refine wpAny_bind (wpAny_field ho hd (x := .ref l) rfl ?_)
  show wpAny _ _ (if (Value.ref l == Value.none) = true then _ else _) _ _ s
  rw [if_neg (show ¬ ((Value.ref l == Value.none) = true) from Bool.false_ne_true)]
  show wpAny _ _ (field (.ref it) 1 >>= _) _ _ s
  refine wpAny_bind (wpAny_field ho hd (x := .int i 0) rfl ?_)
  show wpAny _ _ (seqItems? (.ref l) >>= _) _ _ s
  refine wpAny_bind (wpAny_seqItems hol hdl ?_)
  simp only [Int.toNat_natCast, hx]
  refine wpAny_bind (wpAny_rule (wpAny_bind (wpAny_setField ho hd (by simp) ?_)))
  show wpAny _ _ (newExc (.type "StopIteration") [] >>= _) _ _ _
  refine wpAny_bind ?_
  simp only [newExc, newTuple]
  refine wpAny_bind (wpAny_newObj_type ?_ (by size_fits))
  refine wpAny_bind (m := firstArgMember _ _) (wpAny_of_eq (a := Value.none) (by first | rfl | (simp only [firstArgMember]; rfl)) ?_)
  refine wpAny_newObj_type ?_ (by size_fits)
  have k1 := (Heap.get?_update_other s.heap (Obj.mapFields (·.setIfInBounds 0 Value.none)) (Ne.symm hne)).trans h1
  refine raiseNew_hot ⟨hh, o1, vs1, Heap.get?_push_of_some _ (Heap.get?_push_of_some _ k1), d1, c1⟩ (Nat.ne_of_lt (Heap.lt_size (Heap.get?_push_of_some _ k1))) (Heap.get?_push_size _ rfl) rfl (by first | (simp; done) | (simp; omega) | (simp only [Array.size_append]; simp; omega)) ?_
  refine wpAny_bind (wpAny_isInstance (T := "StopIteration") (b := true) ⟨_, Heap.get?_update_self _ (Heap.get?_push_size _ rfl) rfl, rfl⟩ isSubtype_stop ?_)
  refine wpAny_pure (hQ _ fun b ob hb e => ?_)
  have k2 := (Heap.get?_update_other s.heap (Obj.mapFields (·.setIfInBounds 0 Value.none)) (Ne.symm hb)).trans e
  rw [Heap.get?_update_other _ _ (Nat.ne_of_gt (Heap.lt_size (Heap.get?_push_of_some _ k2)))]
  exact Heap.get?_push_of_some _ (Heap.get?_push_of_some _ k2)
theorem walks_hot {x1 : Addr} (I ax : Addr) (hne : ax ≠ I) (hx1 : x1 ≠ I) (items : Array Value) :
    Walks prog w A I [I, ax, x1] [I] items.size (fun i v => items[i]? = some v) (fun i h => h.IsListIter I ax i ∧ h.IsList ax items ∧ HotAt A x1 h) where
  sub := fun b hb => by simp at hb; simp [hb]
  frame := fun _ _ _ st hk => ⟨st.1.at fun o e => hk I (by simp) o e, st.2.1.at fun o e => hk ax (by simp) o e, st.2.2.1, by
    obtain ⟨o, vs, e, r⟩ := st.2.2.2
    exact ⟨o, vs, hk x1 (by simp) o e, r⟩⟩
  item := fun i s Q E hi st hQ => by
    refine wpAny_pyNext_list_item st.1 st.2.1 (x := items[i]) (by simp [hi]) fun h' hit' hs' => ?_
    refine hQ _ h' s.toks (by simp [hi]) ⟨hit', st.2.1.extBut hs'.extBut hne, st.2.2.1, ?_⟩ fun b o hb e => hs'.extBut b o (fun h => hb (by simp [h])) e
    obtain ⟨o, vs, e, r⟩ := st.2.2.2
    exact ⟨o, vs, hs'.extBut x1 o hx1 e, r⟩
  done := fun s Q E st hQ => list_end_hot st.2.2 hx1 st.1 st.2.1 (by simp) fun h' he' => hQ h' s.toks fun b o hb e => he' b o (fun h => hb (by simp [h])) e
  self := fun _ _ _ _ st hQ => wpAny_pyIter_listiter st.1 hQ
theorem sum_hot {x1 l : Addr} {its : List Value} {ns : List Int} {Q : Value → Shared → Prop} (hot : HotAt A x1 s.heap) (hl : s.heap.IsList l its.toArray) (hi : IntsAre its ns)
    (h : ∀ h' tk t', (∀ b o, s.heap.get? b = some o → h'.get? b = some o) → Q (.int ns.sum t') { s with heap := h', toks := tk }) : wpAny (model prog w) A (call (.builtin "sum") [.ref l]) Q E s := by
  obtain ⟨xs, e⟩ := hi.allInts.items
  have hn : numsOf (intItems xs).toList = ns := by rw [← e]; exact hi.numsOf
  rw [nums_intItems] at hn
  rw [e] at hl
  obtain ⟨hh, o1, vs1, h1, d1, c1⟩ := hot
  refine call_sum_walkG (iter_intList hl fun s₂ e st hfp hlI => ?_)
  subst e
  have hx : x1 ≠ s.heap.objs.size := Nat.ne_of_lt (Heap.lt_size h1)
  refine ⟨_, _, _, _, _, _, numAt xs, rfl, walks_hot (A := A.in1) (x1 := x1) _ l hlI hx (intItems xs), ⟨st.1, st.2, hh, o1, vs1, Heap.get?_push_of_some _ h1, d1, c1⟩, fun b hb => ?_, (fun _ _ => intItems_at), fun h' tk t' hk => ?_⟩
  · rcases List.mem_cons.mp hb with z | z
    · exact hfp b (by simp [z])
    · rcases List.mem_cons.mp z with z | z
      · exact hfp b (by simp [z])
      · rw [List.mem_singleton.mp z]
        exact Heap.lt_size (Heap.get?_push_of_some _ h1)
  · have := h h' tk t' (old_kept hk)
    have e2 : preSum (numAt xs) (intItems xs).size = ns.sum := by rw [show (intItems xs).size = xs.size by simp [intItems], preSum_eq, List.take_of_length_le (by simp), hn]
    rw [e2]
    exact this
end
section
variable {X : Cx}
/-- a value that is called: what is called by R -/
def tKV (R : Addr → Sp → Prop) (tf : TE) (E : L2.St → XK) (t : TA) : TE := fun σ H Q => tf σ H fun v H1 => ∃ (f : Addr) (sp : Sp), v = .ref f ∧ R f sp ∧ t σ H1 fun vs H2 => sp vs H2 Q (E σ)
theorem pe_kv {fe e : Expr} {es : List Expr} {pos : Pos} {tf : TE} {t : TA} {E : L2.St → XK} {R : Addr → Sp → Prop} (hf : PE X fe tf) (ha : PA X (e :: es) t)
    (hR : ∀ f sp, R f sp → ∃ (CX : CXT) (k : Nat) (fd : FuncData) (ps : List Str), FnOk X.prog X.w X.K X.mg X.base CX k f fd ps sp ∧ Room k X.A ∧ PySem.W.keepIn X.K (.ref f) = true ∧ Binds X.K fd ps [] ∧ ∀ σ, PassesAt CX X σ (E σ))
    (hst : starEach (e :: es) X.env = (false, eval e X.env) :: starEach es X.env := by rfl) (hpl : (backTo pos (starEach es X.env)).any (·.1) = false := by rfl)
    (hev : eval (.Call fe (e :: es) [] pos) X.env = (do callWith pos (← eval fe X.env) [] (backTo pos (starEach (e :: es) X.env)) (backToKw pos (keywordEach [] X.env))) := by rfl) : PE X (.Call fe (e :: es) [] pos) (tKV R tf E t) := by
  refine ⟨fun pins s σ H Q I h => ?_⟩
  refine Call_ (thn (hf.run pins s σ H _ I h) fun u s1 ⟨v, H1, I1, r1, q1⟩ => ?_) hev
  obtain ⟨f, sp, rfl, r, q⟩ := q1
  cases r1
  obtain ⟨CX, k, fd, ps, F, hr, kp, b, hx⟩ := hR f sp r
  refine PySem.W.callWith_K (h₀ := X.base) I.ok.mod.kin kp (thn (ha.run pos pins s1 σ H1 _ I1 q) fun us s2 ⟨vs, H2, I2, r2, q2⟩ => ⟨I2.kIn, ?_⟩) hst hpl
  exact run_fnS F hr b (hx σ) I2 r2 q2
theorem takes0N : L2N.Takes X (fun _ _ _ _ => False) := fun _ _ x => by
  obtain ⟨_, _, _, _, _, _, _, _, _, _, _, _, _, _, _, _, z⟩ := x
  exact z.elim
theorem cr_sumH {p : Addr × Obj} (hot : Hot1 X.A p) (hp : p ∈ X.pn) : CallR X (.builtin "sum") (rSum X.K) := by
  intro pins s σ H vs us Q I r h
  obtain ⟨a, ns, rfl, hs, q⟩ := h
  obtain ⟨its, rv, hl, _⟩ := I.list hs
  rw [Vals.ref1 r]
  obtain ⟨hh, vs1, e1, c1⟩ := hot
  exact sum_hot (x1 := p.1) ⟨hh, p.2, vs1, (I.pin p (List.mem_append_left _ hp)).1, e1, c1⟩ hl.isList rv.ints fun h' tk t' hk => ⟨.int _, H, I.kept hk, ⟨_, rfl⟩, q⟩
end
end XH

namespace XR
open PySem PySem.Spec PyProof.Rows L2
section
variable {prog : Program} {w : World} {A : Around} {E : Value → Shared → Prop} {s : Shared}
/-- the new list is filled from a reversed list's iterator -/
theorem extend_rev {R : Result → Shared → Prop} {it l : Addr} {items : Array Value} (hh : A.handled = none) (hit : s.heap.IsRevIter it l ((items.size : Int) - 1)) (hl : s.heap.IsList l items) (hne : l ≠ it) (hn : items.size ≤ sizeLine)
    (S : Addr) (hSi : S ≠ it) (hSl : S ≠ l) (hS : s.heap.get? S = some { cls := .type "list", data := .seq #[] })
    (hR : ∀ h' tk acc' c', (∀ b o, b ≠ S → b ≠ it → s.heap.get? b = some o → h'.get? b = some o) → h'.get? S = some { cls := .type "list", dict := none, data := .seq acc' c', slots := #[] } →
      ItemsOf (fun i v => items[items.size - 1 - i]? = some v) acc' items.size → R (.ok (.ret .none)) { s with heap := h', toks := tk }) :
    wpAny (model prog w) A.in1 (Builtin.List.listExtendWith (.ref S) (.ref it) .none)
      (fun fin s' => match fin with | .done f => R (.ok f) s' | .again c' => c'.quiet = true ∧ codeAny (model prog w) A c' R s') (fun e s' => R (.error e) s') s := by
  have W := (Walks.listRev (prog := prog) (w := w) (A := A.in1) hh it l hne items).toS
  have hSf : S ∉ [it, l] := by simp only [List.mem_cons, List.not_mem_nil, or_false, not_or]; exact ⟨hSi, hSl⟩
  have hT : s.TypeIs (.ref it) "list_reverseiterator" := hit.typeIs
  have h1 : Builtin.List.listSameRef (.ref S) (.ref it) = false := by simp [Builtin.List.listSameRef, hSi]
  unfold Builtin.List.listExtendWith
  refine wpAny_bind (wpAny_typeOf hT ?_)
  rw [if_neg (by rw [h1]; decide)]
  refine wpAny_bind (wpAny_pyIter_revIter hit ?_)
  refine wpAny_bind (wpAny_holding ?_)
  unfold Builtin.List.listLengthHint
  refine wpAny_bind (wpAny_specialOf hT RT.nolen_lri ?_)
  show wpAny _ A.in1 (specialOf (Value.ref it) (Str.ofString "__length_hint__") >>= _) _ _ _
  refine wpAny_bind (wpAny_specialOf hT RT.hint_lri ?_)
  generalize hid : ("list_reverseiterator.__length_hint__" : String) = id0
  wp_delta
  rw [show splitId id0 = some ("list_reverseiterator", "__length_hint__") from by subst hid; decide +kernel]
  subst hid
  refine wpAny_bind (wpAny_isInstance (b := true) hT (by rw [isSubtype_type]; kernel_rfl) ?_)
  refine wpAny_pure ?_
  rw [if_neg (by decide)]
  have e0 : ((items.size : Nat) : Int) - 1 - ((0 : Nat) : Int) = (items.size : Int) - 1 := by omega
  refine wpAny_pure ⟨plainId_quiet F.plain_extend_loop _, codeAny_extend_loopS W hn _ hSf _ items.size 0 _ _ _ rfl (Nat.zero_le _) ⟨Nat.zero_le _, by rw [e0]; exact hit, hl⟩ hS (ItemsOf.nil _) fun s' acc' c' hm hS' hacc => ?_⟩
  rw [Moved.eq_with hm]
  refine hR s'.heap s'.toks acc' c' (fun b o hb hbi e => hm.heap b o (fun hmem => ?_) e) hS' hacc
  rcases List.mem_cons.mp hmem with e' | hmem
  · exact hb e'
  · exact hbi (List.mem_singleton.mp hmem)
theorem call_list_rev {it l : Addr} {items : Array Value} {Q : Value → Shared → Prop} (hh : A.handled = none) (hit : s.heap.IsRevIter it l ((items.size : Int) - 1)) (hl : s.heap.IsList l items) (hne : l ≠ it) (hn : items.size ≤ sizeLine)
    (hQ : ∀ h' tk acc' c', (∀ b o, b ≠ it → s.heap.get? b = some o → h'.get? b = some o) → h'.get? s.heap.objs.size = some { cls := .type "list", dict := none, data := .seq acc' c', slots := #[] } →
      ItemsOf (fun i v => items[items.size - 1 - i]? = some v) acc' items.size → Q (.ref s.heap.objs.size) { s with heap := h', toks := tk }) :
    wpAny (model prog w) A (call (.type "list") [.ref it]) Q E s := by
  obtain ⟨oi, hoi, _⟩ := id hit
  obtain ⟨ol, hol, _⟩ := id hl
  refine callType_codes (Q₁ := fun obj s₁ => obj = .ref s.heap.objs.size ∧ s₁ = { s with heap := s.heap.push { cls := .type "list", data := .seq #[] } }) F.called_list (F.typeCall_list_1 _) F.entry_list_init
    (code_list_new _ ⟨rfl, rfl⟩) fun obj s₁ h₁ => ?_
  obtain ⟨rfl, rfl⟩ := h₁
  have hS : (s.heap.push { cls := .type "list", data := .seq #[] }).get? s.heap.objs.size = some { cls := .type "list", data := .seq #[] } := Heap.get?_push_size _ rfl
  refine ⟨⟨_, hS, rfl⟩, F.args_list_init_2 _ _, ?_⟩
  have hSi : s.heap.objs.size ≠ it := Nat.ne_of_gt (Heap.lt_size hoi)
  have hSl : s.heap.objs.size ≠ l := Nat.ne_of_gt (Heap.lt_size hol)
  show wpAny _ _ (do let old ← Builtin.List.listItems (.ref s.heap.objs.size); Builtin.List.listUpdate (.ref s.heap.objs.size) (fun _ => #[]); letGo old.toList.reverse; Builtin.List.listExtendWith (.ref s.heap.objs.size) (.ref it) .none) _ _ _
  refine wpAny_bind ?_
  unfold Builtin.List.listItems
  refine wpAny_bind (wpAny_seqItems hS rfl (wpAny_pure ?_))
  show wpAny _ _ (updateSeq s.heap.objs.size (fun _ => #[]) >>= fun _ => letGo (#[] : Array Value).toList.reverse >>= fun _ => Builtin.List.listExtendWith (.ref s.heap.objs.size) (.ref it) .none) _ _ _
  refine wpAny_bind (wpAny_updateSeq hS rfl ?_)
  have hS₂ := Heap.get?_update_self (Obj.mapSeq (fun _ => (#[] : Array Value))) hS rfl
  have oth : ∀ b o, b ≠ s.heap.objs.size → s.heap.get? b = some o → ((s.heap.push { cls := .type "list", data := .seq #[] }).update s.heap.objs.size (Obj.mapSeq (fun _ => (#[] : Array Value)))).get? b = some o :=
    fun b o hb e => (Heap.get?_update_other _ _ (Ne.symm hb)).trans (Heap.get?_push_of_some _ e)
  refine wpAny_bind (wpAny_letGo ?_)
  refine extend_rev (A := A.in1) hh (hit.at fun o e => oth _ _ (Ne.symm hSi) e) (hl.at fun o e => oth _ _ (Ne.symm hSl) e) hne hn _ hSi hSl hS₂ fun h' tk acc' c' hk hS' hacc => ?_
  exact ⟨rfl, hQ h' tk acc' c' (fun b o hb e => hk b o (Nat.ne_of_lt (Heap.lt_size e)) hb (oth b o (Nat.ne_of_lt (Heap.lt_size e)) e)) hS' hacc⟩
end
/-- list(reversed(x)), x a list: a new list -/
def tLstRev (K : PySem.W.Frag) (te : TE) : TE := fun σ H Q => te σ H fun v H1 => ∃ (a : Addr) (xs : List V), v = .ref a ∧ SqL K H1 a xs ∧ ∀ q, H1 q = none → Q (.ref q) (upd H1 q (.lst xs.reverse))
section
variable {X : Cx}
theorem pe_lstRev {e : Expr} {te : TE} {p p2 pos pos2 : Pos} (hc : X.calm = true) (hg : Gl X "list") (hm : X.mg "list" = none) (hg2 : Gl X "reversed") (hm2 : X.mg "reversed" = none) (he : PE X e te)
    (hs : starEach [e] X.env = (false, eval e X.env) :: starEach [] X.env := by rfl)
    (hs2 : starEach [.Call (.Name "reversed" p2) [e] [] pos2] X.env = (false, eval (.Call (.Name "reversed" p2) [e] [] pos2) X.env) :: starEach [] X.env := by rfl) :
    PE X (.Call (.Name "list" p) [.Call (.Name "reversed" p2) [e] [] pos2] [] pos) (tLstRev X.K te) := by
  refine ⟨fun pins s σ H Q I h => ?_⟩
  refine Call_ (ld_blt I hg hm boot_list (PyProof.Rows.callWith_type1 (args_cons (Call_ (ld_blt I hg2 hm2 PyProof.Rows.boot_reversed (PyProof.Rows.callWith_type1 (args_cons (thn (he.run pins s σ H _ I h) fun u s1 ⟨v, H1, I1, r1, q1⟩ => args_nil ?_) hs) hs rfl))) hs2) hs2 rfl))
  obtain ⟨a, xs, ev, hq, q⟩ := q1
  subst ev
  obtain rfl : u = Value.ref a := r1
  obtain ⟨its, rv, p', hz⟩ := I1.list hq
  refine call_reversed_list p'.isList (args_nil ?_)
  have k0 : ∀ b o, s1.heap.get? b = some o → (s1.heap.push (revObj a ((its.toArray.size : Int) - 1))).get? b = some o := fun b o e => Heap.get?_push_of_some _ e
  have I2 : Inv X pins σ H1 { s1 with heap := s1.heap.push (revObj a ((its.toArray.size : Int) - 1)) } := I1.kept (t' := s1.toks) k0
  obtain ⟨f0, f1, f2, f3, f4, f5⟩ := I1.fpOk (H' := H1) (b := s1.heap.objs.size) (Nat.le_refl _) (I1.hok.fresh (Nat.le_refl _))
  have hl := p'.isList
  obtain ⟨ol, hol, _⟩ := id hl
  have hne : a ≠ s1.heap.objs.size := Nat.ne_of_lt (Heap.lt_size hol)
  have hn : its.toArray.size ≤ sizeLine := by rw [List.size_toArray, ← rv.length]; exact hz
  refine call_list_rev (s := { s1 with heap := s1.heap.push (revObj a ((its.toArray.size : Int) - 1)) }) (I1.ok.hd hc) ⟨_, Heap.get?_push_size _ rfl, rfl, rfl⟩ (hl.push _) hne hn fun h' tk acc c' hk hS hi => ?_
  have sz : (s1.heap.push (revObj a ((its.toArray.size : Int) - 1))).objs.size = s1.heap.objs.size + 1 := Heap.size_push _ _
  have fr : H1 (s1.heap.objs.size + 1) = none := I1.hok.fresh (by omega)
  rw [sz] at hS
  have k1 : ∀ b o, s1.heap.get? b = some o → h'.get? b = some o := fun b o e => hk b o (Nat.ne_of_lt (Heap.lt_size e)) (k0 b o e)
  have new : ObjOk X.prog X.w (upd H1 (s1.heap.objs.size + 1) (.lst xs.reverse)) h' (s1.heap.objs.size + 1) (.lst xs.reverse) :=
    ⟨by rw [List.length_reverse]; exact hz, acc.toList, c', RT.vals_rev rv hi, by rw [Array.toArray_toList]; exact hS⟩
  exact ⟨.ref _, _, I1.laid (t' := tk) k1 (Nat.le_succ _) new, by rw [sz]; rfl, q _ fr⟩
end
end XR

/-! days by counting: the mathematics, in plain Lean -/
namespace M00
def leap (y : Int) : Bool := decide (y % 4 = 0) && (!decide (y % 100 = 0) || decide (y % 400 = 0))
def lp (y : Int) : Int := if leap y then 1 else 0
def base (m : Int) : Int := if m = 2 then 28 else if m = 4 ∨ m = 6 ∨ m = 9 ∨ m = 11 then 30 else 31
def len (y m : Int) : Int := base m + (if m = 2 then lp y else 0)
def da (y : Int) : Int := 365 * (y - 1600) + ((y - 1) / 4 - (y - 1) / 100 + (y - 1) / 400) - 387
theorem lp_cases (y : Int) : (lp y = 1 ∧ y % 4 = 0 ∧ (y % 100 ≠ 0 ∨ y % 400 = 0)) ∨ (lp y = 0 ∧ (y % 4 ≠ 0 ∨ (y % 100 = 0 ∧ y % 400 ≠ 0))) := by
  unfold lp leap
  by_cases h1 : y % 4 = 0 <;> by_cases h2 : y % 100 = 0 <;> by_cases h3 : y % 400 = 0 <;> simp [h1, h2, h3]
theorem lp_le (y : Int) : 0 ≤ lp y ∧ lp y ≤ 1 := by
  rcases lp_cases y with h | h <;> omega
theorem da_succ (y : Int) : da (y + 1) = da y + 365 + lp y := by
  unfold da
  have e : y + 1 - 1 = y := by omega
  rw [e]
  rcases lp_cases y with ⟨h, h1, h2 | h2⟩ | ⟨h, h1 | ⟨h1, h2⟩⟩ <;> rw [h] <;> omega
theorem da_1600 : da 1600 = 0 := by decide
theorem da_add (y : Int) : ∀ k : Nat, 365 * (k : Int) ≤ da (y + k) - da y ∧ da (y + k) - da y ≤ 366 * k
  | 0 => by simp
  | k + 1 => by
    have ih := da_add y k
    have e : y + ((k + 1 : Nat) : Int) = (y + k) + 1 := by omega
    have s := da_succ (y + k)
    have l := lp_le (y + k)
    rw [e, s]
    omega
theorem da_mono {x y : Int} (h : x ≤ y) : 365 * (y - x) ≤ da y - da x ∧ da y - da x ≤ 366 * (y - x) := by
  have q := da_add x (y - x).toNat
  have e : ((y - x).toNat : Int) = y - x := Int.toNat_of_nonneg (by omega)
  rw [e] at q
  have e2 : x + (y - x) = y := by omega
  rw [e2] at q
  omega
/-- the days of the months ahead of month 1 + k -/
def sumL (y : Int) : Nat → Int
  | 0 => 0
  | k + 1 => sumL y k + len y (1 + k)
theorem len_pos (y m : Int) : 28 ≤ len y m ∧ len y m ≤ 31 := by
  have l := lp_le y
  unfold len base
  by_cases h : m = 2
  · subst h
    simp
    omega
  · rw [if_neg h, if_neg h]
    split <;> omega
theorem sumL_12 (y : Int) : sumL y 12 = 365 + lp y := by
  simp [sumL, len, base]
  omega
theorem sumL_mono (y : Int) {i j : Nat} (h : i ≤ j) : sumL y i ≤ sumL y j := by
  induction h with
  | refl => exact Int.le_refl _
  | step _ ih =>
    have := (len_pos y (1 + (‹Nat› : Int))).1
    simp only [sumL]
    omega
theorem sumL_nonneg (y : Int) (j : Nat) : 0 ≤ sumL y j := sumL_mono y (Nat.zero_le j)
/-- the number of a date -/
def num (y m d : Int) : Int := da y + sumL y (m - 1).toNat + d - 1
/-- a date that there is -/
structure IsD (n y m d : Int) : Prop where
  y0 : 1600 ≤ y
  m1 : 1 ≤ m
  m2 : m ≤ 12
  d1 : 1 ≤ d
  d2 : d ≤ len y m
  e : num y m d = n
theorem toNat_succ {m : Int} (h : 1 ≤ m) : (m + 1 - 1).toNat = (m - 1).toNat + 1 := by omega
theorem sum_to {y m : Int} (h : 1 ≤ m) : sumL y (m + 1 - 1).toNat = sumL y (m - 1).toNat + len y m := by
  rw [toNat_succ h]
  show sumL y (m - 1).toNat + len y (1 + ((m - 1).toNat : Int)) = _
  rw [show 1 + ((m - 1).toNat : Int) = m by omega]
theorem sum_year {y m : Int} (h : 1 ≤ m) (h2 : m ≤ 12) : sumL y (m - 1).toNat + len y m ≤ 365 + lp y := by
  rw [← sum_to h, ← sumL_12]
  exact sumL_mono y (by omega)
theorem IsD.low {n y m d : Int} (h : IsD n y m d) : da y ≤ n ∧ n < da (y + 1) := by
  have e := h.e
  unfold num at e
  have h1 := sumL_nonneg y (m - 1).toNat
  have h2 := sum_year (y := y) h.m1 h.m2
  have h3 := da_succ y
  have := h.d1
  have := h.d2
  omega
theorem da_inj {n x y : Int} (a : da x ≤ n ∧ n < da (x + 1)) (b : da y ≤ n ∧ n < da (y + 1)) : x = y := by
  by_cases h : x < y
  · have q := da_mono (show x + 1 ≤ y by omega)
    omega
  · by_cases h2 : y < x
    · have q := da_mono (show y + 1 ≤ x by omega)
      omega
    · omega
theorem sum_inj {y r m m' : Int} (h : 1 ≤ m) (h' : 1 ≤ m') (a : sumL y (m - 1).toNat ≤ r ∧ r < sumL y (m - 1).toNat + len y m) (b : sumL y (m' - 1).toNat ≤ r ∧ r < sumL y (m' - 1).toNat + len y m') : m = m' := by
  rw [← sum_to h] at a
  rw [← sum_to h'] at b
  by_cases c : m < m'
  · have q := sumL_mono y (show (m + 1 - 1).toNat ≤ (m' - 1).toNat by omega)
    omega
  · by_cases c2 : m' < m
    · have q := sumL_mono y (show (m' + 1 - 1).toNat ≤ (m - 1).toNat by omega)
      omega
    · omega
theorem IsD.uniq {n y m d y' m' d' : Int} (a : IsD n y m d) (b : IsD n y' m' d') : y = y' ∧ m = m' ∧ d = d' := by
  have ey := da_inj a.low b.low
  subst ey
  have ea := a.e
  have eb := b.e
  unfold num at ea eb
  have em : m = m' := sum_inj (y := y) (r := n - da y) a.m1 b.m1 ⟨by have := a.d1; omega, by have := a.d2; omega⟩ ⟨by have := b.d1; omega, by have := b.d2; omega⟩
  subst em
  exact ⟨rfl, rfl, by omega⟩
/-- the year of a number -/
theorem da_2148 : da 2148 = 200153 := by decide
theorem IsD.year {n y m d : Int} (h : IsD n y m d) (hn : n ≤ 200000) : y ≤ 2147 := by
  have l := h.low
  have q := da_2148
  by_cases c : 2148 ≤ y
  · have := da_mono c
    omega
  · omega
theorem IsD.nonneg {n y m d : Int} (h : IsD n y m d) : 0 ≤ n := by
  have l := h.low
  have q := da_mono h.y0
  rw [da_1600] at q
  have := h.y0
  omega
/-- the next date -/
theorem IsD.next {n y m d : Int} (h : IsD n y m d) : (d < len y m → IsD (n + 1) y m (d + 1)) ∧ (¬ d < len y m → m < 12 → IsD (n + 1) y (m + 1) 1) ∧ (¬ d < len y m → ¬ m < 12 → IsD (n + 1) (y + 1) 1 1) := by
  have e := h.e
  have h1 := h.m1
  have h2 := h.m2
  have h3 := h.d1
  have h4 := h.d2
  have h5 := h.y0
  unfold num at e
  refine ⟨fun c => ⟨h5, h1, h2, by omega, by omega, by unfold num; omega⟩, fun c c2 => ⟨h5, by omega, by omega, by omega, by have := len_pos y (m + 1); omega, ?_⟩, fun c c2 => ⟨by omega, by omega, by omega, by omega, by have := len_pos (y + 1) 1; omega, ?_⟩⟩
  · unfold num
    rw [sum_to h1]
    omega
  · have em : m = 12 := by omega
    subst em
    unfold num
    have s := sum_to (y := y) (m := 12) (by omega)
    have s2 := sumL_12 y
    have e3 : ((12 : Int) + 1 - 1).toNat = 12 := by decide
    rw [e3, s2] at s
    have s3 := da_succ y
    have e4 : sumL (y + 1) ((1 : Int) - 1).toNat = 0 := by rfl
    rw [e4]
    omega
/-- the law's own sum of years -/
def sumY : Nat → Int
  | 0 => 0
  | k + 1 => sumY k + (365 + lp (1600 + k))
theorem sumY_da : ∀ k : Nat, sumY k = da (1600 + k)
  | 0 => by
    show (0 : Int) = da (1600 + 0)
    rw [show (1600 : Int) + 0 = 1600 by omega, da_1600]
  | k + 1 => by
    show sumY k + (365 + lp (1600 + k)) = da (1600 + ((k + 1 : Nat) : Int))
    rw [sumY_da k, show (1600 : Int) + ((k + 1 : Nat) : Int) = (1600 + k) + 1 by omega, da_succ]
    omega

end M00

namespace K00
open PySem PySem.Spec PyProof.Rows L2 XK M00
def topS (i : Nat) : Stmt := PySem.Challenge.pw_asenacted_k00_whole_days_by_counting.main.body.getD i (.Pass ⟨0, 0, 0, 0⟩)
abbrev FnP (K : PySem.W.Frag) (x : Str) (st : Stmt) (f : Addr) (fd : FuncData) : Prop := FunD K x x (defArgs st) (defBody st) (defScope st) [] [] f fd
/-- an own error's class -/
structure Er (K : PySem.W.Frag) (mg : Str → Option Value) (x : Str) : Prop where
  gP : mg x = some (.ref (He.ga K x))
  xP : PySem.W.excIn K (He.ga K x) He.veBase "ValueError.__new__" = true
  kP : PySem.W.keepIn K (.ref (He.ga K x)) = true
  bP : PySem.W.subIn K (.ref (He.ga K x)) (.type "BaseException") = some true
  tP : PySem.W.typeIn K (.ref (He.ga K x)) = some (.type "type")
/-- a name that stands for a value -/
abbrev Is (mg : Str → Option Value) (x : Str) (v : V) : Prop := ∃ u, mg x = some u ∧ RelV v u
def lens : List Int := [31, 28, 31, 30, 31, 30, 31, 31, 30, 31, 30, 31]
structure Txt (K : PySem.W.Frag) (mg : Str → Option Value) : Prop where
  n_isinstance : mg "isinstance" = none
  n_int : mg "int" = none
  n_bool : mg "bool" = none
  n_str : mg "str" = none
  n_tuple : mg "tuple" = none
  n_list : mg "list" = none
  n_dict : mg "dict" = none
  n_sum : mg "sum" = none
  n_range : mg "range" = none
  n_len : mg "len" = none
  n_abs : mg "abs" = none
  n_reversed : mg "reversed" = none
  v_FIRST_YEAR : Is mg "FIRST_YEAR" (.int 1600)
  v_LAST_DAY : Is mg "LAST_DAY" (.int 200000)
  v_MONTHS : Is mg "MONTHS" (.int 12)
  v_WEEK : Is mg "WEEK" (.int 7)
  v_FIRST_WEEK_DAY : Is mg "FIRST_WEEK_DAY" (.int 5)
  v_FEBRUARY : Is mg "FEBRUARY" (.int 2)
  v_LENGTHS : Is mg "LENGTHS" (.ref (He.ga K "LENGTHS"))
  t_LENGTHS : ∀ H, SqT K H (He.ga K "LENGTHS") (lens.map V.int)
  e_NotRight : Er K mg "NotRight"
  e_NoAnswer : Er K mg "NoAnswer"
abbrev cN (K : PySem.W.Frag) : Value := .ref (He.ga K "NotRight")
abbrev cA (K : PySem.W.Frag) : Value := .ref (He.ga K "NoAnswer")
section
variable {P : Program} {w : World} {K : PySem.W.Frag} {mg : Str → Option Value} {base : Heap} {f : Addr} {fd : FuncData}
abbrev s_check : Stmt := topS 5
theorem sc_check : FnScope ["is_right"] ["is_right"] (defScope s_check) := ⟨rfl, rfl, rfl, by decide +kernel, rfl, by decide +kernel, by decide +kernel⟩
def spCheck (K : PySem.W.Frag) : Sp := fun vs H Q E => ∃ b, vs = [.bl b] ∧ (b = true → Q .non H) ∧ (b = false → E (cN K) none H)
theorem ok_check (T : Txt K mg) (F : FnP K "check" s_check f fd) : FnOk P w K mg base (L2N.CX P w) 1 f fd ["is_right"] (spCheck K) := by
  refine F.ok sc_check (fun vs H Q E h => by obtain ⟨b, rfl, _⟩ := h; rfl) (fun cdv A outer s H vs Q E hr h => ?_)
  obtain ⟨b, rfl, q1, q2⟩ := h
  refine ⟨_, (pss_one (ps_if (pt_not (pt_val (pv 0))) (pss_one (L2N.ps_raise rfl (L2N.takes_of rfl rfl rfl rfl) (L2N.pmk_own PySem.F.excBase_ValueError T.e_NotRight.xP T.e_NotRight.gP T.e_NotRight.kP (raises_own T.e_NotRight.bP T.e_NotRight.tP) rfl))) pss_nil)), ?_⟩
  refine ⟨_, rfl, b, rfl, ?_⟩
  cases b with
  | true => exact iteF (q1 rfl)
  | false => exact iteT (q2 rfl)
abbrev s_is_integer : Stmt := topS 6
theorem sc_is_integer : FnScope ["value"] ["value"] (defScope s_is_integer) := ⟨rfl, rfl, rfl, by decide +kernel, rfl, by decide +kernel, by decide +kernel⟩
def isInt : PyData → Bool
  | .int _ => true
  | _ => false
def spInt (K : PySem.W.Frag) : Sp := fun vs H Q _ => ∃ v d, vs = [v] ∧ Dp K H v d ∧ Q (.bl (isInt d)) H
theorem ok_is_integer (T : Txt K mg) (F : FnP K "is_integer" s_is_integer f fd) : FnOk P w K mg base CX0 1 f fd ["value"] (spInt K) := by
  refine F.ok sc_is_integer (fun vs H Q E h => by obtain ⟨v, d, rfl, _⟩ := h; rfl) (fun cdv A outer s H vs Q E hr h => ?_)
  obtain ⟨v, d, rfl, hd, q⟩ := h
  refine ⟨_, PSs.nox (pss_one (ps_ret (pe_and (pe_callB call_isD (by rfl) T.n_isinstance (by decide +kernel) (pa_cons (pv 0) (pa_cons (pe_bltn (v := .ty "int") (u := .type "int") (by rfl) T.n_int (by decide +kernel) rfl) pa_nil))) (pe_one (pe_not (pe_callB call_isD (by rfl) T.n_isinstance (by decide +kernel) (pa_cons (pv 0) (pa_cons (pe_bltn (v := .ty "bool") (u := .type "bool") (by rfl) T.n_bool (by decide +kernel) rfl) pa_nil)))))))), ?_⟩
  refine ⟨_, rfl, v, d, "int", rfl, hd, kit_int d, _, rfl, ?_⟩
  by_cases c : isT "int" d = true
  · rw [c]
    refine iteT ⟨_, rfl, v, d, "bool", rfl, hd, kit_bool d, _, rfl, ?_⟩
    have e : (!isT "bool" d) = isInt d := by
      cases hd <;> first | rfl | cases c
    rw [e]
    exact q
  · rw [Bool.eq_false_iff.mpr c]
    refine iteF ?_
    have e : isInt d = false := by
      cases hd <;> first | rfl | exact absurd rfl c
    rw [e] at q
    exact q
abbrev s_is_day_number : Stmt := topS 15
theorem sc_is_day_number : FnScope ["value"] ["value"] (defScope s_is_day_number) := ⟨rfl, rfl, rfl, by decide +kernel, rfl, by decide +kernel, by decide +kernel⟩
def isDay : PyData → Bool
  | .int i => decide (0 ≤ i) && decide (i ≤ 200000)
  | _ => false
def spDay (K : PySem.W.Frag) : Sp := fun vs H Q _ => ∃ v d, vs = [v] ∧ Dp K H v d ∧ Q (.bl (isDay d)) H
theorem ok_is_day_number (T : Txt K mg) (c_is_integer : Cl P w K mg base CX0 1 "is_integer" (spInt K)) (F : FnP K "is_day_number" s_is_day_number f fd) : FnOk P w K mg base CX0 2 f fd ["value"] (spDay K) := by
  refine F.ok sc_is_day_number (fun vs H Q E h => by obtain ⟨v, d, rfl, _⟩ := h; rfl) (fun cdv A outer s H vs Q E hr h => ?_)
  obtain ⟨v, d, rfl, hd, q⟩ := h
  refine ⟨_, PSs.nox (pss_one (ps_ret (pe_and (pe_k (E := fun _ => E0) c_is_integer hr (by decide) (by rfl) at0 (pa_cons (pv 0) pa_nil)) (pe_one (pe_chain op_le op_le pe_int (pv 0) (pe_gc (by rfl) T.v_LAST_DAY)))))), ?_⟩
  refine ⟨_, rfl, v, d, rfl, hd, _, rfl, ?_⟩
  cases hd with
  | int i =>
    refine iteT ⟨_, rfl, _, _, rfl, rfl, _, rfl, ?_⟩
    by_cases c : (0 : Int) ≤ i
    · rw [decide_eq_true c]
      refine iteT ⟨_, _, rfl, rfl, ?_⟩
      have e : isDay (.int i) = decide (i ≤ 200000) := by show (decide (0 ≤ i) && _) = _; rw [decide_eq_true c]; rfl
      rw [e] at q
      exact q
    · rw [decide_eq_false c]
      refine iteF ?_
      have e : isDay (.int i) = false := by show (decide (0 ≤ i) && _) = _; rw [decide_eq_false c]; rfl
      rw [e] at q
      exact q
  | _ => exact iteF q
abbrev s_leaps : Stmt := topS 16
theorem sc_leaps : FnScope ["year"] ["year"] (defScope s_leaps) := ⟨rfl, rfl, rfl, by decide +kernel, rfl, by decide +kernel, by decide +kernel⟩
def spLeaps : Sp := fun vs H Q _ => ∃ y : Int, vs = [.int y] ∧ Q (.bl (leap y)) H
theorem ok_leaps (T : Txt K mg) (F : FnP K "leaps" s_leaps f fd) : FnOk P w K mg base CX0 1 f fd ["year"] spLeaps := by
  refine F.ok sc_leaps (fun vs H Q E h => by obtain ⟨y, rfl, _⟩ := h; rfl) (fun cdv A outer s H vs Q E hr h => ?_)
  obtain ⟨y, rfl, q⟩ := h
  refine ⟨_, PSs.nox (pss_one (ps_ret (pe_and (pe_cmpR op_eq (pe_op op_mod (pv 0) pe_int) pe_int (nomark _)) (pe_one (pe_or (pe_cmpR op_ne (pe_op op_mod (pv 0) pe_int) pe_int (nomark _)) (pe_one (pe_cmpR op_eq (pe_op op_mod (pv 0) pe_int) pe_int (nomark _)))))))), ?_⟩
  refine ⟨_, rfl, y, 4, rfl, rfl, (by show (0 : Int) < 4; decide), rfl, _, rfl, ?_⟩
  have ev : ∀ a b : Int, decide (V.int a = V.int b) = decide (a = b) := fun a b => by
    by_cases c : a = b
    · rw [decide_eq_true c, c, decide_eq_true rfl]
    · rw [decide_eq_false c, decide_eq_false (fun z => c (V.int.inj z))]
  rw [ev]
  unfold leap at q
  by_cases c : y % 4 = 0
  · rw [decide_eq_true c] at q ⊢
    refine iteT ⟨_, rfl, y, 100, rfl, rfl, (by show (0 : Int) < 100; decide), rfl, _, rfl, ?_⟩
    rw [ev]
    by_cases c2 : y % 100 = 0
    · rw [decide_eq_true c2] at q ⊢
      refine iteF ⟨_, rfl, y, 400, rfl, rfl, (by show (0 : Int) < 400; decide), rfl, ?_⟩
      rw [ev]
      exact q
    · rw [decide_eq_false c2] at q ⊢
      exact iteT q
  · rw [decide_eq_false c] at q ⊢
    exact iteF q
abbrev s_is_leap : Stmt := topS 17
theorem sc_is_leap : FnScope ["year"] ["year"] (defScope s_is_leap) := ⟨rfl, rfl, rfl, by decide +kernel, rfl, by decide +kernel, by decide +kernel⟩
def spIsLeap (K : PySem.W.Frag) : Sp := fun vs H Q E => ∃ v d, vs = [v] ∧ Dp K H v d ∧ (∀ y, d = .int y → Q (.bl (leap y)) H) ∧ (isInt d = false → E (cN K) none H)
theorem ok_is_leap (T : Txt K mg) (c_is_integer : Cl P w K mg base CX0 1 "is_integer" (spInt K)) (c_check : Cl P w K mg base (L2N.CX P w) 1 "check" (spCheck K)) (c_leaps : Cl P w K mg base CX0 1 "leaps" spLeaps)
    (F : FnP K "is_leap" s_is_leap f fd) : FnOk P w K mg base (L2N.CX P w) 2 f fd ["year"] (spIsLeap K) := by
  refine F.ok sc_is_leap (fun vs H Q E h => by obtain ⟨v, d, rfl, _⟩ := h; rfl) (fun cdv A outer s H vs Q E hr h => ?_)
  obtain ⟨v, d, rfl, hd, q1, q2⟩ := h
  refine ⟨_, (pss_cons (ps_expr (pe_k (E := fun _ => E) c_check hr (by decide) (by rfl) (atX (L2N.takes_of rfl rfl rfl rfl)) (pa_cons (pe_k (E := fun _ => E0) c_is_integer hr (by decide) (by rfl) at0 (pa_cons (pv 0) pa_nil)) pa_nil)))
      (pss_one (ps_ret (pe_k (E := fun _ => E0) c_leaps hr (by decide) (by rfl) at0 (pa_cons (pv 0) pa_nil))))), ?_⟩
  refine ⟨_, rfl, v, d, rfl, hd, _, rfl, fun c => ?_, q2⟩
  cases hd with
  | int y => exact ⟨_, rfl, y, rfl, q1 y rfl⟩
  | _ => cases c
abbrev s_length_by : Stmt := topS 18
theorem sc_length_by : FnScope ["year", "month"] ["year", "month"] (defScope s_length_by) := ⟨rfl, rfl, rfl, by decide +kernel, rfl, by decide +kernel, by decide +kernel⟩
def spLen : Sp := fun vs H Q _ => ∃ y m : Int, vs = [.int y, .int m] ∧ (1 ≤ m ∧ m ≤ 12) ∧ Q (.int (len y m)) H
theorem lens_at : ∀ k : Nat, k < 12 → (lens.map V.int)[k]? = some (.int (M00.base (k + 1))) := by decide
theorem ok_length_by (T : Txt K mg) (c_leaps : Cl P w K mg base CX0 1 "leaps" spLeaps)
    (F : FnP K "length_by" s_length_by f fd) : FnOk P w K mg base CX0 2 f fd ["year", "month"] spLen := by
  refine F.ok sc_length_by (fun vs H Q E h => by obtain ⟨v, d, rfl, _⟩ := h; rfl) (fun cdv A outer s H vs Q E hr h => ?_)
  obtain ⟨y, m, rfl, ⟨h1, h2⟩, q⟩ := h
  refine ⟨_, PSs.nox (pss_one (ps_ret (pe_op op_add (pe_ix ix_tup (pe_gc (by rfl) T.v_LENGTHS) (pe_op op_sub (pv 1) pe_int) (fun _ _ => rfl)) (pe_ifExp (PW.pt (pw_and (pt_cmpR op_eq (pv 1) (pe_gc (by rfl) T.v_FEBRUARY) (nomark _)) (pw_and1 (pt_val (pe_k (E := fun _ => E0) c_leaps hr (by decide) (by rfl) at0 (pa_cons (pv 0) pa_nil)))))) pe_int pe_int)))), ?_⟩
  have hi : (lens.map V.int)[(m - 1).toNat]? = some (.int (M00.base m)) := by
    rw [lens_at _ (by omega), show ((m - 1).toNat : Int) + 1 = m by omega]
  refine ⟨_, rfl, m, 1, rfl, rfl, _, _, m - 1, _, rfl, rfl, T.t_LENGTHS H, atI_of (by omega) hi, ?_⟩
  refine ⟨_, rfl, rfl, _, rfl, ?_⟩
  unfold len at q
  by_cases c : m = 2
  · subst c
    rw [decide_eq_true rfl]
    refine iteT ⟨_, rfl, y, rfl, leap y, rfl, ?_⟩
    rw [if_pos rfl] at q
    unfold lp at q
    by_cases c2 : leap y = true
    · rw [c2] at q ⊢
      exact iteT ⟨_, _, rfl, rfl, q⟩
    · rw [Bool.eq_false_iff.mpr c2] at q ⊢
      exact iteF ⟨_, _, rfl, rfl, q⟩
  · rw [decide_eq_false (fun z => c (V.int.inj z))]
    refine iteF (iteF ⟨_, _, rfl, rfl, ?_⟩)
    rw [if_neg c] at q
    exact q
end
end K00

namespace K00
open PySem PySem.Spec PyProof.Rows L2 XK M00
section
variable {P : Program} {w : World} {K : PySem.W.Frag} {mg : Str → Option Value} {base : Heap} {f : Addr} {fd : FuncData}
abbrev s_length_of_month : Stmt := topS 19
theorem sc_length_of_month : FnScope ["year", "month"] ["year", "month"] (defScope s_length_of_month) := ⟨rfl, rfl, rfl, by decide +kernel, rfl, by decide +kernel, by decide +kernel⟩
def okM : PyData → PyData → Bool
  | .int _, .int m => decide (1 ≤ m) && decide (m ≤ 12)
  | _, _ => false
def spLenM (K : PySem.W.Frag) : Sp := fun vs H Q E => ∃ v v2 d d2, vs = [v, v2] ∧ Dp K H v d ∧ Dp K H v2 d2 ∧ (∀ y m, d = .int y → d2 = .int m → 1 ≤ m → m ≤ 12 → Q (.int (len y m)) H) ∧ (okM d d2 = false → E (cN K) none H)
theorem ok_length_of_month (T : Txt K mg) (c_is_integer : Cl P w K mg base CX0 1 "is_integer" (spInt K)) (c_check : Cl P w K mg base (L2N.CX P w) 1 "check" (spCheck K)) (c_length_by : Cl P w K mg base CX0 2 "length_by" spLen)
    (F : FnP K "length_of_month" s_length_of_month f fd) : FnOk P w K mg base (L2N.CX P w) 3 f fd ["year", "month"] (spLenM K) := by
  refine F.ok sc_length_of_month (fun vs H Q E h => by obtain ⟨v, v2, d, d2, rfl, _⟩ := h; rfl) (fun cdv A outer s H vs Q E hr h => ?_)
  obtain ⟨v, v2, d, d2, rfl, hd, hd2, q1, q2⟩ := h
  refine ⟨_, (pss_cons (ps_expr (pe_k (E := fun _ => E) c_check hr (by decide) (by rfl) (atX (L2N.takes_of rfl rfl rfl rfl)) (pa_cons (pe_k (E := fun _ => E0) c_is_integer hr (by decide) (by rfl) at0 (pa_cons (pv 0) pa_nil)) pa_nil)))
      (pss_cons (ps_expr (pe_k (E := fun _ => E) c_check hr (by decide) (by rfl) (atX (L2N.takes_of rfl rfl rfl rfl)) (pa_cons (pe_and (pe_k (E := fun _ => E0) c_is_integer hr (by decide) (by rfl) at0 (pa_cons (pv 1) pa_nil)) (pe_one (pe_chain op_le op_le pe_int (pv 1) (pe_gc (by rfl) T.v_MONTHS)))) pa_nil)))
      (pss_one (ps_ret (pe_k (E := fun _ => E0) c_length_by hr (by decide) (by rfl) at0 (pa_cons (pv 0) (pa_cons (pv 1) pa_nil))))))), ?_⟩
  refine ⟨_, rfl, v, d, rfl, hd, _, rfl, fun c => ?_, fun c => q2 ?_⟩
  · cases hd with
    | int y =>
      refine ⟨_, rfl, v2, d2, rfl, hd2, _, rfl, ?_⟩
      cases hd2 with
      | int m =>
        refine iteT ⟨_, rfl, _, _, rfl, rfl, _, rfl, ?_⟩
        by_cases c1 : (1 : Int) ≤ m
        · rw [decide_eq_true c1]
          refine iteT ⟨_, _, rfl, rfl, _, rfl, fun c2 => ?_, fun c2 => q2 ?_⟩
          · have c3 := of_decide_eq_true c2
            exact ⟨_, rfl, _, rfl, y, m, rfl, ⟨c1, c3⟩, q1 y m rfl rfl c1 c3⟩
          · show (decide (1 ≤ m) && _) = false
            rw [c2, Bool.and_false]
        · rw [decide_eq_false c1]
          refine iteF ⟨_, rfl, (fun c2 => nomatch c2), fun _ => q2 ?_⟩
          show (decide (1 ≤ m) && _) = false
          rw [decide_eq_false c1, Bool.false_and]
      | _ => exact iteF ⟨_, rfl, (fun c2 => nomatch c2), fun _ => q2 rfl⟩
    | _ => cases c
  · cases hd <;> first | rfl | cases c
abbrev s_days_ahead : Stmt := topS 20
theorem sc_days_ahead : FnScope ["year", "past", "leap_days", "first"] ["year"] (defScope s_days_ahead) := ⟨rfl, rfl, rfl, by decide +kernel, rfl, by decide +kernel, by decide +kernel⟩
def spDa : Sp := fun vs H Q _ => ∃ y : Int, vs = [.int y] ∧ Q (.int (da y)) H
theorem ok_days_ahead (T : Txt K mg) (F : FnP K "days_ahead" s_days_ahead f fd) : FnOk P w K mg base CX0 1 f fd ["year"] spDa := by
  refine F.ok sc_days_ahead (fun vs H Q E h => by obtain ⟨v, rfl, _⟩ := h; rfl) (fun cdv A outer s H vs Q E hr h => ?_)
  obtain ⟨y, rfl, q⟩ := h
  refine ⟨_, PSs.nox (pss_cons (ps_set (i := 1) sc_days_ahead.nd rfl (Or.inl rfl) (pe_op op_sub (pv 0) pe_int))
      (pss_cons (ps_set (i := 2) sc_days_ahead.nd rfl (Or.inl rfl) (pe_op op_add (pe_op op_sub (pe_op op_fdiv (pv 1) pe_int) (pe_op op_fdiv (pv 1) pe_int)) (pe_op op_fdiv (pv 1) pe_int)))
      (pss_cons (ps_set (i := 3) sc_days_ahead.nd rfl (Or.inl rfl) (pe_op op_sub (pe_gc (by rfl) T.v_FIRST_YEAR) pe_int))
      (pss_one (ps_ret (pe_op op_sub (pe_op op_add (pe_op op_mul pe_int (pe_op op_sub (pv 0) (pe_gc (by rfl) T.v_FIRST_YEAR))) (pv 2)) (pe_op op_add (pe_op op_sub (pe_op op_fdiv (pv 3) pe_int) (pe_op op_fdiv (pv 3) pe_int)) (pe_op op_fdiv (pv 3) pe_int)))))))), ?_⟩
  have d4 : ∀ i : Int, CDiv i 4 := fun i => ⟨by decide, by decide⟩
  have d100 : ∀ i : Int, CDiv i 100 := fun i => ⟨by decide, by decide⟩
  have d400 : ∀ i : Int, CDiv i 400 := fun i => ⟨by decide, by decide⟩
  refine ⟨_, rfl, _, _, rfl, rfl, ?_⟩
  refine ⟨_, rfl, _, _, rfl, rfl, d4 _, _, rfl, _, _, rfl, rfl, d100 _, _, _, rfl, rfl, _, rfl, _, _, rfl, rfl, d400 _, _, _, rfl, rfl, ?_⟩
  refine ⟨_, _, rfl, rfl, ?_⟩
  refine ⟨_, rfl, _, _, rfl, rfl, _, _, rfl, rfl, .inl ⟨by decide, by decide⟩, _, rfl, _, _, rfl, rfl, ?_⟩
  refine ⟨_, rfl, _, _, rfl, rfl, d4 _, _, rfl, _, _, rfl, rfl, d100 _, _, _, rfl, rfl, _, rfl, _, _, rfl, rfl, d400 _, _, _, rfl, rfl, _, _, rfl, rfl, ?_⟩
  have e : 365 * (y - 1600) + ((y - 1) / 4 - (y - 1) / 100 + (y - 1) / 400) - ((1600 - 1) / 4 - (1600 - 1) / 100 + (1600 - 1) / 400) = da y := by
    unfold da
    have : ((1600 : Int) - 1) / 4 - (1600 - 1) / 100 + (1600 - 1) / 400 = 387 := by decide
    omega
  show Q (.int (365 * (y - 1600) + ((y - 1) / 4 - (y - 1) / 100 + (y - 1) / 400) - ((1600 - 1) / 4 - (1600 - 1) / 100 + (1600 - 1) / 400))) H
  rw [e]
  exact q
abbrev s_number_by : Stmt := topS 21
theorem sc_number_by : FnScope ["year", "month", "day", "one"] ["year", "month", "day"] (defScope s_number_by) := ⟨rfl, rfl, rfl, by decide +kernel, rfl, by decide +kernel, by decide +kernel⟩
def spNum : Sp := fun vs H Q _ => ∃ y m d : Int, vs = [.int y, .int m, .int d] ∧ (1 ≤ m ∧ m ≤ 12) ∧ ∀ H', Same H H' → Q (.int (num y m d)) H'
/-- the lengths of the first months -/
def lensTo (y : Int) (k : Nat) : List Int := (List.range k).map fun j : Nat => len y (1 + (j : Int))
theorem lensTo_succ (y : Int) (k : Nat) : lensTo y (k + 1) = lensTo y k ++ [len y (1 + k)] := by
  unfold lensTo
  rw [List.range_succ, List.map_append]
  rfl
theorem lensTo_sum (y : Int) : ∀ k, (lensTo y k).sum = sumL y k
  | 0 => rfl
  | k + 1 => by
    rw [lensTo_succ, List.sum_append, lensTo_sum y k]
    show _ + (len y (1 + k) + 0) = sumL y k + len y (1 + k)
    omega
theorem lensTo_len (y : Int) (k : Nat) : (lensTo y k).length = k := by
  unfold lensTo
  rw [List.length_map, List.length_range]
theorem small100 {n : Nat} (h : n ≤ 1000) : n < sizeLine := Nat.lt_of_le_of_lt h (by decide)
theorem ok_number_by (T : Txt K mg) (c_days_ahead : Cl P w K mg base CX0 1 "days_ahead" spDa) (c_length_by : Cl P w K mg base CX0 2 "length_by" spLen)
    (F : FnP K "number_by" s_number_by f fd) : FnOk P w K mg base CX0 3 f fd ["year", "month", "day"] spNum := by
  refine F.ok sc_number_by (fun vs H Q E h => by obtain ⟨v, v2, d, rfl, _⟩ := h; rfl) (fun cdv A outer s H vs Q E hr h => ?_)
  obtain ⟨y, m, d, rfl, ⟨h1, h2⟩, q⟩ := h
  refine ⟨_, PSs.nox (pss_one (ps_ret (pe_op op_sub (pe_op op_add (pe_op op_add (pe_k (E := fun _ => E0) c_days_ahead hr (by decide) (by rfl) at0 (pa_cons (pv 0) pa_nil)) (pe_callB (cr_sum rfl) (by rfl) T.n_sum (by decide +kernel) (pa_cons (pe_lc (own := [("one", 3)]) (g := gName 3) (tt := tYes)  rfl sc_number_by.nd (pi_range2 (by rfl) T.n_range (pa_cons pe_int (pa_cons (pv 1) pa_nil))) (blkOk_by (own := [("one", 3)]) (N := ["year", "month", "day", "one"]) (sc := defScope s_number_by) (by decide +kernel)) (fun _ _ _ _ _ => pg_name (i := 3) sc_number_by.nd rfl (Or.inl rfl)) (fun _ _ _ _ _ => pts_nil) (fun _ _ _ _ _ => (pe_k (E := fun _ => E0) c_length_by hr (by decide) (by rfl) at0 (pa_cons (pv 0) (pa_cons (pv 3) pa_nil))))) pa_nil))) (pv 2)) pe_int))), ?_⟩
  refine ⟨_, rfl, y, rfl, ?_⟩
  refine ⟨_, rfl, 1, m, rfl, ⟨by decide, by decide, by omega, by omega⟩, fun D nD => ?_⟩
  have em : (m - 1).toNat ≤ 11 := by omega
  refine lc_range (lo := 1) (n := (m - 1).toNat) (fun i H1 => Same H H1 ∧ H1 D = some (.lst ((lensTo y i).map V.int))) ⟨same_upd nD, upd_same⟩ ?_ ?_
  · rintro i H1 hi ⟨s1, e1⟩
    refine ⟨rfl, ?_⟩
    refine ⟨_, rfl, _, rfl, y, 1 + i, rfl, ⟨by omega, by omega⟩, _, e1, ?_, ?_, ?_⟩
    · rw [List.length_map, lensTo_len]
      exact small100 (by omega)
    · intro b o e
      rw [upd_ne (ne_of_none e nD)]
      exact s1 _ _ e
    · rw [upd_same, lensTo_succ, List.map_append]
      rfl
  · rintro H1 ⟨s1, e1⟩
    refine ⟨D, _, rfl, SqL.of e1, _, _, rfl, rfl, _, rfl, _, _, rfl, rfl, _, _, rfl, rfl, ?_⟩
    rw [lensTo_sum]
    exact q H1 s1
abbrev s_need_number : Stmt := topS 22
theorem sc_need_number : FnScope ["number"] ["number"] (defScope s_need_number) := ⟨rfl, rfl, rfl, by decide +kernel, rfl, by decide +kernel, by decide +kernel⟩
def spNeed (K : PySem.W.Frag) : Sp := fun vs H Q E => ∃ n : Int, vs = [.int n] ∧ ((0 ≤ n ∧ n ≤ 200000) → Q (.int n) H) ∧ (¬ (0 ≤ n ∧ n ≤ 200000) → E (cA K) none H)
theorem ok_need_number (T : Txt K mg) (F : FnP K "need_number" s_need_number f fd) : FnOk P w K mg base (L2N.CX P w) 1 f fd ["number"] (spNeed K) := by
  refine F.ok sc_need_number (fun vs H Q E h => by obtain ⟨v, rfl, _⟩ := h; rfl) (fun cdv A outer s H vs Q E hr h => ?_)
  obtain ⟨n, rfl, q1, q2⟩ := h
  refine ⟨_, (pss_cons (ps_if (pt_not (pt_chain op_le op_le pe_int (pv 0) (pe_gc (by rfl) T.v_LAST_DAY))) (pss_one (L2N.ps_raise rfl (L2N.takes_of rfl rfl rfl rfl) (L2N.pmk_own PySem.F.excBase_ValueError T.e_NoAnswer.xP T.e_NoAnswer.gP T.e_NoAnswer.kP (raises_own T.e_NoAnswer.bP T.e_NoAnswer.tP) rfl))) pss_nil)
      (pss_one (ps_ret (pv 0)))), ?_⟩
  refine ⟨_, rfl, _, _, rfl, rfl, _, rfl, ?_⟩
  by_cases c : (0 : Int) ≤ n
  · rw [decide_eq_true c]
    refine iteT ⟨_, _, rfl, rfl, _, rfl, ?_⟩
    by_cases c2 : n ≤ 200000
    · rw [decide_eq_true c2]
      exact iteF ⟨_, rfl, q1 ⟨c, c2⟩⟩
    · rw [decide_eq_false c2]
      exact iteT (q2 fun z => c2 z.2)
  · rw [decide_eq_false c]
    exact iteF ⟨_, rfl, iteT (q2 fun z => c z.1)⟩
abbrev s_day_of : Stmt := topS 23
theorem sc_day_of : FnScope ["year", "month", "day"] ["year", "month", "day"] (defScope s_day_of) := ⟨rfl, rfl, rfl, by decide +kernel, rfl, by decide +kernel, by decide +kernel⟩
/-- the number of a date that there is -/
def okD (y m d : Int) : Prop := (1 ≤ m ∧ m ≤ 12) ∧ (1 ≤ d ∧ d ≤ len y m)
def spDayOf (K : PySem.W.Frag) : Sp := fun vs H Q E => ∃ v v2 v3 d1 d2 d3, vs = [v, v2, v3] ∧ Dp K H v d1 ∧ Dp K H v2 d2 ∧ Dp K H v3 d3 ∧
  (∀ y m d, d1 = .int y → d2 = .int m → d3 = .int d → (okD y m d → 0 ≤ num y m d → num y m d ≤ 200000 → ∀ H', Same H H' → Q (.int (num y m d)) H') ∧
    (¬ (okD y m d ∧ 0 ≤ num y m d ∧ num y m d ≤ 200000) → ∀ H', Same H H' → E (cA K) none H')) ∧
  ((isInt d1 && (isInt d2 && isInt d3)) = false → E (cN K) none H)
theorem ok_day_of (T : Txt K mg) (c_is_integer : Cl P w K mg base CX0 1 "is_integer" (spInt K)) (c_check : Cl P w K mg base (L2N.CX P w) 1 "check" (spCheck K)) (c_length_by : Cl P w K mg base CX0 2 "length_by" spLen)
    (c_number_by : Cl P w K mg base CX0 3 "number_by" spNum) (c_need_number : Cl P w K mg base (L2N.CX P w) 1 "need_number" (spNeed K))
    (F : FnP K "day_of" s_day_of f fd) : FnOk P w K mg base (L2N.CX P w) 4 f fd ["year", "month", "day"] (spDayOf K) := by
  refine F.ok sc_day_of (fun vs H Q E h => by obtain ⟨v, v2, v3, d1, d2, d3, rfl, _⟩ := h; rfl) (fun cdv A outer s H vs Q E hr h => ?_)
  obtain ⟨v, v2, v3, d1, d2, d3, rfl, hd1, hd2, hd3, q1, q2⟩ := h
  refine ⟨_, (pss_cons (ps_expr (pe_k (E := fun _ => E) c_check hr (by decide) (by rfl) (atX (L2N.takes_of rfl rfl rfl rfl)) (pa_cons (pe_and (pe_k (E := fun _ => E0) c_is_integer hr (by decide) (by rfl) at0 (pa_cons (pv 0) pa_nil)) (pe_and (pe_k (E := fun _ => E0) c_is_integer hr (by decide) (by rfl) at0 (pa_cons (pv 1) pa_nil)) (pe_one (pe_k (E := fun _ => E0) c_is_integer hr (by decide) (by rfl) at0 (pa_cons (pv 2) pa_nil))))) pa_nil)))
      (pss_cons (ps_if (PW.pt (pw_or (pt_not (pt_chain op_le op_le pe_int (pv 1) (pe_gc (by rfl) T.v_MONTHS))) (pw_or1 (pt_not (pt_chain op_le op_le pe_int (pv 2) (pe_k (E := fun _ => E0) c_length_by hr (by decide) (by rfl) at0 (pa_cons (pv 0) (pa_cons (pv 1) pa_nil)))))))) (pss_one (L2N.ps_raise rfl (L2N.takes_of rfl rfl rfl rfl) (L2N.pmk_own PySem.F.excBase_ValueError T.e_NoAnswer.xP T.e_NoAnswer.gP T.e_NoAnswer.kP (raises_own T.e_NoAnswer.bP T.e_NoAnswer.tP) rfl))) pss_nil)
      (pss_one (ps_ret (pe_k (E := fun _ => E) c_need_number hr (by decide) (by rfl) (atX (L2N.takes_of rfl rfl rfl rfl)) (pa_cons (pe_k (E := fun _ => E0) c_number_by hr (by decide) (by rfl) at0 (pa_cons (pv 0) (pa_cons (pv 1) (pa_cons (pv 2) pa_nil)))) pa_nil)))))), ?_⟩
  -- the check
  refine ⟨_, rfl, v, d1, rfl, hd1, _, rfl, ?_⟩
  by_cases c1 : isInt d1 = true
  case neg =>
    have e1 := Bool.eq_false_iff.mpr c1
    rw [e1] at q2 ⊢
    exact iteF ⟨_, rfl, (fun z => nomatch z), fun _ => q2 rfl⟩
  rw [c1] at q2 ⊢
  refine iteT ⟨_, rfl, v2, d2, rfl, hd2, _, rfl, ?_⟩
  by_cases c2 : isInt d2 = true
  case neg =>
    have e1 := Bool.eq_false_iff.mpr c2
    rw [e1] at q2 ⊢
    exact iteF ⟨_, rfl, (fun z => nomatch z), fun _ => q2 rfl⟩
  rw [c2] at q2 ⊢
  refine iteT ⟨_, rfl, v3, d3, rfl, hd3, _, rfl, fun c3 => ?_, fun c3 => q2 (by rw [c3]; rfl)⟩
  cases hd1 with
  | int y => cases hd2 with
    | int m => cases hd3 with
      | int d =>
        obtain ⟨k1, k2⟩ := q1 y m d rfl rfl rfl
        have no : ¬ (okD y m d ∧ 0 ≤ num y m d ∧ num y m d ≤ 200000) → E (cA K) none H := fun z => k2 z H (Same.refl H)
        refine ⟨_, rfl, _, _, rfl, rfl, _, rfl, ?_⟩
        by_cases c4 : (1 : Int) ≤ m
        case neg =>
          rw [decide_eq_false c4]
          exact iteF ⟨_, rfl, iteT (iteT (no fun z => c4 z.1.1.1))⟩
        rw [decide_eq_true c4]
        refine iteT ⟨_, _, rfl, rfl, _, rfl, ?_⟩
        by_cases c5 : m ≤ 12
        case neg =>
          rw [decide_eq_false c5]
          exact iteT (iteT (no fun z => c5 z.1.1.2))
        rw [decide_eq_true c5]
        refine iteF ⟨_, rfl, _, _, rfl, rfl, _, rfl, ?_⟩
        by_cases c6 : (1 : Int) ≤ d
        case neg =>
          rw [decide_eq_false c6]
          exact iteF ⟨_, rfl, iteT (no fun z => c6 z.1.2.1)⟩
        rw [decide_eq_true c6]
        refine iteT ⟨_, rfl, _, rfl, y, m, rfl, ⟨c4, c5⟩, _, _, rfl, rfl, _, rfl, ?_⟩
        by_cases c7 : d ≤ len y m
        case neg =>
          rw [decide_eq_false c7]
          exact iteT (no fun z => c7 z.1.2.2)
        rw [decide_eq_true c7]
        have ok : okD y m d := ⟨⟨c4, c5⟩, c6, c7⟩
        refine iteF ⟨_, rfl, _, rfl, _, rfl, y, m, d, rfl, ⟨c4, c5⟩, fun H' s' => ⟨_, rfl, fun z => k1 ok z.1 z.2 H' s', fun z => k2 (fun z2 => z z2.2) H' s'⟩⟩
      | _ => cases c3
    | _ => cases c2
  | _ => cases c1
end
end K00

namespace K00
open PySem PySem.Spec PyProof.Rows L2 XK M00
section
variable {P : Program} {w : World} {K : PySem.W.Frag} {mg : Str → Option Value} {base : Heap} {f : Addr} {fd : FuncData}
abbrev s_date_by : Stmt := topS 24
theorem sc_date_by : FnScope ["number", "year", "rest", "month"] ["number"] (defScope s_date_by) := ⟨rfl, rfl, rfl, by decide +kernel, rfl, by decide +kernel, by decide +kernel⟩
/-- a new tuple of a date's three numbers -/
def spDate (Q : VK) (H : Hp) (n : Int) : Prop := ∀ (H' : Hp) (p : Addr) (y m d : Int), IsD n y m d → Same H H' → H' p = some (.tup [.int y, .int m, .int d]) → Q (.ref p) H'
def spDateBy : Sp := fun vs H Q _ => ∃ n : Int, vs = [.int n] ∧ (0 ≤ n ∧ n ≤ 200000) ∧ spDate Q H n
theorem ok_date_by (T : Txt K mg) (c_days_ahead : Cl P w K mg base CX0 1 "days_ahead" spDa) (c_length_by : Cl P w K mg base CX0 2 "length_by" spLen)
    (F : FnP K "date_by" s_date_by f fd) : FnOk P w K mg base CX0 3 f fd ["number"] spDateBy := by
  refine F.ok sc_date_by (fun vs H Q E h => by obtain ⟨v, rfl, _⟩ := h; rfl) (fun cdv A outer s H vs Q E hr h => ?_)
  obtain ⟨n, rfl, ⟨h1, h2⟩, q⟩ := h
  refine ⟨_, PSs.nox (pss_cons (ps_set (i := 1) sc_date_by.nd rfl (Or.inl rfl) (pe_op op_add (pe_gc (by rfl) T.v_FIRST_YEAR) (pe_op op_fdiv (pv 0) pe_int)))
      (pss_cons (ps_while PassesOwn.never (pt_cmpR op_le (pe_k (E := fun _ => E0) c_days_ahead hr (by decide) (by rfl) at0 (pa_cons (pe_op op_add (pv 1) pe_int) pa_nil)) (pv 0) (nomark _))
      (pss_one (ps_aug (i := 1) sc_date_by.nd rfl (Or.inl rfl) pe_int ip_add)))
      (pss_cons (ps_par (i := 2) (j := 3) (by rfl) sc_date_by.nd rfl rfl (by decide) rfl rfl (pa_cons (pe_op op_sub (pv 0) (pe_k (E := fun _ => E0) c_days_ahead hr (by decide) (by rfl) at0 (pa_cons (pv 1) pa_nil))) (pa_cons pe_int pa_nil)) (by rfl))
      (pss_cons (ps_while PassesOwn.never (pt_cmpR op_ge (pv 2) (pe_k (E := fun _ => E0) c_length_by hr (by decide) (by rfl) at0 (pa_cons (pv 1) (pa_cons (pv 3) pa_nil))) (nomark _))
      (pss_cons (ps_aug (i := 2) sc_date_by.nd rfl (Or.inl rfl) (pe_k (E := fun _ => E0) c_length_by hr (by decide) (by rfl) at0 (pa_cons (pv 1) (pa_cons (pv 3) pa_nil))) ip_sub)
      (pss_one (ps_aug (i := 3) sc_date_by.nd rfl (Or.inl rfl) pe_int ip_add))))
      (pss_one (ps_ret (pe_tup (pa_cons (pv 1) (pa_cons (pv 3) (pa_cons (pe_op op_add (pv 2) pe_int) pa_nil)))))))))), ?_⟩
  refine ⟨_, rfl, _, _, rfl, rfl, ⟨by decide, by decide⟩, _, _, rfl, rfl, ?_⟩
  -- the year
  refine ⟨fun m σ H1 => ∃ y : Int, σ = [some (.int n), some (.int y), none, none] ∧ H1 = H ∧ 1600 ≤ y ∧ da y ≤ n ∧ m = (2200 - y).toNat, ⟨_, 1600 + n / 366, rfl, rfl, by omega, ?_, rfl⟩, fun m σ H1 hW => ?_⟩
  · have q := da_mono (show (1600 : Int) ≤ 1600 + n / 366 by omega)
    rw [da_1600] at q
    omega
  obtain ⟨y, rfl, rfl, hy, hda, rfl⟩ := hW
  refine ⟨_, rfl, _, _, rfl, rfl, y + 1, rfl, _, rfl, _, _, rfl, rfl, _, rfl, ite2 (fun c => ?_) (fun c => ?_)⟩
  · have c1 := of_decide_eq_true c
    refine ⟨fun σ' H' => σ' = [some (.int n), some (.int (y + 1)), none, none] ∧ H' = H1, fun σ' H' e => ⟨(2200 - (y + 1)).toNat, ?_, y + 1, e.1, e.2, by omega, c1, rfl⟩, ?_⟩
    · have q := da_mono (show (1600 : Int) ≤ y + 1 by omega)
      rw [da_1600] at q
      omega
    · exact ⟨_, rfl, _, _, rfl, rfl, rfl, rfl⟩
  · have c1 : n < da (y + 1) := by
      have z : ¬ (da (y + 1) ≤ n) := fun z => c (decide_eq_true z)
      omega
    -- the month
    refine ⟨_, rfl, _, rfl, y, rfl, _, _, rfl, rfl, _, _, rfl, ?_⟩
    refine ⟨fun k σ H2 => ∃ m r : Int, σ = [some (.int n), some (.int y), some (.int r), some (.int m)] ∧ H2 = H1 ∧ 1 ≤ m ∧ m ≤ 12 ∧ 0 ≤ r ∧ r = n - da y - sumL y (m - 1).toNat ∧ k = (13 - m).toNat,
      ⟨_, 1, n - da y, rfl, rfl, by decide, by decide, by omega, ?_, rfl⟩, fun k σ H2 hW => ?_⟩
    · show n - da y = n - da y - 0
      omega
    obtain ⟨m, r, rfl, rfl, hm1, hm2, hr0, hre, rfl⟩ := hW
    refine ⟨_, rfl, _, rfl, _, rfl, y, m, rfl, ⟨hm1, hm2⟩, _, _, rfl, rfl, _, rfl, ite2 (fun c2 => ?_) (fun c2 => ?_)⟩
    · have c3 := of_decide_eq_true c2
      have hs := sum_to (y := y) hm1
      have hm3 : m < 12 := by
        have s2 := da_succ y
        have s1 := sum_year (y := y) hm1 hm2
        by_cases z : m < 12
        · exact z
        · have em : m = 12 := by omega
          subst em
          have s3 := sumL_12 y
          have e3 : ((12 : Int) + 1 - 1).toNat = 12 := by decide
          rw [e3] at hs
          omega
      refine ⟨fun σ' H' => σ' = [some (.int n), some (.int y), some (.int (r - len y m)), some (.int (m + 1))] ∧ H' = H2, fun σ' H' e => ⟨(13 - (m + 1)).toNat, by omega, m + 1, r - len y m, e.1, e.2, by omega, by omega, by omega, ?_, rfl⟩, ?_⟩
      · rw [hs]
        omega
      · exact ⟨_, rfl, _, rfl, _, rfl, y, m, rfl, ⟨hm1, hm2⟩, _, _, rfl, rfl, _, rfl, _, _, rfl, rfl, rfl, rfl⟩
    · have c3 : r < len y m := by
        have z : ¬ (len y m ≤ r) := fun z => c2 (decide_eq_true z)
        omega
      refine ⟨_, rfl, _, rfl, _, rfl, _, _, rfl, rfl, (by show 3 ≤ sizeLine; decide), fun p np => ?_⟩
      exact q _ p y m (r + 1) ⟨hy, hm1, hm2, by omega, by omega, by unfold num; omega⟩ (same_upd np) upd_same
abbrev s_date_of : Stmt := topS 25
theorem sc_date_of : FnScope ["number"] ["number"] (defScope s_date_of) := ⟨rfl, rfl, rfl, by decide +kernel, rfl, by decide +kernel, by decide +kernel⟩
def spDateOf (K : PySem.W.Frag) : Sp := fun vs H Q E => ∃ v d, vs = [v] ∧ Dp K H v d ∧ (∀ n, d = .int n → 0 ≤ n → n ≤ 200000 → spDate Q H n) ∧ (isDay d = false → E (cN K) none H)
theorem day_ok {n : Int} (c : isDay (.int n) = true) : 0 ≤ n ∧ n ≤ 200000 := by
  have c2 : (decide (0 ≤ n) && decide (n ≤ 200000)) = true := c
  obtain ⟨a, b⟩ := Bool.and_eq_true_iff.mp c2
  exact ⟨of_decide_eq_true a, of_decide_eq_true b⟩
theorem ok_date_of (T : Txt K mg) (c_is_day_number : Cl P w K mg base CX0 2 "is_day_number" (spDay K)) (c_check : Cl P w K mg base (L2N.CX P w) 1 "check" (spCheck K)) (c_date_by : Cl P w K mg base CX0 3 "date_by" spDateBy)
    (F : FnP K "date_of" s_date_of f fd) : FnOk P w K mg base (L2N.CX P w) 4 f fd ["number"] (spDateOf K) := by
  refine F.ok sc_date_of (fun vs H Q E h => by obtain ⟨v, d, rfl, _⟩ := h; rfl) (fun cdv A outer s H vs Q E hr h => ?_)
  obtain ⟨v, d, rfl, hd, q1, q2⟩ := h
  refine ⟨_, (pss_cons (ps_expr (pe_k (E := fun _ => E) c_check hr (by decide) (by rfl) (atX (L2N.takes_of rfl rfl rfl rfl)) (pa_cons (pe_k (E := fun _ => E0) c_is_day_number hr (by decide) (by rfl) at0 (pa_cons (pv 0) pa_nil)) pa_nil)))
      (pss_one (ps_ret (pe_k (E := fun _ => E0) c_date_by hr (by decide) (by rfl) at0 (pa_cons (pv 0) pa_nil))))), ?_⟩
  refine ⟨_, rfl, v, d, rfl, hd, _, rfl, fun c => ?_, q2⟩
  cases hd with
  | int n =>
    obtain ⟨c1, c2⟩ := day_ok c
    exact ⟨_, rfl, n, rfl, ⟨c1, c2⟩, q1 n rfl c1 c2⟩
  | _ => cases c
abbrev s_week_day : Stmt := topS 26
theorem sc_week_day : FnScope ["number"] ["number"] (defScope s_week_day) := ⟨rfl, rfl, rfl, by decide +kernel, rfl, by decide +kernel, by decide +kernel⟩
def spWeek (K : PySem.W.Frag) : Sp := fun vs H Q E => ∃ v d, vs = [v] ∧ Dp K H v d ∧ (∀ n, d = .int n → 0 ≤ n → n ≤ 200000 → Q (.int ((n + 5) % 7)) H) ∧ (isDay d = false → E (cN K) none H)
theorem ok_week_day (T : Txt K mg) (c_is_day_number : Cl P w K mg base CX0 2 "is_day_number" (spDay K)) (c_check : Cl P w K mg base (L2N.CX P w) 1 "check" (spCheck K))
    (F : FnP K "week_day" s_week_day f fd) : FnOk P w K mg base (L2N.CX P w) 3 f fd ["number"] (spWeek K) := by
  refine F.ok sc_week_day (fun vs H Q E h => by obtain ⟨v, d, rfl, _⟩ := h; rfl) (fun cdv A outer s H vs Q E hr h => ?_)
  obtain ⟨v, d, rfl, hd, q1, q2⟩ := h
  refine ⟨_, (pss_cons (ps_expr (pe_k (E := fun _ => E) c_check hr (by decide) (by rfl) (atX (L2N.takes_of rfl rfl rfl rfl)) (pa_cons (pe_k (E := fun _ => E0) c_is_day_number hr (by decide) (by rfl) at0 (pa_cons (pv 0) pa_nil)) pa_nil)))
      (pss_one (ps_ret (pe_op op_mod (pe_op op_add (pv 0) (pe_gc (by rfl) T.v_FIRST_WEEK_DAY)) (pe_gc (by rfl) T.v_WEEK))))), ?_⟩
  refine ⟨_, rfl, v, d, rfl, hd, _, rfl, fun c => ?_, q2⟩
  cases hd with
  | int n =>
    obtain ⟨c1, c2⟩ := day_ok c
    exact ⟨_, rfl, _, _, rfl, rfl, _, _, rfl, rfl, (by show (0 : Int) < 7; decide), q1 n rfl c1 c2⟩
  | _ => cases c
/-! ### the law's helpers -/
abbrev s__law_take : Stmt := topS 30
theorem sc__law_take : FnScope ["draws", "bound"] ["draws", "bound"] (defScope s__law_take) := ⟨rfl, rfl, rfl, by decide +kernel, rfl, by decide +kernel, by decide +kernel⟩
/-- the draws that are left, at a -/
def Dr (H : Hp) (a : Addr) (ns : List Int) : Prop := H a = some (.lst (ns.map V.int))
def spTake (K : PySem.W.Frag) : Sp := fun vs H Q _ => ∃ (a : Addr) (b : Int) (ns : List Int), vs = [.ref a, .int b] ∧ 0 < b ∧ Dr H a ns ∧ ∀ (r : Int) (ns' : List Int), 0 ≤ r → r < b → Q (.int r) (upd H a (.lst (ns'.map V.int)))
theorem getLast_at {α : Type} {xs : List α} {y : α} (h : xs.getLast? = some y) : xs[xs.length - 1]? = some y := by
  rw [← List.getLast?_eq_getElem?]
  exact h
theorem ok_take (T : Txt K mg) (F : FnP K "_law_take" s__law_take f fd) : FnOk P w K mg base CX0 1 f fd ["draws", "bound"] (spTake K) := by
  refine F.ok sc__law_take (fun vs H Q E h => by obtain ⟨v, d, ns, rfl, _⟩ := h; rfl) (fun cdv A outer s H vs Q E hr h => ?_)
  obtain ⟨a, b, ns, rfl, hb, hD, q⟩ := h
  refine ⟨_, PSs.nox (pss_cons (ps_if (pt_cmpR op_eq (pe_callB call_len (by rfl) T.n_len (by decide +kernel) (pa_cons (pv 0) pa_nil)) pe_int (nomark _)) (pss_one (ps_ret pe_int)) pss_nil)
      (pss_one (ps_ret (pe_op op_mod (pe_callTy call_int1 (by rfl) T.n_int (by decide +kernel) (pa_cons (pe_bm0 PySem.F.plainAttrs_list PySem.F.slot_list_pop PySem.F.type_list_pop mt_pop (pv 0)) pa_nil)) (pv 1))))), ?_⟩
  refine ⟨_, rfl, _, _, rfl, .inl ⟨_, SqL.of hD, rfl⟩, rfl, _, rfl, ite2 (fun c => ?_) (fun c => ?_)⟩
  · have e := q 0 ns (by omega) hb
    rw [upd_self hD] at e
    exact e
  · have hne : ns ≠ [] := fun z => by
      subst z
      exact c (decide_eq_true rfl)
    have h2 : (ns.map V.int)[(ns.map V.int).length - 1]? = some (.int (ns.getLast hne)) := by
      rw [List.length_map, List.getElem?_map, getLast_at (List.getLast?_eq_getLast hne)]
      rfl
    refine ⟨_, rfl, .inl ⟨rfl, _, SqL.of hD⟩, a, _, _, rfl, rfl, hD, h2, .inl ⟨_, rfl, _, rfl, _, _, rfl, rfl, hb, ?_⟩⟩
    have e := q (ns.getLast hne % b) ns.dropLast (Int.emod_nonneg _ (by omega)) (Int.emod_lt_of_pos _ hb)
    rw [List.map_dropLast] at e
    exact e
abbrev s__law_pick : Stmt := topS 31
theorem sc__law_pick : FnScope ["draws", "some"] ["draws", "some"] (defScope s__law_pick) := ⟨rfl, rfl, rfl, by decide +kernel, rfl, by decide +kernel, by decide +kernel⟩
def spPick (K : PySem.W.Frag) : Sp := fun vs H Q _ => ∃ (a p : Addr) (ns : List Int) (xs : List V), vs = [.ref a, .ref p] ∧ Dr H a ns ∧ SqL K H p xs ∧ p ≠ a ∧ 0 < xs.length ∧ ∀ (x : V) (ns' : List Int), x ∈ xs → Q x (upd H a (.lst (ns'.map V.int)))
theorem seqL_upd {H : Hp} {a p : Addr} {o : HO} {xs : List V} (h : SqL K H p xs) (n : p ≠ a) : SqL K (upd H a o) p xs := by
  rcases h with (h | ⟨u, h⟩) | h
  · exact .inl (.inl (by rw [upd_ne n]; exact h))
  · exact .inl (.inr ⟨u, by rw [upd_ne n]; exact h⟩)
  · exact .inr h
theorem ok_pick (T : Txt K mg) (c__law_take : Cl P w K mg base CX0 1 "_law_take" (spTake K)) (F : FnP K "_law_pick" s__law_pick f fd) : FnOk P w K mg base CX0 2 f fd ["draws", "some"] (spPick K) := by
  refine F.ok sc__law_pick (fun vs H Q E h => by obtain ⟨v, d, ns, xs, rfl, _⟩ := h; rfl) (fun cdv A outer s H vs Q E hr h => ?_)
  obtain ⟨a, p, ns, xs, rfl, hD, hS, hn, hl, q⟩ := h
  refine ⟨_, PSs.nox (pss_one (ps_ret (pe_ix ix_list (pv 1) (pe_k (E := fun _ => E0) c__law_take hr (by decide) (by rfl) at0 (pa_cons (pv 0) (pa_cons (pe_callB call_len (by rfl) T.n_len (by decide +kernel) (pa_cons (pv 1) pa_nil)) pa_nil))) (fun _ _ => rfl)))), ?_⟩
  refine ⟨_, rfl, _, rfl, _, rfl, _, _, rfl, .inl ⟨_, hS, rfl⟩, a, _, ns, rfl, by omega, hD, fun r ns' h0 h1 => ?_⟩
  have hi : xs[r.toNat]? = some (xs[r.toNat]'(by omega)) := List.getElem?_eq_getElem (by omega)
  exact ⟨p, xs, r, _, rfl, rfl, seqL_upd hS hn, atI_of h0 hi, q _ _ (List.mem_of_getElem? hi)⟩
abbrev s__law_is_long : Stmt := topS 33
theorem sc__law_is_long : FnScope ["year"] ["year"] (defScope s__law_is_long) := ⟨rfl, rfl, rfl, by decide +kernel, rfl, by decide +kernel, by decide +kernel⟩
theorem ok_is_long (T : Txt K mg) (F : FnP K "_law_is_long" s__law_is_long f fd) : FnOk P w K mg base CX0 1 f fd ["year"] spLeaps := by
  refine F.ok sc__law_is_long (fun vs H Q E h => by obtain ⟨v, rfl, _⟩ := h; rfl) (fun cdv A outer s H vs Q E hr h => ?_)
  obtain ⟨y, rfl, q⟩ := h
  refine ⟨_, PSs.nox (pss_one (ps_ret (pe_or (pe_cmpR op_eq (pe_op op_mod (pe_callTy call_int1 (by rfl) T.n_int (by decide +kernel) (pa_cons (pv 0) pa_nil)) pe_int) pe_int (nomark _)) (pe_one (pe_and (pe_cmpR op_eq (pe_op op_mod (pe_callTy call_int1 (by rfl) T.n_int (by decide +kernel) (pa_cons (pv 0) pa_nil)) pe_int) pe_int (nomark _)) (pe_one (pe_cmpR op_ne (pe_op op_mod (pe_callTy call_int1 (by rfl) T.n_int (by decide +kernel) (pa_cons (pv 0) pa_nil)) pe_int) pe_int (nomark _)))))))), ?_⟩
  have ev : ∀ a b : Int, decide (V.int a = V.int b) = decide (a = b) := fun a b => by
    by_cases c : a = b
    · rw [decide_eq_true c, c, decide_eq_true rfl]
    · rw [decide_eq_false c, decide_eq_false (fun z => c (V.int.inj z))]
  have fin : ∀ b : Bool, b = leap y → Q (.bl b) H := fun b e => e ▸ q
  refine ⟨_, rfl, .inl ⟨_, rfl, _, _, rfl, rfl, (by show (0 : Int) < 400; decide), rfl, _, rfl, ?_⟩⟩
  rw [ev]
  by_cases c : y % 400 = 0
  · rw [decide_eq_true c]
    refine fin _ ?_
    unfold leap
    rw [decide_eq_true c, decide_eq_true (show y % 4 = 0 by omega), Bool.or_true]
    rfl
  · rw [decide_eq_false c]
    refine ⟨_, rfl, .inl ⟨_, rfl, _, _, rfl, rfl, (by show (0 : Int) < 4; decide), rfl, _, rfl, ?_⟩⟩
    rw [ev]
    by_cases c2 : y % 4 = 0
    · rw [decide_eq_true c2]
      refine ⟨_, rfl, .inl ⟨_, rfl, _, _, rfl, rfl, (by show (0 : Int) < 100; decide), rfl, ?_⟩⟩
      rw [ev]
      refine fin _ ?_
      unfold leap
      rw [decide_eq_false c, decide_eq_true c2, Bool.or_false]
      rfl
    · rw [decide_eq_false c2]
      refine fin _ ?_
      unfold leap
      rw [decide_eq_false c2]
      rfl
abbrev s__law_long : Stmt := topS 34
theorem sc__law_long : FnScope ["year", "month"] ["year", "month"] (defScope s__law_long) := ⟨rfl, rfl, rfl, by decide +kernel, rfl, by decide +kernel, by decide +kernel⟩
def spLong : Sp := fun vs H Q _ => ∃ y m : Int, vs = [.int y, .int m] ∧ (1 ≤ m ∧ m ≤ 12) ∧ ∀ H', Same H H' → Q (.int (len y m)) H'
theorem ok_long (T : Txt K mg) (c__law_is_long : Cl P w K mg base CX0 1 "_law_is_long" spLeaps) (F : FnP K "_law_long" s__law_long f fd) : FnOk P w K mg base CX0 2 f fd ["year", "month"] spLong := by
  refine F.ok sc__law_long (fun vs H Q E h => by obtain ⟨v, m, rfl, _⟩ := h; rfl) (fun cdv A outer s H vs Q E hr h => ?_)
  obtain ⟨y, m, rfl, ⟨h1, h2⟩, q⟩ := h
  refine ⟨_, PSs.nox (pss_one (ps_ret (pe_ifExp (pt_cmpR op_in_seq (pv 1) (pe_lst (pa_cons pe_int (pa_cons pe_int (pa_cons pe_int (pa_cons pe_int pa_nil))))) (by rfl)) pe_int (pe_ifExp (pt_cmpR op_ne (pv 1) pe_int (nomark _)) pe_int (pe_op op_add pe_int (pe_callTy call_int1 (by rfl) T.n_int (by decide +kernel) (pa_cons (pe_k (E := fun _ => E0) c__law_is_long hr (by decide) (by rfl) at0 (pa_cons (pv 0) pa_nil)) pa_nil))))))), ?_⟩
  refine ⟨_, rfl, (by show 4 ≤ sizeLine; decide), fun p np => ⟨p, _, rfl, .inl (SqL.of upd_same), rfl, rfl, _, rfl, ?_⟩⟩
  have sm : Same H (upd H p (.lst [.int 4, .int 6, .int 9, .int 11])) := same_upd np
  have q := q _ sm
  have hm : m = 1 ∨ m = 2 ∨ m = 3 ∨ m = 4 ∨ m = 5 ∨ m = 6 ∨ m = 7 ∨ m = 8 ∨ m = 9 ∨ m = 10 ∨ m = 11 ∨ m = 12 := by omega
  rcases hm with rfl | rfl | rfl | rfl | rfl | rfl | rfl | rfl | rfl | rfl | rfl | rfl
  case inr.inl =>
    refine ⟨_, rfl, rfl, _, rfl, ?_⟩
    refine ⟨_, rfl, y, rfl, .inr ⟨_, rfl, _, _, rfl, rfl, ?_⟩⟩
    have e : 28 + (if leap y = true then (1 : Int) else 0) = len y 2 := rfl
    show Q (V.int (28 + (if leap y = true then (1 : Int) else 0))) _
    rw [e]
    exact q
  all_goals first
    | exact q
    | exact ⟨_, rfl, rfl, _, rfl, q⟩
abbrev s__law_counted : Stmt := topS 35
theorem sc__law_counted : FnScope ["year", "month", "day", "found", "one"] ["year", "month", "day"] (defScope s__law_counted) := ⟨rfl, rfl, rfl, by decide +kernel, rfl, by decide +kernel, by decide +kernel⟩
def spCount : Sp := fun vs H Q _ => ∃ y m d : Int, vs = [.int y, .int m, .int d] ∧ (1600 ≤ y ∧ y ≤ 2200) ∧ (1 ≤ m ∧ m ≤ 12) ∧ ∀ H', Same H H' → Q (.int (num y m d)) H'
def yearsTo (k : Nat) : List Int := (List.range k).map fun j : Nat => 365 + lp (1600 + (j : Int))
theorem yearsTo_succ (k : Nat) : yearsTo (k + 1) = yearsTo k ++ [365 + lp (1600 + k)] := by
  unfold yearsTo
  rw [List.range_succ, List.map_append]
  rfl
theorem yearsTo_sum : ∀ k, (yearsTo k).sum = sumY k
  | 0 => rfl
  | k + 1 => by
    rw [yearsTo_succ, List.sum_append, yearsTo_sum k]
    show _ + (365 + lp (1600 + k) + 0) = sumY k + (365 + lp (1600 + k))
    omega
theorem yearsTo_len (k : Nat) : (yearsTo k).length = k := by
  unfold yearsTo
  rw [List.length_map, List.length_range]
theorem ok_counted (T : Txt K mg) (c__law_is_long : Cl P w K mg base CX0 1 "_law_is_long" spLeaps) (c__law_long : Cl P w K mg base CX0 2 "_law_long" spLong)
    (F : FnP K "_law_counted" s__law_counted f fd) : FnOk P w K mg base CX0 3 f fd ["year", "month", "day"] spCount := by
  refine F.ok sc__law_counted (fun vs H Q E h => by obtain ⟨v, m, d, rfl, _⟩ := h; rfl) (fun cdv A outer s H vs Q E hr h => ?_)
  obtain ⟨y, m, d, rfl, ⟨h1, h2⟩, ⟨h3, h4⟩, q⟩ := h
  refine ⟨_, PSs.nox (pss_cons (ps_set (i := 3) sc__law_counted.nd rfl (Or.inl rfl) (pe_callB (cr_sum rfl) (by rfl) T.n_sum (by decide +kernel) (pa_cons (pe_lc (own := [("one", 4)]) (g := gName 4) (tt := tYes)  rfl sc__law_counted.nd (pi_range2 (by rfl) T.n_range (pa_cons pe_int (pa_cons (pv 0) pa_nil))) (blkOk_by (own := [("one", 4)]) (N := ["year", "month", "day", "found", "one"]) (sc := defScope s__law_counted) (by decide +kernel)) (fun _ _ _ _ _ => pg_name (i := 4) sc__law_counted.nd rfl (Or.inl rfl)) (fun _ _ _ _ _ => pts_nil) (fun _ _ _ _ _ => (pe_op op_add pe_int (pe_callTy call_int1 (by rfl) T.n_int (by decide +kernel) (pa_cons (pe_k (E := fun _ => E0) c__law_is_long hr (by decide) (by rfl) at0 (pa_cons (pv 4) pa_nil)) pa_nil))))) pa_nil)))
      (pss_one (ps_ret (pe_op op_sub (pe_op op_add (pe_op op_add (pv 3) (pe_callB (cr_sum rfl) (by rfl) T.n_sum (by decide +kernel) (pa_cons (pe_lc (own := [("one", 4)]) (g := gName 4) (tt := tYes)  rfl sc__law_counted.nd (pi_range2 (by rfl) T.n_range (pa_cons pe_int (pa_cons (pv 1) pa_nil))) (blkOk_by (own := [("one", 4)]) (N := ["year", "month", "day", "found", "one"]) (sc := defScope s__law_counted) (by decide +kernel)) (fun _ _ _ _ _ => pg_name (i := 4) sc__law_counted.nd rfl (Or.inl rfl)) (fun _ _ _ _ _ => pts_nil) (fun _ _ _ _ _ => (pe_k (E := fun _ => E0) c__law_long hr (by decide) (by rfl) at0 (pa_cons (pv 0) (pa_cons (pv 4) pa_nil))))) pa_nil))) (pv 2)) pe_int)))), ?_⟩
  refine ⟨_, rfl, 1600, y, rfl, ⟨by decide, by decide, by omega, by omega⟩, fun D nD => ?_⟩
  refine lc_range (lo := 1600) (n := (y - 1600).toNat) (fun i H1 => Same H H1 ∧ H1 D = some (.lst ((yearsTo i).map V.int))) ⟨same_upd nD, upd_same⟩ ?_ ?_
  · rintro i H1 hi ⟨s1, e1⟩
    refine ⟨rfl, ?_⟩
    refine ⟨_, rfl, _, rfl, .inr ⟨_, rfl, _, _, rfl, rfl, _, e1, ?_, ?_, ?_⟩⟩
    · rw [List.length_map, yearsTo_len]
      exact small100 (by omega)
    · intro b o e
      rw [upd_ne (ne_of_none e nD)]
      exact s1 _ _ e
    · rw [upd_same, yearsTo_succ, List.map_append]
      rfl
  rintro H1 ⟨s1, e1⟩
  refine ⟨D, _, rfl, SqL.of e1, _, rfl, _, rfl, 1, m, rfl, ⟨by decide, by decide, by omega, by omega⟩, fun D2 nD2 => ?_⟩
  refine lc_range (lo := 1) (n := (m - 1).toNat) (fun i H2 => Same H1 H2 ∧ H2 D2 = some (.lst ((lensTo y i).map V.int))) ⟨same_upd nD2, upd_same⟩ ?_ ?_
  · rintro i H2 hi ⟨s2, e2⟩
    refine ⟨rfl, ?_⟩
    refine ⟨_, rfl, _, rfl, y, 1 + i, rfl, ⟨by omega, by omega⟩, fun H3 s3 => ⟨_, s3 _ _ e2, ?_, ?_, ?_⟩⟩
    · rw [List.length_map, lensTo_len]
      exact small100 (by omega)
    · intro b o e
      rw [upd_ne (ne_of_none e nD2)]
      exact s3 _ _ (s2 _ _ e)
    · rw [upd_same, lensTo_succ, List.map_append]
      rfl
  · rintro H2 ⟨s2, e2⟩
    refine ⟨D2, _, rfl, SqL.of e2, _, _, rfl, rfl, _, rfl, _, _, rfl, rfl, _, _, rfl, rfl, ?_⟩
    rw [lensTo_sum, yearsTo_sum, sumY_da, show (1600 : Int) + ((y - 1600).toNat : Int) = y by omega]
    exact q H2 (s1.trans s2)
end
end K00

namespace K00
open PySem PySem.Spec PyProof.Rows L2 XK M00
section
variable {P : Program} {w : World} {K : PySem.W.Frag} {mg : Str → Option Value} {base : Heap} {f : Addr} {fd : FuncData}
abbrev s__law_draws : Stmt := topS 28
theorem sc__law_draws : FnScope ["script", "draws", "cell", "number", "first", "k", "seed"] ["script"] (defScope s__law_draws) := ⟨rfl, rfl, rfl, by decide +kernel, rfl, by decide +kernel, by decide +kernel⟩
def spDraws (K : PySem.W.Frag) : Sp := fun vs H Q _ => ∃ (a : Addr) (ns : List Int), vs = [.ref a] ∧ SqL K H a (ns.map V.int) ∧ ns.length ≤ 63 ∧ ∀ (H' : Hp) (p : Addr) (ds : List Int), Same H H' → H p = none → Dr H' p ds → Q (.ref p) H'
theorem small10k {n : Nat} (h : n ≤ 10000) : n < sizeLine := Nat.lt_of_le_of_lt h (by decide)
theorem dr_len {ds : List Int} {n : Nat} (h : ds.length ≤ n) (hn : n ≤ 10000) : (ds.map V.int).length < sizeLine := by
  rw [List.length_map]
  exact small10k (by omega)
theorem dr_add {H : Hp} {o : Addr} {ds : List Int} (i : Int) : upd H o (.lst (ds.map V.int ++ [.int i])) o = some (.lst ((ds ++ [i]).map V.int)) := by
  rw [upd_same, List.map_append]
  rfl
theorem same_set {H H' : Hp} {o : Addr} {u : HO} (n : H o = none) (s : Same H H') : Same H (upd H' o u) := fun b x e => by
  rw [upd_ne (ne_of_none e n)]
  exact s _ _ e
/-- the state behind some turns: draws at o, at most n of them -/
def DrS (a o : Addr) (H : Hp) (n : Nat) (σ : L2.St) (H' : Hp) : Prop := ∃ (ds : List Int) (c m g k z : Option V), σ = [some (.ref a), some (.ref o), c, m, g, k, z] ∧ Same H H' ∧ H' o = some (.lst (ds.map V.int)) ∧ ds.length ≤ n
theorem ok_draws (T : Txt K mg) (F : FnP K "_law_draws" s__law_draws f fd) : FnOk P w K mg base CX0 1 f fd ["script"] (spDraws K) := by
  refine F.ok sc__law_draws (fun vs H Q E h => by obtain ⟨v, ns, rfl, _⟩ := h; rfl) (fun cdv A outer s H vs Q E hr h => ?_)
  obtain ⟨a, ns, rfl, hS, hl, q⟩ := h
  refine ⟨_, PSs.nox (pss_cons (ps_set (i := 1) sc__law_draws.nd rfl (Or.inl rfl) (pe_lst pa_nil))
      (pss_cons (ps_for PassesOwn.never rfl (pi_list (pv 0)) (pg_name (i := 2) sc__law_draws.nd rfl (Or.inl rfl))
      (pss_cons (ps_set (i := 3) sc__law_draws.nd rfl (Or.inl rfl) (pe_callB call_abs (by rfl) T.n_abs (by decide +kernel) (pa_cons (pv 2) pa_nil)))
      (C8.pss_cut (ps_if (pt_cmpR op_lt (pv 3) (pe_op op_pow pe_int pe_int) (nomark _)) (pss_cons (ps_set (i := 4) sc__law_draws.nd rfl (Or.inl rfl) (pe_op op_mod (pe_callTy call_int1 (by rfl) T.n_int (by decide +kernel) (pa_cons (pe_op op_add (pe_op op_mul (pv 3) pe_int) pe_int) pa_nil)) pe_int))
      (pss_cons (ps_expr (pe_bm PySem.F.plainAttrs_list PySem.F.slot_list_append PySem.F.type_list_append mt_append (pv 1) (pa_cons (pe_op op_mod (pe_callTy call_int1 (by rfl) T.n_int (by decide +kernel) (pa_cons (pe_op op_add (pe_op op_mul (pv 4) pe_int) (pv 3)) pa_nil)) pe_int) pa_nil)))
      (pss_cons (ps_expr (pe_bm PySem.F.plainAttrs_list PySem.F.slot_list_append PySem.F.type_list_append mt_append (pv 1) (pa_cons (pe_op op_mod (pe_callTy call_int1 (by rfl) T.n_int (by decide +kernel) (pa_cons (pe_op op_add (pv 4) (pe_op op_fdiv (pv 3) pe_int)) pa_nil)) pe_int) pa_nil)))
      (pss_one (ps_set (i := 3) sc__law_draws.nd rfl (Or.inl rfl) pe_int))))) pss_nil)
      (pss_one (ps_for PassesOwn.never rfl (pi_range1 (by rfl) T.n_range (pa_cons pe_int pa_nil)) (pg_name (i := 5) sc__law_draws.nd rfl (Or.inl rfl))
      (pss_one (ps_if (pt_cmpR op_gt (pv 3) pe_int (nomark _)) (pss_cons (ps_expr (pe_bm PySem.F.plainAttrs_list PySem.F.slot_list_append PySem.F.type_list_append mt_append (pv 1) (pa_cons (pe_op op_mod (pe_callTy call_int1 (by rfl) T.n_int (by decide +kernel) (pa_cons (pv 3) pa_nil)) pe_int) pa_nil)))
      (pss_one (ps_set (i := 3) sc__law_draws.nd rfl (Or.inl rfl) (pe_op op_fdiv (pv 3) pe_int)))) pss_nil)))))))
      (pss_cons (ps_set (i := 6) sc__law_draws.nd rfl (Or.inl rfl) pe_int)
      (C8.pss_cut (ps_if (pt_cmpR op_gt (pe_callB call_len (by rfl) T.n_len (by decide +kernel) (pa_cons (pv 0) pa_nil)) pe_int (nomark _)) (pss_one (ps_set (i := 6) sc__law_draws.nd rfl (Or.inl rfl) (pe_op op_add pe_int (pe_callB call_abs (by rfl) T.n_abs (by decide +kernel) (pa_cons (pe_ix ix_list (pv 0) pe_int (fun _ _ => rfl)) pa_nil))))) pss_nil)
      (pss_cons (ps_for PassesOwn.never rfl (pi_range1 (by rfl) T.n_range (pa_cons pe_int pa_nil)) (pg_name (i := 5) sc__law_draws.nd rfl (Or.inl rfl))
      (pss_cons (ps_set (i := 6) sc__law_draws.nd rfl (Or.inl rfl) (pe_op op_mod (pe_callTy call_int1 (by rfl) T.n_int (by decide +kernel) (pa_cons (pe_op op_add (pe_op op_mul (pv 6) pe_int) pe_int) pa_nil)) pe_int))
      (pss_one (ps_expr (pe_bm PySem.F.plainAttrs_list PySem.F.slot_list_append PySem.F.type_list_append mt_append (pv 1) (pa_cons (pe_op op_fdiv (pv 6) pe_int) pa_nil))))))
      (pss_one (ps_ret (XR.pe_lstRev rfl (by rfl) T.n_list (by rfl) T.n_reversed (pv 1))))))))), ?_⟩
  refine ⟨Nat.zero_le _, fun o no => ?_⟩
  have pM : ∀ i j : Int, (-(2 ^ 64) < j ∧ j < 2 ^ 64) → CMul i j := fun i j h => .inr h
  refine ⟨_, rfl, a, rfl, ⟨_, (same_upd no).seq hS⟩, for_list (K := K) (a := a) (xs := ns.map V.int) (fun i σ H' => DrS a o H (62 * i) σ H')
    ⟨[], none, none, none, none, none, rfl, same_upd no, upd_same, Nat.zero_le _⟩ (fun i σ H' _ hh => by obtain ⟨ds, c, m, g, k, z, rfl, s1, e1, l1⟩ := hh; exact s1.seq hS) ?_ ?_⟩
  · rintro i y σ H1 hi ⟨ds, c0, m0, g0, k0, z0, rfl, s1, e1, l1⟩
    have hi63 : i < 63 := by
      have := (List.getElem?_eq_some_iff.mp hi).1
      rw [List.length_map] at this
      omega
    obtain ⟨n, hn, rfl⟩ : ∃ n, ns[i]? = some n ∧ y = V.int n := by
      rw [List.getElem?_map] at hi
      cases e : ns[i]? with
      | none =>
        rw [e] at hi
        cases hi
      | some n =>
        rw [e] at hi
        exact ⟨n, rfl, (Option.some.inj hi).symm⟩
    refine ⟨_, rfl, n, rfl, ?_⟩
    -- behind the test: at most two more
    refine ⟨fun σ H' => ∃ (ds : List Int) (c g k z : Option V) (m : Int), σ = [some (.ref a), some (.ref o), c, some (.int m), g, k, z] ∧ Same H H' ∧ H' o = some (.lst (ds.map V.int)) ∧ ds.length ≤ 62 * i + 2, ?_, ?_⟩
    · refine ⟨_, rfl, _, _, rfl, rfl, ⟨by decide, by decide, by decide⟩, _, _, rfl, rfl, _, rfl, ite2 (fun c => ?_) (fun c => ?_)⟩
      · refine ⟨_, rfl, _, _, rfl, rfl, pM _ _ (by decide), _, _, rfl, rfl, .inl ⟨_, rfl, _, _, rfl, rfl, (by show (0 : Int) < 2147483647; decide), ?_⟩⟩
        refine ⟨_, rfl, .inl ⟨rfl, _, SqL.of e1⟩, _, rfl, _, _, rfl, rfl, pM _ _ (by decide), _, rfl, _, _, rfl, rfl, .inl ⟨_, rfl, _, _, rfl, rfl, (by show (0 : Int) < 2147483629; decide), o, _, _, rfl, rfl, e1, dr_len l1 (by omega), ?_⟩⟩
        have e2 := dr_add (H := H1) (o := o) (ds := ds) ((((if n < 0 then -n else n) * 48271 + 11) % 2147483647 * 69621 + (if n < 0 then -n else n)) % 2147483629)
        have s2 := same_set (u := HO.lst (ds.map V.int ++ [.int ((((if n < 0 then -n else n) * 48271 + 11) % 2147483647 * 69621 + (if n < 0 then -n else n)) % 2147483629)])) no s1
        have l2 : (ds ++ [(((if n < 0 then -n else n) * 48271 + 11) % 2147483647 * 69621 + (if n < 0 then -n else n)) % 2147483629]).length ≤ 62 * i + 1 := by
          rw [List.length_append, List.length_singleton]
          omega
        generalize (ds ++ [(((if n < 0 then -n else n) * 48271 + 11) % 2147483647 * 69621 + (if n < 0 then -n else n)) % 2147483629]) = ds2 at e2 l2
        refine ⟨_, rfl, .inl ⟨rfl, _, SqL.of e2⟩, _, rfl, _, rfl, _, _, rfl, rfl, ⟨by decide, by decide⟩, _, _, rfl, rfl, .inl ⟨_, rfl, _, _, rfl, rfl, (by show (0 : Int) < 1000003; decide), o, _, _, rfl, rfl, e2, dr_len l2 (by omega), ?_⟩⟩
        refine ⟨_, _, _, _, _, _, rfl, same_set no s2, dr_add _, ?_⟩
        rw [List.length_append, List.length_singleton]
        omega
      · exact ⟨ds, _, _, _, _, _, rfl, s1, e1, by omega⟩
    · rintro σ H2 ⟨ds2, c2, g2, k2, z2, m2, rfl, s2, e2, l2⟩
      refine ⟨60, rfl, by decide, by decide, for_range (lo := 0) (n := 60) (fun j σ H' => ∃ (ds : List Int) (c g k z : Option V) (m : Int), σ = [some (.ref a), some (.ref o), c, some (.int m), g, k, z] ∧ Same H H' ∧ H' o = some (.lst (ds.map V.int)) ∧ ds.length ≤ 62 * i + 2 + j)
        ⟨ds2, _, _, _, _, _, rfl, s2, e2, l2⟩ ?_ ?_⟩
      · rintro j σ H3 hj ⟨ds3, c3, g3, k3, z3, m3, rfl, s3, e3, l3⟩
        refine ⟨_, rfl, _, _, rfl, rfl, _, rfl, ite2 (fun c => ?_) (fun c => ?_)⟩
        · refine ⟨_, rfl, .inl ⟨rfl, _, SqL.of e3⟩, _, rfl, .inl ⟨_, rfl, _, _, rfl, rfl, (by show (0 : Int) < 997; decide), o, _, _, rfl, rfl, e3, dr_len l3 (by omega), ?_⟩⟩
          refine ⟨_, rfl, _, _, rfl, rfl, ⟨by decide, by decide⟩, ?_⟩
          refine ⟨_, _, _, _, _, _, rfl, same_set no s3, dr_add _, ?_⟩
          rw [List.length_append, List.length_singleton]
          omega
        · exact ⟨ds3, _, _, _, _, _, rfl, s3, e3, by omega⟩
      · rintro σ H3 ⟨ds3, c3, g3, k3, z3, m3, rfl, s3, e3, l3⟩
        exact ⟨ds3, _, _, _, _, _, rfl, s3, e3, by omega⟩
  · rintro σ H1 ⟨ds, c0, m0, g0, k0, z0, rfl, s1, e1, l1⟩
    rw [List.length_map] at l1
    -- the seed
    refine ⟨fun σ H' => ∃ (c m g k : Option V) (z : Int), σ = [some (.ref a), some (.ref o), c, m, g, k, some (.int z)] ∧ H' = H1, ?_, ?_⟩
    · refine ⟨_, rfl, _, _, rfl, .inl ⟨_, s1.seq hS, rfl⟩, _, _, rfl, rfl, _, rfl, ite2 (fun c => ?_) (fun c => ?_)⟩
      · have c1 : 0 < ns.length := by
          have z : (0 : Int) < ((ns.map V.int).length : Nat) := of_decide_eq_true c
          rw [List.length_map] at z
          omega
        have h0 : (ns.map V.int)[0]? = some (.int (ns[0]'c1)) := by
          rw [List.getElem?_map, List.getElem?_eq_getElem c1]
          rfl
        exact ⟨_, rfl, a, _, 0, _, rfl, rfl, s1.seq hS, atI_nat (j := 0) h0, _, rfl, _, _, rfl, rfl, _, _, _, _, _, rfl, rfl⟩
      · exact ⟨_, _, _, _, _, rfl, rfl⟩
    · rintro σ H2 ⟨c2, m2, g2, k2, z2, rfl, rfl⟩
      refine ⟨3000, rfl, by decide, by decide, for_range (lo := 0) (n := 3000) (fun j σ H' => ∃ (ds : List Int) (c m g k : Option V) (z : Int), σ = [some (.ref a), some (.ref o), c, m, g, k, some (.int z)] ∧ Same H H' ∧ H' o = some (.lst (ds.map V.int)) ∧ ds.length ≤ 62 * 63 + j)
        ⟨ds, _, _, _, _, _, rfl, s1, e1, by omega⟩ ?_ ?_⟩
      · rintro j σ H3 hj ⟨ds3, c3, m3, g3, k3, z3, rfl, s3, e3, l3⟩
        refine ⟨_, rfl, _, _, rfl, rfl, pM _ _ (by decide), _, _, rfl, rfl, .inl ⟨_, rfl, _, _, rfl, rfl, (by show (0 : Int) < 2147483647; decide), ?_⟩⟩
        refine ⟨_, rfl, .inl ⟨rfl, _, SqL.of e3⟩, _, rfl, _, _, rfl, rfl, ⟨by decide, by decide⟩, o, _, _, rfl, rfl, e3, dr_len l3 (by omega), ?_⟩
        refine ⟨_, _, _, _, _, _, rfl, same_set no s3, dr_add _, ?_⟩
        rw [List.length_append, List.length_singleton]
        omega
      · rintro σ H3 ⟨ds3, c3, m3, g3, k3, z3, rfl, s3, e3, l3⟩
        refine ⟨_, rfl, o, _, rfl, SqL.of e3, fun p np => ?_⟩
        refine q _ p ds3.reverse (fun b x e => (same_upd np) _ _ (s3 _ _ e)) (s3.free np) ?_
        show upd H3 p _ p = _
        rw [upd_same, List.map_reverse]
abbrev s__law_named : Stmt := topS 36
theorem sc__law_named : FnScope ["number", "year", "month", "left", "turn"] ["number"] (defScope s__law_named) := ⟨rfl, rfl, rfl, by decide +kernel, rfl, by decide +kernel, by decide +kernel⟩
def spNamed : Sp := fun vs H Q _ => ∃ n : Int, vs = [.int n] ∧ (0 ≤ n ∧ n ≤ 200000) ∧ spDate Q H n
theorem ok_named (T : Txt K mg) (c__law_is_long : Cl P w K mg base CX0 1 "_law_is_long" spLeaps) (c__law_long : Cl P w K mg base CX0 2 "_law_long" spLong)
    (F : FnP K "_law_named" s__law_named f fd) : FnOk P w K mg base CX0 3 f fd ["number"] spNamed := by
  refine F.ok sc__law_named (fun vs H Q E h => by obtain ⟨v, rfl, _⟩ := h; rfl) (fun cdv A outer s H vs Q E hr h => ?_)
  obtain ⟨n, rfl, ⟨h1, h2⟩, q⟩ := h
  refine ⟨_, PSs.nox (pss_cons (ps_par3 (i := 1) (j := 2) (l := 3) (by rfl) sc__law_named.nd rfl rfl rfl (by decide) (by decide) (by decide) rfl rfl rfl (pa_cons pe_int (pa_cons pe_int (pa_cons (pv 0) pa_nil))) (by rfl))
      (pss_cons (ps_for PassesOwn.never rfl (pi_range1 (by rfl) T.n_range (pa_cons pe_int pa_nil)) (pg_name (i := 4) sc__law_named.nd rfl (Or.inl rfl))
      (pss_one (ps_if (pt_cmpR op_ge (pv 3) (pe_op op_add pe_int (pe_callTy call_int1 (by rfl) T.n_int (by decide +kernel) (pa_cons (pe_k (E := fun _ => E0) c__law_is_long hr (by decide) (by rfl) at0 (pa_cons (pv 1) pa_nil)) pa_nil))) (nomark _)) (pss_one (ps_par (i := 1) (j := 3) (by rfl) sc__law_named.nd rfl rfl (by decide) rfl rfl (pa_cons (pe_op op_add (pv 1) pe_int) (pa_cons (pe_op op_sub (pe_op op_sub (pv 3) pe_int) (pe_callTy call_int1 (by rfl) T.n_int (by decide +kernel) (pa_cons (pe_k (E := fun _ => E0) c__law_is_long hr (by decide) (by rfl) at0 (pa_cons (pv 1) pa_nil)) pa_nil))) pa_nil)) (by rfl))) pss_nil)))
      (pss_cons (ps_for PassesOwn.never rfl (pi_range1 (by rfl) T.n_range (pa_cons pe_int pa_nil)) (pg_name (i := 4) sc__law_named.nd rfl (Or.inl rfl))
      (pss_one (ps_if (pt_cmpR op_ge (pv 3) (pe_k (E := fun _ => E0) c__law_long hr (by decide) (by rfl) at0 (pa_cons (pv 1) (pa_cons (pv 2) pa_nil))) (nomark _)) (pss_one (ps_par (i := 2) (j := 3) (by rfl) sc__law_named.nd rfl rfl (by decide) rfl rfl (pa_cons (pe_op op_add (pv 2) pe_int) (pa_cons (pe_op op_sub (pv 3) (pe_k (E := fun _ => E0) c__law_long hr (by decide) (by rfl) at0 (pa_cons (pv 1) (pa_cons (pv 2) pa_nil)))) pa_nil)) (by rfl))) pss_nil)))
      (pss_one (ps_ret (pe_tup (pa_cons (pv 1) (pa_cons (pv 2) (pa_cons (pe_op op_add (pv 3) pe_int) pa_nil))))))))), ?_⟩
  refine ⟨_, rfl, _, _, _, rfl, ?_⟩
  refine ⟨600, rfl, by decide, by decide, for_range (lo := 0) (n := 600) (fun i σ H' => ∃ (y : Int) (t : Option V), σ = [some (.int n), some (.int y), some (.int 1), some (.int (n - da y)), t] ∧ Same H H' ∧ 1600 ≤ y ∧ da y ≤ n ∧ (n < da (y + 1) ∨ y = 1600 + i))
    ⟨1600, _, by rw [da_1600, Int.sub_zero]; rfl, Same.refl H, by decide, by rw [da_1600]; exact h1, .inr rfl⟩ ?_ ?_⟩
  · rintro i σ H1 hi ⟨y, t, rfl, s1, hy, hd, hc⟩
    have hs := da_succ y
    refine ⟨_, rfl, _, rfl, y, rfl, .inr ⟨_, rfl, _, _, rfl, rfl, _, _, rfl, rfl, _, rfl, ite2 (fun c => ?_) (fun c => ?_)⟩⟩
    · have c1 : 365 + lp y ≤ n - da y := of_decide_eq_true c
      refine ⟨_, rfl, _, _, rfl, rfl, _, rfl, _, _, rfl, rfl, _, rfl, y, rfl, .inr ⟨_, rfl, _, _, rfl, rfl, _, _, rfl, ?_⟩⟩
      refine ⟨y + 1, some (.int (0 + (i : Int))), ?_, s1, by omega, by omega, .inr ?_⟩
      · show [some (V.int n), some (V.int (y + 1)), some (V.int 1), some (V.int (n - da y - 365 - lp y)), _] = _
        rw [show n - da y - 365 - lp y = n - da (y + 1) by omega]
      · rcases hc with hc | hc
        · omega
        · omega
    · have c1 : ¬ (365 + lp y ≤ n - da y) := fun z => c (decide_eq_true z)
      exact ⟨y, _, rfl, s1, hy, hd, .inl (by omega)⟩
  rintro σ H1 ⟨y, t, rfl, s1, hy, hd, hc⟩
  have hn : n < da (y + 1) := by
    rcases hc with hc | hc
    · exact hc
    · have q := da_mono (show (1600 : Int) ≤ y by omega)
      rw [da_1600] at q
      omega
  have hs := da_succ y
  refine ⟨12, rfl, by decide, by decide, for_range (lo := 0) (n := 12) (fun i σ H' => ∃ (m : Int) (t : Option V), σ = [some (.int n), some (.int y), some (.int m), some (.int (n - da y - sumL y (m - 1).toNat)), t] ∧ Same H H' ∧ (1 ≤ m ∧ m ≤ 12) ∧ sumL y (m - 1).toNat ≤ n - da y ∧ (n - da y < sumL y (m - 1).toNat + len y m ∨ m = 1 + i))
    ⟨1, t, ?_, s1, by decide, ?_, .inr rfl⟩ ?_ ?_⟩
  · rw [show sumL y ((1 : Int) - 1).toNat = 0 from rfl, Int.sub_zero]
  · rw [show sumL y ((1 : Int) - 1).toNat = 0 from rfl]
    omega
  · rintro i σ H2 hi ⟨m, t2, rfl, s2, ⟨hm1, hm2⟩, hd2, hc2⟩
    refine ⟨_, rfl, _, rfl, _, rfl, y, m, rfl, ⟨hm1, hm2⟩, fun H3 s3 => ⟨_, _, rfl, rfl, _, rfl, ite2 (fun c => ?_) (fun c => ?_)⟩⟩
    · have c1 : len y m ≤ n - da y - sumL y (m - 1).toNat := of_decide_eq_true c
      have st := sum_to (y := y) hm1
      have hm3 : m < 12 := by
        by_cases z : m < 12
        · exact z
        · have em : m = 12 := by omega
          subst em
          have s3 := sumL_12 y
          have e3 : ((12 : Int) + 1 - 1).toNat = 12 := by decide
          rw [e3] at st
          omega
      refine ⟨_, rfl, _, _, rfl, rfl, _, rfl, _, rfl, _, rfl, y, m, rfl, ⟨hm1, hm2⟩, fun H4 s4 => ⟨_, _, rfl, rfl, _, _, rfl, ?_⟩⟩
      refine ⟨m + 1, some (.int (0 + (i : Int))), ?_, (s2.trans s3).trans s4, by omega, by omega, .inr ?_⟩
      · show [some (V.int n), some (V.int y), some (V.int (m + 1)), some (V.int (n - da y - sumL y (m - 1).toNat - len y m)), _] = _
        rw [show n - da y - sumL y (m - 1).toNat - len y m = n - da y - sumL y (m + 1 - 1).toNat by omega]
      · rcases hc2 with hc2 | hc2
        · omega
        · omega
    · have c1 : ¬ (len y m ≤ n - da y - sumL y (m - 1).toNat) := fun z => c (decide_eq_true z)
      exact ⟨m, _, rfl, s2.trans s3, ⟨hm1, hm2⟩, hd2, .inl (by omega)⟩
  · rintro σ H2 ⟨m, t2, rfl, s2, ⟨hm1, hm2⟩, hd2, hc2⟩
    have hlt : n - da y < sumL y (m - 1).toNat + len y m := by
      rcases hc2 with hc2 | hc2
      · exact hc2
      · omega
    refine ⟨_, rfl, _, rfl, _, rfl, _, _, rfl, rfl, (by show 3 ≤ sizeLine; decide), fun p2 np2 => ?_⟩
    exact q _ p2 y m _ ⟨hy, hm1, hm2, by omega, by omega, by unfold num; omega⟩ (s2.trans (same_upd np2)) upd_same
end
end K00

namespace K00
open PySem PySem.Spec PyProof.Rows L2 XK M00
/-! ### data of a bounded depth -/
def dep : Nat → PyData → Bool
  | _, .none => true
  | _, .bool _ => true
  | _, .int _ => true
  | _, .str _ => true
  | n + 1, .list xs => decide (xs.length ≤ 1000) && xs.all (dep n)
  | n + 1, .tuple xs => decide (xs.length ≤ 1000) && xs.all (dep n)
  | _, _ => false
theorem dpl {K : PySem.W.Frag} {H : Hp} : ∀ {vs : List V} {ds : List PyData}, DpAll K H vs ds → vs.length = ds.length
  | _, _, .nil => rfl
  | _, _, .cons _ r => congrArg Nat.succ (dpl r)
theorem dpget {K : PySem.W.Frag} {H : Hp} : ∀ {vs : List V} {ds : List PyData} {i : Nat} {v : V}, DpAll K H vs ds → vs[i]? = some v → ∃ d, ds[i]? = some d ∧ Dp K H v d
  | _, _, _, _, .nil, e => by cases e
  | _, _, 0, _, .cons a _, e => ⟨_, rfl, by cases e; exact a⟩
  | _, _, i + 1, v, .cons _ r, e => dpget (i := i) r e
theorem dep_len : ∀ {n : Nat} {ds : List PyData}, dep n (.list ds) = true → ds.length ≤ 1000
  | 0, _, h => by cases h
  | n + 1, ds, h => of_decide_eq_true (Bool.and_eq_true_iff.mp h).1
theorem dep_at {n i : Nat} {ds : List PyData} {d : PyData} (h : dep (n + 1) (.list ds) = true) (e : ds[i]? = some d) : dep n d = true :=
  List.all_eq_true.mp (Bool.and_eq_true_iff.mp h).2 d (List.mem_of_getElem? e)
theorem dep_lenT : ∀ {n : Nat} {ds : List PyData}, dep n (.tuple ds) = true → ds.length ≤ 1000
  | 0, _, h => by cases h
  | n + 1, ds, h => of_decide_eq_true (Bool.and_eq_true_iff.mp h).1
theorem dep_atT {n i : Nat} {ds : List PyData} {d : PyData} (h : dep (n + 1) (.tuple ds) = true) (e : ds[i]? = some d) : dep n d = true :=
  List.all_eq_true.mp (Bool.and_eq_true_iff.mp h).2 d (List.mem_of_getElem? e)
section
variable {P : Program} {w : World} {K : PySem.W.Frag} {mg : Str → Option Value} {base : Heap} {f : Addr} {fd : FuncData}
abbrev s__law_same : Stmt := topS 29
theorem sc__law_same : FnScope ["actual", "due", "k", "key"] ["actual", "due"] (defScope s__law_same) := ⟨rfl, rfl, rfl, by decide +kernel, rfl, by decide +kernel, by decide +kernel⟩
def spS (K : PySem.W.Frag) : Nat → Sp
  | 0 => fun _ _ _ _ => False
  | n + 1 => fun vs H Q _ => ∃ x y d, vs = [x, y] ∧ Dp K H x d ∧ Dp K H y d ∧ dep n d = true ∧ ∀ H', Same H H' → Q (.bl true) H'
theorem same_step (n : Nat) (T : Txt K mg) (c__law_same : Cl P w K mg base CX0 n "_law_same" (spS K n)) (F : FnP K "_law_same" s__law_same f fd) : FnOk P w K mg base CX0 (n + 1) f fd ["actual", "due"] (spS K (n + 1)) := by
  refine F.ok sc__law_same (fun vs H Q E h => by obtain ⟨x, y, d, rfl, _⟩ := h; rfl) (fun cdv A outer s H vs Q E hr h => ?_)
  obtain ⟨x, y, d, rfl, hx, hy, hn, q⟩ := h
  refine ⟨_, PSs.nox (pss_cons (ps_if (pt_cmpR op_isN (pv 1) pe_non (nomark _)) (pss_one (ps_ret (pe_cmpR op_isN (pv 0) pe_non (nomark _)))) pss_nil)
      (pss_cons (ps_if (PW.pt (pw_or (pt_val (pe_callB call_isD (by rfl) T.n_isinstance (by decide +kernel) (pa_cons (pv 1) (pa_cons (pe_bltn (v := .ty "tuple") (u := .type "tuple") (by rfl) T.n_tuple (by decide +kernel) rfl) pa_nil)))) (pw_or1 (pt_val (pe_callB call_isD (by rfl) T.n_isinstance (by decide +kernel) (pa_cons (pv 1) (pa_cons (pe_bltn (v := .ty "list") (u := .type "list") (by rfl) T.n_list (by decide +kernel) rfl) pa_nil))))))) (pss_cons (ps_if (PW.pt (pw_or (pt_cmpR op_ne (pe_callB call_isD (by rfl) T.n_isinstance (by decide +kernel) (pa_cons (pv 1) (pa_cons (pe_bltn (v := .ty "tuple") (u := .type "tuple") (by rfl) T.n_tuple (by decide +kernel) rfl) pa_nil))) (pe_callB call_isD (by rfl) T.n_isinstance (by decide +kernel) (pa_cons (pv 0) (pa_cons (pe_bltn (v := .ty "tuple") (u := .type "tuple") (by rfl) T.n_tuple (by decide +kernel) rfl) pa_nil))) (nomark _)) (pw_or1 (pt_cmpR op_ne (pe_callB call_isD (by rfl) T.n_isinstance (by decide +kernel) (pa_cons (pv 1) (pa_cons (pe_bltn (v := .ty "list") (u := .type "list") (by rfl) T.n_list (by decide +kernel) rfl) pa_nil))) (pe_callB call_isD (by rfl) T.n_isinstance (by decide +kernel) (pa_cons (pv 0) (pa_cons (pe_bltn (v := .ty "list") (u := .type "list") (by rfl) T.n_list (by decide +kernel) rfl) pa_nil))) (nomark _))))) (pss_one (ps_ret pe_bl)) pss_nil)
      (pss_cons (ps_if (pt_cmpR op_ne (pe_callB call_len (by rfl) T.n_len (by decide +kernel) (pa_cons (pv 0) pa_nil)) (pe_callB call_len (by rfl) T.n_len (by decide +kernel) (pa_cons (pv 1) pa_nil)) (nomark _)) (pss_one (ps_ret pe_bl)) pss_nil)
      (pss_cons (ps_for PassesOwn.never rfl (pi_range1 (by rfl) T.n_range (pa_cons (pe_callB call_len (by rfl) T.n_len (by decide +kernel) (pa_cons (pv 1) pa_nil)) pa_nil)) (pg_name (i := 2) sc__law_same.nd rfl (Or.inl rfl))
      (pss_one (ps_if (pt_not (pt_val (pe_k (E := fun _ => E0) c__law_same hr (by omega) (by rfl) at0 (pa_cons (pe_ix ix_seq (pv 0) (pv 2) (fun _ _ => rfl)) (pa_cons (pe_ix ix_seq (pv 1) (pv 2) (fun _ _ => rfl)) pa_nil))))) (pss_one (ps_ret pe_bl)) pss_nil)))
      (pss_one (ps_ret pe_bl))))) pss_nil)
      (pss_cons (ps_if (pt_val (pe_callB call_isD (by rfl) T.n_isinstance (by decide +kernel) (pa_cons (pv 1) (pa_cons (pe_bltn (v := .ty "dict") (u := .type "dict") (by rfl) T.n_dict (by decide +kernel) rfl) pa_nil)))) pss_never pss_nil)
      (pss_cons (ps_if (pt_cmpR op_ne (pe_callB call_isD (by rfl) T.n_isinstance (by decide +kernel) (pa_cons (pv 1) (pa_cons (pe_bltn (v := .ty "bool") (u := .type "bool") (by rfl) T.n_bool (by decide +kernel) rfl) pa_nil))) (pe_callB call_isD (by rfl) T.n_isinstance (by decide +kernel) (pa_cons (pv 0) (pa_cons (pe_bltn (v := .ty "bool") (u := .type "bool") (by rfl) T.n_bool (by decide +kernel) rfl) pa_nil))) (nomark _)) (pss_one (ps_ret pe_bl)) pss_nil)
      (pss_cons (ps_if (PW.pt (pw_or (pt_cmpR op_ne (pe_callB call_isD (by rfl) T.n_isinstance (by decide +kernel) (pa_cons (pv 1) (pa_cons (pe_bltn (v := .ty "int") (u := .type "int") (by rfl) T.n_int (by decide +kernel) rfl) pa_nil))) (pe_callB call_isD (by rfl) T.n_isinstance (by decide +kernel) (pa_cons (pv 0) (pa_cons (pe_bltn (v := .ty "int") (u := .type "int") (by rfl) T.n_int (by decide +kernel) rfl) pa_nil))) (nomark _)) (pw_or1 (pt_cmpR op_ne (pe_callB call_isD (by rfl) T.n_isinstance (by decide +kernel) (pa_cons (pv 1) (pa_cons (pe_bltn (v := .ty "str") (u := .type "str") (by rfl) T.n_str (by decide +kernel) rfl) pa_nil))) (pe_callB call_isD (by rfl) T.n_isinstance (by decide +kernel) (pa_cons (pv 0) (pa_cons (pe_bltn (v := .ty "str") (u := .type "str") (by rfl) T.n_str (by decide +kernel) rfl) pa_nil))) (nomark _))))) (pss_one (ps_ret pe_bl)) pss_nil)
      (pss_one (ps_ret (pe_cmpR op_eq (pv 0) (pv 1) (nomark _))))))))), ?_⟩
  have hx0 := hx
  have hy0 := hy
  cases hy with
  | non =>
    cases hx with
    | non => exact ⟨_, rfl, rfl, _, rfl, _, rfl, rfl, q H (Same.refl H)⟩
  | bl b =>
    cases hx with
    | bl b2 =>
      refine ⟨_, rfl, rfl, _, rfl, ?_⟩
      refine ⟨_, rfl, _, _, "tuple", rfl, hy0, kit_tuple _, _, rfl, ?_⟩
      refine ⟨_, rfl, _, _, "list", rfl, hy0, kit_list _, _, rfl, ?_⟩
      refine ⟨_, rfl, _, _, "dict", rfl, hy0, kit_dict _, _, rfl, ?_⟩
      refine ⟨_, rfl, _, _, "bool", rfl, hy0, kit_bool _, _, rfl, _, _, "bool", rfl, hx0, kit_bool _, rfl, _, rfl, ?_⟩
      refine ⟨_, rfl, _, _, "int", rfl, hy0, kit_int _, _, rfl, _, _, "int", rfl, hx0, kit_int _, rfl, _, rfl, ?_⟩
      refine ⟨_, rfl, _, _, "str", rfl, hy0, kit_str _, _, rfl, _, _, "str", rfl, hx0, kit_str _, rfl, _, rfl, ?_⟩
      refine ⟨_, rfl, _, rfl, rfl, ?_⟩
      rw [decide_eq_true rfl]
      exact q H (Same.refl H)
  | int b =>
    cases hx with
    | int b2 =>
      refine ⟨_, rfl, rfl, _, rfl, ?_⟩
      refine ⟨_, rfl, _, _, "tuple", rfl, hy0, kit_tuple _, _, rfl, ?_⟩
      refine ⟨_, rfl, _, _, "list", rfl, hy0, kit_list _, _, rfl, ?_⟩
      refine ⟨_, rfl, _, _, "dict", rfl, hy0, kit_dict _, _, rfl, ?_⟩
      refine ⟨_, rfl, _, _, "bool", rfl, hy0, kit_bool _, _, rfl, _, _, "bool", rfl, hx0, kit_bool _, rfl, _, rfl, ?_⟩
      refine ⟨_, rfl, _, _, "int", rfl, hy0, kit_int _, _, rfl, _, _, "int", rfl, hx0, kit_int _, rfl, _, rfl, ?_⟩
      refine ⟨_, rfl, _, _, "str", rfl, hy0, kit_str _, _, rfl, _, _, "str", rfl, hx0, kit_str _, rfl, _, rfl, ?_⟩
      refine ⟨_, rfl, _, rfl, rfl, ?_⟩
      rw [decide_eq_true rfl]
      exact q H (Same.refl H)
  | str b =>
    cases hx with
    | str b2 =>
      refine ⟨_, rfl, rfl, _, rfl, ?_⟩
      refine ⟨_, rfl, _, _, "tuple", rfl, hy0, kit_tuple _, _, rfl, ?_⟩
      refine ⟨_, rfl, _, _, "list", rfl, hy0, kit_list _, _, rfl, ?_⟩
      refine ⟨_, rfl, _, _, "dict", rfl, hy0, kit_dict _, _, rfl, ?_⟩
      refine ⟨_, rfl, _, _, "bool", rfl, hy0, kit_bool _, _, rfl, _, _, "bool", rfl, hx0, kit_bool _, rfl, _, rfl, ?_⟩
      refine ⟨_, rfl, _, _, "int", rfl, hy0, kit_int _, _, rfl, _, _, "int", rfl, hx0, kit_int _, rfl, _, rfl, ?_⟩
      refine ⟨_, rfl, _, _, "str", rfl, hy0, kit_str _, _, rfl, _, _, "str", rfl, hx0, kit_str _, rfl, _, rfl, ?_⟩
      refine ⟨_, rfl, _, rfl, rfl, ?_⟩
      rw [decide_eq_true rfl]
      exact q H (Same.refl H)
  | lst hL hA =>
    cases hx with
    | lst hL2 hA2 =>
      rename_i p2 xs2 ds p1 xs1
      have l2 := dpl hA
      have l1 := dpl hA2
      have hm : xs2.length ≤ 1000 := by
        rw [l2]
        exact dep_len hn
      refine ⟨_, rfl, rfl, _, rfl, ?_⟩
      refine ⟨_, rfl, _, _, "tuple", rfl, hy0, kit_tuple _, _, rfl, ?_⟩
      refine ⟨_, rfl, _, _, "list", rfl, hy0, kit_list _, _, rfl, ?_⟩
      refine ⟨_, rfl, _, _, "tuple", rfl, hy0, kit_tuple _, _, rfl, _, _, "tuple", rfl, hx0, kit_tuple _, rfl, _, rfl, ?_⟩
      refine ⟨_, rfl, _, _, "list", rfl, hy0, kit_list _, _, rfl, _, _, "list", rfl, hx0, kit_list _, rfl, _, rfl, ?_⟩
      refine ⟨_, rfl, _, _, rfl, .inl ⟨_, hL2, rfl⟩, _, rfl, _, _, rfl, .inl ⟨_, hL, rfl⟩, rfl, _, rfl, ?_⟩
      have e0 : decide (V.int (xs1.length : Nat) = V.int (xs2.length : Nat)) = true := decide_eq_true (by rw [l1, l2])
      rw [e0]
      refine ⟨_, rfl, _, _, rfl, .inl ⟨_, hL, rfl⟩, _, rfl, by omega, by omega, ?_⟩
      refine for_range (lo := 0) (n := ((xs2.length : Nat) : Int).toNat) (fun i σ H' => ∃ t : Option V, σ = [some (.ref p1), some (.ref p2), t, none] ∧ Same H H') ⟨none, rfl, Same.refl H⟩ ?_ ?_
      · rintro i σ H1 hi ⟨t, rfl, s1⟩
        have hi2 : i < xs2.length := by omega
        have hi1 : i < xs1.length := by omega
        have g2 : xs2[i]? = some xs2[i] := List.getElem?_eq_getElem hi2
        have g1 : xs1[i]? = some xs1[i] := List.getElem?_eq_getElem hi1
        obtain ⟨d2, e2, D2⟩ := dpget hA g2
        obtain ⟨d1, e1, D1⟩ := dpget hA2 g1
        have ed : d1 = d2 := Option.some.inj (e1.symm.trans e2)
        subst ed
        cases n with
        | zero => cases hn
        | succ n =>
          have hz : (0 : Int) + (i : Int) = (i : Int) := by omega
          rw [hz]
          refine ⟨_, rfl, _, rfl, .inl ⟨p1, xs1, i, _, rfl, rfl, s1.seq hL2, atI_nat g1, _, rfl, _, rfl, .inl ⟨p2, xs2, i, _, rfl, rfl, s1.seq hL, atI_nat g2, ?_⟩⟩⟩
          exact ⟨_, _, d1, rfl, XK.Dp.mono s1 D1, XK.Dp.mono s1 D2, dep_at hn e2, fun H2 s2 => ⟨true, rfl, _, rfl, s1.trans s2⟩⟩
      · rintro σ H1 ⟨t, rfl, s1⟩
        exact q H1 s1
  | tup hL hA =>
    cases hx with
    | tup hL2 hA2 =>
      rename_i p2 xs2 ds p1 xs1
      have l2 := dpl hA
      have l1 := dpl hA2
      have hm : xs2.length ≤ 1000 := by
        rw [l2]
        exact dep_lenT hn
      refine ⟨_, rfl, rfl, _, rfl, ?_⟩
      refine ⟨_, rfl, _, _, "tuple", rfl, hy0, kit_tuple _, _, rfl, ?_⟩
      refine ⟨_, rfl, _, _, "tuple", rfl, hy0, kit_tuple _, _, rfl, _, _, "tuple", rfl, hx0, kit_tuple _, rfl, _, rfl, ?_⟩
      refine ⟨_, rfl, _, _, "list", rfl, hy0, kit_list _, _, rfl, _, _, "list", rfl, hx0, kit_list _, rfl, _, rfl, ?_⟩
      refine ⟨_, rfl, _, _, rfl, .inr ⟨_, hL2, rfl⟩, _, rfl, _, _, rfl, .inr ⟨_, hL, rfl⟩, rfl, _, rfl, ?_⟩
      have e0 : decide (V.int (xs1.length : Nat) = V.int (xs2.length : Nat)) = true := decide_eq_true (by rw [l1, l2])
      rw [e0]
      refine ⟨_, rfl, _, _, rfl, .inr ⟨_, hL, rfl⟩, _, rfl, by omega, by omega, ?_⟩
      refine for_range (lo := 0) (n := ((xs2.length : Nat) : Int).toNat) (fun i σ H' => ∃ t : Option V, σ = [some (.ref p1), some (.ref p2), t, none] ∧ Same H H') ⟨none, rfl, Same.refl H⟩ ?_ ?_
      · rintro i σ H1 hi ⟨t, rfl, s1⟩
        have hi2 : i < xs2.length := by omega
        have hi1 : i < xs1.length := by omega
        have g2 : xs2[i]? = some xs2[i] := List.getElem?_eq_getElem hi2
        have g1 : xs1[i]? = some xs1[i] := List.getElem?_eq_getElem hi1
        obtain ⟨d2, e2, D2⟩ := dpget hA g2
        obtain ⟨d1, e1, D1⟩ := dpget hA2 g1
        have ed : d1 = d2 := Option.some.inj (e1.symm.trans e2)
        subst ed
        cases n with
        | zero => cases hn
        | succ n =>
          have hz : (0 : Int) + (i : Int) = (i : Int) := by omega
          rw [hz]
          refine ⟨_, rfl, _, rfl, .inr (.inl ⟨p1, xs1, i, _, rfl, rfl, seqT s1 hL2, atI_nat g1, _, rfl, _, rfl, .inr (.inl ⟨p2, xs2, i, _, rfl, rfl, seqT s1 hL, atI_nat g2, ?_⟩)⟩)⟩
          exact ⟨_, _, d1, rfl, XK.Dp.mono s1 D1, XK.Dp.mono s1 D2, dep_atT hn e2, fun H2 s2 => ⟨true, rfl, _, rfl, s1.trans s2⟩⟩
      · rintro σ H1 ⟨t, rfl, s1⟩
        exact q H1 s1
theorem ok_same (T : Txt K mg) (F : FnP K "_law_same" s__law_same f fd) (gf : mg "_law_same" = some (.ref f)) (b : Binds K fd ["actual", "due"] []) : ∀ n, Cl P w K mg base CX0 n "_law_same" (spS K n)
  | 0 => ⟨f, fd, ["actual", "due"], ⟨fun _ _ _ _ h => h.elim, fun _ _ _ _ _ _ _ _ _ _ _ _ _ h => h.elim⟩, gf, F.kp, b⟩
  | n + 1 => ⟨f, fd, ["actual", "due"], same_step n T (ok_same T F gf b n) F, gf, F.kp, b⟩
end
end K00

namespace K00
open PySem PySem.Spec PyProof.Rows L2 XK M00 XH
open L2H (cxH Hot1 pi_range1H)
/-- what isinstance asks of two own errors -/
structure ErX (K : PySem.W.Frag) (mg : Str → Option Value) : Prop where
  e_NotThere : mg "NotThere" = some (.ref (He.ga K "NotThere"))
  cN : ExcC K (He.ga K "NotRight")
  cA : ExcC K (He.ga K "NoAnswer")
  k11 : PySem.W.kitOne K (.ref (He.ga K "NotRight")) (.ref (He.ga K "NotRight")) = some true
  k12 : PySem.W.kitOne K (.ref (He.ga K "NotRight")) (.ref (He.ga K "NotThere")) = some false
  k13 : PySem.W.kitOne K (.ref (He.ga K "NotRight")) (.ref (He.ga K "NoAnswer")) = some false
  k31 : PySem.W.kitOne K (.ref (He.ga K "NoAnswer")) (.ref (He.ga K "NotRight")) = some false
  k32 : PySem.W.kitOne K (.ref (He.ga K "NoAnswer")) (.ref (He.ga K "NotThere")) = some false
  k33 : PySem.W.kitOne K (.ref (He.ga K "NoAnswer")) (.ref (He.ga K "NoAnswer")) = some true
section
variable {P : Program} {w : World} {K : PySem.W.Frag} {mg : Str → Option Value} {base : Heap} {f : Addr} {fd : FuncData}
abbrev s__law_flag : Stmt := topS 32
theorem sc__law_flag : FnScope ["error", "kinds", "k"] ["error"] (defScope s__law_flag) := ⟨rfl, rfl, rfl, by decide +kernel, rfl, by decide +kernel, by decide +kernel⟩
abbrev Zp (D a : Addr) : Addr × Obj → Prop := fun p => p.1 = a ∧ L2N.Zn (.ref D) none p.2
def fl (b : Bool) : Int := if b then 1 else 0
def spFlag (a : Addr) (n : Int) : Sp := fun vs H Q _ => vs = [.ref a] ∧ ∀ H', Same H H' → Q (.str (("refused " : Str) ++ (toString n : Str))) H'
theorem rel_ref {a : Addr} : ∀ u, RelV (.ref a) u → u = Value.ref a := fun _ h => h
def part (b1 b2 b3 : Bool) (i : Nat) : List Int := [1 * fl b1, 2 * fl b2, 3 * fl b3].take i
theorem ok_flag (D a : Addr) (b1 b2 b3 : Bool) (n : Int) (T : Txt K mg) (X3 : mg "NotThere" = some (.ref (He.ga K "NotThere"))) (C : ExcC K D) (h1 : PySem.W.kitOne K (.ref D) (.ref (He.ga K "NotRight")) = some b1) (h2 : PySem.W.kitOne K (.ref D) (.ref (He.ga K "NotThere")) = some b2)
    (h3 : PySem.W.kitOne K (.ref D) (.ref (He.ga K "NoAnswer")) = some b3) (hn : [1 * fl b1, 2 * fl b2, 3 * fl b3].sum = n) (hl : n.natAbs.log2 < 1920) (hz : ("refused " : Str).length + (toString n : Str).length ≤ sizeLine)
    (F : FnP K "_law_flag" s__law_flag f fd) : FnZ P w K mg base CX0 1 f fd ["error"] (Zp D a) (spFlag a n) := by
  refine okZ F sc__law_flag (fun vs H Q E h => by obtain ⟨rfl, _⟩ := h; rfl) (fun cdv A outer s H vs Q E p hot hzp hr h => ?_)
  obtain ⟨rfl, q⟩ := h
  obtain ⟨rfl, zn⟩ := hzp
  have hp : p ∈ (cxH CX0 P w K mg base ["error", "kinds", "k"] "_law_flag" (defScope s__law_flag) f cdv A outer s H E p).pn := List.mem_singleton.mpr rfl
  have isR : CallR (cxH CX0 P w K mg base ["error", "kinds", "k"] "_law_flag" (defScope s__law_flag) f cdv A outer s H E p) (.builtin "isinstance") (rIsE K D p.1) := call_isP C hp zn.zc (by obtain ⟨_, vs, e, _⟩ := hot; exact ⟨vs, e⟩)
  have sR : CallR (cxH CX0 P w K mg base ["error", "kinds", "k"] "_law_flag" (defScope s__law_flag) f cdv A outer s H E p) (.builtin "sum") (rSum K) := cr_sumH (p := p) hot hp
  refine ⟨_, pss_cons (ps_set (i := 1) sc__law_flag.nd rfl (Or.inr rfl) (pe_lst (pa_cons (pe_callB isR (by rfl) T.n_isinstance (by decide +kernel) (pa_cons (pv 0) (pa_cons (pe_glob (v := .ref (He.ga K "NotRight")) (by rfl) T.e_NotRight.gP rfl) pa_nil)))
      (pa_cons (pe_callB isR (by rfl) T.n_isinstance (by decide +kernel) (pa_cons (pv 0) (pa_cons (pe_glob (v := .ref (He.ga K "NotThere")) (by rfl) X3 rfl) pa_nil))) (pa_cons (pe_callB isR (by rfl) T.n_isinstance (by decide +kernel) (pa_cons (pv 0) (pa_cons (pe_glob (v := .ref (He.ga K "NoAnswer")) (by rfl) T.e_NoAnswer.gP rfl) pa_nil))) pa_nil)))))
    (pss_one (ps_ret (pe_op op_add_str pe_str (pe_callTy call_str_int (by rfl) T.n_str (by decide +kernel) (pa_cons (pe_callB sR (by rfl) T.n_sum (by decide +kernel) (pa_cons
      (pe_lcH (own := [("k", 2)]) (g := gName 2) (tt := tYes) (pp := p) hot hp sc__law_flag.nd (pi_range1H (by rfl) T.n_range (pa_cons pe_int pa_nil)) (blkOk_by (own := [("k", 2)]) (N := ["error", "kinds", "k"]) (sc := defScope s__law_flag) (by decide +kernel))
        (fun _ _ _ _ _ => pg_name (i := 2) sc__law_flag.nd rfl (Or.inl rfl)) (fun _ _ _ _ _ => pts_nil) (fun _ _ _ _ _ => (pe_op op_mul (pe_op op_add (pv 2) pe_int) (pe_callTy call_int1 (by rfl) T.n_int (by decide +kernel) (pa_cons (pe_ix (show IxR _ (rIxL K) from ix_list) (pv 1) (pv 2) (fun _ _ => rfl)) pa_nil))))) pa_nil)) pa_nil))))), ?_⟩
  refine ⟨_, rfl, _, _, b1, rfl, rel_ref, h1, _, rfl, _, _, b2, rfl, rel_ref, h2, _, rfl, _, _, b3, rfl, rel_ref, h3, (by show 3 ≤ sizeLine; decide), fun o no => ?_⟩
  refine ⟨3, rfl, by decide, by decide, fun D2 nD => ?_⟩
  have neD : o ≠ D2 := fun z => by
    rw [← z, upd_same] at nD
    cases nD
  have nH : H D2 = none := by
    rw [upd_ne neD.symm] at nD
    exact nD
  refine lc_range (lo := 0) (n := 3) (fun i H1 => Same (upd H o (.lst [.bl b1, .bl b2, .bl b3])) H1 ∧ H1 D2 = some (.lst ((part b1 b2 b3 i).map V.int))) ⟨same_upd nD, upd_same⟩ ?_ ?_
  · rintro i H1 hi ⟨s1, e1⟩
    refine ⟨rfl, ?_⟩
    have eo : H1 o = some (.lst [.bl b1, .bl b2, .bl b3]) := s1 _ _ upd_same
    have hx : ∃ b, ([.bl b1, .bl b2, .bl b3] : List V)[i]? = some (.bl b) ∧ part b1 b2 b3 (i + 1) = part b1 b2 b3 i ++ [(0 + (i : Int) + 1) * (if b then 1 else 0)] := by
      match i, hi with
      | 0, _ => exact ⟨b1, rfl, rfl⟩
      | 1, _ => exact ⟨b2, rfl, rfl⟩
      | 2, _ => exact ⟨b3, rfl, rfl⟩
    obtain ⟨b, g, ep⟩ := hx
    refine ⟨_, rfl, _, _, rfl, rfl, _, rfl, _, rfl, o, _, 0 + (i : Int), .bl b, rfl, rfl, SqL.of eo, atI_of (by omega) (by rw [show (0 + (i : Int)).toNat = i by omega]; exact g), .inr ⟨b, rfl, _, _, rfl, rfl, .inl ⟨by omega, by omega⟩, ?_⟩⟩
    refine ⟨_, e1, ?_, ?_, ?_⟩
    · rw [List.length_map]
      exact small10k (by unfold part; rw [List.length_take]; show min i 3 ≤ 10000; omega)
    · intro z u e
      rw [upd_ne (ne_of_none e nD)]
      exact s1 _ _ e
    · rw [upd_same, ep, List.map_append]
      rfl
  · rintro H1 ⟨s1, e1⟩
    refine ⟨D2, _, rfl, SqL.of e1, _, rfl, ?_, _, _, rfl, rfl, ?_, ?_⟩
    · show (part b1 b2 b3 3).sum.natAbs.log2 < 1920
      rw [show part b1 b2 b3 3 = [1 * fl b1, 2 * fl b2, 3 * fl b3] from rfl, hn]
      exact hl
    · show ("refused " : Str).length + (toString (part b1 b2 b3 3).sum : Str).length ≤ sizeLine
      rw [show part b1 b2 b3 3 = [1 * fl b1, 2 * fl b2, 3 * fl b3] from rfl, hn]
      exact hz
    · show Q (.str (("refused " : Str) ++ (toString (part b1 b2 b3 3).sum : Str))) H1
      rw [show part b1 b2 b3 3 = [1 * fl b1, 2 * fl b2, 3 * fl b3] from rfl, hn]
      exact q H1 fun z u e => s1 _ _ ((same_upd no) _ _ e)
end
end K00

namespace K00
open PySem PySem.Spec PyProof.Rows L2 XK M00 XH
open L2H (roomH_of)
def R1 : PyData := .str "refused 1"
def R3 : PyData := .str "refused 3"
/-- what the law's asking comes to -/
def told (k : Int) : List PyData → PyData → Prop
  | [d], r => (k = 0 ∧ ((∃ y, d = .int y ∧ r = .bool (leap y)) ∨ (isInt d = false ∧ r = R1))) ∨
      (k = 1 ∧ ((∃ n y m e, d = .int n ∧ 0 ≤ n ∧ n ≤ 200000 ∧ IsD n y m e ∧ r = .tuple [.int y, .int m, .int e]) ∨ (isDay d = false ∧ r = R1))) ∨
      (k = 2 ∧ ((∃ n, d = .int n ∧ 0 ≤ n ∧ n ≤ 200000 ∧ r = .int ((n + 5) % 7)) ∨ (isDay d = false ∧ r = R1)))
  | [d1, d2], r => k = 3 ∧ ((∃ y m, d1 = .int y ∧ d2 = .int m ∧ 1 ≤ m ∧ m ≤ 12 ∧ r = .int (len y m)) ∨ (okM d1 d2 = false ∧ r = R1))
  | [d1, d2, d3], r => k = 4 ∧ ((∃ y m d, d1 = .int y ∧ d2 = .int m ∧ d3 = .int d ∧ ((okD y m d ∧ 0 ≤ num y m d ∧ num y m d ≤ 200000 ∧ r = .int (num y m d)) ∨ (¬ (okD y m d ∧ 0 ≤ num y m d ∧ num y m d ≤ 200000) ∧ r = R3))) ∨
      ((isInt d1 && (isInt d2 && isInt d3)) = false ∧ r = R1))
  | _, _ => False
def okK (k : Int) (n : Nat) : Prop := ((k = 0 ∨ k = 1 ∨ k = 2) ∧ n = 1) ∨ (k = 3 ∧ n = 2) ∨ (k = 4 ∧ n = 3)
def spTold (K : PySem.W.Frag) : Sp := fun vs H Q _ => ∃ (k : Int) (p : Addr) (xs : List V) (ds : List PyData), vs = [.int k, .ref p] ∧ SqT K H p xs ∧ DpAll K H xs ds ∧ okK k ds.length ∧
  ∀ r v H', told k ds r → Same H H' → Dp K H' v r → Q v H'
section
variable {P : Program} {w : World} {K : PySem.W.Frag} {mg : Str → Option Value} {base : Heap} {f : Addr} {fd : FuncData}
abbrev s__law_told : Stmt := topS 37
theorem sc__law_told : FnScope ["which", "args", "error"] ["which", "args"] (defScope s__law_told) := ⟨rfl, rfl, rfl, by decide +kernel, rfl, by decide +kernel, by decide +kernel⟩
/-- what the try's names stand for -/
structure TxtT (K : PySem.W.Frag) (mg : Str → Option Value) : Prop where
  e_RuleError : mg "RuleError" = some (.ref (He.ga K "RuleError"))
  x1 : PySem.W.exmOne K (cN K) (.ref (He.ga K "RuleError")) = some true
  x3 : PySem.W.exmOne K (cA K) (.ref (He.ga K "RuleError")) = some true
  v_is_leap : Is mg "is_leap" (.ref (He.ga K "is_leap"))
  v_date_of : Is mg "date_of" (.ref (He.ga K "date_of"))
  v_week_day : Is mg "week_day" (.ref (He.ga K "week_day"))
  g__law_flag : mg "_law_flag" = some (.ref (He.ga K "_law_flag"))
/-- a def by its address -/
def At (P : Program) (w : World) (K : PySem.W.Frag) (mg : Str → Option Value) (base : Heap) (CX : CXT) (k : Nat) (f : Addr) (sp : Sp) : Prop := ∃ (fd : FuncData) (ps : List Str), FnOk P w K mg base CX k f fd ps sp ∧ PySem.W.keepIn K (.ref f) = true ∧ Binds K fd ps []
def R__law_told (K : PySem.W.Frag) (f : Addr) (sp : Sp) : Prop := (f = He.ga K "is_leap" ∧ sp = spIsLeap K) ∨ (f = He.ga K "date_of" ∧ sp = spDateOf K) ∨ (f = He.ga K "week_day" ∧ sp = spWeek K)
/-- the except suite -/
def tFlag (K : PySem.W.Frag) (a : Addr) (cls : Value) (d : Option Addr) : TS := fun D σ H => ∃ n : Int, ((cls = cN K ∧ n = 1) ∨ (cls = cA K ∧ n = 3)) ∧ d = none ∧ tRet (tCallS (spFlag a n) (fun _ => E0) (tCons (tVar 2) tNil)) D σ H
abbrev tArg (K : PySem.W.Frag) (i : Int) : TE := tOp (rIxT K) (tVar 1) (tC (.int i))
abbrev tFns (K : PySem.W.Frag) : TE := tLst (tCons (tC (.ref (He.ga K "is_leap"))) (tCons (tC (.ref (He.ga K "date_of"))) (tCons (tC (.ref (He.ga K "week_day"))) tNil)))
/-- the try's body, W what is wished of an error -/
def tTried (K : PySem.W.Frag) (W : WX) : TS := tSeq (tIfS (tTest (tOp (rI0 fun i j => .bl (decide (i < j))) (tVar 0) (tC (.int 3)))) (tRet (tKV (R__law_told K) (tOp (rIxL K) (tFns K) (tVar 0)) (WE W) (tCons (tArg K 0) tNil))) tNext)
  (tRet (tIf (tTest (tOp rEq (tVar 0) (tC (.int 3)))) (tK (spLenM K) (WE W) (tCons (tArg K 0) (tCons (tArg K 1) tNil))) (tK (spDayOf K) (WE W) (tCons (tArg K 0) (tCons (tArg K 1) (tCons (tArg K 2) tNil))))))
theorem ref1 : (("refused " : Str) ++ (toString (1 : Int) : Str)) = ("refused 1" : Str) := by decide +kernel
theorem ref3 : (("refused " : Str) ++ (toString (3 : Int) : Str)) = ("refused 3" : Str) := by decide +kernel
theorem ok_told (T : Txt K mg) (TT : TxtT K mg) (X : ErX K mg) (a0 : At P w K mg base (L2N.CX P w) 2 (He.ga K "is_leap") (spIsLeap K)) (a1 : At P w K mg base (L2N.CX P w) 4 (He.ga K "date_of") (spDateOf K)) (a2 : At P w K mg base (L2N.CX P w) 3 (He.ga K "week_day") (spWeek K))
    (c_length_of_month : Cl P w K mg base (L2N.CX P w) 3 "length_of_month" (spLenM K)) (c_day_of : Cl P w K mg base (L2N.CX P w) 4 "day_of" (spDayOf K))
    {fdF : FuncData} (FF : FnP K "_law_flag" s__law_flag (He.ga K "_law_flag") fdF) (bF : Binds K fdF ["error"] [])
    (F : FnP K "_law_told" s__law_told f fd) : FnOk P w K mg base CX0 5 f fd ["which", "args"] (spTold K) := by
  refine F.ok sc__law_told (fun vs H Q E h => by obtain ⟨k, p, xs, ds, rfl, _⟩ := h; rfl) (fun cdv A outer s H vs Q E hr h => ?_)
  obtain ⟨k, p, xs, ds, rfl, hS, hD, hk, q⟩ := h
  have flag1 : ∀ a, FnZ P w K mg base CX0 1 (He.ga K "_law_flag") fdF ["error"] (Zp (He.ga K "NotRight") a) (spFlag a 1) := fun a =>
    ok_flag _ a true false false 1 T X.e_NotThere X.cN X.k11 X.k12 X.k13 (by decide) (by decide +kernel) (by decide +kernel) FF
  have flag3 : ∀ a, FnZ P w K mg base CX0 1 (He.ga K "_law_flag") fdF ["error"] (Zp (He.ga K "NoAnswer") a) (spFlag a 3) := fun a =>
    ok_flag _ a false false true 3 T X.e_NotThere X.cA X.k31 X.k32 X.k33 (by decide) (by decide +kernel) (by decide +kernel) FF
  refine ⟨_, PSs.nox (pss_one (L2N.ps_try_as (i := 2) (tb := tTried K) (ts := tFlag K) (Wout := fun _ _ _ _ => False) rfl rfl sc__law_told.nd rfl rfl ⟨rfl, by decide, .inl TT.e_RuleError⟩ takes0N
    (fun W pn xe tk hpo => ?B) (fun a oe cls d pn hz hf => ?S))), ?_⟩
  case B =>
    have hR__law_told : ∀ g sp, R__law_told K g sp → ∃ (CX : CXT) (k : Nat) (fd : FuncData) (ps : List Str), FnOk P w K mg base CX k g fd ps sp ∧ Room k (A.deeper (envOfC "_law_told" (defScope s__law_told) s.heap.objs.size f cdv)) ∧ PySem.W.keepIn K (.ref g) = true ∧ Binds K fd ps [] ∧
        ∀ σ, PassesAt CX (Cx.tr (cxOf CX0 P w K mg base ["which", "args", "error"] "_law_told" (defScope s__law_told) f cdv A outer s H E).nox pn xe) σ (WE W σ) := by
      intro g sp h
      rcases h with ⟨rfl, rfl⟩ | ⟨rfl, rfl⟩ | ⟨rfl, rfl⟩
      · obtain ⟨fd, ps, h1, h2, h3⟩ := a0
        exact ⟨_, _, fd, ps, h1, hr.mono (by decide), h2, h3, L2N.passAt tk⟩
      · obtain ⟨fd, ps, h1, h2, h3⟩ := a1
        exact ⟨_, _, fd, ps, h1, hr.mono (by decide), h2, h3, L2N.passAt tk⟩
      · obtain ⟨fd, ps, h1, h2, h3⟩ := a2
        exact ⟨_, _, fd, ps, h1, hr.mono (by decide), h2, h3, L2N.passAt tk⟩
    exact (pss_cons (ps_if (pt_cmpR op_lt (pv 0) pe_int (nomark _)) (pss_one (ps_ret (XH.pe_kv (R := R__law_told K) (E := WE W) (pe_ix ix_list (pe_lst (pa_cons (pe_gc (by rfl) TT.v_is_leap) (pa_cons (pe_gc (by rfl) TT.v_date_of) (pa_cons (pe_gc (by rfl) TT.v_week_day) pa_nil)))) (pv 0) (fun _ _ => rfl)) (pa_cons (pe_ix ix_tup (pv 1) pe_int (fun _ _ => rfl)) pa_nil) hR__law_told))) pss_nil)
      (pss_one (ps_ret (pe_ifExp (pt_cmpR op_eq (pv 0) pe_int (nomark _)) (pe_k (E := WE W) c_length_of_month hr (by omega) (by rfl) (L2N.passAt tk) (pa_cons (pe_ix ix_tup (pv 1) pe_int (fun _ _ => rfl)) (pa_cons (pe_ix ix_tup (pv 1) pe_int (fun _ _ => rfl)) pa_nil))) (pe_k (E := WE W) c_day_of hr (by omega) (by rfl) (L2N.passAt tk) (pa_cons (pe_ix ix_tup (pv 1) pe_int (fun _ _ => rfl)) (pa_cons (pe_ix ix_tup (pv 1) pe_int (fun _ _ => rfl)) (pa_cons (pe_ix ix_tup (pv 1) pe_int (fun _ _ => rfl)) pa_nil))))))))
  case S =>
    refine ⟨fun pins s' σ H' D I h => ?_⟩
    obtain ⟨n, hn, hd, h⟩ := h
    subst hd
    obtain ⟨vs, hv⟩ := hf
    have hot : L2H.Hot1 (Cx.suite (cxOf CX0 P w K mg base ["which", "args", "error"] "_law_told" (defScope s__law_told) f cdv A outer s H E).nox a ((a, oe) :: pn)).A (a, oe) := ⟨rfl, vs, hv, hz.2.2 vs hv⟩
    have rh : L2H.RoomH 1 (Cx.suite (cxOf CX0 P w K mg base ["which", "args", "error"] "_law_told" (defScope s__law_told) f cdv A outer s H E).nox a ((a, oe) :: pn)).A := ⟨(hr.mono (by decide : 1 ≤ 4)).dp, (hr.mono (by decide : 1 ≤ 4)).un⟩
    rcases hn with ⟨rfl, rfl⟩ | ⟨rfl, rfl⟩
    · exact (pss_one (ps_ret (pe_callZ (flag1 a) rh ⟨(a, oe), hot, ⟨rfl, hz⟩, List.mem_cons_self⟩ (by rfl) TT.g__law_flag FF.kp bF (fun σ => at0 σ) (pa_cons (pv 2) pa_nil)))).run pins s' σ H' D I h
    · exact (pss_one (ps_ret (pe_callZ (flag3 a) rh ⟨(a, oe), hot, ⟨rfl, hz⟩, List.mem_cons_self⟩ (by rfl) TT.g__law_flag FF.kp bF (fun σ => at0 σ) (pa_cons (pv 2) pa_nil)))).run pins s' σ H' D I h
  -- what an error comes to
  have er : ∀ (cls : Value) (n : Int) (t : Str) (y0 y1 : Option V) (H2 : Hp), ((cls = cN K ∧ n = 1) ∨ (cls = cA K ∧ n = 3)) → PySem.W.exmOne K cls (.ref (He.ga K "RuleError")) = some true → (("refused " : Str) ++ (toString n : Str)) = t → (∀ H', Same H2 H' → Q (.str t) H') →
      WE (wAs K (.ref (He.ga K "RuleError")) 2 (tFlag K) (fun _ _ _ _ => False) { nx := fun _ H' => Q .non H', rt := Q }) [y0, y1, none] cls none H2 := by
    intro cls n t y0 y1 H2 hc hx ht hq
    refine ⟨true, hx, fun _ a _ => ⟨n, hc, rfl, _, rfl, rfl, fun H3 s3 => ?_⟩, fun z => nomatch z⟩
    rw [ht]
    exact hq H3 s3
  have er1 : ∀ (y0 y1 : Option V) (H2 : Hp), Same H H2 → told k ds R1 → WE (wAs K (.ref (He.ga K "RuleError")) 2 (tFlag K) (fun _ _ _ _ => False) { nx := fun _ H' => Q .non H', rt := Q }) [y0, y1, none] (cN K) none H2 :=
    fun y0 y1 H2 s2 hr1 => er (cN K) 1 "refused 1" y0 y1 H2 (.inl ⟨rfl, rfl⟩) TT.x1 ref1 fun H' s' => q R1 _ _ hr1 (s2.trans s') (.str _)
  have er3 : ∀ (y0 y1 : Option V) (H2 : Hp), Same H H2 → told k ds R3 → WE (wAs K (.ref (He.ga K "RuleError")) 2 (tFlag K) (fun _ _ _ _ => False) { nx := fun _ H' => Q .non H', rt := Q }) [y0, y1, none] (cA K) none H2 :=
    fun y0 y1 H2 s2 hr1 => er (cA K) 3 "refused 3" y0 y1 H2 (.inr ⟨rfl, rfl⟩) TT.x3 ref3 fun H' s' => q R3 _ _ hr1 (s2.trans s') (.str _)
  rcases hk with ⟨hk, hl⟩ | ⟨rfl, hl⟩ | ⟨rfl, hl⟩
  · obtain ⟨d, rfl⟩ : ∃ d, ds = [d] := List.length_eq_one_iff.mp hl
    cases hD with
    | cons hd0 hr0 =>
      cases hr0
      rename_i v
      refine ⟨_, rfl, _, _, rfl, rfl, _, rfl, ?_⟩
      rw [show decide (k < 3) = true from decide_eq_true (by omega)]
      refine ⟨(by show 3 ≤ sizeLine; decide), fun o no => ⟨_, rfl, ?_⟩⟩
      have s1 : Same H (upd H o (.lst [.ref (He.ga K "is_leap"), .ref (He.ga K "date_of"), .ref (He.ga K "week_day")])) := same_upd no
      have ga : SqT K (upd H o (.lst [.ref (He.ga K "is_leap"), .ref (He.ga K "date_of"), .ref (He.ga K "week_day")])) p [v] := seqT s1 hS
      rcases hk with rfl | rfl | rfl
      · refine ⟨o, _, 0, _, rfl, rfl, SqL.of upd_same, atI_nat (j := 0) rfl, He.ga K "is_leap", spIsLeap K, rfl, .inl ⟨rfl, rfl⟩, ?_⟩
        refine ⟨_, rfl, p, _, 0, v, rfl, rfl, ga, atI_nat (j := 0) rfl, v, d, rfl, XK.Dp.mono s1 hd0, fun y hy => ?_, fun c => ?_⟩
        · exact q (.bool (leap y)) _ _ (.inl ⟨rfl, .inl ⟨y, hy, rfl⟩⟩) s1 (.bl _)
        · exact er1 _ _ _ s1 (.inl ⟨rfl, .inr ⟨c, rfl⟩⟩)
      · refine ⟨o, _, 1, _, rfl, rfl, SqL.of upd_same, atI_nat (j := 1) rfl, He.ga K "date_of", spDateOf K, rfl, .inr (.inl ⟨rfl, rfl⟩), ?_⟩
        refine ⟨_, rfl, p, _, 0, v, rfl, rfl, ga, atI_nat (j := 0) rfl, v, d, rfl, XK.Dp.mono s1 hd0, fun n hn h0 h2 H' p2 y m e hI s' ep => ?_, fun c => ?_⟩
        · exact q (.tuple [.int y, .int m, .int e]) _ _ (.inr (.inl ⟨rfl, .inl ⟨n, y, m, e, hn, h0, h2, hI, rfl⟩⟩)) (s1.trans s') (.tup (SqT.of ep) (.cons (.int _) (.cons (.int _) (.cons (.int _) .nil))))
        · exact er1 _ _ _ s1 (.inr (.inl ⟨rfl, .inr ⟨c, rfl⟩⟩))
      · refine ⟨o, _, 2, _, rfl, rfl, SqL.of upd_same, atI_nat (j := 2) rfl, He.ga K "week_day", spWeek K, rfl, .inr (.inr ⟨rfl, rfl⟩), ?_⟩
        refine ⟨_, rfl, p, _, 0, v, rfl, rfl, ga, atI_nat (j := 0) rfl, v, d, rfl, XK.Dp.mono s1 hd0, fun n hn h0 h2 => ?_, fun c => ?_⟩
        · exact q (.int ((n + 5) % 7)) _ _ (.inr (.inr ⟨rfl, .inl ⟨n, hn, h0, h2, rfl⟩⟩)) s1 (.int _)
        · exact er1 _ _ _ s1 (.inr (.inr ⟨rfl, .inr ⟨c, rfl⟩⟩))
  · obtain ⟨d1, d2, rfl⟩ : ∃ d1 d2, ds = [d1, d2] := by
      match ds, hl with
      | [d1, d2], _ => exact ⟨d1, d2, rfl⟩
    cases hD with
    | cons hd0 hr0 =>
      cases hr0 with
      | cons hd1 hr1 =>
        cases hr1
        rename_i v1 v2
        refine ⟨_, rfl, _, _, rfl, rfl, _, rfl, _, rfl, rfl, _, rfl, ?_⟩
        refine ⟨_, rfl, p, _, 0, v1, rfl, rfl, hS, atI_nat (j := 0) rfl, _, rfl, p, _, 1, v2, rfl, rfl, hS, atI_nat (j := 1) rfl, v1, v2, d1, d2, rfl, hd0, hd1, fun y m e1 e2 h1 h2 => ?_, fun c => ?_⟩
        · exact q (.int (len y m)) _ _ ⟨rfl, .inl ⟨y, m, e1, e2, h1, h2, rfl⟩⟩ (Same.refl H) (.int _)
        · exact er1 _ _ _ (Same.refl H) ⟨rfl, .inr ⟨c, rfl⟩⟩
  · obtain ⟨d1, d2, d3, rfl⟩ : ∃ d1 d2 d3, ds = [d1, d2, d3] := by
      match ds, hl with
      | [d1, d2, d3], _ => exact ⟨d1, d2, d3, rfl⟩
    cases hD with
    | cons hd0 hr0 =>
      cases hr0 with
      | cons hd1 hr1 =>
        cases hr1 with
        | cons hd2 hr2 =>
          cases hr2
          rename_i v1 v2 v3
          refine ⟨_, rfl, _, _, rfl, rfl, _, rfl, _, rfl, rfl, _, rfl, ?_⟩
          refine ⟨_, rfl, p, _, 0, v1, rfl, rfl, hS, atI_nat (j := 0) rfl, _, rfl, p, _, 1, v2, rfl, rfl, hS, atI_nat (j := 1) rfl, _, rfl, p, _, 2, v3, rfl, rfl, hS, atI_nat (j := 2) rfl, v1, v2, v3, d1, d2, d3, rfl, hd0, hd1, hd2, fun y m d e1 e2 e3 => ⟨fun h1 h2 h3 H' s' => ?_, fun hno H' s' => ?_⟩, fun c => ?_⟩
          · exact q (.int (num y m d)) _ _ ⟨rfl, .inl ⟨y, m, d, e1, e2, e3, .inl ⟨h1, h2, h3, rfl⟩⟩⟩ s' (.int _)
          · exact er3 _ _ _ s' ⟨rfl, .inl ⟨y, m, d, e1, e2, e3, .inr ⟨hno, rfl⟩⟩⟩
          · exact er1 _ _ _ (Same.refl H) ⟨rfl, .inr ⟨c, rfl⟩⟩
end
end K00

namespace K00
open PySem PySem.Spec PyProof.Rows L2 XK M00 XH
/-! ### what the answers are -/
theorem told0 {y : Int} {r : PyData} (h : told 0 [.int y] r) : r = .bool (leap y) := by
  rcases h with ⟨_, ⟨y', e, rfl⟩ | ⟨c, _⟩⟩ | ⟨c, _⟩ | ⟨c, _⟩
  · cases e
    rfl
  · cases c
  · cases c
  · cases c
theorem told0b {d r : PyData} (hd : isInt d = false) (h : told 0 [d] r) : r = R1 := by
  rcases h with ⟨_, ⟨y', rfl, _⟩ | ⟨_, c⟩⟩ | ⟨c, _⟩ | ⟨c, _⟩
  · cases hd
  · exact c
  · cases c
  · cases c
theorem isDay_of {d : PyData} (hd : isInt d = false) : isDay d = false := by
  cases d <;> first | rfl | cases hd
theorem told1 {n : Int} {r : PyData} (h0 : 0 ≤ n) (h1 : n ≤ 200000) (h : told 1 [.int n] r) : ∃ y m e, IsD n y m e ∧ r = .tuple [.int y, .int m, .int e] := by
  rcases h with ⟨c, _⟩ | ⟨_, ⟨n', y, m, e, en, _, _, hI, rfl⟩ | ⟨c, _⟩⟩ | ⟨c, _⟩
  · cases c
  · cases en
    exact ⟨y, m, e, hI, rfl⟩
  · have c2 : (decide (0 ≤ n) && decide (n ≤ 200000)) = false := c
    rw [decide_eq_true h0, decide_eq_true h1] at c2
    cases c2
  · cases c
theorem told1b {d r : PyData} (hd : isDay d = false) (h : told 1 [d] r) : r = R1 := by
  rcases h with ⟨c, _⟩ | ⟨_, ⟨n', y, m, e, rfl, h0, h1, _⟩ | ⟨_, c⟩⟩ | ⟨c, _⟩
  · cases c
  · have c2 : (decide (0 ≤ n') && decide (n' ≤ 200000)) = false := hd
    rw [decide_eq_true h0, decide_eq_true h1] at c2
    cases c2
  · exact c
  · cases c
theorem told2 {n : Int} {r : PyData} (h0 : 0 ≤ n) (h1 : n ≤ 200000) (h : told 2 [.int n] r) : r = .int ((n + 5) % 7) := by
  rcases h with ⟨c, _⟩ | ⟨c, _⟩ | ⟨_, ⟨n', en, _, _, rfl⟩ | ⟨c, _⟩⟩
  · cases c
  · cases c
  · cases en
    rfl
  · have c2 : (decide (0 ≤ n) && decide (n ≤ 200000)) = false := c
    rw [decide_eq_true h0, decide_eq_true h1] at c2
    cases c2
theorem told2b {d r : PyData} (hd : isDay d = false) (h : told 2 [d] r) : r = R1 := by
  rcases h with ⟨c, _⟩ | ⟨c, _⟩ | ⟨_, ⟨n', rfl, h0, h1, _⟩ | ⟨_, c⟩⟩
  · cases c
  · cases c
  · have c2 : (decide (0 ≤ n') && decide (n' ≤ 200000)) = false := hd
    rw [decide_eq_true h0, decide_eq_true h1] at c2
    cases c2
  · exact c
theorem told3 {y m : Int} {r : PyData} (h0 : 1 ≤ m) (h1 : m ≤ 12) (h : told 3 [.int y, .int m] r) : r = .int (len y m) := by
  rcases h with ⟨_, ⟨y', m', e1, e2, _, _, rfl⟩ | ⟨c, _⟩⟩
  · cases e1
    cases e2
    rfl
  · have c2 : (decide (1 ≤ m) && decide (m ≤ 12)) = false := c
    rw [decide_eq_true h0, decide_eq_true h1] at c2
    cases c2
theorem told3b {d1 d2 r : PyData} (hd : okM d1 d2 = false) (h : told 3 [d1, d2] r) : r = R1 := by
  rcases h with ⟨_, ⟨y', m', rfl, rfl, h0, h1, _⟩ | ⟨_, c⟩⟩
  · have c2 : (decide (1 ≤ m') && decide (m' ≤ 12)) = false := hd
    rw [decide_eq_true h0, decide_eq_true h1] at c2
    cases c2
  · exact c
theorem told4 {y m d : Int} {r : PyData} (h : told 4 [.int y, .int m, .int d] r) : (okD y m d ∧ 0 ≤ num y m d ∧ num y m d ≤ 200000 ∧ r = .int (num y m d)) ∨ (¬ (okD y m d ∧ 0 ≤ num y m d ∧ num y m d ≤ 200000) ∧ r = R3) := by
  rcases h with ⟨_, ⟨y', m', d', e1, e2, e3, h⟩ | ⟨c, _⟩⟩
  · cases e1
    cases e2
    cases e3
    exact h
  · cases c
theorem told4n {y m d : Int} {r : PyData} (hn : ¬ (okD y m d ∧ 0 ≤ num y m d ∧ num y m d ≤ 200000)) (h : told 4 [.int y, .int m, .int d] r) : r = R3 := by
  rcases told4 h with ⟨a, b, c, _⟩ | ⟨_, e⟩
  · exact absurd ⟨a, b, c⟩ hn
  · exact e
theorem told4b {d1 d2 d3 r : PyData} (hd : (isInt d1 && (isInt d2 && isInt d3)) = false) (h : told 4 [d1, d2, d3] r) : r = R1 := by
  rcases h with ⟨_, ⟨y', m', d', rfl, rfl, rfl, _⟩ | ⟨_, c⟩⟩
  · cases hd
  · exact c
/-! ### readings in short -/
section
variable {K : PySem.W.Frag} {σ : L2.St} {H : Hp} {Q : VK}
/-- the law's asking, its arguments read off the state -/
theorem rd_told {tk : TE} {ta : TA} {k : Int} {xs : List V} {ds : List PyData} (hk : ∀ Q' : VK, Q' (.int k) H → tk σ H Q') (ha : ∀ Q' : List V → Hp → Prop, Q' xs H → ta σ H Q') (hd : DpAll K H xs ds) (ho : okK k ds.length)
    (hq : ∀ r v H', told k ds r → Same H H' → Dp K H' v r → Q v H') : tK (spTold K) (fun _ => E0) (tCons tk (tCons (tTup ta) tNil)) σ H Q := by
  refine hk _ (ha _ ⟨?_, fun tp ntp => ⟨k, tp, xs, ds, rfl, SqT.of upd_same, DpAll.mono (same_upd ntp) hd, ho, fun r v H' ht s hv => hq r v H' ht (XK.same_upd ntp |>.trans s) hv⟩⟩)
  rw [dpl hd]
  unfold okK at ho
  exact Nat.le_trans (show ds.length ≤ 10 by omega) (by decide)
/-- a new list of data -/
theorem dp_lst {p : Addr} {xs : List V} {ds : List PyData} (hd : DpAll K H xs ds) (np : H p = none) : Dp K (upd H p (.lst xs)) (.ref p) (.list ds) := .lst (SqL.of upd_same) (DpAll.mono (XK.same_upd np) hd)
theorem dp_tup {p : Addr} {xs : List V} {ds : List PyData} (hd : DpAll K H xs ds) (np : H p = none) : Dp K (upd H p (.tup xs)) (.ref p) (.tuple ds) := .tup (SqT.of upd_same) (DpAll.mono (XK.same_upd np) hd)
theorem dr_same {H' : Hp} {p : Addr} {ns : List Int} (h : Dr H p ns) (s : Same H H') : Dr H' p ns := s _ _ h
end
end K00

namespace K00
open PySem PySem.Spec PyProof.Rows L2 XK M00 XH
abbrev v1 : V := .str "refused 1"
abbrev v3 : V := .str "refused 3"
def L0 (K : PySem.W.Frag) (a p : Addr) (σ : L2.St) (H : Hp) : Prop := ∃ (ds : List Int) (w2 w3 w4 w5 w6 w7 w8 w9 w10 w11 w12 w13 w14 w15 w16 : Option V), σ = [some (.ref a), some (.ref p), w2, w3, w4, w5, w6, w7, w8, w9, w10, w11, w12, w13, w14, w15, w16] ∧ Dr H p ds ∧ True
def L1 (K : PySem.W.Frag) (a p : Addr) (σ : L2.St) (H : Hp) : Prop := ∃ (ds : List Int) (w2 w4 w5 w6 w7 w8 w9 w10 w11 w12 w13 w14 w15 w16 : Option V) (y : Int), σ = [some (.ref a), some (.ref p), w2, some (.int y), w4, w5, w6, w7, w8, w9, w10, w11, w12, w13, w14, w15, w16] ∧ Dr H p ds ∧ (1600 ≤ y ∧ y ≤ 2147)
def L2m (K : PySem.W.Frag) (a p : Addr) (σ : L2.St) (H : Hp) : Prop := ∃ (ds : List Int) (w2 w5 w6 w7 w8 w9 w10 w11 w12 w13 w14 w15 w16 : Option V) (y m : Int), σ = [some (.ref a), some (.ref p), w2, some (.int y), some (.int m), w5, w6, w7, w8, w9, w10, w11, w12, w13, w14, w15, w16] ∧ Dr H p ds ∧ (1600 ≤ y ∧ y ≤ 2147) ∧ (1 ≤ m ∧ m ≤ 12)
def L3 (K : PySem.W.Frag) (a p : Addr) (σ : L2.St) (H : Hp) : Prop := ∃ (ds : List Int) (w2 w6 w7 w8 w9 w10 w11 w12 w13 w14 w15 w16 : Option V) (y m : Int), σ = [some (.ref a), some (.ref p), w2, some (.int y), some (.int m), some (.int (len y m)), w6, w7, w8, w9, w10, w11, w12, w13, w14, w15, w16] ∧ Dr H p ds ∧ (1600 ≤ y ∧ y ≤ 2147) ∧ (1 ≤ m ∧ m ≤ 12)
def L4 (K : PySem.W.Frag) (a p : Addr) (σ : L2.St) (H : Hp) : Prop := ∃ (ds : List Int) (w2 w7 w8 w9 w10 w11 w12 w13 w14 w15 w16 : Option V) (y m d : Int), σ = [some (.ref a), some (.ref p), w2, some (.int y), some (.int m), some (.int (len y m)), some (.int d), w7, w8, w9, w10, w11, w12, w13, w14, w15, w16] ∧ Dr H p ds ∧ (1600 ≤ y ∧ y ≤ 2147) ∧ (1 ≤ m ∧ m ≤ 12) ∧ (1 ≤ d ∧ d ≤ len y m)
def L5 (K : PySem.W.Frag) (a p : Addr) (σ : L2.St) (H : Hp) : Prop := ∃ (ds : List Int) (w2 w8 w9 w10 w11 w12 w13 w14 w15 w16 : Option V) (y m d : Int), σ = [some (.ref a), some (.ref p), w2, some (.int y), some (.int m), some (.int (len y m)), some (.int d), some (.int (num y m d)), w8, w9, w10, w11, w12, w13, w14, w15, w16] ∧ Dr H p ds ∧ (1600 ≤ y ∧ y ≤ 2147) ∧ (1 ≤ m ∧ m ≤ 12) ∧ (1 ≤ d ∧ d ≤ len y m)
def L6 (K : PySem.W.Frag) (a p : Addr) (σ : L2.St) (H : Hp) : Prop := ∃ (ds : List Int) (w2 w9 w10 w11 w12 w13 w14 w15 w16 : Option V) (y m d : Int) (g : Addr), σ = [some (.ref a), some (.ref p), w2, some (.int y), some (.int m), some (.int (len y m)), some (.int d), some (.int (num y m d)), some (.ref g), w9, w10, w11, w12, w13, w14, w15, w16] ∧ Dr H p ds ∧ (1600 ≤ y ∧ y ≤ 2147) ∧ (1 ≤ m ∧ m ≤ 12) ∧ (1 ≤ d ∧ d ≤ len y m) ∧ Dp K H (.ref g) (.list [.bool (leap y), .int (len y m), if num y m d ≤ 200000 then .int (num y m d) else R3])
def L8 (K : PySem.W.Frag) (a p : Addr) (σ : L2.St) (H : Hp) : Prop := ∃ (ds : List Int) (w2 w6 w8 w9 w10 w11 w12 w13 w14 w15 w16 : Option V) (y m n : Int), σ = [some (.ref a), some (.ref p), w2, some (.int y), some (.int m), some (.int (len y m)), w6, some (.int n), w8, w9, w10, w11, w12, w13, w14, w15, w16] ∧ Dr H p ds ∧ (1600 ≤ y ∧ y ≤ 2147) ∧ (1 ≤ m ∧ m ≤ 12) ∧ (0 ≤ n ∧ n ≤ 200000)
def L9 (K : PySem.W.Frag) (a p : Addr) (σ : L2.St) (H : Hp) : Prop := ∃ (ds : List Int) (w2 w6 w8 w10 w11 w12 w13 w14 w15 w16 : Option V) (y m n : Int) (g : Addr) (y2 m2 d2 : Int), σ = [some (.ref a), some (.ref p), w2, some (.int y), some (.int m), some (.int (len y m)), w6, some (.int n), w8, some (.ref g), w10, w11, w12, w13, w14, w15, w16] ∧ Dr H p ds ∧ (1600 ≤ y ∧ y ≤ 2147) ∧ (1 ≤ m ∧ m ≤ 12) ∧ (0 ≤ n ∧ n ≤ 200000) ∧ IsD n y2 m2 d2 ∧ SqT K H g [.int y2, .int m2, .int d2]
def L12 (K : PySem.W.Frag) (a p : Addr) (σ : L2.St) (H : Hp) : Prop := ∃ (ds : List Int) (w2 w6 w7 w8 w9 w10 w11 w12 w14 w15 w16 : Option V) (y m : Int) (g : Addr), σ = [some (.ref a), some (.ref p), w2, some (.int y), some (.int m), some (.int (len y m)), w6, w7, w8, w9, w10, w11, w12, some (.ref g), w14, w15, w16] ∧ Dr H p ds ∧ (1600 ≤ y ∧ y ≤ 2147) ∧ (1 ≤ m ∧ m ≤ 12) ∧ H g = some (.lst (List.replicate 4 v3))
def L13 (K : PySem.W.Frag) (a p : Addr) (σ : L2.St) (H : Hp) : Prop := ∃ (ds : List Int) (w2 w6 w7 w8 w9 w10 w11 w12 w14 w15 w16 : Option V) (y m : Int) (g : Addr), σ = [some (.ref a), some (.ref p), w2, some (.int y), some (.int m), some (.int (len y m)), w6, w7, w8, w9, w10, w11, w12, some (.ref g), w14, w15, w16] ∧ Dr H p ds ∧ (1600 ≤ y ∧ y ≤ 2147) ∧ (1 ≤ m ∧ m ≤ 12) ∧ H g = some (.lst (List.replicate 7 v3))
def L14 (K : PySem.W.Frag) (a p : Addr) (σ : L2.St) (H : Hp) : Prop := ∃ (ds : List Int) (w2 w6 w7 w8 w9 w10 w11 w12 w15 w16 : Option V) (y m : Int) (g : Addr) (b : V) (e : PyData), σ = [some (.ref a), some (.ref p), w2, some (.int y), some (.int m), some (.int (len y m)), w6, w7, w8, w9, w10, w11, w12, some (.ref g), some b, w15, w16] ∧ Dr H p ds ∧ (1600 ≤ y ∧ y ≤ 2147) ∧ (1 ≤ m ∧ m ≤ 12) ∧ H g = some (.lst (List.replicate 7 v3)) ∧ Dp K H b e ∧ isInt e = false
def L15 (K : PySem.W.Frag) (a p : Addr) (σ : L2.St) (H : Hp) : Prop := ∃ (ds : List Int) (w2 w6 w7 w8 w9 w10 w11 w12 w16 : Option V) (y m : Int) (g : Addr) (b : V) (e : PyData) (o : Addr), σ = [some (.ref a), some (.ref p), w2, some (.int y), some (.int m), some (.int (len y m)), w6, w7, w8, w9, w10, w11, w12, some (.ref g), some b, some (.ref o), w16] ∧ Dr H p ds ∧ (1600 ≤ y ∧ y ≤ 2147) ∧ (1 ≤ m ∧ m ≤ 12) ∧ H g = some (.lst (List.replicate 7 v3)) ∧ Dp K H b e ∧ isInt e = false ∧ H o = some (.lst (List.replicate 3 v1))
def L16 (K : PySem.W.Frag) (a p : Addr) (σ : L2.St) (H : Hp) : Prop := ∃ (ds : List Int) (w2 w6 w7 w8 w9 w10 w11 w12 w16 : Option V) (y m : Int) (g : Addr) (b : V) (e : PyData) (o : Addr), σ = [some (.ref a), some (.ref p), w2, some (.int y), some (.int m), some (.int (len y m)), w6, w7, w8, w9, w10, w11, w12, some (.ref g), some b, some (.ref o), w16] ∧ Dr H p ds ∧ (1600 ≤ y ∧ y ≤ 2147) ∧ (1 ≤ m ∧ m ≤ 12) ∧ H g = some (.lst (List.replicate 7 v3)) ∧ Dp K H b e ∧ isInt e = false ∧ H o = some (.lst (List.replicate 7 v1))
def L17 (K : PySem.W.Frag) (a p : Addr) (σ : L2.St) (H : Hp) : Prop := ∃ (ds : List Int) (w2 w6 w7 w8 w9 w10 w11 w12 w16 : Option V) (y m : Int) (g : Addr) (b : V) (e : PyData) (o : Addr), σ = [some (.ref a), some (.ref p), w2, some (.int y), some (.int m), some (.int (len y m)), w6, w7, w8, w9, w10, w11, w12, some (.ref g), some b, some (.ref o), w16] ∧ Dr H p ds ∧ (1600 ≤ y ∧ y ≤ 2147) ∧ (1 ≤ m ∧ m ≤ 12) ∧ H g = some (.lst (List.replicate 7 v3)) ∧ Dp K H b e ∧ isInt e = false ∧ H o = some (.lst (List.replicate 10 v1))
def L18 (K : PySem.W.Frag) (a p : Addr) (σ : L2.St) (H : Hp) : Prop := ∃ (ds : List Int) (w2 w6 w7 w8 w9 w10 w11 w12 w16 : Option V) (y m : Int) (g : Addr) (b : V) (e : PyData) (o : Addr), σ = [some (.ref a), some (.ref p), w2, some (.int y), some (.int m), some (.int (len y m)), w6, w7, w8, w9, w10, w11, w12, some (.ref g), some b, some (.ref o), w16] ∧ Dr H p ds ∧ (1600 ≤ y ∧ y ≤ 2147) ∧ (1 ≤ m ∧ m ≤ 12) ∧ H g = some (.lst (List.replicate 7 v3)) ∧ Dp K H b e ∧ isInt e = false ∧ H o = some (.lst (List.replicate 14 v1))
def LA (K : PySem.W.Frag) (a p : Addr) (σ : L2.St) (H : Hp) : Prop := ∃ (ds : List Int) (w2 w6 w8 w11 w12 w13 w14 w15 w16 : Option V) (y m n : Int) (g : Addr) (y2 m2 d2 y3 m3 d3 : Int) (l : V), σ = [some (.ref a), some (.ref p), w2, some (.int y), some (.int m), some (.int (len y m)), w6, some (.int n), w8, some (.ref g), some l, w11, w12, w13, w14, w15, w16] ∧ Dr H p ds ∧ (1600 ≤ y ∧ y ≤ 2147) ∧ (1 ≤ m ∧ m ≤ 12) ∧ (0 ≤ n ∧ n < 200000) ∧ IsD n y2 m2 d2 ∧ SqT K H g [.int y2, .int m2, .int d2] ∧ IsD (n + 1) y3 m3 d3 ∧ Dp K H l (.tuple [.int y3, .int m3, .int d3])
def LB (K : PySem.W.Frag) (a p : Addr) (σ : L2.St) (H : Hp) : Prop := ∃ (ds : List Int) (w2 w6 w8 w12 w13 w14 w15 w16 : Option V) (y m n : Int) (g : Addr) (y2 m2 d2 y3 m3 d3 : Int) (l : V), σ = [some (.ref a), some (.ref p), w2, some (.int y), some (.int m), some (.int (len y m)), w6, some (.int n), w8, some (.ref g), some l, some (.bl (decide (d2 < len y2 m2))), w12, w13, w14, w15, w16] ∧ Dr H p ds ∧ (1600 ≤ y ∧ y ≤ 2147) ∧ (1 ≤ m ∧ m ≤ 12) ∧ (0 ≤ n ∧ n < 200000) ∧ IsD n y2 m2 d2 ∧ SqT K H g [.int y2, .int m2, .int d2] ∧ IsD (n + 1) y3 m3 d3 ∧ Dp K H l (.tuple [.int y3, .int m3, .int d3])
def LC (K : PySem.W.Frag) (a p : Addr) (σ : L2.St) (H : Hp) : Prop := ∃ (ds : List Int) (w2 w6 w8 w13 w14 w15 w16 : Option V) (y m n : Int) (g : Addr) (y2 m2 d2 y3 m3 d3 : Int) (l : V) (u : V), σ = [some (.ref a), some (.ref p), w2, some (.int y), some (.int m), some (.int (len y m)), w6, some (.int n), w8, some (.ref g), some l, some (.bl (decide (d2 < len y2 m2))), some u, w13, w14, w15, w16] ∧ Dr H p ds ∧ (1600 ≤ y ∧ y ≤ 2147) ∧ (1 ≤ m ∧ m ≤ 12) ∧ (0 ≤ n ∧ n < 200000) ∧ IsD n y2 m2 d2 ∧ SqT K H g [.int y2, .int m2, .int d2] ∧ IsD (n + 1) y3 m3 d3 ∧ Dp K H l (.tuple [.int y3, .int m3, .int d3]) ∧ Dp K H u (.tuple [.int y3, .int m3, .int d3])

section
variable {P : Program} {w : World} {K : PySem.W.Frag} {mg : Str → Option Value} {base : Heap} {f : Addr} {fd : FuncData}
abbrev s_law : Stmt := topS 38
theorem sc_law : FnScope ["script", "draws", "turn", "year", "month", "size", "day", "number", "got", "date", "later", "same", "due", "gone", "bad", "none", "which"] ["script"] (defScope s_law) := ⟨rfl, rfl, rfl, by decide +kernel, rfl, by decide +kernel, by decide +kernel⟩
def spLaw (K : PySem.W.Frag) : Sp := fun vs H Q _ => ∃ (a : Addr) (ns : List Int), vs = [.ref a] ∧ SqL K H a (ns.map V.int) ∧ ns.length ≤ 63 ∧ ∀ H', Q (.bl true) H'
theorem dp_rep {K : PySem.W.Frag} {H : Hp} (s : Str) : ∀ n : Nat, DpAll K H (List.replicate n (.str s)) (List.replicate n (.str s))
  | 0 => .nil
  | n + 1 => .cons (.str s) (dp_rep s n)
theorem dp_rep3 {K : PySem.W.Frag} {H : Hp} (n : Nat) : DpAll K H (List.replicate n v3) (List.replicate n R3) := dp_rep _ n
theorem dp_rep1 {K : PySem.W.Frag} {H : Hp} (n : Nat) : DpAll K H (List.replicate n v1) (List.replicate n R1) := dp_rep _ n
theorem sh3 : SeqAt.shaped (.list (List.replicate 7 R3)) = true := by decide +kernel
theorem sh1 : SeqAt.shaped (.list (List.replicate 14 R1)) = true := by decide +kernel

theorem tk_pick {H : Hp} {a : Addr} {ns : List Int} (h : H a = some (.lst (ns.map V.int))) : Dr H a ns := h
theorem dr_upd {H : Hp} {a : Addr} {ns : List Int} : Dr (upd H a (.lst (ns.map V.int))) a ns := upd_same
theorem v1_of {K : PySem.W.Frag} {H : Hp} {v : V} (h : Dp K H v R1) : v = v1 := by
  cases h
  rfl
theorem v3_of {K : PySem.W.Frag} {H : Hp} {v : V} (h : Dp K H v R3) : v = v3 := by
  cases h
  rfl
theorem int_of {K : PySem.W.Frag} {H : Hp} {v : V} {i : Int} (h : Dp K H v (.int i)) : v = .int i := by
  cases h
  rfl
theorem ok_law (T : Txt K mg) (c__law_draws : Cl P w K mg base CX0 1 "_law_draws" (spDraws K)) (c__law_take : Cl P w K mg base CX0 1 "_law_take" (spTake K)) (c__law_pick : Cl P w K mg base CX0 2 "_law_pick" (spPick K))
    (c__law_long : Cl P w K mg base CX0 2 "_law_long" spLong) (c__law_counted : Cl P w K mg base CX0 3 "_law_counted" spCount) (c__law_told : Cl P w K mg base CX0 5 "_law_told" (spTold K)) (c__law_same : ∀ n, Cl P w K mg base CX0 n "_law_same" (spS K n))
    (c__law_is_long : Cl P w K mg base CX0 1 "_law_is_long" spLeaps) (c__law_named : Cl P w K mg base CX0 3 "_law_named" spNamed) (c_date_of : Cl P w K mg base (L2N.CX P w) 4 "date_of" (spDateOf K)) (c_day_of : Cl P w K mg base (L2N.CX P w) 4 "day_of" (spDayOf K))
    (c_week_day : Cl P w K mg base (L2N.CX P w) 3 "week_day" (spWeek K)) (c_is_leap : Cl P w K mg base (L2N.CX P w) 2 "is_leap" (spIsLeap K)) (c_length_of_month : Cl P w K mg base (L2N.CX P w) 3 "length_of_month" (spLenM K))
    (F : FnP K "law" s_law f fd) : FnOk P w K mg base CX0 9 f fd ["script"] (spLaw K) := by
  have c__law_same := c__law_same 5
  refine F.ok sc_law (fun vs H Q E h => by obtain ⟨a, ns, rfl, _⟩ := h; rfl) (fun cdv A outer s H vs Q E hr h => ?_)
  obtain ⟨a, ns, rfl, hS, hl, q⟩ := h
  refine ⟨_, PSs.nox (C8.pss_cut (ps_set (i := 1) sc_law.nd rfl (Or.inl rfl) (pe_k (E := fun _ => E0) c__law_draws hr (by omega) (by rfl) at0 (pa_cons (pv 0) pa_nil)))
      (C8.pss_cut (ps_for PassesOwn.never rfl (pi_range1 (by rfl) T.n_range (pa_cons pe_int pa_nil)) (pg_name (i := 2) sc_law.nd rfl (Or.inl rfl))
      (C8.pss_cut (ps_set (i := 3) sc_law.nd rfl (Or.inl rfl) (pe_k (E := fun _ => E0) c__law_pick hr (by omega) (by rfl) at0 (pa_cons (pv 1) (pa_cons (pe_lst (pa_cons pe_int (pa_cons pe_int (pa_cons pe_int (pa_cons pe_int (pa_cons pe_int (pa_cons pe_int (pa_cons pe_int (pa_cons (pe_op op_add pe_int (pe_k (E := fun _ => E0) c__law_take hr (by omega) (by rfl) at0 (pa_cons (pv 1) (pa_cons pe_int pa_nil)))) (pa_cons (pe_op op_add pe_int (pe_op op_mul pe_int (pe_k (E := fun _ => E0) c__law_take hr (by omega) (by rfl) at0 (pa_cons (pv 1) (pa_cons pe_int pa_nil))))) pa_nil)))))))))) pa_nil))))
      (C8.pss_cut (ps_set (i := 4) sc_law.nd rfl (Or.inl rfl) (pe_op op_add pe_int (pe_k (E := fun _ => E0) c__law_take hr (by omega) (by rfl) at0 (pa_cons (pv 1) (pa_cons pe_int pa_nil)))))
      (C8.pss_cut (ps_set (i := 5) sc_law.nd rfl (Or.inl rfl) (pe_k (E := fun _ => E0) c__law_long hr (by omega) (by rfl) at0 (pa_cons (pv 3) (pa_cons (pv 4) pa_nil))))
      (C8.pss_cut (ps_set (i := 6) sc_law.nd rfl (Or.inl rfl) (pe_k (E := fun _ => E0) c__law_pick hr (by omega) (by rfl) at0 (pa_cons (pv 1) (pa_cons (pe_lst (pa_cons pe_int (pa_cons (pv 5) (pa_cons (pe_op op_add pe_int (pe_k (E := fun _ => E0) c__law_take hr (by omega) (by rfl) at0 (pa_cons (pv 1) (pa_cons (pv 5) pa_nil)))) pa_nil)))) pa_nil))))
      (C8.pss_cut (ps_set (i := 7) sc_law.nd rfl (Or.inl rfl) (pe_k (E := fun _ => E0) c__law_counted hr (by omega) (by rfl) at0 (pa_cons (pv 3) (pa_cons (pv 4) (pa_cons (pv 6) pa_nil)))))
      (C8.pss_cut (ps_set (i := 8) sc_law.nd rfl (Or.inl rfl) (pe_lst (pa_cons (pe_k (E := fun _ => E0) c__law_told hr (by omega) (by rfl) at0 (pa_cons pe_int (pa_cons (pe_tup (pa_cons (pv 3) pa_nil)) pa_nil))) (pa_cons (pe_k (E := fun _ => E0) c__law_told hr (by omega) (by rfl) at0 (pa_cons pe_int (pa_cons (pe_tup (pa_cons (pv 3) (pa_cons (pv 4) pa_nil))) pa_nil))) (pa_cons (pe_k (E := fun _ => E0) c__law_told hr (by omega) (by rfl) at0 (pa_cons pe_int (pa_cons (pe_tup (pa_cons (pv 3) (pa_cons (pv 4) (pa_cons (pv 6) pa_nil)))) pa_nil))) pa_nil)))))
      (C8.pss_cut (ps_if (pt_not (pt_val (pe_k (E := fun _ => E0) c__law_same hr (by omega) (by rfl) at0 (pa_cons (pv 8) (pa_cons (pe_lst (pa_cons (pe_k (E := fun _ => E0) c__law_is_long hr (by omega) (by rfl) at0 (pa_cons (pv 3) pa_nil)) (pa_cons (pv 5) (pa_cons (pe_ifExp (pt_cmpR op_le (pv 7) pe_int (nomark _)) (pv 7) pe_str) pa_nil)))) pa_nil))))) (pss_one (ps_ret pe_bl)) pss_nil)
      (C8.pss_cut (ps_set (i := 7) sc_law.nd rfl (Or.inl rfl) (pe_k (E := fun _ => E0) c__law_pick hr (by omega) (by rfl) at0 (pa_cons (pv 1) (pa_cons (pe_lst (pa_cons pe_int (pa_cons pe_int (pa_cons pe_int (pa_cons pe_int (pa_cons pe_int (pa_cons pe_int (pa_cons pe_int (pa_cons pe_int (pa_cons (pe_k (E := fun _ => E0) c__law_take hr (by omega) (by rfl) at0 (pa_cons (pv 1) (pa_cons pe_int pa_nil))) pa_nil)))))))))) pa_nil))))
      (C8.pss_cut (ps_set (i := 9) sc_law.nd rfl (Or.inl rfl) (pe_k (E := fun _ => E0) c__law_named hr (by omega) (by rfl) at0 (pa_cons (pv 7) pa_nil)))
      (C8.pss_cut (ps_if (pt_not (pt_val (pe_k (E := fun _ => E0) c__law_same hr (by omega) (by rfl) at0 (pa_cons (pe_lst (pa_cons (pe_k (E := fun _ => E0) c__law_told hr (by omega) (by rfl) at0 (pa_cons pe_int (pa_cons (pe_tup (pa_cons (pv 7) pa_nil)) pa_nil))) (pa_cons (pe_k (E := fun _ => E0) c__law_told hr (by omega) (by rfl) at0 (pa_cons pe_int (pa_cons (pe_tup (pa_cons (pv 7) pa_nil)) pa_nil))) (pa_cons (pe_k (E := fun _ => E0) c__law_told hr (by omega) (by rfl) at0 (pa_cons pe_int (pa_cons (pv 9) pa_nil))) pa_nil)))) (pa_cons (pe_lst (pa_cons (pv 9) (pa_cons (pe_op op_mod (pe_callTy call_int1 (by rfl) T.n_int (by decide +kernel) (pa_cons (pe_op op_add (pv 7) pe_int) pa_nil)) pe_int) (pa_cons (pv 7) pa_nil)))) pa_nil))))) (pss_one (ps_ret pe_bl)) pss_nil)
      (C8.pss_cut (ps_if (pt_cmpR op_lt (pv 7) pe_int (nomark _)) (C8.pss_cut (ps_set (i := 10) sc_law.nd rfl (Or.inl rfl) (pe_k (E := fun _ => E0) c__law_told hr (by omega) (by rfl) at0 (pa_cons pe_int (pa_cons (pe_tup (pa_cons (pe_op op_add (pv 7) pe_int) pa_nil)) pa_nil))))
      (C8.pss_cut (ps_set (i := 11) sc_law.nd rfl (Or.inl rfl) (pe_cmpR op_lt (pe_ix ix_tup (pv 9) pe_int (fun _ _ => rfl)) (pe_k (E := fun _ => E0) c__law_long hr (by omega) (by rfl) at0 (pa_cons (pe_ix ix_tup (pv 9) pe_int (fun _ _ => rfl)) (pa_cons (pe_ix ix_tup (pv 9) pe_int (fun _ _ => rfl)) pa_nil))) (nomark _)))
      (C8.pss_cut (ps_set (i := 12) sc_law.nd rfl (Or.inl rfl) (pe_ifExp (pt_val (pv 11)) (pe_tup (pa_cons (pe_ix ix_tup (pv 9) pe_int (fun _ _ => rfl)) (pa_cons (pe_ix ix_tup (pv 9) pe_int (fun _ _ => rfl)) (pa_cons (pe_op op_add (pe_ix ix_tup (pv 9) pe_int (fun _ _ => rfl)) pe_int) pa_nil)))) (pe_ifExp (pt_cmpR op_lt (pe_ix ix_tup (pv 9) pe_int (fun _ _ => rfl)) pe_int (nomark _)) (pe_tup (pa_cons (pe_ix ix_tup (pv 9) pe_int (fun _ _ => rfl)) (pa_cons (pe_op op_add (pe_ix ix_tup (pv 9) pe_int (fun _ _ => rfl)) pe_int) (pa_cons pe_int pa_nil)))) (pe_tup (pa_cons (pe_op op_add (pe_ix ix_tup (pv 9) pe_int (fun _ _ => rfl)) pe_int) (pa_cons pe_int (pa_cons pe_int pa_nil)))))))
      (pss_one (ps_if (PW.pt (pw_or (pt_not (pt_val (pe_k (E := fun _ => E0) c__law_same hr (by omega) (by rfl) at0 (pa_cons (pv 10) (pa_cons (pv 12) pa_nil))))) (pw_or1 (pt_cmpR op_ne (pe_op op_mod (pe_callTy call_int1 (by rfl) T.n_int (by decide +kernel) (pa_cons (pe_op op_sub (pe_op op_sub (pe_k (E := fun _ => E0) c__law_told hr (by omega) (by rfl) at0 (pa_cons pe_int (pa_cons (pe_tup (pa_cons (pe_op op_add (pv 7) pe_int) pa_nil)) pa_nil))) (pe_k (E := fun _ => E0) c__law_told hr (by omega) (by rfl) at0 (pa_cons pe_int (pa_cons (pe_tup (pa_cons (pv 7) pa_nil)) pa_nil)))) pe_int) pa_nil)) pe_int) pe_int (nomark _))))) (pss_one (ps_ret pe_bl)) pss_nil))))) pss_nil)
      (C8.pss_cut (ps_set (i := 13) sc_law.nd rfl (Or.inl rfl) (pe_lst (pa_cons (pe_k (E := fun _ => E0) c__law_told hr (by omega) (by rfl) at0 (pa_cons pe_int (pa_cons (pe_tup (pa_cons (pv 3) (pa_cons pe_int (pa_cons pe_int pa_nil)))) pa_nil))) (pa_cons (pe_k (E := fun _ => E0) c__law_told hr (by omega) (by rfl) at0 (pa_cons pe_int (pa_cons (pe_tup (pa_cons (pv 3) (pa_cons pe_int (pa_cons pe_int pa_nil)))) pa_nil))) (pa_cons (pe_k (E := fun _ => E0) c__law_told hr (by omega) (by rfl) at0 (pa_cons pe_int (pa_cons (pe_tup (pa_cons (pv 3) (pa_cons (pv 4) (pa_cons pe_int pa_nil)))) pa_nil))) (pa_cons (pe_k (E := fun _ => E0) c__law_told hr (by omega) (by rfl) at0 (pa_cons pe_int (pa_cons (pe_tup (pa_cons (pv 3) (pa_cons (pv 4) (pa_cons (pe_op op_add (pv 5) pe_int) pa_nil)))) pa_nil))) pa_nil))))))
      (C8.pss_cut (ps_set (i := 13) sc_law.nd rfl (Or.inl rfl) (pe_op op_cat (pv 13) (pe_lst (pa_cons (pe_k (E := fun _ => E0) c__law_told hr (by omega) (by rfl) at0 (pa_cons pe_int (pa_cons (pe_tup (pa_cons pe_int (pa_cons pe_int (pa_cons pe_int pa_nil)))) pa_nil))) (pa_cons (pe_k (E := fun _ => E0) c__law_told hr (by omega) (by rfl) at0 (pa_cons pe_int (pa_cons (pe_tup (pa_cons pe_int (pa_cons pe_int (pa_cons pe_int pa_nil)))) pa_nil))) (pa_cons (pe_k (E := fun _ => E0) c__law_told hr (by omega) (by rfl) at0 (pa_cons pe_int (pa_cons (pe_tup (pa_cons (pe_un un_neg pe_int) (pa_cons pe_int (pa_cons pe_int pa_nil)))) pa_nil))) pa_nil))))))
      (C8.pss_cut (ps_set (i := 14) sc_law.nd rfl (Or.inr rfl) (pe_k (E := fun _ => E0) c__law_pick hr (by omega) (by rfl) at0 (pa_cons (pv 1) (pa_cons (pe_lst (pa_cons pe_non (pa_cons pe_str (pa_cons (pe_tup (pa_cons pe_int pa_nil)) (pa_cons pe_bl (pa_cons (pe_lst (pa_cons pe_int pa_nil)) pa_nil)))))) pa_nil))))
      (C8.pss_cut (ps_setLc (i := 15) (own := [("which", 16)]) (g := gName 16) (tt := tYes)  rfl sc_law.nd rfl rfl (sw_true rfl rfl rfl (by decide +kernel)) (pi_range1 (by rfl) T.n_range (pa_cons pe_int pa_nil)) (blkOk_by (own := [("which", 16)]) (N := ["script", "draws", "turn", "year", "month", "size", "day", "number", "got", "date", "later", "same", "due", "gone", "bad", "none", "which"]) (sc := defScope s_law) (by decide +kernel)) (fun _ _ _ _ _ => pg_name (i := 16) sc_law.nd rfl (Or.inl rfl)) (fun _ _ _ _ _ => pts_nil) (fun _ _ _ _ _ => (pe_k (E := fun _ => E0) c__law_told hr (by omega) (by rfl) at0 (pa_cons (pv 16) (pa_cons (pe_tup (pa_cons (pv 14) pa_nil)) pa_nil)))))
      (C8.pss_cut (ps_set (i := 15) sc_law.nd rfl (Or.inl rfl) (pe_op op_cat (pv 15) (pe_lst (pa_cons (pe_k (E := fun _ => E0) c__law_told hr (by omega) (by rfl) at0 (pa_cons pe_int (pa_cons (pe_tup (pa_cons (pv 14) (pa_cons pe_int pa_nil))) pa_nil))) (pa_cons (pe_k (E := fun _ => E0) c__law_told hr (by omega) (by rfl) at0 (pa_cons pe_int (pa_cons (pe_tup (pa_cons (pv 3) (pa_cons (pv 14) pa_nil))) pa_nil))) (pa_cons (pe_k (E := fun _ => E0) c__law_told hr (by omega) (by rfl) at0 (pa_cons pe_int (pa_cons (pe_tup (pa_cons (pv 3) (pa_cons pe_int pa_nil))) pa_nil))) (pa_cons (pe_k (E := fun _ => E0) c__law_told hr (by omega) (by rfl) at0 (pa_cons pe_int (pa_cons (pe_tup (pa_cons (pv 3) (pa_cons pe_int pa_nil))) pa_nil))) pa_nil)))))))
      (C8.pss_cut (ps_set (i := 15) sc_law.nd rfl (Or.inl rfl) (pe_op op_cat (pv 15) (pe_lst (pa_cons (pe_k (E := fun _ => E0) c__law_told hr (by omega) (by rfl) at0 (pa_cons pe_int (pa_cons (pe_tup (pa_cons (pv 14) (pa_cons pe_int (pa_cons pe_int pa_nil)))) pa_nil))) (pa_cons (pe_k (E := fun _ => E0) c__law_told hr (by omega) (by rfl) at0 (pa_cons pe_int (pa_cons (pe_tup (pa_cons (pv 3) (pa_cons (pv 14) (pa_cons pe_int pa_nil)))) pa_nil))) (pa_cons (pe_k (E := fun _ => E0) c__law_told hr (by omega) (by rfl) at0 (pa_cons pe_int (pa_cons (pe_tup (pa_cons (pv 3) (pa_cons pe_int (pa_cons (pv 14) pa_nil)))) pa_nil))) pa_nil))))))
      (C8.pss_cut (ps_set (i := 15) sc_law.nd rfl (Or.inl rfl) (pe_op op_cat (pv 15) (pe_lst (pa_cons (pe_k (E := fun _ => E0) c__law_told hr (by omega) (by rfl) at0 (pa_cons pe_int (pa_cons (pe_tup (pa_cons (pe_un un_neg pe_int) pa_nil)) pa_nil))) (pa_cons (pe_k (E := fun _ => E0) c__law_told hr (by omega) (by rfl) at0 (pa_cons pe_int (pa_cons (pe_tup (pa_cons pe_int pa_nil)) pa_nil))) (pa_cons (pe_k (E := fun _ => E0) c__law_told hr (by omega) (by rfl) at0 (pa_cons pe_int (pa_cons (pe_tup (pa_cons (pe_un un_neg pe_int) pa_nil)) pa_nil))) (pa_cons (pe_k (E := fun _ => E0) c__law_told hr (by omega) (by rfl) at0 (pa_cons pe_int (pa_cons (pe_tup (pa_cons pe_int pa_nil)) pa_nil))) pa_nil)))))))
      (pss_one (ps_if (PW.pt (pw_or (pt_cmpR (op_neD hr.units) (pv 13) (pe_op op_rep (pe_lst (pa_cons pe_str pa_nil)) pe_int) (nomark _)) (pw_or1 (pt_cmpR (op_neD hr.units) (pv 15) (pe_op op_rep (pe_lst (pa_cons pe_str pa_nil)) pe_int) (nomark _))))) (pss_one (ps_ret pe_bl)) pss_nil)))))))))))))))))))))
      (C8.pss_cut (ps_set (i := 8) sc_law.nd rfl (Or.inl rfl) (pe_lst (pa_cons (pe_k (E := fun _ => E0) c_date_of hr (by omega) (by rfl) atL (pa_cons pe_int pa_nil)) (pa_cons (pe_k (E := fun _ => E0) c_day_of hr (by omega) (by rfl) atL (pa_cons pe_int (pa_cons pe_int (pa_cons pe_int pa_nil)))) (pa_cons (pe_k (E := fun _ => E0) c_week_day hr (by omega) (by rfl) atL (pa_cons pe_int pa_nil)) (pa_cons (pe_k (E := fun _ => E0) c_is_leap hr (by omega) (by rfl) atL (pa_cons (pe_un un_neg pe_int) pa_nil)) (pa_cons (pe_k (E := fun _ => E0) c_is_leap hr (by omega) (by rfl) atL (pa_cons (pe_un un_neg pe_int) pa_nil)) (pa_cons (pe_k (E := fun _ => E0) c_length_of_month hr (by omega) (by rfl) atL (pa_cons pe_int (pa_cons pe_int pa_nil))) (pa_cons (pe_k (E := fun _ => E0) c_length_of_month hr (by omega) (by rfl) atL (pa_cons pe_int (pa_cons pe_int pa_nil))) pa_nil)))))))))
      (pss_one (ps_ret (pe_k (E := fun _ => E0) c__law_same hr (by omega) (by rfl) at0 (pa_cons (pv 8) (pa_cons (pe_lst (pa_cons (pe_k (E := fun _ => E0) c__law_named hr (by omega) (by rfl) at0 (pa_cons pe_int pa_nil)) (pa_cons (pe_k (E := fun _ => E0) c__law_counted hr (by omega) (by rfl) at0 (pa_cons pe_int (pa_cons pe_int (pa_cons pe_int pa_nil)))) (pa_cons pe_int (pa_cons pe_bl (pa_cons pe_bl (pa_cons pe_int (pa_cons pe_int pa_nil)))))))) pa_nil)))))))), ?_⟩
  refine ⟨fun σ H' => ∃ p, L0 K a p σ H', ⟨_, rfl, a, ns, rfl, hS, hl, fun H' p ds s1 np hd => ⟨p, ds, none, none, none, none, none, none, none, none, none, none, none, none, none, none, none, rfl, hd, trivial⟩⟩, ?_⟩
  rintro σ0 H0 ⟨p, h0⟩
  refine ⟨L0 K a p, ?LOOP, ?END⟩
  case END =>
    clear h0
    rintro σ H1 ⟨ds, w2, w3, w4, w5, w6, w7, w8, w9, w10, w11, w12, w13, w14, w15, w16, rfl, hD, _⟩
    refine ⟨fun σ' H2 => ∃ (w2 w3 w4 w5 w6 w7 w9 w10 w11 w12 w13 w14 w15 w16 : Option V) (g : Addr) (y m d : Int), σ' = [some (.ref a), some (.ref p), w2, w3, w4, w5, w6, w7, some (.ref g), w9, w10, w11, w12, w13, w14, w15, w16] ∧ IsD 200000 y m d ∧ Dp K H2 (.ref g) (.list [.tuple [.int y, .int m, .int d], .int (num 2026 11 19), .int 5, .bool true, .bool false, .int 28, .int 29]), ?_, ?_⟩
    · refine ⟨_, _, rfl, .int _, fun n en h0 h1 H2 t y m d hI s2 et => ?_, fun c => absurd c (by decide)⟩
      cases en
      refine ⟨_, _, _, _, _, _, rfl, .int _, .int _, .int _, fun y2 m2 d2 e1 e2 e3 => ⟨fun ok h0 h1 H3 s3 => ?_, fun hno => ?_⟩, fun c => absurd c (by decide)⟩
      case refine_2 =>
        cases e1
        cases e2
        cases e3
        exact absurd ⟨⟨⟨by decide, by decide⟩, by decide, by decide⟩, by decide, by decide⟩ hno
      cases e1
      cases e2
      cases e3
      refine ⟨_, _, rfl, .int _, fun n en h0 h1 => ?_, fun c => absurd c (by decide)⟩
      cases en
      refine ⟨_, rfl, _, _, rfl, .int _, fun y4 ey => ?_, fun c => absurd c (by decide)⟩
      cases ey
      refine ⟨_, rfl, _, _, rfl, .int _, fun y4 ey => ?_, fun c => absurd c (by decide)⟩
      cases ey
      refine ⟨_, _, _, _, rfl, .int _, .int _, fun y4 m4 e1 e2 h1 h2 => ?_, fun c => absurd c (by decide)⟩
      cases e1
      cases e2
      refine ⟨_, _, _, _, rfl, .int _, .int _, fun y4 m4 e1 e2 h1 h2 => ?_, fun c => absurd c (by decide)⟩
      cases e1
      cases e2
      refine ⟨by show 7 ≤ sizeLine; decide, fun g ng => ?_⟩
      refine ⟨_, _, _, _, _, _, _, _, _, _, _, _, _, _, g, y, m, d, rfl, hI, ?_⟩
      exact dp_lst (.cons (.tup (SqT.of (s3 _ _ et)) (.cons (.int _) (.cons (.int _) (.cons (.int _) .nil)))) (.cons (.int _) (.cons (.int 5) (.cons (.bl true) (.cons (.bl false) (.cons (.int 28) (.cons (.int 29) .nil))))))) ng
    · rintro σ H2 ⟨w2, w3, w4, w5, w6, w7, w9, w10, w11, w12, w13, w14, w15, w16, g, y, m, d, rfl, hI, hg⟩
      refine ⟨_, rfl, 200000, rfl, ⟨by decide, by decide⟩, fun H3 t y2 m2 d2 hI2 s3 et => ?_⟩
      obtain ⟨u1, u2, u3⟩ := hI.uniq hI2
      subst u1 u2 u3
      refine ⟨2026, 11, 19, rfl, ⟨by decide, by decide⟩, ⟨by decide, by decide⟩, fun H4 s4 => ⟨by show 7 ≤ sizeLine; decide, fun o no => ?_⟩⟩
      refine ⟨_, _, _, rfl, XK.Dp.mono ((s3.trans s4).trans (XK.same_upd no)) hg, dp_lst (.cons (.tup (SqT.of (s4 _ _ et)) (.cons (.int _) (.cons (.int _) (.cons (.int _) .nil)))) (.cons (.int _) (.cons (.int 5) (.cons (.bl true) (.cons (.bl false) (.cons (.int 28) (.cons (.int 29) .nil))))))) no, rfl, fun H5 s5 => q H5⟩
  obtain ⟨ds, w2, w3, w4, w5, w6, w7, w8, w9, w10, w11, w12, w13, w14, w15, w16, rfl, hD, _⟩ := h0
  refine ⟨30, rfl, by decide, by decide, for_range (lo := 0) (n := 30) (fun i σ H' => L0 K a p σ H') ⟨ds, _, _, _, _, _, _, _, _, _, _, _, _, _, _, _, rfl, hD, trivial⟩ ?_ (fun σ H' h => h)⟩
  rintro i σ H1 hi ⟨ds, w2, w3, w4, w5, w6, w7, w8, w9, w10, w11, w12, w13, w14, w15, w16, rfl, hD, _⟩
  have rt : ∀ {b : Bool} {H1 : Hp}, b = true → Q (.bl b) H1 := fun {b H1} e => e ▸ q H1
  -- year
  refine ⟨L1 K a p, ?_, ?_⟩
  · refine ⟨_, rfl, _, rfl, p, 548, _, rfl, by decide, hD, fun r1 ds1 a0 a1 => ⟨_, _, rfl, rfl, ?_⟩⟩
    refine ⟨_, rfl, p, 130, _, rfl, by decide, dr_upd, fun r2 ds2 b0 b1 => ⟨_, _, rfl, rfl, .inl ⟨by decide, by decide⟩, _, _, rfl, rfl, by show 9 ≤ sizeLine; decide, fun o no => ?_⟩⟩
    refine ⟨p, o, ds2, _, rfl, dr_same dr_upd (XK.same_upd no), SqL.of upd_same, (ne_of_none dr_upd no).symm, by show 0 < 9; decide, fun x ds3 hx => ?_⟩
    obtain ⟨y, rfl, hy⟩ : ∃ y : Int, x = .int y ∧ (1600 ≤ y ∧ y ≤ 2147) := by
      simp only [List.mem_cons, List.not_mem_nil, or_false] at hx
      rcases hx with rfl | rfl | rfl | rfl | rfl | rfl | rfl | rfl | rfl <;> exact ⟨_, rfl, by omega, by omega⟩
    exact ⟨ds3, _, _, _, _, _, _, _, _, _, _, _, _, _, _, y, rfl, dr_upd, hy⟩
  rintro σ H1 ⟨ds, w2, w4, w5, w6, w7, w8, w9, w10, w11, w12, w13, w14, w15, w16, y, rfl, hD, hy⟩
  -- month
  refine ⟨L2m K a p, ?_, ?_⟩
  · refine ⟨_, rfl, p, 12, _, rfl, by decide, hD, fun r ds1 a0 a1 => ⟨_, _, rfl, rfl, ?_⟩⟩
    exact ⟨ds1, _, _, _, _, _, _, _, _, _, _, _, _, _, y, (1 + r), rfl, dr_upd, hy, ⟨by omega, by omega⟩⟩
  rintro σ H1 ⟨ds, w2, w5, w6, w7, w8, w9, w10, w11, w12, w13, w14, w15, w16, y, m, rfl, hD, hy, hm⟩
  -- size
  refine ⟨L3 K a p, ?_, ?_⟩
  · refine ⟨_, rfl, _, rfl, y, m, rfl, hm, fun H2 s2 => ?_⟩
    exact ⟨ds, _, _, _, _, _, _, _, _, _, _, _, _, y, m, rfl, dr_same hD s2, hy, hm⟩
  rintro σ H1 ⟨ds, w2, w6, w7, w8, w9, w10, w11, w12, w13, w14, w15, w16, y, m, rfl, hD, hy, hm⟩
  -- day
  refine ⟨L4 K a p, ?_, ?_⟩
  · have lp := len_pos y m
    refine ⟨_, rfl, _, rfl, _, rfl, _, rfl, p, len y m, _, rfl, by omega, hD, fun r ds1 a0 a1 => ⟨_, _, rfl, rfl, by show 3 ≤ sizeLine; decide, fun o no => ?_⟩⟩
    refine ⟨p, o, ds1, _, rfl, dr_same dr_upd (XK.same_upd no), SqL.of upd_same, (ne_of_none dr_upd no).symm, by show 0 < 3; decide, fun x ds3 hx => ?_⟩
    obtain ⟨d, rfl, hd⟩ : ∃ d : Int, x = .int d ∧ (1 ≤ d ∧ d ≤ len y m) := by
      simp only [List.mem_cons, List.not_mem_nil, or_false] at hx
      rcases hx with rfl | rfl | rfl <;> exact ⟨_, rfl, by omega, by omega⟩
    exact ⟨ds3, _, _, _, _, _, _, _, _, _, _, _, y, m, d, rfl, dr_upd, hy, hm, hd⟩
  rintro σ H1 ⟨ds, w2, w7, w8, w9, w10, w11, w12, w13, w14, w15, w16, y, m, d, rfl, hD, hy, hm, hd⟩
  -- number
  refine ⟨L5 K a p, ?_, ?_⟩
  · refine ⟨_, rfl, _, rfl, _, rfl, y, m, d, rfl, ⟨hy.1, by omega⟩, hm, fun H2 s2 => ?_⟩
    exact ⟨ds, _, _, _, _, _, _, _, _, _, _, y, m, d, rfl, dr_same hD s2, hy, hm, hd⟩
  rintro σ H1 ⟨ds, w2, w8, w9, w10, w11, w12, w13, w14, w15, w16, y, m, d, rfl, hD, hy, hm, hd⟩
  -- got
  refine ⟨L6 K a p, ?_, ?_⟩
  · refine rd_told (xs := [.int y]) (ds := [.int y]) (fun Q' h => h) (fun Q' h => ⟨_, rfl, h⟩) (.cons (.int _) .nil) (.inl ⟨.inl rfl, rfl⟩) fun r1 x1 H2 t1 s2 d1 => ?_
    refine rd_told (xs := [.int y, .int m]) (ds := [.int y, .int m]) (fun Q' h => h) (fun Q' h => ⟨_, rfl, _, rfl, h⟩) (.cons (.int _) (.cons (.int _) .nil)) (.inr (.inl ⟨rfl, rfl⟩)) fun r2 x2 H3 t2 s3 d2 => ?_
    refine rd_told (xs := [.int y, .int m, .int d]) (ds := [.int y, .int m, .int d]) (fun Q' h => h) (fun Q' h => ⟨_, rfl, _, rfl, _, rfl, h⟩) (.cons (.int _) (.cons (.int _) (.cons (.int _) .nil))) (.inr (.inr ⟨rfl, rfl⟩)) fun r3 x3 H4 t3 s4 d3 => ?_
    refine ⟨by show 3 ≤ sizeLine; decide, fun g ng => ?_⟩
    have e1 := told0 t1
    have e2 := told3 hm.1 hm.2 t2
    have ok : okD y m d := ⟨hm, hd⟩
    have nn : 0 ≤ num y m d := IsD.nonneg ⟨hy.1, hm.1, hm.2, hd.1, hd.2, rfl⟩
    have e3 : r3 = if num y m d ≤ 200000 then .int (num y m d) else R3 := by
      rcases told4 t3 with ⟨_, _, c, e⟩ | ⟨c, e⟩
      · rw [if_pos c, e]
      · rw [if_neg (fun z => c ⟨ok, nn, z⟩), e]
    rw [e1] at d1
    rw [e2] at d2
    rw [e3] at d3
    exact ⟨ds, _, _, _, _, _, _, _, _, _, y, m, d, g, rfl, dr_same hD (((s2.trans s3).trans s4).trans (XK.same_upd ng)), hy, hm, hd, dp_lst (.cons (XK.Dp.mono (s3.trans s4) d1) (.cons (XK.Dp.mono s4 d2) (.cons d3 .nil))) ng⟩
  rintro σ H1 ⟨ds, w2, w9, w10, w11, w12, w13, w14, w15, w16, y, m, d, g, rfl, hD, hy, hm, hd, hg⟩
  -- the first test
  refine ⟨L3 K a p, ?_, ?_⟩
  · have go : ∀ v : V, Dp K H1 v (if num y m d ≤ 200000 then .int (num y m d) else R3) → ∀ o, H1 o = none → Dp K (upd H1 o (.lst [.bl (leap y), .int (len y m), v])) (.ref o) (.list [.bool (leap y), .int (len y m), if num y m d ≤ 200000 then .int (num y m d) else R3]) := fun v hv o no =>
      dp_lst (.cons (.bl _) (.cons (.int _) (.cons hv .nil))) no
    have dp : dep 4 (.list [.bool (leap y), .int (len y m), if num y m d ≤ 200000 then .int (num y m d) else R3]) = true := by
      by_cases c : num y m d ≤ 200000
      · rw [if_pos c]
        rfl
      · rw [if_neg c]
        rfl
    refine ⟨_, rfl, _, rfl, y, rfl, _, rfl, _, rfl, _, _, rfl, rfl, _, rfl, ite2 (fun c => ?_) (fun c => ?_)⟩
    · refine ⟨_, rfl, by show 3 ≤ sizeLine; decide, fun o no => ?_⟩
      have hv : Dp K H1 (.int (num y m d)) (if num y m d ≤ 200000 then .int (num y m d) else R3) := by
        rw [if_pos (of_decide_eq_true c)]
        exact .int _
      refine ⟨_, _, _, rfl, XK.Dp.mono (XK.same_upd no) hg, go _ hv o no, dp, fun H2 s2 => ⟨_, rfl, ?_⟩⟩
      exact ⟨ds, _, _, _, _, _, _, _, _, _, _, _, _, y, m, rfl, dr_same hD ((XK.same_upd no).trans s2), hy, hm⟩
    · refine ⟨by show 3 ≤ sizeLine; decide, fun o no => ?_⟩
      have hv : Dp K H1 (.str "refused 3") (if num y m d ≤ 200000 then .int (num y m d) else R3) := by
        rw [if_neg (fun z => c (decide_eq_true z))]
        exact .str _
      refine ⟨_, _, _, rfl, XK.Dp.mono (XK.same_upd no) hg, go _ hv o no, dp, fun H2 s2 => ⟨_, rfl, ?_⟩⟩
      exact ⟨ds, _, _, _, _, _, _, _, _, _, _, _, _, y, m, rfl, dr_same hD ((XK.same_upd no).trans s2), hy, hm⟩
  rintro σ H1 ⟨ds, w2, w6, w7, w8, w9, w10, w11, w12, w13, w14, w15, w16, y, m, rfl, hD, hy, hm⟩
  -- another number
  refine ⟨L8 K a p, ?_, ?_⟩
  · refine ⟨_, rfl, _, rfl, p, 200001, _, rfl, by decide, hD, fun r ds1 a0 a1 => ⟨by show 9 ≤ sizeLine; decide, fun o no => ?_⟩⟩
    refine ⟨p, o, ds1, _, rfl, dr_same dr_upd (XK.same_upd no), SqL.of upd_same, (ne_of_none dr_upd no).symm, by show 0 < 9; decide, fun x ds3 hx => ?_⟩
    obtain ⟨n, rfl, hn⟩ : ∃ n : Int, x = .int n ∧ (0 ≤ n ∧ n ≤ 200000) := by
      simp only [List.mem_cons, List.not_mem_nil, or_false] at hx
      rcases hx with rfl | rfl | rfl | rfl | rfl | rfl | rfl | rfl | rfl <;> exact ⟨_, rfl, by omega, by omega⟩
    exact ⟨ds3, _, _, _, _, _, _, _, _, _, _, _, y, m, n, rfl, dr_upd, hy, hm, hn⟩
  rintro σ H1 ⟨ds, w2, w6, w8, w9, w10, w11, w12, w13, w14, w15, w16, y, m, n, rfl, hD, hy, hm, hn⟩
  -- its date
  refine ⟨L9 K a p, ?_, ?_⟩
  · refine ⟨_, rfl, n, rfl, hn, fun H2 g y2 m2 d2 hI s2 eg => ?_⟩
    exact ⟨ds, _, _, _, _, _, _, _, _, _, _, y, m, n, g, y2, m2, d2, rfl, dr_same hD s2, hy, hm, hn, hI, SqT.of eg⟩
  rintro σ H1 ⟨ds, w2, w6, w8, w10, w11, w12, w13, w14, w15, w16, y, m, n, g, y2, m2, d2, rfl, hD, hy, hm, hn, hI, hT⟩
  -- the second test
  refine ⟨L9 K a p, ?_, ?_⟩
  · refine rd_told (xs := [.int n]) (ds := [.int n]) (fun Q' h => h) (fun Q' h => ⟨_, rfl, h⟩) (.cons (.int _) .nil) (.inl ⟨.inr (.inl rfl), rfl⟩) fun r1 x1 H2 t1 s2 e1 => ?_
    refine rd_told (xs := [.int n]) (ds := [.int n]) (fun Q' h => h) (fun Q' h => ⟨_, rfl, h⟩) (.cons (.int _) .nil) (.inl ⟨.inr (.inr rfl), rfl⟩) fun r2 x2 H3 t2 s3 e2 => ?_
    refine ⟨_, rfl, 4, g, [.int y2, .int m2, .int d2], [.int y2, .int m2, .int d2], rfl, seqT (s2.trans s3) hT, .cons (.int _) (.cons (.int _) (.cons (.int _) .nil)), .inr (.inr ⟨rfl, rfl⟩), fun r3 x3 H4 t3 s4 e3 => ?_⟩
    refine ⟨by show 3 ≤ sizeLine; decide, fun o no => ?_⟩
    obtain ⟨y3, m3, d3, hI3, er1⟩ := told1 hn.1 hn.2 t1
    obtain ⟨u1, u2, u3⟩ := hI.uniq hI3
    subst u1 u2 u3
    have er2 := told2 hn.1 hn.2 t2
    have er3 : r3 = .int n := by
      rcases told4 t3 with ⟨_, _, _, e⟩ | ⟨c, _⟩
      · rw [e, hI.e]
      · exact absurd ⟨⟨⟨hI.m1, hI.m2⟩, hI.d1, hI.d2⟩, by rw [hI.e]; exact hn.1, by rw [hI.e]; exact hn.2⟩ c
    rw [er1] at e1
    rw [er2] at e2
    rw [er3] at e3
    have w1 := dp_lst (.cons (XK.Dp.mono (s3.trans s4) e1) (.cons (XK.Dp.mono s4 e2) (.cons e3 .nil))) no
    have sA := ((s2.trans s3).trans s4).trans (XK.same_upd (o := .lst [x1, x2, x3]) no)
    refine ⟨_, rfl, _, rfl, _, _, rfl, rfl, .inl ⟨_, rfl, _, _, rfl, rfl, (by show (0 : Int) < 7; decide), _, rfl, by show 3 ≤ sizeLine; decide, fun o2 no2 => ?_⟩⟩
    have w2 := dp_lst (K := K) (.cons (.tup (seqT sA hT) (.cons (.int y2) (.cons (.int m2) (.cons (.int d2) .nil)))) (.cons (.int ((n + 5) % 7)) (.cons (.int n) .nil))) no2
    refine ⟨_, _, _, rfl, XK.Dp.mono (XK.same_upd no2) w1, w2, rfl, fun H5 s5 => ⟨_, rfl, ?_⟩⟩
    have sB := (sA.trans (XK.same_upd no2)).trans s5
    exact ⟨ds, _, _, _, _, _, _, _, _, _, _, y, m, n, g, y2, m2, d2, rfl, dr_same hD sB, hy, hm, hn, hI, seqT sB hT⟩
  rintro σ H1 ⟨ds, w2, w6, w8, w10, w11, w12, w13, w14, w15, w16, y, m, n, g, y2, m2, d2, rfl, hD, hy, hm, hn, hI, hT⟩
  -- the day behind
  refine ⟨L3 K a p, ?_, ?_⟩
  · refine ⟨_, rfl, _, _, rfl, rfl, _, rfl, ite2 (fun c => ?_) (fun c => ⟨ds, _, _, _, _, _, _, _, _, _, _, _, _, y, m, rfl, hD, hy, hm⟩)⟩
    have hn2 : n < 200000 := of_decide_eq_true c
    refine ⟨LA K a p, ?_, ?_⟩
    · refine rd_told (xs := [.int (n + 1)]) (ds := [.int (n + 1)]) (fun Q' h => h) (fun Q' h => ⟨_, rfl, _, _, rfl, rfl, h⟩) (.cons (.int _) .nil) (.inl ⟨.inr (.inl rfl), rfl⟩) fun r1 x1 H2 t1 s2 e1 => ?_
      obtain ⟨y3, m3, d3, hI3, er1⟩ := told1 (by omega) (by omega) t1
      rw [er1] at e1
      exact ⟨ds, _, _, _, _, _, _, _, _, _, y, m, n, g, y2, m2, d2, y3, m3, d3, x1, rfl, dr_same hD s2, hy, hm, ⟨hn.1, hn2⟩, hI, seqT s2 hT, hI3, e1⟩
    rintro σ H1 ⟨ds, w2, w6, w8, w11, w12, w13, w14, w15, w16, y, m, n, g, y2, m2, d2, y3, m3, d3, l, rfl, hD, hy, hm, hn, hI, hT, hI3, hL⟩
    refine ⟨LB K a p, ?_, ?_⟩
    · refine ⟨_, rfl, g, _, 2, _, rfl, rfl, hT, atI_nat (j := 2) rfl, ?_⟩
      refine ⟨_, rfl, g, _, 0, _, rfl, rfl, hT, atI_nat (j := 0) rfl, _, rfl, g, _, 1, _, rfl, rfl, hT, atI_nat (j := 1) rfl, y2, m2, rfl, ⟨hI.m1, hI.m2⟩, fun H2 s2 => ⟨_, _, rfl, rfl, ?_⟩⟩
      exact ⟨ds, _, _, _, _, _, _, _, _, y, m, n, g, y2, m2, d2, y3, m3, d3, l, rfl, dr_same hD s2, hy, hm, hn, hI, seqT s2 hT, hI3, XK.Dp.mono s2 hL⟩
    rintro σ H1 ⟨ds, w2, w6, w8, w12, w13, w14, w15, w16, y, m, n, g, y2, m2, d2, y3, m3, d3, l, rfl, hD, hy, hm, hn, hI, hT, hI3, hL⟩
    refine ⟨LC K a p, ?_, ?_⟩
    · obtain ⟨nx1, nx2, nx3⟩ := hI.next
      refine ⟨_, rfl, _, rfl, ite2 (fun c => ?_) (fun c => ?_)⟩
      · have c1 := of_decide_eq_true c
        obtain ⟨u1, u2, u3⟩ := (nx1 c1).uniq hI3
        subst u1 u2 u3
        refine ⟨_, rfl, g, _, 0, _, rfl, rfl, hT, atI_nat (j := 0) rfl, _, rfl, g, _, 1, _, rfl, rfl, hT, atI_nat (j := 1) rfl, _, rfl, g, _, 2, _, rfl, rfl, hT, atI_nat (j := 2) rfl, _, _, rfl, rfl, by show 3 ≤ sizeLine; decide, fun o no => ?_⟩
        exact ⟨ds, _, _, _, _, _, _, _, y, m, n, g, y2, m2, d2, _, _, _, l, _, rfl, dr_same hD (XK.same_upd no), hy, hm, hn, hI, seqT (XK.same_upd no) hT, hI3, XK.Dp.mono (XK.same_upd no) hL, dp_tup (.cons (.int _) (.cons (.int _) (.cons (.int _) .nil))) no⟩
      · have c1 : ¬ d2 < len y2 m2 := fun z => c (decide_eq_true z)
        refine ⟨_, rfl, g, _, 1, _, rfl, rfl, hT, atI_nat (j := 1) rfl, _, _, rfl, rfl, _, rfl, ite2 (fun k => ?_) (fun k => ?_)⟩
        · have k1 := of_decide_eq_true k
          obtain ⟨u1, u2, u3⟩ := (nx2 c1 k1).uniq hI3
          subst u1 u2 u3
          refine ⟨_, rfl, g, _, 0, _, rfl, rfl, hT, atI_nat (j := 0) rfl, _, rfl, g, _, 1, _, rfl, rfl, hT, atI_nat (j := 1) rfl, _, _, rfl, rfl, by show 3 ≤ sizeLine; decide, fun o no => ?_⟩
          exact ⟨ds, _, _, _, _, _, _, _, y, m, n, g, y2, m2, d2, _, _, _, l, _, rfl, dr_same hD (XK.same_upd no), hy, hm, hn, hI, seqT (XK.same_upd no) hT, hI3, XK.Dp.mono (XK.same_upd no) hL, dp_tup (.cons (.int _) (.cons (.int _) (.cons (.int _) .nil))) no⟩
        · have k1 : ¬ m2 < 12 := fun z => k (decide_eq_true z)
          obtain ⟨u1, u2, u3⟩ := (nx3 c1 k1).uniq hI3
          subst u1 u2 u3
          refine ⟨_, rfl, g, _, 0, _, rfl, rfl, hT, atI_nat (j := 0) rfl, _, _, rfl, rfl, by show 3 ≤ sizeLine; decide, fun o no => ?_⟩
          exact ⟨ds, _, _, _, _, _, _, _, y, m, n, g, y2, m2, d2, _, _, _, l, _, rfl, dr_same hD (XK.same_upd no), hy, hm, hn, hI, seqT (XK.same_upd no) hT, hI3, XK.Dp.mono (XK.same_upd no) hL, dp_tup (.cons (.int _) (.cons (.int _) (.cons (.int _) .nil))) no⟩
    rintro σ H1 ⟨ds, w2, w6, w8, w13, w14, w15, w16, y, m, n, g, y2, m2, d2, y3, m3, d3, l, u, rfl, hD, hy, hm, hn, hI, hT, hI3, hL, hU⟩
    refine ⟨_, rfl, _, rfl, l, u, _, rfl, hL, hU, rfl, fun H2 s2 => ⟨_, rfl, ?_⟩⟩
    refine rd_told (xs := [.int (n + 1)]) (ds := [.int (n + 1)]) (fun Q' h => h) (fun Q' h => ⟨_, rfl, _, _, rfl, rfl, h⟩) (.cons (.int _) .nil) (.inl ⟨.inr (.inr rfl), rfl⟩) fun r1 x1 H3 t1 s3 e1 => ?_
    refine rd_told (xs := [.int n]) (ds := [.int n]) (fun Q' h => h) (fun Q' h => ⟨_, rfl, h⟩) (.cons (.int _) .nil) (.inl ⟨.inr (.inr rfl), rfl⟩) fun r2 x2 H4 t2 s4 e2 => ?_
    rw [told2 (by omega) (by omega) t1] at e1
    rw [told2 (by omega) (by omega) t2] at e2
    rw [int_of e1, int_of e2]
    have e0 : ((n + 1 + 5) % 7 - (n + 5) % 7 - 1) % 7 = 0 := by omega
    refine ⟨_, _, rfl, rfl, _, _, rfl, rfl, .inl ⟨_, rfl, _, _, rfl, rfl, (by show (0 : Int) < 7; decide), rfl, _, rfl, ite2 (fun c => ?_) (fun _ => ?_)⟩⟩
    · have c2 : (!decide (V.int (((n + 1 + 5) % 7 - (n + 5) % 7 - 1) % 7) = V.int 0)) = true := c
      rw [decide_eq_true (congrArg V.int e0)] at c2
      cases c2
    exact ⟨ds, _, _, _, _, _, _, _, _, _, _, _, _, y, m, rfl, dr_same hD ((s2.trans s3).trans s4), hy, hm⟩
  rintro σ H1 ⟨ds, w2, w6, w7, w8, w9, w10, w11, w12, w13, w14, w15, w16, y, m, rfl, hD, hy, hm⟩
  -- what is no date
  refine ⟨L12 K a p, ?_, ?_⟩
  · have lp := len_pos y m
    refine rd_told (xs := [.int y, .int 13, .int 1]) (ds := [.int y, .int 13, .int 1]) (fun Q' h => h) (fun Q' h => ⟨_, rfl, h⟩) (.cons (.int _) (.cons (.int _) (.cons (.int _) .nil))) (.inr (.inr ⟨rfl, rfl⟩)) fun r1 x1 G1 t1 s1 e1 => ?_
    refine rd_told (xs := [.int y, .int 0, .int 1]) (ds := [.int y, .int 0, .int 1]) (fun Q' h => h) (fun Q' h => ⟨_, rfl, h⟩) (.cons (.int _) (.cons (.int _) (.cons (.int _) .nil))) (.inr (.inr ⟨rfl, rfl⟩)) fun r2 x2 G2 t2 s2 e2 => ?_
    refine rd_told (xs := [.int y, .int m, .int 0]) (ds := [.int y, .int m, .int 0]) (fun Q' h => h) (fun Q' h => ⟨_, rfl, _, rfl, h⟩) (.cons (.int _) (.cons (.int _) (.cons (.int _) .nil))) (.inr (.inr ⟨rfl, rfl⟩)) fun r3 x3 G3 t3 s3 e3 => ?_
    refine rd_told (xs := [.int y, .int m, .int (len y m + 1)]) (ds := [.int y, .int m, .int (len y m + 1)]) (fun Q' h => h) (fun Q' h => ⟨_, rfl, _, rfl, _, rfl, _, _, rfl, rfl, h⟩) (.cons (.int _) (.cons (.int _) (.cons (.int _) .nil))) (.inr (.inr ⟨rfl, rfl⟩)) fun r4 x4 G4 t4 s4 e4 => ?_
    refine ⟨by show 4 ≤ sizeLine; decide, fun g ng => ?_⟩
    rw [told4n (fun z => absurd z.1.1.2 (by decide)) t1] at e1
    rw [told4n (fun z => absurd z.1.1.1 (by decide)) t2] at e2
    rw [told4n (fun z => absurd z.1.2.1 (by decide)) t3] at e3
    rw [told4n (fun z => absurd z.1.2.2 (by omega)) t4] at e4
    rw [v3_of e1, v3_of e2, v3_of e3, v3_of e4] at *
    exact ⟨ds, _, _, _, _, _, _, _, _, _, _, _, y, m, g, rfl, dr_same hD ((((s1.trans s2).trans s3).trans s4).trans (XK.same_upd ng)), hy, hm, upd_same⟩
  rintro σ H1 ⟨ds, w2, w6, w7, w8, w9, w10, w11, w12, w14, w15, w16, y, m, g, rfl, hD, hy, hm, hg⟩
  refine ⟨L13 K a p, ?_, ?_⟩
  · refine ⟨_, rfl, ?_⟩
    refine rd_told (xs := [.int 1599, .int 12, .int 31]) (ds := [.int 1599, .int 12, .int 31]) (fun Q' h => h) (fun Q' h => h) (.cons (.int _) (.cons (.int _) (.cons (.int _) .nil))) (.inr (.inr ⟨rfl, rfl⟩)) fun r1 x1 G1 t1 s1 e1 => ?_
    refine rd_told (xs := [.int 2148, .int 1, .int 1]) (ds := [.int 2148, .int 1, .int 1]) (fun Q' h => h) (fun Q' h => h) (.cons (.int _) (.cons (.int _) (.cons (.int _) .nil))) (.inr (.inr ⟨rfl, rfl⟩)) fun r2 x2 G2 t2 s2 e2 => ?_
    refine rd_told (xs := [.int (-5), .int 1, .int 1]) (ds := [.int (-5), .int 1, .int 1]) (fun Q' h => h) (fun Q' h => ⟨_, rfl, h⟩) (.cons (.int _) (.cons (.int _) (.cons (.int _) .nil))) (.inr (.inr ⟨rfl, rfl⟩)) fun r3 x3 G3 t3 s3 e3 => ?_
    refine ⟨by show 3 ≤ sizeLine; decide, fun o no => ?_⟩
    rw [told4n (fun z => absurd z.2.1 (by decide)) t1] at e1
    rw [told4n (fun z => absurd z.2.2 (by decide)) t2] at e2
    rw [told4n (fun z => absurd z.2.1 (by decide)) t3] at e3
    rw [v3_of e1, v3_of e2, v3_of e3] at *
    have sA := ((s1.trans s2).trans s3).trans (XK.same_upd (o := .lst [v3, v3, v3]) no)
    refine ⟨g, o, _, _, rfl, rfl, sA _ _ hg, upd_same, by show 4 + 3 ≤ sizeLine; decide, fun o2 no2 => ?_⟩
    exact ⟨ds, _, _, _, _, _, _, _, _, _, _, _, y, m, o2, rfl, dr_same hD (sA.trans (XK.same_upd no2)), hy, hm, upd_same⟩
  rintro σ H1 ⟨ds, w2, w6, w7, w8, w9, w10, w11, w12, w14, w15, w16, y, m, g, rfl, hD, hy, hm, hg⟩
  -- what is none
  refine ⟨L14 K a p, ?_, ?_⟩
  · refine ⟨_, rfl, by show 1 ≤ sizeLine; decide, fun o1 no1 => ⟨by show 1 ≤ sizeLine; decide, fun o2 no2 => ⟨by show 5 ≤ sizeLine; decide, fun o no => ?_⟩⟩⟩
    have s1 : Same H1 (upd H1 o1 (.tup [.int 1])) := XK.same_upd no1
    have s2 : Same (upd H1 o1 (.tup [.int 1])) _ := XK.same_upd (o := .lst [.int 1]) no2
    have s3 := XK.same_upd (o := .lst [.non, .str "1", .ref o1, .bl true, .ref o2]) no
    have sA := (s1.trans s2).trans s3
    have hDA := dr_same hD sA
    have nep : ∀ {b : Addr} {u : HO}, H1 b = none → b ≠ p := fun {b u} h z => by
      rw [z, show H1 p = _ from hD] at h
      cases h
    have n1 : o1 ≠ p := (ne_of_none hD no1).symm
    have n2 : o2 ≠ p := (ne_of_none (dr_same hD s1) no2).symm
    have n3 : o ≠ p := (ne_of_none (dr_same hD (s1.trans s2)) no).symm
    have ng : g ≠ p := fun z => by
      rw [z, show H1 p = _ from hD] at hg
      have z2 := Option.some.inj hg
      injection z2 with z3
      cases ds with
      | nil => cases z3
      | cons i r => cases z3
    refine ⟨p, o, _, _, rfl, hDA, SqL.of upd_same, n3, by show 0 < 5; decide, fun x ds3 hx => ?_⟩
    have k1 : (upd (upd (upd (upd H1 o1 (.tup [.int 1])) o2 (.lst [.int 1])) o (.lst [.non, .str "1", .ref o1, .bl true, .ref o2])) p (.lst (ds3.map V.int))) o1 = some (.tup [.int 1]) := by
      rw [upd_ne n1]
      exact s3 _ _ (s2 _ _ upd_same)
    have k2 : (upd (upd (upd (upd H1 o1 (.tup [.int 1])) o2 (.lst [.int 1])) o (.lst [.non, .str "1", .ref o1, .bl true, .ref o2])) p (.lst (ds3.map V.int))) o2 = some (.lst [.int 1]) := by
      rw [upd_ne n2]
      exact s3 _ _ upd_same
    have k3 : (upd (upd (upd (upd H1 o1 (.tup [.int 1])) o2 (.lst [.int 1])) o (.lst [.non, .str "1", .ref o1, .bl true, .ref o2])) p (.lst (ds3.map V.int))) g = some (.lst (List.replicate 7 v3)) := by
      rw [upd_ne ng]
      exact sA _ _ hg
    obtain ⟨e, he1, he2⟩ : ∃ e, Dp K (upd (upd (upd (upd H1 o1 (.tup [.int 1])) o2 (.lst [.int 1])) o (.lst [.non, .str "1", .ref o1, .bl true, .ref o2])) p (.lst (ds3.map V.int))) x e ∧ isInt e = false := by
      simp only [List.mem_cons, List.not_mem_nil, or_false] at hx
      rcases hx with rfl | rfl | rfl | rfl | rfl
      · exact ⟨.none, .non, rfl⟩
      · exact ⟨.str "1", .str _, rfl⟩
      · exact ⟨.tuple [.int 1], .tup (SqT.of k1) (.cons (.int _) .nil), rfl⟩
      · exact ⟨.bool true, .bl _, rfl⟩
      · exact ⟨.list [.int 1], .lst (SqL.of k2) (.cons (.int _) .nil), rfl⟩
    exact ⟨ds3, _, _, _, _, _, _, _, _, _, _, y, m, g, x, e, rfl, dr_upd, hy, hm, k3, he1, he2⟩
  rintro σ H1 ⟨ds, w2, w6, w7, w8, w9, w10, w11, w12, w15, w16, y, m, g, b, e, rfl, hD, hy, hm, hg, hb, he⟩
  refine ⟨L15 K a p, ?_, ?_⟩
  · refine ⟨3, rfl, by decide, by decide, fun o no => ?_⟩
    refine lc_range (lo := 0) (n := 3) (fun i H2 => Same H1 H2 ∧ H2 o = some (.lst (List.replicate i v1))) ⟨XK.same_upd no, upd_same⟩ ?_ ?_
    · rintro i H2 hi ⟨s2, e2⟩
      refine ⟨rfl, ?_⟩
      show tK (spTold K) (fun _ => E0) (tCons (tVar 16) (tCons (tTup (tCons (tVar 14) tNil)) tNil)) _ H2 _
      refine rd_told (k := 0 + (i : Int)) (xs := [b]) (ds := [e]) (fun Q' h => ⟨_, rfl, h⟩) (fun Q' h => ⟨_, rfl, h⟩) (.cons (XK.Dp.mono s2 hb) .nil) (.inl ⟨by omega, rfl⟩) fun r x H3 t s3 e3 => ?_
      have er : r = R1 := by
        have hi3 : i = 0 ∨ i = 1 ∨ i = 2 := by omega
        rcases hi3 with rfl | rfl | rfl
        · exact told0b he t
        · exact told1b (isDay_of he) t
        · exact told2b (isDay_of he) t
      rw [er] at e3
      rw [v1_of e3]
      refine ⟨_, s3 _ _ e2, by rw [List.length_replicate]; exact small10k (by omega), same_set no (s2.trans s3), ?_⟩
      rw [upd_same, List.replicate_succ']
    · rintro H2 ⟨s2, e2⟩
      exact ⟨ds, _, _, _, _, _, _, _, _, _, y, m, g, b, e, o, rfl, dr_same hD s2, hy, hm, s2 _ _ hg, XK.Dp.mono s2 hb, he, e2⟩
  rintro σ H1 ⟨ds, w2, w6, w7, w8, w9, w10, w11, w12, w16, y, m, g, b, e, o, rfl, hD, hy, hm, hg, hb, he, ho⟩
  have iv : (isInt e && (isInt (.int 1) && isInt (.int 1))) = false := by
    rw [he]
    rfl
  have om : okM e (.int 1) = false := by
    cases e <;> first | rfl | cases he
  have om2 : okM (.int y) e = false := by
    cases e <;> first | rfl | cases he
  refine ⟨L16 K a p, ?_, ?_⟩
  · refine ⟨_, rfl, ?_⟩
    refine rd_told (k := 3) (xs := [b, .int 1]) (ds := [e, .int 1]) (fun Q' h => h) (fun Q' h => ⟨_, rfl, h⟩) (.cons hb (.cons (.int _) .nil)) (.inr (.inl ⟨rfl, rfl⟩)) fun r1 x1 G1 t1 s1 e1 => ?_
    refine rd_told (k := 3) (xs := [.int y, b]) (ds := [.int y, e]) (fun Q' h => h) (fun Q' h => ⟨_, rfl, _, rfl, h⟩) (.cons (.int _) (.cons (XK.Dp.mono (s1) hb) .nil)) (.inr (.inl ⟨rfl, rfl⟩)) fun r2 x2 G2 t2 s2 e2 => ?_
    refine rd_told (k := 3) (xs := [.int y, .int 0]) (ds := [.int y, .int 0]) (fun Q' h => h) (fun Q' h => ⟨_, rfl, h⟩) (.cons (.int _) (.cons (.int _) .nil)) (.inr (.inl ⟨rfl, rfl⟩)) fun r3 x3 G3 t3 s3 e3 => ?_
    refine rd_told (k := 3) (xs := [.int y, .int 13]) (ds := [.int y, .int 13]) (fun Q' h => h) (fun Q' h => ⟨_, rfl, h⟩) (.cons (.int _) (.cons (.int _) .nil)) (.inr (.inl ⟨rfl, rfl⟩)) fun r4 x4 G4 t4 s4 e4 => ?_
    refine ⟨by show 4 ≤ sizeLine; decide, fun o3 no3 => ?_⟩
    rw [told3b om t1] at e1
    rw [told3b om2 t2] at e2
    rw [told3b (by rfl) t3] at e3
    rw [told3b (by rfl) t4] at e4
    rw [v1_of e1, v1_of e2, v1_of e3, v1_of e4] at *
    have sA := (((s1.trans s2).trans s3).trans s4).trans (XK.same_upd (o := .lst [v1, v1, v1, v1]) no3)
    refine ⟨o, o3, _, _, rfl, rfl, sA _ _ ho, upd_same, by show 3 + 4 ≤ sizeLine; decide, fun o2 no2 => ?_⟩
    have sB := sA.trans (XK.same_upd (o := .lst (List.replicate 3 v1 ++ [v1, v1, v1, v1])) no2)
    exact ⟨ds, _, _, _, _, _, _, _, _, _, y, m, g, b, e, o2, rfl, dr_same hD sB, hy, hm, sB _ _ hg, XK.Dp.mono sB hb, he, upd_same⟩
  rintro σ H1 ⟨ds, w2, w6, w7, w8, w9, w10, w11, w12, w16, y, m, g, b, e, o, rfl, hD, hy, hm, hg, hb, he, ho⟩
  have iv1 : (isInt e && (isInt (.int 1) && isInt (.int 1))) = false := by rw [he]; rfl
  have iv2 : (isInt (.int y) && (isInt e && isInt (.int 1))) = false := by rw [he]; rfl
  have iv3 : (isInt (.int y) && (isInt (.int 1) && isInt e)) = false := by rw [he]; rfl
  refine ⟨L17 K a p, ?_, ?_⟩
  · refine ⟨_, rfl, ?_⟩
    refine rd_told (k := 4) (xs := [b, .int 1, .int 1]) (ds := [e, .int 1, .int 1]) (fun Q' h => h) (fun Q' h => ⟨_, rfl, h⟩) (.cons hb (.cons (.int _) (.cons (.int _) .nil))) (.inr (.inr ⟨rfl, rfl⟩)) fun r1 x1 G1 t1 s1 e1 => ?_
    refine rd_told (k := 4) (xs := [.int y, b, .int 1]) (ds := [.int y, e, .int 1]) (fun Q' h => h) (fun Q' h => ⟨_, rfl, _, rfl, h⟩) (.cons (.int _) (.cons (XK.Dp.mono (s1) hb) (.cons (.int _) .nil))) (.inr (.inr ⟨rfl, rfl⟩)) fun r2 x2 G2 t2 s2 e2 => ?_
    refine rd_told (k := 4) (xs := [.int y, .int 1, b]) (ds := [.int y, .int 1, e]) (fun Q' h => h) (fun Q' h => ⟨_, rfl, _, rfl, h⟩) (.cons (.int _) (.cons (.int _) (.cons (XK.Dp.mono (s1.trans s2) hb) .nil))) (.inr (.inr ⟨rfl, rfl⟩)) fun r3 x3 G3 t3 s3 e3 => ?_
    refine ⟨by show 3 ≤ sizeLine; decide, fun o3 no3 => ?_⟩
    rw [told4b iv1 t1] at e1
    rw [told4b iv2 t2] at e2
    rw [told4b iv3 t3] at e3
    rw [v1_of e1, v1_of e2, v1_of e3] at *
    have sA := ((s1.trans s2).trans s3).trans (XK.same_upd (o := .lst [v1, v1, v1]) no3)
    refine ⟨o, o3, _, _, rfl, rfl, sA _ _ ho, upd_same, by show 7 + 3 ≤ sizeLine; decide, fun o2 no2 => ?_⟩
    have sB := sA.trans (XK.same_upd (o := .lst (List.replicate 7 v1 ++ [v1, v1, v1])) no2)
    exact ⟨ds, _, _, _, _, _, _, _, _, _, y, m, g, b, e, o2, rfl, dr_same hD sB, hy, hm, sB _ _ hg, XK.Dp.mono sB hb, he, upd_same⟩
  rintro σ H1 ⟨ds, w2, w6, w7, w8, w9, w10, w11, w12, w16, y, m, g, b, e, o, rfl, hD, hy, hm, hg, hb, he, ho⟩
  refine ⟨L18 K a p, ?_, ?_⟩
  · refine ⟨_, rfl, ?_⟩
    refine rd_told (k := 1) (xs := [.int (-1)]) (ds := [.int (-1)]) (fun Q' h => h) (fun Q' h => ⟨_, rfl, h⟩) (.cons (.int _) .nil) (.inl ⟨by decide, rfl⟩) fun r1 x1 G1 t1 s1 e1 => ?_
    refine rd_told (k := 1) (xs := [.int 200001]) (ds := [.int 200001]) (fun Q' h => h) (fun Q' h => h) (.cons (.int _) .nil) (.inl ⟨by decide, rfl⟩) fun r2 x2 G2 t2 s2 e2 => ?_
    refine rd_told (k := 2) (xs := [.int (-1)]) (ds := [.int (-1)]) (fun Q' h => h) (fun Q' h => ⟨_, rfl, h⟩) (.cons (.int _) .nil) (.inl ⟨by decide, rfl⟩) fun r3 x3 G3 t3 s3 e3 => ?_
    refine rd_told (k := 2) (xs := [.int 200001]) (ds := [.int 200001]) (fun Q' h => h) (fun Q' h => h) (.cons (.int _) .nil) (.inl ⟨by decide, rfl⟩) fun r4 x4 G4 t4 s4 e4 => ?_
    refine ⟨by show 4 ≤ sizeLine; decide, fun o3 no3 => ?_⟩
    rw [told1b (by decide) t1] at e1
    rw [told1b (by decide) t2] at e2
    rw [told2b (by decide) t3] at e3
    rw [told2b (by decide) t4] at e4
    rw [v1_of e1, v1_of e2, v1_of e3, v1_of e4] at *
    have sA := (((s1.trans s2).trans s3).trans s4).trans (XK.same_upd (o := .lst [v1, v1, v1, v1]) no3)
    refine ⟨o, o3, _, _, rfl, rfl, sA _ _ ho, upd_same, by show 10 + 4 ≤ sizeLine; decide, fun o2 no2 => ?_⟩
    have sB := sA.trans (XK.same_upd (o := .lst (List.replicate 10 v1 ++ [v1, v1, v1, v1])) no2)
    exact ⟨ds, _, _, _, _, _, _, _, _, _, y, m, g, b, e, o2, rfl, dr_same hD sB, hy, hm, sB _ _ hg, XK.Dp.mono sB hb, he, upd_same⟩
  rintro σ H1 ⟨ds, w2, w6, w7, w8, w9, w10, w11, w12, w16, y, m, g, b, e, o, rfl, hD, hy, hm, hg, hb, he, ho⟩
  -- the last test
  refine ⟨_, rfl, by show 1 ≤ sizeLine; decide, fun c1 nc1 => ⟨c1, 7, _, rfl, rfl, upd_same, by decide, by decide, by show 1 * 7 ≤ sizeLine; decide, fun c2 nc2 => ?_⟩⟩
  have sA : Same H1 (upd (upd H1 c1 (.lst [v3])) c2 (.lst (List.replicate 7 [v3]).flatten)) := (XK.same_upd nc1).trans (XK.same_upd nc2)
  refine ⟨_, _, .lst (SqL.of (sA _ _ hg)) (dp_rep3 7), .lst (SqL.of upd_same) (dp_rep3 7), sh3, sh3, _, rfl, ?_⟩
  rw [SeqAt.eqv_refl _ (SeqAt.canLay_of_shaped sh3)]
  refine ⟨_, rfl, by show 1 ≤ sizeLine; decide, fun c3 nc3 => ⟨c3, 14, _, rfl, rfl, upd_same, by decide, by decide, by show 1 * 14 ≤ sizeLine; decide, fun c4 nc4 => ?_⟩⟩
  have sB : Same H1 (upd (upd (upd (upd H1 c1 (.lst [v3])) c2 (.lst (List.replicate 7 [v3]).flatten)) c3 (.lst [v1])) c4 (.lst (List.replicate 14 [v1]).flatten)) := (sA.trans (XK.same_upd nc3)).trans (XK.same_upd nc4)
  refine ⟨_, _, .lst (SqL.of (sB _ _ ho)) (dp_rep1 14), .lst (SqL.of upd_same) (dp_rep1 14), sh1, sh1, _, rfl, ?_⟩
  rw [SeqAt.eqv_refl _ (SeqAt.canLay_of_shaped sh1)]
  exact ⟨ds, _, _, _, _, _, _, _, _, _, _, _, _, _, _, _, rfl, dr_same hD sB, trivial⟩
end
end K00

namespace K00
open PySem PySem.Spec PyProof.Rows L2 XK M00 XH
/-! ### the head: what the top has written, by names -/
def d_check : He.DefD := ⟨("check", none), "check", "check", defArgs s_check, defBody s_check, defScope s_check, [], []⟩
def d_is_integer : He.DefD := ⟨("is_integer", none), "is_integer", "is_integer", defArgs s_is_integer, defBody s_is_integer, defScope s_is_integer, [], []⟩
def d_is_day_number : He.DefD := ⟨("is_day_number", none), "is_day_number", "is_day_number", defArgs s_is_day_number, defBody s_is_day_number, defScope s_is_day_number, [], []⟩
def d_leaps : He.DefD := ⟨("leaps", none), "leaps", "leaps", defArgs s_leaps, defBody s_leaps, defScope s_leaps, [], []⟩
def d_is_leap : He.DefD := ⟨("is_leap", none), "is_leap", "is_leap", defArgs s_is_leap, defBody s_is_leap, defScope s_is_leap, [], []⟩
def d_length_by : He.DefD := ⟨("length_by", none), "length_by", "length_by", defArgs s_length_by, defBody s_length_by, defScope s_length_by, [], []⟩
def d_length_of_month : He.DefD := ⟨("length_of_month", none), "length_of_month", "length_of_month", defArgs s_length_of_month, defBody s_length_of_month, defScope s_length_of_month, [], []⟩
def d_days_ahead : He.DefD := ⟨("days_ahead", none), "days_ahead", "days_ahead", defArgs s_days_ahead, defBody s_days_ahead, defScope s_days_ahead, [], []⟩
def d_number_by : He.DefD := ⟨("number_by", none), "number_by", "number_by", defArgs s_number_by, defBody s_number_by, defScope s_number_by, [], []⟩
def d_need_number : He.DefD := ⟨("need_number", none), "need_number", "need_number", defArgs s_need_number, defBody s_need_number, defScope s_need_number, [], []⟩
def d_day_of : He.DefD := ⟨("day_of", none), "day_of", "day_of", defArgs s_day_of, defBody s_day_of, defScope s_day_of, [], []⟩
def d_date_by : He.DefD := ⟨("date_by", none), "date_by", "date_by", defArgs s_date_by, defBody s_date_by, defScope s_date_by, [], []⟩
def d_date_of : He.DefD := ⟨("date_of", none), "date_of", "date_of", defArgs s_date_of, defBody s_date_of, defScope s_date_of, [], []⟩
def d_week_day : He.DefD := ⟨("week_day", none), "week_day", "week_day", defArgs s_week_day, defBody s_week_day, defScope s_week_day, [], []⟩
def d__law_draws : He.DefD := ⟨("_law_draws", none), "_law_draws", "_law_draws", defArgs s__law_draws, defBody s__law_draws, defScope s__law_draws, [], []⟩
def d__law_same : He.DefD := ⟨("_law_same", none), "_law_same", "_law_same", defArgs s__law_same, defBody s__law_same, defScope s__law_same, [], []⟩
def d__law_take : He.DefD := ⟨("_law_take", none), "_law_take", "_law_take", defArgs s__law_take, defBody s__law_take, defScope s__law_take, [], []⟩
def d__law_pick : He.DefD := ⟨("_law_pick", none), "_law_pick", "_law_pick", defArgs s__law_pick, defBody s__law_pick, defScope s__law_pick, [], []⟩
def d__law_flag : He.DefD := ⟨("_law_flag", none), "_law_flag", "_law_flag", defArgs s__law_flag, defBody s__law_flag, defScope s__law_flag, [], []⟩
def d__law_is_long : He.DefD := ⟨("_law_is_long", none), "_law_is_long", "_law_is_long", defArgs s__law_is_long, defBody s__law_is_long, defScope s__law_is_long, [], []⟩
def d__law_long : He.DefD := ⟨("_law_long", none), "_law_long", "_law_long", defArgs s__law_long, defBody s__law_long, defScope s__law_long, [], []⟩
def d__law_counted : He.DefD := ⟨("_law_counted", none), "_law_counted", "_law_counted", defArgs s__law_counted, defBody s__law_counted, defScope s__law_counted, [], []⟩
def d__law_named : He.DefD := ⟨("_law_named", none), "_law_named", "_law_named", defArgs s__law_named, defBody s__law_named, defScope s__law_named, [], []⟩
def d__law_told : He.DefD := ⟨("_law_told", none), "_law_told", "_law_told", defArgs s__law_told, defBody s__law_told, defScope s__law_told, [], []⟩
def d_law : He.DefD := ⟨("law", none), "law", "law", defArgs s_law, defBody s_law, defScope s_law, [], []⟩
def fn : List He.DefD := [d_check, d_is_integer, d_is_day_number, d_leaps, d_is_leap, d_length_by, d_length_of_month, d_days_ahead, d_number_by, d_need_number, d_day_of, d_date_by, d_date_of, d_week_day, d__law_draws, d__law_same, d__law_take, d__law_pick, d__law_flag, d__law_is_long, d__law_long, d__law_counted, d__law_named, d__law_told, d_law]
def fa : List He.Fa := [.glo "check", .glo "is_integer", .glo "is_day_number", .glo "leaps", .glo "is_leap", .glo "length_by", .glo "length_of_month", .glo "days_ahead", .glo "number_by", .glo "need_number", .glo "day_of", .glo "date_by", .glo "date_of", .glo "week_day", .glo "_law_draws", .glo "_law_same", .glo "_law_take", .glo "_law_pick", .glo "_law_flag", .glo "_law_is_long", .glo "_law_long", .glo "_law_counted", .glo "_law_named", .glo "_law_told", .glo "law", .free "isinstance", .free "int", .free "bool", .free "str", .free "tuple", .free "list", .free "dict", .free "sum", .free "range", .free "len", .free "abs", .free "reversed", .int "FIRST_YEAR" 1600, .int "LAST_DAY" 200000, .int "MONTHS" 12, .int "WEEK" 7, .int "FIRST_WEEK_DAY" 5, .int "FEBRUARY" 2, .glo "LENGTHS", .glo "RuleError", .glo "NotRight", .glo "NotThere", .glo "NoAnswer", .exc "NotRight", .exc "NoAnswer", .exm "NotRight" "RuleError" true, .exm "NoAnswer" "RuleError" true]
def excB (K : PySem.W.Frag) (x : Str) : Bool := He.eqO (PySem.W.findIn K (.ref (He.ga K x)) "__getattribute__") (some (some (.builtin "BaseException.__getattribute__"))) && (He.eqO (PySem.W.findIn K (.ref (He.ga K x)) "__getattr__") (some none) &&
  (decide (PySem.W.subIn K (.ref (He.ga K x)) (.type "BaseException") = some true) && (PySem.W.hasDictIn K (He.ga K x) && (He.eqO (PySem.W.findIn K (.ref (He.ga K x)) "__class__") (some (some (.builtin "object.__class__"))) &&
  (He.eqO (PySem.W.specialIn K (.builtin "object.__class__") "__get__") (some (some (.builtin "getset_descriptor.__get__"))) && (decide (PySem.W.takesIn K (.builtin "object.__class__") = some true) && decide (PySem.W.mroIn K (He.ga K x) (.type "object") = some true)))))))
theorem excB_ok {K : PySem.W.Frag} {x : Str} (h : excB K x = true) : ExcC K (He.ga K x) := by
  obtain ⟨h1, h⟩ := He.ba h
  obtain ⟨h2, h⟩ := He.ba h
  obtain ⟨h3, h⟩ := He.ba h
  obtain ⟨h4, h⟩ := He.ba h
  obtain ⟨h5, h⟩ := He.ba h
  obtain ⟨h6, h⟩ := He.ba h
  obtain ⟨h7, h8⟩ := He.ba h
  exact ⟨He.eqO_ok h1, He.eqO_ok h2, of_decide_eq_true h3, h4, He.eqO_ok h5, He.eqO_ok h6, of_decide_eq_true h7, of_decide_eq_true h8⟩
def kitE (K : PySem.W.Frag) (x y : Str) (b : Bool) : Bool := decide (PySem.W.kitOne K (.ref (He.ga K x)) (.ref (He.ga K y)) = some b)
def ex (K : PySem.W.Frag) : Bool := He.tupB K "LENGTHS" (lens.map He.Dv.int) && (excB K "NotRight" && (excB K "NoAnswer" && (kitE K "NotRight" "NotRight" true && (kitE K "NotRight" "NotThere" false && (kitE K "NotRight" "NoAnswer" false &&
  (kitE K "NoAnswer" "NotRight" false && (kitE K "NoAnswer" "NotThere" false && kitE K "NoAnswer" "NoAnswer" true)))))))
abbrev R : PySem.W.OpenRow := PySem.W.OpenLaw.row PySem.Challenge.rw_asenacted_k00_whole_days_by_counting
abbrev hk : PySem.W.Hook := He.hookX 5 fa fn [] [] ex
def ob (s : PySem.W.SharedT) : He.AlX := He.obsX 5 fa fn [] [] ex (HandSHeadRun.getT s)
theorem ob_eq (s : PySem.W.SharedT) : ob s = hk.obs s.abs := He.obsX_eq (HandSHeadRun.getT_eq s)
def loose0 : List Str := [("__name__" : Str), ("RuleError" : Str), ("NotRight" : Str), ("NotThere" : Str), ("NoAnswer" : Str), ("check" : Str), ("is_integer" : Str), ("FIRST_YEAR" : Str), ("LAST_DAY" : Str), ("MONTHS" : Str), ("WEEK" : Str), ("FIRST_WEEK_DAY" : Str), ("LENGTHS" : Str), ("FEBRUARY" : Str), ("is_day_number" : Str), ("leaps" : Str), ("is_leap" : Str), ("length_by" : Str), ("length_of_month" : Str), ("days_ahead" : Str), ("number_by" : Str), ("need_number" : Str), ("day_of" : Str), ("date_by" : Str), ("date_of" : Str), ("week_day" : Str), ("_law_draws" : Str), ("_law_same" : Str), ("_law_take" : Str), ("_law_pick" : Str), ("_law_flag" : Str), ("_law_is_long" : Str), ("_law_long" : Str), ("_law_counted" : Str), ("_law_named" : Str)]
def loose1 : List Str := [("_law_told" : Str)]
def loose : List Str := loose0 ++ loose1
theorem run (w : World) : HandSHeadRun.RunEq R (PySem.W.view R.prog [38]) hk ob 6000 loose w := by
  intro os
  kernel_rfl
theorem facts {P : Program} {w : World} {K : PySem.W.Frag} {h : Heap} {mg : Str → Option Value} {f : Addr} (X : K.In h) (G : h.Ns mainGlobals mg) (hfa : mg ("law" : Str) = some (.ref f)) (c : He.SaysX fa fn [] [] ex w h K) :
    ∃ fd : FuncData, (∀ (s : Shared) (v : Value), BindsTo s fd ⟨[v], []⟩ [("script", v)]) ∧ ∀ base : Heap, K.In base → base.Ns mainGlobals mg → FnOk P w K mg base CX0 9 f fd ["script"] (spLaw K) := by
  have cd := c.t.d
  have m := c.more
  obtain ⟨fd_check, F_check⟩ := cd.def_ 0 (d := d_check) rfl
  obtain ⟨fd_is_integer, F_is_integer⟩ := cd.def_ 1 (d := d_is_integer) rfl
  obtain ⟨fd_is_day_number, F_is_day_number⟩ := cd.def_ 2 (d := d_is_day_number) rfl
  obtain ⟨fd_leaps, F_leaps⟩ := cd.def_ 3 (d := d_leaps) rfl
  obtain ⟨fd_is_leap, F_is_leap⟩ := cd.def_ 4 (d := d_is_leap) rfl
  obtain ⟨fd_length_by, F_length_by⟩ := cd.def_ 5 (d := d_length_by) rfl
  obtain ⟨fd_length_of_month, F_length_of_month⟩ := cd.def_ 6 (d := d_length_of_month) rfl
  obtain ⟨fd_days_ahead, F_days_ahead⟩ := cd.def_ 7 (d := d_days_ahead) rfl
  obtain ⟨fd_number_by, F_number_by⟩ := cd.def_ 8 (d := d_number_by) rfl
  obtain ⟨fd_need_number, F_need_number⟩ := cd.def_ 9 (d := d_need_number) rfl
  obtain ⟨fd_day_of, F_day_of⟩ := cd.def_ 10 (d := d_day_of) rfl
  obtain ⟨fd_date_by, F_date_by⟩ := cd.def_ 11 (d := d_date_by) rfl
  obtain ⟨fd_date_of, F_date_of⟩ := cd.def_ 12 (d := d_date_of) rfl
  obtain ⟨fd_week_day, F_week_day⟩ := cd.def_ 13 (d := d_week_day) rfl
  obtain ⟨fd__law_draws, F__law_draws⟩ := cd.def_ 14 (d := d__law_draws) rfl
  obtain ⟨fd__law_same, F__law_same⟩ := cd.def_ 15 (d := d__law_same) rfl
  obtain ⟨fd__law_take, F__law_take⟩ := cd.def_ 16 (d := d__law_take) rfl
  obtain ⟨fd__law_pick, F__law_pick⟩ := cd.def_ 17 (d := d__law_pick) rfl
  obtain ⟨fd__law_flag, F__law_flag⟩ := cd.def_ 18 (d := d__law_flag) rfl
  obtain ⟨fd__law_is_long, F__law_is_long⟩ := cd.def_ 19 (d := d__law_is_long) rfl
  obtain ⟨fd__law_long, F__law_long⟩ := cd.def_ 20 (d := d__law_long) rfl
  obtain ⟨fd__law_counted, F__law_counted⟩ := cd.def_ 21 (d := d__law_counted) rfl
  obtain ⟨fd__law_named, F__law_named⟩ := cd.def_ 22 (d := d__law_named) rfl
  obtain ⟨fd__law_told, F__law_told⟩ := cd.def_ 23 (d := d__law_told) rfl
  obtain ⟨fd_law, F_law⟩ := cd.def_ 24 (d := d_law) rfl
  have g_check := He.glo_ok X G (cd.fact 0 (f := .glo "check") rfl)
  have g_is_integer := He.glo_ok X G (cd.fact 1 (f := .glo "is_integer") rfl)
  have g_is_day_number := He.glo_ok X G (cd.fact 2 (f := .glo "is_day_number") rfl)
  have g_leaps := He.glo_ok X G (cd.fact 3 (f := .glo "leaps") rfl)
  have g_is_leap := He.glo_ok X G (cd.fact 4 (f := .glo "is_leap") rfl)
  have g_length_by := He.glo_ok X G (cd.fact 5 (f := .glo "length_by") rfl)
  have g_length_of_month := He.glo_ok X G (cd.fact 6 (f := .glo "length_of_month") rfl)
  have g_days_ahead := He.glo_ok X G (cd.fact 7 (f := .glo "days_ahead") rfl)
  have g_number_by := He.glo_ok X G (cd.fact 8 (f := .glo "number_by") rfl)
  have g_need_number := He.glo_ok X G (cd.fact 9 (f := .glo "need_number") rfl)
  have g_day_of := He.glo_ok X G (cd.fact 10 (f := .glo "day_of") rfl)
  have g_date_by := He.glo_ok X G (cd.fact 11 (f := .glo "date_by") rfl)
  have g_date_of := He.glo_ok X G (cd.fact 12 (f := .glo "date_of") rfl)
  have g_week_day := He.glo_ok X G (cd.fact 13 (f := .glo "week_day") rfl)
  have g__law_draws := He.glo_ok X G (cd.fact 14 (f := .glo "_law_draws") rfl)
  have g__law_same := He.glo_ok X G (cd.fact 15 (f := .glo "_law_same") rfl)
  have g__law_take := He.glo_ok X G (cd.fact 16 (f := .glo "_law_take") rfl)
  have g__law_pick := He.glo_ok X G (cd.fact 17 (f := .glo "_law_pick") rfl)
  have g__law_flag := He.glo_ok X G (cd.fact 18 (f := .glo "_law_flag") rfl)
  have g__law_is_long := He.glo_ok X G (cd.fact 19 (f := .glo "_law_is_long") rfl)
  have g__law_long := He.glo_ok X G (cd.fact 20 (f := .glo "_law_long") rfl)
  have g__law_counted := He.glo_ok X G (cd.fact 21 (f := .glo "_law_counted") rfl)
  have g__law_named := He.glo_ok X G (cd.fact 22 (f := .glo "_law_named") rfl)
  have g__law_told := He.glo_ok X G (cd.fact 23 (f := .glo "_law_told") rfl)
  have g_law := He.glo_ok X G (cd.fact 24 (f := .glo "law") rfl)
  have b_check : Binds K _ ["is_right"] [] := F_check.bindsN fun _ _ _ _ _ _ us hl => match us, hl with | [_], _ => rfl
  have b_is_integer : Binds K _ ["value"] [] := F_is_integer.bindsN fun _ _ _ _ _ _ us hl => match us, hl with | [_], _ => rfl
  have b_is_day_number : Binds K _ ["value"] [] := F_is_day_number.bindsN fun _ _ _ _ _ _ us hl => match us, hl with | [_], _ => rfl
  have b_leaps : Binds K _ ["year"] [] := F_leaps.bindsN fun _ _ _ _ _ _ us hl => match us, hl with | [_], _ => rfl
  have b_is_leap : Binds K _ ["year"] [] := F_is_leap.bindsN fun _ _ _ _ _ _ us hl => match us, hl with | [_], _ => rfl
  have b_length_by : Binds K _ ["year", "month"] [] := F_length_by.bindsN fun _ _ _ _ _ _ us hl => match us, hl with | [_, _], _ => rfl
  have b_length_of_month : Binds K _ ["year", "month"] [] := F_length_of_month.bindsN fun _ _ _ _ _ _ us hl => match us, hl with | [_, _], _ => rfl
  have b_days_ahead : Binds K _ ["year"] [] := F_days_ahead.bindsN fun _ _ _ _ _ _ us hl => match us, hl with | [_], _ => rfl
  have b_number_by : Binds K _ ["year", "month", "day"] [] := F_number_by.bindsN fun _ _ _ _ _ _ us hl => match us, hl with | [_, _, _], _ => rfl
  have b_need_number : Binds K _ ["number"] [] := F_need_number.bindsN fun _ _ _ _ _ _ us hl => match us, hl with | [_], _ => rfl
  have b_day_of : Binds K _ ["year", "month", "day"] [] := F_day_of.bindsN fun _ _ _ _ _ _ us hl => match us, hl with | [_, _, _], _ => rfl
  have b_date_by : Binds K _ ["number"] [] := F_date_by.bindsN fun _ _ _ _ _ _ us hl => match us, hl with | [_], _ => rfl
  have b_date_of : Binds K _ ["number"] [] := F_date_of.bindsN fun _ _ _ _ _ _ us hl => match us, hl with | [_], _ => rfl
  have b_week_day : Binds K _ ["number"] [] := F_week_day.bindsN fun _ _ _ _ _ _ us hl => match us, hl with | [_], _ => rfl
  have b__law_draws : Binds K _ ["script"] [] := F__law_draws.bindsN fun _ _ _ _ _ _ us hl => match us, hl with | [_], _ => rfl
  have b__law_same : Binds K _ ["actual", "due"] [] := F__law_same.bindsN fun _ _ _ _ _ _ us hl => match us, hl with | [_, _], _ => rfl
  have b__law_take : Binds K _ ["draws", "bound"] [] := F__law_take.bindsN fun _ _ _ _ _ _ us hl => match us, hl with | [_, _], _ => rfl
  have b__law_pick : Binds K _ ["draws", "some"] [] := F__law_pick.bindsN fun _ _ _ _ _ _ us hl => match us, hl with | [_, _], _ => rfl
  have b__law_flag : Binds K _ ["error"] [] := F__law_flag.bindsN fun _ _ _ _ _ _ us hl => match us, hl with | [_], _ => rfl
  have b__law_is_long : Binds K _ ["year"] [] := F__law_is_long.bindsN fun _ _ _ _ _ _ us hl => match us, hl with | [_], _ => rfl
  have b__law_long : Binds K _ ["year", "month"] [] := F__law_long.bindsN fun _ _ _ _ _ _ us hl => match us, hl with | [_, _], _ => rfl
  have b__law_counted : Binds K _ ["year", "month", "day"] [] := F__law_counted.bindsN fun _ _ _ _ _ _ us hl => match us, hl with | [_, _, _], _ => rfl
  have b__law_named : Binds K _ ["number"] [] := F__law_named.bindsN fun _ _ _ _ _ _ us hl => match us, hl with | [_], _ => rfl
  have b__law_told : Binds K _ ["which", "args"] [] := F__law_told.bindsN fun _ _ _ _ _ _ us hl => match us, hl with | [_, _], _ => rfl
  have e := hfa.symm.trans g_law
  cases e
  obtain ⟨m1, m⟩ := He.ba m
  obtain ⟨m2, m⟩ := He.ba m
  obtain ⟨m3, m⟩ := He.ba m
  obtain ⟨m4, m⟩ := He.ba m
  obtain ⟨m5, m⟩ := He.ba m
  obtain ⟨m6, m⟩ := He.ba m
  obtain ⟨m7, m⟩ := He.ba m
  obtain ⟨m8, m⟩ := He.ba m
  obtain ⟨x1_NotRight, x2_NotRight, x3_NotRight, x4_NotRight⟩ := He.exc_ok (cd.fact 48 (f := .exc "NotRight") rfl)
  have er_NotRight : Er K mg "NotRight" := ⟨He.glo_ok X G (cd.fact 45 (f := .glo "NotRight") rfl), x1_NotRight, x2_NotRight, x3_NotRight, x4_NotRight⟩
  obtain ⟨x1_NoAnswer, x2_NoAnswer, x3_NoAnswer, x4_NoAnswer⟩ := He.exc_ok (cd.fact 49 (f := .exc "NoAnswer") rfl)
  have er_NoAnswer : Er K mg "NoAnswer" := ⟨He.glo_ok X G (cd.fact 47 (f := .glo "NoAnswer") rfl), x1_NoAnswer, x2_NoAnswer, x3_NoAnswer, x4_NoAnswer⟩
  have T : Txt K mg := ⟨He.free_ok X G (cd.fact 25 (f := .free "isinstance") rfl), He.free_ok X G (cd.fact 26 (f := .free "int") rfl), He.free_ok X G (cd.fact 27 (f := .free "bool") rfl), He.free_ok X G (cd.fact 28 (f := .free "str") rfl), He.free_ok X G (cd.fact 29 (f := .free "tuple") rfl), He.free_ok X G (cd.fact 30 (f := .free "list") rfl), He.free_ok X G (cd.fact 31 (f := .free "dict") rfl), He.free_ok X G (cd.fact 32 (f := .free "sum") rfl), He.free_ok X G (cd.fact 33 (f := .free "range") rfl), He.free_ok X G (cd.fact 34 (f := .free "len") rfl), He.free_ok X G (cd.fact 35 (f := .free "abs") rfl), He.free_ok X G (cd.fact 36 (f := .free "reversed") rfl), (by obtain ⟨t, e⟩ := He.int_ok X G (cd.fact 37 (f := .int "FIRST_YEAR" 1600) rfl); exact ⟨_, e, _, rfl⟩), (by obtain ⟨t, e⟩ := He.int_ok X G (cd.fact 38 (f := .int "LAST_DAY" 200000) rfl); exact ⟨_, e, _, rfl⟩), (by obtain ⟨t, e⟩ := He.int_ok X G (cd.fact 39 (f := .int "MONTHS" 12) rfl); exact ⟨_, e, _, rfl⟩), (by obtain ⟨t, e⟩ := He.int_ok X G (cd.fact 40 (f := .int "WEEK" 7) rfl); exact ⟨_, e, _, rfl⟩), (by obtain ⟨t, e⟩ := He.int_ok X G (cd.fact 41 (f := .int "FIRST_WEEK_DAY" 5) rfl); exact ⟨_, e, _, rfl⟩), (by obtain ⟨t, e⟩ := He.int_ok X G (cd.fact 42 (f := .int "FEBRUARY" 2) rfl); exact ⟨_, e, _, rfl⟩), ⟨_, He.glo_ok X G (cd.fact 43 (f := .glo "LENGTHS") rfl), rfl⟩, fun H => by have z := He.tupB_ok m1 H; exact z, er_NotRight, er_NoAnswer⟩
  have EX : ErX K mg := ⟨He.glo_ok X G (cd.fact 46 (f := .glo "NotThere") rfl), excB_ok m2, excB_ok m3, of_decide_eq_true m4, of_decide_eq_true m5, of_decide_eq_true m6, of_decide_eq_true m7, of_decide_eq_true m8, of_decide_eq_true m⟩
  have TT : TxtT K mg := ⟨He.glo_ok X G (cd.fact 44 (f := .glo "RuleError") rfl), He.exm_ok (cd.fact 50 (f := .exm "NotRight" "RuleError" true) rfl), He.exm_ok (cd.fact 51 (f := .exm "NoAnswer" "RuleError" true) rfl), ⟨_, g_is_leap, rfl⟩, ⟨_, g_date_of, rfl⟩, ⟨_, g_week_day, rfl⟩, g__law_flag⟩
  refine ⟨fd_law, ?_, fun base _ _ => ?_⟩
  · have b := FunD.bindsA (ps := ["script"]) F_law fun _ _ _ _ _ _ us hl => match us, hl with | [_], _ => rfl
    exact fun s v => b s [v] rfl
  have c_check : Cl P w K mg base (L2N.CX P w) 1 "check" (spCheck K) := ⟨_, _, _, ok_check T F_check, g_check, F_check.kp, b_check⟩
  have c_is_integer : Cl P w K mg base CX0 1 "is_integer" (spInt K) := ⟨_, _, _, ok_is_integer T F_is_integer, g_is_integer, F_is_integer.kp, b_is_integer⟩
  have c_is_day_number : Cl P w K mg base CX0 2 "is_day_number" (spDay K) := ⟨_, _, _, ok_is_day_number T c_is_integer F_is_day_number, g_is_day_number, F_is_day_number.kp, b_is_day_number⟩
  have c_leaps : Cl P w K mg base CX0 1 "leaps" spLeaps := ⟨_, _, _, ok_leaps T F_leaps, g_leaps, F_leaps.kp, b_leaps⟩
  have c_is_leap : Cl P w K mg base (L2N.CX P w) 2 "is_leap" (spIsLeap K) := ⟨_, _, _, ok_is_leap T c_is_integer c_check c_leaps F_is_leap, g_is_leap, F_is_leap.kp, b_is_leap⟩
  have c_length_by : Cl P w K mg base CX0 2 "length_by" spLen := ⟨_, _, _, ok_length_by T c_leaps F_length_by, g_length_by, F_length_by.kp, b_length_by⟩
  have c_length_of_month : Cl P w K mg base (L2N.CX P w) 3 "length_of_month" (spLenM K) := ⟨_, _, _, ok_length_of_month T c_is_integer c_check c_length_by F_length_of_month, g_length_of_month, F_length_of_month.kp, b_length_of_month⟩
  have c_days_ahead : Cl P w K mg base CX0 1 "days_ahead" spDa := ⟨_, _, _, ok_days_ahead T F_days_ahead, g_days_ahead, F_days_ahead.kp, b_days_ahead⟩
  have c_number_by : Cl P w K mg base CX0 3 "number_by" spNum := ⟨_, _, _, ok_number_by T c_days_ahead c_length_by F_number_by, g_number_by, F_number_by.kp, b_number_by⟩
  have c_need_number : Cl P w K mg base (L2N.CX P w) 1 "need_number" (spNeed K) := ⟨_, _, _, ok_need_number T F_need_number, g_need_number, F_need_number.kp, b_need_number⟩
  have c_day_of : Cl P w K mg base (L2N.CX P w) 4 "day_of" (spDayOf K) := ⟨_, _, _, ok_day_of T c_is_integer c_check c_length_by c_number_by c_need_number F_day_of, g_day_of, F_day_of.kp, b_day_of⟩
  have c_date_by : Cl P w K mg base CX0 3 "date_by" spDateBy := ⟨_, _, _, ok_date_by T c_days_ahead c_length_by F_date_by, g_date_by, F_date_by.kp, b_date_by⟩
  have c_date_of : Cl P w K mg base (L2N.CX P w) 4 "date_of" (spDateOf K) := ⟨_, _, _, ok_date_of T c_is_day_number c_check c_date_by F_date_of, g_date_of, F_date_of.kp, b_date_of⟩
  have c_week_day : Cl P w K mg base (L2N.CX P w) 3 "week_day" (spWeek K) := ⟨_, _, _, ok_week_day T c_is_day_number c_check F_week_day, g_week_day, F_week_day.kp, b_week_day⟩
  have c__law_draws : Cl P w K mg base CX0 1 "_law_draws" (spDraws K) := ⟨_, _, _, ok_draws T F__law_draws, g__law_draws, F__law_draws.kp, b__law_draws⟩
  have c__law_take : Cl P w K mg base CX0 1 "_law_take" (spTake K) := ⟨_, _, _, ok_take T F__law_take, g__law_take, F__law_take.kp, b__law_take⟩
  have c__law_pick : Cl P w K mg base CX0 2 "_law_pick" (spPick K) := ⟨_, _, _, ok_pick T c__law_take F__law_pick, g__law_pick, F__law_pick.kp, b__law_pick⟩
  have c__law_is_long : Cl P w K mg base CX0 1 "_law_is_long" spLeaps := ⟨_, _, _, ok_is_long T F__law_is_long, g__law_is_long, F__law_is_long.kp, b__law_is_long⟩
  have c__law_long : Cl P w K mg base CX0 2 "_law_long" spLong := ⟨_, _, _, ok_long T c__law_is_long F__law_long, g__law_long, F__law_long.kp, b__law_long⟩
  have c__law_counted : Cl P w K mg base CX0 3 "_law_counted" spCount := ⟨_, _, _, ok_counted T c__law_is_long c__law_long F__law_counted, g__law_counted, F__law_counted.kp, b__law_counted⟩
  have c__law_named : Cl P w K mg base CX0 3 "_law_named" spNamed := ⟨_, _, _, ok_named T c__law_is_long c__law_long F__law_named, g__law_named, F__law_named.kp, b__law_named⟩
  have c__law_told : Cl P w K mg base CX0 5 "_law_told" (spTold K) := ⟨_, _, _, ok_told T TT EX ⟨_, _, ok_is_leap T c_is_integer c_check c_leaps F_is_leap, F_is_leap.kp, b_is_leap⟩ ⟨_, _, ok_date_of T c_is_day_number c_check c_date_by F_date_of, F_date_of.kp, b_date_of⟩ ⟨_, _, ok_week_day T c_is_day_number c_check F_week_day, F_week_day.kp, b_week_day⟩ c_length_of_month c_day_of F__law_flag b__law_flag F__law_told, g__law_told, F__law_told.kp, b__law_told⟩
  exact ok_law T c__law_draws c__law_take c__law_pick c__law_long c__law_counted c__law_told (ok_same T F__law_same g__law_same b__law_same) c__law_is_long c__law_named c_date_of c_day_of c_week_day c_is_leap c_length_of_month F_law
end K00
open PySem PySem.W PySem.Calls PyProof.Rows
theorem PySem.Challenge.cw_asenacted_k00_whole_days_by_counting_holds : PySem.Challenge.rw_asenacted_k00_whole_days_by_counting.Holds := by
  w_on; o_law
  refine HandSHeadRun.head_any (r := OpenLaw.row PySem.Challenge.rw_asenacted_k00_whole_days_by_counting) (q := view (OpenLaw.row PySem.Challenge.rw_asenacted_k00_whole_days_by_counting).prog [38]) (H := K00.hk) (ob := K00.ob) (M := 6000) (loose := K00.loose) (d := HandSHeadRun.topDef (OpenLaw.row PySem.Challenge.rw_asenacted_k00_whole_days_by_counting).prog 38) (kwd := []) K00.ob_eq
    (by kernel_rfl) (fun s => by kernel_rfl) K00.run (by kernel_rfl) (by kernel_rfl) (by kernel_rfl) (by rfl) (by first | assumption | decide +kernel) (by decide +kernel) ⟨rfl, rfl, rfl, rfl, rfl, by decide +kernel⟩ ?hw ?hc
  case hw => w_witness2
  case hc =>
    refine L2.walk_ofE (l := PySem.Challenge.rw_asenacted_k00_whole_days_by_counting) (n := 63) (k := 9) (x := "script") (CX := L2.CX0) rfl (by decide) (by kernel_rfl) ⟨rfl, by decide, by decide⟩ ?F (fun _ _ _ _ z => z)
    intro w mg fa h Y G hmg0
    obtain ⟨K, KX, c⟩ := Y
    have hmg : mg ("law" : PySem.Str) = some (.ref fa) := by
      have e : (HandSHeadRun.topDef (OpenLaw.row PySem.Challenge.rw_asenacted_k00_whole_days_by_counting).prog 38).name = ("law" : PySem.Str) := by kernel_rfl
      rw [← e]
      exact hmg0
    obtain ⟨fd, hb, hF⟩ := K00.facts (P := (PySem.Challenge.rw_asenacted_k00_whole_days_by_counting).prog) (w := w) KX G hmg c
    exact ⟨K, fd, K00.spLaw K, KX, hb, fun H a ns hl _ hS => ⟨a, ns, rfl, hS, hl, fun _ => rfl⟩, hF⟩
